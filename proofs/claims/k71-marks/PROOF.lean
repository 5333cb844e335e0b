import PyProof.Rows.All
import HandS.ForMost
import HandS.Walk
import HandS.TupAny
import HandS.Star
import HandS.Conv
import HandS.Zip
import HandS.Exc
import HandS.ExcOwn
import HandS.WordsExc
import HandS.Style
import HandS.Wide
import HandS.IsInst
import HandS.Text
import HandS.Dict
import HandS.Iter
import KE.GoesEnum
import KE.GoesMore
import HandS.SetFor
import HandS.Strs
import PyProof.ReprRoads
import HandS.Comp
import HandS.Small
import HandS.Lambda
import HandS.ExcIs
import HandS.EndOwn
import HandS.Head0
import HandS.Head1
import HandS.Head2
import HandS.HeadEnd
import HandS.HeadHook1
import HandS.HeadHook2
import HandS.HeadHook3
import HandS.HeadHook4
import PySem.Challenge.RW_leastswaps_k71_whole_marks
set_option Elab.async false
set_option linter.all false
set_option maxRecDepth 100000
set_option maxHeartbeats 0
section
/-! Fw1: plain data over the abstract heap; a state of slots that hold data; what an expression is worth. -/
namespace Fw
open PyProof.Rows PySem PySem.Spec L2

/-! ### data -/
def keyD : Key → PyData
  | .inl i => .int i
  | .inr x => .str x
mutual
inductive Dd (K : PySem.W.Frag) (H : Hp) : V → PyData → Prop
  | non : Dd K H .non .none
  | bl (b : Bool) : Dd K H (.bl b) (.bool b)
  | int (i : Int) : Dd K H (.int i) (.int i)
  | str (x : Str) : Dd K H (.str x) (.str x)
  | lst {a : Addr} {xs : List V} {ds : List PyData} : H a = some (.lst xs) → DdA K H xs ds → Dd K H (.ref a) (.list ds)
  | tup {a : Addr} {xs : List V} {ds : List PyData} : SqT K H a xs → DdA K H xs ds → Dd K H (.ref a) (.tuple ds)
  | dic {a : Addr} {kvs : List (Key × V)} {ks : List PyData} {ds : List PyData} {es : List (PyData × PyData)} : H a = some (.dK kvs) → kvs.map (fun p => keyD p.1) = ks → DdA K H (kvs.map (·.2)) ds → es = ks.zip ds → Dd K H (.ref a) (.dict es)
inductive DdA (K : PySem.W.Frag) (H : Hp) : List V → List PyData → Prop
  | nil : DdA K H [] []
  | cons {v : V} {vs : List V} {d : PyData} {ds : List PyData} : Dd K H v d → DdA K H vs ds → DdA K H (v :: vs) (d :: ds)
end
theorem same_t {K : PySem.W.Frag} {H H' : Hp} {a : Addr} {xs : List V} (e : Same H H') (h : SqT K H a xs) : SqT K H' a xs := by
  rcases h with (h | ⟨o, h⟩) | h
  · exact .inl (.inl (e _ _ h))
  · exact .inl (.inr ⟨o, e _ _ h⟩)
  · exact .inr h
mutual
theorem Dd.mono {K : PySem.W.Frag} {H H' : Hp} (e : Same H H') : ∀ {v : V} {d : PyData}, Dd K H v d → Dd K H' v d
  | _, _, .non => .non
  | _, _, .bl b => .bl b
  | _, _, .int i => .int i
  | _, _, .str x => .str x
  | _, _, .lst h a => .lst (e _ _ h) (DdA.mono e a)
  | _, _, .tup h a => .tup (same_t e h) (DdA.mono e a)
  | _, _, .dic h k a z => .dic (e _ _ h) k (DdA.mono e a) z
theorem DdA.mono {K : PySem.W.Frag} {H H' : Hp} (e : Same H H') : ∀ {vs : List V} {ds : List PyData}, DdA K H vs ds → DdA K H' vs ds
  | _, _, .nil => .nil
  | _, _, .cons h a => .cons (Dd.mono e h) (DdA.mono e a)
end
section
variable {K : PySem.W.Frag} {H H' : Hp}
theorem DdA.length : ∀ {vs : List V} {ds : List PyData}, DdA K H vs ds → vs.length = ds.length
  | _, _, .nil => rfl
  | _, _, .cons _ a => by simp [DdA.length a]
theorem DdA.get : ∀ {vs : List V} {ds : List PyData} {i : Nat} {v : V}, DdA K H vs ds → vs[i]? = some v → ∃ d, ds[i]? = some d ∧ Dd K H v d
  | _, _, _, _, .nil, e => by simp at e
  | _, _, 0, _, .cons h _, e => by simp at e; subst e; exact ⟨_, rfl, h⟩
  | _, _, i + 1, _, .cons _ a, e => by
    obtain ⟨d, h1, h2⟩ := DdA.get (i := i) a (by simpa using e)
    exact ⟨d, by simpa using h1, h2⟩
theorem DdA.get' : ∀ {vs : List V} {ds : List PyData} {i : Nat} {d : PyData}, DdA K H vs ds → ds[i]? = some d → ∃ v, vs[i]? = some v ∧ Dd K H v d
  | _, _, _, _, .nil, e => by simp at e
  | _, _, 0, _, .cons h _, e => by simp at e; subst e; exact ⟨_, rfl, h⟩
  | _, _, i + 1, _, .cons _ a, e => by
    obtain ⟨d, h1, h2⟩ := DdA.get' (i := i) a (by simpa using e)
    exact ⟨d, by simpa using h1, h2⟩
theorem DdA.append : ∀ {vs ws : List V} {ds es : List PyData}, DdA K H vs ds → DdA K H ws es → DdA K H (vs ++ ws) (ds ++ es)
  | _, _, _, _, .nil, b => b
  | _, _, _, _, .cons h a, b => .cons h (DdA.append a b)
theorem DdA.take : ∀ {vs : List V} {ds : List PyData} (n : Nat), DdA K H vs ds → DdA K H (vs.take n) (ds.take n)
  | _, _, 0, _ => .nil
  | _, _, _ + 1, .nil => .nil
  | _, _, n + 1, .cons h a => .cons h (DdA.take n a)
theorem DdA.drop : ∀ {vs : List V} {ds : List PyData} (n : Nat), DdA K H vs ds → DdA K H (vs.drop n) (ds.drop n)
  | _, _, 0, a => a
  | _, _, _ + 1, .nil => .nil
  | _, _, n + 1, .cons _ a => DdA.drop n a
theorem DdA.reverse : ∀ {vs : List V} {ds : List PyData}, DdA K H vs ds → DdA K H vs.reverse ds.reverse
  | _, _, .nil => .nil
  | _, _, .cons h a => by
    rw [List.reverse_cons, List.reverse_cons]
    exact (DdA.reverse a).append (.cons h .nil)
theorem DdA.set : ∀ {vs : List V} {ds : List PyData} {v : V} {d : PyData} (i : Nat), DdA K H vs ds → Dd K H v d → DdA K H (vs.set i v) (ds.set i d)
  | _, _, _, _, _, .nil, _ => .nil
  | _, _, _, _, 0, .cons _ a, h => .cons h a
  | _, _, _, _, i + 1, .cons h' a, h => .cons h' (DdA.set i a h)
theorem DdA.erase : ∀ {vs : List V} {ds : List PyData} (i : Nat), DdA K H vs ds → DdA K H (vs.eraseIdx i) (ds.eraseIdx i)
  | _, _, _, .nil => .nil
  | _, _, 0, .cons _ a => a
  | _, _, i + 1, .cons h a => .cons h (DdA.erase i a)
theorem DdA.rep {v : V} {d : PyData} (h : Dd K H v d) : ∀ n : Nat, DdA K H (List.replicate n v) (List.replicate n d)
  | 0 => .nil
  | n + 1 => .cons h (DdA.rep h n)
theorem DdA.ints : ∀ ns : List Int, DdA K H (ns.map V.int) (ns.map PyData.int)
  | [] => .nil
  | n :: r => .cons (.int n) (DdA.ints r)
/-- a list of ints, read back -/
theorem DdA.ofInts : ∀ {ns : List Int} {vs : List V}, DdA K H vs (ns.map PyData.int) → vs = ns.map V.int
  | [], _, h => by cases h; rfl
  | n :: r, _, h => by
    cases h with
    | cons h a => cases h; rw [DdA.ofInts a]; rfl
theorem DdA.ofStrs : ∀ {ns : List Str} {vs : List V}, DdA K H vs (ns.map PyData.str) → vs = ns.map V.str
  | [], _, h => by cases h; rfl
  | n :: r, _, h => by
    cases h with
    | cons h a => cases h; rw [DdA.ofStrs a]; rfl
theorem DdA.ofBools : ∀ {ns : List Bool} {vs : List V}, DdA K H vs (ns.map PyData.bool) → vs = ns.map V.bl
  | [], _, h => by cases h; rfl
  | n :: r, _, h => by
    cases h with
    | cons h a => cases h; rw [DdA.ofBools a]; rfl
end

/-! ### a masked heap -/
open Classical in
noncomputable def msk (M : Addr → Prop) (H : Hp) : Hp := fun a => if M a then none else H a
theorem mk_of {M : Addr → Prop} {H : Hp} {a : Addr} {o : HO} (n : ¬ M a) (h : H a = some o) : msk M H a = some o := by
  unfold msk; rw [if_neg n]; exact h
theorem mk_out {M : Addr → Prop} {H : Hp} {a : Addr} {o : HO} (h : msk M H a = some o) : ¬ M a ∧ H a = some o := by
  unfold msk at h
  split at h
  · cases h
  · exact ⟨by assumption, h⟩
theorem mk_same (M : Addr → Prop) (H : Hp) : Same (msk M H) H := fun a o h => (mk_out h).2
theorem mk_weak {M N : Addr → Prop} (H : Hp) (h : ∀ a, N a → M a) : Same (msk M H) (msk N H) := fun a o e => mk_of (fun z => (mk_out e).1 (h a z)) (mk_out e).2
def ExG (G : List Addr) (H H' : Hp) : Prop := ∀ a o, a ∉ G → H a = some o → H' a = some o
theorem ExG.refl (G : List Addr) (H : Hp) : ExG G H H := fun _ _ _ h => h
theorem ExG.trans {G : List Addr} {H H1 H2 : Hp} (a : ExG G H H1) (b : ExG G H1 H2) : ExG G H H2 := fun x o n h => b x o n (a x o n h)
theorem ExG.of {G : List Addr} {H H' : Hp} (e : Same H H') : ExG G H H' := fun a o _ h => e a o h
theorem ExG.nil {H H' : Hp} (e : ExG [] H H') : Same H H' := fun a o h => e a o (by simp) h
theorem ExG.msk {G : List Addr} {H H' : Hp} {M : Addr → Prop} (gm : ∀ a ∈ G, M a) (e : ExG G H H') : Same (msk M H) (msk M H') := fun a o h =>
  mk_of (mk_out h).1 (e a o (fun z => (mk_out h).1 (gm a z)) (mk_out h).2)
theorem same_new {H : Hp} {p : Addr} {o : HO} (h : H p = none) : Same H (upd H p o) := fun b x e => by
  rw [upd_ne (ne_of_none e h)]
  exact e

/-! ### a state -/
structure Pm where
  K : PySem.W.Frag
  G : List Addr
  I : Hp → Prop
  st : ∀ H H', (∀ a o, a ∈ G → H a = some o → H' a = some o) → I H → I H'
  live : ∀ H a, I H → a ∈ G → H a ≠ none
/-- nothing changes -/
abbrev Pm.pure (K : PySem.W.Frag) : Pm := ⟨K, [], fun _ => True, fun _ _ _ _ => trivial, fun _ _ _ h => by simp at h⟩
inductive Ent where
  | un
  | d (x : PyData)
  | raw (v : V)
  | own (a : Addr) (ds : List PyData)
  | owk (a : Addr) (kvs : List (Key × PyData))
def Ent.addr : Ent → Option Addr
  | .own a _ => some a
  | .owk a _ => some a
  | _ => none
def owned (env : List Ent) : List Addr := env.filterMap Ent.addr
def Mo (M : Addr → Prop) (env : List Ent) : Addr → Prop := fun a => M a ∨ a ∈ owned env
def EntOk (K : PySem.W.Frag) (M : Addr → Prop) (Hm H0 H : Hp) : Option V → Ent → Prop
  | _, .un => True
  | some v, .d x => Dd K Hm v x
  | some v, .raw w => v = w
  | some v, .own a ds => v = .ref a ∧ H0 a = none ∧ ¬ M a ∧ ∃ vs, H a = some (.lst vs) ∧ DdA K Hm vs ds
  | some v, .owk a ks => v = .ref a ∧ H0 a = none ∧ ¬ M a ∧ ∃ kvs, H a = some (.dK kvs) ∧ kvs.map (·.1) = ks.map (·.1) ∧ DdA K Hm (kvs.map (·.2)) (ks.map (·.2))
  | none, _ => False
structure Stt (P : Pm) (M : Addr → Prop) (ks : List (V × PyData)) (H0 H : Hp) (σ : L2.St) (env : List Ent) : Prop where
  ex : ExG P.G H0 H
  inv : P.I H
  gm : ∀ a ∈ P.G, M a
  ml : ∀ a, M a → H a ≠ none
  len : σ.length = env.length
  ok : ∀ (i : Nat) v e, σ[i]? = some v → env[i]? = some e → EntOk P.K M (msk (Mo M env) H) H0 H v e
  kp : ∀ p ∈ ks, Dd P.K (msk (Mo M env) H) p.1 p.2
  nd : ∀ (i j : Nat) e f a, env[i]? = some e → env[j]? = some f → e.addr = some a → f.addr = some a → i = j
section
variable {P : Pm} {M : Addr → Prop} {ks : List (V × PyData)} {H0 H H' : Hp} {σ : L2.St} {env : List Ent}
theorem EntOk.mono {K : PySem.W.Frag} {Hm Hm' : Hp} (e : Same Hm Hm') (k : ∀ a, ¬ M a → ∀ o, H a = some o → H' a = some o) : ∀ {v : Option V} {x : Ent}, EntOk K M Hm H0 H v x → EntOk K M Hm' H0 H' v x
  | none, .un, _ => trivial
  | some _, .un, _ => trivial
  | some _, .d _, h => Dd.mono e h
  | some _, .raw _, h => h
  | some _, .own _ _, h => by
    obtain ⟨a, b, c, vs, d, f⟩ := h
    exact ⟨a, b, c, vs, k _ c _ d, f.mono e⟩
  | some _, .owk _ _, h => by
    obtain ⟨a, b, c, vs, d, g, f⟩ := h
    exact ⟨a, b, c, vs, k _ c _ d, g, f.mono e⟩
  | none, .d _, h => h.elim
  | none, .raw _, h => h.elim
  | none, .own _ _, h => h.elim
  | none, .owk _ _, h => h.elim
theorem Stt.gmo (S : Stt P M ks H0 H σ env) : ∀ a ∈ P.G, Mo M env a := fun a h => .inl (S.gm a h)
theorem Stt.step (S : Stt P M ks H0 H σ env) (e : ExG P.G H H') (i : P.I H') : Stt P M ks H0 H' σ env where
  ex := S.ex.trans e
  inv := i
  gm := S.gm
  ml := fun a h z => by
    by_cases g : a ∈ P.G
    · exact P.live _ _ i g z
    · cases q : H a with
      | none => exact S.ml a h q
      | some o => rw [e a o g q] at z; cases z
  len := S.len
  ok := fun i v x h1 h2 => (S.ok i v x h1 h2).mono (e.msk S.gmo) fun a n o h => e a o (fun g => n (S.gm a g)) h
  kp := fun p h => (S.kp p h).mono (e.msk S.gmo)
  nd := S.nd
theorem Stt.same (S : Stt P M ks H0 H σ env) (e : Same H H') : Stt P M ks H0 H' σ env := S.step (.of e) (P.st _ _ (fun a o _ h => e a o h) S.inv)
theorem Stt.keep (S : Stt P M ks H0 H σ env) {v : V} {x : PyData} (h : Dd P.K (msk (Mo M env) H) v x) : Stt P M ((v, x) :: ks) H0 H σ env :=
  ⟨S.ex, S.inv, S.gm, S.ml, S.len, S.ok, fun p q => (List.mem_cons.mp q).elim (fun e => by subst e; exact h) (fun q => S.kp p q), S.nd⟩
theorem Stt.drop {k : V × PyData} (S : Stt P M (k :: ks) H0 H σ env) : Stt P M ks H0 H σ env := ⟨S.ex, S.inv, S.gm, S.ml, S.len, S.ok, fun p q => S.kp p (List.mem_cons_of_mem _ q), S.nd⟩
theorem Stt.held {k : V × PyData} (S : Stt P M (k :: ks) H0 H σ env) : Dd P.K (msk (Mo M env) H) k.1 k.2 := S.kp k List.mem_cons_self
theorem Stt.fresh0 (S : Stt P M ks H0 H σ env) {p : Addr} (h : H p = none) : H0 p = none ∧ ¬ M p ∧ p ∉ P.G ∧ p ∉ owned env := by
  have g : p ∉ P.G := fun g => P.live _ _ S.inv g h
  refine ⟨?_, fun z => S.ml p z h, g, fun z => ?_⟩
  · cases q : H0 p with
    | none => rfl
    | some o => rw [S.ex p o g q] at h; cases h
  · obtain ⟨e, he, ea⟩ := List.mem_filterMap.mp z
    obtain ⟨i, hi, ei⟩ := List.mem_iff_getElem.mp he
    have h2 : env[i]? = some e := by rw [List.getElem?_eq_getElem hi, ei]
    have hs : i < σ.length := by rw [S.len]; exact hi
    have ok := S.ok i σ[i] e (List.getElem?_eq_getElem hs) h2
    cases hv : σ[i] with
    | none => rw [hv] at ok; cases e <;> first | exact ok | cases ea
    | some v =>
      rw [hv] at ok
      cases e with
      | un => cases ea
      | d x => cases ea
      | raw w => cases ea
      | own a ds =>
        obtain ⟨_, _, _, vs, q, _⟩ := ok
        cases ea
        rw [h] at q; cases q
      | owk a ds =>
        obtain ⟨_, _, _, vs, q, _⟩ := ok
        cases ea
        rw [h] at q; cases q
end
def mskb (M : Addr → Prop) (env : List Ent) : Bool → Addr → Prop
  | true => M
  | false => Mo M env
theorem mskb_le {M : Addr → Prop} {env : List Ent} (b : Bool) : ∀ a, mskb M env b a → Mo M env a := fun a h => by
  cases b with
  | true => exact .inl h
  | false => exact h
theorem mskb_ge {M : Addr → Prop} {env : List Ent} (b : Bool) : ∀ a, M a → mskb M env b a := fun a h => by
  cases b with
  | true => exact h
  | false => exact .inl h

/-! ### what expressions, tests, arguments are worth -/
def EEv (P : Pm) (b : Bool) (te : TE) (env : List Ent) (Φ : PyData → Prop) : Prop := ∀ M ks H0 H σ, Stt P M ks H0 H σ env → ∀ Q : VK,
  (∀ v x H', Φ x → ExG P.G H H' → P.I H' → Dd P.K (msk (mskb M env b) H') v x → Q v H') → te σ H Q
def TEv (P : Pm) (tt : TT) (env : List Ent) (Φ : Bool → Prop) : Prop := ∀ M ks H0 H σ, Stt P M ks H0 H σ env → ∀ Q : Bool → Hp → Prop,
  (∀ c H', Φ c → ExG P.G H H' → P.I H' → Q c H') → tt σ H Q
inductive ArgOk (K : PySem.W.Frag) (H : Hp) : V → Ent → Prop
  | d {v : V} {x : PyData} : Dd K H v x → ArgOk K H v (.d x)
  | raw (v : V) : ArgOk K H v (.raw v)
abbrev ArgsOk (K : PySem.W.Frag) (H : Hp) : List V → List Ent → Prop := Paired (ArgOk K H)
theorem ArgsOk.mono {K : PySem.W.Frag} {H H' : Hp} (e : Same H H') : ∀ {vs : List V} {as : List Ent}, ArgsOk K H vs as → ArgsOk K H' vs as
  | _, _, .nil => .nil
  | _, _, .cons (.d h) t => .cons (.d (h.mono e)) (ArgsOk.mono e t)
  | _, _, .cons (.raw v) t => .cons (.raw v) (ArgsOk.mono e t)
def AEv (P : Pm) (b : Bool) (ta : TA) (env : List Ent) (Φ : List Ent → Prop) : Prop := ∀ M ks H0 H σ, Stt P M ks H0 H σ env → ∀ Q : List V → Hp → Prop,
  (∀ vs as H', Φ as → ExG P.G H H' → P.I H' → ArgsOk P.K (msk (mskb M env b) H') vs as → Q vs H') → ta σ H Q
abbrev EEd (P : Pm) (b : Bool) (te : TE) (env : List Ent) (x : PyData) : Prop := EEv P b te env fun y => y = x
abbrev TEd (P : Pm) (tt : TT) (env : List Ent) (c : Bool) : Prop := TEv P tt env fun y => y = c
abbrev AEd (P : Pm) (b : Bool) (ta : TA) (env : List Ent) (as : List Ent) : Prop := AEv P b ta env fun y => y = as
/-- a new list -/
def LEv (P : Pm) (te : TE) (env : List Ent) (Φ : List PyData → Prop) : Prop := ∀ M ks H0 H σ, Stt P M ks H0 H σ env → ∀ Q : VK,
  (∀ p vs xs H', Φ xs → H p = none → ExG P.G H H' → P.I H' → H' p = some (.lst vs) → DdA P.K (msk (fun a => Mo M env a ∨ a = p) H') vs xs → Q (.ref p) H') → te σ H Q
end Fw
end

section
/-! Fw2: what expressions are worth, rule by rule. -/
namespace Fw
open PyProof.Rows PySem PySem.Spec L2

def scalD : PyData → Bool
  | .none => true
  | .bool _ => true
  | .int _ => true
  | .str _ => true
  | _ => false
section
variable {P : Pm} {env : List Ent} {b b1 b2 : Bool} {ta tb te tc : TE} {t u : TT} {x y z : PyData} {Φ Ψ : PyData → Prop} {K : PySem.W.Frag} {H H' : Hp} {M : Addr → Prop} {ks : List (V × PyData)} {H0 : Hp} {σ : L2.St}
theorem Stt.mlo (S : Stt P M ks H0 H σ env) : ∀ a, Mo M env a → H a ≠ none := fun a h z => by
  rcases h with h | h
  · exact S.ml a h z
  · exact (S.fresh0 z).2.2.2 h
theorem Stt.mlb (S : Stt P M ks H0 H σ env) (b : Bool) : ∀ a, mskb M env b a → H a ≠ none := fun a h => S.mlo a (mskb_le b a h)
theorem Stt.gmb (S : Stt P M ks H0 H σ env) (b : Bool) : ∀ a ∈ P.G, mskb M env b a := fun a h => mskb_ge b a (S.gm a h)
theorem Stt.is (S : Stt P M ks H0 H σ env) (e : Same H H') : P.I H' := P.st _ _ (fun a o _ h => e a o h) S.inv
theorem Dd.scal (h : Dd K H z' x) (hs : scalD x = true) : Dd K H' z' x := by
  cases h with
  | non => exact .non
  | bl b => exact .bl b
  | int i => exact .int i
  | str x => exact .str x
  | lst _ _ => cases hs
  | tup _ _ => cases hs
  | dic _ _ _ _ => cases hs
theorem EEv.weak (h : EEv P b te env Φ) : EEv P true te env Φ := fun M ks H0 H σ S Q q => h M ks H0 H σ S Q fun v x H' a c i d => q v x H' a c i (d.mono (msk_weak' b))
where msk_weak' {M : Addr → Prop} {H : Hp} (b : Bool) : Same (msk (mskb M env b) H) (msk (mskb M env true) H) := mk_weak H fun a h => mskb_ge b a h
theorem EEv.imp (h : EEv P b te env Φ) (f : ∀ x, Φ x → Ψ x) : EEv P b te env Ψ := fun M ks H0 H σ S Q q => h M ks H0 H σ S Q fun v x H' a c i d => q v x H' (f x a) c i d
theorem EEv.scal (h : EEv P b1 te env Φ) (f : ∀ x, Φ x → scalD x = true) : EEv P b te env Φ := fun M ks H0 H σ S Q q => h M ks H0 H σ S Q fun v x H' a c i d => q v x H' a c i (d.scal (f x a))
theorem EEv.is (h : EEd P b te env x) (e : x = y) : EEd P b te env y := by rw [← e]; exact h
theorem TEv.imp {A B : Bool → Prop} (h : TEv P t env A) (f : ∀ x, A x → B x) : TEv P t env B := fun M ks H0 H σ S Q q => h M ks H0 H σ S Q fun c H' a e i => q c H' (f c a) e i
theorem TEv.is {c d : Bool} (h : TEd P t env c) (e : c = d) : TEd P t env d := by rw [← e]; exact h
/-! ### names, constants -/
theorem ee_var {i : Nat} (h : env[i]? = some (.d x)) : EEd P false (tVar i) env x := fun M ks H0 H σ S Q q => by
  have hi : i < σ.length := by rw [S.len]; exact (List.getElem?_eq_some_iff.mp h).1
  have ok := S.ok i σ[i] _ (List.getElem?_eq_getElem hi) h
  cases e : σ[i] with
  | none => rw [e] at ok; exact ok.elim
  | some v => rw [e] at ok; exact ⟨v, by rw [List.getElem?_eq_getElem hi, e], q v x H rfl (.refl _ _) S.inv ok⟩
theorem ee_own {i : Nat} {a : Addr} {ds : List PyData} (h : env[i]? = some (.own a ds)) : EEd P true (tVar i) env (.list ds) := fun M ks H0 H σ S Q q => by
  have hi : i < σ.length := by rw [S.len]; exact (List.getElem?_eq_some_iff.mp h).1
  have ok := S.ok i σ[i] _ (List.getElem?_eq_getElem hi) h
  cases e : σ[i] with
  | none => rw [e] at ok; exact ok.elim
  | some v =>
    rw [e] at ok
    obtain ⟨rfl, _, n, vs, g, d⟩ := ok
    exact ⟨_, by rw [List.getElem?_eq_getElem hi, e], q _ _ H rfl (.refl _ _) S.inv (.lst (mk_of n g) (d.mono (mk_weak H fun a h => .inl h)))⟩
theorem ee_c {v : V} (h : Dd K (fun _ => none) v x) (hs : scalD x = true := by rfl) : EEd P b (tC v) env x := fun M ks H0 H σ S Q q => q v x H rfl (.refl _ _) S.inv (by
  cases h with
  | non => exact .non
  | bl b => exact .bl b
  | int i => exact .int i
  | str x => exact .str x
  | lst _ _ => cases hs
  | tup _ _ => cases hs
  | dic _ _ _ _ => cases hs)
theorem ee_int {i : Int} : EEd P false (tC (.int i)) env (.int i) := ee_c (K := P.K) (.int i)
theorem ee_str {i : Str} : EEd P false (tC (.str i)) env (.str i) := ee_c (K := P.K) (.str i)
theorem ee_bl {i : Bool} : EEd P false (tC (.bl i)) env (.bool i) := ee_c (K := P.K) (.bl i)
theorem ee_non : EEd P false (tC .non) env .none := ee_c (K := P.K) .non
/-- a constant tuple of the module -/
theorem ee_glob {a : Addr} {xs : List V} {ds : List PyData} (h : SqT P.K (fun _ => none) a xs) (hd : DdA P.K (fun _ => none) xs ds) : EEd P b (tC (.ref a)) env (.tuple ds) := fun M ks H0 H σ S Q q =>
  q _ _ H rfl (.refl _ _) S.inv (.tup (same_t (fun _ _ h => by cases h) h) (hd.mono fun _ _ h => by cases h))
/-! ### operators -/
/-- what an operator does by data -/
def RV (K : PySem.W.Frag) (r : R2) (x y z : PyData) : Prop := ∀ (m : Addr → Prop) (H : Hp) (v w : V), (∀ a, m a → H a ≠ none) → Dd K (msk m H) v x → Dd K (msk m H) w y → ∀ Q : VK, (∀ u H', Same H H' → Dd K (msk m H') u z → Q u H') → r v w H Q
theorem ee_opG {r : R2} {Φ1 Φ2 Φ3 : PyData → Prop} (ha : EEv P b ta env Φ1) (hb : EEv P b tb env Φ2) (hr : ∀ x y, Φ1 x → Φ2 y → ∃ z, Φ3 z ∧ RV P.K r x y z) : EEv P b (tOp r ta tb) env Φ3 := fun M ks H0 H σ S Q q =>
  ha M ks H0 H σ S _ fun v x H1 hx e1 i1 d1 => by
    have S1 := S.step e1 i1
    refine hb M ks H0 H1 σ S1 _ fun w y H2 hy e2 i2 d2 => ?_
    have S2 := S1.step e2 i2
    obtain ⟨z, hz, hrv⟩ := hr x y hx hy
    exact hrv (mskb M env b) H2 v w (S2.mlb b) (d1.mono (e2.msk (S.gmb b))) d2 Q fun u H' sm dz => q u z H' hz ((e1.trans e2).trans (.of sm)) (S2.is sm) dz
theorem ee_op {r : R2} (ha : EEd P false ta env x) (hb : EEd P false tb env y) (hr : RV P.K r x y z) : EEd P false (tOp r ta tb) env z := ee_opG ha hb fun _ _ e1 e2 => ⟨z, rfl, by rw [e1, e2]; exact hr⟩
theorem ee_ops {r : R2} (ha : EEd P b1 ta env x) (hb : EEd P b2 tb env y) (hr : RV P.K r x y z) (hs : scalD z = true := by rfl) : EEd P false (tOp r ta tb) env z :=
  EEv.scal (b1 := true) (ee_opG (EEv.weak ha) (EEv.weak hb) fun _ _ e1 e2 => ⟨z, rfl, by rw [e1, e2]; exact hr⟩) fun _ e => by rw [e]; exact hs
theorem rv_I0 {g : Int → Int → V} {i j : Int} (h : Dd K (fun _ => none) (g i j) z) : RV K (rI0 g) (.int i) (.int j) z := fun m H v w _ hv hw Q q => by
  cases hv; cases hw
  exact ⟨i, j, rfl, rfl, q _ H (Same.refl H) (h.mono fun _ _ h => by cases h)⟩
theorem rv_I {C : Int → Int → Prop} {g : Int → Int → V} {i j : Int} (hc : C i j) (h : Dd K (fun _ => none) (g i j) z) : RV K (rI C g) (.int i) (.int j) z := fun m H v w _ hv hw Q q => by
  cases hv; cases hw
  exact ⟨i, j, rfl, rfl, hc, q _ H (Same.refl H) (h.mono fun _ _ h => by cases h)⟩
theorem RV.inl {r r' : R2} (h : RV K r x y z) : RV K (fun x y H Q => r x y H Q ∨ r' x y H Q) x y z := fun m H v w a hv hw Q q => .inl (h m H v w a hv hw Q q)
theorem RV.inr {r r' : R2} (h : RV K r' x y z) : RV K (fun x y H Q => r x y H Q ∨ r' x y H Q) x y z := fun m H v w a hv hw Q q => .inr (h m H v w a hv hw Q q)
/-- + of ints, texts, lists, tuples -/
abbrev rAddD (K : PySem.W.Frag) : R2 := fun x y H Q => rI0 (fun i j => .int (i + j)) x y H Q ∨ (fun x y H Q => (fun x y H Q => ∃ i j, x = V.str i ∧ y = V.str j ∧ i.length + j.length ≤ sizeLine ∧ Q (.str (i ++ j)) H) x y H Q ∨ (fun x y H Q => rCat x y H Q ∨ rCatA K x y H Q) x y H Q) x y H Q
theorem op_addD {X : Cx} : OpR X (binaryOp .Add) (rAddD X.K) := OpR.or op_add (OpR.or op_add_str (OpR.or op_cat op_catA))
theorem rv_addI {i j : Int} : RV K (rAddD K) (.int i) (.int j) (.int (i + j)) := RV.inl (rv_I0 (.int _))
theorem rv_addS {i j : Str} (h : i.length + j.length ≤ sizeLine) : RV K (rAddD K) (.str i) (.str j) (.str (i ++ j)) := RV.inr (RV.inl fun m H v w _ hv hw Q q => by
  cases hv; cases hw
  exact ⟨i, j, rfl, rfl, h, q _ H (Same.refl H) (.str _)⟩)
theorem live_ne {m : Addr → Prop} {p : Addr} (hl : ∀ a, m a → H a ≠ none) (hp : H p = none) : ¬ m p := fun z => hl p z hp
theorem same_msk {m : Addr → Prop} (e : Same H H') : Same (msk m H) (msk m H') := fun a o h => mk_of (mk_out h).1 (e a o (mk_out h).2)
theorem Dd.newL {m : Addr → Prop} {p : Addr} {vs : List V} {ds : List PyData} (hl : ∀ a, m a → H a ≠ none) (hp : H p = none) (h : DdA K (msk m H) vs ds) : Dd K (msk m (upd H p (.lst vs))) (.ref p) (.list ds) :=
  .lst (mk_of (live_ne hl hp) upd_same) (h.mono (same_msk (same_new hp)))
theorem Dd.newT {m : Addr → Prop} {p : Addr} {vs : List V} {ds : List PyData} (hl : ∀ a, m a → H a ≠ none) (hp : H p = none) (h : DdA K (msk m H) vs ds) : Dd K (msk m (upd H p (.tup vs))) (.ref p) (.tuple ds) :=
  .tup (.inl (.inl (mk_of (live_ne hl hp) upd_same))) (h.mono (same_msk (same_new hp)))
theorem rv_addL {ds es : List PyData} (h : ds.length + es.length ≤ sizeLine) : RV K (rAddD K) (.list ds) (.list es) (.list (ds ++ es)) := RV.inr (RV.inr (RV.inl fun m H v w hl hv hw Q q => by
  cases hv with
  | lst g1 a1 =>
    cases hw with
    | lst g2 a2 =>
      refine ⟨_, _, _, _, rfl, rfl, (mk_out g1).2, (mk_out g2).2, by rw [a1.length, a2.length]; exact h, fun p hp => q _ _ (same_new hp) (.newL hl hp (a1.append a2))⟩))
theorem rv_addT {ds es : List PyData} (h : ds.length + es.length ≤ sizeLine) : RV K (rAddD K) (.tuple ds) (.tuple es) (.tuple (ds ++ es)) := RV.inr (RV.inr (RV.inr fun m H v w hl hv hw Q q => by
  cases hv with
  | tup g1 a1 =>
    cases hw with
    | tup g2 a2 =>
      refine ⟨_, _, _, _, rfl, rfl, same_t (mk_same _ _) g1, same_t (mk_same _ _) g2, by rw [a1.length, a2.length]; exact h, fun e => ?_, fun n e => ?_, fun n1 n2 p hp => ?_⟩
      · subst e; cases a1; exact q _ H (Same.refl H) (.tup g2 a2)
      · subst e; cases a2; exact q _ H (Same.refl H) (by rw [List.append_nil]; exact .tup g1 a1)
      · exact q _ _ (same_new hp) (.newT hl hp (a1.append a2))))
mutual
def noDict : PyData → Bool
  | .dict _ => false
  | .list xs => noDictA xs
  | .tuple xs => noDictA xs
  | _ => true
def noDictA : List PyData → Bool
  | [] => true
  | x :: xs => noDict x && noDictA xs
end
mutual
theorem canLay_noDict : ∀ d : PyData, d.canLay0 = true → noDict d = true
  | .none, _ => rfl
  | .bool _, _ => rfl
  | .int _, _ => rfl
  | .str _, _ => rfl
  | .list xs, h => by
    have h' : PyData.canLayAll0 xs = true := by simpa [PyData.canLay0] using h
    simpa [noDict] using canLay_noDictA xs h'
  | .tuple xs, h => by
    have h' : PyData.canLayAll0 xs = true := by simpa [PyData.canLay0] using h
    simpa [noDict] using canLay_noDictA xs h'
  | .dict _, h => by simp [PyData.canLay0] at h
theorem canLay_noDictA : ∀ ds : List PyData, PyData.canLayAll0 ds = true → noDictA ds = true
  | [], _ => rfl
  | x :: xs, h => by
    have h' : x.canLay0 = true ∧ PyData.canLayAll0 xs = true := by simpa [PyData.canLayAll0] using h
    simp [noDictA, canLay_noDict x h'.1, canLay_noDictA xs h'.2]
end
mutual
theorem Dd.toDp : ∀ {v : V} {d : PyData}, Dd K H v d → noDict d = true → Dp K H v d
  | _, _, .non, _ => .non
  | _, _, .bl b, _ => .bl b
  | _, _, .int i, _ => .int i
  | _, _, .str x, _ => .str x
  | _, _, .lst h a, n => .lst (SqL.of h) (DdA.toDp a (by simpa [noDict] using n))
  | _, _, .tup h a, n => .tup h (DdA.toDp a (by simpa [noDict] using n))
  | _, _, .dic _ _ _ _, n => by simp [noDict] at n
theorem DdA.toDp : ∀ {vs : List V} {ds : List PyData}, DdA K H vs ds → noDictA ds = true → DpAll K H vs ds
  | _, _, .nil, _ => .nil
  | _, _, .cons h a, n =>
    .cons (Dd.toDp h (by simp [noDictA] at n; exact n.1)) (DdA.toDp a (by simp [noDictA] at n; exact n.2))
end
theorem shaped_noDict {d : PyData} (h : SeqAt.shaped d = true) : noDict d = true := canLay_noDict d (SeqAt.canLay_of_shaped h)
theorem rv_eq (h1 : SeqAt.shaped x = true) (h2 : SeqAt.shaped y = true) : RV K (rEqD K) x y (.bool (PyData.eqv x y)) := fun m H v w hl hv hw Q q =>
  ⟨x, y, (hv.mono (mk_same _ _)).toDp (shaped_noDict h1), (hw.mono (mk_same _ _)).toDp (shaped_noDict h2), h1, h2, q _ H (Same.refl H) (.bl _)⟩
theorem rv_ne (h1 : SeqAt.shaped x = true) (h2 : SeqAt.shaped y = true) : RV K (rNeD K) x y (.bool (!PyData.eqv x y)) := fun m H v w hl hv hw Q q =>
  ⟨x, y, (hv.mono (mk_same _ _)).toDp (shaped_noDict h1), (hw.mono (mk_same _ _)).toDp (shaped_noDict h2), h1, h2, q _ H (Same.refl H) (.bl _)⟩
/-- is None, is not None -/
theorem rv_isN : RV K (fun x y H Q => y = V.non ∧ Q (.bl (decide (x = .non))) H) x .none (.bool (match x with | .none => true | _ => false)) := fun m H v w hl hv hw Q q => by
  cases hw
  refine ⟨rfl, q _ H (Same.refl H) ?_⟩
  cases hv <;> exact .bl _
theorem rv_notN : RV K (fun x y H Q => y = V.non ∧ Q (.bl (!decide (x = .non))) H) x .none (.bool (!(match x with | .none => true | _ => false))) := fun m H v w hl hv hw Q q => by
  cases hw
  refine ⟨rfl, q _ H (Same.refl H) ?_⟩
  cases hv <;> exact .bl _
/-! ### subscripts -/
theorem atI_map {α β : Type} {xs : List α} {ys : List β} {i : Int} {v : α} (hl : xs.length = ys.length) (h : atI xs i = some v) : ∃ j : Nat, ys.length = xs.length ∧ xs[j]? = some v ∧ atI ys i = ys[j]? := by
  unfold atI at h ⊢
  rw [← hl]
  cases e : ixN xs.length i with
  | none => rw [e] at h; cases h
  | some j => rw [e] at h; exact ⟨j, rfl, h, rfl⟩
theorem DdA.at {vs : List V} {ds : List PyData} {i : Int} {d : PyData} (h : DdA K H vs ds) (e : atI ds i = some d) : ∃ v, atI vs i = some v ∧ Dd K H v d := by
  obtain ⟨j, hl, hj, ha⟩ := atI_map h.length.symm e
  obtain ⟨v, hv, hd⟩ := h.get' hj
  exact ⟨v, by rw [ha]; exact hv, hd⟩
theorem rv_ixL {ds : List PyData} {i : Int} (h : atI ds i = some z) : RV K (rIx K) (.list ds) (.int i) z := fun m H v w hl hv hw Q q => by
  cases hw
  cases hv with
  | lst g a =>
    obtain ⟨u, hu, hd⟩ := a.at h
    exact .inl ⟨_, _, i, u, rfl, rfl, SqL.of (mk_out g).2, hu, q u H (Same.refl H) hd⟩
theorem rv_ixT {ds : List PyData} {i : Int} (h : atI ds i = some z) : RV K (rIx K) (.tuple ds) (.int i) z := fun m H v w hl hv hw Q q => by
  cases hw
  cases hv with
  | tup g a =>
    obtain ⟨u, hu, hd⟩ := a.at h
    exact .inr (.inl ⟨_, _, i, u, rfl, rfl, same_t (mk_same _ _) g, hu, q u H (Same.refl H) hd⟩)
theorem rv_ixS {s : Str} {i : Int} {c : Nat} (hs : s.length ≤ sizeLine) (h : atI s.cps.toList i = some c) : RV K (rIx K) (.str s) (.int i) (.str ⟨#[c]⟩) := fun m H v w hl hv hw Q q => by
  cases hw; cases hv
  exact .inr (.inr ⟨s, i, c, rfl, rfl, hs, h, q _ H (Same.refl H) (.str _)⟩)
/-! ### one-place operators -/
theorem ee_un {i : Int} {g : Int → V} (ha : EEd P b1 ta env (.int i)) (h : Dd P.K (fun _ => none) (g i) z) (hs : scalD z = true := by rfl) : EEd P false (tUn (rU g) ta) env z := fun M ks H0 H σ S Q q =>
  ha M ks H0 H σ S _ fun v x H1 hx e1 i1 d1 => by
    subst hx
    cases d1
    exact ⟨i, rfl, q _ _ H1 rfl e1 i1 (h.scal hs)⟩
/-! ### truth -/
theorem ee_notV {c : Bool} (h : EEd P b1 ta env (.bool c)) : EEd P false (tNotV ta) env (.bool (!c)) := fun M ks H0 H σ S Q q =>
  h M ks H0 H σ S _ fun v x H1 hx e1 i1 d1 => by
    subst hx; cases d1
    exact ⟨c, rfl, q _ _ H1 rfl e1 i1 (.bl _)⟩
theorem ee_andV {c d : Bool} (h1 : EEd P b1 ta env (.bool c)) (h2 : c = true → EEd P b2 tb env (.bool d)) : EEd P false (tAndV ta tb) env (.bool (c && d)) := fun M ks H0 H σ S Q q =>
  h1 M ks H0 H σ S _ fun v x H1 hx e1 i1 d1 => by
    subst hx; cases d1
    refine ⟨c, rfl, ?_⟩
    cases c with
    | false => exact q _ _ H1 rfl e1 i1 (.bl _)
    | true =>
      show tb σ H1 Q
      refine h2 rfl M ks H0 H1 σ (S.step e1 i1) _ fun w y H2 hy e2 i2 d2 => ?_
      subst hy; cases d2
      exact q _ _ H2 rfl (e1.trans e2) i2 (.bl _)
theorem ee_orV {c d : Bool} (h1 : EEd P b1 ta env (.bool c)) (h2 : c = false → EEd P b2 tb env (.bool d)) : EEd P false (tOrV ta tb) env (.bool (c || d)) := fun M ks H0 H σ S Q q =>
  h1 M ks H0 H σ S _ fun v x H1 hx e1 i1 d1 => by
    subst hx; cases d1
    refine ⟨c, rfl, ?_⟩
    cases c with
    | true => exact q _ _ H1 rfl e1 i1 (.bl _)
    | false =>
      show tb σ H1 Q
      refine h2 rfl M ks H0 H1 σ (S.step e1 i1) _ fun w y H2 hy e2 i2 d2 => ?_
      subst hy; cases d2
      exact q _ _ H2 rfl (e1.trans e2) i2 (.bl _)
theorem te_B {c : Bool} (h : EEd P b te env (.bool c)) : TEd P (tB te) env c := fun M ks H0 H σ S Q q =>
  h M ks H0 H σ S _ fun v x H1 hx e1 i1 d1 => by
    subst hx; cases d1
    exact ⟨c, rfl, q c H1 rfl e1 i1⟩
theorem te_test {c : Bool} (h : EEd P b te env (.bool c)) : TEd P (tTest te) env c := te_B h
theorem te_and {c d : Bool} (h1 : TEd P t env c) (h2 : c = true → TEd P u env d) : TEd P (tAnd t u) env (c && d) := fun M ks H0 H σ S Q q =>
  h1 M ks H0 H σ S _ fun k H1 hk e1 i1 => by
    subst hk
    cases k with
    | false => exact q _ H1 rfl e1 i1
    | true => exact h2 rfl M ks H0 H1 σ (S.step e1 i1) _ fun k2 H2 hk2 e2 i2 => q k2 H2 hk2 (e1.trans e2) i2
theorem te_or {c d : Bool} (h1 : TEd P t env c) (h2 : c = false → TEd P u env d) : TEd P (tOr t u) env (c || d) := fun M ks H0 H σ S Q q =>
  h1 M ks H0 H σ S _ fun k H1 hk e1 i1 => by
    subst hk
    cases k with
    | true => exact q _ H1 rfl e1 i1
    | false => exact h2 rfl M ks H0 H1 σ (S.step e1 i1) _ fun k2 H2 hk2 e2 i2 => q k2 H2 hk2 (e1.trans e2) i2
theorem te_not {c : Bool} (h1 : TEd P t env c) : TEd P (tNot t) env (!c) := fun M ks H0 H σ S Q q =>
  h1 M ks H0 H σ S _ fun k H1 hk e1 i1 => by
    subst hk
    exact q _ H1 rfl e1 i1
theorem te_yes : TEd P tYes env true := fun M ks H0 H σ S Q q => q true H rfl (.refl _ _) S.inv
theorem ee_if {c : Bool} (h : TEd P t env c) (h1 : c = true → EEd P b ta env x) (h2 : c = false → EEd P b tb env y) : EEd P b (tIf t ta tb) env (if c then x else y) := fun M ks H0 H σ S Q q =>
  h M ks H0 H σ S _ fun k H1 hk e1 i1 => by
    subst hk
    cases k with
    | true => exact h1 rfl M ks H0 H1 σ (S.step e1 i1) _ fun w y H2 hy e2 i2 d2 => q w y H2 hy (e1.trans e2) i2 d2
    | false => exact h2 rfl M ks H0 H1 σ (S.step e1 i1) _ fun w y H2 hy e2 i2 d2 => q w y H2 hy (e1.trans e2) i2 d2
/-- a < b < c by two operators, the middle one asked once -/
theorem ee_chain {r r' : R2} {c d : Bool} (ha : EEd P b1 ta env x) (hb : EEd P b2 tb env y) (hr : RV P.K r x y (.bool c)) (hc : c = true → EEd P b' tc env z) (hr' : c = true → RV P.K r' y z (.bool d)) : EEd P false (tChain r r' ta tb tc) env (.bool (c && d)) := fun M ks H0 H σ S Q q =>
  ha M ks H0 H σ S _ fun v x1 H1 hx e1 i1 d1 => by
    subst hx
    have S1 := S.step e1 i1
    refine hb M ks H0 H1 σ S1 _ fun w y1 H2 hy e2 i2 d2 => ?_
    subst hy
    have S2 := S1.step e2 i2
    refine hr M H2 v w S2.ml ((d1.mono (mk_weak _ (mskb_ge b1))).mono (e2.msk S.gm)) (d2.mono (mk_weak _ (mskb_ge b2))) _ fun u H3 sm dz => ?_
    cases dz
    refine ⟨c, rfl, ?_⟩
    have S3 := S2.same sm
    cases c with
    | false => exact q _ _ H3 rfl ((e1.trans e2).trans (.of sm)) (S2.is sm) (.bl _)
    | true =>
      show tc σ H3 _
      refine hc rfl M ks H0 H3 σ S3 _ fun w3 y3 H4 hy3 e4 i4 d4 => ?_
      subst hy3
      have S4 := S3.step e4 i4
      refine hr' rfl M H4 w w3 S4.ml ((d2.mono (mk_weak _ (mskb_ge b2))).mono (ExG.msk S.gm ((ExG.of sm).trans e4))) (d4.mono (mk_weak _ (mskb_ge b'))) _ fun u H5 sm5 dz5 => ?_
      cases dz5
      exact q _ _ H5 rfl (((e1.trans e2).trans (.of sm)).trans (e4.trans (.of sm5))) (S4.is sm5) (.bl _)
/-! ### lists of data, tuples, lists -/
def DEv (P : Pm) (b : Bool) (ta : TA) (env : List Ent) (ds : List PyData) : Prop := ∀ M ks H0 H σ, Stt P M ks H0 H σ env → ∀ Q : List V → Hp → Prop,
  (∀ vs H', ExG P.G H H' → P.I H' → DdA P.K (msk (mskb M env b) H') vs ds → Q vs H') → ta σ H Q
theorem de_nil : DEv P b tNil env [] := fun M ks H0 H σ S Q q => q [] H (.refl _ _) S.inv .nil
theorem de_cons {tr : TA} {ds : List PyData} (h : EEd P b te env x) (hr : DEv P b tr env ds) : DEv P b (tCons te tr) env (x :: ds) := fun M ks H0 H σ S Q q =>
  h M ks H0 H σ S _ fun v y H1 hy e1 i1 d1 => by
    subst hy
    refine hr M ks H0 H1 σ (S.step e1 i1) _ fun vs H2 e2 i2 a2 => ?_
    exact q _ H2 (e1.trans e2) i2 (.cons (d1.mono (e2.msk (S.gmb b))) a2)
theorem de_consw {tr : TA} {ds : List PyData} (h : EEd P b1 te env x) (hr : DEv P true tr env ds) : DEv P true (tCons te tr) env (x :: ds) := de_cons (EEv.weak h) hr
/-- *t within a display -/
theorem de_star {tr : TA} {ds es : List PyData} (h : EEd P b te env (.tuple es)) (hr : DEv P b tr env ds) : DEv P b (StX.tStar P.K te tr) env (es ++ ds) := fun M ks H0 H σ S Q q =>
  h M ks H0 H σ S _ fun v y H1 hy e1 i1 d1 => by
    subst hy
    cases d1 with
    | tup g a =>
      refine ⟨_, _, rfl, .inl (same_t (mk_same _ _) g), hr M ks H0 H1 σ (S.step e1 i1) _ fun vs H2 e2 i2 a2 => ?_⟩
      exact q _ H2 (e1.trans e2) i2 ((a.mono (e2.msk (S.gmb b))).append a2)
theorem de_starL {tr : TA} {ds es : List PyData} (h : EEd P b te env (.list es)) (hr : DEv P b tr env ds) : DEv P b (StX.tStar P.K te tr) env (es ++ ds) := fun M ks H0 H σ S Q q =>
  h M ks H0 H σ S _ fun v y H1 hy e1 i1 d1 => by
    subst hy
    cases d1 with
    | lst g a =>
      refine ⟨_, _, rfl, .inr (SqL.of (mk_out g).2), hr M ks H0 H1 σ (S.step e1 i1) _ fun vs H2 e2 i2 a2 => ?_⟩
      exact q _ H2 (e1.trans e2) i2 ((a.mono (e2.msk (S.gmb b))).append a2)
theorem ee_tup {ta : TA} {ds : List PyData} (h : DEv P b ta env ds) (hz : ds.length ≤ sizeLine) : EEd P b (tTup ta) env (.tuple ds) := fun M ks H0 H σ S Q q =>
  h M ks H0 H σ S _ fun vs H1 e1 i1 a => ⟨by rw [a.length]; exact hz, fun p hp => q _ _ _ rfl (e1.trans (.of (same_new hp))) ((S.step e1 i1).is (same_new hp)) (.newT ((S.step e1 i1).mlb b) hp a)⟩
theorem LEv.ee {Φ : List PyData → Prop} (h : LEv P te env Φ) : EEv P false te env (fun x => ∃ xs, x = .list xs ∧ Φ xs) := fun M ks H0 H σ S Q q =>
  h M ks H0 H σ S _ fun p vs xs H1 hx n e1 i1 g a => q _ _ H1 ⟨xs, rfl, hx⟩ e1 i1 (.lst (mk_of (fun z => live_ne S.mlo n z) g) (a.mono (mk_weak H1 fun a h => .inl h)))
theorem LEv.eed {ds : List PyData} (h : LEv P te env (fun y => y = ds)) : EEd P false te env (.list ds) := EEv.imp h.ee fun x ⟨xs, e, e2⟩ => by rw [e, e2]
theorem le_lst {ta : TA} {ds : List PyData} (h : DEv P false ta env ds) (hz : ds.length ≤ sizeLine) : LEv P (tLst ta) env (fun y => y = ds) := fun M ks H0 H σ S Q q =>
  h M ks H0 H σ S _ fun vs H1 e1 i1 a => ⟨by rw [a.length]; exact hz, fun p hp => by
    have S1 := S.step e1 i1
    have hn : H p = none := by
      cases e : H p with
      | none => rfl
      | some o =>
        by_cases g : p ∈ P.G
        · exact absurd hp (P.live _ _ i1 g)
        · rw [e1 p o g e] at hp; cases hp
    refine q p vs ds _ rfl hn (e1.trans (.of (same_new hp))) (S1.is (same_new hp)) upd_same ?_
    refine a.mono fun c o h => ?_
    have h' := mk_out h
    exact mk_of (fun z => z.elim h'.1 fun e => by rw [e, hp] at h'; cases h'.2) (same_new hp c o h'.2)⟩
end
end Fw
end

section
/-! Fw3: slots stored, calls, walks, comprehensions. -/
namespace Fw
open PyProof.Rows PySem PySem.Spec L2
section
variable {P : Pm} {env : List Ent} {b b1 b2 : Bool} {ta tb te tc : TE} {t u : TT} {x y z : PyData} {Φ Ψ : PyData → Prop} {H H' : Hp} {M : Addr → Prop} {ks : List (V × PyData)} {H0 : Hp} {σ : L2.St}
theorem mem_owned {env : List Ent} {a : Addr} : a ∈ owned env ↔ ∃ (i : Nat) (e : Ent), env[i]? = some e ∧ e.addr = some a := by
  unfold owned
  rw [List.mem_filterMap]
  constructor
  · rintro ⟨e, he, ea⟩
    obtain ⟨i, hi, ei⟩ := List.mem_iff_getElem.mp he
    exact ⟨i, e, by rw [List.getElem?_eq_getElem hi, ei], ea⟩
  · rintro ⟨i, e, he, ea⟩
    exact ⟨e, List.mem_of_getElem? he, ea⟩
theorem Mo_set_le {e : Ent} {i : Nat} (he : e.addr = none) : ∀ a, Mo M (env.set i e) a → Mo M env a := fun a h => by
  rcases h with h | h
  · exact .inl h
  · obtain ⟨j, f, hj, ha⟩ := mem_owned.mp h
    rw [List.getElem?_set] at hj
    split at hj
    · split at hj
      · cases hj; rw [he] at ha; cases ha
      · cases hj
    · exact .inr (mem_owned.mpr ⟨j, f, hj, ha⟩)
/-- a slot takes what is no owned thing -/
theorem Stt.setE (S : Stt P M ks H0 H σ env) {i : Nat} {v : Option V} {e : Ent} (he : e.addr = none) (hv : EntOk P.K M (msk (Mo M env) H) H0 H v e) : Stt P M ks H0 H (σ.set i v) (env.set i e) := by
  have w : Same (msk (Mo M env) H) (msk (Mo M (env.set i e)) H) := mk_weak H (Mo_set_le he)
  refine ⟨S.ex, S.inv, S.gm, S.ml, by rw [List.length_set, List.length_set]; exact S.len, fun j u f h1 h2 => ?_, fun p q => (S.kp p q).mono w, fun j k f g a h1 h2 h3 h4 => ?_⟩
  · rw [List.getElem?_set] at h1 h2
    by_cases ij : i = j
    · subst ij
      simp only [if_true] at h1 h2
      split at h1
      · split at h2
        · cases h1; cases h2; exact hv.mono w fun _ _ _ h => h
        · cases h2
      · cases h1
    · rw [if_neg ij] at h1 h2
      exact (S.ok j u f h1 h2).mono w fun _ _ _ h => h
  · rw [List.getElem?_set] at h1 h2
    by_cases ij : i = j
    · subst ij
      simp only [if_true] at h1
      split at h1
      · cases h1; rw [he] at h3; cases h3
      · cases h1
    · by_cases ik : i = k
      · subst ik
        simp only [if_true] at h2
        split at h2
        · cases h2; rw [he] at h4; cases h4
        · cases h2
      · rw [if_neg ij] at h1
        rw [if_neg ik] at h2
        exact S.nd j k f g a h1 h2 h3 h4
theorem Stt.set (S : Stt P M ks H0 H σ env) {i : Nat} {v : V} (hv : Dd P.K (msk (Mo M env) H) v x) : Stt P M ks H0 H (σ.set i (some v)) (env.set i (.d x)) := S.setE rfl hv
theorem Stt.forget (S : Stt P M ks H0 H σ env) {i : Nat} {v : Option V} : Stt P M ks H0 H (σ.set i v) (env.set i .un) := S.setE rfl (by cases v <;> trivial)
/-- an owned list changes -/
theorem Stt.mut (S : Stt P M ks H0 H σ env) {i : Nat} {a : Addr} {ds : List PyData} {vs : List V} {es : List PyData} (hi : env[i]? = some (.own a ds)) (ha : DdA P.K (msk (Mo M env) H) vs es) : Stt P M ks H0 (upd H a (.lst vs)) σ (env.set i (.own a es)) := by
  have him : i < σ.length := by rw [S.len]; exact (List.getElem?_eq_some_iff.mp hi).1
  have oki := S.ok i σ[i] _ (List.getElem?_eq_getElem him) hi
  have hMo : Mo M env a := .inr (mem_owned.mpr ⟨i, _, hi, rfl⟩)
  have key : ∃ hv : σ[i] = some (.ref a), H0 a = none ∧ ¬ M a ∧ ∃ vs, H a = some (.lst vs) := by
    cases e : σ[i] with
    | none => rw [e] at oki; exact oki.elim
    | some v =>
      rw [e] at oki
      obtain ⟨rfl, p, q, vs, r, _⟩ := oki
      exact ⟨rfl, p, q, vs, r⟩
  obtain ⟨hv, h0, hnM, vs0, hH⟩ := key
  have hMe : ∀ c, Mo M (env.set i (.own a es)) c ↔ Mo M env c := fun c => by
    constructor
    · rintro (h | h)
      · exact .inl h
      · obtain ⟨j, f, hj, hc⟩ := mem_owned.mp h
        rw [List.getElem?_set] at hj
        split at hj
        · split at hj
          · cases hj; cases hc; exact hMo
          · cases hj
        · exact .inr (mem_owned.mpr ⟨j, f, hj, hc⟩)
    · rintro (h | h)
      · exact .inl h
      · obtain ⟨j, f, hj, hc⟩ := mem_owned.mp h
        by_cases ij : i = j
        · subst ij
          rw [hi] at hj; cases hj; cases hc
          exact .inr (mem_owned.mpr ⟨i, .own a es, by rw [List.getElem?_set]; simp [(List.getElem?_eq_some_iff.mp hi).1], rfl⟩)
        · exact .inr (mem_owned.mpr ⟨j, f, by rw [List.getElem?_set, if_neg ij]; exact hj, hc⟩)
  have w : Same (msk (Mo M env) H) (msk (Mo M (env.set i (.own a es))) (upd H a (.lst vs))) := fun c o h => by
    have h' := mk_out h
    have ne : c ≠ a := fun e => h'.1 (e ▸ hMo)
    exact mk_of (fun z => h'.1 ((hMe c).mp z)) (by rw [upd_ne ne]; exact h'.2)
  have hG : a ∉ P.G := fun g => hnM (S.gm a g)
  refine ⟨fun c o n e => ?_, P.st _ _ (fun c o g e => by rw [upd_ne (show c ≠ a from fun z => hG (by rw [← z]; exact g))]; exact e) S.inv, S.gm, fun c m e => ?_, by rw [List.length_set]; exact S.len, fun j u f h1 h2 => ?_, fun p q => (S.kp p q).mono w, fun j k f g c h1 h2 h3 h4 => ?_⟩
  · have ne : c ≠ a := fun z => by rw [z, h0] at e; cases e
    rw [upd_ne ne]
    exact S.ex c o n e
  · have ne : c ≠ a := fun z => hnM (z ▸ m)
    rw [upd_ne ne] at e
    exact S.ml c m e
  · rw [List.getElem?_set] at h2
    by_cases ij : i = j
    · subst ij
      simp only [if_true] at h2
      split at h2
      · cases h2
        rw [List.getElem?_eq_getElem him, hv] at h1
        cases h1
        exact ⟨rfl, h0, hnM, vs, upd_same, ha.mono w⟩
      · cases h2
    · rw [if_neg ij] at h2
      have okj := S.ok j u f h1 h2
      cases f with
      | un => cases u <;> trivial
      | d x => cases u with
        | none => exact okj
        | some u => exact Dd.mono w okj
      | raw q => cases u with
        | none => exact okj
        | some u => exact okj
      | own c ds' => cases u with
        | none => exact okj
        | some u =>
          obtain ⟨e1, e2, e3, ws, e4, e5⟩ := okj
          have ne : c ≠ a := fun z => ij (S.nd i j _ _ a hi h2 rfl (by rw [← z]; rfl))
          exact ⟨e1, e2, e3, ws, by rw [upd_ne ne]; exact e4, e5.mono w⟩
      | owk c ds' => cases u with
        | none => exact okj
        | some u =>
          obtain ⟨e1, e2, e3, ws, e4, e6, e5⟩ := okj
          have ne : c ≠ a := fun z => ij (S.nd i j _ _ a hi h2 rfl (by rw [← z]; rfl))
          exact ⟨e1, e2, e3, ws, by rw [upd_ne ne]; exact e4, e6, e5.mono w⟩
  · rw [List.getElem?_set] at h1 h2
    have back : ∀ (j : Nat) (f : Ent), (if i = j then if i < env.length then some (Ent.own a es) else none else env[j]?) = some f → f.addr = some c → ∃ f', env[j]? = some f' ∧ f'.addr = some c := fun j f hj hf => by
      split at hj
      · rename_i e; subst e
        split at hj
        · cases hj; cases hf; exact ⟨_, hi, rfl⟩
        · cases hj
      · exact ⟨f, hj, hf⟩
    obtain ⟨f', g1, g2⟩ := back j f h1 h3
    obtain ⟨g', g3, g4⟩ := back k g h2 h4
    exact S.nd j k f' g' c g1 g3 g2 g4
/-- a slot takes a new list as its own -/
theorem Stt.setOwn (S : Stt P M ks H0 H σ env) {i : Nat} {p : Addr} {vs : List V} {ds : List PyData} (hp : H p = none) {H1 : Hp} (e1 : ExG P.G H H1) (i1 : P.I H1) (g : H1 p = some (.lst vs)) (hd : DdA P.K (msk (fun a => Mo M env a ∨ a = p) H1) vs ds)
    (hn : ∀ e, env[i]? = some e → e.addr = none) : Stt P M ks H0 H1 (σ.set i (some (.ref p))) (env.set i (.own p ds)) := by
  have S1 := S.step e1 i1
  obtain ⟨f0, fM, fG, fo⟩ := S.fresh0 hp
  have w : Same (msk (Mo M env) H) (msk (Mo M (env.set i (.own p ds))) H1) := fun c o h => by
    have h' := mk_out h
    have ne : c ≠ p := fun z => by rw [z, hp] at h'; cases h'.2
    refine mk_of (fun z => ?_) (e1 c o (fun g => h'.1 (.inl (S.gm c g))) h'.2)
    rcases z with z | z
    · exact h'.1 (.inl z)
    · obtain ⟨j, f, hj, hc⟩ := mem_owned.mp z
      rw [List.getElem?_set] at hj
      split at hj
      · split at hj
        · cases hj; cases hc; exact ne rfl
        · cases hj
      · exact h'.1 (.inr (mem_owned.mpr ⟨j, f, hj, hc⟩))
  have w2 : Same (msk (fun a => Mo M env a ∨ a = p) H1) (msk (Mo M (env.set i (.own p ds))) H1) := mk_weak H1 fun c z => by
    rcases z with z | z
    · exact .inl (.inl z)
    · obtain ⟨j, f, hj, hc⟩ := mem_owned.mp z
      rw [List.getElem?_set] at hj
      split at hj
      · split at hj
        · cases hj; cases hc; exact .inr rfl
        · cases hj
      · exact .inl (.inr (mem_owned.mpr ⟨j, f, hj, hc⟩))
  refine ⟨S1.ex, i1, S.gm, S1.ml, by rw [List.length_set, List.length_set]; exact S.len, fun j u f h1 h2 => ?_, fun q hq => (S.kp q hq).mono w, fun j k f g' c h1 h2 h3 h4 => ?_⟩
  · rw [List.getElem?_set] at h1 h2
    by_cases ij : i = j
    · subst ij
      simp only [if_true] at h1 h2
      split at h1
      · split at h2
        · cases h1; cases h2; exact ⟨rfl, f0, fM, vs, g, hd.mono w2⟩
        · cases h2
      · cases h1
    · rw [if_neg ij] at h1 h2
      exact (S.ok j u f h1 h2).mono w fun c n o h => e1 c o (fun g => n (S.gm c g)) h
  · rw [List.getElem?_set] at h1 h2
    by_cases ij : i = j
    · subst ij
      by_cases ik : i = k
      · exact ik
      · rw [if_neg ik] at h2
        simp only [if_true] at h1
        split at h1
        · cases h1; cases h3
          exact absurd (mem_owned.mpr ⟨k, g', h2, h4⟩) fo
        · cases h1
    · rw [if_neg ij] at h1
      by_cases ik : i = k
      · subst ik
        simp only [if_true] at h2
        split at h2
        · cases h2; cases h4
          exact absurd (mem_owned.mpr ⟨j, f, h1, h3⟩) fo
        · cases h2
      · rw [if_neg ik] at h2
        exact S.nd j k f g' c h1 h2 h3 h4
/-! ### built-in functions by data -/
def RC (K : PySem.W.Frag) (r : List V → Hp → VK → Prop) (xs : List PyData) (z : PyData) : Prop := ∀ (m : Addr → Prop) (H : Hp) (vs : List V), (∀ a, m a → H a ≠ none) → DdA K (msk m H) vs xs → ∀ Q : VK, (∀ u H', Same H H' → Dd K (msk m H') u z → Q u H') → r vs H Q
def RCL (K : PySem.W.Frag) (r : List V → Hp → VK → Prop) (xs : List PyData) (Ψ : List PyData → Prop) : Prop := ∀ (m : Addr → Prop) (H : Hp) (vs : List V), (∀ a, m a → H a ≠ none) → DdA K (msk m H) vs xs → ∀ Q : VK, (∀ p ws zs, Ψ zs → H p = none → DdA K (msk m H) ws zs → Q (.ref p) (upd H p (.lst ws))) → r vs H Q
theorem ee_cb {r : List V → Hp → VK → Prop} {ta : TA} {xs : List PyData} (h : DEv P b ta env xs) (hr : RC P.K r xs z) : EEd P b (tCB r ta) env z := fun M ks H0 H σ S Q q =>
  h M ks H0 H σ S _ fun vs H1 e1 i1 a => hr _ H1 vs ((S.step e1 i1).mlb b) a Q fun u H2 sm dz => q u z H2 rfl (e1.trans (.of sm)) ((S.step e1 i1).is sm) dz
theorem ee_cbs {r : List V → Hp → VK → Prop} {ta : TA} {xs : List PyData} (h : DEv P b1 ta env xs) (hr : RC P.K r xs z) (hs : scalD z = true := by rfl) : EEd P false (tCB r ta) env z := EEv.scal (ee_cb h hr) fun _ e => by rw [e]; exact hs
theorem fresh_back {G : List Addr} {I : Hp → Prop} (live : ∀ H a, I H → a ∈ G → H a ≠ none) {p : Addr} (i1 : I H') (e : ExG G H H') (h : H' p = none) : H p = none := by
  cases q : H p with
  | none => rfl
  | some o =>
    by_cases g : p ∈ G
    · exact absurd h (live _ _ i1 g)
    · rw [e p o g q] at h; cases h
theorem le_cb {r : List V → Hp → VK → Prop} {ta : TA} {xs : List PyData} {Ψ : List PyData → Prop} (h : DEv P b ta env xs) (hb : b = false) (hr : RCL P.K r xs Ψ) : LEv P (tCB r ta) env Ψ := by
  subst hb
  exact fun M ks H0 H σ S Q q => h M ks H0 H σ S _ fun vs H1 e1 i1 a => hr _ H1 vs ((S.step e1 i1).mlb false) a Q fun p ws zs hz hp da => by
    refine q p ws zs _ hz (fresh_back P.live i1 e1 hp) (e1.trans (.of (same_new hp))) ((S.step e1 i1).is (same_new hp)) upd_same ?_
    refine da.mono fun c o h => ?_
    have h' := mk_out h
    exact mk_of (fun z => z.elim h'.1 fun e => by rw [e, hp] at h'; cases h'.2) (same_new hp c o h'.2)
variable {K : PySem.W.Frag}
theorem rc_lenL {ds : List PyData} : RC K (fun xs H Q => ∃ x n, xs = [x] ∧ LenV K x H n ∧ Q (.int n) H) [.list ds] (.int ds.length) := fun m H vs hl a Q q => by
  cases a with
  | cons h a =>
    cases a
    cases h with
    | lst g a => exact ⟨_, ds.length, rfl, .inl ⟨_, SqL.of (mk_out g).2, a.length.symm⟩, q _ H (Same.refl H) (.int _)⟩
theorem rc_lenT {ds : List PyData} : RC K (fun xs H Q => ∃ x n, xs = [x] ∧ LenV K x H n ∧ Q (.int n) H) [.tuple ds] (.int ds.length) := fun m H vs hl a Q q => by
  cases a with
  | cons h a =>
    cases a
    cases h with
    | tup g a => exact ⟨_, ds.length, rfl, .inr ⟨_, same_t (mk_same _ _) g, a.length.symm⟩, q _ H (Same.refl H) (.int _)⟩
theorem rc_lenS {s : Str} (hs : s.length ≤ sizeLine) : RC K (fun xs H Q => ∃ x n, xs = [x] ∧ LenV K x H n ∧ Q (.int n) H) [.str s] (.int s.length) := fun m H vs hl a Q q => by
  cases a with
  | cons h a =>
    cases a
    cases h
    exact ⟨_, s.length, rfl, ⟨hs, rfl⟩, q _ H (Same.refl H) (.int _)⟩
abbrev rTupOf (K : PySem.W.Frag) : List V → Hp → VK → Prop := fun xs H Q => ∃ p ys, xs = [.ref p] ∧ ((SqL K H p ys ∧ ∀ l, H l = none → Q (.ref l) (upd H l (.tup ys))) ∨ (SqT K H p ys ∧ Q (.ref p) H))
theorem rc_tupL {ds : List PyData} : RC K (rTupOf K) [.list ds] (.tuple ds) := fun m H vs hl a Q q => by
  cases a with
  | cons h a =>
    cases a
    cases h with
    | lst g a => exact ⟨_, _, rfl, .inl ⟨SqL.of (mk_out g).2, fun p hp => q _ _ (same_new hp) (.newT hl hp a)⟩⟩
theorem rc_tupT {ds : List PyData} : RC K (rTupOf K) [.tuple ds] (.tuple ds) := fun m H vs hl a Q q => by
  cases a with
  | cons h a =>
    cases a
    cases h with
    | tup g a => exact ⟨_, _, rfl, .inr ⟨same_t (mk_same _ _) g, q _ H (Same.refl H) (.tup g a)⟩⟩
abbrev rListOf (K : PySem.W.Frag) : List V → Hp → VK → Prop := fun xs H Q => ∃ p ys, xs = [.ref p] ∧ (SqL K H p ys ∨ SqT K H p ys) ∧ ∀ l, H l = none → Q (.ref l) (upd H l (.lst ys))
theorem rc_listL {ds : List PyData} : RCL K (rListOf K) [.list ds] (fun y => y = ds) := fun m H vs hl a Q q => by
  cases a with
  | cons h a =>
    cases a
    cases h with
    | lst g a => exact ⟨_, _, rfl, .inl (SqL.of (mk_out g).2), fun p hp => q p _ _ rfl hp a⟩
theorem rc_listT {ds : List PyData} : RCL K (rListOf K) [.tuple ds] (fun y => y = ds) := fun m H vs hl a Q q => by
  cases a with
  | cons h a =>
    cases a
    cases h with
    | tup g a => exact ⟨_, _, rfl, .inr (same_t (mk_same _ _) g), fun p hp => q p _ _ rfl hp a⟩
theorem rc_all {bs : List Bool} : RC K (rAll K) [.list (bs.map .bool)] (.bool (bs.all id)) := fun m H vs hl a Q q => by
  cases a with
  | cons h a =>
    cases a
    cases h with
    | lst g a => exact ⟨_, bs, rfl, by rw [a.ofBools] at g; exact SqL.of (mk_out g).2, q _ H (Same.refl H) (.bl _)⟩
theorem rc_any {bs : List Bool} : RC K (rAny K) [.list (bs.map .bool)] (.bool (bs.any id)) := fun m H vs hl a Q q => by
  cases a with
  | cons h a =>
    cases a
    cases h with
    | lst g a => exact ⟨_, bs, rfl, by rw [a.ofBools] at g; exact SqL.of (mk_out g).2, q _ H (Same.refl H) (.bl _)⟩
abbrev rInt1 : List V → Hp → VK → Prop := fun xs H Q => (∃ i, xs = [.int i] ∧ Q (.int i) H) ∨ ∃ k, xs = [.bl k] ∧ Q (.int (if k then 1 else 0)) H
theorem rc_int1 {i : Int} : RC K rInt1 [.int i] (.int i) := fun m H vs hl a Q q => by
  cases a with
  | cons h a =>
    cases a
    cases h
    exact .inl ⟨i, rfl, q _ H (Same.refl H) (.int _)⟩
theorem rc_abs {i : Int} : RC K (fun xs H Q => ∃ i, xs = [V.int i] ∧ Q (.int (if i < 0 then -i else i)) H) [.int i] (.int (if i < 0 then -i else i)) := fun m H vs hl a Q q => by
  cases a with
  | cons h a =>
    cases a
    cases h
    exact ⟨i, rfl, q _ H (Same.refl H) (.int _)⟩
theorem rc_min2 {i j : Int} : RC K (fun xs H Q => ∃ i j, xs = [V.int i, .int j] ∧ Q (.int (if j < i then j else i)) H) [.int i, .int j] (.int (if j < i then j else i)) := fun m H vs hl a Q q => by
  cases a with
  | cons h a =>
    cases a with
    | cons h2 a =>
      cases a
      cases h; cases h2
      exact ⟨i, j, rfl, q _ H (Same.refl H) (.int _)⟩
theorem rc_max2 {i j : Int} : RC K (fun xs H Q => ∃ i j, xs = [V.int i, .int j] ∧ Q (.int (if j > i then j else i)) H) [.int i, .int j] (.int (if j > i then j else i)) := fun m H vs hl a Q q => by
  cases a with
  | cons h a =>
    cases a with
    | cons h2 a =>
      cases a
      cases h; cases h2
      exact ⟨i, j, rfl, q _ H (Same.refl H) (.int _)⟩
/-! ### defs by data -/
structure FSp where
  α : Type
  args : α → List Ent
  pre : α → Prop
  post : α → PyData → Prop
  err : α → Addr → List (Str × PyData) → Prop := fun _ _ _ => False
/-- one answer, no error -/
abbrev FSp.fn {α : Type} (args : α → List Ent) (pre : α → Prop) (f : α → PyData) : FSp := { α := α, args := args, pre := pre, post := fun x z => z = f x }
def XdOk (K : PySem.W.Frag) (H : Hp) (dd : Option Addr) : List (Str × PyData) → Prop
  | [] => dd = none
  | fs => ∃ a vs, dd = some a ∧ H a = some (.xd vs) ∧ vs.map (·.1) = fs.map (·.1) ∧ DdA K H (vs.map (·.2)) (fs.map (·.2))
def SpF (P : Pm) (S : FSp) : Sp := fun vs H Q E => ∃ (M : Addr → Prop) (x : S.α), (∀ a ∈ P.G, M a) ∧ (∀ a, M a → H a ≠ none) ∧ P.I H ∧ ArgsOk P.K (msk M H) vs (S.args x) ∧ S.pre x ∧
  (∀ v d H', S.post x d → ExG P.G H H' → P.I H' → Dd P.K (msk M H') v d → Q v H') ∧
  (∀ C fs dd H', S.err x C fs → ExG P.G H H' → P.I H' → XdOk P.K (msk M H') dd fs → E (.ref C) dd H')
theorem ae_nil : AEd P b tNil env [] := fun M ks H0 H σ S Q q => q [] [] H rfl (.refl _ _) S.inv .nil
theorem ae_cons {tr : TA} {as : List Ent} (h : EEd P b te env x) (hr : AEd P b tr env as) : AEd P b (tCons te tr) env (.d x :: as) := fun M ks H0 H σ S Q q =>
  h M ks H0 H σ S _ fun v y H1 hy e1 i1 d1 => by
    subst hy
    refine hr M ks H0 H1 σ (S.step e1 i1) _ fun vs as' H2 ea e2 i2 a2 => ?_
    subst ea
    exact q _ _ H2 rfl (e1.trans e2) i2 (.cons (.d (d1.mono (e2.msk (S.gmb b)))) a2)
theorem ae_consw {tr : TA} {as : List Ent} (h : EEd P b1 te env x) (hr : AEd P true tr env as) : AEd P true (tCons te tr) env (.d x :: as) := ae_cons (EEv.weak h) hr
theorem ae_raw {tr : TA} {as : List Ent} {i : Nat} {v : V} (h : env[i]? = some (.raw v)) (hr : AEd P b tr env as) : AEd P b (tCons (tVar i) tr) env (.raw v :: as) := fun M ks H0 H σ S Q q => by
  have hi : i < σ.length := by rw [S.len]; exact (List.getElem?_eq_some_iff.mp h).1
  have ok := S.ok i σ[i] _ (List.getElem?_eq_getElem hi) h
  cases e : σ[i] with
  | none => rw [e] at ok; exact ok.elim
  | some w =>
    rw [e] at ok
    have ok' : w = v := ok
    subst ok'
    refine ⟨w, by rw [List.getElem?_eq_getElem hi, e], hr M ks H0 H σ S _ fun vs as' H2 ea e2 i2 a2 => ?_⟩
    subst ea
    exact q _ _ H2 rfl e2 i2 (.cons (.raw w) a2)
/-- a call of a def that changes nothing -/
theorem ee_call0 {F : FSp} {E : XK} {ta : TA} (x : F.α) (ha : AEd P b ta env (F.args x)) (hp : F.pre x) (he : ∀ C fs, ¬ F.err x C fs) : EEv P b (tCall (SpF (.pure P.K) F) [] E ta) env (F.post x) := fun M ks H0 H σ S Q q =>
  ha M ks H0 H σ S _ fun vs as' H1 ea e1 i1 a => by
    subst ea
    have S1 := S.step e1 i1
    refine ⟨mskb M env b, x, (fun _ h => by cases h), S1.mlb b, trivial, by rw [List.append_nil]; exact a, hp, fun v d H' hd e2 _ dd => ?_, fun C fs dd H' h => absurd h (he C fs)⟩
    exact q v d H' hd (e1.trans (.of e2.nil)) (S1.is e2.nil) dd
theorem ee_callP {F : FSp} {E : XK} {ta : TA} (x : F.α) (ha : AEd P b ta env (F.args x)) (hp : F.pre x) (he : ∀ C fs, ¬ F.err x C fs) : EEv P b (tCall (SpF P F) [] E ta) env (F.post x) := fun M ks H0 H σ S Q q =>
  ha M ks H0 H σ S _ fun vs as' H1 ea e1 i1 a => by
    subst ea
    have S1 := S.step e1 i1
    refine ⟨mskb M env b, x, S.gmb b, S1.mlb b, i1, by rw [List.append_nil]; exact a, hp, fun v d H' hd e2 i2 dd => ?_, fun C fs dd H' h => absurd h (he C fs)⟩
    exact q v d H' hd (e1.trans e2) i2 dd
/-- .. with one answer -/
theorem ee_fn0 {α : Type} {args : α → List Ent} {pre : α → Prop} {f : α → PyData} {E : XK} {ta : TA} (x : α) (ha : AEd P b ta env (args x)) (hp : pre x) : EEd P b (tCall (SpF (.pure P.K) (.fn args pre f)) [] E ta) env (f x) := ee_call0 (F := .fn args pre f) x ha hp fun _ _ h => h
theorem ee_fns {α : Type} {args : α → List Ent} {pre : α → Prop} {f : α → PyData} {E : XK} {ta : TA} (x : α) (ha : AEd P b1 ta env (args x)) (hp : pre x) (hs : scalD (f x) = true) : EEd P false (tCall (SpF (.pure P.K) (.fn args pre f)) [] E ta) env (f x) := EEv.scal (ee_fn0 x ha hp) fun _ e => by rw [e]; exact hs
end
end Fw
end

section
/-! Fw4: what is walked, targets, comprehensions. -/
namespace Fw
open PyProof.Rows PySem PySem.Spec L2
/-! ### what is walked -/
theorem PI.or {X : Cx} {tg l : Expr} {w1 w2 : TI} (h1 : PI X tg l w1) (h2 : PI X tg l w2) : PI X tg l (fun σ H R => w1 σ H R ∨ w2 σ H R) :=
  ⟨fun pins s σ H R I h => h.elim (h1.run pins s σ H R I) (h2.run pins s σ H R I)⟩
abbrev iSeq (K : PySem.W.Frag) (tl : TE) : TI := fun σ H R => iList K tl σ H R ∨ iTup K tl σ H R
abbrev Cnd := (Addr → Prop) → Hp → Prop
structure IterK (K : PySem.W.Frag) (J : It) (xs : List PyData) (Cn : Cnd) : Prop where
  ex : ∃ (G : Hp → Prop) (Y : Nat → Hp → V → Hp → Prop), Walk J xs.length G Y ∧ (∀ m H, Cn m H → G H) ∧ ∀ i H1 x H2 m, i < xs.length → Cn m H1 → (∀ a, m a → H1 a ≠ none) → Y i H1 x H2 → Same H1 H2 ∧ ∃ d, xs[i]? = some d ∧ Dd K (msk m H2) x d
abbrev Kept (K : PySem.W.Frag) (kv : List (V × PyData)) : Cnd := fun m H => ∀ p ∈ kv, Dd K (msk m H) p.1 p.2
abbrev OwnC (K : PySem.W.Frag) (a : Addr) (ds : List PyData) : Cnd := fun m H => ∃ vs, H a = some (.lst vs) ∧ DdA K (msk m H) vs ds
def IEv (P : Pm) (wi : TI) (env : List Ent) (xs : List PyData) : Prop := ∀ M ks H0 H σ, Stt P M ks H0 H σ env → ∀ R : It → Hp → Prop,
  (∀ J H' kv, ExG P.G H H' → P.I H' → Kept P.K kv (Mo M env) H' → IterK P.K J xs (Kept P.K kv) → R J H') → wi σ H R
def IEo (P : Pm) (wi : TI) (env : List Ent) (j : Nat) (a : Addr) (ds : List PyData) : Prop := env[j]? = some (.own a ds) ∧ ∀ M ks H0 H σ, Stt P M ks H0 H σ env → ∀ R : It → Hp → Prop,
  (∀ J, IterK P.K J ds (OwnC P.K a ds) → R J H) → wi σ H R
section
variable {P : Pm} {env : List Ent} {b b1 b2 : Bool} {ta tb te tc : TE} {t u : TT} {x y z : PyData} {H H' : Hp} {M : Addr → Prop} {ks : List (V × PyData)} {H0 : Hp} {σ : L2.St} {K : PySem.W.Frag}
theorem pi_seq {X : Cx} {tg l : Expr} {tl : TE} (h : PE X l tl) : PI X tg l (iSeq X.K tl) := PI.or (pi_list h) (pi_tup h)
def gL (K : PySem.W.Frag) (a : Addr) (n : Nat) (H : Hp) : Prop := ∃ vs, SqL K H a vs ∧ vs.length = n
def gT (K : PySem.W.Frag) (a : Addr) (n : Nat) (H : Hp) : Prop := ∃ vs, SqT K H a vs ∧ vs.length = n
theorem walk_gL {a : Addr} {n : Nat} : Walk (Itl K a) n (gL K a n) (fun i H x H' => H' = H ∧ ∀ vs, SqL K H a vs → vs[i]? = some x) :=
  ⟨fun i _ hi ⟨vs, q, e⟩ => ⟨vs, vs[i]'(by omega), q, by simp [e, hi]⟩, fun _ ⟨vs, q, e⟩ => ⟨vs, q, Nat.le_of_eq e⟩, fun _ _ _ _ _ _ y => y⟩
theorem walk_gT {a : Addr} {n : Nat} : Walk (Itt K a) n (gT K a n) (fun i H x H' => H' = H ∧ ∀ vs, SqT K H a vs → vs[i]? = some x) :=
  ⟨fun i _ hi ⟨vs, q, e⟩ => ⟨vs, vs[i]'(by omega), q, by simp [e, hi]⟩, fun _ ⟨vs, q, e⟩ => ⟨vs, q, Nat.le_of_eq e⟩, fun _ _ _ _ _ _ y => y⟩
theorem iter_list {a : Addr} {xs : List PyData} : IterK K (Itl K a) xs (Kept K [(.ref a, .list xs)]) := by
  refine ⟨_, _, walk_gL (n := xs.length), fun m H h => ?_, fun i H1 x H2 m hi hc hl hy => ?_⟩
  · cases h (.ref a, .list xs) List.mem_cons_self with
    | lst g d => exact ⟨_, SqL.of (mk_out g).2, d.length⟩
  · obtain ⟨rfl, hv⟩ := hy
    cases hc (.ref a, .list xs) List.mem_cons_self with
    | lst g d =>
      obtain ⟨e, h1, h2⟩ := d.get (hv _ (SqL.of (mk_out g).2))
      exact ⟨Same.refl _, e, h1, h2⟩
theorem iter_tup {a : Addr} {xs : List PyData} : IterK K (Itt K a) xs (Kept K [(.ref a, .tuple xs)]) := by
  refine ⟨_, _, walk_gT (n := xs.length), fun m H h => ?_, fun i H1 x H2 m hi hc hl hy => ?_⟩
  · cases h (.ref a, .tuple xs) List.mem_cons_self with
    | tup g d => exact ⟨_, same_t (mk_same _ _) g, d.length⟩
  · obtain ⟨rfl, hv⟩ := hy
    cases hc (.ref a, .tuple xs) List.mem_cons_self with
    | tup g d =>
      obtain ⟨e, h1, h2⟩ := d.get (hv _ (same_t (mk_same _ _) g))
      exact ⟨Same.refl _, e, h1, h2⟩
theorem iter_own {a : Addr} {xs : List PyData} : IterK K (Itl K a) xs (OwnC K a xs) := by
  refine ⟨_, _, walk_gL (n := xs.length), fun m H ⟨vs, g, d⟩ => ⟨vs, SqL.of g, d.length⟩, fun i H1 x H2 m hi ⟨vs, g, d⟩ hl hy => ?_⟩
  obtain ⟨rfl, hv⟩ := hy
  obtain ⟨e, h1, h2⟩ := d.get (hv _ (SqL.of g))
  exact ⟨Same.refl _, e, h1, h2⟩
theorem ie_list {xs : List PyData} (h : EEd P false te env (.list xs)) : IEv P (iSeq P.K te) env xs := fun M ks H0 H σ S R r => .inl (h M ks H0 H σ S _ fun v y H1 hy e1 i1 d1 => by
  subst hy
  cases d1 with
  | lst g d =>
    exact ⟨_, rfl, ⟨_, SqL.of (mk_out g).2⟩, r _ H1 [(_, .list xs)] e1 i1 (fun p hp => by cases List.mem_singleton.mp hp; exact .lst g d) iter_list⟩)
theorem ie_tup {xs : List PyData} (h : EEd P false te env (.tuple xs)) : IEv P (iSeq P.K te) env xs := fun M ks H0 H σ S R r => .inr (h M ks H0 H σ S _ fun v y H1 hy e1 i1 d1 => by
  subst hy
  cases d1 with
  | tup g d =>
    exact ⟨_, rfl, ⟨_, same_t (mk_same _ _) g⟩, r _ H1 [(_, .tuple xs)] e1 i1 (fun p hp => by cases List.mem_singleton.mp hp; exact .tup g d) iter_tup⟩)
theorem ie_own {i : Nat} {a : Addr} {ds : List PyData} (h : env[i]? = some (.own a ds)) : IEo P (iSeq P.K (tVar i)) env i a ds := ⟨h, fun M ks H0 H σ S R r => .inl (by
  have hi : i < σ.length := by rw [S.len]; exact (List.getElem?_eq_some_iff.mp h).1
  have ok := S.ok i σ[i] _ (List.getElem?_eq_getElem hi) h
  cases e : σ[i] with
  | none => rw [e] at ok; exact ok.elim
  | some v =>
    rw [e] at ok
    obtain ⟨rfl, _, n, vs, g, d⟩ := ok
    exact ⟨_, by rw [List.getElem?_eq_getElem hi, e], a, rfl, ⟨vs, SqL.of g⟩, r _ iter_own⟩)⟩
def rngD (lo : Int) (n : Nat) : List PyData := (List.range n).map fun i => .int (lo + (i : Nat))
theorem iter_range {lo : Int} {n : Nat} : IterK K (Itr lo n) (rngD lo n) (Kept K []) := by
  have hl : (rngD lo n).length = n := by simp [rngD]
  refine ⟨_, _, (by rw [hl]; exact walk_range), fun m H h => trivial, fun i H1 x H2 m hi hc _ hy => ?_⟩
  obtain ⟨rfl, rfl⟩ := hy
  rw [hl] at hi
  exact ⟨Same.refl _, .int (lo + (i : Nat)), by simp [rngD, hi], .int _⟩
theorem ie_range1 {tr : TA} {n : Int} (h : DEv P b tr env [.int n]) (hn : -(2 ^ 62) ≤ n ∧ n < 2 ^ 62) : IEv P (iRng1 tr) env (rngD 0 n.toNat) := fun M ks H0 H σ S R r => h M ks H0 H σ S _ fun vs H1 e1 i1 d1 => by
  cases d1 with
  | cons d d1 =>
    cases d1; cases d
    exact ⟨n, rfl, hn.1, hn.2, r _ H1 [] e1 i1 (fun p hp => by cases hp) iter_range⟩
theorem ie_range2 {tr : TA} {lo hi : Int} (h : DEv P b tr env [.int lo, .int hi]) (hn : -(2 ^ 62) ≤ lo ∧ lo < 2 ^ 62 ∧ -(2 ^ 62) ≤ hi ∧ hi < 2 ^ 62) : IEv P (iRng2 tr) env (rngD lo (hi - lo).toNat) := fun M ks H0 H σ S R r => h M ks H0 H σ S _ fun vs H1 e1 i1 d1 => by
  cases d1 with
  | cons d d1 =>
    cases d1 with
    | cons d' d1 =>
      cases d1; cases d; cases d'
      exact ⟨lo, hi, rfl, hn, r _ H1 [] e1 i1 (fun p hp => by cases hp) iter_range⟩
/-! a text, sign by sign -/
def signD (z : Str) : List PyData := z.cps.toList.map fun c => .str ⟨#[c]⟩
theorem iter_str {z : Str} : IterK K (Its z) (signD z) (Kept K []) := by
  have hl : (signD z).length = z.cps.size := by simp [signD]
  refine ⟨_, _, (by rw [hl]; exact walk_str), fun m H h => trivial, fun i H1 x H2 m hi hc _ hy => ?_⟩
  obtain ⟨rfl, c, h1, rfl⟩ := hy
  exact ⟨Same.refl _, .str ⟨#[c]⟩, by simp [signD, h1], .str _⟩
theorem ie_str {z : Str} (h : EEd P b te env (.str z)) : IEv P (iStr te) env (signD z) := fun M ks H0 H σ S R r => h M ks H0 H σ S _ fun v y H1 hy e1 i1 d1 => by
  subst hy; cases d1
  exact ⟨z, rfl, r _ H1 [] e1 i1 (fun p hp => by cases hp) iter_str⟩
/-! ### targets -/
def GEv (P : Pm) (g : TG) (x : PyData) (env env' : List Ent) (gs : List Nat) : Prop := ∀ M ks H0 H σ v, Stt P M ks H0 H σ env → Dd P.K (msk (Mo M env) H) v x → ∀ Q : L2.St → Hp → Prop,
  (∀ σ' H', Same H H' → Stt P M ks H0 H' σ' env' → wipe σ' gs = wipe σ gs → Q σ' H') → g v σ H Q
theorem wipe_set_comm {σ : L2.St} {i : Nat} {v : Option V} : ∀ gs : List Nat, i ∉ gs → wipe (σ.set i v) gs = (wipe σ gs).set i v
  | [], _ => rfl
  | g :: gs, h => by
    simp only [List.mem_cons, not_or] at h
    unfold wipe
    rw [wipe_set_comm gs h.2, List.set_comm _ _ h.1]
theorem wipe_set {σ : L2.St} {i : Nat} {v : Option V} : ∀ gs : List Nat, i ∈ gs → wipe (σ.set i v) gs = wipe σ gs
  | g :: gs, h => by
    unfold wipe
    by_cases hg : i ∈ gs
    · rw [wipe_set gs hg]
    · rcases List.mem_cons.mp h with e | h
      · subst e; rw [wipe_set_comm gs hg, List.set_set]
      · exact absurd h hg
theorem ge_name {i : Nat} {gs : List Nat} (h : i ∈ gs) : GEv P (gName i) x env (env.set i (.d x)) gs := fun M ks H0 H σ v S d Q q =>
  q _ H (Same.refl H) (S.set d) (wipe_set gs h)
/-- two names for a pair -/
theorem ge_pair {i j : Nat} {gs : List Nat} (h : i ∈ gs) (h' : j ∈ gs) : GEv P (gTup P.K 2 (gCons (gName i) (gCons (gName j) gNil))) (.tuple [x, y]) env ((env.set i (.d x)).set j (.d y)) gs := fun M ks H0 H σ v S d Q q => by
  cases d with
  | tup g a =>
    cases a with
    | cons d1 a =>
      cases a with
      | cons d2 a =>
        cases a
        refine ⟨_, _, rfl, same_t (mk_same _ _) g, rfl, _, _, rfl, _, _, rfl, rfl, ?_⟩
        exact q _ H (Same.refl H) ((S.set d1).set (d2.mono (mk_weak H (Mo_set_le rfl)))) (by rw [wipe_set gs h', wipe_set gs h])
theorem ge_triple {i j k : Nat} {gs : List Nat} (h : i ∈ gs) (h' : j ∈ gs) (h'' : k ∈ gs) : GEv P (gTup P.K 3 (gCons (gName i) (gCons (gName j) (gCons (gName k) gNil)))) (.tuple [x, y, z]) env (((env.set i (.d x)).set j (.d y)).set k (.d z)) gs := fun M ks H0 H σ v S d Q q => by
  cases d with
  | tup g a =>
    cases a with
    | cons d1 a =>
      cases a with
      | cons d2 a =>
        cases a with
        | cons d3 a =>
          cases a
          refine ⟨_, _, rfl, same_t (mk_same _ _) g, rfl, _, _, rfl, _, _, rfl, _, _, rfl, rfl, ?_⟩
          exact q _ H (Same.refl H) (((S.set d1).set (d2.mono (mk_weak H (Mo_set_le rfl)))).set ((d3.mono (mk_weak H (Mo_set_le rfl))).mono (mk_weak H (Mo_set_le rfl)))) (by rw [wipe_set gs h'', wipe_set gs h', wipe_set gs h])
/-! ### a comprehension -/
theorem set_un {i : Nat} (h : env[i]? = some .un) : env.set i .un = env := by
  apply List.ext_getElem?
  intro j
  rw [List.getElem?_set]
  split
  · rename_i e; subst e
    rw [if_pos (List.getElem?_eq_some_iff.mp h).1, h]
  · rfl
theorem Stt.wipe (S : Stt P M ks H0 H σ env) : ∀ vs : List Nat, (∀ i ∈ vs, env[i]? = some .un) → Stt P M ks H0 H (L2.wipe σ vs) env
  | [], _ => S
  | i :: vs, h => by
    have q := (S.wipe vs fun j hj => h j (List.mem_cons_of_mem _ hj)).forget (i := i) (v := none)
    rw [set_un (h i List.mem_cons_self)] at q
    exact q
/-- a new thing that no data knows -/
theorem Stt.hide (S : Stt P M ks H0 H σ env) {D : Addr} {o : HO} (hD : H D = none) : Stt P (fun a => M a ∨ a = D) ks H0 (upd H D o) σ env := by
  have sm : Same H (upd H D o) := same_new hD
  have S1 := S.same sm
  have w : Same (msk (Mo M env) H) (msk (Mo (fun a => M a ∨ a = D) env) (upd H D o)) := fun c u h => by
    have h' := mk_out h
    have ne : c ≠ D := fun z => by rw [z, hD] at h'; cases h'.2
    exact mk_of (fun z => z.elim (fun z => z.elim (fun z => h'.1 (.inl z)) ne) (fun z => h'.1 (.inr z))) (sm c u h'.2)
  refine ⟨S1.ex, S1.inv, fun a h => .inl (S.gm a h), fun a h => ?_, S.len, fun i v e h1 h2 => ?_, fun p hp => (S.kp p hp).mono w, S.nd⟩
  · rcases h with h | h
    · exact S1.ml a h
    · subst h; rw [upd_same]; exact fun z => nomatch z
  · have ok := S.ok i v e h1 h2
    cases e with
    | un => cases v <;> trivial
    | d x => cases v with
      | none => exact ok
      | some v => exact Dd.mono w ok
    | raw q => cases v with
      | none => exact ok
      | some v => exact ok
    | own c ds => cases v with
      | none => exact ok
      | some v =>
        obtain ⟨a1, a2, a3, ws, a4, a5⟩ := ok
        exact ⟨a1, a2, (fun z => z.elim a3 fun z => by rw [z, hD] at a4; cases a4), ws, sm _ _ a4, a5.mono w⟩
    | owk c ds => cases v with
      | none => exact ok
      | some v =>
        obtain ⟨a1, a2, a3, ws, a4, a6, a5⟩ := ok
        exact ⟨a1, a2, (fun z => z.elim a3 fun z => by rw [z, hD] at a4; cases a4), ws, sm _ _ a4, a6, a5.mono w⟩
/-- what is hidden changes -/
theorem Stt.hid (S : Stt P M ks H0 H σ env) {D : Addr} {o : HO} (hM : M D) (h0 : H0 D = none) (hG : D ∉ P.G) : Stt P M ks H0 (upd H D o) σ env := by
  have w : Same (msk (Mo M env) H) (msk (Mo M env) (upd H D o)) := fun c u h => by
    have h' := mk_out h
    exact mk_of h'.1 (by rw [upd_ne (show c ≠ D from fun z => h'.1 (.inl (z ▸ hM)))]; exact h'.2)
  refine ⟨fun c u n e => by rw [upd_ne (show c ≠ D from fun z => by rw [z, h0] at e; cases e)]; exact S.ex c u n e, P.st _ _ (fun c u g e => by rw [upd_ne (show c ≠ D from fun z => hG (by rw [← z]; exact g))]; exact e) S.inv, S.gm, fun a h e => ?_, S.len, fun i v e h1 h2 => ?_, fun p hp => (S.kp p hp).mono w, S.nd⟩
  · by_cases c : a = D
    · subst c; rw [upd_same] at e; cases e
    · rw [upd_ne c] at e; exact S.ml a h e
  · exact (S.ok i v e h1 h2).mono w fun c n u e => by rw [upd_ne (show c ≠ D from fun z => n (z ▸ hM))]; exact e
theorem take_succ_filter {α β : Type} {p : α → Bool} {f : α → β} {xs : List α} {i : Nat} {d : α} (h : xs[i]? = some d) : ((xs.take (i + 1)).filter p).map f = ((xs.take i).filter p).map f ++ (if p d then [f d] else []) := by
  rw [List.take_add_one, h]
  simp only [Option.toList_some, List.filter_append, List.map_append]
  cases hp : p d <;> simp [hp]
/-- the heart of it: a comprehension over anything that keeps a condition -/
theorem lc_heart {g : TG} {tt : TT} {te : TE} {vs : List Nat} {α : Type} {ns : List α} {em : α → PyData} {xs : List PyData} (hx : xs = ns.map em) {envx : α → List Ent} {p : α → Bool} {f : α → PyData} {J : It} {Cn : Cnd} {H1 : Hp} {Q : VK}
    (S : Stt P M ks H0 H σ env) (e1 : ExG P.G H H1) (i1 : P.I H1) (hk : IterK P.K J xs Cn) (ks' : List (V × PyData)) (hks : ∀ q ∈ ks', Dd P.K (msk (Mo M env) H1) q.1 q.2)
    (hcn : ∀ M' H' σ', (∀ a, M a → M' a) → Stt P M' (ks' ++ ks) H0 H' σ' env → Cn (Mo M' env) H')
    (hun : ∀ i ∈ vs, env[i]? = some .un) (hg : ∀ x ∈ ns, GEv P g (em x) env (envx x) vs) (ht : ∀ x ∈ ns, TEd P tt (envx x) (p x)) (he : ∀ x ∈ ns, p x = true → EEd P false te (envx x) (f x))
    (hz : xs.length ≤ sizeLine) (hown : ∀ x ∈ ns, owned (envx x) = owned env)
    (q : ∀ D ws H', H D = none → ExG P.G H H' → P.I H' → H' D = some (.lst ws) → DdA P.K (msk (fun a => Mo M env a ∨ a = D) H') ws ((ns.filter p).map f) → Q (.ref D) H') :
    ∀ D, H1 D = none → ∃ W : Nat → Nat → Hp → Prop, (∃ m, W 0 m (upd H1 D (.lst []))) ∧ ∀ i m H, W i m H →
      (J.stop i H ∧ Q (.ref D) H) ∨ (J.go i H ∧ ∃ Nx : Hp → Prop, (∀ H', Nx H' → ∃ m', m' < m ∧ W (i + 1) m' H') ∧ ∀ x H', J.yld i H x H' → g x (L2.wipe σ vs) H' fun σ2 H2 => L2.wipe σ2 vs = L2.wipe σ vs ∧ tt σ2 H2 fun b H3 =>
        if b = true then te σ2 H3 fun y H4 => ∃ acc, H4 D = some (.lst acc) ∧ acc.length < sizeLine ∧ Nx (upd H4 D (.lst (acc ++ [y]))) else Nx H3) := by
  intro D hD
  obtain ⟨G, Y, w, hG, hY⟩ := hk.ex
  have S1 : Stt P M (ks' ++ ks) H0 H1 σ env := by
    have a := S.step e1 i1
    exact ⟨a.ex, a.inv, a.gm, a.ml, a.len, a.ok, fun p hp => (List.mem_append.mp hp).elim (hks p) (a.kp p), a.nd⟩
  have fr := S1.fresh0 hD
  have hDH : H D = none := fresh_back P.live i1 e1 hD
  have SW : Stt P (fun a => M a ∨ a = D) (ks' ++ ks) H0 (upd H1 D (.lst [])) (L2.wipe σ vs) env := (S1.wipe vs hun).hide hD
  have cn : ∀ H' , Stt P (fun a => M a ∨ a = D) (ks' ++ ks) H0 H' (L2.wipe σ vs) env → Cn (Mo (fun a => M a ∨ a = D) env) H' := fun H' S' => hcn _ H' _ (fun a h => .inl h) S'
  refine lc_it w (fun i H' => Stt P (fun a => M a ∨ a = D) (ks' ++ ks) H0 H' (L2.wipe σ vs) env ∧ ExG P.G H H' ∧ ∃ acc, H' D = some (.lst acc) ∧ acc.length ≤ i ∧ DdA P.K (msk (Mo (fun a => M a ∨ a = D) env) H') acc (((ns.take i).filter p).map f)) ?_ ?_ ?_ ?_
  · refine ⟨SW, e1.trans (.of (same_new hD)), [], upd_same, Nat.le_refl _, ?_⟩
    rw [List.take_zero]; exact .nil
  · intro i H' _ ⟨S', _⟩
    exact hG _ _ (cn _ S')
  · rintro i v H2 H3 hi ⟨S2, e2, acc, hacc, hlen, hda⟩ hy
    obtain ⟨sm3, d', hd', hdd⟩ := hY i H2 v H3 _ hi (cn _ S2) S2.mlo hy
    obtain ⟨d, hd, rfl⟩ : ∃ d, ns[i]? = some d ∧ em d = d' := by
      rw [hx, List.getElem?_map] at hd'
      exact Option.map_eq_some_iff.mp hd'
    have hmem : d ∈ ns := List.mem_of_getElem? hd
    have S3 := S2.same sm3
    refine hg d hmem _ _ _ _ _ _ S3 hdd _ fun σ4 H4 sm4 S4 hw => ⟨hw.trans (by rw [wipe_wipe vs]), ?_⟩
    have e4 : ExG P.G H2 H4 := (ExG.of sm3).trans (.of sm4)
    refine ht d hmem _ _ _ _ _ S4 _ fun c H5 hc e5 i5 => ?_
    subst hc
    have S5 := S4.step e5 i5
    have back : ∀ {σ' H'}, Stt P (fun a => M a ∨ a = D) (ks' ++ ks) H0 H' σ' (envx d) → L2.wipe σ' vs = L2.wipe σ vs → ExG P.G H2 H' → Stt P (fun a => M a ∨ a = D) (ks' ++ ks) H0 H' (L2.wipe σ vs) env := fun {σ' H'} S' hw e => S2.step e S'.inv
    have hDG : D ∉ P.G := fr.2.2.1
    have tk := take_succ_filter (p := p) (f := f) hd
    cases hp : p d with
    | false =>
      have e := e4.trans e5
      refine ⟨S2.step e i5, e2.trans e, acc, e D _ hDG hacc, by omega, ?_⟩
      rw [tk, hp]
      simp only [Bool.false_eq_true, if_false, List.append_nil]
      exact hda.mono (e.msk S2.gmo)
    | true =>
      show te σ4 H5 _
      refine he d hmem hp _ _ _ _ _ S5 _ fun y yd H6 hyd e6 i6 dy => ?_
      subst hyd
      have e := (e4.trans e5).trans e6
      have S6 := S2.step e i6
      have hD6 : H6 D = some (.lst acc) := e D _ hDG hacc
      have S7 := S6.hid (D := D) (o := .lst (acc ++ [y])) (.inr rfl) fr.1 hDG
      have w7 : Same (msk (Mo (fun a => M a ∨ a = D) env) H6) (msk (Mo (fun a => M a ∨ a = D) env) (upd H6 D (.lst (acc ++ [y])))) := fun c u h => by
        have h' := mk_out h
        exact mk_of h'.1 (by rw [upd_ne (show c ≠ D from fun z => h'.1 (.inl (.inr z)))]; exact h'.2)
      have hlt := hi
      refine ⟨acc, hD6, by omega, S7, ?_, acc ++ [y], upd_same, by simp; omega, ?_⟩
      · refine fun c u n h => ?_
        rw [upd_ne (show c ≠ D from fun z => by rw [z, hDH] at h; cases h)]
        exact e c u n (e2 c u n h)
      · rw [tk, hp]
        simp only [if_true]
        refine ((hda.mono (e.msk S2.gmo)).append (.cons ?_ .nil)).mono w7
        have : Mo (fun a => M a ∨ a = D) (envx d) = Mo (fun a => M a ∨ a = D) env := by unfold Mo; rw [hown d hmem]
        have dy' : Dd P.K (msk (Mo (fun a => M a ∨ a = D) (envx d)) H6) y (f d) := dy
        rw [this] at dy'
        exact dy'
  · rintro H' ⟨S', e', acc, hacc, hlen, hda⟩
    rw [List.take_of_length_le (by rw [hx, List.length_map]; exact Nat.le_refl _)] at hda
    refine q D acc H' hDH e' S'.inv hacc (hda.mono (mk_weak H' fun a h => ?_))
    rcases h with (h | h) | h
    · exact .inl (.inl h)
    · exact .inr h
    · exact .inl (.inr h)
where wipe_wipe {σ : L2.St} : ∀ vs : List Nat, L2.wipe (L2.wipe σ vs) vs = L2.wipe σ vs
  | vs => by
    apply List.ext_getElem?
    intro j
    by_cases hj : j ∈ vs
    · have h1 : ∀ τ : L2.St, ∀ us : List Nat, j ∈ us → (L2.wipe τ us)[j]? = if j < τ.length then some none else none := by
        intro τ us
        induction us with
        | nil => intro h; cases h
        | cons u us ih =>
          intro h
          unfold L2.wipe
          rw [List.getElem?_set]
          by_cases e : u = j
          · subst e; simp [wipe_length]
          · rw [if_neg e]
            exact ih ((List.mem_cons.mp h).resolve_left fun z => e z.symm)
      rw [h1 _ vs hj, h1 _ vs hj, wipe_length]
    · rw [wipe_out hj, wipe_out hj]
theorem le_lc {wi : TI} {g : TG} {tt : TT} {te : TE} {vs : List Nat} {α : Type} {ns : List α} {em : α → PyData} {envx : α → List Ent} {p : α → Bool} {f : α → PyData} (hi : IEv P wi env (ns.map em)) (hun : ∀ i ∈ vs, env[i]? = some .un)
    (hg : ∀ x ∈ ns, GEv P g (em x) env (envx x) vs) (ht : ∀ x ∈ ns, TEd P tt (envx x) (p x)) (he : ∀ x ∈ ns, p x = true → EEd P false te (envx x) (f x)) (hz : ns.length ≤ sizeLine) (hown : ∀ x ∈ ns, owned (envx x) = owned env) :
    LEv P (tLc wi g tt te vs) env (fun y => y = (ns.filter p).map f) := fun M ks H0 H σ S Q q =>
  hi M ks H0 H σ S _ fun J H1 kv e1 i1 hkv hk => lc_heart rfl S e1 i1 hk kv hkv (fun M' H' σ' _ S' q hq => S'.kp q (List.mem_append_left _ hq)) hun hg ht he (by rw [List.length_map]; exact hz) hown fun D ws H' a b c d e => q D ws _ H' rfl a b c d e
theorem le_lco {wi : TI} {g : TG} {tt : TT} {te : TE} {vs : List Nat} {α : Type} {ns : List α} {em : α → PyData} {envx : α → List Ent} {p : α → Bool} {f : α → PyData} {j : Nat} {a : Addr} (hi : IEo P wi env j a (ns.map em)) (hun : ∀ i ∈ vs, env[i]? = some .un)
    (hg : ∀ x ∈ ns, GEv P g (em x) env (envx x) vs) (ht : ∀ x ∈ ns, TEd P tt (envx x) (p x)) (he : ∀ x ∈ ns, p x = true → EEd P false te (envx x) (f x)) (hz : ns.length ≤ sizeLine) (hown : ∀ x ∈ ns, owned (envx x) = owned env) :
    LEv P (tLc wi g tt te vs) env (fun y => y = (ns.filter p).map f) := fun M ks H0 H σ S Q q =>
  hi.2 M ks H0 H σ S _ fun J hk => lc_heart rfl S (.refl _ _) S.inv hk [] (fun _ h => nomatch h) (fun M' H' σ' _ S' => by
    have hi' : j < σ'.length := by rw [S'.len]; exact (List.getElem?_eq_some_iff.mp hi.1).1
    have ok := S'.ok j σ'[j] _ (List.getElem?_eq_getElem hi') hi.1
    cases e : σ'[j] with
    | none => rw [e] at ok; exact ok.elim
    | some v =>
      rw [e] at ok
      obtain ⟨_, _, _, vs, g, d⟩ := ok
      exact ⟨vs, g, d⟩) hun hg ht he (by rw [List.length_map]; exact hz) hown fun D ws H' a b c d e => q D ws _ H' rfl a b c d e
end
end Fw
end

section
/-! Fw5: statements, loops, defs. -/
namespace Fw
open PyProof.Rows PySem PySem.Spec L2
structure Po where
  N : List Ent → Prop
  R : PyData → Prop
  B : List Ent → Prop := fun _ => False
  C : List Ent → Prop := fun _ => False
  X : Addr → List (Str × PyData) → Prop := fun _ _ => False
structure Fits (P : Pm) (E : XK) (M : Addr → Prop) (ks : List (V × PyData)) (H0 : Hp) (D : Ends) (po : Po) : Prop where
  nx : ∀ σ' H' env', po.N env' → Stt P M ks H0 H' σ' env' → D.nx σ' H'
  rt : ∀ v d H', po.R d → ExG P.G H0 H' → P.I H' → Dd P.K (msk M H') v d → D.rt v H'
  bk : ∀ σ' H' env', po.B env' → Stt P M ks H0 H' σ' env' → D.bk σ' H'
  ct : ∀ σ' H' env', po.C env' → Stt P M ks H0 H' σ' env' → D.ct σ' H'
  xs : ∀ C fs dd H', po.X C fs → ExG P.G H0 H' → P.I H' → XdOk P.K (msk M H') dd fs → E (.ref C) dd H'
def SEv (P : Pm) (E : XK) (ts : TS) (env : List Ent) (po : Po) : Prop := ∀ M ks H0 H σ D, Stt P M ks H0 H σ env → Fits P E M ks H0 D po → ts D σ H
section
variable {P : Pm} {E : XK} {env : List Ent} {b b1 b2 : Bool} {ta tb te tc : TE} {t u : TS} {c : TT} {x y z : PyData} {Φ Ψ : PyData → Prop} {H H' : Hp} {M : Addr → Prop} {ks : List (V × PyData)} {H0 : Hp} {σ : L2.St} {K : PySem.W.Frag} {po : Po}
theorem SEv.imp {po' : Po} (h : SEv P E t env po) (n : ∀ e, po.N e → po'.N e) (r : ∀ d, po.R d → po'.R d) (bk : ∀ e, po.B e → po'.B e) (ct : ∀ e, po.C e → po'.C e) (xx : ∀ C fs, po.X C fs → po'.X C fs) : SEv P E t env po' :=
  fun M ks H0 H σ D S F => h M ks H0 H σ D S ⟨fun a b e q => F.nx a b e (n e q), fun v d H' q => F.rt v d H' (r d q), fun a b e q => F.bk a b e (bk e q), fun a b e q => F.ct a b e (ct e q), fun C fs dd H' q => F.xs C fs dd H' (xx C fs q)⟩
theorem sq {N' : List Ent → Prop} (h1 : SEv P E t env { po with N := N' }) (h2 : ∀ env', N' env' → SEv P E u env' po) : SEv P E (tSeq t u) env po :=
  fun M ks H0 H σ D S F => h1 M ks H0 H σ { D with nx := u D } S ⟨fun σ' H' env' q S' => h2 env' q M ks H0 H' σ' D S' F, F.rt, F.bk, F.ct, F.xs⟩
theorem se_next (h : po.N env) : SEv P E tNext env po := fun M ks H0 H σ D S F => F.nx σ H env h S
theorem se_break (h : po.B env) : SEv P E tBreak env po := fun M ks H0 H σ D S F => F.bk σ H env h S
theorem se_cont (h : po.C env) : SEv P E tCont env po := fun M ks H0 H σ D S F => F.ct σ H env h S
theorem se_asgG {i : Nat} (he : EEv P false te env Φ) (h : ∀ x, Φ x → po.N (env.set i (.d x))) : SEv P E (tAsg te (gName i)) env po := fun M ks H0 H σ D S F =>
  he M ks H0 H σ S _ fun v x H1 hx e1 i1 d1 => F.nx _ H1 _ (h x hx) ((S.step e1 i1).set d1)
theorem se_asg {i : Nat} (he : EEd P false te env x) (h : po.N (env.set i (.d x))) : SEv P E (tAsg te (gName i)) env po := se_asgG he fun y e => by rw [e]; exact h
theorem sq_asgG {i : Nat} (he : EEv P false te env Φ) (h : ∀ x, Φ x → SEv P E u (env.set i (.d x)) po) : SEv P E (tSeq (tAsg te (gName i)) u) env po := sq (N' := fun e => ∃ x, Φ x ∧ e = env.set i (.d x)) (se_asgG he fun x hx => ⟨x, hx, rfl⟩) fun e ⟨x, hx, q⟩ => by rw [q]; exact h x hx
theorem sq_asg {i : Nat} (he : EEd P false te env x) (h : SEv P E u (env.set i (.d x)) po) : SEv P E (tSeq (tAsg te (gName i)) u) env po := sq_asgG he fun y e => by rw [e]; exact h
theorem se_ret (he : EEv P b te env Φ) (h : ∀ x, Φ x → po.R x) : SEv P E (tRet te) env po := fun M ks H0 H σ D S F =>
  he M ks H0 H σ S _ fun v x H1 hx e1 i1 d1 => F.rt v x H1 (h x hx) (S.ex.trans e1) i1 (d1.mono (mk_weak H1 (mskb_ge b)))
theorem se_retD (he : EEd P b te env x) (h : po.R x) : SEv P E (tRet te) env po := se_ret he fun y e => by rw [e]; exact h
theorem se_retN (h : po.R .none) : SEv P E tRetN env po := fun M ks H0 H σ D S F => F.rt _ _ H h S.ex S.inv .non
theorem se_drop (he : EEv P b te env Φ) (h : po.N env) : SEv P E (tDrop te) env po := fun M ks H0 H σ D S F =>
  he M ks H0 H σ S _ fun v x H1 hx e1 i1 d1 => F.nx _ H1 _ h (S.step e1 i1)
theorem se_if {k : Bool} (hc : TEd P c env k) (h1 : k = true → SEv P E t env po) (h2 : k = false → SEv P E u env po) : SEv P E (tIfS c t u) env po := fun M ks H0 H σ D S F =>
  hc M ks H0 H σ S _ fun k' H1 hk e1 i1 => by
    subst hk
    cases k' with
    | true => exact h1 rfl M ks H0 H1 σ D (S.step e1 i1) F
    | false => exact h2 rfl M ks H0 H1 σ D (S.step e1 i1) F
/-- if, then what follows in both ways -/
theorem sq_if {k : Bool} {w : TS} (hc : TEd P c env k) (h1 : k = true → SEv P E (tSeq t w) env po) (h2 : k = false → SEv P E (tSeq u w) env po) : SEv P E (tSeq (tIfS c t u) w) env po := fun M ks H0 H σ D S F =>
  hc M ks H0 H σ S _ fun k' H1 hk e1 i1 => by
    subst hk
    cases k' with
    | true => exact h1 rfl M ks H0 H1 σ D (S.step e1 i1) F
    | false => exact h2 rfl M ks H0 H1 σ D (S.step e1 i1) F
/-- a return ahead of what is never reached -/
theorem sq_ret {w : TS} (h : SEv P E (tRet te) env { po with N := fun _ => False }) : SEv P E (tSeq (tRet te) w) env po := sq h fun _ q => q.elim
theorem sq_next {w : TS} (h : SEv P E w env po) : SEv P E (tSeq tNext w) env po := fun M ks H0 H σ D S F => h M ks H0 H σ D S F
theorem sq_assoc {v w : TS} (h : SEv P E (tSeq t (tSeq v w)) env po) : SEv P E (tSeq (tSeq t v) w) env po := h
theorem sq_drop {w : TS} (he : EEv P b te env Φ) (h : SEv P E w env po) : SEv P E (tSeq (tDrop te) w) env po := sq (N' := fun e => e = env) (se_drop he rfl) fun e q => by rw [q]; exact h
/-! ### lists of one's own -/
theorem Stt.setOwn' (S : Stt P M ks H0 H σ env) {i : Nat} {p : Addr} {vs : List V} {ds : List PyData} (hp : H p = none) {H1 : Hp} (e1 : ExG P.G H H1) (i1 : P.I H1) (g : H1 p = some (.lst vs)) (hd : DdA P.K (msk (fun a => Mo M env a ∨ a = p) H1) vs ds) : Stt P M ks H0 H1 (σ.set i (some (.ref p))) (env.set i (.own p ds)) := by
  have q := (S.forget (i := i) (v := none)).setOwn (i := i) hp e1 i1 g (hd.mono (mk_weak H1 fun a h => h.elim (fun h => .inl (Mo_set_le rfl a h)) .inr)) fun e he => by
    rw [List.getElem?_set] at he
    simp only [if_true] at he
    split at he
    · cases he; rfl
    · cases he
  rw [List.set_set, List.set_set] at q
  exact q
theorem se_asgL {i : Nat} {Ψ : List PyData → Prop} (he : LEv P te env Ψ) (h : ∀ a ds, Ψ ds → po.N (env.set i (.own a ds))) : SEv P E (tAsg te (gName i)) env po := fun M ks H0 H σ D S F =>
  he M ks H0 H σ S _ fun p vs xs H1 hx hp e1 i1 g d => F.nx _ H1 _ (h p xs hx) (S.setOwn' hp e1 i1 g d)
theorem sq_asgL {i : Nat} {ds : List PyData} (he : LEv P te env (fun y => y = ds)) (h : ∀ a, SEv P E u (env.set i (.own a ds)) po) : SEv P E (tSeq (tAsg te (gName i)) u) env po := sq (N' := fun e => ∃ a, e = env.set i (.own a ds)) (se_asgL he fun a ds' e => ⟨a, by rw [e]⟩) fun e ⟨a, q⟩ => by rw [q]; exact h a
theorem Stt.at_own (S : Stt P M ks H0 H σ env) {i : Nat} {a : Addr} {ds : List PyData} (h : env[i]? = some (.own a ds)) : σ[i]? = some (some (.ref a)) ∧ ∃ vs, H a = some (.lst vs) ∧ DdA P.K (msk (Mo M env) H) vs ds := by
  have hi : i < σ.length := by rw [S.len]; exact (List.getElem?_eq_some_iff.mp h).1
  have ok := S.ok i σ[i] _ (List.getElem?_eq_getElem hi) h
  cases e : σ[i] with
  | none => rw [e] at ok; exact ok.elim
  | some v =>
    rw [e] at ok
    obtain ⟨rfl, _, _, vs, g, d⟩ := ok
    exact ⟨by rw [List.getElem?_eq_getElem hi, e], vs, g, d⟩
theorem se_append {i : Nat} {a : Addr} {ds : List PyData} (h : env[i]? = some (.own a ds)) (he : EEd P false te env x) (hz : ds.length < sizeLine) (hn : po.N (env.set i (.own a (ds ++ [x])))) : SEv P E (tDrop (tBM P.K "list" rAppend (tVar i) (tCons te tNil))) env po := fun M ks H0 H σ D S F => by
  obtain ⟨hs, vs, g, d⟩ := S.at_own h
  refine ⟨_, hs, .inl ⟨rfl, _, SqL.of g⟩, he M ks H0 H σ S _ fun w y H1 hy e1 i1 d1 => ?_⟩
  subst hy
  have S1 := S.step e1 i1
  obtain ⟨_, vs1, g1, d2⟩ := S1.at_own h
  refine ⟨_, _, w, rfl, rfl, g1, by rw [d2.length]; exact hz, ?_⟩
  exact F.nx _ _ _ hn (S1.mut h (d2.append (.cons d1 .nil)))
theorem sq_append {i : Nat} {a : Addr} {ds : List PyData} (h : env[i]? = some (.own a ds)) (he : EEd P false te env x) (hz : ds.length < sizeLine) (hn : SEv P E u (env.set i (.own a (ds ++ [x]))) po) : SEv P E (tSeq (tDrop (tBM P.K "list" rAppend (tVar i) (tCons te tNil))) u) env po :=
  sq (N' := fun e => e = env.set i (.own a (ds ++ [x]))) (se_append h he hz rfl) fun e q => by rw [q]; exact hn
theorem se_extend {i : Nat} {a : Addr} {ds es : List PyData} (h : env[i]? = some (.own a ds)) (he : EEd P false te env (.list es)) (hz : ds.length + es.length ≤ sizeLine) (hn : po.N (env.set i (.own a (ds ++ es)))) : SEv P E (tDrop (tBM P.K "list" rExtend (tVar i) (tCons te tNil))) env po := fun M ks H0 H σ D S F => by
  obtain ⟨hs, vs, g, d⟩ := S.at_own h
  refine ⟨_, hs, .inl ⟨rfl, _, SqL.of g⟩, he M ks H0 H σ S _ fun w y H1 hy e1 i1 d1 => ?_⟩
  subst hy
  have S1 := S.step e1 i1
  obtain ⟨_, vs1, g1, d2⟩ := S1.at_own h
  cases d1 with
  | lst g3 d3 =>
    refine ⟨_, _, _, _, rfl, rfl, g1, (mk_out g3).2, by rw [d2.length, d3.length]; exact hz, ?_⟩
    exact F.nx _ _ _ hn (S1.mut h (d2.append d3))
theorem sq_extend {i : Nat} {a : Addr} {ds es : List PyData} (h : env[i]? = some (.own a ds)) (he : EEd P false te env (.list es)) (hz : ds.length + es.length ≤ sizeLine) (hn : SEv P E u (env.set i (.own a (ds ++ es))) po) : SEv P E (tSeq (tDrop (tBM P.K "list" rExtend (tVar i) (tCons te tNil))) u) env po :=
  sq (N' := fun e => e = env.set i (.own a (ds ++ es))) (se_extend h he hz rfl) fun e q => by rw [q]; exact hn
/-- xs[k] = e, xs a list of one's own -/
theorem se_setIx {i : Nat} {a : Addr} {ds : List PyData} {k : Int} {j : Nat} (h : env[i]? = some (.own a ds)) (he : EEd P false te env x) (hk : EEd P b ta env (.int k)) (hj : ixN ds.length k = some j) (hn : po.N (env.set i (.own a (ds.set j x)))) : SEv P E (tAsg te (gSub (tVar i) ta rSetL)) env po := fun M ks H0 H σ D S F =>
  he M ks H0 H σ S _ fun w y H1 hy e1 i1 d1 => by
    subst hy
    have S1 := S.step e1 i1
    obtain ⟨hs, vs, g, d⟩ := S1.at_own h
    refine ⟨_, hs, hk M ks H0 H1 σ S1 _ fun w2 y2 H2 hy2 e2 i2 d2 => ?_⟩
    subst hy2
    cases d2
    have S2 := S1.step e2 i2
    obtain ⟨_, vs2, g2, d3⟩ := S2.at_own h
    refine ⟨a, vs2, k, j, rfl, rfl, g2, by rw [d3.length]; exact hj, ?_⟩
    exact F.nx _ _ _ hn (S2.mut h (d3.set j (d1.mono (e2.msk S1.gmo))))
theorem sq_setIx {i : Nat} {a : Addr} {ds : List PyData} {k : Int} {j : Nat} (h : env[i]? = some (.own a ds)) (he : EEd P false te env x) (hk : EEd P b ta env (.int k)) (hj : ixN ds.length k = some j) (hn : SEv P E u (env.set i (.own a (ds.set j x))) po) : SEv P E (tSeq (tAsg te (gSub (tVar i) ta rSetL)) u) env po :=
  sq (N' := fun e => e = env.set i (.own a (ds.set j x))) (se_setIx h he hk hj rfl) fun e q => by rw [q]; exact hn
/-- a name takes another one's list, which is forgotten there -/
theorem Stt.move (S : Stt P M ks H0 H σ env) {i j : Nat} {a : Addr} {ds : List PyData} (h : env[j]? = some (.own a ds)) (hij : i ≠ j) (hi : i < env.length) : Stt P M ks H0 H (σ.set i (some (.ref a))) ((env.set j .un).set i (.own a ds)) := by
  obtain ⟨hs, vs, g, d⟩ := S.at_own h
  have hj := (List.getElem?_eq_some_iff.mp h).1
  have ok := S.ok j _ _ hs h
  have S1 : Stt P M ks H0 H (σ.set i none) (env.set i .un) := S.forget
  have addr : ∀ (k : Nat) (f : Ent) (c : Addr), ((env.set j .un).set i (.own a ds))[k]? = some f → f.addr = some c → (k = i ∧ c = a) ∨ (k ≠ i ∧ k ≠ j ∧ env[k]? = some f) := fun k f c hk hc => by
    rw [List.getElem?_set] at hk
    split at hk
    · split at hk
      · cases hk; cases hc; rename_i e _; exact .inl ⟨e.symm, rfl⟩
      · cases hk
    · rename_i ne
      rw [List.getElem?_set] at hk
      by_cases jk : j = k
      · subst jk
        simp [hj] at hk
        subst hk; cases hc
      · rw [if_neg jk] at hk
        exact .inr ⟨fun z => ne z.symm, fun z => jk z.symm, hk⟩
  have hMo : ∀ c, Mo M ((env.set j .un).set i (.own a ds)) c → Mo M env c := fun c hc => by
    rcases hc with hc | hc
    · exact .inl hc
    · obtain ⟨k, f, hk, ha⟩ := mem_owned.mp hc
      rcases addr k f c hk ha with ⟨_, rfl⟩ | ⟨_, _, q⟩
      · exact .inr (mem_owned.mpr ⟨j, _, h, rfl⟩)
      · exact .inr (mem_owned.mpr ⟨k, f, q, ha⟩)
  have w : Same (msk (Mo M env) H) (msk (Mo M ((env.set j .un).set i (.own a ds))) H) := mk_weak H hMo
  refine ⟨S.ex, S.inv, S.gm, S.ml, by rw [List.length_set, List.length_set, List.length_set]; exact S.len, fun k v f h1 h2 => ?_, fun p hp => (S.kp p hp).mono w, fun k l f g' c h1 h2 h3 h4 => ?_⟩
  · by_cases ki : k = i
    · subst ki
      rw [List.getElem?_set] at h1 h2
      simp only [if_true] at h1 h2
      split at h1
      · split at h2
        · cases h1; cases h2
          obtain ⟨_, p, q, vs', r, s⟩ := ok
          exact ⟨rfl, p, q, vs', r, s.mono w⟩
        · cases h2
      · cases h1
    · rw [List.getElem?_set, if_neg (fun z => ki z.symm)] at h1 h2
      by_cases kj : k = j
      · subst kj
        rw [List.getElem?_set] at h2
        simp [hj] at h2
        subst h2; cases v <;> trivial
      · rw [List.getElem?_set, if_neg (fun z => kj z.symm)] at h2
        exact (S.ok k v f h1 h2).mono w fun _ _ _ h => h
  · rcases addr k f c h1 h3 with ⟨rfl, rfl⟩ | ⟨n1, n2, q1⟩
    · rcases addr l g' c h2 h4 with ⟨rfl, _⟩ | ⟨n1, n2, q2⟩
      · rfl
      · exact absurd (S.nd l j g' _ c q2 h h4 rfl) n2
    · rcases addr l g' c h2 h4 with ⟨rfl, rfl⟩ | ⟨n3, n4, q2⟩
      · exact absurd (S.nd k j f _ c q1 h h3 rfl) n2
      · exact S.nd k l f g' c q1 q2 h3 h4
theorem se_move {i j : Nat} {a : Addr} {ds : List PyData} (h : env[j]? = some (.own a ds)) (hij : i ≠ j) (hi : i < env.length) (hn : po.N ((env.set j .un).set i (.own a ds))) : SEv P E (tAsg (tVar j) (gName i)) env po := fun M ks H0 H σ D S F => by
  obtain ⟨hs, _⟩ := S.at_own h
  exact ⟨_, hs, F.nx _ _ _ hn (S.move h hij hi)⟩
/-! ### calls that may raise -/
theorem XdOk.mono' {K : PySem.W.Frag} {H H' : Hp} {dd : Option Addr} (w : Same H H') : ∀ {fs : List (Str × PyData)}, XdOk K H dd fs → XdOk K H' dd fs
  | [], h => h
  | _ :: _, ⟨a, vs, h1, h2, h3, h4⟩ => ⟨a, vs, h1, w _ _ h2, h3, h4.mono w⟩
theorem se_dropX {F : FSp} {ta : TA} (x : F.α) (ha : AEd P b ta env (F.args x)) (hp : F.pre x) (hn : ∀ z, F.post x z → po.N env) (hx : ∀ C fs, F.err x C fs → po.X C fs) : SEv P E (tDrop (tCall (SpF (.pure P.K) F) [] E ta)) env po := fun M ks H0 H σ D S Fi =>
  ha M ks H0 H σ S _ fun vs as' H1 ea e1 i1 a => by
    subst ea
    have S1 := S.step e1 i1
    refine ⟨mskb M env b, x, (fun _ h => by cases h), S1.mlb b, trivial, by rw [List.append_nil]; exact a, hp, fun v d H' hd e2 _ dd => ?_, fun C fs dd H' h e2 _ xd => ?_⟩
    · exact Fi.nx _ H' _ (hn d hd) (S1.same e2.nil)
    · exact Fi.xs C fs dd H' (hx C fs h) (S.ex.trans (e1.trans (.of e2.nil))) (S1.is e2.nil) (XdOk.mono' (mk_weak H' (mskb_ge b)) xd)
theorem sq_dropX {F : FSp} {ta : TA} (x : F.α) (ha : AEd P b ta env (F.args x)) (hp : F.pre x) (hn : ∀ z, F.post x z → SEv P E u env po) (hx : ∀ C fs, F.err x C fs → po.X C fs) : SEv P E (tSeq (tDrop (tCall (SpF (.pure P.K) F) [] E ta)) u) env po :=
  sq (N' := fun e => e = env ∧ ∃ z, F.post x z) (se_dropX x ha hp (fun z hz => ⟨rfl, z, hz⟩) hx) fun e ⟨q, z, hz⟩ => by rw [q]; exact hn z hz
theorem se_retX {F : FSp} {ta : TA} (x : F.α) (ha : AEd P b ta env (F.args x)) (hp : F.pre x) (hn : ∀ z, F.post x z → po.R z) (hx : ∀ C fs, F.err x C fs → po.X C fs) : SEv P E (tRet (tCall (SpF (.pure P.K) F) [] E ta)) env po := fun M ks H0 H σ D S Fi =>
  ha M ks H0 H σ S _ fun vs as' H1 ea e1 i1 a => by
    subst ea
    have S1 := S.step e1 i1
    refine ⟨mskb M env b, x, (fun _ h => by cases h), S1.mlb b, trivial, by rw [List.append_nil]; exact a, hp, fun v d H' hd e2 _ dd => ?_, fun C fs dd H' h e2 _ xd => ?_⟩
    · exact Fi.rt _ d H' (hn d hd) (S.ex.trans (e1.trans (.of e2.nil))) (S1.is e2.nil) (dd.mono (mk_weak H' (mskb_ge b)))
    · exact Fi.xs C fs dd H' (hx C fs h) (S.ex.trans (e1.trans (.of e2.nil))) (S1.is e2.nil) (XdOk.mono' (mk_weak H' (mskb_ge b)) xd)
theorem sq_asgX {F : FSp} {ta : TA} {i : Nat} (x : F.α) (ha : AEd P false ta env (F.args x)) (hp : F.pre x) (hn : ∀ z, F.post x z → SEv P E u (env.set i (.d z)) po) (hx : ∀ C fs, F.err x C fs → po.X C fs) : SEv P E (tSeq (tAsg (tCall (SpF (.pure P.K) F) [] E ta) (gName i)) u) env po := fun M ks H0 H σ D S Fi =>
  ha M ks H0 H σ S _ fun vs as' H1 ea e1 i1 a => by
    subst ea
    have S1 := S.step e1 i1
    refine ⟨Mo M env, x, (fun _ h => by cases h), S1.mlo, trivial, by rw [List.append_nil]; exact a, hp, fun v d H' hd e2 _ dd => ?_, fun C fs dd H' h e2 _ xd => ?_⟩
    · exact hn d hd _ _ _ _ _ _ ((S1.same e2.nil).set dd) Fi
    · exact Fi.xs C fs dd H' (hx C fs h) (S.ex.trans (e1.trans (.of e2.nil))) (S1.is e2.nil) (XdOk.mono' (mk_weak H' fun a h => .inl h) xd)
/-- raise X('..') -/
def tRaiseC (C : Addr) (E : XK) : TS := fun _ _ H => E (.ref C) none H
theorem se_raise {C : Addr} (h : po.X C []) : SEv P E (tRaiseC C E) env po := fun M ks H0 H σ D S F => F.xs C [] none H h S.ex S.inv rfl
theorem sq_raise {C : Addr} (h : po.X C []) : SEv P E (tSeq (tRaiseC C E) u) env po := fun M ks H0 H σ D S F => F.xs C [] none H h S.ex S.inv rfl
/-! ### for -/
theorem for_heart {g : TG} {tb : TS} {xs : List PyData} {J : It} {Cn : Cnd} {D : Ends} {H1 : Hp} (S : Stt P M ks H0 H1 σ env) (F : Fits P E M ks H0 D po) (hk : IterK P.K J xs Cn) (Pv : Nat → List Ent → Prop)
    (hcn : ∀ i H' σ' env', Pv i env' → Stt P M ks H0 H' σ' env' → Cn (Mo M env') H')
    (h0 : Pv 0 env) (hs : ∀ i x env', xs[i]? = some x → Pv i env' → ∃ env'' gs, GEv P g x env' env'' gs ∧ SEv P E tb env'' { po with N := Pv (i + 1), C := Pv (i + 1), B := po.N }) (hd : ∀ env', Pv xs.length env' → po.N env') :
    ∃ W : Nat → Nat → L2.St → Hp → Prop, (∃ m, W 0 m σ H1) ∧ ∀ i m σ H, W i m σ H →
      (J.stop i H ∧ D.nx σ H) ∨ (J.go i H ∧ ∃ N : L2.St → Hp → Prop, (∀ σ' H', N σ' H' → ∃ m', m' < m ∧ W (i + 1) m' σ' H') ∧ ∀ x H', J.yld i H x H' → g x σ H' fun σ2 H2 => tb { D with nx := N, ct := N, bk := D.nx } σ2 H2) := by
  obtain ⟨G, Y, w, hG, hY⟩ := hk.ex
  refine for_it w (fun i σ' H' => ∃ env', Pv i env' ∧ Stt P M ks H0 H' σ' env') ⟨env, h0, S⟩ (fun i σ' H' _ ⟨env', p, S'⟩ => hG _ _ (hcn i H' σ' env' p S')) ?_ (fun σ' H' ⟨env', p, S'⟩ => F.nx σ' H' env' (hd env' p) S')
  rintro i v σ2 H2 H3 hi ⟨env', p, S2⟩ hy
  obtain ⟨sm, d, hd', hdd⟩ := hY i H2 v H3 _ hi (hcn i H2 σ2 env' p S2) S2.mlo hy
  obtain ⟨env'', gs, hg, hb⟩ := hs i d env' hd' p
  refine hg M ks H0 H3 σ2 v (S2.same sm) hdd _ fun σ4 H4 sm4 S4 _ => ?_
  exact hb M ks H0 H4 σ4 _ S4 ⟨fun a b e q S' => ⟨e, q, S'⟩, F.rt, fun a b e q S' => F.nx a b e q S', fun a b e q S' => ⟨e, q, S'⟩, F.xs⟩
theorem se_for {wi : TI} {g : TG} {tb : TS} {xs : List PyData} (hi : IEv P wi env xs) (Pv : Nat → List Ent → Prop) (h0 : Pv 0 env)
    (hs : ∀ i x env', xs[i]? = some x → Pv i env' → ∃ env'' gs, GEv P g x env' env'' gs ∧ SEv P E tb env'' { po with N := Pv (i + 1), C := Pv (i + 1), B := po.N }) (hd : ∀ env', Pv xs.length env' → po.N env') : SEv P E (tFor wi g tb) env po := fun M ks H0 H σ D S F =>
  hi M ks H0 H σ S _ fun J H1 kv e1 i1 hkv hk => by
    have S1 := S.step e1 i1
    have S2 : Stt P M (kv ++ ks) H0 H1 σ env := ⟨S1.ex, S1.inv, S1.gm, S1.ml, S1.len, S1.ok, fun p hp => (List.mem_append.mp hp).elim (hkv p) (S1.kp p), S1.nd⟩
    have un : ∀ {σ' H' env'}, Stt P M (kv ++ ks) H0 H' σ' env' → Stt P M ks H0 H' σ' env' := fun S' => ⟨S'.ex, S'.inv, S'.gm, S'.ml, S'.len, S'.ok, fun p hp => S'.kp p (List.mem_append_right _ hp), S'.nd⟩
    exact for_heart S2 ⟨fun a b e q S' => F.nx a b e q (un S'), F.rt, fun a b e q S' => F.bk a b e q (un S'), fun a b e q S' => F.ct a b e q (un S'), F.xs⟩ hk Pv (fun i H' σ' env' _ S' q hq => S'.kp q (List.mem_append_left _ hq)) h0 hs hd
theorem se_foro {wi : TI} {g : TG} {tb : TS} {xs : List PyData} {j : Nat} {a : Addr} (hi : IEo P wi env j a xs) (Pv : Nat → List Ent → Prop) (ho : ∀ i env', Pv i env' → env'[j]? = some (.own a xs)) (h0 : Pv 0 env)
    (hs : ∀ i x env', xs[i]? = some x → Pv i env' → ∃ env'' gs, GEv P g x env' env'' gs ∧ SEv P E tb env'' { po with N := Pv (i + 1), C := Pv (i + 1), B := po.N }) (hd : ∀ env', Pv xs.length env' → po.N env') : SEv P E (tFor wi g tb) env po := fun M ks H0 H σ D S F =>
  hi.2 M ks H0 H σ S _ fun J hk => for_heart S F hk Pv (fun i H' σ' env' p S' => by
    obtain ⟨_, vs, g, d⟩ := S'.at_own (ho i env' p)
    exact ⟨vs, g, d⟩) h0 hs hd
/-! ### while -/
theorem se_while {tb : TS} (Inv : Nat → List Ent → Prop) (h0 : ∃ m, Inv m env) (hs : ∀ m env', Inv m env' → ∃ k, TEd P c env' k ∧ (k = true → SEv P E tb env' { po with N := fun e => ∃ m', m' < m ∧ Inv m' e, C := fun e => ∃ m', m' < m ∧ Inv m' e, B := po.N }) ∧ (k = false → po.N env')) : SEv P E (tWhile c tb) env po := fun M ks H0 H σ D S F => by
  obtain ⟨m0, h0⟩ := h0
  refine ⟨fun m σ' H' => ∃ env', Inv m env' ∧ Stt P M ks H0 H' σ' env', ⟨m0, env, h0, S⟩, fun m σ' H' ⟨env', q, S'⟩ => ?_⟩
  obtain ⟨k, hc, h1, h2⟩ := hs m env' q
  refine hc M ks H0 H' σ' S' _ fun k' H1 hk e1 i1 => ?_
  subst hk
  have S1 := S'.step e1 i1
  cases k' with
  | true => exact ⟨fun σ2 H2 => ∃ m', m' < m ∧ ∃ e, Inv m' e ∧ Stt P M ks H0 H2 σ2 e, fun a b h => h, h1 rfl M ks H0 H1 σ' _ S1 ⟨fun a b e ⟨m', l, r⟩ S2 => ⟨m', l, e, r, S2⟩, F.rt, fun a b e q S2 => F.nx a b e q S2, fun a b e ⟨m', l, r⟩ S2 => ⟨m', l, e, r, S2⟩, F.xs⟩⟩
  | false => exact F.nx _ H1 _ (h2 rfl) S1
end
/-! ### a def by its body -/
def env0 (as : List Ent) (n : Nat) : List Ent := as ++ List.replicate (n - as.length) .un
def padN : List Str → List Ent → List Ent
  | [], as => as
  | _ :: N, a :: as => a :: padN N as
  | _ :: N, [] => .un :: padN N []
theorem padN_eq : ∀ (N : List Str) (as : List Ent), padN N as = env0 as N.length
  | [], as => by simp [padN, env0]
  | x :: N, a :: as => by
    have h := padN_eq N as
    simp only [padN, h, env0, List.cons_append, List.length_cons, Nat.add_sub_add_right]
  | x :: N, [] => by
    have h := padN_eq N []
    simp only [padN, h, env0, List.nil_append, List.length_cons, List.length_nil, Nat.sub_zero, List.replicate_succ]
theorem nox_K {CX : CXT} {P : Program} {w : World} {K : PySem.W.Frag} {mg : Str → Option Value} {base : Heap} {N : List Str} {q : Str} {sc : Scope} {f : Addr} {cd : Value} {A : Around} {o : List Env} {s : Shared} {H : Hp} {E : XK} : (cxOf CX P w K mg base N q sc f cd A o s H E).nox.K = K := rfl
theorem cx_K {CX : CXT} {P : Program} {w : World} {K : PySem.W.Frag} {mg : Str → Option Value} {base : Heap} {N : List Str} {q : Str} {sc : Scope} {f : Addr} {cd : Value} {A : Around} {o : List Env} {s : Shared} {H : Hp} {E : XK} : (cxOf CX P w K mg base N q sc f cd A o s H E).K = K := rfl
theorem ArgsOk.length {K : PySem.W.Frag} {H : Hp} {vs : List V} {as : List Ent} (h : ArgsOk K H vs as) : vs.length = as.length := Paired.length h
theorem start_ok {P : Pm} {M : Addr → Prop} {H : Hp} {vs : List V} {as : List Ent} {N : List Str} (gm : ∀ a ∈ P.G, M a) (ml : ∀ a, M a → H a ≠ none) (i : P.I H) (h : ArgsOk P.K (msk M H) vs as) : Stt P M [] H H (L2.start N vs) (env0 as N.length) := by
  have hl := h.length
  have addr : ∀ {vs : List V} {as : List Ent}, ArgsOk P.K (msk M H) vs as → ∀ e ∈ as, e.addr = none := by
    intro vs as h
    induction h with
    | nil => intro e he; cases he
    | cons r _ ih =>
      intro e he
      rcases List.mem_cons.mp he with q | he
      · subst q; cases r <;> rfl
      · exact ih e he
  have addr0 : ∀ e ∈ env0 as N.length, e.addr = none := fun e he => by
    rcases List.mem_append.mp he with he | he
    · exact addr h e he
    · rw [List.eq_of_mem_replicate he]; rfl
  have own : owned (env0 as N.length) = [] := by
    apply List.eq_nil_iff_forall_not_mem.mpr
    intro a ha
    obtain ⟨j, e, he, hea⟩ := mem_owned.mp ha
    rw [addr0 e (List.mem_of_getElem? he)] at hea; cases hea
  have mo : Mo M (env0 as N.length) = M := by
    funext a; unfold Mo; rw [own]; simp
  have get : ∀ {vs : List V} {as : List Ent}, ArgsOk P.K (msk M H) vs as → ∀ (k : Nat) v e, (vs.map some)[k]? = some v → as[k]? = some e → EntOk P.K M (msk M H) H H v e := by
    intro vs as h
    induction h with
    | nil => intro k v e h1 _; simp at h1
    | cons r _ ih =>
      intro k v e h1 h2
      cases k with
      | zero =>
        simp at h1 h2
        subst h1; subst h2
        cases r with
        | d h => exact h
        | raw => rfl
      | succ k => exact ih k v e (by simpa using h1) (by simpa using h2)
  refine ⟨.refl _ _, i, gm, ml, ?_, fun k v e h1 h2 => ?_, (fun p hp => by cases hp), fun k l e f a h1 h2 h3 h4 => ?_⟩
  · unfold L2.start env0
    simp [hl]
  · rw [mo]
    unfold L2.start at h1
    unfold env0 at h2
    by_cases hk : k < vs.length
    · rw [List.getElem?_append_left (by simpa using hk)] at h1
      rw [List.getElem?_append_left (by omega)] at h2
      exact get h k v e h1 h2
    · rw [List.getElem?_append_right (by omega)] at h2
      rw [List.getElem?_replicate] at h2
      split at h2
      · cases h2; cases v <;> trivial
      · cases h2
  · rw [addr0 e (List.mem_of_getElem? h1)] at h3; cases h3
abbrev poOf (F : FSp) (x : F.α) : Po := { N := fun _ => F.post x .none, R := F.post x, X := F.err x }
theorem body_ok {P : Pm} {F : FSp} {ts : TS} {N : List Str} {vs : List V} {H : Hp} {Q : VK} {E : XK} (h : SpF P F vs H Q E) (hb : ∀ x, F.pre x → SEv P E ts (padN N (F.args x)) (poOf F x)) : ts { nx := fun _ H' => Q .non H', rt := Q } (L2.start N vs) H := by
  obtain ⟨M, x, gm, ml, i, ha, hp, q, qe⟩ := h
  have S : Stt P M [] H H (L2.start N vs) (env0 (F.args x) N.length) := start_ok gm ml i ha
  exact hb x hp M [] H H _ _ (by rw [padN_eq]; exact S) ⟨fun σ' H' env' hn S' => q .non .none H' hn S'.ex S'.inv .non, fun v d H' hr e1 i1 d1 => q v d H' hr e1 i1 d1, fun _ _ _ h _ => h.elim, fun _ _ _ h _ => h.elim, fun C fs dd H' hx e1 i1 xd => qe C fs dd H' hx e1 i1 xd⟩
section
variable {P : Program} {w : World} {K : PySem.W.Frag} {mg : Str → Option Value} {base : Heap}
theorem fn_ok {pm : Pm} {x qual : Str} {st : Stmt} {f : Addr} {fd : FuncData} {N ps : List Str} {k : Nat} {F : FSp} (Fn : Fun K x qual st f fd) (S : FnScope N ps (defScope st)) (len : ∀ x, (F.args x).length = ps.length)
    (hbody : ∀ (cdv : Value) (A : Around) (outer : List Env) (s : Shared) (H : Hp) (E : XK), Room k (A.deeper (envOfC qual (defScope st) s.heap.objs.size f cdv)) →
      ∃ t, PSs (cxOf CX0 P w K mg base N qual (defScope st) f cdv A outer s H E).nox (defBody st) t ∧ ∀ x, F.pre x → SEv pm E t (padN N (F.args x)) (poOf F x)) : FnOk P w K mg base CX0 (k + 1) f fd ps (SpF pm F) :=
  Fn.ok S (fun vs H Q E h => by obtain ⟨M, x, _, _, _, ha, hp, _⟩ := h; rw [ArgsOk.length ha, len x]) fun cdv A outer s H vs Q E hr h => by
    obtain ⟨t, h1, h2⟩ := hbody cdv A outer s H E hr
    exact ⟨t, h1, body_ok h h2⟩
theorem fn_okX {pm : Pm} {x qual : Str} {st : Stmt} {f : Addr} {fd : FuncData} {N ps : List Str} {k : Nat} {F : FSp} (Fn : Fun K x qual st f fd) (S : FnScope N ps (defScope st)) (len : ∀ x, (F.args x).length = ps.length)
    (hbody : ∀ (cdv : Value) (A : Around) (outer : List Env) (s : Shared) (H : Hp) (E : XK), Room k (A.deeper (envOfC qual (defScope st) s.heap.objs.size f cdv)) →
      ∃ t, PSs (cxOf (L2.CX P w) P w K mg base N qual (defScope st) f cdv A outer s H E) (defBody st) t ∧ ∀ x, F.pre x → SEv pm E t (padN N (F.args x)) (poOf F x)) : FnOk P w K mg base (L2.CX P w) (k + 1) f fd ps (SpF pm F) :=
  Fn.okX S (fun vs H Q E h => by obtain ⟨M, x, _, _, _, ha, hp, _⟩ := h; rw [ArgsOk.length ha, len x]) fun cdv A outer s H vs Q E hr h => by
    obtain ⟨t, h1, h2⟩ := hbody cdv A outer s H E hr
    exact ⟨t, h1, body_ok h h2⟩
end
end Fw
end

section
/-! Fw6: further rules: products, membership, slices, isinstance, enumerate over tuples. -/
namespace Fw
open PyProof.Rows PySem PySem.Spec L2
/-! ### built-in names -/
theorem bt_len : bootBuiltins "len" = some (.builtin "len") := by decide +kernel
theorem bt_all : bootBuiltins "all" = some (.builtin "all") := by decide +kernel
theorem bt_any : bootBuiltins "any" = some (.builtin "any") := by decide +kernel
theorem bt_abs : bootBuiltins "abs" = some (.builtin "abs") := by decide +kernel
theorem bt_min : bootBuiltins "min" = some (.builtin "min") := by decide +kernel
theorem bt_max : bootBuiltins "max" = some (.builtin "max") := by decide +kernel
theorem bt_sum : bootBuiltins "sum" = some (.builtin "sum") := by decide +kernel
theorem bt_sorted : bootBuiltins "sorted" = some (.builtin "sorted") := by decide +kernel
theorem bt_repr : bootBuiltins "repr" = some (.builtin "repr") := by decide +kernel
theorem bt_isinstance : bootBuiltins "isinstance" = some (.builtin "isinstance") := by decide +kernel
theorem bt_tuple : bootBuiltins "tuple" = some (.type "tuple") := by decide +kernel
theorem bt_list : bootBuiltins "list" = some (.type "list") := by decide +kernel
theorem bt_int : bootBuiltins "int" = some (.type "int") := by decide +kernel
theorem bt_str : bootBuiltins "str" = some (.type "str") := by decide +kernel
theorem bt_bool : bootBuiltins "bool" = some (.type "bool") := by decide +kernel
theorem bt_dict : bootBuiltins "dict" = some (.type "dict") := by decide +kernel
theorem bt_set : bootBuiltins "set" = some (.type "set") := by decide +kernel
section
variable {P : Pm} {env : List Ent} {b b1 b2 : Bool} {ta tb te tc : TE} {x y z : PyData} {K : PySem.W.Frag}
/-! ### products -/
abbrev rMulD : R2 := fun x y H Q => rI CMulW (fun i j => .int (i * j)) x y H Q ∨ rRep x y H Q
theorem op_mulD {X : Cx} : OpR X (binaryOp .Mult) rMulD := OpR.or op_mulW op_rep
theorem rv_mulI {i j : Int} (h : CMulW i j) : RV K rMulD (.int i) (.int j) (.int (i * j)) := RV.inl (rv_I h (.int _))
theorem DdA.flat {H : Hp} {vs : List V} {ds : List PyData} (h : DdA K H vs ds) : ∀ n : Nat, DdA K H (List.replicate n vs).flatten (List.replicate n ds).flatten
  | 0 => .nil
  | n + 1 => by
    rw [List.replicate_succ, List.replicate_succ, List.flatten_cons, List.flatten_cons]
    exact h.append (DdA.flat h n)
theorem rv_mulL {ds : List PyData} {k : Int} (h0 : -(2 ^ 63) ≤ k) (h1 : k < 2 ^ 63) (h : ds.length * k.toNat ≤ sizeLine) : RV K rMulD (.list ds) (.int k) (.list (List.replicate k.toNat ds).flatten) := RV.inr fun m H v w hl hv hw Q q => by
  cases hw
  cases hv with
  | lst g a => exact ⟨_, k, _, rfl, rfl, (mk_out g).2, h0, h1, by rw [a.length]; exact h, fun p hp => q _ _ (same_new hp) (.newL hl hp (a.flat _))⟩
/-- [x, ..] * k, a new list -/
theorem le_mulL {ds : List PyData} {k : Int} (ha : LEv P ta env (fun y => y = ds)) (hb : EEd P b tb env (.int k)) (h0 : -(2 ^ 63) ≤ k) (h1 : k < 2 ^ 63) (h : ds.length * k.toNat ≤ sizeLine) : LEv P (tOp rMulD ta tb) env (fun y => y = (List.replicate k.toNat ds).flatten) := fun M ks H0 H σ S Q q =>
  ha M ks H0 H σ S _ fun p vs xs H1 hx hp e1 i1 g a => by
    subst hx
    have S1 := S.step e1 i1
    refine hb M ks H0 H1 σ S1 _ fun w y H2 hy e2 i2 d2 => ?_
    subst hy; cases d2
    have fr := S.fresh0 hp
    have hp2 : H2 p = some (.lst vs) := e2 p _ fr.2.2.1 g
    refine .inr ⟨p, k, vs, rfl, rfl, hp2, h0, h1, by rw [a.length]; exact h, fun c hc => ?_⟩
    have S2 := S1.step e2 i2
    have sm := same_new (o := HO.lst (List.replicate k.toNat vs).flatten) hc
    refine q c _ _ _ rfl (fresh_back P.live i1 e1 (fresh_back P.live i2 e2 hc)) ((e1.trans e2).trans (.of sm)) (S2.is sm) upd_same ?_
    have a2 : DdA P.K (msk (fun a => Mo M env a ∨ a = c) (upd H2 c (.lst (List.replicate k.toNat vs).flatten))) vs xs := a.mono fun d o hd => by
      have h' := mk_out hd
      refine mk_of (fun z => z.elim (fun z => h'.1 (.inl z)) fun z => ?_) (sm d o (e2 d o (fun g => h'.1 (.inl (.inl (S.gm d g)))) h'.2))
      have : H2 d = some o := e2 d o (fun g => h'.1 (.inl (.inl (S.gm d g)))) h'.2
      rw [z, hc] at this; cases this
    exact a2.flat _
/-! ### membership -/
abbrev rInD (K : PySem.W.Frag) (neg : Bool) : R2 := fun x y H Q => rIn K neg x y H Q ∨ (fun x y H Q => ∃ i j, x = V.str i ∧ y = V.str j ∧ Q (.bl (if neg then !(!(Builtin.Str.occurrences j i 0 j.length 1).isEmpty) else !(Builtin.Str.occurrences j i 0 j.length 1).isEmpty)) H) x y H Q
theorem op_inD {X : Cx} : OpR X (compareOp .In) (rInD X.K false) := OpR.or op_in_seq op_in_str
theorem op_notinD {X : Cx} : OpR X (compareOp .NotIn) (rInD X.K true) := OpR.or op_notIn_seq op_notin_str
/-! ### slices -/
abbrev rSlD (K : PySem.W.Frag) : V → Option Int → Option Int → Hp → VK → Prop := fun x lo hi H Q => rSlL K x lo hi H Q ∨ (fun x lo hi H Q => rSlA K x lo hi H Q ∨ rSlS x lo hi H Q) x lo hi H Q
theorem sl_D {X : Cx} : SlR X (rSlD X.K) := SlR.or sl_list (SlR.or sl_tupA sl_str)
def OEv (P : Pm) (to : TO) (env : List Ent) (o : Option Int) : Prop := ∀ M ks H0 H σ, Stt P M ks H0 H σ env → ∀ Q : Option Int → Hp → Prop, (∀ H', ExG P.G H H' → P.I H' → Q o H') → to σ H Q
theorem oe_none : OEv P tNoPart env none := fun M ks H0 H σ S Q q => q H (.refl _ _) S.inv
theorem oe_some {i : Int} (h : EEd P b te env (.int i)) : OEv P (tPart te) env (some i) := fun M ks H0 H σ S Q q => h M ks H0 H σ S _ fun v y H1 hy e1 i1 d1 => by
  subst hy; cases d1
  exact ⟨i, rfl, q H1 e1 i1⟩
/-- what a slice leaves of data -/
def cutD (xs : List PyData) (lo hi : Option Int) : List PyData := (xs.drop (HT.sIx xs.length 0 lo)).take (HT.sIx xs.length xs.length hi - HT.sIx xs.length 0 lo)
theorem DdA.cut {H : Hp} {vs : List V} {ds : List PyData} (h : DdA K H vs ds) (lo hi : Option Int) : DdA K H (cutV vs lo hi) (cutD ds lo hi) := by
  unfold cutV cutD
  rw [h.length]
  exact (h.drop _).take _
def SLv (K : PySem.W.Frag) (r : V → Option Int → Option Int → Hp → VK → Prop) (x : PyData) (lo hi : Option Int) (z : PyData) : Prop := ∀ (m : Addr → Prop) (H : Hp) (v : V), (∀ a, m a → H a ≠ none) → Dd K (msk m H) v x → ∀ Q : VK, (∀ u H', Same H H' → Dd K (msk m H') u z → Q u H') → r v lo hi H Q
theorem sv_L {ds : List PyData} {lo hi : Option Int} : SLv K (rSlD K) (.list ds) lo hi (.list (cutD ds lo hi)) := fun m H v hl hv Q q => by
  cases hv with
  | lst g a => exact .inl ⟨_, _, rfl, SqL.of (mk_out g).2, fun p hp => q _ _ (same_new hp) (.newL hl hp (a.cut lo hi))⟩
theorem sv_T {ds : List PyData} {lo hi : Option Int} : SLv K (rSlD K) (.tuple ds) lo hi (.tuple (cutD ds lo hi)) := fun m H v hl hv Q q => by
  cases hv with
  | tup g a =>
    refine .inr (.inl ⟨_, _, rfl, same_t (mk_same _ _) g, fun hw => ?_, fun hw p hp => q _ _ (same_new hp) (.newT hl hp (a.cut lo hi))⟩)
    rw [a.length] at hw
    have e : cutD ds lo hi = ds := by
      unfold cutD
      rw [hw.1, hw.2]
      simp
    refine q _ H (Same.refl H) ?_
    rw [e]
    exact .tup g a
theorem sv_S {s : Str} {lo hi : Option Int} (h : s.length ≤ sizeLine) : SLv K (rSlD K) (.str s) lo hi (.str (cutS s lo hi)) := fun m H v hl hv Q q => by
  cases hv
  exact .inr (.inr ⟨s, rfl, h, q _ H (Same.refl H) (.str _)⟩)
theorem ee_sl {r : V → Option Int → Option Int → Hp → VK → Prop} {tl th : TO} {lo hi : Option Int} (h : EEd P b te env x) (h1 : OEv P tl env lo) (h2 : OEv P th env hi) (hr : SLv P.K r x lo hi z) : EEd P b (tSl r te tl th) env z := fun M ks H0 H σ S Q q =>
  h M ks H0 H σ S _ fun v y H1 hy e1 i1 d1 => by
    subst hy
    have S1 := S.step e1 i1
    refine h1 M ks H0 H1 σ S1 _ fun H2 e2 i2 => ?_
    have S2 := S1.step e2 i2
    refine h2 M ks H0 H2 σ S2 _ fun H3 e3 i3 => ?_
    have S3 := S2.step e3 i3
    exact hr (mskb M env b) H3 v (S3.mlb b) (d1.mono ((e2.trans e3).msk (S.gmb b))) Q fun u H' sm dz => q u z H' rfl (((e1.trans e2).trans e3).trans (.of sm)) (S3.is sm) dz
/-! ### isinstance -/
def typeD : PyData → String
  | .none => "NoneType"
  | .bool _ => "bool"
  | .int _ => "int"
  | .str _ => "str"
  | .list _ => "list"
  | .tuple _ => "tuple"
  | .dict _ => "dict"
theorem Dd.ty {m : Addr → Prop} {H : Hp} {v : V} (h : Dd K (msk m H) v x) : TyX K H v (.type (typeD x)) := by
  cases h with
  | non => exact .base .non
  | bl b => exact .base (.bl b)
  | int i => exact .base (.int i)
  | str s => exact .base (.str s)
  | lst g a => exact .base (.lst (mk_out g).2)
  | tup g a =>
    rcases g with (g | ⟨o, g⟩) | ⟨o, its, n, hk, hc, _⟩
    · exact .base (.tup (mk_out g).2)
    · exact .fTuple (mk_out g).2
    · exact .kTuple hk hc
  | dic g _ _ _ => exact .base (.dK (mk_out g).2)
theorem ee_isi {T : String} {c : Bool} (h : EEd P b1 te env x) (hk : kitB (typeD x) T = some c) : EEd P false (tCB (rIsi P.K) (tCons te (tCons (tC (.ty T)) tNil))) env (.bool c) := fun M ks H0 H σ S Q q =>
  h M ks H0 H σ S _ fun v y H1 hy e1 i1 d1 => by
    subst hy
    exact ⟨v, .ty T, _, .type T, c, rfl, .ty T, d1.ty, kit_ty hk, q _ _ H1 rfl e1 i1 (.bl _)⟩
end
end Fw
end

section
/-! Fw7: enumerate over tuples, t[::-1], len(set(t)), repr of data, sorted. -/
namespace Fw
open PyProof.Rows PySem PySem.Spec L2
/-! ### enumerate(t), enumerate(t, k), t a tuple -/
def IteT (K : PySem.W.Frag) (a : Addr) (k0 : Int) : It where
  go := fun i H => ∃ (xs : List V) (x : V), SqT K H a xs ∧ xs[i]? = some x
  yld := fun i H v H' => ∃ T x, v = .ref T ∧ H T = none ∧ H' = upd H T (.tup [.int (k0 + (i : Nat)), x]) ∧ ∀ xs, SqT K H a xs → xs[i]? = some x
  stop := fun i H => ∃ xs : List V, SqT K H a xs ∧ xs.length ≤ i
theorem turn_enumT {P : Program} {w : World} {K : PySem.W.Frag} {elts : List Expr} {kk : Nat} {tpos : Pos} (a e it : Addr) (k0 : Int) (hai : a ≠ it) (hae : e ≠ a) :
    Turn P w K (.Tuple elts kk tpos) (IteT K a k0) [e, it] e (fun i h => (∃ old, IsEnum h e it (k0 + ((i : Nat) : Int)) old) ∧ h.IsTupleIter it a i ∧ e ≠ it) where
  mem := List.mem_cons_self
  obj := fun i h st c hc => by
    obtain ⟨⟨old, he⟩, ⟨o, ho, _, hd⟩, _⟩ := st
    rcases List.mem_cons.mp hc with q | hc
    · subst q; exact ⟨_, he, fun v q => nomatch q⟩
    · rw [List.mem_singleton.mp hc]; exact ⟨o, ho, fun v q => by rw [hd] at q; cases q⟩
  keep := fun i h h' st k => by
    obtain ⟨⟨old, he⟩, hi, hne⟩ := st
    exact ⟨⟨old, k e List.mem_cons_self _ he⟩, hi.at fun o q => k it (List.mem_cons_of_mem _ List.mem_cons_self) o q, hne⟩
  item := by
    rintro X rfl rfl rfl hc i pins s σ H E I hf ⟨⟨old, he⟩, hit, hne⟩ ⟨xs, x, hq, hx⟩
    obtain ⟨its, rv, p, hz⟩ := I.tuple hq
    obtain ⟨u, hu, ru⟩ := rv.get hx
    have hel : e < s.heap.objs.size := Heap.lt_size he
    have hilt : it < s.heap.objs.size := by
      obtain ⟨_, q, _⟩ := hit
      exact Heap.lt_size q
    have hlen : i < its.toArray.size := by
      rw [List.size_toArray]
      exact (List.getElem?_eq_some_iff.mp hu).1
    have D := Draws.tuple (prog := X.prog) (w := X.w) (A := X.A.in1) (by show X.A.handled = none; exact I.ok.hd hc) it a hai its.toArray
    refine wpAny_pyNext_enum_itemC D he ⟨hit, p⟩ hlen hne (fun z => (List.mem_cons.mp z).elim hne fun z => hae (List.mem_singleton.mp z)) fun y h' tk hy ho st' hT hsz hk => ?_
    have ey : y = u := by
      rw [List.getElem?_toArray, hu] at hy
      exact (Option.some.inj hy).symm
    subst ey
    refine ⟨_, rfl, wpAny_letOwnedTupleGo_enum (s := { s with heap := h', toks := tk + 1 }) ho fun h2 he2 sb => ?_⟩
    have kept : ∀ b ob, b ∉ [e, it] → s.heap.get? b = some ob → h2.get? b = some ob := fun b ob hb q => by
      have n1 : b ≠ e := fun z => hb (z ▸ List.mem_cons_self)
      have n2 : b ≠ it := fun z => hb (z ▸ List.mem_cons_of_mem _ List.mem_cons_self)
      exact (sb.2 b n1).trans (hk b ob n1 n2 q)
    have newT : h2.get? s.heap.objs.size = some { cls := .type "tuple", data := .seq #[.int (k0 + (i : Int)) tk, y] } := (sb.2 _ (Nat.ne_of_gt hel)).trans hT
    have objT : ObjOk X.prog X.w (upd H s.heap.objs.size (.tup [.int (k0 + (i : Nat)), x])) h2 s.heap.objs.size (.tup [.int (k0 + (i : Nat)), x]) :=
      ⟨by rw [sizeLine_eq]; exact (by decide : 2 ≤ 16777216), [.int (k0 + (i : Int)) tk, y], .cons ⟨_, rfl⟩ (.cons ru .nil), ⟨_, newT, rfl, _, rfl⟩⟩
    have J := I.turnedNew (t' := tk + 1) (ch := [e, it]) kept hf (Nat.le_refl _) objT
    refine ⟨.ref s.heap.objs.size, _, J, rfl, ⟨_, x, rfl, I.hok.fresh (Nat.le_refl _), rfl, fun ys hy => by rw [I.tuple_inj hy hq]; exact hx⟩, ⟨⟨y, ?_⟩, st'.1.at fun o q => (sb.2 it (Ne.symm hne)).trans q, hne⟩, fun b hb => ?_⟩
    · rw [show k0 + ((i + 1 : Nat) : Int) = k0 + (i : Int) + 1 by omega]
      exact he2
    · have hlt : b < s.heap.objs.size := by
        rcases List.mem_cons.mp hb with q | q
        · rw [q]; exact hel
        · rw [List.mem_singleton.mp q]; exact hilt
      rw [upd_ne (Nat.ne_of_lt hlt)]
      exact (hf b hb).1
  done := by
    rintro X rfl rfl rfl hc i pins s σ H E I hf ⟨⟨old, he⟩, hit, hne⟩ ⟨xs, hq, hx⟩
    obtain ⟨its, rv, p, hz⟩ := I.tuple hq
    obtain ⟨f0, f1, f2, f3, f4, f5⟩ := hf it (List.mem_cons_of_mem _ List.mem_cons_self)
    have hl := rv.length
    refine end_enumT (A := X.A) (I.ok.hd hc) hai he hit p (by rw [List.size_toArray]; omega) fun h' eb => ⟨rfl, I.turned (t' := s.toks) (fun b o hb q => eb b o hb q) f0 f1 f3 f4 f5⟩
  self := fun A i s Q E st h => by
    obtain ⟨⟨_, he⟩, _⟩ := st
    exact wpAny_pyIter_enum he h
where
  end_enumT {prog : Program} {w : World} {A : Around} {E : Value → Shared → Prop} {s : Shared} {e it t : Addr} {i : Nat} {c : Int} {old : Value} {items : Array Value} {Q : Option Value → Shared → Prop} (hh : A.handled = none) (hai : t ≠ it) (he : IsEnum s.heap e it c old)
      (hit : s.heap.IsTupleIter it t i) (ht : s.heap.IsTuple t items) (hi : items.size ≤ i) (hQ : ∀ h', Heap.ExtBut it s.heap h' → Q none { s with heap := h' }) : wpAny (model prog w) A (pyNext (.ref e)) Q E s := by
    have D : Draws prog w A.in1 it [it, t] 0 (fun _ _ => True) (fun _ h => h.IsTupleIter it t i ∧ h.IsTuple t items) := {
      live := fun _ _ st => let ⟨o, ho, _⟩ := st.1; ⟨o, ho⟩
      frame := fun _ _ _ st hk => ⟨st.1.at fun o q => hk it List.mem_cons_self o q, st.2.at fun o q => hk t (List.mem_cons_of_mem _ List.mem_cons_self) o q⟩
      item := fun i _ _ _ hi _ _ => absurd hi (Nat.not_lt_zero _)
      done := fun s Q E st hE => nextOf_tupEnd hh st.1 st.2 hi hE }
    exact wpAny_pyNext_enum_endD D he ⟨hit, ht⟩ hQ
  nextOf_tupEnd {prog : Program} {w : World} {A : Around} {s : Shared} {Q E : Value → Shared → Prop} {it t : Addr} {i : Nat} {items : Array Value} (hh : A.handled = none) (hit : s.heap.IsTupleIter it t i) (ht : s.heap.IsTuple t items) (hi : items.size ≤ i)
      (hE : ∀ h' e, Heap.ExtBut it s.heap h' → (∃ o, h'.get? e = some o ∧ o.cls = .type "StopIteration") → E (.ref e) { s with heap := h' }) : wpAny (model prog w) A.in1 (Builtin.SmallTypes.nextOf (.ref it)) Q E s := by
    exact wpAny_nextOf_tuple_end hh hit ht (by simp [hi]) hE
def iEnT0 (K : PySem.W.Frag) (ta : TA) : TI := fun σ H R => ta σ H fun vs H1 => ∃ (a : Addr) (xs : List V), vs = [.ref a] ∧ SqT K H1 a xs ∧ R (IteT K a 0) H1
def iEnT1 (K : PySem.W.Frag) (ta : TA) : TI := fun σ H R => ta σ H fun vs H1 => ∃ (a : Addr) (xs : List V) (k : Int), vs = [.ref a, .int k] ∧ (-(2 ^ 62) ≤ k ∧ k < 2 ^ 62) ∧ SqT K H1 a xs ∧ R (IteT K a k) H1
theorem new_enum {v : Value} {o : Obj} {Hc : Heap → Prop} (B : Begins v o Hc) : Meets (Builtin.«enumerate.__new__» ⟨[.type "enumerate", v], []⟩) (fun _ R s => Hc s.heap ∧
      R (.ok (.ret (.ref (s.heap.push o).objs.size))) { s with heap := (s.heap.push o).push { cls := .type "enumerate", data := .fields #[.none, .bool false, .ref s.heap.objs.size, rawInt 0, .none, .none] } }) :=
  .of_wp fun prog w A R s hs => by
    obtain ⟨hp, g, d, tk, os⟩ := s
    obtain ⟨h1, h⟩ := hs
    have sb := sub_enumerate
    have it : ∀ {A' : Around} {E Q : Value → Shared → Prop}, Q (.ref hp.objs.size) ⟨hp.push o, g, d, tk, os⟩ → wpAny (model prog w) A' (pyIter v) Q E ⟨hp, g, d, tk, os⟩ := fun q => B.iter prog w _ _ ⟨hp, g, d, tk, os⟩ _ h1 q
    wp_walk using it
    refine wpAny_stack_any fun _ => wpAny_pure ?_
    split
    · rename_i c _ _ _ _ _
      cases (c == Value.type "enumerate") <;> (wp_walk using it; exact ⟨_, rfl, h⟩)
    · wp_walk using it
      exact ⟨_, rfl, h⟩
theorem enum_begins1 {prog : Program} {w : World} {A : Around} {E : Value → Shared → Prop} {s : Shared} {v : Value} {o : Obj} {Hc : Heap → Prop} {Q : Value → Shared → Prop} (B : Begins v o Hc) (h1 : Hc s.heap)
    (h : ∀ h', IsEnum h' (s.heap.objs.size + 1) s.heap.objs.size 0 .none → h'.get? s.heap.objs.size = some o → h'.objs.size = s.heap.objs.size + 2 → (∀ b u, s.heap.get? b = some u → h'.get? b = some u) → Q (.ref (s.heap.objs.size + 1)) { s with heap := h' }) :
    wpAny (model prog w) A (call (.type "enumerate") [v]) Q E s := by
  refine callType_new F.called_enumerate (by decide) (F.typeCall_enumerate_1 _) (F.newCall_enumerate_1 _) (fun ob => F.args_object_init_2 ob _) F.entry_enumerate_new (new_enum B) ⟨h1, ?_⟩
  have hz : (s.heap.push o).objs.size = s.heap.objs.size + 1 := by rw [Heap.size_push]
  show _ ∧ _
  rw [hz]
  have g1 := Heap.get?_push_size (s.heap.push o) (o := { cls := .type "enumerate", data := .fields #[.none, .bool false, .ref s.heap.objs.size, rawInt 0, .none, .none] }) rfl
  rw [hz] at g1
  refine ⟨⟨_, g1, rfl⟩, h _ g1 (Heap.get?_push_of_some _ (Heap.get?_push_size _ B.free)) (by rw [Heap.size_push, hz]) fun b u x => ?_⟩
  exact Heap.get?_push_of_some _ (Heap.get?_push_of_some _ x)
section
variable {X : Cx} {p pos tpos : Pos} {elts : List Expr} {kk : Nat}
theorem enum_pie {pins : List (Addr × Obj)} {σ : L2.St} {H1 : Hp} {s1 : Shared} {a : Addr} {xs : List V} {k : Int} {R : It → Hp → Prop} {h' : Heap} (I1 : Inv X pins σ H1 s1) (hq : SqT X.K H1 a xs) (q : R (IteT X.K a k) H1) (he : IsEnum h' (s1.heap.objs.size + 1) s1.heap.objs.size k .none)
    (hit : h'.get? s1.heap.objs.size = some { cls := .type "tuple_iterator", data := .fields #[.ref a, .int 0 0] }) (hk : ∀ b u, s1.heap.get? b = some u → h'.get? b = some u) :
    wpAny (model X.prog X.w) X.A (pyIter (.ref (s1.heap.objs.size + 1))) (PIE X pins σ (.Tuple elts kk tpos) R) X.xe { s1 with heap := h' } := by
  refine wpAny_pyIter_enum he ?_
  have I2 : Inv X pins σ H1 { s1 with heap := h' } := I1.kept (t' := s1.toks) hk
  obtain ⟨its, rv, pt, hz⟩ := I1.tuple hq
  have hal : a < s1.heap.objs.size := pt.lt
  refine ⟨s1.heap.objs.size + 1, [s1.heap.objs.size + 1, s1.heap.objs.size], _, _, H1, rfl, I2, turn_enumT a _ _ k (Nat.ne_of_lt hal) (Nat.ne_of_gt (Nat.lt_succ_of_lt hal)), ⟨⟨.none, ?_⟩, ⟨_, hit, rfl, rfl⟩, Nat.succ_ne_self _⟩, fun b hb => ?_, q⟩
  · rw [show k + ((0 : Nat) : Int) = k by omega]
    exact he
  · have hle : s1.heap.objs.size ≤ b := by
      rcases List.mem_cons.mp hb with z | z
      · rw [z]; exact Nat.le_succ _
      · rw [List.mem_singleton.mp z]; exact Nat.le_refl _
    exact I1.fpOk hle (I1.hok.fresh hle)
theorem pi_enumT0 {e : Expr} {ta : TA} (hg : Gl X "enumerate") (hm : X.mg "enumerate" = none) (ha : PA X [e] ta) (hs : starEach [e] X.env = [(false, eval e X.env)] := by rfl) :
    PI X (.Tuple elts kk tpos) (.Call (.Name "enumerate" p) [e] [] pos) (iEnT0 X.K ta) := by
  refine ⟨fun pins s σ H R I h => Call_ (ld_blt I hg hm boot_enumerate (callWith_type1 (thn (ha.run pos pins s σ H _ I h) fun us s1 hh => ?_) hs rfl))⟩
  obtain ⟨vs, H1, I1, r1, a, xs, rfl, hq, q⟩ := hh
  cases r1 with
  | cons r rr =>
    cases rr; cases r
    obtain ⟨its, rv, pt, hz⟩ := I1.tuple hq
    exact enum_begins1 (begins_tuple a its.toArray) pt fun h' he hit _ hk => enum_pie I1 hq q he hit hk
theorem pi_enumT1 {e e2 : Expr} {ta : TA} (hg : Gl X "enumerate") (hm : X.mg "enumerate" = none) (ha : PA X [e, e2] ta) (hs : starEach [e, e2] X.env = [(false, eval e X.env), (false, eval e2 X.env)] := by rfl) (hs2 : starEach [e2] X.env = [(false, eval e2 X.env)] := by rfl) :
    PI X (.Tuple elts kk tpos) (.Call (.Name "enumerate" p) [e, e2] [] pos) (iEnT1 X.K ta) := by
  refine ⟨fun pins s σ H R I h => Call_ (ld_blt I hg hm boot_enumerate (callWith_type1 (thn (ha.run pos pins s σ H _ I h) fun us s1 hh => ?_) (by rw [hs, hs2]) (by rw [hs2]; rfl)))⟩
  obtain ⟨vs, H1, I1, r1, a, xs, k, rfl, ⟨k0, k1⟩, hq, q⟩ := hh
  cases r1 with
  | cons r rr =>
    cases rr with
    | cons r' rr =>
      cases rr; cases r
      obtain ⟨t, rfl⟩ := r'
      obtain ⟨its, rv, pt, hz⟩ := I1.tuple hq
      exact enum_begins (begins_tuple a its.toArray) pt (by omega) (by omega) fun h' he hit _ hk => enum_pie I1 hq q he hit hk
end
/-- the pairs that enumerate tells -/
def enumD (k : Int) (xs : List PyData) : List PyData := xs.zipIdx.map fun p => .tuple [.int (k + (p.2 : Nat)), p.1]
theorem iter_enumT {K : PySem.W.Frag} {a : Addr} {k : Int} {xs : List PyData} : IterK K (IteT K a k) (enumD k xs) (Kept K [(.ref a, .tuple xs)]) := by
  have hl : (enumD k xs).length = xs.length := by simp [enumD]
  refine ⟨gT K a xs.length, fun i H v H' => ∃ T x, v = .ref T ∧ H T = none ∧ H' = upd H T (.tup [.int (k + (i : Nat)), x]) ∧ ∀ xs, SqT K H a xs → xs[i]? = some x, ?_, fun m H h => ?_, fun i H1 v H2 m hi hc hlv hy => ?_⟩
  · rw [hl]
    exact ⟨fun i _ hi ⟨vs, q, e⟩ => ⟨vs, vs[i]'(by omega), q, by simp [e, hi]⟩, fun _ ⟨vs, q, e⟩ => ⟨vs, q, Nat.le_of_eq e⟩, fun _ _ _ _ _ _ y => y⟩
  · cases h (.ref a, .tuple xs) List.mem_cons_self with
    | tup g d => exact ⟨_, same_t (mk_same _ _) g, d.length⟩
  · obtain ⟨T, x, rfl, nT, rfl, hv⟩ := hy
    cases hc (.ref a, .tuple xs) List.mem_cons_self with
    | tup g d =>
      obtain ⟨e, h1, h2⟩ := d.get (hv _ (same_t (mk_same _ _) g))
      refine ⟨same_new nT, .tuple [.int (k + (i : Nat)), e], by simp [enumD, h1], .newT hlv nT (.cons (.int _) (.cons h2 .nil))⟩
section
variable {P : Pm} {env : List Ent} {b : Bool} {xs : List PyData} {ta : TA}
theorem ie_enum0 (h : DEv P false ta env [.tuple xs]) : IEv P (iEnT0 P.K ta) env (enumD 0 xs) := fun M ks H0 H σ S R r => h M ks H0 H σ S _ fun vs H1 e1 i1 d1 => by
  cases d1 with
  | cons d d1 =>
    cases d1
    cases d with
    | tup g a => exact ⟨_, _, rfl, same_t (mk_same _ _) g, r _ H1 [(_, .tuple xs)] e1 i1 (fun p hp => by cases List.mem_singleton.mp hp; exact .tup g a) iter_enumT⟩
theorem ie_enum1 {k : Int} (h : DEv P false ta env [.tuple xs, .int k]) (hk : -(2 ^ 62) ≤ k ∧ k < 2 ^ 62) : IEv P (iEnT1 P.K ta) env (enumD k xs) := fun M ks H0 H σ S R r => h M ks H0 H σ S _ fun vs H1 e1 i1 d1 => by
  cases d1 with
  | cons d d1 =>
    cases d1 with
    | cons d' d1 =>
      cases d1; cases d'
      cases d with
      | tup g a => exact ⟨_, _, k, rfl, hk, same_t (mk_same _ _) g, r _ H1 [(_, .tuple xs)] e1 i1 (fun p hp => by cases List.mem_singleton.mp hp; exact .tup g a) iter_enumT⟩
end
/-! ### t[::-1], t a tuple or a text -/
def tRevT (K : PySem.W.Frag) (te : TE) : TE := fun σ H Q => te σ H fun x H1 => ∃ a xs, x = .ref a ∧ SqT K H1 a xs ∧ ∀ p, H1 p = none → Q (.ref p) (upd H1 p (.tup xs.reverse))
/-! ### len(set(t)) of a tuple of ints -/
def tLenSetT (K : PySem.W.Frag) (ta : TE) : TE := fun σ H Q => ta σ H fun x H1 => ∃ (l : Addr) (ns : List Int), x = .ref l ∧ SqT K H1 l (ns.map V.int) ∧ ns.length ≤ 4000 ∧ ∀ c : Nat, (c = ns.length ↔ ns.Nodup) → Q (.int c) H1
theorem nodup_card {as ns : List Int} (ha : as.Nodup) (hm : ∀ k, k ∈ ns ↔ k ∈ as) : as.length = ns.length ↔ ns.Nodup := by
  have le : ∀ {as ns : List Int}, as.Nodup → (∀ k, k ∈ as → k ∈ ns) → as.length ≤ ns.length := by
    intro as
    induction as with
    | nil => intro ns _ _; exact Nat.zero_le _
    | cons a as ih =>
      intro ns hn hs
      have h1 := hs a List.mem_cons_self
      have h2 : as.length ≤ (ns.erase a).length := ih (List.nodup_cons.mp hn).2 fun k hk => by
        have hka : k ≠ a := fun e => (List.nodup_cons.mp hn).1 (e ▸ hk)
        exact (List.mem_erase_of_ne hka).mpr (hs k (List.mem_cons_of_mem _ hk))
      rw [List.length_erase_of_mem h1] at h2
      have h3 : 0 < ns.length := List.length_pos_of_mem h1
      simp only [List.length_cons]
      omega
  constructor
  · intro e
    by_cases hn : ns.Nodup
    · exact hn
    · exfalso
      have : ∃ ms : List Int, ms.length < ns.length ∧ ∀ k, k ∈ ns → k ∈ ms := by
        clear e hm
        induction ns with
        | nil => exact absurd List.nodup_nil hn
        | cons n ns ih =>
          by_cases h : n ∈ ns
          · exact ⟨ns, Nat.lt_succ_self _, fun k hk => (List.mem_cons.mp hk).elim (fun z => z ▸ h) id⟩
          · have : ¬ ns.Nodup := fun z => hn (List.nodup_cons.mpr ⟨h, z⟩)
            obtain ⟨ms, h1, h2⟩ := ih this
            exact ⟨n :: ms, by simpa using h1, fun k hk => (List.mem_cons.mp hk).elim (fun z => by rw [z]; exact List.mem_cons_self) fun z => List.mem_cons_of_mem _ (h2 k z)⟩
      obtain ⟨ms, h1, h2⟩ := this
      have := le ha fun k hk => h2 k ((hm k).mpr hk)
      omega
  · intro hn
    exact Nat.le_antisymm (le ha fun k hk => (hm k).mpr hk) (le hn fun k hk => (hm k).mp hk)
section
variable {X : Cx}
theorem pe_lenSetT {a : Expr} {ta : TE} {p p2 q pos : Pos} (hc : X.calm = true) (hg : Gl X "len") (hm : X.mg "len" = none) (hg2 : Gl X "set") (hm2 : X.mg "set" = none) (ha : PE X a ta)
    (na : starEach [a] X.env = (false, eval a X.env) :: starEach [] X.env := by rfl) : PE X (.Call (.Name "len" p) [.Call (.Name "set" p2) [a] [] q] [] pos) (tLenSetT X.K ta) := by
  refine ⟨fun pins s σ H Q I h => Call_ (ld_blt I hg hm boot_len (callWith_builtin1 (args_cons (Call_ (ld_blt I hg2 hm2 boot_set ?_)) rfl) rfl rfl))⟩
  refine callWith_type1 (args_cons (thn (ha.run pins s σ H _ I h) fun v s1 hh => args_nil ?_) na) na rfl
  obtain ⟨x, H1, I1, r1, l, ns, rfl, hq, hz, q1⟩ := hh
  cases r1
  obtain ⟨its, r, pl, _⟩ := I1.tuple hq
  have hi : IntsAre its.toArray.toList ns := by simpa using ints_of r
  refine call_set_tupI ns (I1.ok.hd hc) pl hi (by show ns.length + 1 < 4096; omega) fun h' tk c hS hcl hk => ?_
  have I2 : Inv X pins σ H1 { s1 with heap := h', toks := tk } := I1.kept hk
  obtain ⟨o, es, ep, t, ho, hex, hd, hgood, hnd, hS, hsc, hf, hn, _⟩ := hS
  refine args_nil (call_len_set ho hex hd hf (by rw [hn]; omega) ⟨.int c, H1, I2.tok _, ⟨_, by rw [hn]⟩, q1 c ?_⟩)
  have hlen : (es.toList.map keyOf).length = c := by simpa using hn
  rw [← hlen]
  exact nodup_card hnd fun k => by
    have := hS k
    simp only [decide_eq_true_eq] at this
    exact this
where
  ints_of : ∀ {ns : List Int} {us : List Value}, Vals (ns.map V.int) us → IntsAre us ns
  | [], _, .nil => .nil
  | n :: ns, _, .cons r t => by
    obtain ⟨k, rfl⟩ := r
    exact .cons n k (ints_of t)
end
theorem ee_lenSetT {P : Pm} {env : List Ent} {b1 : Bool} {te : TE} {ns : List Int} (h : EEd P b1 te env (.tuple (ns.map .int))) (hz : ns.length ≤ 4000) : EEv P false (tLenSetT P.K te) env (fun z => ∃ c : Nat, z = .int c ∧ (c = ns.length ↔ ns.Nodup)) := fun M ks H0 H σ S Q q =>
  h M ks H0 H σ S _ fun v y H1 hy e1 i1 d1 => by
    subst hy
    cases d1 with
    | tup g a =>
      have e := a.ofInts
      subst e
      exact ⟨_, ns, rfl, same_t (mk_same _ _) g, hz, fun c hc => q _ _ H1 ⟨c, rfl, hc⟩ e1 i1 (.int _)⟩
end Fw
namespace Fw
open PyProof.Rows PySem PySem.Spec L2
section
variable {P : Pm} {env : List Ent} {b b1 b2 : Bool} {ta tb te : TE} {x y z : PyData} {K : PySem.W.Frag}
theorem ee_opC {g : Int → Int → Bool} {i j : Int} (ha : EEd P b1 ta env (.int i)) (hb : EEd P b2 tb env (.int j)) : EEd P false (tOp (rI0 fun i j => .bl (g i j)) ta tb) env (.bool (g i j)) := ee_ops ha hb (rv_I0 (.bl _))
theorem ee_opE (ha : EEd P b1 ta env x) (hb : EEd P b2 tb env y) (h : SeqAt.shaped x = true ∧ SeqAt.shaped y = true) : EEd P false (tOp (rEqD P.K) ta tb) env (.bool (PyData.eqv x y)) := ee_ops ha hb (rv_eq h.1 h.2)
theorem ee_opN (ha : EEd P b1 ta env x) (hb : EEd P b2 tb env y) (h : SeqAt.shaped x = true ∧ SeqAt.shaped y = true) : EEd P false (tOp (rNeD P.K) ta tb) env (.bool (!PyData.eqv x y)) := ee_ops ha hb (rv_ne h.1 h.2)
abbrev rLenD (K : PySem.W.Frag) : List V → Hp → VK → Prop := fun xs H Q => ∃ x n, xs = [x] ∧ LenV K x H n ∧ Q (.int n) H
inductive LenD : PyData → Nat → Prop
  | list (ds : List PyData) : LenD (.list ds) ds.length
  | tuple (ds : List PyData) : LenD (.tuple ds) ds.length
  | str {s : Str} (h : s.length ≤ sizeLine) : LenD (.str s) s.length
theorem ee_len {n : Nat} (ha : EEd P b1 ta env x) (hn : LenD x n) : EEd P false (tCB (rLenD P.K) (tCons ta tNil)) env (.int n) := by
  refine ee_cbs (b1 := true) (de_consw ha de_nil) ?_
  cases hn with
  | list ds => exact rc_lenL
  | tuple ds => exact rc_lenT
  | str h => exact rc_lenS h
end
end Fw
end

section
/-! Fw8: comprehensions of one name, isinstance by name, errors raised. -/
namespace Fw
open PyProof.Rows PySem PySem.Spec L2
section
variable {P : Pm} {env : List Ent} {b b1 b2 : Bool} {ta tb te : TE} {tt : TT} {x y z : PyData} {K : PySem.W.Frag} {α : Type} {ns : List α} {em : α → PyData} {wi : TI} {i : Nat} {p q : α → Bool} {f : α → PyData}
theorem owned_set {x : PyData} (h : env[i]? = some .un) : owned (env.set i (.d x)) = owned env := by
  unfold owned
  induction env generalizing i with
  | nil => simp at h
  | cons e env ih =>
    cases i with
    | zero =>
      simp at h
      subst h
      rfl
    | succ i =>
      rw [List.set_cons_succ, List.filterMap_cons, List.filterMap_cons, ih (by simpa using h)]
theorem le_lc1 (hi : IEv P wi env (ns.map em)) (hu : env[i]? = some .un) (ht : ∀ x ∈ ns, TEd P tt (env.set i (.d (em x))) (p x)) (he : ∀ x ∈ ns, p x = true → EEd P false te (env.set i (.d (em x))) (f x)) (hz : ns.length ≤ sizeLine) :
    LEv P (tLc wi (gName i) tt te [i]) env (fun y => y = (ns.filter p).map f) :=
  le_lc hi (fun j hj => by rw [List.mem_singleton.mp hj]; exact hu) (fun x _ => ge_name (List.mem_singleton.mpr rfl)) ht he hz fun x _ => owned_set hu
theorem le_lc1Y (hi : IEv P wi env (ns.map em)) (hu : env[i]? = some .un) (he : ∀ x ∈ ns, EEd P false te (env.set i (.d (em x))) (f x)) (hz : ns.length ≤ sizeLine) :
    LEv P (tLc wi (gName i) tYes te [i]) env (fun y => y = ns.map f) := by
  have h := le_lc1 (p := fun _ => true) hi hu (fun _ _ => te_yes) (fun x hx _ => he x hx) hz
  rwa [show ns.filter (fun _ => true) = ns by simp] at h
theorem le_lc1o {j : Nat} {a : Addr} (hi : IEo P wi env j a (ns.map em)) (hu : env[i]? = some .un) (ht : ∀ x ∈ ns, TEd P tt (env.set i (.d (em x))) (p x)) (he : ∀ x ∈ ns, p x = true → EEd P false te (env.set i (.d (em x))) (f x)) (hz : ns.length ≤ sizeLine) :
    LEv P (tLc wi (gName i) tt te [i]) env (fun y => y = (ns.filter p).map f) :=
  le_lco hi (fun j hj => by rw [List.mem_singleton.mp hj]; exact hu) (fun x _ => ge_name (List.mem_singleton.mpr rfl)) ht he hz fun x _ => owned_set hu
theorem ee_tupL {xs : List PyData} (h : EEd P false te env (.list xs)) : EEd P false (tCB (rTupOf P.K) (tCons te tNil)) env (.tuple xs) := ee_cb (de_cons h de_nil) rc_tupL
theorem ee_tupT {xs : List PyData} (h : EEd P false te env (.tuple xs)) : EEd P false (tCB (rTupOf P.K) (tCons te tNil)) env (.tuple xs) := ee_cb (de_cons h de_nil) rc_tupT
theorem ee_lenL {xs : List PyData} {n : Nat} (h : EEd P b1 te env (.list xs)) (e : xs.length = n) : EEd P false (tCB (rLenD P.K) (tCons te tNil)) env (.int n) := by
  subst e
  exact ee_len h (.list xs)
theorem ee_all {xs : List PyData} {bs : List Bool} (h : EEd P false te env (.list xs)) (e : xs = bs.map .bool) : EEd P false (tCB (rAll P.K) (tCons te tNil)) env (.bool (bs.all id)) := by
  subst e
  exact ee_cb (de_cons h de_nil) rc_all
theorem ee_any {xs : List PyData} {bs : List Bool} (h : EEd P false te env (.list xs)) (e : xs = bs.map .bool) : EEd P false (tCB (rAny P.K) (tCons te tNil)) env (.bool (bs.any id)) := by
  subst e
  exact ee_cb (de_cons h de_nil) rc_any
theorem ee_allQ (h : EEd P false te env (.list (ns.map fun x => .bool (q x)))) : EEd P false (tCB (rAll P.K) (tCons te tNil)) env (.bool (ns.all q)) :=
  EEv.is (ee_all h (bs := ns.map q) (by rw [List.map_map]; rfl)) (by rw [List.all_map]; rfl)
theorem ee_anyQ (h : EEd P false te env (.list (ns.map fun x => .bool (q x)))) : EEd P false (tCB (rAny P.K) (tCons te tNil)) env (.bool (ns.any q)) :=
  EEv.is (ee_any h (bs := ns.map q) (by rw [List.map_map]; rfl)) (by rw [List.any_map]; rfl)
theorem ee_and_false (h : EEd P b1 ta env (.bool false)) : EEd P false (tAndV ta tb) env (.bool false) := ee_andV (d := false) (b2 := false) h fun e => nomatch e
theorem ee_listOf {xs : List PyData} (h : EEd P false te env (.tuple xs)) : LEv P (tCB (rListOf P.K) (tCons te tNil)) env (fun y => y = xs) := le_cb (b := false) (de_cons h de_nil) rfl rc_listT
theorem ee_listOfL {xs : List PyData} (h : EEd P false te env (.list xs)) : LEv P (tCB (rListOf P.K) (tCons te tNil)) env (fun y => y = xs) := le_cb (b := false) (de_cons h de_nil) rfl rc_listL
/-- list(range(lo, hi)) -/
theorem le_rg {lo hi : Int} {t : L2.St → Hp → (Int → Int → Hp → Prop) → Prop} (ht : ∀ M ks H0 H σ, Stt P M ks H0 H σ env → ∀ Q : Int → Int → Hp → Prop, (∀ H', ExG P.G H H' → P.I H' → Q lo hi H') → t σ H Q) (hr : RgOk lo hi) : LEv P (tLstRg t) env (fun y => y = rngD lo (hi - lo).toNat) := fun M ks H0 H σ S Q q =>
  ht M ks H0 H σ S _ fun H1 e1 i1 => ⟨hr, fun p hp => by
    have S1 := S.step e1 i1
    have sm := same_new (o := HO.lst (rgV lo hi)) hp
    refine q p _ _ _ rfl (fresh_back P.live i1 e1 hp) (e1.trans (.of sm)) (S1.is sm) upd_same ?_
    have : rgV lo hi = ((List.range (hi - lo).toNat).map fun i => lo + ((i : Nat) : Int)).map V.int := by
      unfold rgV
      rw [List.map_map]; rfl
    rw [this, show rngD lo (hi - lo).toNat = ((List.range (hi - lo).toNat).map fun i => lo + ((i : Nat) : Int)).map PyData.int by unfold rngD; rw [List.map_map]; rfl]
    exact DdA.ints _⟩
/-! ### isinstance by names -/
def isiInt : PyData → Bool
  | .int _ => true
  | .bool _ => true
  | _ => false
def isiBool : PyData → Bool
  | .bool _ => true
  | _ => false
def isiStr : PyData → Bool
  | .str _ => true
  | _ => false
def isiTup : PyData → Bool
  | .tuple _ => true
  | _ => false
def isiLst : PyData → Bool
  | .list _ => true
  | _ => false
theorem kit_int : ∀ x : PyData, kitB (typeD x) "int" = some (isiInt x)
  | .none => (by decide +kernel : kitB "NoneType" "int" = some false)
  | .bool _ => (by decide +kernel : kitB "bool" "int" = some true)
  | .int _ => (by decide +kernel : kitB "int" "int" = some true)
  | .str _ => (by decide +kernel : kitB "str" "int" = some false)
  | .list _ => (by decide +kernel : kitB "list" "int" = some false)
  | .tuple _ => (by decide +kernel : kitB "tuple" "int" = some false)
  | .dict _ => (by decide +kernel : kitB "dict" "int" = some false)
theorem kit_bool : ∀ x : PyData, kitB (typeD x) "bool" = some (isiBool x)
  | .none => (by decide +kernel : kitB "NoneType" "bool" = some false)
  | .bool _ => (by decide +kernel : kitB "bool" "bool" = some true)
  | .int _ => (by decide +kernel : kitB "int" "bool" = some false)
  | .str _ => (by decide +kernel : kitB "str" "bool" = some false)
  | .list _ => (by decide +kernel : kitB "list" "bool" = some false)
  | .tuple _ => (by decide +kernel : kitB "tuple" "bool" = some false)
  | .dict _ => (by decide +kernel : kitB "dict" "bool" = some false)
theorem kit_str : ∀ x : PyData, kitB (typeD x) "str" = some (isiStr x)
  | .none => (by decide +kernel : kitB "NoneType" "str" = some false)
  | .bool _ => (by decide +kernel : kitB "bool" "str" = some false)
  | .int _ => (by decide +kernel : kitB "int" "str" = some false)
  | .str _ => (by decide +kernel : kitB "str" "str" = some true)
  | .list _ => (by decide +kernel : kitB "list" "str" = some false)
  | .tuple _ => (by decide +kernel : kitB "tuple" "str" = some false)
  | .dict _ => (by decide +kernel : kitB "dict" "str" = some false)
theorem kit_tuple : ∀ x : PyData, kitB (typeD x) "tuple" = some (isiTup x)
  | .none => (by decide +kernel : kitB "NoneType" "tuple" = some false)
  | .bool _ => (by decide +kernel : kitB "bool" "tuple" = some false)
  | .int _ => (by decide +kernel : kitB "int" "tuple" = some false)
  | .str _ => (by decide +kernel : kitB "str" "tuple" = some false)
  | .list _ => (by decide +kernel : kitB "list" "tuple" = some false)
  | .tuple _ => (by decide +kernel : kitB "tuple" "tuple" = some true)
  | .dict _ => (by decide +kernel : kitB "dict" "tuple" = some false)
theorem kit_list : ∀ x : PyData, kitB (typeD x) "list" = some (isiLst x)
  | .none => (by decide +kernel : kitB "NoneType" "list" = some false)
  | .bool _ => (by decide +kernel : kitB "bool" "list" = some false)
  | .int _ => (by decide +kernel : kitB "int" "list" = some false)
  | .str _ => (by decide +kernel : kitB "str" "list" = some false)
  | .list _ => (by decide +kernel : kitB "list" "list" = some true)
  | .tuple _ => (by decide +kernel : kitB "tuple" "list" = some false)
  | .dict _ => (by decide +kernel : kitB "dict" "list" = some false)
theorem ee_isInt (h : EEd P b1 te env x) : EEd P false (tCB (rIsi P.K) (tCons te (tCons (tC (.ty "int")) tNil))) env (.bool (isiInt x)) := ee_isi h (kit_int x)
theorem ee_isBool (h : EEd P b1 te env x) : EEd P false (tCB (rIsi P.K) (tCons te (tCons (tC (.ty "bool")) tNil))) env (.bool (isiBool x)) := ee_isi h (kit_bool x)
theorem ee_isStr (h : EEd P b1 te env x) : EEd P false (tCB (rIsi P.K) (tCons te (tCons (tC (.ty "str")) tNil))) env (.bool (isiStr x)) := ee_isi h (kit_str x)
theorem ee_isTup (h : EEd P b1 te env x) : EEd P false (tCB (rIsi P.K) (tCons te (tCons (tC (.ty "tuple")) tNil))) env (.bool (isiTup x)) := ee_isi h (kit_tuple x)
theorem ee_isLst (h : EEd P b1 te env x) : EEd P false (tCB (rIsi P.K) (tCons te (tCons (tC (.ty "list")) tNil))) env (.bool (isiLst x)) := ee_isi h (kit_list x)
end
/-! ### own errors -/
structure ExcC (K : PySem.W.Frag) (mg : Str → Option Value) (x : Str) (C : Addr) : Prop where
  g : mg x = some (.ref C)
  e : PySem.W.excIn K C [.type "ValueError", .type "Exception", .type "BaseException", .type "object"] "ValueError.__new__" = true
  k : PySem.W.keepIn K (.ref C) = true
  b : PySem.W.subIn K (.ref C) (.type "BaseException") = some true
  t : PySem.W.typeIn K (.ref C) = some (.type "type")
theorem ps_raiseC {X : Cx} {x m : Str} {C : Addr} {E : XK} {j : Nat} {p p2 pos pos2 : Pos} (T : ExcC X.K X.mg x C) (hc : X.calm = true) (tk : Takes X (fun cls d _ H => E cls d H)) (hg : Gl X x) (hdb : (x == ("__debug__" : Str)) = false := by decide) :
    PS X (.Raise (some (.Call (.Name x p) [.Constant (.str m) j p2] [] pos)) none pos2) (tRaiseC C E) := ps_raise hc tk (pmk_own PySem.F.excBase_ValueError T.e T.g T.k (raises_own T.b T.t) hg hdb)
end Fw
namespace Fw
open PyProof.Rows PySem PySem.Spec L2
section
variable {P : Pm} {E : XK} {env env' : List Ent} {tb : TS} {po : Po} {x y : PyData}
/-- a turn whose target is a name, a pair of names -/
theorem turn1 {i : Nat} (h : SEv P E tb (env.set i (.d x)) po) : ∃ env'' gs, GEv P (gName i) x env env'' gs ∧ SEv P E tb env'' po := ⟨_, [i], ge_name (List.mem_singleton.mpr rfl), h⟩
theorem turn2 {i j : Nat} (h : SEv P E tb ((env.set i (.d x)).set j (.d y)) po) : ∃ env'' gs, GEv P (gTup P.K 2 (gCons (gName i) (gCons (gName j) gNil))) (.tuple [x, y]) env env'' gs ∧ SEv P E tb env'' po :=
  ⟨_, [i, j], ge_pair List.mem_cons_self (List.mem_cons_of_mem _ List.mem_cons_self), h⟩
end
theorem enumD_get {α : Type} {em : α → PyData} {ns : List α} {k : Int} {i : Nat} {x : PyData} (h : (enumD k (ns.map em))[i]? = some x) : ∃ n, ns[i]? = some n ∧ x = .tuple [.int (k + (i : Nat)), em n] := by
  unfold enumD at h
  rw [List.getElem?_map, List.getElem?_zipIdx, List.getElem?_map] at h
  cases hi : ns[i]? with
  | none => rw [hi] at h; cases h
  | some n =>
    rw [hi] at h
    refine ⟨n, rfl, ?_⟩
    have e := Option.some.inj h
    rw [← e, Nat.zero_add]
theorem enumD_len {k : Int} {xs : List PyData} : (enumD k xs).length = xs.length := by simp [enumD]
theorem take_zip {α : Type} {ns : List α} {i : Nat} {n : α} (h : ns[i]? = some n) : ns.zipIdx.take (i + 1) = ns.zipIdx.take i ++ [(n, i)] := by
  have hz : ns.zipIdx[i]? = some (n, i) := by rw [List.getElem?_zipIdx, h]; simp
  rw [List.take_add_one, hz]; rfl
theorem take_one {α : Type} {ns : List α} {i : Nat} {n : α} (h : ns[i]? = some n) : ns.take (i + 1) = ns.take i ++ [n] := by rw [List.take_add_one, h]; rfl
end Fw
end

section
/-! Fw9: the rules with the written part by name (a comprehension's context has the same one). -/
namespace Fw
open PyProof.Rows PySem PySem.Spec L2
section
variable {X : Cx} {K : PySem.W.Frag}
theorem k_len (h : X.K = K) : CallR X (.builtin "len") (rLenD K) := by subst h; exact call_len
theorem k_all (h : X.K = K) (hc : X.calm = true) : CallR X (.builtin "all") (rAll K) := by subst h; exact cr_all hc
theorem k_any (h : X.K = K) (hc : X.calm = true) : CallR X (.builtin "any") (rAny K) := by subst h; exact cr_any hc
theorem k_tuple (h : X.K = K) : CallR X (.type "tuple") (rTupOf K) := by subst h; exact call_tuple_of
theorem k_list (h : X.K = K) : CallR X (.type "list") (rListOf K) := by subst h; exact call_list_of
theorem k_isi (h : X.K = K) : CallR X (.builtin "isinstance") (rIsi K) := by subst h; exact call_isi
theorem k_int : CallR X (.type "int") rInt1 := call_int1
theorem k_add (h : X.K = K) : OpR X (binaryOp .Add) (rAddD K) := by subst h; exact op_addD
theorem k_eq (h : X.K = K) (hu : X.A.units + 64 < cLine) : OpR X (compareOp .Eq) (rEqD K) := by subst h; exact op_eqD hu
theorem k_ne (h : X.K = K) (hu : X.A.units + 64 < cLine) : OpR X (compareOp .NotEq) (rNeD K) := by subst h; exact op_neD hu
theorem k_in (h : X.K = K) : OpR X (compareOp .In) (rInD K false) := by subst h; exact op_inD
theorem k_notin (h : X.K = K) : OpR X (compareOp .NotIn) (rInD K true) := by subst h; exact op_notinD
theorem k_ix (h : X.K = K) : IxR X (rIx K) := by subst h; exact ix_seq
theorem k_sl (h : X.K = K) : SlR X (rSlD K) := by subst h; exact sl_D
theorem k_seq (h : X.K = K) {tg l : Expr} {tl : TE} (hl : PE X l tl) : PI X tg l (iSeq K tl) := by subst h; exact pi_seq hl
theorem k_gtup (h : X.K = K) {es : List Expr} {t : TGs} {n : Nat} {pos : Pos} {k : Nat} (hc : X.calm = true) (ht : PGs X es t) (hn : (assignEach es X.env).length = n := by rfl) (hst : (assignEach es X.env).findIdx? (·.1) = none := by rfl) : PG X (.Tuple es k pos) (gTup K n t) := by
  subst h
  exact pg_tup hc ht hn hst
theorem k_enum0 (h : X.K = K) {p pos tpos : Pos} {elts : List Expr} {kk : Nat} {e : Expr} {ta : TA} (hg : Gl X "enumerate") (hm : X.mg "enumerate" = none) (ha : PA X [e] ta) (hs : starEach [e] X.env = [(false, eval e X.env)] := by rfl) :
    PI X (.Tuple elts kk tpos) (.Call (.Name "enumerate" p) [e] [] pos) (iEnT0 K ta) := by subst h; exact pi_enumT0 hg hm ha hs
theorem k_enum1 (h : X.K = K) {p pos tpos : Pos} {elts : List Expr} {kk : Nat} {e e2 : Expr} {ta : TA} (hg : Gl X "enumerate") (hm : X.mg "enumerate" = none) (ha : PA X [e, e2] ta) (hs : starEach [e, e2] X.env = [(false, eval e X.env), (false, eval e2 X.env)] := by rfl) (hs2 : starEach [e2] X.env = [(false, eval e2 X.env)] := by rfl) :
    PI X (.Tuple elts kk tpos) (.Call (.Name "enumerate" p) [e, e2] [] pos) (iEnT1 K ta) := by subst h; exact pi_enumT1 hg hm ha hs hs2
theorem k_lenSet (h : X.K = K) {a : Expr} {ta : TE} {p p2 q pos : Pos} (hc : X.calm = true) (hg : Gl X "len") (hm : X.mg "len" = none) (hg2 : Gl X "set") (hm2 : X.mg "set" = none) (ha : PE X a ta)
    (na : starEach [a] X.env = (false, eval a X.env) :: starEach [] X.env := by rfl) : PE X (.Call (.Name "len" p) [.Call (.Name "set" p2) [a] [] q] [] pos) (tLenSetT K ta) := by subst h; exact pe_lenSetT hc hg hm hg2 hm2 ha na
theorem k_star (h : X.K = K) {e : Expr} {te : TE} {es : List Expr} {t : TA} {p : Pos} (he : PE X e te) (hr : PA X es t) (hs : starEach (.Starred e p :: es) X.env = (true, eval e X.env) :: starEach es X.env := by rfl) : PA X (.Starred e p :: es) (StX.tStar K te t) := by subst h; exact StX.pa_star he hr hs
theorem k_bm (h : X.K = K) {T id : String} {name : Str} {o : Expr} {to : TE} {r : V → List V → Hp → VK → Prop} {e : Expr} {es : List Expr} {t : TA} {apos cpos : Pos} (pa : PlainAttrs T) (slot : Slot T name id) (hty : typeOf (.builtin id) = pure (.type "method_descriptor")) (hm : MtR X id r) (ho : PE X o to) (ha : PA X (e :: es) t)
    (hbase : attributeBase o name X.env (eval o X.env) = eval o X.env := by rfl)
    (hfew : ((backTo cpos (starEach (e :: es) X.env)).all (fun x => !x.1) && (backToKw cpos (keywordEach [] X.env)).all (fun x => x.1.isSome) && decide ((e :: es).length + ([] : List Keyword).length + (if ([] : List Keyword).isEmpty then 0 else 1) < 30)) = true := by rfl)
    (hline : (apos.endLine == cpos.line) = true := by rfl) (hs : starEach (e :: es) X.env = (false, eval e X.env) :: starEach es X.env := by rfl) (hplain : (backTo cpos (starEach es X.env)).any (·.1) = false := by rfl) :
    PE X (.Call (.Attribute o name apos) (e :: es) [] cpos) (tBM K T r to t) := by subst h; exact pe_bm pa slot hty hm ho ha hbase hfew hline hs hplain
end
end Fw
end

section
/-! Fw10: t[::-1]. -/
namespace Fw
open PyProof.Rows PySem PySem.Spec L2
theorem rev_places (n : Nat) : Builtin.Slice.slicePlaces ((n : Int) - 1) (-1) (-1) = n := by
  unfold Builtin.Slice.slicePlaces
  rw [if_neg (show ¬ ((-1 : Int) > 0) by decide)]
  simp only [Int.neg_neg, Int.ediv_one]
  split <;> omega
theorem rev_adjust (n : Nat) : Builtin.Slice.sliceAdjust none none (-1) (n : Int) = ((n : Int) - 1, -1) := by
  unfold Builtin.Slice.sliceAdjust
  simp <;> omega
theorem fm_congr {α β : Type} {f g : α → Option β} : ∀ {l : List α}, (∀ x ∈ l, f x = g x) → l.filterMap f = l.filterMap g
  | [], _ => rfl
  | x :: l, h => by
    rw [List.filterMap_cons, List.filterMap_cons, h x List.mem_cons_self, fm_congr fun y hy => h y (List.mem_cons_of_mem _ hy)]
theorem rev_pick (xs : Array Value) : ((List.range xs.size).filterMap fun (m : Nat) => xs[(((xs.size : Int) - 1) + (m : Int) * (-1)).toNat]?).toArray = xs.toList.reverse.toArray := by
  have e : ((List.range xs.size).filterMap fun (m : Nat) => xs[(((xs.size : Int) - 1) + (m : Int) * (-1)).toNat]?) = ((List.range xs.size).map fun k => xs.size - 1 - k).filterMap (xs[·]?) := by
    rw [List.filterMap_map]
    apply fm_congr
    intro m hm
    have hm := List.mem_range.mp hm
    show _ = xs[xs.size - 1 - m]?
    congr 1
    omega
  rw [e, PySem.W.krv_range, List.filterMap_reverse, PySem.W.krv_all]
section
variable {prog : Program} {w : World} {A : Around} {E : Value → Shared → Prop} {s : Shared}
theorem getItem_tuple_rev {t sl : Addr} {items : Array Value} {u : Tok} {Q : Value → Shared → Prop} (ht : IsTup s.heap t items) (hs : s.heap.IsSliceOf sl .none .none (.int (-1) u)) (hz : items.size ≤ sizeLine)
    (h : Q (.ref s.heap.objs.size) { s with heap := s.heap.push { cls := .type "tuple", data := .seq items.toList.reverse.toArray } }) : wpAny (model prog w) A (getItem (.ref t) (.ref sl)) Q E s := by
  have fits : sizeOk (.seq items.toList.reverse.toArray) := by
    show items.toList.reverse.toArray.size ≤ sizeLine
    simpa using hz
  obtain ⟨os, ho, hc, hd⟩ := id hs
  have hT : s.TypeIs (.ref sl) "slice" := ⟨os, ho, hc⟩
  unfold getItem
  try with_reducible refine wpAny_holding ?_
  first | refine wpAny_bind (wpAny_pure ?_) | skip
  refine wpAny_bind (wpAny_sequenceKey ht.typeIs (by decide) (wpAny_bind (wpAny_callSpecial?_slot (name := Str.ofString "__getitem__") ht.typeIs slot_tuple_getitem (wpAny_call_entry slot_tuple_getitem ht.typeIs entry_tuple_getitem ?_ (args_tuple_getitem _ _)))))
  show wpAny _ _ (Builtin.Tuple.tupleItemsOf (.ref t) >>= _) _ _ s
  refine wpAny_bind (tupleItemsOf_ ht (wpAny_bind (wpAny_typeOf hT ?_)))
  rw [if_pos (by decide)]
  refine wpAny_bind ?_
  · unfold Builtin.Slice.sliceApplied Builtin.Slice.sliceFields
    refine wpAny_bind (wpAny_bind (wpAny_field ho hd (x := .none) rfl (wpAny_bind (wpAny_field ho hd (x := .none) rfl (wpAny_bind (wpAny_field ho hd (x := .int (-1) u) rfl (wpAny_pure ?_)))))))
    refine wpAny_bind (slicePart_int ?_)
    show wpAny _ _ (if ((-1 : Int) == 0) = true then _ else _) _ _ s
    rw [if_neg (by decide)]
    refine wpAny_bind (slicePart_none (wpAny_bind (slicePart_none (wpAny_bind (wpAny_pure ?_)))))
    show wpAny _ _ (match Builtin.Slice.sliceAdjust none none (-1) (items.size : Int) with | (lo, hi) => pure (lo, (-1 : Int), Builtin.Slice.slicePlaces lo hi (-1))) _ _ s
    rw [rev_adjust]
    show wpAny _ _ (pure (((items.size : Int) - 1), (-1 : Int), Builtin.Slice.slicePlaces ((items.size : Int) - 1) (-1) (-1))) _ _ s
    rw [rev_places]
    refine wpAny_pure ?_
    have no : ¬ ((((items.size : Int) - 1) == 0 && (-1 : Int) == 1 && items.size == items.size) = true) := by simp
    show wpAny _ _ (if (((items.size : Int) - 1) == 0 && (-1 : Int) == 1 && items.size == items.size) = true then _ else _) _ _ s
    rw [if_neg no, rev_pick]
    first
      | exact wpAny_bind (m := Builtin.Tuple.tupleExact _) (wpAny_newObj_type (wpAny_pure ⟨_, rfl, wpAny_pure h⟩) fits)
      | exact wpAny_bind (m := Builtin.Tuple.tupleExact _) (wpAny_newObj_type (wpAny_bind (wpAny_pure (wpAny_pure ⟨_, rfl, wpAny_pure h⟩))) fits)
      | exact wpAny_bind (wpAny_bind (m := Builtin.Tuple.tupleExact _) (wpAny_newObj_type (wpAny_pure (wpAny_pure ⟨_, rfl, wpAny_pure h⟩)) fits))
      | exact wpAny_bind (wpAny_bind (m := Builtin.Tuple.tupleExact _) (wpAny_newObj_type (wpAny_pure ⟨_, rfl, wpAny_pure h⟩) fits))
end
theorem pe_revT {X : Cx} {K : PySem.W.Frag} (hK : X.K = K) {e : Expr} {te : TE} {k : Nat} {p1 p2 p3 pos : Pos} (he : PE X e te) : PE X (.Subscript e (.Slice none none (some (.UnaryOp .USub (.Constant (.int 1) k p1) p2)) p3) pos) (tRevT K te) := by
  subst hK
  refine ⟨fun pins s σ H Q I h => Subscript_ (thn (he.run pins s σ H _ I h) fun v s1 hh => ?_)⟩
  obtain ⟨x, H1, I1, r1, a, xs, rfl, hx, q⟩ := hh
  cases r1
  have part : PO X (some (.UnaryOp .USub (.Constant (.int 1) k p1) p2)) (tPart (tUn (rU fun i => .int (-i)) (tC (.int 1)))) := po_some (pe_un un_neg pe_int)
  refine wpAny_Slice (thn (po_none.run pins s1 σ H1 (fun o H2 => o = none ∧ H2 = H1) I1 ⟨rfl, rfl⟩) fun vl s2 hl => ?_)
  obtain ⟨l, H2, I2, pl, rfl, rfl⟩ := hl
  refine thn (po_none.run pins s2 σ H2 (fun o H3 => o = none ∧ H3 = H2) I2 ⟨rfl, rfl⟩) fun vu s3 hu => ?_
  obtain ⟨u, H3, I3, pu, rfl, rfl⟩ := hu
  refine thn (part.run pins s3 σ H3 (fun o H4 => o = some (-1) ∧ H4 = H3) I3 ⟨1, rfl, -1, rfl, rfl, rfl⟩) fun vs s4 hs => ?_
  obtain ⟨o, H4, I4, ps, rfl, rfl⟩ := hs
  cases pl; cases pu; cases ps
  rename_i tk
  have I5 : Inv X pins σ H4 { s4 with heap := s4.heap.push { cls := .type "slice", data := .fields #[.none, .none, .int (-1) tk] } } := I4.kept (t' := s4.toks) fun b ob q => Heap.get?_push_of_some _ q
  obtain ⟨its, r, ht, hz⟩ := I5.tuple hx
  have hlen := r.length
  show wpAny (model X.prog X.w) X.A (subscriptTail e (.Slice none none (some (.UnaryOp .USub (.Constant (.int 1) k p1) p2)) p3) (.ref a) (.ref s4.heap.objs.size)) (EP X pins σ Q) X.xe _
  refine tail_any (ops := [.ref a, .ref s4.heap.objs.size]) ht.typeIs slot_tuple_getitem.lookup ?_ (by with_unfolding_all rfl)
  refine getItem_tuple_rev ht (Heap.IsSliceOf.new _ .none .none (.int (-1) tk)) (by rw [List.size_toArray]; omega) ?_
  refine ⟨.ref _, _, I5.laid (t' := s4.toks) (o := .tup xs.reverse) (fun b ob q => Heap.get?_push_of_some _ q) (Nat.le_refl _) ?_, rfl, q _ (I5.hok.fresh (Nat.le_refl _))⟩
  exact ⟨by rw [List.length_reverse]; exact hz, _, r.reverse, IsTup.new _ _⟩
theorem ee_revT {P : Pm} {env : List Ent} {te : TE} {ds : List PyData} (h : EEd P false te env (.tuple ds)) : EEd P false (tRevT P.K te) env (.tuple ds.reverse) := fun M ks H0 H σ S Q q =>
  h M ks H0 H σ S _ fun v y H1 hy e1 i1 d1 => by
    subst hy
    cases d1 with
    | tup g a => exact ⟨_, _, rfl, same_t (mk_same _ _) g, fun p hp => q _ _ _ rfl (e1.trans (.of (same_new hp))) ((S.step e1 i1).is (same_new hp)) (.newT (S.step e1 i1).mlo hp a.reverse)⟩
end Fw
end

section
/-! Fw11: facts of plain data: equality, shapes, items. -/
namespace Fw
open PyProof.Rows PySem PySem.Spec L2
theorem eqv_i (i j : Int) : PyData.eqv (.int i) (.int j) = decide (i = j) := by
  unfold PyData.eqv
  by_cases h : i = j <;> simp [h]
theorem eqv_b (i j : Bool) : PyData.eqv (.bool i) (.bool j) = decide (i = j) := by
  unfold PyData.eqv
  cases i <;> cases j <;> rfl
theorem eqvAll_ints : ∀ ns ms : List Int, PyData.eqvAll (ns.map .int) (ms.map .int) = decide (ns = ms)
  | [], [] => rfl
  | [], _ :: _ => rfl
  | _ :: _, [] => rfl
  | n :: ns, m :: ms => by
    show (PyData.eqv (.int n) (.int m) && PyData.eqvAll (ns.map .int) (ms.map .int)) = _
    rw [eqv_i, eqvAll_ints ns ms]
    by_cases h : n = m
    · by_cases h2 : ns = ms <;> simp [h, h2]
    · simp [h]
theorem eqv_ti (ns ms : List Int) : PyData.eqv (.tuple (ns.map .int)) (.tuple (ms.map .int)) = decide (ns = ms) := by
  unfold PyData.eqv
  exact eqvAll_ints ns ms
theorem eqv_li (ns ms : List Int) : PyData.eqv (.list (ns.map .int)) (.list (ms.map .int)) = decide (ns = ms) := by
  unfold PyData.eqv
  exact eqvAll_ints ns ms
theorem eqv_l0 (ds : List PyData) : PyData.eqv (.list ds) (.list []) = ds.isEmpty := by
  cases ds <;> (unfold PyData.eqv; rfl)
theorem eqv_t0 (ds : List PyData) : PyData.eqv (.tuple ds) (.tuple []) = ds.isEmpty := by
  cases ds <;> (unfold PyData.eqv; rfl)
/-! nested no deeper than k, of None, bools, ints -/
mutual
def flatK : Nat → PyData → Bool
  | _, .none => true
  | _, .bool _ => true
  | _, .int _ => true
  | k + 1, .list xs => flatKs k xs
  | k + 1, .tuple xs => flatKs k xs
  | _, _ => false
def flatKs : Nat → List PyData → Bool
  | _, [] => true
  | k, x :: xs => flatK k x && flatKs k xs
end
mutual
theorem flatK_ok : ∀ (k : Nat) (d : PyData), flatK k d = true → d.canLay0 = true ∧ d.depth ≤ k
  | _, .none, _ => ⟨by simp [PyData.canLay0], by simp [PyData.depth]⟩
  | _, .bool _, _ => ⟨by simp [PyData.canLay0], by simp [PyData.depth]⟩
  | _, .int _, _ => ⟨by simp [PyData.canLay0], by simp [PyData.depth]⟩
  | k + 1, .list xs, h => by
    have q := flatKs_ok k xs (by simpa [flatK] using h)
    exact ⟨by simpa [PyData.canLay0] using q.1, by simp [PyData.depth]; omega⟩
  | k + 1, .tuple xs, h => by
    have q := flatKs_ok k xs (by simpa [flatK] using h)
    exact ⟨by simpa [PyData.canLay0] using q.1, by simp [PyData.depth]; omega⟩
  | 0, .list _, h => by simp [flatK] at h
  | 0, .tuple _, h => by simp [flatK] at h
  | _, .str _, h => by simp [flatK] at h
  | _, .dict _, h => by simp [flatK] at h
theorem flatKs_ok : ∀ (k : Nat) (ds : List PyData), flatKs k ds = true → PyData.canLayAll0 ds = true ∧ PyData.depthAll ds ≤ k
  | _, [], _ => ⟨by simp [PyData.canLayAll0], by simp [PyData.depthAll]⟩
  | k, x :: xs, h => by
    have h' : flatK k x = true ∧ flatKs k xs = true := by simpa [flatKs] using h
    have q1 := flatK_ok k x h'.1
    have q2 := flatKs_ok k xs h'.2
    exact ⟨by simp [PyData.canLayAll0, q1.1, q2.1], by simp [PyData.depthAll]; omega⟩
end
theorem shaped_flat {d : PyData} (k : Nat) (h : flatK k d = true) (hk : k ≤ 64 := by decide) : SeqAt.shaped d = true := by
  have q := flatK_ok k d h
  unfold SeqAt.shaped
  rw [q.1, decide_eq_true (Nat.le_trans q.2 hk)]; rfl
theorem flatKs_all {k : Nat} : ∀ {ds : List PyData}, (∀ d ∈ ds, flatK k d = true) → flatKs k ds = true
  | [], _ => rfl
  | d :: ds, h => by
    rw [flatKs, h d List.mem_cons_self, flatKs_all fun e he => h e (List.mem_cons_of_mem _ he)]; rfl
theorem flat_ti (ns : List Int) {k : Nat} : flatK (k + 1) (.tuple (ns.map .int)) = true := flatKs_all (k := k) fun d hd => by
  obtain ⟨n, _, rfl⟩ := List.mem_map.mp hd
  rfl
theorem flat_li (ns : List Int) {k : Nat} : flatK (k + 1) (.list (ns.map .int)) = true := flatKs_all (k := k) fun d hd => by
  obtain ⟨n, _, rfl⟩ := List.mem_map.mp hd
  rfl
theorem shaped_ti (ns : List Int) : SeqAt.shaped (.tuple (ns.map .int)) = true := shaped_flat 1 (flat_ti ns)
theorem shaped_t0 : SeqAt.shaped (.tuple []) = true := shaped_flat 1 rfl
theorem shaped_l0 : SeqAt.shaped (.list []) = true := shaped_flat 1 rfl
theorem shaped_i (i : Int) : SeqAt.shaped (.int i) = true := shaped_flat 0 rfl
theorem shaped_b (i : Bool) : SeqAt.shaped (.bool i) = true := shaped_flat 0 rfl
theorem shaped_lti (fs : List (List Int)) : SeqAt.shaped (.list (fs.map fun f => .tuple (f.map .int))) = true := shaped_flat 2 (flatKs_all (k := 1) fun d hd => by
  obtain ⟨f, _, rfl⟩ := List.mem_map.mp hd
  exact flat_ti f)
/-! ### items -/
theorem ixN_nat {n : Nat} {i : Int} (h0 : 0 ≤ i) (h1 : i < n) : ixN n i = some i.toNat := by
  unfold ixN
  rw [if_pos h0, if_pos h1]
theorem atI_int {ns : List Int} {i : Int} (h0 : 0 ≤ i) (h1 : i < ns.length) : atI (ns.map PyData.int) i = some (.int (ns.getD i.toNat 0)) := by
  unfold atI
  rw [List.length_map, ixN_nat h0 h1]
  have : i.toNat < ns.length := by omega
  simp [this]
theorem atI_lastI {ns : List Int} (h : ns ≠ []) : atI (ns.map PyData.int) (-1) = some (.int (ns.getLast h)) := by
  unfold atI ixN
  rw [List.length_map, if_neg (by decide)]
  have hp : 0 < ns.length := List.length_pos_iff.mpr h
  rw [if_pos (by omega)]
  have e : ((-1 : Int) + (ns.length : Int)).toNat = ns.length - 1 := by omega
  simp only [Option.bind_some, e, List.getElem?_map]
  rw [List.getLast_eq_getElem, List.getElem?_eq_getElem (by omega)]
  rfl
theorem ee_neg {P : Pm} {env : List Ent} {te : TE} {b : Bool} {i : Int} (h : EEd P b te env (.int i)) : EEd P false (tUn (rU fun i => .int (-i)) te) env (.int (-i)) := ee_un h (.int _)
end Fw
end

section
open PyProof.Rows PySem PySem.Spec L2
namespace Fw
section
variable {P : Pm} {env : List Ent} {b : Bool} {t : TT} {ta tb : TE} {x y : PyData}
theorem ee_ifT (h : TEd P t env true) (h1 : EEd P b ta env x) : EEd P b (tIf t ta tb) env x := ee_if (y := x) h (fun _ => h1) (fun h => nomatch h)
theorem ee_ifF (h : TEd P t env false) (h1 : EEd P b tb env x) : EEd P b (tIf t ta tb) env x := ee_if (x := x) h (fun h => nomatch h) (fun _ => h1)
theorem ee_ifB {c : Bool} {z : PyData} (h : TEd P t env c) (h1 : c = true → EEd P b ta env z) (h2 : c = false → EEd P b tb env z) : EEd P b (tIf t ta tb) env z := by
  have := ee_if h h1 h2
  rwa [ite_self] at this
end
def rngI (lo : Int) (n : Nat) : List Int := (List.range n).map fun i => lo + ((i : Nat) : Int)
theorem rngD_I (lo : Int) (n : Nat) : rngD lo n = (rngI lo n).map .int := by
  unfold rngD rngI; rw [List.map_map]; rfl
theorem rngI_len (lo : Int) (n : Nat) : (rngI lo n).length = n := by simp [rngI]
theorem mem_rngI {lo : Int} {n : Nat} {i : Int} : i ∈ rngI lo n ↔ lo ≤ i ∧ i < lo + n := by
  unfold rngI
  rw [List.mem_map]
  constructor
  · rintro ⟨a, ha, rfl⟩
    have := List.mem_range.mp ha
    omega
  · rintro ⟨h1, h2⟩
    exact ⟨(i - lo).toNat, List.mem_range.mpr (by omega), by omega⟩
theorem rngI_nodup (lo : Int) (n : Nat) : (rngI lo n).Nodup := by
  unfold rngI
  refine List.pairwise_map.mpr (List.Pairwise.imp ?_ List.nodup_range)
  intro a b h e
  exact h (by omega)
theorem take_get {α : Type} {l : List α} {i : Nat} {x : α} (h : l[i]? = some x) : l.take (i + 1) = l.take i ++ [x] := by
  rw [List.take_add_one, h]; rfl
end Fw
end

section
open PyProof.Rows PySem PySem.Spec L2
namespace Fw
/-- the table at a: its values by key -/
def TabOk (K : PySem.W.Frag) (w : World) (a : Addr) (kvs : List (Str × PyData)) : Prop := ∀ q ∈ kvs, ∃ v, KDct K w a q.1 v ∧ Dd K (fun _ => none) v q.2
theorem k_kd {X : Cx} {K : PySem.W.Frag} {w : World} (h : X.K = K) (h2 : X.w = w) : IxR X (rIxD K w) := by subst h; subst h2; exact ix_kdict
section
variable {P : Pm} {env : List Ent} {b b' : Bool} {te : TE}
theorem ee_globD {v : V} {d : PyData} (h : Dd P.K (fun _ => none) v d) : EEd P b (tC v) env d := fun M ks H0 H σ S Q q =>
  q _ _ H rfl (.refl _ _) S.inv (h.mono fun _ _ h => by cases h)
theorem ee_kd {w : World} {a : Addr} {kvs : List (Str × PyData)} {x : Str} {d : PyData} (h : TabOk P.K w a kvs) (he : EEd P b te env (.str x)) (hm : (x, d) ∈ kvs) : EEd P b' (tOp (rIxD P.K w) (tC (.ref a)) te) env d := fun M ks H0 H σ S Q q => by
  refine he M ks H0 H σ S _ fun w1 y H1 hy e1 i1 d1 => ?_
  subst hy
  cases d1
  obtain ⟨v, hk, hd⟩ := h _ hm
  exact ⟨a, x, v, rfl, rfl, hk, q v d H1 rfl e1 i1 (hd.mono fun _ _ h => by cases h)⟩
end
end Fw
end

section
/-! Fw14: dicts of one's own -/
open PyProof.Rows PySem PySem.Spec L2
namespace Fw
def DdK (K : PySem.W.Frag) (Hm : Hp) (vs : List (Key × V)) (ds : List (Key × PyData)) : Prop := vs.map (·.1) = ds.map (·.1) ∧ DdA K Hm (vs.map (·.2)) (ds.map (·.2))
section
variable {P : Pm} {env : List Ent} {b b1 b2 : Bool} {ta tb te tc : TE} {t u : TS} {x y z : PyData} {Φ Ψ : PyData → Prop} {H H' : Hp} {M : Addr → Prop} {ks : List (V × PyData)} {H0 : Hp} {σ : L2.St} {E : XK} {po : Po} {K : PySem.W.Frag}
/-- an owned dict changes -/
theorem Stt.mutK (S : Stt P M ks H0 H σ env) {i : Nat} {a : Addr} {ds : List (Key × PyData)} {vs : List (Key × V)} {es : List (Key × PyData)} (hi : env[i]? = some (.owk a ds)) (ha : DdK P.K (msk (Mo M env) H) vs es) : Stt P M ks H0 (upd H a (.dK vs)) σ (env.set i (.owk a es)) := by
  have him : i < σ.length := by rw [S.len]; exact (List.getElem?_eq_some_iff.mp hi).1
  have oki := S.ok i σ[i] _ (List.getElem?_eq_getElem him) hi
  have hMo : Mo M env a := .inr (mem_owned.mpr ⟨i, _, hi, rfl⟩)
  have key : ∃ hv : σ[i] = some (.ref a), H0 a = none ∧ ¬ M a ∧ ∃ vs, H a = some (.dK vs) := by
    cases e : σ[i] with
    | none => rw [e] at oki; exact oki.elim
    | some v =>
      rw [e] at oki
      obtain ⟨rfl, p, q, vs, r, _⟩ := oki
      exact ⟨rfl, p, q, vs, r⟩
  obtain ⟨hv, h0, hnM, vs0, hH⟩ := key
  have hMe : ∀ c, Mo M (env.set i (.owk a es)) c ↔ Mo M env c := fun c => by
    constructor
    · rintro (h | h)
      · exact .inl h
      · obtain ⟨j, f, hj, hc⟩ := mem_owned.mp h
        rw [List.getElem?_set] at hj
        split at hj
        · split at hj
          · cases hj; cases hc; exact hMo
          · cases hj
        · exact .inr (mem_owned.mpr ⟨j, f, hj, hc⟩)
    · rintro (h | h)
      · exact .inl h
      · obtain ⟨j, f, hj, hc⟩ := mem_owned.mp h
        by_cases ij : i = j
        · subst ij
          rw [hi] at hj; cases hj; cases hc
          exact .inr (mem_owned.mpr ⟨i, .owk a es, by rw [List.getElem?_set]; simp [(List.getElem?_eq_some_iff.mp hi).1], rfl⟩)
        · exact .inr (mem_owned.mpr ⟨j, f, by rw [List.getElem?_set, if_neg ij]; exact hj, hc⟩)
  have w : Same (msk (Mo M env) H) (msk (Mo M (env.set i (.owk a es))) (upd H a (.dK vs))) := fun c o h => by
    have h' := mk_out h
    have ne : c ≠ a := fun e => h'.1 (e ▸ hMo)
    exact mk_of (fun z => h'.1 ((hMe c).mp z)) (by rw [upd_ne ne]; exact h'.2)
  have hG : a ∉ P.G := fun g => hnM (S.gm a g)
  refine ⟨fun c o n e => ?_, P.st _ _ (fun c o g e => by rw [upd_ne (show c ≠ a from fun z => hG (by rw [← z]; exact g))]; exact e) S.inv, S.gm, fun c m e => ?_, by rw [List.length_set]; exact S.len, fun j u f h1 h2 => ?_, fun p q => (S.kp p q).mono w, fun j k f g c h1 h2 h3 h4 => ?_⟩
  · have ne : c ≠ a := fun z => by rw [z, h0] at e; cases e
    rw [upd_ne ne]
    exact S.ex c o n e
  · have ne : c ≠ a := fun z => hnM (z ▸ m)
    rw [upd_ne ne] at e
    exact S.ml c m e
  · rw [List.getElem?_set] at h2
    by_cases ij : i = j
    · subst ij
      simp only [if_true] at h2
      split at h2
      · cases h2
        rw [List.getElem?_eq_getElem him, hv] at h1
        cases h1
        exact ⟨rfl, h0, hnM, vs, upd_same, ha.1, ha.2.mono w⟩
      · cases h2
    · rw [if_neg ij] at h2
      have okj := S.ok j u f h1 h2
      cases f with
      | un => cases u <;> trivial
      | d x => cases u with
        | none => exact okj
        | some u => exact Dd.mono w okj
      | raw q => cases u with
        | none => exact okj
        | some u => exact okj
      | own c ds' => cases u with
        | none => exact okj
        | some u =>
          obtain ⟨e1, e2, e3, ws, e4, e5⟩ := okj
          have ne : c ≠ a := fun z => ij (S.nd i j _ _ a hi h2 rfl (by rw [← z]; rfl))
          exact ⟨e1, e2, e3, ws, by rw [upd_ne ne]; exact e4, e5.mono w⟩
      | owk c ds' => cases u with
        | none => exact okj
        | some u =>
          obtain ⟨e1, e2, e3, ws, e4, e6, e5⟩ := okj
          have ne : c ≠ a := fun z => ij (S.nd i j _ _ a hi h2 rfl (by rw [← z]; rfl))
          exact ⟨e1, e2, e3, ws, by rw [upd_ne ne]; exact e4, e6, e5.mono w⟩
  · rw [List.getElem?_set] at h1 h2
    have back : ∀ (j : Nat) (f : Ent), (if i = j then if i < env.length then some (Ent.owk a es) else none else env[j]?) = some f → f.addr = some c → ∃ f', env[j]? = some f' ∧ f'.addr = some c := fun j f hj hf => by
      split at hj
      · rename_i e; subst e
        split at hj
        · cases hj; cases hf; exact ⟨_, hi, rfl⟩
        · cases hj
      · exact ⟨f, hj, hf⟩
    obtain ⟨f', g1, g2⟩ := back j f h1 h3
    obtain ⟨g', g3, g4⟩ := back k g h2 h4
    exact S.nd j k f' g' c g1 g3 g2 g4
/-- a slot takes a new dict as its own -/
theorem Stt.setOwk (S : Stt P M ks H0 H σ env) {i : Nat} {p : Addr} {vs : List (Key × V)} {ds : List (Key × PyData)} (hp : H p = none) {H1 : Hp} (e1 : ExG P.G H H1) (i1 : P.I H1) (g : H1 p = some (.dK vs)) (hd : DdK P.K (msk (fun a => Mo M env a ∨ a = p) H1) vs ds)
    (hn : ∀ e, env[i]? = some e → e.addr = none) : Stt P M ks H0 H1 (σ.set i (some (.ref p))) (env.set i (.owk p ds)) := by
  have S1 := S.step e1 i1
  obtain ⟨f0, fM, fG, fo⟩ := S.fresh0 hp
  have w : Same (msk (Mo M env) H) (msk (Mo M (env.set i (.owk p ds))) H1) := fun c o h => by
    have h' := mk_out h
    have ne : c ≠ p := fun z => by rw [z, hp] at h'; cases h'.2
    refine mk_of (fun z => ?_) (e1 c o (fun g => h'.1 (.inl (S.gm c g))) h'.2)
    rcases z with z | z
    · exact h'.1 (.inl z)
    · obtain ⟨j, f, hj, hc⟩ := mem_owned.mp z
      rw [List.getElem?_set] at hj
      split at hj
      · split at hj
        · cases hj; cases hc; exact ne rfl
        · cases hj
      · exact h'.1 (.inr (mem_owned.mpr ⟨j, f, hj, hc⟩))
  have w2 : Same (msk (fun a => Mo M env a ∨ a = p) H1) (msk (Mo M (env.set i (.owk p ds))) H1) := mk_weak H1 fun c z => by
    rcases z with z | z
    · exact .inl (.inl z)
    · obtain ⟨j, f, hj, hc⟩ := mem_owned.mp z
      rw [List.getElem?_set] at hj
      split at hj
      · split at hj
        · cases hj; cases hc; exact .inr rfl
        · cases hj
      · exact .inl (.inr (mem_owned.mpr ⟨j, f, hj, hc⟩))
  refine ⟨S1.ex, i1, S.gm, S1.ml, by rw [List.length_set, List.length_set]; exact S.len, fun j u f h1 h2 => ?_, fun q hq => (S.kp q hq).mono w, fun j k f g' c h1 h2 h3 h4 => ?_⟩
  · rw [List.getElem?_set] at h1 h2
    by_cases ij : i = j
    · subst ij
      simp only [if_true] at h1 h2
      split at h1
      · split at h2
        · cases h1; cases h2; exact ⟨rfl, f0, fM, vs, g, hd.1, hd.2.mono w2⟩
        · cases h2
      · cases h1
    · rw [if_neg ij] at h1 h2
      exact (S.ok j u f h1 h2).mono w fun c n o h => e1 c o (fun g => n (S.gm c g)) h
  · rw [List.getElem?_set] at h1 h2
    by_cases ij : i = j
    · subst ij
      by_cases ik : i = k
      · exact ik
      · rw [if_neg ik] at h2
        simp only [if_true] at h1
        split at h1
        · cases h1; cases h3
          exact absurd (mem_owned.mpr ⟨k, g', h2, h4⟩) fo
        · cases h1
    · rw [if_neg ij] at h1
      by_cases ik : i = k
      · subst ik
        simp only [if_true] at h2
        split at h2
        · cases h2; cases h4
          exact absurd (mem_owned.mpr ⟨j, f, h1, h3⟩) fo
        · cases h2
      · rw [if_neg ik] at h2
        exact S.nd j k f g' c h1 h2 h3 h4
theorem Stt.setOwk' (S : Stt P M ks H0 H σ env) {i : Nat} {p : Addr} {vs : List (Key × V)} {ds : List (Key × PyData)} (hp : H p = none) {H1 : Hp} (e1 : ExG P.G H H1) (i1 : P.I H1) (g : H1 p = some (.dK vs)) (hd : DdK P.K (msk (fun a => Mo M env a ∨ a = p) H1) vs ds) : Stt P M ks H0 H1 (σ.set i (some (.ref p))) (env.set i (.owk p ds)) := by
  have q := (S.forget (i := i) (v := none)).setOwk (i := i) hp e1 i1 g ⟨hd.1, hd.2.mono (mk_weak H1 fun a h => h.elim (fun h => .inl (Mo_set_le rfl a h)) .inr)⟩ fun e he => by
    rw [List.getElem?_set] at he
    simp only [if_true] at he
    split at he
    · cases he; rfl
    · cases he
  rw [List.set_set, List.set_set] at q
  exact q

theorem Stt.at_owk (S : Stt P M ks H0 H σ env) {i : Nat} {a : Addr} {ds : List (Key × PyData)} (h : env[i]? = some (.owk a ds)) : σ[i]? = some (some (.ref a)) ∧ ∃ vs, H a = some (.dK vs) ∧ DdK P.K (msk (Mo M env) H) vs ds := by
  have hi : i < σ.length := by rw [S.len]; exact (List.getElem?_eq_some_iff.mp h).1
  have ok := S.ok i σ[i] _ (List.getElem?_eq_getElem hi) h
  cases e : σ[i] with
  | none => rw [e] at ok; exact ok.elim
  | some v =>
    rw [e] at ok
    obtain ⟨rfl, _, _, vs, g, k, d⟩ := ok
    exact ⟨by rw [List.getElem?_eq_getElem hi, e], vs, g, k, d⟩
theorem DdK.nil {Hm : Hp} : DdK K Hm [] [] := ⟨rfl, .nil⟩
theorem DdK.inv {Hm : Hp} : ∀ {vs : List (Key × V)} {ds : List (Key × PyData)}, DdK K Hm vs ds → (vs = [] ∧ ds = []) ∨ ∃ k v d vr dr, vs = (k, v) :: vr ∧ ds = (k, d) :: dr ∧ Dd K Hm v d ∧ DdK K Hm vr dr
  | [], [], _ => .inl ⟨rfl, rfl⟩
  | [], _ :: _, h => by cases h.1
  | _ :: _, [], h => by cases h.1
  | (k, v) :: vr, (k', d) :: dr, h => by
    obtain ⟨h1, h2⟩ := h
    injection h1 with e1 e2
    cases h2 with
    | cons d1 d2 =>
      have e1 : k = k' := e1
      subst e1
      exact .inr ⟨k, v, d, vr, dr, rfl, rfl, d1, e2, d2⟩
/-- the value at a key -/
def getKD (ds : List (Key × PyData)) (k : Key) : Option PyData := (ds.find? fun q => decide (q.1 = k)).map (·.2)
theorem DdK.get {Hm : Hp} {k : Key} {d : PyData} : ∀ {ds : List (Key × PyData)} {vs : List (Key × V)}, DdK K Hm vs ds → getKD ds k = some d → ∃ v, valV vs k = some v ∧ Dd K Hm v d
  | [], vs, h, e => nomatch e
  | (j, y) :: ds, vs, h, e => by
    rcases h.inv with ⟨_, e2⟩ | ⟨k', v, d', vr, dr, rfl, e2, d1, d2⟩
    · cases e2
    · cases e2
      by_cases q : j = k
      · refine ⟨v, valV_pos q, ?_⟩
        unfold getKD at e
        rw [List.find?_cons, show decide ((j, y).1 = k) = true from decide_eq_true q] at e
        cases e
        exact d1
      · rw [valV_neg q]
        refine DdK.get d2 ?_
        unfold getKD at e ⊢
        rw [List.find?_cons, show decide ((j, y).1 = k) = false from decide_eq_false q] at e
        exact e
theorem DdK.any {Hm : Hp} {k : Key} : ∀ {ds : List (Key × PyData)} {vs : List (Key × V)}, DdK K Hm vs ds → (vs.any fun kv => decide (kv.1 = k)) = ds.any fun kv => decide (kv.1 = k)
  | [], vs, h => by
    rcases h.inv with ⟨rfl, _⟩ | ⟨_, _, _, _, _, _, e2, _⟩
    · rfl
    · cases e2
  | (j, y) :: ds, vs, h => by
    rcases h.inv with ⟨_, e2⟩ | ⟨k', v, d', vr, dr, rfl, e2, d1, d2⟩
    · cases e2
    · cases e2
      rw [List.any_cons, List.any_cons, DdK.any d2]
def putKD (ds : List (Key × PyData)) (k : Key) (v : PyData) : List (Key × PyData) :=
  if (ds.any fun q => decide (q.1 = k)) = true then ds.map (fun q => if q.1 = k then (q.1, v) else q) else ds ++ [(k, v)]
theorem DdK.repl {Hm : Hp} {k : Key} {v : V} {d : PyData} (hv : Dd K Hm v d) : ∀ {ds : List (Key × PyData)} {vs : List (Key × V)}, DdK K Hm vs ds → DdK K Hm (vs.map fun kv => if kv.1 = k then (kv.1, v) else kv) (ds.map fun kv => if kv.1 = k then (kv.1, d) else kv)
  | [], vs, h => by
    rcases h.inv with ⟨rfl, _⟩ | ⟨_, _, _, _, _, _, e2, _⟩
    · exact DdK.nil
    · cases e2
  | (j, y) :: ds, vs, h => by
    rcases h.inv with ⟨_, e2⟩ | ⟨k', v', d', vr, dr, rfl, e2, d1, d2⟩
    · cases e2
    · cases e2
      have r := DdK.repl (k := k) hv d2
      rw [List.map_cons, List.map_cons]
      by_cases q : j = k
      · rw [if_pos q, if_pos q]
        exact ⟨congrArg (List.cons j) r.1, .cons hv r.2⟩
      · rw [if_neg q, if_neg q]
        exact ⟨congrArg (List.cons j) r.1, .cons d1 r.2⟩
theorem DdK.length {Hm : Hp} {ds : List (Key × PyData)} {vs : List (Key × V)} (h : DdK K Hm vs ds) : vs.length = ds.length := by
  have := congrArg List.length h.1
  simpa using this
theorem DdK.put {Hm : Hp} {k : Key} {v : V} {d : PyData} {ds : List (Key × PyData)} {vs : List (Key × V)} (h : DdK K Hm vs ds) (hv : Dd K Hm v d) : DdK K Hm (putK vs k v) (putKD ds k d) := by
  unfold putK putKD
  rw [h.any]
  split
  · exact h.repl hv
  · refine ⟨by rw [List.map_append, List.map_append, h.1]; rfl, ?_⟩
    rw [List.map_append, List.map_append]
    exact h.2.append (.cons hv .nil)
theorem DdK.mono {Hm Hm' : Hp} (e : Same Hm Hm') {ds : List (Key × PyData)} {vs : List (Key × V)} (h : DdK K Hm vs ds) : DdK K Hm' vs ds := ⟨h.1, h.2.mono e⟩
def mergeKD (ds more : List (Key × PyData)) : List (Key × PyData) := more.foldl (fun acc q => putKD acc q.1 q.2) ds
theorem DdK.merge {Hm : Hp} : ∀ {ms : List (Key × PyData)} {ws : List (Key × V)} {ds : List (Key × PyData)} {vs : List (Key × V)}, DdK K Hm ws ms → DdK K Hm vs ds → DdK K Hm (mergeK vs ws) (mergeKD ds ms)
  | [], ws, ds, vs, h, g => by
    rcases h.inv with ⟨rfl, _⟩ | ⟨_, _, _, _, _, _, e2, _⟩
    · exact g
    · cases e2
  | (j, y) :: ms, ws, ds, vs, h, g => by
    rcases h.inv with ⟨_, e2⟩ | ⟨k', v', d', vr, dr, rfl, e2, d1, d2⟩
    · cases e2
    · cases e2
      show DdK K Hm (mergeK (putK vs j v') vr) (mergeKD (putKD ds j y) ms)
      exact DdK.merge d2 (g.put d1)
theorem keyD_V {Hm : Hp} {k : Key} {v : V} (h : Dd K Hm v (keyD k)) : v = kV k := by
  cases k with
  | inl i => cases h; rfl
  | inr s => cases h; rfl
/-- d[k], d a dict of one's own -/
theorem ee_dgetO {i : Nat} {a : Addr} {ds : List (Key × PyData)} {k : Key} {d : PyData} (h : env[i]? = some (.owk a ds)) (hk : EEd P b te env (keyD k)) (hg : getKD ds k = some d) : EEd P false (tDGet (tVar i) te) env d := fun M ks H0 H σ S Q q => by
  obtain ⟨hs, _⟩ := S.at_owk h
  refine ⟨_, hs, hk M ks H0 H σ S _ fun w y H1 hy e1 i1 d1 => ?_⟩
  subst hy
  obtain ⟨_, vs, g, dk⟩ := (S.step e1 i1).at_owk h
  obtain ⟨v, hv, dv⟩ := dk.get hg
  exact ⟨a, v, rfl, .inl ⟨vs, k, .inl g, keyD_V d1, hv.symm⟩, q v d H1 rfl e1 i1 dv⟩
/-- dict(pairs), a new dict -/
abbrev rDictP (K : PySem.W.Frag) : List V → Hp → VK → Prop := fun xs H Q => ∃ (a : Addr) (ps : List Addr) (kvs : List (Key × V)), xs = [.ref a] ∧ SqL K H a (ps.map V.ref) ∧ Paired (fun p kv => SqT K H p [kV kv.1, kv.2]) ps kvs ∧ ∀ p, H p = none → Q (.ref p) (upd H p (.dK (mergeK [] kvs)))
theorem k_dictP {X : Cx} (h : X.K = K) (hc : X.calm = true) : CallR X (.type "dict") (rDictP K) := by subst h; exact call_dictP hc
theorem pairs_inv {Hm : Hp} : ∀ {ms : List (Key × PyData)} {vs : List V}, DdA K Hm vs (ms.map fun q => .tuple [keyD q.1, q.2]) → ∃ (ps : List Addr) (kvs : List (Key × V)), vs = ps.map V.ref ∧ Paired (fun p kv => SqT K Hm p [kV kv.1, kv.2]) ps kvs ∧ DdK K Hm kvs ms
  | [], vs, h => by cases h; exact ⟨[], [], rfl, .nil, DdK.nil⟩
  | (k, d) :: ms, vs, h => by
    cases h with
    | cons h1 h2 =>
      obtain ⟨ps, kvs, rfl, hp, hd⟩ := pairs_inv h2
      cases h1 with
      | tup g d1 =>
        cases d1 with
        | cons d2 d3 =>
          cases d3 with
          | cons d4 d5 =>
            cases d5
            cases keyD_V d2
            exact ⟨_ :: ps, (k, _) :: kvs, rfl, .cons g hp, congrArg (List.cons k) hd.1, .cons d4 hd.2⟩
theorem paired_same {Hm Hm' : Hp} (e : Same Hm Hm') : ∀ {ps : List Addr} {kvs : List (Key × V)}, Paired (fun p (kv : Key × V) => SqT K Hm p [kV kv.1, kv.2]) ps kvs → Paired (fun p (kv : Key × V) => SqT K Hm' p [kV kv.1, kv.2]) ps kvs
  | _, _, .nil => .nil
  | _, _, .cons h r => .cons (same_t e h) (paired_same e r)
theorem sq_asgDict {i : Nat} {ms : List (Key × PyData)} (he : EEd P false te env (.list (ms.map fun q => .tuple [keyD q.1, q.2]))) (hn : ∀ a, SEv P E u (env.set i (.owk a (mergeKD [] ms))) po) : SEv P E (tSeq (tAsg (tCB (rDictP P.K) (tCons te tNil)) (gName i)) u) env po :=
  sq (N' := fun e => ∃ a, e = env.set i (.owk a (mergeKD [] ms))) (fun M ks H0 H σ D S F => he M ks H0 H σ S _ fun v x H1 hx e1 i1 d1 => by
    subst hx
    cases d1 with
    | lst g d =>
      obtain ⟨ps, kvs, rfl, hp, hd⟩ := pairs_inv d
      refine ⟨_, ps, kvs, rfl, SqL.of (mk_out g).2, paired_same (mk_same _ _) hp, fun p hpn => ?_⟩
      have S1 := S.step e1 i1
      have sm : Same H1 (upd H1 p (.dK (mergeK [] kvs))) := same_new hpn
      refine F.nx _ _ _ ⟨p, rfl⟩ (S1.setOwk' hpn (.of sm) (S1.is sm) upd_same ?_)
      refine (hd.merge DdK.nil).mono ?_
      intro c o h
      have h' := mk_out h
      have ne : c ≠ p := fun z => by rw [z, hpn] at h'; cases h'.2
      exact mk_of (fun z => z.elim (fun z => h'.1 z) ne) (by rw [upd_ne ne]; exact h'.2)) fun e ⟨a, q⟩ => by rw [q]; exact hn a
/-- d[k1], d[k2] = pair -/
theorem se_put2 {i : Nat} {a : Addr} {ds : List (Key × PyData)} {k1 k2 : Key} {d1 d2 : PyData} (h : env[i]? = some (.owk a ds)) (he : EEd P false te env (.tuple [d1, d2])) (h1 : EEd P b1 ta (env.set i (.owk a ds)) (keyD k1)) (h2 : EEd P b2 tb (env.set i (.owk a (putKD ds k1 d1))) (keyD k2)) (hz : ds.length + 1 < sizeLine)
    (hn : po.N ((env.set i (.owk a (putKD ds k1 d1))).set i (.owk a (putKD (putKD ds k1 d1) k2 d2)))) : SEv P E (tAsg te (gTup P.K 2 (gCons (gSub (tVar i) ta rSetD) (gCons (gSub (tVar i) tb rSetD) gNil)))) env po := fun M ks H0 H σ D S F =>
  he M ks H0 H σ S _ fun w y H1 hy e1 i1 dd => by
    subst hy
    have hi := (List.getElem?_eq_some_iff.mp h).1
    have es : env.set i (.owk a ds) = env := by
      refine List.ext_getElem? fun j => ?_
      rw [List.getElem?_set]
      split
      · rename_i e
        subst e
        rw [h]
      · rfl
    rw [es] at h1
    have S1 := S.step e1 i1
    cases dd with
    | tup g d =>
      cases d with
      | cons x1 d => cases d with
        | cons x2 d =>
          cases d
          refine ⟨_, _, rfl, same_t (mk_same _ _) g, rfl, _, _, rfl, ?_⟩
          obtain ⟨hs, _⟩ := S1.at_owk h
          have Sk := (S1.keep x2).keep x1
          refine ⟨_, hs, h1 M _ H0 H1 σ Sk _ fun w2 y2 H2 hy2 e2 i2 dk2 => ?_⟩
          subst hy2
          have S2 := Sk.step e2 i2
          obtain ⟨_, vs2, g2, d2'⟩ := S2.at_owk h
          refine ⟨a, _, rfl, .inl ⟨vs2, k1, g2, keyD_V dk2, by rw [d2'.length]; omega, rfl⟩, ?_⟩
          have S3 := S2.mutK h (d2'.put (k := k1) (S2.kp _ List.mem_cons_self))
          have h3 : (env.set i (.owk a (putKD ds k1 d1)))[i]? = some (.owk a (putKD ds k1 d1)) := by
            rw [List.getElem?_set, if_pos rfl, if_pos hi]
          refine ⟨_, _, rfl, ?_⟩
          obtain ⟨hs3, _⟩ := S3.at_owk h3
          refine ⟨_, hs3, h2 M _ H0 _ σ S3 _ fun w4 y4 H4 hy4 e4 i4 dk4 => ?_⟩
          subst hy4
          have S4 := S3.step e4 i4
          obtain ⟨_, vs4, g4, d4'⟩ := S4.at_owk h3
          have hl : (putKD ds k1 d1).length ≤ ds.length + 1 := by
            unfold putKD
            split
            · simp
            · simp
          refine ⟨a, _, rfl, .inl ⟨vs4, k2, g4, keyD_V dk4, by rw [d4'.length]; omega, rfl⟩, rfl, ?_⟩
          have S5 := S4.mutK h3 (d4'.put (k := k2) (S4.kp _ (List.mem_cons_of_mem _ List.mem_cons_self)))
          exact F.nx _ _ _ hn S5.drop.drop
end
end Fw
end

section
/-! Fw15: the draw, a dict of the caller's -/
open PyProof.Rows PySem PySem.Spec L2
namespace Fw
def drawK (l c : Addr) (r t : Int) : List (Key × V) := [(.inr "large", .ref l), (.inr "cells", .ref c), (.inr "rest", .int r), (.inr "turn", .int t)]
def DrawAt (a l c : Addr) (cs bs : List Int) (r t : Int) (H : Hp) : Prop := H c = some (.lst (cs.map .int)) ∧ H l = some (.lst (bs.map .int)) ∧ H a = some (.dK (drawK l c r t))
def DrawI (a l c : Addr) (cs : List Int) (H : Hp) : Prop := (a ≠ l ∧ a ≠ c ∧ l ≠ c) ∧ ∃ bs r t, DrawAt a l c cs bs r t H
theorem draw_st (a l c : Addr) (cs : List Int) (H H' : Hp) (h : ∀ p o, p ∈ [a, l, c] → H p = some o → H' p = some o) (i : DrawI a l c cs H) : DrawI a l c cs H' := by
  obtain ⟨ne, bs, r, t, h1, h2, h3⟩ := i
  exact ⟨ne, bs, r, t, h c _ (by simp) h1, h l _ (by simp) h2, h a _ (by simp) h3⟩
def pmD (K : PySem.W.Frag) (d : Addr × Addr × Addr × List Int) : Pm := ⟨K, [d.1, d.2.1, d.2.2.1], DrawI d.1 d.2.1 d.2.2.1 d.2.2.2, draw_st _ _ _ _, fun H x i hx => by
  obtain ⟨ne, bs, r, t, h1, h2, h3⟩ := i
  rcases List.mem_cons.mp hx with rfl | hx
  · rw [h3]; exact fun e => nomatch e
  · rcases List.mem_cons.mp hx with rfl | hx
    · rw [h2]; exact fun e => nomatch e
    · rw [List.mem_singleton.mp hx, h1]; exact fun e => nomatch e⟩
/-- a spec for each i of a family -/
def SpI {ι : Type} (pm : ι → Pm) (F : ι → FSp) : Sp := fun vs H Q E => ∃ i, SpF (pm i) (F i) vs H Q E
section
variable {P : Program} {w : World} {K : PySem.W.Frag} {mg : Str → Option Value} {base : Heap}
theorem fn_okI {ι : Type} {pm : ι → Pm} {x qual : Str} {st : Stmt} {f : Addr} {fd : FuncData} {N ps : List Str} {k : Nat} {F : ι → FSp} (Fn : Fun K x qual st f fd) (S : FnScope N ps (defScope st)) (len : ∀ i x, ((F i).args x).length = ps.length)
    (hbody : ∀ (cdv : Value) (A : Around) (outer : List Env) (s : Shared) (H : Hp) (E : XK), Room k (A.deeper (envOfC qual (defScope st) s.heap.objs.size f cdv)) →
      ∃ t, PSs (cxOf CX0 P w K mg base N qual (defScope st) f cdv A outer s H E).nox (defBody st) t ∧ ∀ i x, (F i).pre x → SEv (pm i) E t (padN N ((F i).args x)) (poOf (F i) x)) : FnOk P w K mg base CX0 (k + 1) f fd ps (SpI pm F) :=
  Fn.ok S (fun vs H Q E h => by obtain ⟨i, M, x, _, _, _, ha, hp, _⟩ := h; rw [ArgsOk.length ha, len i x]) fun cdv A outer s H vs Q E hr ⟨i, h⟩ => by
    obtain ⟨t, h1, h2⟩ := hbody cdv A outer s H E hr
    exact ⟨t, h1, body_ok h (h2 i)⟩
end
section
variable {P : Pm} {env : List Ent} {b b1 b2 : Bool} {ta tb te tc : TE} {t u : TS} {x y z : PyData} {Φ Ψ : PyData → Prop} {H H' : Hp} {M : Addr → Prop} {ks : List (V × PyData)} {H0 : Hp} {σ : L2.St} {E : XK} {po : Po} {K : PySem.W.Frag}
theorem ee_callI {ι : Type} {pm : ι → Pm} {F : ι → FSp} {ta : TA} (i : ι) (x : (F i).α) (ha : AEd (pm i) b ta env ((F i).args x)) (hp : (F i).pre x) (he : ∀ C fs, ¬ (F i).err x C fs) : EEv (pm i) b (tCall (SpI pm F) [] E ta) env ((F i).post x) := fun M ks H0 H σ S Q q =>
  ha M ks H0 H σ S _ fun vs as' H1 ea e1 i1 a => by
    subst ea
    have S1 := S.step e1 i1
    refine ⟨i, mskb M env b, x, S.gmb b, S1.mlb b, i1, by rw [List.append_nil]; exact a, hp, fun v d H' hd e2 i2 dd => ?_, fun C fs dd H' h => absurd h (he C fs)⟩
    exact q v d H' hd (e1.trans e2) i2 dd
/-! ints that are not known -/
def IntV (A : Int → Prop) : PyData → Prop := fun x => ∃ i, A i ∧ x = .int i
theorem IntV.scal {A : Int → Prop} {x : PyData} (h : IntV A x) : scalD x = true := by obtain ⟨i, _, rfl⟩ := h; rfl
theorem ei_of {A : Int → Prop} {i : Int} (h : EEd P b te env (.int i)) (ha : A i) : EEv P b te env (IntV A) := EEv.imp h fun x e => ⟨i, ha, e⟩
theorem ei_op {r : R2} {A B C : Int → Prop} (ha : EEv P b1 ta env (IntV A)) (hb : EEv P b2 tb env (IntV B)) (hr : ∀ i j, A i → B j → ∃ k, C k ∧ RV P.K r (.int i) (.int j) (.int k)) : EEv P false (tOp r ta tb) env (IntV C) :=
  EEv.scal (b1 := true) (ee_opG (EEv.weak ha) (EEv.weak hb) fun x y ⟨i, hi, ex⟩ ⟨j, hj, ey⟩ => by
    obtain ⟨k, hk, h⟩ := hr i j hi hj
    subst ex ey
    exact ⟨.int k, ⟨k, hk, rfl⟩, h⟩) fun _ h => IntV.scal h
theorem ei_int {A : Int → Prop} (h : EEv P b1 te env (IntV A)) : EEv P false (tCB rInt1 (tCons te tNil)) env (IntV A) := fun M ks H0 H σ S Q q =>
  h M ks H0 H σ S _ fun v x H1 ⟨i, hi, ex⟩ e1 i1 d1 => by
    subst ex
    cases d1
    exact .inl ⟨i, rfl, q _ _ H1 ⟨i, hi, rfl⟩ e1 i1 (.int i)⟩
theorem ei_eq {A : Int → Prop} {k : Int} (h : EEv P b1 te env (IntV A)) : TEv P (tTest (tOp (rEqD P.K) te (tC (.int k)))) env (fun _ => True) := fun M ks H0 H σ S Q q =>
  h M ks H0 H σ S _ fun v x H1 ⟨i, hi, ex⟩ e1 i1 d1 => by
    subst ex
    show rEqD P.K v (.int k) H1 (fun x H' => ∃ k, x = V.bl k ∧ Q k H')
    exact rv_eq (shaped_i i) (shaped_i k) (mskb M env b1) H1 v _ ((S.step e1 i1).mlb b1) d1 (.int k) _ fun u H' sm dz => by
      cases dz
      exact ⟨_, rfl, q _ H' trivial (e1.trans (.of sm)) ((S.step e1 i1).is sm)⟩
end
/-! the draw's own parts -/
section
variable {K : PySem.W.Frag} {a l c : Addr} {cs : List Int} {env : List Ent} {b : Bool} {te : TE} {t u : TS} {E : XK} {po : Po} {M : Addr → Prop} {ks : List (V × PyData)} {H0 H : Hp} {σ : L2.St}
theorem Stt.raw_at {P : Pm} (S : Stt P M ks H0 H σ env) {i : Nat} {v : V} (h : env[i]? = some (.raw v)) : σ[i]? = some (some v) := by
  have hi : i < σ.length := by rw [S.len]; exact (List.getElem?_eq_some_iff.mp h).1
  have ok := S.ok i σ[i] _ (List.getElem?_eq_getElem hi) h
  rw [List.getElem?_eq_getElem hi]
  cases e : σ[i] with
  | none => rw [e] at ok; exact ok.elim
  | some w =>
    rw [e] at ok
    rw [show w = v from ok]
theorem draw_get (l c : Addr) (r t : Int) : valV (drawK l c r t) (.inr "large") = some (.ref l) ∧ valV (drawK l c r t) (.inr "cells") = some (.ref c) ∧ valV (drawK l c r t) (.inr "rest") = some (.int r) ∧ valV (drawK l c r t) (.inr "turn") = some (.int t) := ⟨rfl, rfl, rfl, rfl⟩
theorem ei_rest {i : Nat} (h : env[i]? = some (.raw (.ref a))) : EEv (pmD K (a, l, c, cs)) b (tDGet (tVar i) (tC (.str "rest"))) env (IntV fun _ => True) := fun M ks H0 H σ S Q q => by
  obtain ⟨ne, bs, r, t, h1, h2, h3⟩ := S.inv
  exact ⟨_, S.raw_at h, a, .int r, rfl, .inl ⟨_, .inr "rest", .inl h3, rfl, rfl⟩, q _ _ H ⟨r, trivial, rfl⟩ (.refl _ _) S.inv (.int r)⟩
theorem ei_turn {i : Nat} (h : env[i]? = some (.raw (.ref a))) : EEv (pmD K (a, l, c, cs)) b (tDGet (tVar i) (tC (.str "turn"))) env (IntV fun _ => True) := fun M ks H0 H σ S Q q => by
  obtain ⟨ne, bs, r, t, h1, h2, h3⟩ := S.inv
  exact ⟨_, S.raw_at h, a, .int t, rfl, .inl ⟨_, .inr "turn", .inl h3, rfl, rfl⟩, q _ _ H ⟨t, trivial, rfl⟩ (.refl _ _) S.inv (.int t)⟩
theorem exg_upd {G : List Addr} {H : Hp} {p : Addr} {o : HO} (h : p ∈ G) : ExG G H (upd H p o) := fun q x hq e => by
  have ne : q ≠ p := fun z => hq (z ▸ h)
  rw [upd_ne ne]; exact e
theorem draw_put_rest {bs : List Int} {r t r' : Int} (ne : a ≠ l ∧ a ≠ c ∧ l ≠ c) (h : DrawAt a l c cs bs r t H) : DrawAt a l c cs bs r' t (upd H a (.dK (putK (drawK l c r t) (.inr "rest") (.int r')))) :=
  ⟨by rw [upd_ne ne.2.1.symm]; exact h.1, by rw [upd_ne ne.1.symm]; exact h.2.1, upd_same⟩
theorem draw_put_turn {bs : List Int} {r t t' : Int} (ne : a ≠ l ∧ a ≠ c ∧ l ≠ c) (h : DrawAt a l c cs bs r t H) : DrawAt a l c cs bs r t' (upd H a (.dK (putK (drawK l c r t) (.inr "turn") (.int t')))) :=
  ⟨by rw [upd_ne ne.2.1.symm]; exact h.1, by rw [upd_ne ne.1.symm]; exact h.2.1, upd_same⟩
theorem four_lt (l c : Addr) (r t : Int) : (drawK l c r t).length < sizeLine := by rw [sizeLine_eq]; exact (by decide : 4 < 16777216)
theorem se_putRest {i : Nat} {A : Int → Prop} (h : env[i]? = some (.raw (.ref a))) (he : EEv (pmD K (a, l, c, cs)) b te env (IntV A)) (hn : po.N env) : SEv (pmD K (a, l, c, cs)) E (tAsg te (gSub (tVar i) (tC (.str "rest")) rSetD)) env po := fun M ks H0 H σ D S F =>
  he M ks H0 H σ S _ fun v x H1 ⟨j, _, ex⟩ e1 i1 d1 => by
    subst ex
    cases d1
    have S1 := S.step e1 i1
    obtain ⟨ne, bs, r, t, h0⟩ := i1
    refine ⟨_, S1.raw_at h, a, _, rfl, .inl ⟨_, .inr "rest", h0.2.2, rfl, four_lt _ _ _ _, rfl⟩, ?_⟩
    exact F.nx _ _ env hn (S1.step (exg_upd List.mem_cons_self) ⟨ne, bs, j, t, draw_put_rest ne h0⟩)
theorem se_putTurn {i : Nat} {A : Int → Prop} (h : env[i]? = some (.raw (.ref a))) (he : EEv (pmD K (a, l, c, cs)) b te env (IntV A)) (hn : po.N env) : SEv (pmD K (a, l, c, cs)) E (tAsg te (gSub (tVar i) (tC (.str "turn")) rSetD)) env po := fun M ks H0 H σ D S F =>
  he M ks H0 H σ S _ fun v x H1 ⟨j, _, ex⟩ e1 i1 d1 => by
    subst ex
    cases d1
    have S1 := S.step e1 i1
    obtain ⟨ne, bs, r, t, h0⟩ := i1
    refine ⟨_, S1.raw_at h, a, _, rfl, .inl ⟨_, .inr "turn", h0.2.2, rfl, four_lt _ _ _ _, rfl⟩, ?_⟩
    exact F.nx _ _ env hn (S1.step (exg_upd List.mem_cons_self) ⟨ne, bs, r, j, draw_put_turn ne h0⟩)
theorem dd_ints {H : Hp} : ∀ ns : List Int, DdA K H (ns.map .int) (ns.map .int)
  | [] => .nil
  | n :: ns => .cons (.int n) (dd_ints ns)
/-- a walk over the draw's cells -/
theorem se_cells {i : Nat} {g : TG} {tb : TS} (h : env[i]? = some (.raw (.ref a))) (Pv : Nat → List Ent → Prop) (h0 : Pv 0 env)
    (hs : ∀ i x env', (cs.map PyData.int)[i]? = some x → Pv i env' → ∃ env'' gs, GEv (pmD K (a, l, c, cs)) g x env' env'' gs ∧ SEv (pmD K (a, l, c, cs)) E tb env'' { po with N := Pv (i + 1), C := Pv (i + 1), B := po.N }) (hd : ∀ env', Pv cs.length env' → po.N env') :
    SEv (pmD K (a, l, c, cs)) E (tFor (iSeq K (tDGet (tVar i) (tC (.str "cells")))) g tb) env po := fun M ks H0 H σ D S F => by
  obtain ⟨ne, bs, r, t, h1, h2, h3⟩ := S.inv
  refine .inl ⟨_, S.raw_at h, a, .ref c, rfl, .inl ⟨_, .inr "cells", .inl h3, rfl, rfl⟩, c, rfl, ⟨_, SqL.of h1⟩, ?_⟩
  refine for_heart S F (iter_own (K := K) (a := c) (xs := cs.map .int)) Pv (fun i H' σ' env' _ S' => ?_) h0 hs (by rw [List.length_map]; exact hd)
  obtain ⟨_, _, _, _, g1, _, _⟩ := S'.inv
  exact ⟨_, g1, dd_ints cs⟩
/-- the large numbers are taken while the rest is zero -/
theorem sq_takeLoop {i : Nat} (h : env[i]? = some (.raw (.ref a))) (hn : SEv (pmD K (a, l, c, cs)) E u env po) :
    SEv (pmD K (a, l, c, cs)) E (tSeq (tWhile (tAnd (tTest (tOp (rEqD K) (tDGet (tVar i) (tC (.str "rest"))) (tC (.int 0)))) (tTest (tOp (rNeD K) (tDGet (tVar i) (tC (.str "large"))) (tLst tNil))))
      (tAsg (tBM K "list" rPopAt (tDGet (tVar i) (tC (.str "large"))) (tCons (tC (.int 0)) tNil)) (gSub (tVar i) (tC (.str "rest")) rSetD))) u) env po := by
  refine sq (N' := fun e => e = env) ?_ fun e q => by rw [q]; exact hn
  intro M ks H0 H σ D S F
  obtain ⟨ne, bs0, r0, t0, g0⟩ := S.inv
  refine ⟨fun m σ' H' => Stt (pmD K (a, l, c, cs)) M ks H0 H' σ' env ∧ ∃ bs r t, DrawAt a l c cs bs r t H' ∧ bs.length = m, ⟨_, S, bs0, r0, t0, g0, rfl⟩, ?_⟩
  rintro m σ H ⟨S, bs, r, t, ⟨g1, g2, g3⟩, rfl⟩
  refine ⟨_, S.raw_at h, a, .int r, rfl, .inl ⟨_, .inr "rest", .inl g3, rfl, rfl⟩, ?_⟩
  dsimp only [tC]
  refine rv_eq (shaped_i r) (shaped_i 0) (fun _ => False) H _ _ (fun _ h => h.elim) (.int r) (.int 0) _ fun z H1 sm dz => ?_
  cases dz
  have S1 := S.same sm
  refine ⟨_, rfl, ?_⟩
  cases hk : PyData.eqv (.int r) (.int 0) with
  | false =>
    refine (?_ : if false = true then _ else _)
    rw [if_neg (by decide)]
    rw [if_neg (by decide)]
    exact F.nx _ _ env rfl S1
  | true =>
    rw [if_pos rfl]
    have g1' := sm _ _ g1
    have g2' := sm _ _ g2
    have g3' := sm _ _ g3
    refine ⟨_, S1.raw_at h, a, .ref l, rfl, .inl ⟨_, .inr "large", .inl g3', rfl, rfl⟩, ?_⟩
    refine ⟨by rw [sizeLine_eq]; decide, fun p hp => ?_⟩
    have nl : l ≠ p := fun e => by rw [e, hp] at g2'; cases g2'
    have dl : Dd K (upd H1 p (.lst [])) (.ref l) (.list (bs.map .int)) := .lst (by rw [upd_ne nl]; exact g2') (dd_ints bs)
    have de : Dd K (upd H1 p (.lst [])) (.ref p) (.list []) := .lst upd_same .nil
    refine ⟨_, _, dl.toDp (shaped_noDict (shaped_flat 1 (flat_li bs))), de.toDp (shaped_noDict shaped_l0), shaped_flat 1 (flat_li bs), shaped_l0, ?_⟩
    have S2 := S1.same (same_new (o := .lst []) hp)
    have g1'' := same_new (o := HO.lst []) hp _ _ g1'
    have g2'' := same_new (o := HO.lst []) hp _ _ g2'
    have g3'' := same_new (o := HO.lst []) hp _ _ g3'
    refine ⟨_, rfl, ?_⟩
    rw [eqv_l0]
    cases bs with
    | nil =>
      refine (?_ : if false = true then _ else _)
      rw [if_neg (by decide)]
      exact F.nx _ _ env rfl S2
    | cons b bs =>
      refine (?_ : if true = true then _ else _)
      rw [if_pos rfl]
      refine ⟨fun σ' H' => Stt (pmD K (a, l, c, cs)) M ks H0 H' σ' env ∧ ∃ r' t', DrawAt a l c cs bs r' t' H', fun σ' H' ⟨S', r', t', q⟩ => ⟨bs.length, by simp, S', bs, r', t', q, rfl⟩, ?_⟩
      refine ⟨_, S2.raw_at h, a, .ref l, rfl, .inl ⟨_, .inr "large", .inl g3'', rfl, rfl⟩, .inl ⟨rfl, _, SqL.of g2''⟩, ?_⟩
      refine ⟨l, _, 0, 0, .int b, rfl, rfl, g2'', by decide, by decide, by unfold seqIndex?; simp, rfl, ?_⟩
      refine ⟨_, S2.raw_at h, a, _, rfl, .inl ⟨_, .inr "rest", by rw [upd_ne ne.1]; exact g3'', rfl, four_lt _ _ _ _, rfl⟩, ?_⟩
      have dn : DrawAt a l c cs bs b t (upd (upd (upd H1 p (.lst [])) l (.lst (bs.map .int))) a (.dK (putK (drawK l c r t) (.inr "rest") (.int b)))) := draw_put_rest ne ⟨by rw [upd_ne ne.2.2.symm]; exact g1'', upd_same, by rw [upd_ne ne.1]; exact g3''⟩
      refine ⟨S2.step ?_ ⟨ne, bs, b, t, dn⟩, b, t, dn⟩
      exact ExG.trans (exg_upd (List.mem_cons_of_mem _ List.mem_cons_self)) (exg_upd List.mem_cons_self)
end
end Fw
end

section
/-! Fw16: answers that are not known -/
open PyProof.Rows PySem PySem.Spec L2
namespace Fw
section
variable {P : Pm} {env : List Ent} {b b1 b2 : Bool} {ta tb te tc : TE} {t u : TS} {x y z : PyData} {Φ Φ1 Φ2 Ψ : PyData → Prop} {H H' : Hp} {M : Addr → Prop} {ks : List (V × PyData)} {H0 : Hp} {σ : L2.St} {E : XK} {po : Po} {K : PySem.W.Frag}
theorem ae_consG {tr : TA} {Θ : List Ent → Prop} (h : EEv P b te env Φ) (hr : AEv P b tr env Θ) : AEv P b (tCons te tr) env (fun as => ∃ x r, Φ x ∧ Θ r ∧ as = .d x :: r) := fun M ks H0 H σ S Q q =>
  h M ks H0 H σ S _ fun v y H1 hy e1 i1 d1 => by
    refine hr M ks H0 H1 σ (S.step e1 i1) _ fun vs as' H2 ea e2 i2 a2 => ?_
    exact q _ _ H2 ⟨y, as', hy, ea, rfl⟩ (e1.trans e2) i2 (.cons (.d (d1.mono (e2.msk (S.gmb b)))) a2)
theorem ae_rawG {tr : TA} {i : Nat} {v : V} {Θ : List Ent → Prop} (h : env[i]? = some (.raw v)) (hr : AEv P b tr env Θ) : AEv P b (tCons (tVar i) tr) env (fun as => ∃ r, Θ r ∧ as = .raw v :: r) := fun M ks H0 H σ S Q q =>
  ⟨_, S.raw_at h, hr M ks H0 H σ S _ fun vs as' H2 ea e2 i2 a2 => q _ _ H2 ⟨as', ea, rfl⟩ e2 i2 (.cons (.raw v) a2)⟩
theorem ee_callIG {ι : Type} {pm : ι → Pm} {F : ι → FSp} {ta : TA} {Θ : List Ent → Prop} (i : ι) (ha : AEv (pm i) b ta env Θ) (hx : ∀ as, Θ as → ∃ x, as = (F i).args x ∧ (F i).pre x ∧ (∀ z, (F i).post x z → Φ z) ∧ ∀ C fs, ¬ (F i).err x C fs) : EEv (pm i) b (tCall (SpI pm F) [] E ta) env Φ := fun M ks H0 H σ S Q q =>
  ha M ks H0 H σ S _ fun vs as' H1 ea e1 i1 a => by
    obtain ⟨x, rfl, hp, hz, he⟩ := hx as' ea
    have S1 := S.step e1 i1
    refine ⟨i, mskb M env b, x, S.gmb b, S1.mlb b, i1, by rw [List.append_nil]; exact a, hp, fun v d H' hd e2 i2 dd => ?_, fun C fs dd H' h => absurd h (he C fs)⟩
    exact q v d H' (hz d hd) (e1.trans e2) i2 dd
/-- two names take two values -/
theorem sq_par {i j : Nat} (h1 : EEv P false ta env Φ1) (h2 : EEv P false tb env Φ2) (hn : ∀ x y, Φ1 x → Φ2 y → SEv P E u ((env.set i (.d x)).set j (.d y)) po) : SEv P E (tSeq (tPar i j (tCons ta (tCons tb tNil))) u) env po :=
  sq (N' := fun e => ∃ x y, Φ1 x ∧ Φ2 y ∧ e = (env.set i (.d x)).set j (.d y)) (fun M ks H0 H σ D S F => h1 M ks H0 H σ S _ fun v x H1 hx e1 i1 d1 => by
    have S1 := (S.step e1 i1).keep d1
    refine h2 M _ H0 H1 σ S1 _ fun w y H2 hy e2 i2 d2 => ?_
    have S2 := S1.step e2 i2
    have d1' := S2.held
    refine ⟨v, w, rfl, F.nx _ H2 _ ⟨x, y, hx, hy, rfl⟩ ((S2.drop.set d1').set (d2.mono (mk_weak H2 (Mo_set_le rfl))))⟩) fun e ⟨x, y, hx, hy, q⟩ => by rw [q]; exact hn x y hx hy
theorem ee_tup2G (h1 : EEv P false ta env Φ1) (h2 : EEv P false tb env Φ2) : EEv P false (tTup (tCons ta (tCons tb tNil))) env (fun z => ∃ x y, Φ1 x ∧ Φ2 y ∧ z = .tuple [x, y]) := fun M ks H0 H σ S Q q =>
  h1 M ks H0 H σ S _ fun v x H1 hx e1 i1 d1 => by
    have S1 := (S.step e1 i1).keep d1
    refine h2 M _ H0 H1 σ S1 _ fun w y H2 hy e2 i2 d2 => ?_
    have S2 := S1.step e2 i2
    have d1' := S2.held
    refine ⟨by rw [sizeLine_eq]; exact (by decide : 2 ≤ 16777216), fun p hp => ?_⟩
    exact q _ _ _ ⟨x, y, hx, hy, rfl⟩ ((e1.trans e2).trans (.of (same_new hp))) (S2.is (same_new hp)) (.newT (S2.mlb false) hp (.cons d1' (.cons d2 .nil)))
theorem sq_asgTup2 {i j : Nat} (h1 : EEv P false ta env Φ1) (h2 : EEv P false tb env Φ2) (hn : ∀ x y, Φ1 x → Φ2 y → SEv P E u ((env.set i (.d x)).set j (.d y)) po) : SEv P E (tSeq (tAsg (tTup (tCons ta (tCons tb tNil))) (gTup P.K 2 (gCons (gName i) (gCons (gName j) gNil)))) u) env po :=
  sq (N' := fun e => ∃ x y, Φ1 x ∧ Φ2 y ∧ e = (env.set i (.d x)).set j (.d y)) (fun M ks H0 H σ D S F => ee_tup2G h1 h2 M ks H0 H σ S _ fun v z H1 ⟨x, y, hx, hy, e⟩ e1 i1 d1 => by
    subst e
    refine ge_pair (gs := [i, j]) (by simp) (by simp) M ks H0 H1 σ v (S.step e1 i1) d1 _ fun σ' H' sm S' _ => ?_
    exact F.nx _ _ _ ⟨x, y, hx, hy, rfl⟩ S') fun e ⟨x, y, hx, hy, q⟩ => by rw [q]; exact hn x y hx hy
theorem ints_inv {H : Hp} : ∀ {ns : List Int} {vs : List V}, DdA K H vs (ns.map .int) → vs = ns.map .int
  | [], _, h => by cases h; rfl
  | n :: ns, _, h => by
    cases h with
    | cons d h => cases d; rw [ints_inv h]; rfl
/-- .. two new lists, both of ints -/
theorem sq_par_LL {i j : Nat} {ns ms : List Int} (h1 : LEv P ta env (fun y => y = ns.map .int)) (h2 : LEv P tb env (fun y => y = ms.map .int)) (hn : ∀ p q, SEv P E u ((env.set i (.own p (ns.map .int))).set j (.own q (ms.map .int))) po) : SEv P E (tSeq (tPar i j (tCons ta (tCons tb tNil))) u) env po :=
  sq (N' := fun e => ∃ p q, e = (env.set i (.own p (ns.map .int))).set j (.own q (ms.map .int))) (fun M ks H0 H σ D S F => h1 M ks H0 H σ S _ fun p vs xs H1 hx hp e1 i1 g1 d1 => by
    subst hx
    have S1 := S.step e1 i1
    refine h2 M ks H0 H1 σ S1 _ fun q ws ys H2 hy hq e2 i2 g2 d2 => ?_
    subst hy
    have S1' := S.setOwn' (i := i) hp e1 i1 g1 d1
    cases ints_inv d2
    have S2 := S1'.setOwn' (i := j) hq e2 i2 g2 (dd_ints ms)
    exact ⟨_, _, rfl, F.nx _ H2 _ ⟨p, q, rfl⟩ S2⟩) fun e ⟨p, q, h⟩ => by rw [h]; exact hn p q
theorem DdA.eraseIdx {H : Hp} : ∀ {vs : List V} {ds : List PyData} (k : Nat), DdA K H vs ds → DdA K H (vs.eraseIdx k) (ds.eraseIdx k)
  | _, _, _, .nil => .nil
  | _, _, 0, .cons _ h => h
  | _, _, k + 1, .cons d h => .cons d (DdA.eraseIdx k h)
/-- fs.append(ls.pop(k)) -/
theorem se_appendPop {i j : Nat} {p q : Addr} {fs ls : List PyData} (hi : env[i]? = some (.own p fs)) (hj : env[j]? = some (.own q ls)) (hij : j ≠ i) (hk : EEv P b te env (IntV fun k => 0 ≤ k ∧ k < ls.length)) (hz : fs.length < sizeLine) (hl : ls.length ≤ sizeLine)
    (hn : ∀ (k : Nat) x, ls[k]? = some x → po.N ((env.set j (.own q (ls.eraseIdx k))).set i (.own p (fs ++ [x])))) :
    SEv P E (tDrop (tBM P.K "list" rAppend (tVar i) (tCons (tBM P.K "list" rPopAt (tVar j) (tCons te tNil)) tNil))) env po := fun M ks H0 H σ D S F => by
  obtain ⟨hs, vs, g, d⟩ := S.at_own hi
  obtain ⟨hs2, vs2, g2, d2⟩ := S.at_own hj
  refine ⟨_, hs, .inl ⟨rfl, _, SqL.of g⟩, _, hs2, .inl ⟨rfl, _, SqL.of g2⟩, ?_⟩
  refine hk M ks H0 H σ S _ fun w y H1 ⟨k, ⟨k0, k1⟩, ey⟩ e1 i1 d1 => ?_
  subst ey
  cases d1
  have S1 := S.step e1 i1
  obtain ⟨_, ws, g3, d3⟩ := S1.at_own hj
  have hx : ls[k.toNat]? = some ls[k.toNat] := List.getElem?_eq_getElem (by omega)
  have hkl : k.toNat < ws.length := by rw [d3.length]; omega
  have hw : ws[k.toNat]? = some ws[k.toNat] := List.getElem?_eq_getElem hkl
  obtain ⟨x', hx', dx⟩ := d3.get hw
  rw [hx] at hx'
  cases hx'
  rw [sizeLine_eq] at hl
  refine ⟨q, ws, k, k.toNat, _, rfl, rfl, g3, by omega, by omega, ?_, hw, ?_⟩
  · unfold seqIndex?
    rw [d3.length]
    simp [k0, show ¬ k < 0 by omega, k1]
  · have S2 := (S1.keep dx).mut hj (DdA.eraseIdx k.toNat d3)
    have hi2 : (env.set j (.own q (ls.eraseIdx k.toNat)))[i]? = some (.own p fs) := by rw [List.getElem?_set, if_neg hij]; exact hi
    obtain ⟨_, us, g4, d4⟩ := S2.at_own hi2
    refine ⟨_, _, _, rfl, rfl, g4, by rw [d4.length]; exact hz, ?_⟩
    exact F.nx _ _ _ (hn k.toNat _ hx) (S2.mut hi2 (d4.append (.cons S2.held .nil))).drop
/-- list(range(lo, hi)), hi not known -/
theorem le_rgG {lo : Int} {A : Int → Prop} (h : EEv P b te env (IntV A)) (hr : ∀ k, A k → RgOk lo k) : LEv P (tLstRg (tRg2 (tC (.int lo)) te)) env (fun y => ∃ k, A k ∧ y = (rngI lo (k - lo).toNat).map .int) := fun M ks H0 H σ S Q q =>
  h M ks H0 H σ S _ fun v x H1 ⟨k, hk, ex⟩ e1 i1 d1 => by
    subst ex
    cases d1
    refine ⟨lo, k, rfl, rfl, hr k hk, fun p hp => ?_⟩
    have S1 := S.step e1 i1
    have sm := same_new (o := HO.lst (rgV lo k)) hp
    refine q p _ _ _ ⟨k, hk, rfl⟩ (fresh_back P.live i1 e1 hp) (e1.trans (.of sm)) (S1.is sm) upd_same ?_
    have : rgV lo k = (rngI lo (k - lo).toNat).map V.int := by
      unfold rgV rngI
      rw [List.map_map]; rfl
    rw [this]
    exact dd_ints _
theorem ee_cbG {r : List V → Hp → VK → Prop} (h : EEv P b te env Φ) (hr : ∀ x, Φ x → ∃ z, Ψ z ∧ RC P.K r [x] z) : EEv P b (tCB r (tCons te tNil)) env Ψ := fun M ks H0 H σ S Q q =>
  h M ks H0 H σ S _ fun v x H1 hx e1 i1 d1 => by
    obtain ⟨z, hz, rc⟩ := hr x hx
    exact rc _ H1 [v] ((S.step e1 i1).mlb b) (.cons d1 .nil) Q fun u H2 sm dz => q u z H2 hz (e1.trans (.of sm)) ((S.step e1 i1).is sm) dz
theorem atI_mem {ds : List PyData} {i : Int} (h0 : 0 ≤ i) (h1 : i < ds.length) : ∃ z, z ∈ ds ∧ atI ds i = some z := by
  refine ⟨ds[i.toNat], List.getElem_mem .., ?_⟩
  unfold atI
  rw [ixN_nat h0 h1]
  exact List.getElem?_eq_getElem (by omega)
theorem se_ifG {c : TT} {v : TS} (hc : TEv P c env fun _ => True) (h1 : SEv P E t env po) (h2 : SEv P E v env po) : SEv P E (tIfS c t v) env po := fun M ks H0 H σ D S F =>
  hc M ks H0 H σ S _ fun k H1 _ e1 i1 => by
    have S1 := S.step e1 i1
    cases k with
    | true => exact h1 M ks H0 H1 σ D S1 F
    | false => exact h2 M ks H0 H1 σ D S1 F
/-- for i in range(n), n not known -/
theorem se_forRg {g : TG} {tb : TS} {A : Int → Prop} (h : EEv P b te env (IntV A)) (hA : ∀ n, A n → -(2 ^ 62) ≤ n ∧ n < 2 ^ 62) (Pv : Int → Nat → List Ent → Prop) (h0 : ∀ n, A n → Pv n 0 env)
    (hs : ∀ n i x env', A n → (rngD 0 n.toNat)[i]? = some x → Pv n i env' → ∃ env'' gs, GEv P g x env' env'' gs ∧ SEv P E tb env'' { po with N := Pv n (i + 1), C := Pv n (i + 1), B := po.N }) (hd : ∀ n env', A n → Pv n (rngD 0 n.toNat).length env' → po.N env') :
    SEv P E (tFor (iRng1 (tCons te tNil)) g tb) env po := fun M ks H0 H σ D S F =>
  h M ks H0 H σ S _ fun v x H1 ⟨n, hn, ex⟩ e1 i1 d1 => by
    subst ex
    cases d1
    have S1 := S.step e1 i1
    refine ⟨n, rfl, (hA n hn).1, (hA n hn).2, ?_⟩
    exact for_heart S1 F (iter_range (K := P.K) (lo := 0) (n := n.toNat)) (Pv n) (fun _ _ _ _ _ _ q hq => nomatch hq) (h0 n hn) (fun i x env' h1 h2 => hs n i x env' hn h1 h2) (fun env' => hd n env' hn)
end
end Fw
end

section
/-! Fw17: defs that need to know that nothing is being shown -/
open PyProof.Rows PySem PySem.Spec L2
namespace Fw
/-- a def's promise where no repr is under way -/
structure FnG (P : Program) (w : World) (K : PySem.W.Frag) (mg : Str → Option Value) (base : Heap) (k : Nat) (f : Addr) (fd : FuncData) (ps : List Str) (sp : Sp) : Prop where
  many : ∀ vs H Q E, sp vs H Q E → vs.length = ps.length
  go : ∀ (A : Around) (outer : List Env) (s : Shared) (H : Hp) (args : Args) (us : List Value) (vs : List V) (Q : VK) (E : XK), A.guards = some [] → Room k A → Env0 P w K mg base A outer s H → BindsTo s fd args (ps.zip us) → Vals vs us → sp vs H Q E →
    codeAny (model P w) A (.call (.ref f) args) (CR CX0 outer P w H s Q E) s
section
variable {P : Program} {w : World} {K : PySem.W.Frag} {mg : Str → Option Value} {base : Heap}
theorem fnG_of {x qual : Str} {st : Stmt} {f : Addr} {fd : FuncData} {N ps : List Str} {k : Nat} {sp : Sp} (Fn : Fun K x qual st f fd) (S : FnScope N ps (defScope st)) (many : ∀ vs H Q E, sp vs H Q E → vs.length = ps.length)
    (body : ∀ (cdv : Value) (A : Around) (outer : List Env) (s : Shared) (H : Hp) (vs : List V) (Q : VK) (E : XK), fd.code = cdv → A.guards = some [] → Room k (A.deeper (envOfC qual (defScope st) s.heap.objs.size f cdv)) → sp vs H Q E →
      ∃ t, PSs (cxOf CX0 P w K mg base N qual (defScope st) f cdv A outer s H E).nox (defBody st) t ∧ t { nx := fun _ H' => Q .non H', rt := Q } (L2.start N vs) H) : FnG P w K mg base (k + 1) f fd ps sp := by
  obtain ⟨c1, c2, c3, c4, c5, c6, cdv, c8, c9, rfl, at_, code⟩ := Fn.ex
  refine ⟨many, fun A outer s H args us vs Q E hg room env bind rel spec => ?_⟩
  have len := many _ _ _ _ spec
  have back : ∀ b o, base.get? b = some o → s.heap.get? b = some o := fun b o q => (env.bs b o q).1
  have inK : K.In s.heap := env.mod.kin.keeps back
  have param : ∀ n ∈ ps, (defScope st).names.lookup n = some .local ∨ ((defScope st).names.lookup n = some .cell ∧ ((cellsFrom (s.heap.objs.size + 1) (defScope st).names []).lookup n).isSome = true) := fun n hn => (S.par n hn).imp_right fun c => ⟨c, PySem.W.cellsFrom_some _ _ _ (.inl c)⟩
  refine codeAny_call_function room.depth (inK _ _ at_) rfl S.co S.gen rfl (PySem.W.codeRec_of inK code) (bind _ _ _ _ ?_)
  refine wpAny_newFunctionEnv_cells S.kind (fun y hy => param y.1 (List.of_mem_zip (a := y.1) (b := y.2) hy).1) fun en hen s1 frame => ?_
  subst hen
  refine ⟨(env.mod.nolimit.keeps back).keeps frame.toInCall.keep, codeAny_func ?_⟩
  obtain ⟨t, der, read⟩ := body cdv A outer s H vs Q E rfl hg (room.deeper _) spec
  have I0 : Inv (cxOf CX0 P w K mg base N qual (defScope st) f cdv A outer s H E) [] (L2.start N vs) H s1 := inv_start S room.hd env len rel frame
  have done : ∀ {σ' : L2.St} {H' : Hp} {v : V} {u : Value} {s' : Shared}, Inv (cxOf CX0 P w K mg base N qual (defScope st) f cdv A outer s H E) [] σ' H' s' → RelV v u → Q v H' → CE outer P w H s Q u s' := fun J q1 q2 => ⟨_, _, J.os, J.bare, J.base, J.hok, q1, q2⟩
  refine wpAny_mono (der.nox.run [] s1 (L2.start N vs) H _ I0 read) (fun flow s' he => ?_) fun _ _ bad => bad
  cases flow with
  | next => obtain ⟨_, _, J, q⟩ := he; exact done (v := V.non) (u := Value.none) J rfl q
  | ret u => obtain ⟨_, _, _, J, q1, q2⟩ := he; exact done J q1 q2
  | brk => obtain ⟨_, _, _, bad⟩ := he; exact bad.elim
  | cont => obtain ⟨_, _, _, bad⟩ := he; exact bad.elim
/-- a def of the framework -/
theorem fn_okG {pm : Pm} {x qual : Str} {st : Stmt} {f : Addr} {fd : FuncData} {N ps : List Str} {k : Nat} {F : FSp} (Fn : Fun K x qual st f fd) (S : FnScope N ps (defScope st)) (len : ∀ x, (F.args x).length = ps.length)
    (hbody : ∀ (cdv : Value) (A : Around) (outer : List Env) (s : Shared) (H : Hp) (E : XK), A.guards = some [] → Room k (A.deeper (envOfC qual (defScope st) s.heap.objs.size f cdv)) →
      ∃ t, PSs (cxOf CX0 P w K mg base N qual (defScope st) f cdv A outer s H E).nox (defBody st) t ∧ ∀ x, F.pre x → SEv pm E t (padN N (F.args x)) (poOf F x)) : FnG P w K mg base (k + 1) f fd ps (SpF pm F) :=
  fnG_of Fn S (fun vs H Q E ⟨_, x, _, _, _, ha, _⟩ => by rw [ArgsOk.length ha, len x]) fun cdv A outer s H vs Q E _ hg hr h => by
    obtain ⟨t, h1, h2⟩ := hbody cdv A outer s H E hg hr
    exact ⟨t, h1, body_ok h h2⟩
theorem fn_okGI {ι : Type} {pm : ι → Pm} {x qual : Str} {st : Stmt} {f : Addr} {fd : FuncData} {N ps : List Str} {k : Nat} {F : ι → FSp} (Fn : Fun K x qual st f fd) (S : FnScope N ps (defScope st)) (len : ∀ i x, ((F i).args x).length = ps.length)
    (hbody : ∀ (cdv : Value) (A : Around) (outer : List Env) (s : Shared) (H : Hp) (E : XK), A.guards = some [] → Room k (A.deeper (envOfC qual (defScope st) s.heap.objs.size f cdv)) →
      ∃ t, PSs (cxOf CX0 P w K mg base N qual (defScope st) f cdv A outer s H E).nox (defBody st) t ∧ ∀ i x, (F i).pre x → SEv (pm i) E t (padN N ((F i).args x)) (poOf (F i) x)) : FnG P w K mg base (k + 1) f fd ps (SpI pm F) :=
  fnG_of Fn S (fun vs H Q E ⟨i, _, x, _, _, _, ha, _⟩ => by rw [ArgsOk.length ha, len i x]) fun cdv A outer s H vs Q E _ hg hr ⟨i, h⟩ => by
    obtain ⟨t, h1, h2⟩ := hbody cdv A outer s H E hg hr
    exact ⟨t, h1, body_ok h (h2 i)⟩
end
section
variable {X : Cx} {k : Nat} {f : Addr} {fd : FuncData} {ps : List Str} {sp : Sp} {x : Str} {p pos : Pos} {e : Expr} {es : List Expr} {t : TA}
/-- such a def is called -/
theorem pe_callG (F : FnG X.prog X.w X.K X.mg X.base k f fd ps sp) (hg : X.A.guards = some []) (room : Room k X.A) (free : Gl X x) (is : X.mg x = some (.ref f)) (kept : PySem.W.keepIn X.K (.ref f) = true) (bind : Binds X.K fd ps [])
    (ha : PA X (e :: es) t) (hdb : (x == ("__debug__" : Str)) = false := by decide) (first : starEach (e :: es) X.env = (false, eval e X.env) :: starEach es X.env := by rfl) (rest : (backTo pos (starEach es X.env)).any (·.1) = false := by rfl) :
    PE X (.Call (.Name x p) (e :: es) [] pos) (tCall sp [] E0 t) := ⟨fun pins s σ H Q I h => by
  refine wpAny_Call_Name_kw (ld_glob I free is (PySem.W.callWith_K (h₀ := X.base) I.ok.mod.kin kept (thn (ha.run pos pins s σ H _ I h) fun us s1 ⟨vs, H1, J, rel, spec⟩ => ⟨J.kIn, ?_⟩) first rest) hdb)
  have spec' : sp vs H1 Q E0 := by have q : sp (vs ++ []) H1 Q E0 := spec; rw [List.append_nil] at q; exact q
  have len : us.length = ps.length := by rw [← rel.length]; exact F.many _ _ _ _ spec'
  have bound := bind s1 us J.kIn (by rw [List.append_nil]; exact len)
  rw [List.append_nil] at bound
  refine wpAny_call (codeAny_mono (F.go X.A X.stack s1 H1 ⟨us, []⟩ us vs Q E0 hg room J.env0 bound rel spec') fun r s' fin => ?_)
  cases r with
  | error _ => exact fin.elim
  | ok flow => cases flow with
    | ret _ => exact J.after fin
    | next => exact False.elim fin
    | brk => exact False.elim fin
    | cont => exact False.elim fin⟩
end
end Fw
namespace Fw
open PyProof.Rows PySem PySem.Spec L2
/-! ### repr of data -/
def showB (d : PyData) : Bool := d.showable && !d.hasDict && decide (d.depth ≤ 50) && decide (d.shown.length ≤ sizeLine) && SeqAt.shaped (.str d.shown)
theorem showB_ok {d : PyData} (h : showB d = true) : d.showable = true ∧ d.hasDict = false ∧ d.depth ≤ 50 ∧ d.shown.length ≤ sizeLine ∧ SeqAt.shaped (.str d.shown) = true := by
  unfold showB at h
  simpa [Bool.and_eq_true, and_assoc] using h
abbrev rRepr (K : PySem.W.Frag) : List V → Hp → VK → Prop := fun xs H Q => ∃ a d, xs = [V.ref a] ∧ Dp K H (.ref a) d ∧ showB d = true ∧ Q (.str d.shown) H
theorem k_repr {X : Cx} {K : PySem.W.Frag} (h : X.K = K) (hg : X.A.guards = some []) (hu : X.A.units + 64 < cLine) : CallR X (.builtin "repr") (rRepr K) := by
  subst h
  intro pins s σ H xs us Q I rel ⟨a, d, ex, dp, ok, q⟩
  subst ex
  obtain ⟨u, eu, ru⟩ := vals1 rel
  subst eu
  obtain rfl : u = Value.ref a := ru
  obtain ⟨o1, o2, o3, o4, _⟩ := showB_ok ok
  obtain ⟨as, rd⟩ := Dp.reads I d _ _ dp rfl
  exact repr_of_reads' rd o1 (PyData.noDict_hsm o2) hg (by omega) (fun _ _ e => e) (fun h' u tk k => ⟨.str d.shown, H, I.kept k, ⟨_, rfl⟩, q⟩) o4
theorem rc_reprT {K : PySem.W.Frag} {ds : List PyData} (h : showB (.tuple ds) = true) (hn : noDict (.tuple ds) = true) : RC K (rRepr K) [.tuple ds] (.str (PyData.shown (.tuple ds))) := fun m H vs hl a Q q => by
  cases a with
  | cons d a =>
    cases a
    have dp := (d.mono (mk_same _ _)).toDp hn
    cases d with
    | tup g a => exact ⟨_, _, rfl, dp, h, q _ H (Same.refl H) (.str _)⟩
theorem rc_reprL {K : PySem.W.Frag} {ds : List PyData} (h : showB (.list ds) = true) (hn : noDict (.list ds) = true) : RC K (rRepr K) [.list ds] (.str (PyData.shown (.list ds))) := fun m H vs hl a Q q => by
  cases a with
  | cons d a =>
    cases a
    have dp := (d.mono (mk_same _ _)).toDp hn
    cases d with
    | lst g a => exact ⟨_, _, rfl, dp, h, q _ H (Same.refl H) (.str _)⟩
def isSeqD : PyData → Bool
  | .list _ => true
  | .tuple _ => true
  | _ => false
theorem ee_repr {P : Pm} {env : List Ent} {te : TE} {d : PyData} (he : EEd P false te env d) (hs : isSeqD d = true) (h : showB d = true) (hn : noDict d = true) : EEd P false (tCB (rRepr P.K) (tCons te tNil)) env (.str d.shown) := by
  cases d with
  | list ds => exact ee_cb (de_cons he de_nil) (rc_reprL h hn)
  | tuple ds => exact ee_cb (de_cons he de_nil) (rc_reprT h hn)
  | _ => exact nomatch hs
theorem eqv_s (x : Str) : PyData.eqv (.str x) (.str x) = true := by
  unfold PyData.eqv
  simp
end Fw
namespace Fw
open PyProof.Rows PySem PySem.Spec L2
section
variable {X : Cx} {CX : CXT} {k : Nat} {f : Addr} {fd : FuncData} {ps : List Str} {sp : Sp} {E : XK} {x : Str} {p pos : Pos} {kws : List Keyword} {tk : TA}
/-- f(k = v, ..): by keywords alone -/
theorem pe_callKw (F : FnOk X.prog X.w X.K X.mg X.base CX k f fd ps sp) (room : Room k X.A) (free : Gl X x) (is : X.mg x = some (.ref f)) (kept : PySem.W.keepIn X.K (.ref f) = true) (kb : KBinds X.K fd ps ps (fun us ws => us ++ ws) (fun vs zs => vs ++ zs)) (pass : Passes CX X E)
    (ha : PK X kws tk) (named : (backToKw pos (keywordEach kws X.env)).all (·.1.isSome) = true := by rfl) (names : (backToKw pos (keywordEach kws X.env)).filterMap (·.1) = ps := by rfl) (hdb : (x == ("__debug__" : Str)) = false := by decide)
    (plain : ((backTo pos (starEach [] X.env)).any (·.1) || (backToKw pos (keywordEach kws X.env)).any (·.1.isNone)) = false := by rfl) : PE X (.Call (.Name x p) [] kws pos) (tCall sp [] E tk) := ⟨fun pins s σ H Q I h => by
  refine wpAny_Call_Name_kw (ld_glob I free is (PySem.W.callWith_KW0 (h₀ := X.base) I.ok.mod.kin kept named (thn (ha.run pos pins s σ H _ I h) fun ws s2 ⟨zs, H2, J, rel, spec⟩ => ⟨J.kIn, ?_⟩) plain) hdb)
  rw [names]
  exact run_fnk (us := []) (vs := []) F room kb pass J .nil rel (by have q : sp (zs ++ []) H2 Q E := spec; rw [List.append_nil] at q; exact q)⟩
end
section
variable {K : PySem.W.Frag}
theorem kb_of {x qual : Str} {st : Stmt} {f : Addr} {fd : FuncData} {ps : List Str} (Fn : Fun K x qual st f fd)
    (h : ∀ (kV doc pm : Value) (an : Option Addr) (cdv ct : Value) (us ws : List Value), (us ++ ws).length = ps.length → bindArgs (PySem.W.fnOf x qual (defArgs st) (defBody st) (defScope st) .none kV doc pm an cdv ct) ⟨us, ps.zip ws⟩ = pure (ps.zip (us ++ ws))) : KBinds K fd ps ps (fun us ws => us ++ ws) (fun vs zs => vs ++ zs) := by
  obtain ⟨c1, c2, c3, c4, c5, c6, c7, c8, c9, rfl, at_, code⟩ := Fn.ex
  exact ⟨fun s us ws _ len => .of_eq (h c3 c4 c5 c6 c7 c8 us ws len), fun r q => r.append q⟩
end
end Fw
end

section
/-! Fw18: texts in sequences -/
open PyProof.Rows PySem PySem.Spec L2
namespace Fw
theorem eqv_ss (x y : Str) : PyData.eqv (.str x) (.str y) = decide (x = y) := by
  unfold PyData.eqv
  by_cases h : x = y <;> simp [h]
theorem eqvAll_strs : ∀ ns ms : List Str, PyData.eqvAll (ns.map .str) (ms.map .str) = decide (ns = ms)
  | [], [] => rfl
  | [], _ :: _ => rfl
  | _ :: _, [] => rfl
  | n :: ns, m :: ms => by
    show (PyData.eqv (.str n) (.str m) && PyData.eqvAll (ns.map .str) (ms.map .str)) = _
    rw [eqv_ss, eqvAll_strs ns ms]
    by_cases h : n = m
    · by_cases h2 : ns = ms <;> simp [h, h2]
    · simp [h]
theorem eqv_tss (ns ms : List Str) : PyData.eqv (.tuple (ns.map .str)) (.tuple (ms.map .str)) = decide (ns = ms) := by
  unfold PyData.eqv
  exact eqvAll_strs ns ms
theorem eqv_lss (ns ms : List Str) : PyData.eqv (.list (ns.map .str)) (.list (ms.map .str)) = decide (ns = ms) := by
  unfold PyData.eqv
  exact eqvAll_strs ns ms
theorem LEv.imp2 {P : Pm} {te : TE} {env : List Ent} {Φ Ψ : List PyData → Prop} (h : LEv P te env Φ) (f : ∀ y, Φ y → Ψ y) : LEv P te env Ψ := fun M ks H0 H σ S Q q => h M ks H0 H σ S Q fun p vs xs H' hx a b c d e => q p vs xs H' (f xs hx) a b c d e
section
variable {K : PySem.W.Frag}
theorem strs_inv {H : Hp} : ∀ {ns : List Str} {vs : List V}, DdA K H vs (ns.map .str) → vs = ns.map .str
  | [], _, h => by cases h; rfl
  | n :: ns, _, h => by
    cases h with
    | cons d h => cases d; rw [strs_inv h]; rfl
theorem inV_strs (x : Str) : ∀ ns : List Str, inV (.str x) (ns.map V.str) = decide (x ∈ ns)
  | [] => rfl
  | n :: ns => by
    have ih := inV_strs x ns
    unfold inV at ih ⊢
    rw [List.map_cons, List.any_cons, ih]
    show (eqV (.str n) (.str x) || decide (x ∈ ns)) = decide (x ∈ n :: ns)
    have e : eqV (.str n) (.str x) = decide (n = x) := by
      unfold eqV
      by_cases h : n = x <;> simp [h]
    rw [e]
    by_cases h : n = x
    · subst h; simp
    · have h2 : ¬ x = n := fun e => h e.symm
      simp [h, h2]
theorem flat_strs (ns : List Str) : (ns.map V.str).all flatV = true := by
  rw [List.all_map]
  exact List.all_eq_true.mpr fun _ _ => rfl
theorem rv_inT {x : Str} {ns : List Str} : RV K (rInD K false) (.str x) (.tuple (ns.map .str)) (.bool (decide (x ∈ ns))) := fun m H v w hl hv hw Q q => by
  cases hv
  cases hw with
  | tup g a =>
    cases strs_inv a
    refine .inl ⟨_, _, rfl, .inr (same_t (mk_same _ _) g), rfl, flat_strs ns, ?_⟩
    rw [inV_strs]
    exact q _ H (Same.refl H) (.bl _)
theorem rv_notinT {x : Str} {ns : List Str} : RV K (rInD K true) (.str x) (.tuple (ns.map .str)) (.bool (!decide (x ∈ ns))) := fun m H v w hl hv hw Q q => by
  cases hv
  cases hw with
  | tup g a =>
    cases strs_inv a
    refine .inl ⟨_, _, rfl, .inr (same_t (mk_same _ _) g), rfl, flat_strs ns, ?_⟩
    rw [inV_strs]
    exact q _ H (Same.refl H) (.bl _)
end
end Fw
end

section
/-! Fw19: an error that is caught and kept: it is known behind the suite -/
open PyProof.Rows PySem PySem.Spec L2
namespace Fw
/-- an error's object at a, of class cls -/
def ExK (cls : Value) (d : Option Addr) (a : Addr) : HO := .ext fun h => ∃ (oe : Obj) (vs : Array Value), h.get? a = some oe ∧ Zc cls d oe ∧ oe.data = .fields vs
section
variable {X : Cx} {pins : List (Addr × Obj)} {σ : L2.St} {H : Hp} {s : Shared} {a : Addr} {oe : Obj} {cls : Value} {d : Option Addr} {vs : Array Value}
theorem Inv.know (I : Inv X pins σ H s) (there : s.heap.get? a = some oe) (is : Zc cls d oe) (rec : oe.data = .fields vs) (un : H a = none) (young : X.s_0.heap.get? a = none) (noL : a ≠ X.env.locals) (noP : ∀ p ∈ X.pn ++ pins, p.1 ≠ a) : Inv X pins σ (upd H a (ExK cls d a)) s := by
  have other : ∀ {b : Addr} {o : HO}, H b = some o → upd H a (ExK cls d a) b = some o := fun {b o} q => by rw [upd_ne (fun z => by rw [z, un] at q; cases q)]; exact q
  have none_of : ∀ {b : Addr}, b ≠ a → H b = none → upd H a (ExK cls d a) b = none := fun ne q => by rw [upd_ne ne]; exact q
  have U := I.base
  refine ⟨I.ok, I.os, I.bare, ⟨U.keep, U.slot, fun b u q1 q2 q3 => none_of (fun z => by rw [z, young] at q1; cases q1) (U.free b u q1 q2 q3), U.there, fun b xs q => other (U.tups b xs q), fun b u w q => other (U.frzs b u w q), fun b ps q => (U.tbls b ps q).imp fun _ q => other q⟩, I.loc, I.cell, none_of noL.symm I.free, fun x c q => none_of (fun z => ?_) (I.freeC x c q), fun p hp => ?_, fun b o q => ?_, I.len⟩
  · obtain ⟨v, o, ho, hd⟩ := I.cell x c q
    rw [z, there] at ho
    cases ho
    rw [rec] at hd
    cases hd
  · obtain ⟨q1, q2, q3⟩ := I.pin p hp
    exact ⟨q1, none_of (noP p hp) q2, q3⟩
  · by_cases e : b = a
    · subst e
      rw [upd_same] at q
      cases q
      exact ⟨⟨oe, vs, there, is, rec⟩, ⟨oe, there⟩, fun _ _ ⟨o, ws, r1, r2⟩ k => ⟨o, ws, k o r1, r2⟩⟩
    · rw [upd_ne e] at q
      exact (I.hok b o q).stay (fun _ _ _ r => r) (fun _ r => other r) fun _ _ r => other r
end
/-- what «except x as n» asks where the error is kept -/
def wKeep (K : PySem.W.Frag) (len : Nat) (c : Value) (i : Nat) (ts : Addr → Value → Option Addr → TS) (D : Ends) : WX := fun cls d σ H =>
  PySem.W.exmOne K cls c = some true ∧ (σ.length = len → ∀ a, H a = none → ts a cls d { nx := fun σ' H' => H' a = none → D.nx (σ'.set i none) (upd H' a (ExK cls d a)), rt := fun _ _ => False } (σ.set i (some (.ref a))) H)
section
variable {X : Cx} {x n : Str} {c : Value} {i : Nat} {body suite : List Stmt} {b₀ : Stmt} {np pos pos' : Pos} {tb : WX → TS} {ts : Addr → Value → Option Addr → TS}
theorem ps_try_keep (st : X.stack = X.env :: X.outer) (fr : X.env.frame = some X.env.locals) (noex : X.ex = []) (nd : X.N.Nodup) (at_i : X.N[i]? = some n) (loc : X.env.kindOf n = some .local) (cl : Names X x c)
    (try_ : ∀ (W : WX) (pn : List (Addr × Obj)) (xe : Value → Shared → Prop), Takes (X.tr pn xe) W → PassesOwn (model X.prog X.w) X.A X.env xe → PSs (X.tr pn xe) body (tb W))
    (with_ : ∀ (a : Addr) (oe : Obj) (cls : Value) (d : Option Addr) (pn : List (Addr × Obj)), Zc cls d oe → (∃ vs, oe.data = .fields vs) → PSs (X.suite a ((a, oe) :: pn)) (b₀ :: suite) (ts a cls d)) :
    PS X (.Try body [.ExceptHandler (some (.Name x np)) (some n) (b₀ :: suite) pos'] [] [] pos) (fun D σ H => tb (wKeep X.K X.N.length c i ts D) D σ H) := ⟨fun pins s σ H D I goal => by
  have ok := I.ok
  have frames : X.A.frames = some (X.env :: X.outer) := ok.frames.trans (congrArg some st)
  refine wpAny_Try_except ?_
  have run := (try_ (wKeep X.K X.N.length c i ts D) (X.pn ++ pins) (fun e s₁ => wpAny (model X.prog X.w) X.A (noteFrame e X.env) (fun _ s₂ => wpAny (model X.prog X.w) X.A (setFlight e none) (fun _ s₃ =>
    wpAny (model X.prog X.w) X.A (handleBy e X.env [.ExceptHandler (some (.Name x np)) (some n) (b₀ :: suite) pos']) (SP X pins D) X.xe s₃) X.xe s₂) X.xe s₁) (fun u sE air => ?_) PassesOwn.looking).run [] s σ H D (I.toTry _) goal
  · refine wpAny_mono run (fun flow s1 sp => ?_) fun _ _ q => q
    cases flow with
    | next => obtain ⟨σ1, H1, J, q⟩ := sp; exact wpAny_execs_nil ⟨σ1, H1, J.ofTry ok, q⟩
    | ret u => obtain ⟨v, σ1, H1, J, q⟩ := sp; exact ⟨v, σ1, H1, J.ofTry ok, q⟩
    | brk => obtain ⟨σ1, H1, J, q⟩ := sp; exact ⟨σ1, H1, J.ofTry ok, q⟩
    | cont => obtain ⟨σ1, H1, J, q⟩ := sp; exact ⟨σ1, H1, J.ofTry ok, q⟩
  · obtain ⟨a, B, sI, pinsT, σE, HE, cls, d, rfl, JT, ground, ups, sky, un, osE, bareE, yes, go⟩ := air
    have J : Inv X pins σE HE sI := JT.ofTry ok
    rw [show (X.tr (X.pn ++ pins) _).stack = X.env :: X.outer from st] at sky ground
    show wpAny (model X.prog X.w) X.A (noteFrame (.ref a) X.env) _ _ _
    refine Sky.land Zc.steady frames fr sky fun hL fl upL => ?_
    obtain ⟨oL, wL, gL, zL, dL⟩ := fl.there
    have isRec : a ∉ frs (X.env :: X.outer) := fun hm => by
      obtain ⟨_, o', e', hn⟩ := fl.2.2.1.mem hm
      rw [gL] at e'
      cases e'
      exact hn _ dL
    have noL : a ≠ X.env.locals := fun z => isRec (List.mem_filterMap.mpr ⟨X.env, List.mem_cons_self, by rw [fr, z]⟩)
    have noF : a ∉ X.fs := fun hm => by
      obtain ⟨e, he, q⟩ := List.mem_filterMap.mp hm
      exact isRec (List.mem_filterMap.mpr ⟨e, List.mem_cons_of_mem _ he, q⟩)
    have absent : sI.heap.get? a = none := by
      cases q : sI.heap.get? a with
      | none => rfl
      | some o =>
        have := ground a o q isRec
        rw [fl.2.1] at this
        cases this
    have young : X.s_0.heap.get? a = none := by
      cases q : X.s_0.heap.get? a with
      | none => rfl
      | some o =>
        obtain ⟨o', q'⟩ := J.base.there a o q (by rw [noex]; simp)
        rw [absent] at q'
        cases q'
    have noP : ∀ p ∈ X.pn ++ pins, p.1 ≠ a := fun p hp z => by
      have q := (J.pin p hp).1
      rw [z, absent] at q
      cases q
    have ground' : ∀ b o, sI.heap.get? b = some o → b ∉ frs X.stack → B.get? b = some o := by rw [st]; exact ground
    have JL : Inv X pins σE HE { sE with heap := hL } := J.landed ground' fl.1 (ups.trans upL) osE bareE
    have SL := JL.suite gL dL un noL noF
    have type_ : PySem.W.Looks (model X.prog X.w) hL (typeOf (.ref a)) cls := fun A Q E s' k q => wpAny_typeOf_ref (k _ _ gL) (by rw [zL.1]; exact q)
    have match_ := PySem.W.exm_one (M := model X.prog X.w) JL.kIn type_ yes
    refine wpAny_handleBy_cons (codeAny_handlers_test ?_) (by intro q; cases q)
    have name_ : ∀ {Q : Value → Shared → Prop} {E : Value → Shared → Prop}, Q c { sE with heap := hL } → wpAny (model X.prog X.w) (X.A.mark (some (.ref a))) (eval (.Name x np) X.env) Q E { sE with heap := hL } := fun q =>
      match cl with
      | ⟨g, nd, .inl m⟩ => ld_glob (X := X.suite a ((a, oL) :: (X.pn ++ pins))) SL g m q nd
      | ⟨g, nd, .inr ⟨m, v, nn⟩⟩ => ld_blt (X := X.suite a ((a, oL) :: (X.pn ++ pins))) SL g m v q nn nd
    refine name_ (match_.here ?_)
    refine codeAny_handlers_suite_as (HandSPX.lands_againZ fl fun hA flA upA => ?_)
    have JA : Inv X pins σE HE { sE with heap := hA } := J.landed ground' flA.1 ((ups.trans upL).trans upA) osE bareE
    obtain ⟨oA, wA, gA, zA, dA⟩ := flA.there
    refine store_ok (X := X.suite a ((a, oA) :: (X.pn ++ pins))) (v := .ref a) (JA.suite gA dA un noL noF) nd at_i (.inl loc) rfl (fun s5 S5 => ?_) (.inr loc)
    refine wpAny_mono ((with_ a oA cls d (X.pn ++ pins) zA ⟨_, dA⟩).run [] s5 _ HE _ S5 (go J.len a un)) (fun flow s6 sp => ?_) fun _ _ bad => False.elim bad
    cases flow with
    | next =>
      obtain ⟨σ6, H6, S6, q⟩ := sp
      obtain ⟨p1, p2, p3, p4, p5⟩ := S6.pin (a, oA) (List.mem_append_left _ List.mem_cons_self)
      have K6 : Inv X ((a, oA) :: pins) σ6 H6 s6 := (S6.unsuite ok).pins_of fun p hp => (List.mem_cons.mp hp).elim (fun z => by rw [z]; exact ⟨p1, p2, p3, p4, p5⟩) fun hp => (S6.unsuite ok).pin p (List.mem_append_right _ hp)
      refine gone_ok K6 nd at_i loc fun s7 K7 => ?_
      obtain ⟨r1, r2, _⟩ := K7.pin (a, oA) (List.mem_append_right _ List.mem_cons_self)
      have L7 : Inv X pins (σ6.set i none) H6 s7 := K7.pins_of fun p hp => K7.pin p (List.mem_append_right _ (List.mem_cons_of_mem _ hp))
      exact ⟨_, _, Fw.Inv.know L7 r1 zA dA r2 young noL noP, q r2⟩
    | ret u => obtain ⟨_, _, _, _, _, bad⟩ := sp; exact False.elim bad
    | brk => obtain ⟨_, _, _, bad⟩ := sp; exact False.elim bad
    | cont => obtain ⟨_, _, _, bad⟩ := sp; exact False.elim bad⟩
end
/-- what the def that keeps an error makes of what it calls -/
def TTkeep (K : PySem.W.Frag) (CS : Addr) : (XK → Hp → VK → Prop) → Hp → VK → Prop := fun tl H Q =>
  tl (fun cls d H' => PySem.W.exmOne K cls (.ref CS) = some true ∧ ∀ a, H' a = none → Q (.ref a) (upd H' a (ExK cls d a))) H fun _ H' => Q .non H'
theorem keep_gives {X : Cx} {x e q wk ct er : Str} {sg : Scope} {g CS : Addr} {cdg : Value} {k0 : Nat} {p1 p2 p3 p4 p5 p6 p7 p8 p9 p10 p11 p12 p13 p14 : Pos} (S : FnScope [wk, ct, er] [wk] sg) (l1 : sg.names.lookup ct = some .local) (l2 : sg.names.lookup er = some .local) (hd1 : (ct == ("__debug__" : Str)) = false) (hd2 : (er == ("__debug__" : Str)) = false) (hc1 : (ct == ("__classdict__" : Str)) = false) (hc2 : (er == ("__classdict__" : Str)) = false) (hge : sg.names.lookup e = some .globalImplicit) (hme : X.mg e = some (.ref CS)) (hde : (e == ("__debug__" : Str)) = false)
    : LamX.GivesTo X [wk, ct, er] x sg g cdg [.Assign [.Name ct p1] (.Constant .none k0 p2) p3, .Try [.Expr (.Call (.Name wk p4) [] [] p5) p6] [.ExceptHandler (some (.Name e p7)) (some er) [.Assign [.Name ct p8] (.Name er p9) p10] p11] [] [] p12, .Return (some (.Name ct p13)) p14] wk q (TTkeep X.K CS) := by
  intro f c' s H Q tl act hc h
  have hgl : Gl (cxOf C8.CX0 X.prog X.w X.K X.mg X.base [wk, ct, er] x sg g cdg X.A X.stack s H C8.E0).nox e := hge
  refine ⟨_, pss_cons (ps_set (i := 1) S.nd rfl (Or.inl l1) pe_non) (pss_cons (ps_try_keep (X := (cxOf C8.CX0 X.prog X.w X.K X.mg X.base [wk, ct, er] x sg g cdg X.A X.stack s H C8.E0).nox) (i := 2) (c := .ref CS)
      (tb := fun W D σ H => ∃ Ech : XK, (∀ cls d σ' H', Ech cls d H' → W cls d σ' H') ∧ σ[0]? = some (some (.ref f)) ∧ H c' = some (LamX.CodeO c' q) ∧ tl Ech H fun _ H1 => D.nx σ H1)
      rfl rfl rfl S.nd rfl l2 ⟨hgl, hde, .inl hme⟩ (fun W pn xe tk _ => ⟨fun pins s' σ H' D I ⟨Ech, hW, h1, h2, h3⟩ => (pss_one (ps_expr (act W pn xe Ech p4 p5 tk hW))).run pins s' σ H' D I ⟨h1, h2, h3⟩⟩)
      (fun a oe cls d pn _ _ => pss_one (ps_set (i := 1) S.nd rfl (Or.inl l1) (pe_var (i := 2) rfl (.inl l2) hd2 hc2)))) (pss_one (ps_ret (pe_var (i := 1) rfl (.inl l1) hd1 hc1)))), ?_⟩
  refine ⟨fun cls d H' => PySem.W.exmOne X.K cls (.ref CS) = some true ∧ ∀ a, H' a = none → Q (.ref a) (upd H' a (ExK cls d a)), fun cls d σ' H' q => ⟨q.1, fun len a un => ?_⟩, rfl, hc, ?_⟩
  · have len : σ'.length = 3 := len
    refine ⟨.ref a, by rw [List.getElem?_set]; simp [len], fun un2 => ⟨.ref a, ?_, q.2 a un⟩⟩
    simp [List.getElem?_set, len]
  · have e2 : (fun (_ : V) (H1 : Hp) => ∃ v, ((L2.start [wk, ct, er] [V.ref f]).set 1 (some V.non))[1]? = some (some v) ∧ Q v H1) = fun _ H1 => Q .non H1 := by
      funext _ H1
      refine propext ⟨fun ⟨v, q1, q2⟩ => ?_, fun q => ⟨.non, rfl, q⟩⟩
      have q1 : some (some V.non) = some (some v) := q1
      cases q1
      exact q2
    show tl _ H (fun _ H1 => ∃ v, ((L2.start [wk, ct, er] [V.ref f]).set 1 (some V.non))[1]? = some (some v) ∧ Q v H1)
    rw [e2]
    exact h
/-- isinstance(e, C) of a known error -/
def rIsK (K : PySem.W.Frag) : List V → Hp → VK → Prop := fun xs H Q => ∃ (a D C : Addr) (b : Bool), xs = [.ref a, .ref C] ∧ H a = some (ExK (.ref D) none a) ∧ L2.ExcC K D ∧ PySem.W.kitOne K (.ref D) (.ref C) = some b ∧ Q (.bl b) H
theorem k_isK {X : Cx} {K : PySem.W.Frag} (h : X.K = K) : CallR X (.builtin "isinstance") (rIsK K) := by
  subst h
  intro pins s σ H xs us Q I rel ⟨a, D, C, b, ex, at_, ec, kit, q⟩
  subst ex
  cases rel with
  | cons r1 rel =>
    cases rel with
    | cons r2 rel =>
      cases rel
      cases r1
      cases r2
      obtain ⟨⟨oe, vs, there, ⟨z1, z2⟩, rec⟩, _, _⟩ := I.hok a _ at_
      obtain ⟨oc, od, oda, osl⟩ := oe
      dsimp only at z1 z2 rec
      subst z1 z2 rec
      exact PySem.W.kia_one (PySem.W.handS_kitx_exc ec.hg ec.hk ec.hs ec.hd ec.ha ec.hn ec.ht ec.hm) I.kIn (⟨there, rfl, rfl, trivial⟩ : PySem.W.InstAt s.heap a _ D none) kit (fun z => nomatch z) fun tk => ⟨.bl b, H, I.kept (t' := tk) fun _ _ z => z, rfl, q⟩
end Fw
end

section
/-! Fw20: the script -/
open PyProof.Rows PySem PySem.Spec L2
namespace Fw
theorem sqL_same {K : PySem.W.Frag} {H H' : Hp} {a : Addr} {xs : List V} (e : ∀ o, H a = some o → H' a = some o) (h : SqL K H a xs) : SqL K H' a xs := by
  rcases h with (h | ⟨o, h⟩) | h
  · exact .inl (.inl (e _ h))
  · exact .inl (.inr ⟨o, e _ h⟩)
  · exact .inr h
section
variable {K : PySem.W.Frag} {a : Addr} {ns : List Int} {env : List Ent} {M : Addr → Prop} {ks : List (V × PyData)} {H0 H : Hp} {σ : L2.St}
theorem iter_script : IterK K (Itl K a) (ns.map .int) (fun _ H => SqL K H a (ns.map V.int)) := by
  refine ⟨_, _, walk_gL (n := (ns.map PyData.int).length), fun m H h => ⟨_, h, by rw [List.length_map, List.length_map]⟩, fun i H1 x H2 m hi hc hl hy => ?_⟩
  obtain ⟨rfl, hv⟩ := hy
  have q := hv _ hc
  rw [List.getElem?_map] at q
  cases e : ns[i]? with
  | none => rw [e] at q; exact nomatch q
  | some n =>
    rw [e] at q
    obtain rfl : V.int n = x := by simpa using q
    exact ⟨Same.refl _, .int n, by rw [List.getElem?_map, e]; rfl, .int n⟩
/-- [f n for n in script if p n] -/
theorem lc_script {i j : Nat} {tt : TT} {te : TE} {p : Int → Bool} {f : Int → Int} {Q : VK} (S : Stt (.pure K) M ks H0 H σ env) (sq : SqL K H0 a (ns.map V.int)) (hz : ns.length ≤ sizeLine) (hi : env[i]? = some (.raw (.ref a))) (hj : env[j]? = some .un)
    (ht : ∀ n ∈ ns, TEd (.pure K) tt (env.set j (.d (.int n))) (p n)) (he : ∀ n ∈ ns, p n = true → EEd (.pure K) false te (env.set j (.d (.int n))) (.int (f n)))
    (q : ∀ D H', H D = none → Same H H' → H' D = some (.lst (((ns.filter p).map f).map .int)) → Q (.ref D) H') : tLc (iSeq K (tVar i)) (gName j) tt te [j] σ H Q := by
  have sq1 : SqL K H a (ns.map V.int) := sqL_same (fun o h => S.ex.nil _ _ h) sq
  refine .inl ⟨_, S.raw_at hi, a, rfl, ⟨_, sq1⟩, ?_⟩
  refine lc_heart (f := fun n => .int (f n)) rfl S (.refl _ _) trivial iter_script [] (fun q hq => nomatch hq) (fun M' H' σ' _ S' => sqL_same (fun o h => S'.ex.nil _ _ h) sq) (fun k hk => by rw [List.mem_singleton.mp hk]; exact hj) (fun n _ => ge_name (List.mem_singleton.mpr rfl)) ht he (by rw [List.length_map]; exact hz) (fun n _ => owned_set hj) fun D ws H' hn e1 _ g d => ?_
  have e : (ns.filter p).map (fun n => PyData.int (f n)) = ((ns.filter p).map f).map .int := by rw [List.map_map]; rfl
  rw [e] at d
  cases ints_inv d
  exact q D H' hn e1.nil g
end
end Fw
end

section
/-! Fw21: x(lambda: ..) where x keeps the error -/
open PyProof.Rows PySem PySem.Spec L2
namespace Fw
section
variable {X : Cx}
theorem pe_keepcall {x wk ct er : Str} {st : Stmt} {g c P CS : Addr} {fd : FuncData} {k : Nat} {params : Arguments} {body : Expr} {scope : Scope} {t : XK → TE} {p lpos pos : Pos} (Fn : Fun X.K x x st g fd) (S : FnScope [wk, ct, er] [wk] (defScope st)) (free : Gl X x) (is : X.mg x = some (.ref g)) (bind : L2.Binds X.K fd [wk] []) (vis : Vis (defScope st) wk)
    (gives : ∀ cdv, LamX.GivesTo X [wk, ct, er] x (defScope st) g cdv (defBody st) wk (X.env.qual ++ "<lambda>") (TTkeep X.K CS)) (tab : LamX.TabB X.base X.mg c P) (code : X.env.code = .ref c) (room : Room (k + 2) X.A) (lam : LamX.lamSB X.env.scope scope = true)
    (act : ∀ (A : Around) (outer : List Env) (s : Shared) (H : Hp) (E : XK) (f c' : Addr), Room k (A.deeper (LamX.lamEnv X scope s.heap.objs.size f c')) → PE (LamX.lamCx X A outer s H E scope f c') body (t E))
    (dfl : defaultsOf params X.env = ([], []) := by rfl) (none_ : ∀ (q : Str) (cl : List (Str × Addr)) (pm cv ctv : Value), bindArgs (PySem.W.kla_fn "<lambda>" q params body scope cl pm cv ctv) ⟨[], []⟩ = pure [] := by intros; rfl)
    (hdb : (x == ("__debug__" : Str)) = false := by decide) (hd : (wk == ("__debug__" : Str)) = false := by decide) (hcd : (wk == ("__classdict__" : Str)) = false := by decide) :
    PE X (.Call (.Name x p) [.Lambda params body scope lpos] [] pos) (LamX.tLam [(P, X.env.qual ++ "<lambda>")] (TTkeep X.K CS) t) := by
  obtain ⟨c1, c2, c3, c4, c5, c6, cdv, c8, c9, rfl, at_, cod⟩ := Fn.ex
  exact LamX.pe_lamcall free is Fn.kp at_ cod bind S rfl vis (gives cdv) tab code (List.mem_singleton.mpr rfl) (fun q hq _ => by rw [List.mem_singleton.mp hq]) room (LamX.lamS_by lam) dfl none_ act hdb hd hcd
end
/-- without the tables -/
def noTab (H : Hp) : Hp := fun a => match H a with
  | some (.tbl _) => none
  | o => o
theorem noTab_at {H : Hp} {a : Addr} {o : HO} (h : H a = some o) (n : ∀ ps, o ≠ .tbl ps) : noTab H a = some o := by
  unfold noTab
  rw [h]
  cases o with
  | tbl ps => exact absurd rfl (n ps)
  | _ => rfl
theorem noTab_out {H : Hp} {a : Addr} {o : HO} (h : noTab H a = some o) : H a = some o ∧ ∀ ps, o ≠ .tbl ps := by
  unfold noTab at h
  split at h
  · cases h
  · rename_i n
    exact ⟨h, fun ps e => n ps (by rw [h, e])⟩
theorem noTab_ext {H H' : Hp} (e : LamX.ExtN H H') : Same (noTab H) (noTab H') := fun a o h => by
  obtain ⟨h1, h2⟩ := noTab_out h
  exact noTab_at (e a o h1 h2) h2
mutual
theorem Dd.noTab {K : PySem.W.Frag} {H : Hp} : ∀ {v : V} {d : PyData}, Dd K H v d → Dd K (noTab H) v d
  | _, _, .non => .non
  | _, _, .bl b => .bl b
  | _, _, .int i => .int i
  | _, _, .str x => .str x
  | _, _, .lst h a => .lst (noTab_at h fun _ e => nomatch e) (DdA.noTab a)
  | _, _, .tup h a => .tup (by
      rcases h with (h | ⟨o, h⟩) | h
      · exact .inl (.inl (noTab_at h fun _ e => nomatch e))
      · exact .inl (.inr ⟨o, noTab_at h fun _ e => nomatch e⟩)
      · exact .inr h) (DdA.noTab a)
  | _, _, .dic h k a z => .dic (noTab_at h fun _ e => nomatch e) k (DdA.noTab a) z
theorem DdA.noTab {K : PySem.W.Frag} {H : Hp} : ∀ {vs : List V} {ds : List PyData}, DdA K H vs ds → DdA K (noTab H) vs ds
  | _, _, .nil => .nil
  | _, _, .cons d a => .cons (Dd.noTab d) (DdA.noTab a)
end
end Fw
end

section
/-! Fw22: the end of a law whose def asks that nothing is being shown -/
open PyProof.Rows PySem PySem.Spec L2
namespace Fw
abbrev emptyTabO : Obj := { cls := .none, data := .fields #[] }
section
variable {P : Program} {w : World} {K : PySem.W.Frag} {mg mb : Str → Option Value} {k : Nat} {fa a c T : Addr} {fd : FuncData} {x : Str} {sp : Sp} {s : Shared} {vs : List Value} {ns : List Int}
/-- what is tracked at the law's call: its table; the script, unless the fragment tells it -/
def atCall (K : PySem.W.Frag) (T a : Addr) (vs : List Value) (ns : List Int) : Hp := fun b =>
  if b = T then some (.tbl #[]) else if b = a ∧ (K.lookup a).isNone = true then some (.frz { cls := .type "list", data := .seq vs.toArray } (.lst (ns.map V.int))) else none
theorem atCall_T : atCall K T a vs ns T = some (.tbl #[]) := if_pos rfl
theorem atCall_out {b : Addr} (h1 : b ≠ T) (h2 : b = a → (K.lookup a).isNone = false) : atCall K T a vs ns b = none := by
  unfold atCall
  rw [if_neg h1, if_neg (fun ⟨q1, q2⟩ => by rw [h2 q1] at q2; cases q2)]
theorem law_endG (inK : K.In s.heap) (main : s.heap.Ns mainGlobals mg) (bns : s.heap.Ns builtinsNs mb) (boot : ∀ x : Str, x ≠ "__name__" → mb x = bootBuiltins x) (lim : s.heap.NoLimit) (gens : s.gens = #[])
    (tab : s.heap.get? T = some emptyTabO) (tabK : K.lookup T = none) (code : PySem.W.CodeHd s.heap c T)
    (bmod : ∃ (bm : Addr) (ob : Obj), mg "__builtins__" = some (.ref bm) ∧ bm ≠ builtinsNs ∧ s.heap.get? bm = some ob ∧ ob.cls = .type "module" ∧ ob.dict = some builtinsNs ∧ ob.data = .plain)
    (script : s.heap.get? a = some { cls := .type "list", data := .seq vs.toArray }) (isI : IntsAre vs ns) (size : ns.length ≤ sizeLine) (room : Room k callerA)
    (F : ∀ base : Heap, K.In base → base.Ns mainGlobals mg → LamX.TabB base mg c T → FnG P w K mg base k fa fd [x] sp) (bind : ∀ (s : Shared) (u : Value), BindsTo s fd ⟨[u], []⟩ [(x, u)])
    (spec : ∀ H : Hp, H T = some (.tbl #[]) → SqL K H a (ns.map V.int) → sp [.ref a] H (fun v _ => v = .bl true) E0) :
    codeAny (model P w) callerA (.call (.ref fa) ⟨[.ref a], []⟩) (fun r s' => r = .ok (.ret (.bool true)) ∧ OldK s.heap s'.heap ∧ s'.os = s.os ∧ AllBare s'.gens) s := by
  have vals := vals_ints isI
  have aT : a ≠ T := fun z => by
    rw [z, tab] at script
    have := congrArg Obj.data (Option.some.inj script)
    cases this
  obtain ⟨H, eH⟩ : ∃ H, H = atCall K T a vs ns := ⟨_, rfl⟩
  have atT : H T = some (.tbl #[]) := by rw [eH]; exact atCall_T
  have outside : ∀ {b : Addr}, b ≠ T → (b = a → (K.lookup a).isNone = false) → H b = none := fun h1 h2 => by rw [eH]; exact atCall_out h1 h2
  have seen : ∀ {b : Addr} {o : Obj}, s.heap.get? b = some o → b ≠ T → b ≠ a → (hidT s.heap H).get? b = some o := fun q h1 h2 => hidT_get q (outside h1 fun z => absurd z h2)
  have plain : ∀ {b : Addr} {o : Obj}, s.heap.get? b = some o → o.data ≠ .fields #[] → (∀ xs n, o.data ≠ .seq xs n) → (hidT s.heap H).get? b = some o := fun {b o} q h1 h2 => seen q
    (fun z => by rw [z, tab] at q; cases q; exact h1 rfl) (fun z => by rw [z, script] at q; cases q; exact h2 _ _ rfl)
  have dicts : ∀ {b : Addr} {m : Str → Option Value}, s.heap.Ns b m → (hidT s.heap H).Ns b m := fun ⟨o, es, ep, q, d, r⟩ => ⟨o, es, ep, plain q (by rw [d]; exact fun z => nomatch z) (by rw [d]; exact fun _ _ z => nomatch z), d, r⟩
  have inB : K.In (hidT s.heap H) := fun b o q => hidT_get (inK b o q) (outside (fun z => by rw [z, tabK] at q; cases q) fun z => by rw [← z, q]; rfl)
  have modB : L2.Mod K mg (hidT s.heap H) := ⟨inB, dicts main, ⟨mb, dicts bns, boot⟩, lim.imp fun _ h => ⟨dicts h.1, h.2⟩⟩
  have held : HOk P w H s.heap := fun b u q => by
    rw [eH] at q
    unfold atCall at q
    split at q
    · rename_i z
      cases q
      rw [z]
      exact tab
    · split at q
      · rename_i z
        cases q
        rw [z.1]
        exact ⟨script, by rw [List.length_map]; exact size, vs, _, vals, script⟩
      · cases q
  have env : Env0 P w K mg (hidT s.heap H) callerA [] s H := ⟨rfl, modB, fun _ _ q => of_hidT q, Nat.le_of_eq (hidT_size _ _), trivial, fun _ h => (List.not_mem_nil h).elim, held, .of_eq gens⟩
  have tabB : LamX.TabB (hidT s.heap H) mg c T := by
    refine ⟨?_, ?_, fun z => ?_⟩
    · obtain ⟨o, us, f1, f2, f3, f4, f5, f6, f7, q, r1, r2, r3, rest⟩ := code
      refine ⟨o, us, f1, f2, f3, f4, f5, f6, f7, plain q ?_ ?_, r1, r2, r3, rest⟩
      · rw [r2]
        intro z
        cases z
        cases r3
      · rw [r2]
        exact fun _ _ z => nomatch z
    · obtain ⟨bm, ob, q1, q2, q3, q4, q5, q6⟩ := bmod
      refine ⟨bm, ob, q1, q2, fun z => ?_, fun z => ?_, plain q3 ?_ ?_, q4, q5, q6⟩
      · obtain ⟨o, es, ep, g, d, _⟩ := main
        rw [z, g] at q3
        cases q3
        rw [q6] at d
        cases d
      · rw [z, tab] at q3
        cases q3
        cases q6
      · rw [q6]; exact fun z => nomatch z
      · rw [q6]; exact fun _ _ z => nomatch z
    · obtain ⟨o, es, ep, q, d, _⟩ := main
      rw [z, tab] at q
      cases q
      cases d
  have scr : SqL K H a (ns.map V.int) := by
    cases q : K.lookup a with
    | none =>
      refine .inl (.inr ⟨{ cls := .type "list", data := .seq vs.toArray }, ?_⟩)
      rw [eH]
      unfold atCall
      rw [if_neg aT, if_pos ⟨rfl, by rw [q]; rfl⟩]
    | some o =>
      have g := inK a o q
      rw [script] at g
      cases g
      exact .inr ⟨_, _, _, q, rfl, rfl, rfl, by rw [List.size_toArray, isI.length]; exact size, vals⟩
  refine codeAny_mono ((F _ inB (dicts main) tabB).go callerA [] s H ⟨[.ref a], []⟩ [.ref a] [.ref a] _ _ rfl room env (bind s _) (.cons rfl .nil) (spec H atT scr)) fun r s' fin => ?_
  cases r with
  | error _ => exact fin.elim
  | ok flow => cases flow with
    | next => exact False.elim fin
    | brk => exact False.elim fin
    | cont => exact False.elim fin
    | ret u =>
      obtain ⟨v, H', os, bare, un, held', rel, hv⟩ := fin
      have hv : v = .bl true := hv
      subst hv
      obtain rfl : u = Value.bool true := rel
      obtain ⟨more, tab'⟩ := un.tbls T #[] atT
      have tabAt : s'.heap.get? T = some { cls := .none, data := .fields (#[] ++ more) } := held' T _ tab'
      rw [Array.empty_append] at tabAt
      have rest : ∀ b o, b ≠ T → s.heap.get? b = some o → s'.heap.get? b = some o := fun b o hb q => by
        cases z : H b with
        | none => exact un.keep b o q z (List.not_mem_nil) (List.not_mem_nil)
        | some u =>
          have z0 := z
          rw [eH] at z
          unfold atCall at z
          rw [if_neg hb] at z
          split at z
          · cases z
            obtain ⟨g1, _⟩ := held b _ z0
            obtain ⟨g2, _⟩ := held' b _ (un.frzs b _ _ z0)
            rw [q] at g1
            cases g1
            exact g2
          · cases z
      refine ⟨rfl, ⟨fun b o q => ?_, fun b o q => ?_⟩, os, bare⟩
      · by_cases hb : b = T
        · subst hb
          rw [tab] at q
          cases q
          exact .inr (.inl ⟨(code.tab tab).isCodeTable, rfl, #[], more, rfl, by rw [Array.empty_append]; exact tabAt⟩)
        · exact .inl (rest b o hb q)
      · by_cases hb : b = T
        · subst hb
          exact ⟨_, tabAt⟩
        · exact ⟨o, rest b o hb q⟩
end
/-- what is known of the law at the head's heap h -/
def LawG (l : PySem.W.OpenLaw) (w : World) (mg : Str → Option Value) (k : Nat) (x : Str) (fa : Addr) (h : Heap) : Prop :=
  ∃ (K : PySem.W.Frag) (fd : FuncData) (c T : Addr) (sp : Sp), K.In h ∧ h.get? T = some emptyTabO ∧ K.lookup T = none ∧ PySem.W.CodeHd h c T ∧ (∀ (s : Shared) (u : Value), BindsTo s fd ⟨[u], []⟩ [(x, u)]) ∧
    (∀ (H : Hp) (a : Addr) (ns : List Int), ns.length ≤ sizeLine → H T = some (.tbl #[]) → SqL K H a (ns.map V.int) → sp [.ref a] H (fun v _ => v = .bl true) E0) ∧
    ∀ base : Heap, K.In base → base.Ns mainGlobals mg → LamX.TabB base mg c T → FnG l.prog w K mg base k fa fd [x] sp
theorem walk_ofG {l : PySem.W.OpenLaw} {n k : Nat} {q : Program} {loose : List Str} {XP : (Str → Option Value) → Heap → Prop} {YP : World → Heap → Prop} {d : DefRec} {x : Str} (most : l.most = some n) (fits : n ≤ sizeLine) (nodfl : d.params.defaults = []) (room : Room k callerA)
    (F : ∀ (w : World) (mg : Str → Option Value) (fa : Addr) (h : Heap), YP w h → h.Ns mainGlobals mg → mg d.name = some (.ref fa) → LawG l w mg k x fa h) : PySem.W.WalkO q loose XP YP l.row.toRowW d [] (fun f vs => PySem.call f vs) :=
  Att.attach_callB most nodfl fun w s₀ s₁ mg mb fa o pm cd doc a vs ns G Y ho hd hcd hmg hobj isI hlen _ hg => by
    obtain ⟨K, fd, c, T, sp, inK, tab, tabK, code, bind, spec, fn⟩ := F w mg fa _ Y G.T.g hmg
    exact law_endG inK G.T.g G.T.b G.T.builtins G.T.nolimit hg tab tabK code G.T.bmain hobj isI (Nat.le_trans hlen fits) room fn bind fun H q1 q2 => spec H a ns (Nat.le_trans hlen fits) q1 q2
end Fw
end

section
/-! Fw23: what the head tells -/
open PyProof.Rows PySem PySem.Spec L2
namespace Fw
mutual
/-- the value u of the fragment reads as d: ints, texts, bools, None, tuples of such -/
def pyB (K : PySem.W.Frag) : Value → PyData → Bool
  | .none, .none => true
  | .bool b, .bool c => b == c
  | .int i _, .int j => decide (i = j)
  | .str x _, .str y => decide (x = y)
  | .ref a, .tuple ds => (match K.lookup a with
    | some ⟨.type c, _, .seq its _, _⟩ => decide (c = "tuple") && (decide (its.size ≤ sizeLine) && pyBs K its.toList ds)
    | _ => false)
  | _, _ => false
def pyBs (K : PySem.W.Frag) : List Value → List PyData → Bool
  | [], [] => true
  | u :: us, d :: ds => pyB K u d && pyBs K us ds
  | _, _ => false
end
mutual
theorem pyB_ok {K : PySem.W.Frag} : ∀ (d : PyData) (u : Value), pyB K u d = true → ∃ v, RelV v u ∧ Dd K (fun _ => none) v d
  | .none, u, h => by
    cases u with
    | none => exact ⟨.non, rfl, .non⟩
    | _ => simp [pyB] at h
  | .bool b, u, h => by
    cases u with
    | bool c =>
      have e : c = b := by simpa [pyB] using h
      rw [e]
      exact ⟨.bl b, rfl, .bl b⟩
    | _ => simp [pyB] at h
  | .int i, u, h => by
    cases u with
    | int j t =>
      have e : j = i := by simpa [pyB] using h
      rw [e]
      exact ⟨.int i, ⟨t, rfl⟩, .int i⟩
    | _ => simp [pyB] at h
  | .str x, u, h => by
    cases u with
    | str y t =>
      have e : y = x := by simpa [pyB] using h
      rw [e]
      exact ⟨.str x, ⟨t, rfl⟩, .str x⟩
    | _ => simp [pyB] at h
  | .list ds, u, h => by cases u <;> simp [pyB] at h
  | .dict ds, u, h => by cases u <;> simp [pyB] at h
  | .tuple ds, u, h => by
    cases u with
    | ref a =>
      unfold pyB at h
      cases q : K.lookup a with
      | none => rw [q] at h; cases h
      | some o =>
        obtain ⟨oc, od, dt, sl⟩ := o
        rw [q] at h
        cases oc with
        | type c =>
          cases dt with
          | seq its n =>
            have h : (decide (c = "tuple") && (decide (its.size ≤ sizeLine) && pyBs K its.toList ds)) = true := h
            rw [Bool.and_eq_true, Bool.and_eq_true] at h
            obtain ⟨vs, r, dd⟩ := pyBs_ok ds its.toList h.2.2
            exact ⟨.ref a, rfl, .tup (.inr ⟨_, its, n, q, congrArg Value.type (of_decide_eq_true h.1), rfl, of_decide_eq_true h.2.1, r⟩) dd⟩
          | _ => cases h
        | _ => cases dt <;> cases h
    | _ => simp [pyB] at h
theorem pyBs_ok {K : PySem.W.Frag} : ∀ (ds : List PyData) (us : List Value), pyBs K us ds = true → ∃ vs, Vals vs us ∧ DdA K (fun _ => none) vs ds
  | [], [], _ => ⟨[], .nil, .nil⟩
  | [], _ :: _, h => by simp [pyBs] at h
  | _ :: _, [], h => by simp [pyBs] at h
  | d :: ds, u :: us, h => by
    have h : (pyB K u d && pyBs K us ds) = true := h
    rw [Bool.and_eq_true] at h
    obtain ⟨v, r1, d1⟩ := pyB_ok d u h.1
    obtain ⟨vs, r2, d2⟩ := pyBs_ok ds us h.2
    exact ⟨v :: vs, .cons r1 r2, .cons d1 d2⟩
end
/-- the constant x of the module reads as d -/
def gloB (K : PySem.W.Frag) (x : Str) (d : PyData) : Bool := pyB K (.ref (He.ga K x)) d
theorem gloB_ok {K : PySem.W.Frag} {x : Str} {d : PyData} (h : gloB K x d = true) : Dd K (fun _ => none) (.ref (He.ga K x)) d := by
  obtain ⟨v, r, dd⟩ := pyB_ok d _ h
  cases dd with
  | non => cases r
  | bl => cases r
  | int => obtain ⟨_, r⟩ := r; cases r
  | str => obtain ⟨_, r⟩ := r; cases r
  | lst h => cases h
  | dic h => cases h
  | tup g a =>
    have r : Value.ref (He.ga K x) = Value.ref _ := r
    cases r
    exact .tup g a
/-- the table at a by its keys -/
def tabB (K : PySem.W.Frag) (a : Addr) (kvs : List (Str × PyData)) : Bool := kvs.all fun q => match PySem.W.nsIn K a q.1 with
  | some (some u) => pyB K u q.2
  | _ => false
theorem tabB_ok {K : PySem.W.Frag} {w : World} {a : Addr} {kvs : List (Str × PyData)} (kd : ∃ es n, KDict K w a es n) (h : tabB K a kvs = true) : TabOk K w a kvs := fun q hq => by
  have h := List.all_eq_true.mp h q hq
  obtain ⟨es, n, k⟩ := kd
  cases e : PySem.W.nsIn K a q.1 with
  | none => rw [e] at h; cases h
  | some r =>
    rw [e] at h
    cases r with
    | none => cases h
    | some u =>
      obtain ⟨v, r, dd⟩ := pyB_ok q.2 u h
      exact ⟨v, ⟨es, n, u, k.at_, k.lit, e, r⟩, dd⟩
/-- a def without defaults -/
theorem fun_of {K : PySem.W.Frag} {x qual : Str} {st : Stmt} {f : Addr} {fd : FuncData} (F : FunD K x qual (defArgs st) (defBody st) (defScope st) [] [] f fd) (nokw : fd.kwdefaults = .none → True := fun _ => trivial) : ∃ fd, Fun K x qual st f fd := by
  obtain ⟨c1, c2, c3, c4, c5, c6, c7, c8, c9, c10, e, at_, code, d, k⟩ := F.ex
  rcases d with ⟨_, d⟩ | ⟨d, _⟩
  · subst d
    exact ⟨fd, ⟨c1, c2, c4, c5, c6, c7, c8, c9, c10, e, at_, code⟩, F.kp⟩
  · exact absurd rfl d
/-- the facts of an own error class for isinstance -/
def excB (K : PySem.W.Frag) (D : Addr) : Bool :=
  decide (PySem.W.findIn K (.ref D) "__getattribute__" = some (some (.builtin "BaseException.__getattribute__"))) && decide (PySem.W.findIn K (.ref D) "__getattr__" = some none) && decide (PySem.W.subIn K (.ref D) (.type "BaseException") = some true) && PySem.W.hasDictIn K D && decide (PySem.W.findIn K (.ref D) "__class__" = some (some (.builtin "object.__class__"))) && decide (PySem.W.specialIn K (.builtin "object.__class__") "__get__" = some (some (.builtin "getset_descriptor.__get__"))) && decide (PySem.W.takesIn K (.builtin "object.__class__") = some true) && decide (PySem.W.mroIn K D (.type "object") = some true) && decide (PySem.W.kitOne K (.ref D) (.ref D) = some true)
theorem excB_ok {K : PySem.W.Frag} {D : Addr} (h : excB K D = true) : L2.ExcC K D ∧ PySem.W.kitOne K (.ref D) (.ref D) = some true := by
  unfold excB at h
  simp only [Bool.and_eq_true, decide_eq_true_eq] at h
  obtain ⟨⟨⟨⟨⟨⟨⟨⟨h1, h2⟩, h3⟩, h4⟩, h5⟩, h6⟩, h7⟩, h8⟩, h9⟩ := h
  exact ⟨⟨h1, h2, h3, h4, h5, h6, h7, h8⟩, h9⟩
end Fw
end
namespace K71
open Fw PySem PySem.Spec PyProof.Rows L2
abbrev tuZ (pl : List Int) : PyData := .tuple (pl.map .int)
def shunZ : List (Str × List (List Int)) := [("one", [[3, 2, 1]]), ("corner", [[1, 3, 2]]), ("line", [[2, 1, 4, 3]]), ("smooth", [[3, 4, 1, 2], [4, 2, 3, 1]]), ("cube", [[3, 2, 1], [3, 4, 1, 2]]), ("regions", [[4, 2, 3, 1], [3, 5, 1, 4, 2], [4, 2, 5, 1, 3], [3, 5, 1, 6, 2, 4]])]
def shunD : List (Str × PyData) := shunZ.map fun q => (q.1, .tuple (q.2.map tuZ))
def wordsD : PyData := .tuple (shunZ.map fun q => .str q.1)
def topS (i : Nat) : Stmt := PySem.Challenge.pw_leastswaps_k71_whole_marks.main.body.getD i (.Pass ⟨0, 0, 0, 0⟩)
abbrev s_is_number : Stmt := topS 5
theorem sc_is_number : FnScope ["thing"] ["thing"] (defScope s_is_number) := ⟨rfl, rfl, rfl, by decide +kernel, rfl, by decide +kernel, by decide +kernel⟩
abbrev s_is_between : Stmt := topS 6
theorem sc_is_between : FnScope ["thing", "low", "high"] ["thing", "low", "high"] (defScope s_is_between) := ⟨rfl, rfl, rfl, by decide +kernel, rfl, by decide +kernel, by decide +kernel⟩
abbrev s_need_between : Stmt := topS 7
theorem sc_need_between : FnScope ["number", "low", "high", "part"] ["number", "low", "high", "part"] (defScope s_need_between) := ⟨rfl, rfl, rfl, by decide +kernel, rfl, by decide +kernel, by decide +kernel⟩
abbrev s_has_each : Stmt := topS 10
theorem sc_has_each : FnScope ["thing", "number"] ["thing"] (defScope s_has_each) := ⟨rfl, rfl, rfl, by decide +kernel, rfl, by decide +kernel, by decide +kernel⟩
abbrev s_is_row : Stmt := topS 11
theorem sc_is_row : FnScope ["thing"] ["thing"] (defScope s_is_row) := ⟨rfl, rfl, rfl, by decide +kernel, rfl, by decide +kernel, by decide +kernel⟩
abbrev s_need_row : Stmt := topS 12
theorem sc_need_row : FnScope ["row"] ["row"] (defScope s_need_row) := ⟨rfl, rfl, rfl, by decide +kernel, rfl, by decide +kernel, by decide +kernel⟩
abbrev s_undone_told : Stmt := topS 13
theorem sc_undone_told : FnScope ["row", "found", "place", "number"] ["row"] (defScope s_undone_told) := ⟨rfl, rfl, rfl, by decide +kernel, rfl, by decide +kernel, by decide +kernel⟩
abbrev s_undone_row : Stmt := topS 14
theorem sc_undone_row : FnScope ["row"] ["row"] (defScope s_undone_row) := ⟨rfl, rfl, rfl, by decide +kernel, rfl, by decide +kernel, by decide +kernel⟩
abbrev s_turned_row : Stmt := topS 15
theorem sc_turned_row : FnScope ["row"] ["row"] (defScope s_turned_row) := ⟨rfl, rfl, rfl, by decide +kernel, rfl, by decide +kernel, by decide +kernel⟩
abbrev s_upturned_row : Stmt := topS 16
theorem sc_upturned_row : FnScope ["row", "number"] ["row"] (defScope s_upturned_row) := ⟨rfl, rfl, rfl, by decide +kernel, rfl, by decide +kernel, by decide +kernel⟩
abbrev s_standing_told : Stmt := topS 18
theorem sc_standing_told : FnScope ["numbers", "number", "other"] ["numbers"] (defScope s_standing_told) := ⟨rfl, rfl, rfl, by decide +kernel, rfl, by decide +kernel, by decide +kernel⟩
abbrev s_fits_on : Stmt := topS 19
theorem sc_fits_on : FnScope ["row", "pattern", "places", "place", "at", "spot", "ahead"] ["row", "pattern", "places", "place"] (defScope s_fits_on) := ⟨rfl, rfl, rfl, by decide +kernel, rfl, by decide +kernel, by decide +kernel⟩
abbrev s_places_told : Stmt := topS 20
theorem sc_places_told : FnScope ["row", "pattern", "found", "lap", "longer", "places", "first", "place"] ["row", "pattern"] (defScope s_places_told) := ⟨rfl, rfl, rfl, by decide +kernel, rfl, by decide +kernel, by decide +kernel⟩
abbrev s_holds_told : Stmt := topS 21
theorem sc_holds_told : FnScope ["row", "pattern"] ["row", "pattern"] (defScope s_holds_told) := ⟨rfl, rfl, rfl, by decide +kernel, rfl, by decide +kernel, by decide +kernel⟩
abbrev s_taken_out : Stmt := topS 22
theorem sc_taken_out : FnScope ["row", "place"] ["row", "place"] (defScope s_taken_out) := ⟨rfl, rfl, rfl, by decide +kernel, rfl, by decide +kernel, by decide +kernel⟩
abbrev s_mark_words : Stmt := topS 26
theorem sc_mark_words : FnScope [] [] (defScope s_mark_words) := ⟨rfl, rfl, rfl, by decide +kernel, rfl, by decide +kernel, by decide +kernel⟩
abbrev s_has_mark : Stmt := topS 27
theorem sc_has_mark : FnScope ["row", "mark", "pattern"] ["row", "mark"] (defScope s_has_mark) := ⟨rfl, rfl, rfl, by decide +kernel, rfl, by decide +kernel, by decide +kernel⟩
abbrev s_marks_told : Stmt := topS 28
theorem sc_marks_told : FnScope ["row", "mark"] ["row"] (defScope s_marks_told) := ⟨rfl, rfl, rfl, by decide +kernel, rfl, by decide +kernel, by decide +kernel⟩
abbrev s_marks_of : Stmt := topS 29
theorem sc_marks_of : FnScope ["row"] ["row"] (defScope s_marks_of) := ⟨rfl, rfl, rfl, by decide +kernel, rfl, by decide +kernel, by decide +kernel⟩
abbrev s__law_begun : Stmt := topS 31
theorem sc__law_begun : FnScope ["script", "large", "cell"] ["script"] (defScope s__law_begun) := ⟨rfl, rfl, rfl, by decide +kernel, rfl, by decide +kernel, by decide +kernel⟩
abbrev s__law_blend : Stmt := topS 32
theorem sc__law_blend : FnScope ["draw", "turn", "found", "prime", "stirred", "cell"] ["draw"] (defScope s__law_blend) := ⟨rfl, rfl, rfl, by decide +kernel, rfl, by decide +kernel, by decide +kernel⟩
abbrev s__law_take : Stmt := topS 33
theorem sc__law_take : FnScope ["draw", "size", "found"] ["draw", "size"] (defScope s__law_take) := ⟨rfl, rfl, rfl, by decide +kernel, rfl, by decide +kernel, by decide +kernel⟩
abbrev s__law_pick : Stmt := topS 34
theorem sc__law_pick : FnScope ["draw", "some"] ["draw", "some"] (defScope s__law_pick) := ⟨rfl, rfl, rfl, by decide +kernel, rfl, by decide +kernel, by decide +kernel⟩
abbrev s__law_shuffled : Stmt := topS 35
theorem sc__law_shuffled : FnScope ["draw", "some", "found", "left"] ["draw", "some"] (defScope s__law_shuffled) := ⟨rfl, rfl, rfl, by decide +kernel, rfl, by decide +kernel, by decide +kernel⟩
abbrev s__law_caught : Stmt := topS 36
theorem sc__law_caught : FnScope ["work", "caught", "error"] ["work"] (defScope s__law_caught) := ⟨rfl, rfl, rfl, by decide +kernel, rfl, by decide +kernel, by decide +kernel⟩
abbrev s__law_row : Stmt := topS 37
theorem sc__law_row : FnScope ["draw", "most"] ["draw", "most"] (defScope s__law_row) := ⟨rfl, rfl, rfl, by decide +kernel, rfl, by decide +kernel, by decide +kernel⟩
abbrev s__law_shape_of : Stmt := topS 38
theorem sc__law_shape_of : FnScope ["numbers", "number", "other"] ["numbers"] (defScope s__law_shape_of) := ⟨rfl, rfl, rfl, by decide +kernel, rfl, by decide +kernel, by decide +kernel⟩
abbrev s__law_lots : Stmt := topS 39
theorem sc__law_lots : FnScope ["row", "many", "found", "number", "lot"] ["row", "many"] (defScope s__law_lots) := ⟨rfl, rfl, rfl, by decide +kernel, rfl, by decide +kernel, by decide +kernel⟩
abbrev s__law_holds : Stmt := topS 40
theorem sc__law_holds : FnScope ["row", "pattern", "lot"] ["row", "pattern"] (defScope s__law_holds) := ⟨rfl, rfl, rfl, by decide +kernel, rfl, by decide +kernel, by decide +kernel⟩
abbrev s__law_marks : Stmt := topS 41
theorem sc__law_marks : FnScope ["row", "has", "wide", "found", "pattern", "name"] ["row"] (defScope s__law_marks) := ⟨rfl, rfl, rfl, by decide +kernel, rfl, by decide +kernel, by decide +kernel⟩
abbrev s__law_same : Stmt := topS 42
theorem sc__law_same : FnScope ["told", "due"] ["told", "due"] (defScope s__law_same) := ⟨rfl, rfl, rfl, by decide +kernel, rfl, by decide +kernel, by decide +kernel⟩
abbrev s__law_wider : Stmt := topS 43
theorem sc__law_wider : FnScope ["draw", "row", "number", "spot", "led", "other"] ["draw", "row"] (defScope s__law_wider) := ⟨rfl, rfl, rfl, by decide +kernel, rfl, by decide +kernel, by decide +kernel⟩
abbrev s__law_some_row : Stmt := topS 44
theorem sc__law_some_row : FnScope ["draw", "way", "found", "lap"] ["draw"] (defScope s__law_some_row) := ⟨rfl, rfl, rfl, by decide +kernel, rfl, by decide +kernel, by decide +kernel⟩
abbrev s__law_one_right : Stmt := topS 45
theorem sc__law_one_right : FnScope ["draw", "row", "due", "about", "place", "number", "word"] ["draw"] (defScope s__law_one_right) := ⟨rfl, rfl, rfl, by decide +kernel, rfl, by decide +kernel, by decide +kernel⟩
abbrev s_law : Stmt := topS 46
theorem sc_law : FnScope ["script", "draw", "words", "lap", "odd"] ["script"] (defScope s_law) := ⟨rfl, rfl, rfl, by decide +kernel, rfl, by decide +kernel, by decide +kernel⟩
structure Tx (w : World) (K : PySem.W.Frag) (mg : Str → Option Value) : Type where
  a_is_number : Addr
  fd_is_number : FuncData
  F_is_number : Fun K "is_number" "is_number" s_is_number a_is_number fd_is_number
  g_is_number : mg "is_number" = some (.ref a_is_number)
  a_is_between : Addr
  fd_is_between : FuncData
  F_is_between : Fun K "is_between" "is_between" s_is_between a_is_between fd_is_between
  g_is_between : mg "is_between" = some (.ref a_is_between)
  a_need_between : Addr
  fd_need_between : FuncData
  F_need_between : Fun K "need_between" "need_between" s_need_between a_need_between fd_need_between
  g_need_between : mg "need_between" = some (.ref a_need_between)
  a_has_each : Addr
  fd_has_each : FuncData
  F_has_each : Fun K "has_each" "has_each" s_has_each a_has_each fd_has_each
  g_has_each : mg "has_each" = some (.ref a_has_each)
  a_is_row : Addr
  fd_is_row : FuncData
  F_is_row : Fun K "is_row" "is_row" s_is_row a_is_row fd_is_row
  g_is_row : mg "is_row" = some (.ref a_is_row)
  a_need_row : Addr
  fd_need_row : FuncData
  F_need_row : Fun K "need_row" "need_row" s_need_row a_need_row fd_need_row
  g_need_row : mg "need_row" = some (.ref a_need_row)
  a_undone_told : Addr
  fd_undone_told : FuncData
  F_undone_told : Fun K "undone_told" "undone_told" s_undone_told a_undone_told fd_undone_told
  g_undone_told : mg "undone_told" = some (.ref a_undone_told)
  a_undone_row : Addr
  fd_undone_row : FuncData
  F_undone_row : Fun K "undone_row" "undone_row" s_undone_row a_undone_row fd_undone_row
  g_undone_row : mg "undone_row" = some (.ref a_undone_row)
  a_turned_row : Addr
  fd_turned_row : FuncData
  F_turned_row : Fun K "turned_row" "turned_row" s_turned_row a_turned_row fd_turned_row
  g_turned_row : mg "turned_row" = some (.ref a_turned_row)
  a_upturned_row : Addr
  fd_upturned_row : FuncData
  F_upturned_row : Fun K "upturned_row" "upturned_row" s_upturned_row a_upturned_row fd_upturned_row
  g_upturned_row : mg "upturned_row" = some (.ref a_upturned_row)
  a_standing_told : Addr
  fd_standing_told : FuncData
  F_standing_told : Fun K "standing_told" "standing_told" s_standing_told a_standing_told fd_standing_told
  g_standing_told : mg "standing_told" = some (.ref a_standing_told)
  a_fits_on : Addr
  fd_fits_on : FuncData
  F_fits_on : Fun K "fits_on" "fits_on" s_fits_on a_fits_on fd_fits_on
  g_fits_on : mg "fits_on" = some (.ref a_fits_on)
  a_places_told : Addr
  fd_places_told : FuncData
  F_places_told : Fun K "places_told" "places_told" s_places_told a_places_told fd_places_told
  g_places_told : mg "places_told" = some (.ref a_places_told)
  a_holds_told : Addr
  fd_holds_told : FuncData
  F_holds_told : Fun K "holds_told" "holds_told" s_holds_told a_holds_told fd_holds_told
  g_holds_told : mg "holds_told" = some (.ref a_holds_told)
  a_taken_out : Addr
  fd_taken_out : FuncData
  F_taken_out : Fun K "taken_out" "taken_out" s_taken_out a_taken_out fd_taken_out
  g_taken_out : mg "taken_out" = some (.ref a_taken_out)
  a_mark_words : Addr
  fd_mark_words : FuncData
  F_mark_words : Fun K "mark_words" "mark_words" s_mark_words a_mark_words fd_mark_words
  g_mark_words : mg "mark_words" = some (.ref a_mark_words)
  a_has_mark : Addr
  fd_has_mark : FuncData
  F_has_mark : Fun K "has_mark" "has_mark" s_has_mark a_has_mark fd_has_mark
  g_has_mark : mg "has_mark" = some (.ref a_has_mark)
  a_marks_told : Addr
  fd_marks_told : FuncData
  F_marks_told : Fun K "marks_told" "marks_told" s_marks_told a_marks_told fd_marks_told
  g_marks_told : mg "marks_told" = some (.ref a_marks_told)
  a_marks_of : Addr
  fd_marks_of : FuncData
  F_marks_of : Fun K "marks_of" "marks_of" s_marks_of a_marks_of fd_marks_of
  g_marks_of : mg "marks_of" = some (.ref a_marks_of)
  a__law_begun : Addr
  fd__law_begun : FuncData
  F__law_begun : Fun K "_law_begun" "_law_begun" s__law_begun a__law_begun fd__law_begun
  g__law_begun : mg "_law_begun" = some (.ref a__law_begun)
  a__law_blend : Addr
  fd__law_blend : FuncData
  F__law_blend : Fun K "_law_blend" "_law_blend" s__law_blend a__law_blend fd__law_blend
  g__law_blend : mg "_law_blend" = some (.ref a__law_blend)
  a__law_take : Addr
  fd__law_take : FuncData
  F__law_take : Fun K "_law_take" "_law_take" s__law_take a__law_take fd__law_take
  g__law_take : mg "_law_take" = some (.ref a__law_take)
  a__law_pick : Addr
  fd__law_pick : FuncData
  F__law_pick : Fun K "_law_pick" "_law_pick" s__law_pick a__law_pick fd__law_pick
  g__law_pick : mg "_law_pick" = some (.ref a__law_pick)
  a__law_shuffled : Addr
  fd__law_shuffled : FuncData
  F__law_shuffled : Fun K "_law_shuffled" "_law_shuffled" s__law_shuffled a__law_shuffled fd__law_shuffled
  g__law_shuffled : mg "_law_shuffled" = some (.ref a__law_shuffled)
  a__law_caught : Addr
  fd__law_caught : FuncData
  F__law_caught : Fun K "_law_caught" "_law_caught" s__law_caught a__law_caught fd__law_caught
  g__law_caught : mg "_law_caught" = some (.ref a__law_caught)
  a__law_row : Addr
  fd__law_row : FuncData
  F__law_row : Fun K "_law_row" "_law_row" s__law_row a__law_row fd__law_row
  g__law_row : mg "_law_row" = some (.ref a__law_row)
  a__law_shape_of : Addr
  fd__law_shape_of : FuncData
  F__law_shape_of : Fun K "_law_shape_of" "_law_shape_of" s__law_shape_of a__law_shape_of fd__law_shape_of
  g__law_shape_of : mg "_law_shape_of" = some (.ref a__law_shape_of)
  a__law_lots : Addr
  fd__law_lots : FuncData
  F__law_lots : Fun K "_law_lots" "_law_lots" s__law_lots a__law_lots fd__law_lots
  g__law_lots : mg "_law_lots" = some (.ref a__law_lots)
  a__law_holds : Addr
  fd__law_holds : FuncData
  F__law_holds : Fun K "_law_holds" "_law_holds" s__law_holds a__law_holds fd__law_holds
  g__law_holds : mg "_law_holds" = some (.ref a__law_holds)
  a__law_marks : Addr
  fd__law_marks : FuncData
  F__law_marks : Fun K "_law_marks" "_law_marks" s__law_marks a__law_marks fd__law_marks
  g__law_marks : mg "_law_marks" = some (.ref a__law_marks)
  a__law_same : Addr
  fd__law_same : FuncData
  F__law_same : Fun K "_law_same" "_law_same" s__law_same a__law_same fd__law_same
  g__law_same : mg "_law_same" = some (.ref a__law_same)
  a__law_wider : Addr
  fd__law_wider : FuncData
  F__law_wider : Fun K "_law_wider" "_law_wider" s__law_wider a__law_wider fd__law_wider
  g__law_wider : mg "_law_wider" = some (.ref a__law_wider)
  a__law_some_row : Addr
  fd__law_some_row : FuncData
  F__law_some_row : Fun K "_law_some_row" "_law_some_row" s__law_some_row a__law_some_row fd__law_some_row
  g__law_some_row : mg "_law_some_row" = some (.ref a__law_some_row)
  a__law_one_right : Addr
  fd__law_one_right : FuncData
  F__law_one_right : Fun K "_law_one_right" "_law_one_right" s__law_one_right a__law_one_right fd__law_one_right
  g__law_one_right : mg "_law_one_right" = some (.ref a__law_one_right)
  a_law : Addr
  fd_law : FuncData
  F_law : Fun K "law" "law" s_law a_law fd_law
  g_law : mg "law" = some (.ref a_law)
  z_abs : mg "abs" = none
  z_all : mg "all" = none
  z_any : mg "any" = none
  z_bool : mg "bool" = none
  z_dict : mg "dict" = none
  z_enumerate : mg "enumerate" = none
  z_int : mg "int" = none
  z_isinstance : mg "isinstance" = none
  z_len : mg "len" = none
  z_list : mg "list" = none
  z_min : mg "min" = none
  z_range : mg "range" = none
  z_repr : mg "repr" = none
  z_set : mg "set" = none
  z_tuple : mg "tuple" = none
  c_BadRow : Addr
  x_BadRow : ExcC K mg "BadRow" c_BadRow
  v_MOST_SEATS : ∃ t, mg "MOST_SEATS" = some (.int 8 t)
  a_MARKS : Addr
  v_MARKS : mg "MARKS" = some (.ref a_MARKS)
  d_MARKS : Dd K (fun _ => none) (.ref a_MARKS) wordsD
  a_SHUNNED : Addr
  v_SHUNNED : mg "SHUNNED" = some (.ref a_SHUNNED)
  d_SHUNNED : TabOk K w a_SHUNNED shunD
  g_BadRow : mg "BadRow" = some (.ref c_BadRow)
  c_SwapError : Addr
  g_SwapError : mg "SwapError" = some (.ref c_SwapError)
  e_BadRow : L2.ExcC K c_BadRow
  m_BadRow : PySem.W.exmOne K (.ref c_BadRow) (.ref c_SwapError) = some true
  k_BadRow : PySem.W.kitOne K (.ref c_BadRow) (.ref c_BadRow) = some true
section
variable {w : World} {K : PySem.W.Frag} {mg : Str → Option Value}
theorem Tx.b_is_number (T : Tx w K mg) : Binds K T.fd_is_number ["thing"] [] := T.F_is_number.binds (ps := ["thing"]) fun _ _ _ _ _ _ us hl => match us, hl with | [_], _ => rfl
theorem Tx.b_is_between (T : Tx w K mg) : Binds K T.fd_is_between ["thing", "low", "high"] [] := T.F_is_between.binds (ps := ["thing", "low", "high"]) fun _ _ _ _ _ _ us hl => match us, hl with | [_, _, _], _ => rfl
theorem Tx.b_need_between (T : Tx w K mg) : Binds K T.fd_need_between ["number", "low", "high", "part"] [] := T.F_need_between.binds (ps := ["number", "low", "high", "part"]) fun _ _ _ _ _ _ us hl => match us, hl with | [_, _, _, _], _ => rfl
theorem Tx.b_has_each (T : Tx w K mg) : Binds K T.fd_has_each ["thing"] [] := T.F_has_each.binds (ps := ["thing"]) fun _ _ _ _ _ _ us hl => match us, hl with | [_], _ => rfl
theorem Tx.b_is_row (T : Tx w K mg) : Binds K T.fd_is_row ["thing"] [] := T.F_is_row.binds (ps := ["thing"]) fun _ _ _ _ _ _ us hl => match us, hl with | [_], _ => rfl
theorem Tx.b_need_row (T : Tx w K mg) : Binds K T.fd_need_row ["row"] [] := T.F_need_row.binds (ps := ["row"]) fun _ _ _ _ _ _ us hl => match us, hl with | [_], _ => rfl
theorem Tx.b_undone_told (T : Tx w K mg) : Binds K T.fd_undone_told ["row"] [] := T.F_undone_told.binds (ps := ["row"]) fun _ _ _ _ _ _ us hl => match us, hl with | [_], _ => rfl
theorem Tx.b_undone_row (T : Tx w K mg) : Binds K T.fd_undone_row ["row"] [] := T.F_undone_row.binds (ps := ["row"]) fun _ _ _ _ _ _ us hl => match us, hl with | [_], _ => rfl
theorem Tx.b_turned_row (T : Tx w K mg) : Binds K T.fd_turned_row ["row"] [] := T.F_turned_row.binds (ps := ["row"]) fun _ _ _ _ _ _ us hl => match us, hl with | [_], _ => rfl
theorem Tx.b_upturned_row (T : Tx w K mg) : Binds K T.fd_upturned_row ["row"] [] := T.F_upturned_row.binds (ps := ["row"]) fun _ _ _ _ _ _ us hl => match us, hl with | [_], _ => rfl
theorem Tx.b_standing_told (T : Tx w K mg) : Binds K T.fd_standing_told ["numbers"] [] := T.F_standing_told.binds (ps := ["numbers"]) fun _ _ _ _ _ _ us hl => match us, hl with | [_], _ => rfl
theorem Tx.b_fits_on (T : Tx w K mg) : Binds K T.fd_fits_on ["row", "pattern", "places", "place"] [] := T.F_fits_on.binds (ps := ["row", "pattern", "places", "place"]) fun _ _ _ _ _ _ us hl => match us, hl with | [_, _, _, _], _ => rfl
theorem Tx.b_places_told (T : Tx w K mg) : Binds K T.fd_places_told ["row", "pattern"] [] := T.F_places_told.binds (ps := ["row", "pattern"]) fun _ _ _ _ _ _ us hl => match us, hl with | [_, _], _ => rfl
theorem Tx.b_holds_told (T : Tx w K mg) : Binds K T.fd_holds_told ["row", "pattern"] [] := T.F_holds_told.binds (ps := ["row", "pattern"]) fun _ _ _ _ _ _ us hl => match us, hl with | [_, _], _ => rfl
theorem Tx.b_taken_out (T : Tx w K mg) : Binds K T.fd_taken_out ["row", "place"] [] := T.F_taken_out.binds (ps := ["row", "place"]) fun _ _ _ _ _ _ us hl => match us, hl with | [_, _], _ => rfl
theorem Tx.b_mark_words (T : Tx w K mg) : Binds K T.fd_mark_words [] [] := T.F_mark_words.binds (ps := []) fun _ _ _ _ _ _ us hl => match us, hl with | [], _ => rfl
theorem Tx.b_has_mark (T : Tx w K mg) : Binds K T.fd_has_mark ["row", "mark"] [] := T.F_has_mark.binds (ps := ["row", "mark"]) fun _ _ _ _ _ _ us hl => match us, hl with | [_, _], _ => rfl
theorem Tx.b_marks_told (T : Tx w K mg) : Binds K T.fd_marks_told ["row"] [] := T.F_marks_told.binds (ps := ["row"]) fun _ _ _ _ _ _ us hl => match us, hl with | [_], _ => rfl
theorem Tx.b_marks_of (T : Tx w K mg) : Binds K T.fd_marks_of ["row"] [] := T.F_marks_of.binds (ps := ["row"]) fun _ _ _ _ _ _ us hl => match us, hl with | [_], _ => rfl
theorem Tx.b__law_begun (T : Tx w K mg) : Binds K T.fd__law_begun ["script"] [] := T.F__law_begun.binds (ps := ["script"]) fun _ _ _ _ _ _ us hl => match us, hl with | [_], _ => rfl
theorem Tx.b__law_blend (T : Tx w K mg) : Binds K T.fd__law_blend ["draw"] [] := T.F__law_blend.binds (ps := ["draw"]) fun _ _ _ _ _ _ us hl => match us, hl with | [_], _ => rfl
theorem Tx.b__law_take (T : Tx w K mg) : Binds K T.fd__law_take ["draw", "size"] [] := T.F__law_take.binds (ps := ["draw", "size"]) fun _ _ _ _ _ _ us hl => match us, hl with | [_, _], _ => rfl
theorem Tx.b__law_pick (T : Tx w K mg) : Binds K T.fd__law_pick ["draw", "some"] [] := T.F__law_pick.binds (ps := ["draw", "some"]) fun _ _ _ _ _ _ us hl => match us, hl with | [_, _], _ => rfl
theorem Tx.b__law_shuffled (T : Tx w K mg) : Binds K T.fd__law_shuffled ["draw", "some"] [] := T.F__law_shuffled.binds (ps := ["draw", "some"]) fun _ _ _ _ _ _ us hl => match us, hl with | [_, _], _ => rfl
theorem Tx.b__law_caught (T : Tx w K mg) : Binds K T.fd__law_caught ["work"] [] := T.F__law_caught.binds (ps := ["work"]) fun _ _ _ _ _ _ us hl => match us, hl with | [_], _ => rfl
theorem Tx.b__law_row (T : Tx w K mg) : Binds K T.fd__law_row ["draw", "most"] [] := T.F__law_row.binds (ps := ["draw", "most"]) fun _ _ _ _ _ _ us hl => match us, hl with | [_, _], _ => rfl
theorem Tx.b__law_shape_of (T : Tx w K mg) : Binds K T.fd__law_shape_of ["numbers"] [] := T.F__law_shape_of.binds (ps := ["numbers"]) fun _ _ _ _ _ _ us hl => match us, hl with | [_], _ => rfl
theorem Tx.b__law_lots (T : Tx w K mg) : Binds K T.fd__law_lots ["row", "many"] [] := T.F__law_lots.binds (ps := ["row", "many"]) fun _ _ _ _ _ _ us hl => match us, hl with | [_, _], _ => rfl
theorem Tx.b__law_holds (T : Tx w K mg) : Binds K T.fd__law_holds ["row", "pattern"] [] := T.F__law_holds.binds (ps := ["row", "pattern"]) fun _ _ _ _ _ _ us hl => match us, hl with | [_, _], _ => rfl
theorem Tx.b__law_marks (T : Tx w K mg) : Binds K T.fd__law_marks ["row"] [] := T.F__law_marks.binds (ps := ["row"]) fun _ _ _ _ _ _ us hl => match us, hl with | [_], _ => rfl
theorem Tx.b__law_same (T : Tx w K mg) : Binds K T.fd__law_same ["told", "due"] [] := T.F__law_same.binds (ps := ["told", "due"]) fun _ _ _ _ _ _ us hl => match us, hl with | [_, _], _ => rfl
theorem Tx.b__law_wider (T : Tx w K mg) : Binds K T.fd__law_wider ["draw", "row"] [] := T.F__law_wider.binds (ps := ["draw", "row"]) fun _ _ _ _ _ _ us hl => match us, hl with | [_, _], _ => rfl
theorem Tx.b__law_some_row (T : Tx w K mg) : Binds K T.fd__law_some_row ["draw"] [] := T.F__law_some_row.binds (ps := ["draw"]) fun _ _ _ _ _ _ us hl => match us, hl with | [_], _ => rfl
theorem Tx.b__law_one_right (T : Tx w K mg) : Binds K T.fd__law_one_right ["draw"] [] := T.F__law_one_right.binds (ps := ["draw"]) fun _ _ _ _ _ _ us hl => match us, hl with | [_], _ => rfl
theorem Tx.b_law (T : Tx w K mg) : Binds K T.fd_law ["script"] [] := T.F_law.binds (ps := ["script"]) fun _ _ _ _ _ _ us hl => match us, hl with | [_], _ => rfl
end
end K71
namespace K71
open Fw PySem PySem.Spec PyProof.Rows L2
local macro_rules | `(tactic| tm_at "one") => `(tactic| first
  | with_reducible exact ee_int
  | with_reducible exact ee_str
  | with_reducible exact ee_bl
  | with_reducible exact ee_non
  | ((with_reducible refine' ee_var ?hv); case hv => rfl)
  | ((with_reducible refine' ee_own ?hv); case hv => rfl)
  | with_reducible refine' ee_andV ?_ (fun hAnd => ?_)
  | with_reducible refine' ee_orV ?_ (fun hOr => ?_)
  | with_reducible refine' ee_notV ?_
  | with_reducible refine' ee_if ?_ (fun hIf => ?_) (fun hIf => ?_)
  | with_reducible refine' te_B ?_
  | with_reducible refine' te_test ?_
  | with_reducible refine' te_and ?_ (fun hAnd => ?_)
  | with_reducible refine' te_or ?_ (fun hOr => ?_)
  | with_reducible refine' te_not ?_
  | with_reducible exact te_yes
  | with_reducible refine' ee_chain ?_ ?_ ?_ (fun hCh => ?_) (fun hCh => ?_)
  | with_reducible refine' ee_isInt ?_
  | with_reducible refine' ee_isBool ?_
  | with_reducible refine' ee_isStr ?_
  | with_reducible refine' ee_isTup ?_
  | with_reducible refine' ee_isLst ?_
  | with_reducible refine' ee_neg ?_
  | with_reducible refine' ee_revT ?_
  | with_reducible refine' ee_opC ?_ ?_
  | with_reducible refine' ee_opE ?_ ?_ ?_
  | with_reducible refine' ee_opN ?_ ?_ ?_
  | with_reducible refine' ee_op ?_ ?_ ?_
  | with_reducible refine' ee_sl ?_ ?_ ?_ ?_
  | with_reducible exact oe_none
  | with_reducible refine' oe_some ?_
  | with_reducible refine' ee_len ?_ ?_
  | with_reducible refine' ee_tup ?_ ?_
  | with_reducible refine' LEv.eed (le_lst ?_ ?_)
  | with_reducible refine' le_lst ?_ ?_
  | with_reducible refine' ee_cb ?_ ?_
  | with_reducible exact de_nil
  | with_reducible refine' de_cons ?_ ?_
  | with_reducible refine' de_star ?_ ?_
  | with_reducible exact ae_nil
  | ((with_reducible refine' ae_raw ?hv ?_); case hv => rfl)
  | with_reducible refine' ae_cons ?_ ?_
  | with_reducible exact rv_addI
  | with_reducible refine' rv_addL ?_
  | with_reducible refine' rv_addT ?_
  | with_reducible refine' rv_addS ?_
  | with_reducible refine' rv_I0 (.int _)
  | with_reducible refine' rv_I0 (.bl _)
  | with_reducible refine' rv_eq ?_ ?_
  | with_reducible refine' rv_ne ?_ ?_
  | with_reducible exact rv_isN
  | with_reducible exact rv_notN
  | with_reducible refine' rv_ixL ?_
  | with_reducible refine' rv_ixT ?_
  | with_reducible exact sv_L
  | with_reducible exact sv_T
  | with_reducible refine' sv_S ?_
  | with_reducible exact rc_lenL
  | with_reducible exact rc_lenT
  | with_reducible exact rc_tupL
  | with_reducible exact rc_tupT
  | with_reducible exact rc_int1
  | with_reducible exact rc_all
  | with_reducible exact rc_any
  | with_reducible refine' ie_list ?_
  | with_reducible refine' ie_tup ?_
  | with_reducible refine' ie_range1 ?_ ?_
  | with_reducible refine' ie_range2 ?_ ?_
  | with_reducible refine' ie_enum0 ?_
  | with_reducible refine' ie_enum1 ?_ ?_
  | with_reducible refine' ie_str ?_)
local macro_rules | `(tactic| tm_at "ev") => `(tactic| repeat' tm_at "one")
local macro_rules | `(tactic| tm_at "go") => `(tactic| dsimp only [padN, poOf, FSp.fn, nox_K, cx_K, List.set])
section
variable {P : Program} {w : World} {K : PySem.W.Frag} {mg : Str → Option Value} {base : Heap}
def isIntD : PyData → Bool
  | .int _ => true
  | _ => false
abbrev sp_is_number : FSp := .fn (fun x : PyData => [.d x]) (fun _ => True) fun x => .bool (isIntD x)
theorem ok_is_number (T : Tx w K mg) : FnOk P w K mg base CX0 1 T.a_is_number T.fd_is_number ["thing"] (SpF (.pure K) sp_is_number) := by
  refine fn_ok T.F_is_number sc_is_number (fun _ => rfl) fun cdv A outer s H E hr => ⟨_, (pss_one (ps_ret (pe_and (pe_callB (k_isi (K := K) rfl) (by rfl) T.z_isinstance bt_isinstance (pa_cons (pv 0) (pa_cons (pe_bltn (v := .ty "int") (by rfl) T.z_int (by decide +kernel) rfl) pa_nil))) (pe_one (pe_not (pe_callB (k_isi (K := K) rfl) (by rfl) T.z_isinstance bt_isinstance (pa_cons (pv 0) (pa_cons (pe_bltn (v := .ty "bool") (by rfl) T.z_bool (by decide +kernel) rfl) pa_nil)))))))), ?_⟩
  intro x hx
  tm_at "go"
  refine' se_retD (b := false) ?_ ?_
  tm_at "ev"
  cases x <;> rfl
--EV ev_is_number 1
theorem ev_is_number {pm : Pm} {env : List Ent} {b : Bool} {E : XK} {ta : TE} {x : PyData} (ha : EEd pm b ta env x) : EEd pm false (tCall (SpF (.pure pm.K) sp_is_number) [] E (tCons ta tNil)) env (.bool (isIntD x)) :=
  ee_fns x (ae_consw ha ae_nil) trivial rfl

local macro_rules | `(tactic| tm_at "one") => `(tactic| first
  | with_reducible refine' ev_is_number ?_)
def betw (x : PyData) (lo hi : Int) : Bool := match x with
  | .int i => decide (lo ≤ i) && decide (i ≤ hi)
  | _ => false
abbrev sp_is_between : FSp := .fn (fun x : PyData × Int × Int => [.d x.1, .d (.int x.2.1), .d (.int x.2.2)]) (fun _ => True) fun x => .bool (betw x.1 x.2.1 x.2.2)
theorem ok_is_between (T : Tx w K mg) : FnOk P w K mg base CX0 2 T.a_is_between T.fd_is_between ["thing", "low", "high"] (SpF (.pure K) sp_is_between) := by
  refine fn_ok T.F_is_between sc_is_between (fun _ => rfl) fun cdv A outer s H E hr => ⟨_, (pss_one (ps_ret (pe_and (pe_call (ok_is_number T) hr (by rfl) T.g_is_number T.F_is_number.kp T.b_is_number .nil pass0 (pa_cons (pv 0) pa_nil)) (pe_one (pe_chain op_le op_le (pv 1) (pv 0) (pv 2)))))), ?_⟩
  rintro ⟨x, lo, hi⟩ hx
  tm_at "go"
  by_cases hi' : ∃ i, x = .int i
  · obtain ⟨i, rfl⟩ := hi'
    refine' se_retD (b := false) ?_ ?_
    tm_at "ev"
    rfl
  · have e : isIntD x = false := by
      cases x <;> first | rfl | exact absurd ⟨_, rfl⟩ hi'
    refine' se_retD (ee_and_false (EEv.is (ev_is_number (ee_var rfl)) (by rw [e]))) ?_
    cases x <;> first | rfl | exact absurd ⟨_, rfl⟩ hi'
--EV ev_is_between 3
theorem ev_is_between {pm : Pm} {env : List Ent} {b1 b2 b3 : Bool} {E : XK} {ta tb tc : TE} {x : PyData} {lo hi : Int} (ha : EEd pm b1 ta env x) (hb : EEd pm b2 tb env (.int lo)) (hc : EEd pm b3 tc env (.int hi)) :
    EEd pm false (tCall (SpF (.pure pm.K) sp_is_between) [] E (tCons ta (tCons tb (tCons tc tNil)))) env (.bool (betw x lo hi)) :=
  ee_fns (x, lo, hi) (ae_consw ha (ae_consw hb (ae_consw hc ae_nil))) trivial rfl

local macro_rules | `(tactic| tm_at "one") => `(tactic| first
  | with_reducible refine' ev_is_between ?_ ?_ ?_)
abbrev sp_need_between : FSp := .fn (fun x : PyData × Int × Int × PyData => [.d x.1, .d (.int x.2.1), .d (.int x.2.2.1), .d x.2.2.2]) (fun x => betw x.1 x.2.1 x.2.2.1 = true) fun _ => .none
theorem ok_need_between (T : Tx w K mg) : FnOk P w K mg base CX0 3 T.a_need_between T.fd_need_between ["number", "low", "high", "part"] (SpF (.pure K) sp_need_between) := by
  refine fn_ok T.F_need_between sc_need_between (fun _ => rfl) fun cdv A outer s H E hr => ⟨_, (pss_one (ps_if (pt_not (pt_val (pe_call (ok_is_between T) hr (by rfl) T.g_is_between T.F_is_between.kp T.b_is_between .nil pass0 (pa_cons (pv 0) (pa_cons (pv 1) (pa_cons (pv 2) pa_nil)))))) (pss_one ps_never) pss_nil)), ?_⟩
  rintro ⟨x, lo, hi, s⟩ hx
  tm_at "go"
  have hx : betw x lo hi = true := hx
  refine' se_if (k := false) (TEv.is (te_not (te_B (ev_is_between (ee_var rfl) (ee_var rfl) (ee_var rfl)))) (by rw [hx]; rfl)) (fun h => nomatch h) (fun _ => se_next rfl)
--EV ev_need_between 5
theorem ev_need_between {pm : Pm} {env : List Ent} {b1 b2 b3 b4 : Bool} {E : XK} {ta tb tc td : TE} {x s : PyData} {lo hi : Int} (ha : EEd pm b1 ta env x) (hb : EEd pm b2 tb env (.int lo)) (hc : EEd pm b3 tc env (.int hi)) (hd : EEd pm b4 td env s) (h : betw x lo hi = true) :
    EEd pm false (tCall (SpF (.pure pm.K) sp_need_between) [] E (tCons ta (tCons tb (tCons tc (tCons td tNil))))) env .none :=
  ee_fns (x, lo, hi, s) (ae_consw ha (ae_consw hb (ae_consw hc (ae_consw hd ae_nil)))) h rfl

local macro_rules | `(tactic| tm_at "one") => `(tactic| first
  | with_reducible refine' ev_need_between ?_ ?_ ?_ ?_ ?_)
def intsOf (ds : List PyData) : List Int := ds.filterMap fun | .int i => some i | _ => none
def eachD (ds : List PyData) : Bool := ds.all (fun d => betw d 1 ds.length) && decide (intsOf ds).Nodup
theorem intsOf_map (ns : List Int) : intsOf (ns.map .int) = ns := by
  unfold intsOf
  rw [List.filterMap_map]
  exact List.filterMap_some
theorem all_ints {ds : List PyData} {lo hi : Int} (h : ds.all (fun d => betw d lo hi) = true) : ds = (intsOf ds).map .int := by
  induction ds with
  | nil => rfl
  | cons d ds ih =>
    rw [List.all_cons, Bool.and_eq_true] at h
    have ih := ih h.2
    cases d with
    | int i => exact congrArg (PyData.int i :: ·) ih
    | _ => exact absurd h.1 (by simp [betw])
theorem eqv_int (i j : Int) : PyData.eqv (.int i) (.int j) = decide (i = j) := by
  unfold PyData.eqv
  by_cases h : i = j <;> simp [h]
abbrev sp_has_each : FSp := .fn (fun ds : List PyData => [.d (.tuple ds)]) (fun ds => ds.length ≤ 4000) fun ds => .bool (eachD ds)
theorem ok_has_each (T : Tx w K mg) : FnOk P w K mg base CX0 3 T.a_has_each T.fd_has_each ["thing"] (SpF (.pure K) sp_has_each) := by
  refine fn_ok T.F_has_each sc_has_each (fun _ => rfl) fun cdv A outer s H E hr => ⟨_, (pss_one (ps_ret (pe_and (pe_callB (k_all (K := K) rfl rfl) (by rfl) T.z_all bt_all (pa_cons (pe_lc (own := [("number", 1)]) (g := gName 1) rfl sc_has_each.nd (k_seq (K := K) rfl (pv 0)) (blkOk_by (by kernel_rfl)) (fun _ _ _ _ _ => (pg_name (i := 1) sc_has_each.nd rfl (Or.inl rfl))) (fun _ _ _ _ _ => pts_nil) (fun _ _ _ _ _ => (pe_call (ok_is_between T) hr (by rfl) T.g_is_between T.F_is_between.kp T.b_is_between .nil pass0 (pa_cons (pv 1) (pa_cons pe_int (pa_cons (pe_callB (k_len (K := K) rfl) (by rfl) T.z_len bt_len (pa_cons (pv 0) pa_nil)) pa_nil)))))) pa_nil)) (pe_one (pe_cmpR (k_eq (K := K) rfl hr.units) (k_lenSet (K := K) rfl rfl (by rfl) T.z_len (by rfl) T.z_set (pv 0)) (pe_callB (k_len (K := K) rfl) (by rfl) T.z_len bt_len (pa_cons (pv 0) pa_nil)) (nomark _)))))), ?_⟩
  intro ds hx
  tm_at "go"
  have hx : ds.length ≤ 4000 := hx
  have hz : ds.length ≤ sizeLine := by rw [sizeLine_eq]; omega
  by_cases ha : ds.all (fun d => betw d 1 ds.length) = true
  · obtain ⟨ns, rfl⟩ : ∃ ns : List Int, ds = ns.map .int := ⟨_, all_ints ha⟩
    have h2 : EEv (Pm.pure K) false (tOp (rEqD K) (tLenSetT K (tVar 0)) (tCB (rLenD K) (tCons (tVar 0) tNil))) [Ent.d (.tuple (ns.map .int)), .un] (fun z => z = .bool (decide ns.Nodup)) := by
      refine ee_opG (P := .pure K) (ee_lenSetT (ee_var rfl) (by simpa using hx)) (ee_len (ee_var rfl) (.tuple _)) ?_
      rintro _ _ ⟨c, rfl, hc⟩ rfl
      refine ⟨_, rfl, ?_⟩
      have e : PyData.eqv (.int c) (.int ((ns.map PyData.int).length : Int)) = decide ns.Nodup := by
        rw [eqv_int, List.length_map]
        by_cases hn : ns.Nodup
        · rw [decide_eq_true hn, decide_eq_true (by rw [hc.mpr hn])]
        · rw [decide_eq_false hn, decide_eq_false (fun z => hn (hc.mp (by omega)))]
      rw [← e]
      exact rv_eq rfl rfl
    refine' se_retD (b := false) (ee_andV (ee_allQ (q := fun d => betw d 1 (ns.map PyData.int).length) (LEv.eed (le_lc1Y (em := id) (ns := (ns.map PyData.int)) (by rw [List.map_id]; exact ie_tup (ee_var rfl)) rfl (fun x _ => ev_is_between (ee_var rfl) ee_int (ee_len (ee_var rfl) (.tuple (ns.map PyData.int)))) hz))) fun _ => h2) ?_
    show PyData.bool _ = PyData.bool _
    unfold eachD
    rw [intsOf_map]
  · have ha : ds.all (fun d => betw d 1 ds.length) = false := by simpa using ha
    refine' se_retD (b := false) (ee_and_false (EEv.is (ee_allQ (q := fun d => betw d 1 ds.length) (LEv.eed (le_lc1Y (em := id) (ns := ds) (by rw [List.map_id]; exact ie_tup (ee_var rfl)) rfl (fun x _ => ev_is_between (ee_var rfl) ee_int (ee_len (ee_var rfl) (.tuple ds))) hz))) (by rw [ha]))) ?_
    show PyData.bool false = PyData.bool _
    unfold eachD
    rw [ha]
    rfl
--EV ev_has_each 2
theorem ev_has_each {pm : Pm} {env : List Ent} {b : Bool} {E : XK} {ta : TE} {ds : List PyData} (ha : EEd pm b ta env (.tuple ds)) (h : ds.length ≤ 4000) : EEd pm false (tCall (SpF (.pure pm.K) sp_has_each) [] E (tCons ta tNil)) env (.bool (eachD ds)) :=
  ee_fns ds (ae_consw ha ae_nil) h rfl

local macro_rules | `(tactic| tm_at "one") => `(tactic| first
  | with_reducible refine' ev_has_each ?_ ?_)
def isRowD : PyData → Bool
  | .tuple ds => decide (1 ≤ ds.length) && decide (ds.length ≤ 8) && eachD ds
  | _ => false
abbrev sp_is_row : FSp := .fn (fun x : PyData => [.d x]) (fun _ => True) fun x => .bool (isRowD x)
theorem ok_is_row (T : Tx w K mg) : FnOk P w K mg base CX0 4 T.a_is_row T.fd_is_row ["thing"] (SpF (.pure K) sp_is_row) := by
  refine fn_ok T.F_is_row sc_is_row (fun _ => rfl) fun cdv A outer s H E hr => ⟨_, (pss_one (ps_ret (pe_and (pe_callB (k_isi (K := K) rfl) (by rfl) T.z_isinstance bt_isinstance (pa_cons (pv 0) (pa_cons (pe_bltn (v := .ty "tuple") (by rfl) T.z_tuple (by decide +kernel) rfl) pa_nil))) (pe_and (pe_chain op_le op_le pe_int (pe_callB (k_len (K := K) rfl) (by rfl) T.z_len bt_len (pa_cons (pv 0) pa_nil)) (pe_glob (v := .int 8) (by rfl) (Classical.choose_spec T.v_MOST_SEATS) ⟨_, rfl⟩)) (pe_one (pe_call (ok_has_each T) hr (by rfl) T.g_has_each T.F_has_each.kp T.b_has_each .nil pass0 (pa_cons (pv 0) pa_nil))))))), ?_⟩
  intro x hx
  tm_at "go"
  by_cases ht : ∃ ds, x = .tuple ds
  · obtain ⟨ds, rfl⟩ := ht
    by_cases h8 : (decide ((1 : Int) ≤ ds.length) && decide ((ds.length : Int) ≤ 8)) = true
    · have h8' : ds.length ≤ 4000 := by simp only [Bool.and_eq_true, decide_eq_true_eq] at h8; omega
      refine' se_retD (b := false) (ee_andV (ee_isTup (ee_var rfl)) fun _ => ee_andV (ee_chain ee_int (ee_len (ee_var rfl) (.tuple ds)) (rv_I0 (.bl _)) (fun _ => ee_int) fun _ => rv_I0 (.bl _)) fun _ => ev_has_each (ee_var rfl) h8') ?_
      show PyData.bool _ = PyData.bool _
      have e1 : decide ((1 : Int) ≤ ds.length) = decide (1 ≤ ds.length) := by rw [decide_eq_decide]; omega
      have e2 : decide ((ds.length : Int) ≤ 8) = decide (ds.length ≤ 8) := by rw [decide_eq_decide]; omega
      simp only [isiTup, isRowD, e1, e2, Bool.true_and]
    · have h8 : (decide ((1 : Int) ≤ ds.length) && decide ((ds.length : Int) ≤ 8)) = false := by simpa using h8
      refine' se_retD (b := false) (ee_andV (d := false) (b2 := false) (ee_isTup (ee_var rfl)) fun _ => ee_and_false (EEv.is (ee_chain ee_int (ee_len (ee_var rfl) (.tuple ds)) (rv_I0 (.bl _)) (fun _ => ee_int) fun _ => rv_I0 (.bl _)) (by rw [h8]))) ?_
      show PyData.bool _ = PyData.bool _
      have h9 : (decide (1 ≤ ds.length) && decide (ds.length ≤ 8)) = false := by
        rw [← h8]
        congr 1 <;> (rw [decide_eq_decide]; omega)
      simp only [isiTup, isRowD, h9, Bool.and_false, Bool.false_and]
  · have e : isiTup x = false := by
      cases x <;> first | rfl | exact absurd ⟨_, rfl⟩ ht
    refine' se_retD (b := false) (ee_and_false (EEv.is (ee_isTup (ee_var rfl)) (by rw [e]))) ?_
    cases x <;> first | rfl | exact absurd ⟨_, rfl⟩ ht
--EV ev_is_row 1
theorem ev_is_row {pm : Pm} {env : List Ent} {b : Bool} {E : XK} {ta : TE} {x : PyData} (ha : EEd pm b ta env x) : EEd pm false (tCall (SpF (.pure pm.K) sp_is_row) [] E (tCons ta tNil)) env (.bool (isRowD x)) :=
  ee_fns x (ae_consw ha ae_nil) trivial rfl

local macro_rules | `(tactic| tm_at "one") => `(tactic| first
  | with_reducible refine' ev_is_row ?_)
abbrev sp_need_row (C : Addr) : FSp := { α := PyData, args := fun x => [.d x], pre := fun _ => True, post := fun x z => isRowD x = true ∧ z = .none, err := fun x D fs => isRowD x = false ∧ D = C ∧ fs = [] }
theorem ok_need_row (T : Tx w K mg) : FnOk P w K mg base (L2.CX P w) 5 T.a_need_row T.fd_need_row ["row"] (SpF (.pure K) (sp_need_row T.c_BadRow)) := by
  refine fn_okX T.F_need_row sc_need_row (fun _ => rfl) fun cdv A outer s H E hr => ⟨_, (pss_one (ps_if (pt_not (pt_val (pe_call (ok_is_row T) hr (by rfl) T.g_is_row T.F_is_row.kp T.b_is_row .nil pass0 (pa_cons (pv 0) pa_nil)))) (pss_one (ps_raiseC T.x_BadRow rfl (takes_of rfl rfl rfl rfl) rfl)) pss_nil)), ?_⟩
  intro x hx
  tm_at "go"
  refine' se_if (te_not (te_B (ev_is_row (ee_var rfl)))) (fun h => ?_) (fun h => se_next ?_)
  · refine' se_raise ?_
    exact ⟨by simpa using h, rfl, rfl⟩
  · exact ⟨by simpa using h, rfl⟩
--EV ev_need_row 2
theorem ev_need_row {pm : Pm} {env : List Ent} {b : Bool} {E : XK} {C : Addr} {ta : TE} {x : PyData} (ha : EEd pm b ta env x) (h : isRowD x = true) : EEv pm false (tCall (SpF (.pure pm.K) (sp_need_row C)) [] E (tCons ta tNil)) env (fun z => z = .none) :=
  EEv.scal (EEv.imp (ee_call0 (F := sp_need_row C) x (ae_consw ha ae_nil) trivial fun D fs (hh : isRowD x = false ∧ _) => by rw [h] at hh; exact absurd hh.1 (by simp)) fun z hz => hz.2) fun z hz => by rw [hz]; rfl

local macro_rules | `(tactic| tm_at "one") => `(tactic| first
  | with_reducible refine' ev_need_row ?_ ?_)
end
end K71
namespace K71
open Fw PySem PySem.Spec PyProof.Rows L2
local macro_rules | `(tactic| tm_at "one") => `(tactic| first
  | with_reducible exact ee_int
  | with_reducible exact ee_str
  | with_reducible exact ee_bl
  | with_reducible exact ee_non
  | ((with_reducible refine' ee_var ?hv); case hv => rfl)
  | ((with_reducible refine' ee_own ?hv); case hv => rfl)
  | with_reducible refine' ee_andV ?_ (fun hAnd => ?_)
  | with_reducible refine' ee_orV ?_ (fun hOr => ?_)
  | with_reducible refine' ee_notV ?_
  | with_reducible refine' ee_if ?_ (fun hIf => ?_) (fun hIf => ?_)
  | with_reducible refine' te_B ?_
  | with_reducible refine' te_test ?_
  | with_reducible refine' te_and ?_ (fun hAnd => ?_)
  | with_reducible refine' te_or ?_ (fun hOr => ?_)
  | with_reducible refine' te_not ?_
  | with_reducible exact te_yes
  | with_reducible refine' ee_chain ?_ ?_ ?_ (fun hCh => ?_) (fun hCh => ?_)
  | with_reducible refine' ee_isInt ?_
  | with_reducible refine' ee_isBool ?_
  | with_reducible refine' ee_isStr ?_
  | with_reducible refine' ee_isTup ?_
  | with_reducible refine' ee_isLst ?_
  | with_reducible refine' ee_neg ?_
  | with_reducible refine' ee_revT ?_
  | with_reducible refine' ee_opC ?_ ?_
  | with_reducible refine' ee_opE ?_ ?_ ?_
  | with_reducible refine' ee_opN ?_ ?_ ?_
  | with_reducible refine' ee_op ?_ ?_ ?_
  | with_reducible refine' ee_sl ?_ ?_ ?_ ?_
  | with_reducible exact oe_none
  | with_reducible refine' oe_some ?_
  | with_reducible refine' ee_len ?_ ?_
  | with_reducible refine' ee_tup ?_ ?_
  | with_reducible refine' LEv.eed (le_lst ?_ ?_)
  | with_reducible refine' le_lst ?_ ?_
  | with_reducible refine' ee_cb ?_ ?_
  | with_reducible exact de_nil
  | with_reducible refine' de_cons ?_ ?_
  | with_reducible refine' de_star ?_ ?_
  | with_reducible exact ae_nil
  | ((with_reducible refine' ae_raw ?hv ?_); case hv => rfl)
  | with_reducible refine' ae_cons ?_ ?_
  | with_reducible exact rv_addI
  | with_reducible refine' rv_addL ?_
  | with_reducible refine' rv_addT ?_
  | with_reducible refine' rv_addS ?_
  | with_reducible refine' rv_I0 (.int _)
  | with_reducible refine' rv_I0 (.bl _)
  | with_reducible refine' rv_eq ?_ ?_
  | with_reducible refine' rv_ne ?_ ?_
  | with_reducible exact rv_isN
  | with_reducible exact rv_notN
  | with_reducible refine' rv_ixL ?_
  | with_reducible refine' rv_ixT ?_
  | with_reducible exact sv_L
  | with_reducible exact sv_T
  | with_reducible refine' sv_S ?_
  | with_reducible exact rc_lenL
  | with_reducible exact rc_lenT
  | with_reducible exact rc_tupL
  | with_reducible exact rc_tupT
  | with_reducible exact rc_int1
  | with_reducible exact rc_all
  | with_reducible exact rc_any
  | with_reducible refine' ie_list ?_
  | with_reducible refine' ie_tup ?_
  | with_reducible refine' ie_range1 ?_ ?_
  | with_reducible refine' ie_range2 ?_ ?_
  | with_reducible refine' ie_enum0 ?_
  | with_reducible refine' ie_enum1 ?_ ?_
  | with_reducible refine' ie_str ?_)
local macro_rules | `(tactic| tm_at "ev") => `(tactic| repeat' tm_at "one")
local macro_rules | `(tactic| tm_at "go") => `(tactic| dsimp only [padN, poOf, FSp.fn, nox_K, cx_K, List.set])
local macro_rules | `(tactic| tm_at "one") => `(tactic| first
  | with_reducible refine' ev_is_number ?_
  | with_reducible refine' ev_is_between ?_ ?_ ?_
  | with_reducible refine' ev_need_between ?_ ?_ ?_ ?_ ?_
  | with_reducible refine' ev_has_each ?_ ?_
  | with_reducible refine' ev_is_row ?_
  | with_reducible refine' ev_need_row ?_ ?_)
section
variable {P : Program} {w : World} {K : PySem.W.Frag} {mg : Str → Option Value} {base : Heap}
/-- the row that undoes ns: at place x the place of x -/
def undoStep (found : List PyData) (p : Int × Nat) : List PyData := found.set (p.1 - 1).toNat (.int ((p.2 : Nat) + 1))
def undoL (ns : List Int) : List PyData := ns.zipIdx.foldl undoStep (List.replicate ns.length (.int 0))
theorem undo_len (l : List (Int × Nat)) : ∀ f : List PyData, (l.foldl undoStep f).length = f.length := by
  induction l with
  | nil => intro f; rfl
  | cons p l ih => intro f; rw [List.foldl_cons, ih]; simp [undoStep]
theorem flat_one {α : Type} (n : Nat) (x : α) : (List.replicate n [x]).flatten = List.replicate n x := by
  induction n with
  | zero => rfl
  | succ n ih => rw [List.replicate_succ, List.flatten_cons, ih]; rfl
abbrev sp_undone_told : FSp := .fn (fun ns : List Int => [.d (.tuple (ns.map .int))]) (fun ns => ns.length ≤ 1000 ∧ ∀ n ∈ ns, 1 ≤ n ∧ n ≤ ns.length) fun ns => .tuple (undoL ns)
theorem ok_undone_told (T : Tx w K mg) : FnOk P w K mg base CX0 1 T.a_undone_told T.fd_undone_told ["row"] (SpF (.pure K) sp_undone_told) := by
  refine fn_ok T.F_undone_told sc_undone_told (fun _ => rfl) fun cdv A outer s H E hr => ⟨_, (pss_cons (ps_set (i := 1) sc_undone_told.nd rfl (Or.inl rfl) (pe_op op_mulD (pe_lst (pa_cons pe_int pa_nil)) (pe_callB (k_len (K := K) rfl) (by rfl) T.z_len bt_len (pa_cons (pv 0) pa_nil)))) (pss_cons (ps_for PassesOwn.never rfl (k_enum1 (K := K) rfl (by rfl) T.z_enumerate (pa_cons (pv 0) (pa_cons pe_int pa_nil))) (k_gtup (K := K) rfl rfl (pgs_cons (pg_name (i := 2) sc_undone_told.nd rfl (Or.inl rfl)) (pgs_cons (pg_name (i := 3) sc_undone_told.nd rfl (Or.inl rfl)) pgs_nil))) (pss_one (ps_asg (pv 2) (pg_sub (pv 1) (pe_op op_sub (pv 3) pe_int) set_list)))) (pss_one (ps_ret (pe_callTy (k_tuple (K := K) rfl) (by rfl) T.z_tuple bt_tuple (pa_cons (pv 1) pa_nil)))))), ?_⟩
  intro ns hx
  tm_at "go"
  obtain ⟨h8, hb⟩ : ns.length ≤ 1000 ∧ ∀ n ∈ ns, 1 ≤ n ∧ n ≤ ns.length := hx
  have hl : ((ns.map PyData.int).length : Int) = ns.length := by rw [List.length_map]
  refine' sq_asgL (le_mulL (le_lst (de_cons ee_int de_nil) (by rw [sizeLine_eq]; exact (by decide : 1 ≤ 16777216))) (ee_len (ee_var rfl) (.tuple _)) (by omega) (by omega) (by rw [sizeLine_eq]; simp; omega)) fun a => ?_
  have e0 : (List.replicate ((ns.map PyData.int).length : Int).toNat [PyData.int 0]).flatten = List.replicate ns.length (.int 0) := by
    rw [flat_one]; simp
  rw [e0]
  refine' sq (N' := fun e => ∃ p q, e = [.d (.tuple (ns.map .int)), .own a (undoL ns), p, q]) ?_ ?_
  · refine' se_for (ie_enum1 (xs := ns.map .int) (k := 1) (de_cons (ee_var rfl) (de_cons ee_int de_nil)) (by decide)) (fun i e => ∃ p q, e = [.d (.tuple (ns.map .int)), .own a ((ns.zipIdx.take i).foldl undoStep (List.replicate ns.length (.int 0))), p, q]) ?_ ?_ ?_
    · exact ⟨_, _, rfl⟩
    · rintro i x env' hx ⟨p, q, rfl⟩
      obtain ⟨n, hi, rfl⟩ := enumD_get hx
      have hn := hb n (List.mem_of_getElem? hi)
      refine' turn2 ?_
      refine' se_setIx (j := (n - 1).toNat) rfl (ee_var rfl) (ee_ops (ee_var rfl) ee_int (rv_I0 (.int _))) ?_ ?_
      · have hl2 : (List.foldl undoStep (List.replicate ns.length (PyData.int 0)) (List.take i ns.zipIdx)).length = ns.length := by rw [undo_len]; simp
        rw [hl2]
        unfold ixN
        rw [if_pos (show (0 : Int) ≤ n - 1 by omega), if_pos (show n - 1 < (ns.length : Int) by omega)]
      · refine ⟨.d (.int (1 + (i : Nat))), .d (.int n), ?_⟩
        rw [take_zip hi, List.foldl_append]
        show [_, Ent.own a _, _, _] = [_, Ent.own a _, _, _]
        simp only [undoStep, List.foldl_cons, List.foldl_nil, Int.add_comm]
    · rintro env' ⟨p, q, rfl⟩
      refine ⟨p, q, ?_⟩
      rw [enumD_len, List.length_map, List.take_of_length_le (by simp)]
      rfl
  · rintro env' ⟨p, q, rfl⟩
    refine' se_ret (ee_cb (b := true) (de_consw (ee_own rfl) de_nil) rc_tupL) fun x hx => hx
--EV ev_undone_told 2
theorem ev_undone_told {pm : Pm} {env : List Ent} {E : XK} {ta : TE} {ns : List Int} (ha : EEd pm false ta env (.tuple (ns.map .int))) (h : ns.length ≤ 1000 ∧ ∀ n ∈ ns, 1 ≤ n ∧ n ≤ ns.length) : EEd pm false (tCall (SpF (.pure pm.K) sp_undone_told) [] E (tCons ta tNil)) env (.tuple (undoL ns)) :=
  ee_fn0 ns (ae_cons ha ae_nil) h

local macro_rules | `(tactic| tm_at "one") => `(tactic| first
  | with_reducible refine' ev_undone_told ?_ ?_)
structure RowOk (ns : List Int) : Prop where
  l1 : 1 ≤ ns.length
  l8 : ns.length ≤ 8
  rg : ∀ n ∈ ns, 1 ≤ n ∧ n ≤ ns.length
  nd : ns.Nodup
theorem isRowD_iff {ns : List Int} : isRowD (.tuple (ns.map .int)) = true ↔ RowOk ns := by
  simp only [isRowD, eachD, intsOf_map, List.length_map, Bool.and_eq_true, decide_eq_true_eq, List.all_map, List.all_eq_true, Function.comp, betw]
  constructor
  · rintro ⟨⟨h1, h2⟩, h3, h4⟩
    exact ⟨h1, h2, fun n hn => h3 n hn, h4⟩
  · rintro ⟨h1, h2, h3, h4⟩
    exact ⟨⟨h1, h2⟩, fun n hn => h3 n hn, h4⟩
abbrev sp_undone_row : FSp := .fn (fun ns : List Int => [.d (.tuple (ns.map .int))]) RowOk fun ns => .tuple (undoL ns)
theorem ok_undone_row (T : Tx w K mg) : FnOk P w K mg base CX0 6 T.a_undone_row T.fd_undone_row ["row"] (SpF (.pure K) sp_undone_row) := by
  refine fn_ok T.F_undone_row sc_undone_row (fun _ => rfl) fun cdv A outer s H E hr => ⟨_, (pss_cons (ps_expr (pe_call (ok_need_row T) hr (by rfl) T.g_need_row T.F_need_row.kp T.b_need_row .nil passL (pa_cons (pv 0) pa_nil))) (pss_one (ps_ret (pe_call (ok_undone_told T) (hr.mono (by decide)) (by rfl) T.g_undone_told T.F_undone_told.kp T.b_undone_told .nil pass0 (pa_cons (pv 0) pa_nil))))), ?_⟩
  intro ns hx
  tm_at "go"
  have hx : RowOk ns := hx
  refine' sq_drop (ev_need_row (ee_var rfl) (isRowD_iff.mpr hx)) ?_
  refine' se_retD (ev_undone_told (ee_var rfl) ⟨by have := hx.l8; omega, hx.rg⟩) rfl
--EV ev_undone_row 2
theorem ev_undone_row {pm : Pm} {env : List Ent} {E : XK} {ta : TE} {ns : List Int} (ha : EEd pm false ta env (.tuple (ns.map .int))) (h : RowOk ns) : EEd pm false (tCall (SpF (.pure pm.K) sp_undone_row) [] E (tCons ta tNil)) env (.tuple (undoL ns)) :=
  ee_fn0 ns (ae_cons ha ae_nil) h

local macro_rules | `(tactic| tm_at "one") => `(tactic| first
  | with_reducible refine' ev_undone_row ?_ ?_)
abbrev sp_turned_row : FSp := .fn (fun ns : List Int => [.d (.tuple (ns.map .int))]) RowOk fun ns => .tuple (ns.reverse.map .int)
theorem ok_turned_row (T : Tx w K mg) : FnOk P w K mg base CX0 6 T.a_turned_row T.fd_turned_row ["row"] (SpF (.pure K) sp_turned_row) := by
  refine fn_ok T.F_turned_row sc_turned_row (fun _ => rfl) fun cdv A outer s H E hr => ⟨_, (pss_cons (ps_expr (pe_call (ok_need_row T) hr (by rfl) T.g_need_row T.F_need_row.kp T.b_need_row .nil passL (pa_cons (pv 0) pa_nil))) (pss_one (ps_ret (pe_revT (K := K) rfl (pv 0))))), ?_⟩
  intro ns hx
  tm_at "go"
  have hx : RowOk ns := hx
  refine' sq_drop (ev_need_row (ee_var rfl) (isRowD_iff.mpr hx)) ?_
  refine' se_retD (ee_revT (ee_var rfl)) ?_
  show PyData.tuple _ = PyData.tuple _
  rw [List.map_reverse]
--EV ev_turned_row 2
theorem ev_turned_row {pm : Pm} {env : List Ent} {E : XK} {ta : TE} {ns : List Int} (ha : EEd pm false ta env (.tuple (ns.map .int))) (h : RowOk ns) : EEd pm false (tCall (SpF (.pure pm.K) sp_turned_row) [] E (tCons ta tNil)) env (.tuple (ns.reverse.map .int)) :=
  ee_fn0 ns (ae_cons ha ae_nil) h

local macro_rules | `(tactic| tm_at "one") => `(tactic| first
  | with_reducible refine' ev_turned_row ?_ ?_)
def upL (ns : List Int) : List Int := ns.map fun x => (ns.length : Int) + 1 - x
theorem row_sz {n : Nat} (h : n ≤ 8) : n ≤ sizeLine := by rw [sizeLine_eq]; omega
abbrev sp_upturned_row : FSp := .fn (fun ns : List Int => [.d (.tuple (ns.map .int))]) RowOk fun ns => .tuple ((upL ns).map .int)
theorem ok_upturned_row (T : Tx w K mg) : FnOk P w K mg base CX0 6 T.a_upturned_row T.fd_upturned_row ["row"] (SpF (.pure K) sp_upturned_row) := by
  refine fn_ok T.F_upturned_row sc_upturned_row (fun _ => rfl) fun cdv A outer s H E hr => ⟨_, (pss_cons (ps_expr (pe_call (ok_need_row T) hr (by rfl) T.g_need_row T.F_need_row.kp T.b_need_row .nil passL (pa_cons (pv 0) pa_nil))) (pss_one (ps_ret (pe_callTy (k_tuple (K := K) rfl) (by rfl) T.z_tuple bt_tuple (pa_cons (pe_lc (own := [("number", 1)]) (g := gName 1) rfl sc_upturned_row.nd (k_seq (K := K) rfl (pv 0)) (blkOk_by (by kernel_rfl)) (fun _ _ _ _ _ => (pg_name (i := 1) sc_upturned_row.nd rfl (Or.inl rfl))) (fun _ _ _ _ _ => pts_nil) (fun _ _ _ _ _ => (pe_op op_sub (pe_op (k_add (K := K) rfl) (pe_callB (k_len (K := K) rfl) (by rfl) T.z_len bt_len (pa_cons (pv 0) pa_nil)) pe_int) (pv 1)))) pa_nil))))), ?_⟩
  intro ns hx
  tm_at "go"
  have hx : RowOk ns := hx
  refine' sq_drop (ev_need_row (ee_var rfl) (isRowD_iff.mpr hx)) ?_
  refine' se_retD (ee_tupL (LEv.eed (le_lc1Y (em := PyData.int) (ns := ns) (f := fun x => .int ((ns.length : Int) + 1 - x)) (ie_tup (ee_var rfl)) rfl (fun x _ => ?_) (row_sz hx.l8)))) ?_
  · refine' ee_ops (ee_op (ee_len (ee_var rfl) ?_) ee_int rv_addI) (ee_var rfl) (rv_I0 (.int _))
    have e : ns.length = (ns.map PyData.int).length := by rw [List.length_map]
    rw [e]
    exact .tuple _
  · show PyData.tuple _ = PyData.tuple _
    unfold upL
    rw [List.map_map]; rfl
--EV ev_upturned_row 2
theorem ev_upturned_row {pm : Pm} {env : List Ent} {E : XK} {ta : TE} {ns : List Int} (ha : EEd pm false ta env (.tuple (ns.map .int))) (h : RowOk ns) : EEd pm false (tCall (SpF (.pure pm.K) sp_upturned_row) [] E (tCons ta tNil)) env (.tuple ((upL ns).map .int)) :=
  ee_fn0 ns (ae_cons ha ae_nil) h

local macro_rules | `(tactic| tm_at "one") => `(tactic| first
  | with_reducible refine' ev_upturned_row ?_ ?_)
end
end K71
namespace K71
open Fw PySem PySem.Spec PyProof.Rows L2
local macro_rules | `(tactic| tm_at "one") => `(tactic| first
  | with_reducible exact ee_int
  | with_reducible exact ee_str
  | with_reducible exact ee_bl
  | with_reducible exact ee_non
  | ((with_reducible refine' ee_var ?hv); case hv => rfl)
  | ((with_reducible refine' ee_own ?hv); case hv => rfl)
  | with_reducible refine' ee_andV ?_ (fun hAnd => ?_)
  | with_reducible refine' ee_orV ?_ (fun hOr => ?_)
  | with_reducible refine' ee_notV ?_
  | with_reducible refine' ee_if ?_ (fun hIf => ?_) (fun hIf => ?_)
  | with_reducible refine' te_B ?_
  | with_reducible refine' te_test ?_
  | with_reducible refine' te_and ?_ (fun hAnd => ?_)
  | with_reducible refine' te_or ?_ (fun hOr => ?_)
  | with_reducible refine' te_not ?_
  | with_reducible exact te_yes
  | with_reducible refine' ee_chain ?_ ?_ ?_ (fun hCh => ?_) (fun hCh => ?_)
  | with_reducible refine' ee_isInt ?_
  | with_reducible refine' ee_isBool ?_
  | with_reducible refine' ee_isStr ?_
  | with_reducible refine' ee_isTup ?_
  | with_reducible refine' ee_isLst ?_
  | with_reducible refine' ee_neg ?_
  | with_reducible refine' ee_revT ?_
  | with_reducible refine' ee_opC ?_ ?_
  | with_reducible refine' ee_opE ?_ ?_ ?_
  | with_reducible refine' ee_opN ?_ ?_ ?_
  | with_reducible refine' ee_op ?_ ?_ ?_
  | with_reducible refine' ee_sl ?_ ?_ ?_ ?_
  | with_reducible exact oe_none
  | with_reducible refine' oe_some ?_
  | with_reducible refine' ee_len ?_ ?_
  | with_reducible refine' ee_tup ?_ ?_
  | with_reducible refine' LEv.eed (le_lst ?_ ?_)
  | with_reducible refine' le_lst ?_ ?_
  | with_reducible refine' ee_cb ?_ ?_
  | with_reducible exact de_nil
  | with_reducible refine' de_cons ?_ ?_
  | with_reducible refine' de_star ?_ ?_
  | with_reducible exact ae_nil
  | ((with_reducible refine' ae_raw ?hv ?_); case hv => rfl)
  | with_reducible refine' ae_cons ?_ ?_
  | with_reducible exact rv_addI
  | with_reducible refine' rv_addL ?_
  | with_reducible refine' rv_addT ?_
  | with_reducible refine' rv_addS ?_
  | with_reducible refine' rv_I0 (.int _)
  | with_reducible refine' rv_I0 (.bl _)
  | with_reducible refine' rv_eq ?_ ?_
  | with_reducible refine' rv_ne ?_ ?_
  | with_reducible exact rv_isN
  | with_reducible exact rv_notN
  | with_reducible refine' rv_ixL ?_
  | with_reducible refine' rv_ixT ?_
  | with_reducible exact sv_L
  | with_reducible exact sv_T
  | with_reducible refine' sv_S ?_
  | with_reducible exact rc_lenL
  | with_reducible exact rc_lenT
  | with_reducible exact rc_tupL
  | with_reducible exact rc_tupT
  | with_reducible exact rc_int1
  | with_reducible exact rc_all
  | with_reducible exact rc_any
  | with_reducible refine' ie_list ?_
  | with_reducible refine' ie_tup ?_
  | with_reducible refine' ie_range1 ?_ ?_
  | with_reducible refine' ie_range2 ?_ ?_
  | with_reducible refine' ie_enum0 ?_
  | with_reducible refine' ie_enum1 ?_ ?_
  | with_reducible refine' ie_str ?_)
local macro_rules | `(tactic| tm_at "ev") => `(tactic| repeat' tm_at "one")
local macro_rules | `(tactic| tm_at "go") => `(tactic| dsimp only [padN, poOf, FSp.fn, nox_K, cx_K, List.set])
local macro_rules | `(tactic| tm_at "one") => `(tactic| first
  | with_reducible refine' ev_is_number ?_
  | with_reducible refine' ev_is_between ?_ ?_ ?_
  | with_reducible refine' ev_need_between ?_ ?_ ?_ ?_ ?_
  | with_reducible refine' ev_has_each ?_ ?_
  | with_reducible refine' ev_is_row ?_
  | with_reducible refine' ev_need_row ?_ ?_
  | with_reducible refine' ev_undone_told ?_ ?_
  | with_reducible refine' ev_undone_row ?_ ?_
  | with_reducible refine' ev_turned_row ?_ ?_
  | with_reducible refine' ev_upturned_row ?_ ?_)
section
variable {P : Program} {w : World} {K : PySem.W.Frag} {mg : Str → Option Value} {base : Heap}
/-- the row that stands as unlike numbers do -/
def stL (ns : List Int) : List Int := ns.map fun n => 1 + ((ns.filter fun m => decide (m < n)).length : Int)
abbrev sp_standing_told : FSp := .fn (fun ns : List Int => [.d (.tuple (ns.map .int))]) (fun ns => ns.length ≤ 1000) fun ns => .tuple ((stL ns).map .int)
theorem ok_standing_told (T : Tx w K mg) : FnOk P w K mg base CX0 1 T.a_standing_told T.fd_standing_told ["numbers"] (SpF (.pure K) sp_standing_told) := by
  refine fn_ok T.F_standing_told sc_standing_told (fun _ => rfl) fun cdv A outer s H E hr => ⟨_, (pss_one (ps_ret (pe_callTy (k_tuple (K := K) rfl) (by rfl) T.z_tuple bt_tuple (pa_cons (pe_lc (own := [("number", 1)]) (g := gName 1) rfl sc_standing_told.nd (k_seq (K := K) rfl (pv 0)) (blkOk_by (by kernel_rfl)) (fun _ _ _ _ _ => (pg_name (i := 1) sc_standing_told.nd rfl (Or.inr rfl))) (fun _ _ _ _ _ => pts_nil) (fun _ _ _ _ _ => (pe_op (k_add (K := K) rfl) pe_int (pe_callB (k_len (K := K) rfl) (by rfl) T.z_len bt_len (pa_cons (pe_lc (own := [("other", 2)]) (g := gName 2) rfl sc_standing_told.nd (k_seq (K := K) rfl (pv 0)) (blkOk_by (by kernel_rfl)) (fun _ _ _ _ _ => (pg_name (i := 2) sc_standing_told.nd rfl (Or.inl rfl))) (fun _ _ _ _ _ => (pts_one (pt_cmpR op_lt (pv 2) (pv 1) (nomark _)))) (fun _ _ _ _ _ => pe_int)) pa_nil))))) pa_nil)))), ?_⟩
  intro ns hx
  tm_at "go"
  have hx : ns.length ≤ 1000 := hx
  have hz : ns.length ≤ sizeLine := by rw [sizeLine_eq]; omega
  refine' se_retD (ee_tupL (LEv.eed (le_lc1Y (em := PyData.int) (ns := ns) (f := fun n => .int (1 + ((ns.filter fun m => decide (m < n)).length : Int))) (ie_tup (ee_var rfl)) rfl (fun n _ => ?_) hz))) ?_
  · refine' ee_op ee_int (ee_lenL (LEv.eed (le_lc1 (em := PyData.int) (ns := ns) (p := fun m => decide (m < n)) (f := fun _ => .int 1) (ie_tup (ee_var rfl)) rfl (fun m _ => te_test (ee_opC (ee_var rfl) (ee_var rfl))) (fun m _ _ => ee_int) hz)) ?_) rv_addI
    rw [List.length_map]
  · show PyData.tuple _ = PyData.tuple _
    unfold stL
    rw [List.map_map]; rfl
--EV ev_standing_told 2
theorem ev_standing_told {pm : Pm} {env : List Ent} {E : XK} {ta : TE} {ns : List Int} (ha : EEd pm false ta env (.tuple (ns.map .int))) (h : ns.length ≤ 1000) : EEd pm false (tCall (SpF (.pure pm.K) sp_standing_told) [] E (tCons ta tNil)) env (.tuple ((stL ns).map .int)) :=
  ee_fn0 ns (ae_cons ha ae_nil) h

local macro_rules | `(tactic| tm_at "one") => `(tactic| first
  | with_reducible refine' ev_standing_told ?_ ?_)
def at1 (ns : List Int) (i : Int) : Int := ns.getD (i - 1).toNat 0
def fitsL (ns pat places : List Int) (place : Int) : Bool := places.zipIdx.all fun p => decide (at1 ns p.1 < at1 ns place) == decide (pat.getD p.2 0 < pat.getD places.length 0)
theorem at1_ok {ns : List Int} {i : Int} (h : 1 ≤ i ∧ i ≤ ns.length) : atI (ns.map PyData.int) (i - 1) = some (.int (at1 ns i)) := atI_int (by omega) (by omega)
abbrev sp_fits_on : FSp := .fn (fun x : List Int × List Int × List Int × Int => [.d (.tuple (x.1.map .int)), .d (.tuple (x.2.1.map .int)), .d (.tuple (x.2.2.1.map .int)), .d (.int x.2.2.2)])
  (fun x => (∀ i ∈ x.2.2.1, 1 ≤ i ∧ i ≤ x.1.length) ∧ (1 ≤ x.2.2.2 ∧ x.2.2.2 ≤ x.1.length) ∧ x.2.2.1.length < x.2.1.length) fun x => .bool (fitsL x.1 x.2.1 x.2.2.1 x.2.2.2)
theorem ok_fits_on (T : Tx w K mg) : FnOk P w K mg base CX0 1 T.a_fits_on T.fd_fits_on ["row", "pattern", "places", "place"] (SpF (.pure K) sp_fits_on) := by
  refine fn_ok T.F_fits_on sc_fits_on (fun _ => rfl) fun cdv A outer s H E hr => ⟨_, (pss_cons (ps_set (i := 4) sc_fits_on.nd rfl (Or.inl rfl) (pe_callB (k_len (K := K) rfl) (by rfl) T.z_len bt_len (pa_cons (pv 2) pa_nil))) (pss_cons (ps_for PassesOwn.never rfl (k_enum0 (K := K) rfl (by rfl) T.z_enumerate (pa_cons (pv 2) pa_nil)) (k_gtup (K := K) rfl rfl (pgs_cons (pg_name (i := 5) sc_fits_on.nd rfl (Or.inl rfl)) (pgs_cons (pg_name (i := 6) sc_fits_on.nd rfl (Or.inl rfl)) pgs_nil))) (pss_one (ps_if (pt_cmpR (k_ne (K := K) rfl hr.units) (pe_cmpR op_lt (pe_ix (k_ix (K := K) rfl) (pv 0) (pe_op op_sub (pv 6) pe_int) (fun _ _ => rfl)) (pe_ix (k_ix (K := K) rfl) (pv 0) (pe_op op_sub (pv 3) pe_int) (fun _ _ => rfl)) (nomark _)) (pe_cmpR op_lt (pe_ix (k_ix (K := K) rfl) (pv 1) (pv 5) (fun _ _ => rfl)) (pe_ix (k_ix (K := K) rfl) (pv 1) (pv 4) (fun _ _ => rfl)) (nomark _)) (nomark _)) (pss_one (ps_ret pe_bl)) pss_nil))) (pss_one (ps_ret pe_bl)))), ?_⟩
  rintro ⟨ns, pat, places, place⟩ hx
  tm_at "go"
  obtain ⟨h1, h2, h3⟩ : (∀ i ∈ places, 1 ≤ i ∧ i ≤ ns.length) ∧ (1 ≤ place ∧ place ≤ ns.length) ∧ places.length < pat.length := hx
  refine' sq_asg (ee_len (ee_var rfl) (.tuple _)) ?_
  rw [List.length_map]
  have upto : ∀ k, (places.zipIdx.take k).all (fun p => decide (at1 ns p.1 < at1 ns place) == decide (pat.getD p.2 0 < pat.getD places.length 0)) = false → fitsL ns pat places place = false := fun k h => by
    unfold fitsL
    rw [← List.take_append_drop k places.zipIdx, List.all_append, h]; rfl
  refine' sq (N' := fun e => fitsL ns pat places place = true) ?_ ?_
  · refine' se_for (ie_enum0 (xs := places.map .int) (de_cons (ee_var rfl) de_nil)) (fun i e => (∃ p q, e = [.d (.tuple (ns.map .int)), .d (.tuple (pat.map .int)), .d (.tuple (places.map .int)), .d (.int place), .d (.int places.length), p, q]) ∧ (places.zipIdx.take i).all (fun p => decide (at1 ns p.1 < at1 ns place) == decide (pat.getD p.2 0 < pat.getD places.length 0)) = true) ?_ ?_ ?_
    · exact ⟨⟨_, _, rfl⟩, rfl⟩
    · rintro i x env' hx ⟨⟨p, q, rfl⟩, ha⟩
      obtain ⟨a, hi, rfl⟩ := enumD_get hx
      have hi2 := (List.getElem?_eq_some_iff.mp hi).1
      refine' turn2 ?_
      have hp := h1 a (List.mem_of_getElem? hi)
      have e1 : (0 + (i : Int)).toNat = i := by omega
      refine' se_if (te_test (ee_opN (ee_opC (ee_op (ee_var rfl) (ee_ops (ee_var rfl) ee_int (rv_I0 (.int _))) (rv_ixT (at1_ok hp))) (ee_op (ee_var rfl) (ee_ops (ee_var rfl) ee_int (rv_I0 (.int _))) (rv_ixT (at1_ok h2))))
        (ee_opC (ee_op (ee_var rfl) (ee_var rfl) (rv_ixT (atI_int (by omega) (by omega)))) (ee_op (ee_var rfl) (ee_var rfl) (rv_ixT (atI_int (by omega) (by omega))))) ⟨shaped_b _, shaped_b _⟩)) (fun hk => ?_) (fun hk => se_next ?_)
      · refine' se_retD ee_bl ?_
        show PyData.bool false = PyData.bool _
        rw [upto (i + 1)]
        rw [take_zip hi, List.all_append, ha]
        rw [eqv_b] at hk
        simp only [e1, Int.toNat_natCast] at hk
        simp only [List.all_cons, List.all_nil, Bool.and_true, Bool.true_and]
        simpa using hk
      · refine ⟨⟨_, _, rfl⟩, ?_⟩
        rw [take_zip hi, List.all_append, ha]
        rw [eqv_b] at hk
        simp only [e1, Int.toNat_natCast] at hk
        simp only [List.all_cons, List.all_nil, Bool.and_true, Bool.true_and]
        simpa using hk
    · rintro env' ⟨_, ha⟩
      rw [enumD_len, List.length_map, List.take_of_length_le (by simp)] at ha
      exact ha
  · intro env' hf
    refine' se_retD ee_bl ?_
    show PyData.bool true = PyData.bool _
    rw [hf]
--EV ev_fits_on 5
theorem ev_fits_on {pm : Pm} {env : List Ent} {E : XK} {ta tb tc td : TE} {ns pat places : List Int} {place : Int} (ha : EEd pm false ta env (.tuple (ns.map .int))) (hb : EEd pm false tb env (.tuple (pat.map .int))) (hc : EEd pm false tc env (.tuple (places.map .int))) (hd : EEd pm false td env (.int place))
    (h : (∀ i ∈ places, 1 ≤ i ∧ i ≤ ns.length) ∧ (1 ≤ place ∧ place ≤ ns.length) ∧ places.length < pat.length) : EEd pm false (tCall (SpF (.pure pm.K) sp_fits_on) [] E (tCons ta (tCons tb (tCons tc (tCons td tNil))))) env (.bool (fitsL ns pat places place)) :=
  ee_fn0 (ns, pat, places, place) (ae_cons ha (ae_cons hb (ae_cons hc (ae_cons hd ae_nil)))) h

local macro_rules | `(tactic| tm_at "one") => `(tactic| first
  | with_reducible refine' ev_fits_on ?_ ?_ ?_ ?_ ?_)
end
end K71
namespace K71
open Fw PySem PySem.Spec PyProof.Rows L2
local macro_rules | `(tactic| tm_at "one") => `(tactic| first
  | with_reducible exact ee_int
  | with_reducible exact ee_str
  | with_reducible exact ee_bl
  | with_reducible exact ee_non
  | ((with_reducible refine' ee_var ?hv); case hv => rfl)
  | ((with_reducible refine' ee_own ?hv); case hv => rfl)
  | with_reducible refine' ee_andV ?_ (fun hAnd => ?_)
  | with_reducible refine' ee_orV ?_ (fun hOr => ?_)
  | with_reducible refine' ee_notV ?_
  | with_reducible refine' ee_if ?_ (fun hIf => ?_) (fun hIf => ?_)
  | with_reducible refine' te_B ?_
  | with_reducible refine' te_test ?_
  | with_reducible refine' te_and ?_ (fun hAnd => ?_)
  | with_reducible refine' te_or ?_ (fun hOr => ?_)
  | with_reducible refine' te_not ?_
  | with_reducible exact te_yes
  | with_reducible refine' ee_chain ?_ ?_ ?_ (fun hCh => ?_) (fun hCh => ?_)
  | with_reducible refine' ee_isInt ?_
  | with_reducible refine' ee_isBool ?_
  | with_reducible refine' ee_isStr ?_
  | with_reducible refine' ee_isTup ?_
  | with_reducible refine' ee_isLst ?_
  | with_reducible refine' ee_neg ?_
  | with_reducible refine' ee_revT ?_
  | with_reducible refine' ee_opC ?_ ?_
  | with_reducible refine' ee_opE ?_ ?_ ?_
  | with_reducible refine' ee_opN ?_ ?_ ?_
  | with_reducible refine' ee_op ?_ ?_ ?_
  | with_reducible refine' ee_sl ?_ ?_ ?_ ?_
  | with_reducible exact oe_none
  | with_reducible refine' oe_some ?_
  | with_reducible refine' ee_len ?_ ?_
  | with_reducible refine' ee_tup ?_ ?_
  | with_reducible refine' LEv.eed (le_lst ?_ ?_)
  | with_reducible refine' le_lst ?_ ?_
  | with_reducible refine' ee_cb ?_ ?_
  | with_reducible exact de_nil
  | with_reducible refine' de_cons ?_ ?_
  | with_reducible refine' de_star ?_ ?_
  | with_reducible exact ae_nil
  | ((with_reducible refine' ae_raw ?hv ?_); case hv => rfl)
  | with_reducible refine' ae_cons ?_ ?_
  | with_reducible exact rv_addI
  | with_reducible refine' rv_addL ?_
  | with_reducible refine' rv_addT ?_
  | with_reducible refine' rv_addS ?_
  | with_reducible refine' rv_I0 (.int _)
  | with_reducible refine' rv_I0 (.bl _)
  | with_reducible refine' rv_eq ?_ ?_
  | with_reducible refine' rv_ne ?_ ?_
  | with_reducible exact rv_isN
  | with_reducible exact rv_notN
  | with_reducible refine' rv_ixL ?_
  | with_reducible refine' rv_ixT ?_
  | with_reducible exact sv_L
  | with_reducible exact sv_T
  | with_reducible refine' sv_S ?_
  | with_reducible exact rc_lenL
  | with_reducible exact rc_lenT
  | with_reducible exact rc_tupL
  | with_reducible exact rc_tupT
  | with_reducible exact rc_int1
  | with_reducible exact rc_all
  | with_reducible exact rc_any
  | with_reducible refine' ie_list ?_
  | with_reducible refine' ie_tup ?_
  | with_reducible refine' ie_range1 ?_ ?_
  | with_reducible refine' ie_range2 ?_ ?_
  | with_reducible refine' ie_enum0 ?_
  | with_reducible refine' ie_enum1 ?_ ?_
  | with_reducible refine' ie_str ?_)
local macro_rules | `(tactic| tm_at "ev") => `(tactic| repeat' tm_at "one")
local macro_rules | `(tactic| tm_at "go") => `(tactic| dsimp only [padN, poOf, FSp.fn, nox_K, cx_K, List.set])
local macro_rules | `(tactic| tm_at "one") => `(tactic| first
  | with_reducible refine' ev_is_number ?_
  | with_reducible refine' ev_is_between ?_ ?_ ?_
  | with_reducible refine' ev_need_between ?_ ?_ ?_ ?_ ?_
  | with_reducible refine' ev_has_each ?_ ?_
  | with_reducible refine' ev_is_row ?_
  | with_reducible refine' ev_need_row ?_ ?_
  | with_reducible refine' ev_undone_told ?_ ?_
  | with_reducible refine' ev_undone_row ?_ ?_
  | with_reducible refine' ev_turned_row ?_ ?_
  | with_reducible refine' ev_upturned_row ?_ ?_
  | with_reducible refine' ev_standing_told ?_ ?_
  | with_reducible refine' ev_fits_on ?_ ?_ ?_ ?_ ?_)
section
variable {P : Program} {w : World} {K : PySem.W.Frag} {mg : Str → Option Value} {base : Heap}
def startOf (pl : List Int) : Int := if h : pl = [] then 1 else pl.getLast h + 1
def candL (ns pl : List Int) : List Int := rngI (startOf pl) (ns.length + 1 - startOf pl).toNat
def extL (ns pat pl : List Int) : List (List Int) := ((candL ns pl).filter fun q => fitsL ns pat pl q).map fun q => pl ++ [q]
def stepP (ns pat : List Int) (fs : List (List Int)) : List (List Int) := (fs.map (extL ns pat)).flatten
def lapP (ns pat : List Int) : Nat → List (List Int)
  | 0 => [[]]
  | k + 1 => stepP ns pat (lapP ns pat k)
def placesL (ns pat : List Int) : List (List Int) := lapP ns pat pat.length
abbrev tuI (pl : List Int) : PyData := .tuple (pl.map .int)
theorem startOf_pos {pl : List Int} (h : ∀ i ∈ pl, 1 ≤ i) : 1 ≤ startOf pl := by
  unfold startOf
  split
  · exact Int.le_refl 1
  · rename_i hn
    have := h _ (List.getLast_mem hn)
    omega
theorem lapP_ok {ns pat : List Int} : ∀ k, ∀ pl ∈ lapP ns pat k, pl.length = k ∧ ∀ i ∈ pl, 1 ≤ i ∧ i ≤ ns.length
  | 0, pl, h => by
    have e : pl = [] := by simpa [lapP] using h
    subst e
    exact ⟨rfl, fun i hi => nomatch hi⟩
  | k + 1, pl, h => by
    obtain ⟨l, hl, hp⟩ := List.mem_flatten.mp h
    obtain ⟨p0, h0, rfl⟩ := List.mem_map.mp hl
    obtain ⟨q, hq, rfl⟩ := List.mem_map.mp hp
    obtain ⟨e0, b0⟩ := lapP_ok k p0 h0
    have hc := mem_rngI.mp (List.mem_filter.mp hq).1
    have hs := startOf_pos fun i hi => (b0 i hi).1
    refine ⟨by simp [e0], fun i hi => ?_⟩
    cases List.mem_append.mp hi with
    | inl h => exact b0 i h
    | inr h =>
      rw [List.mem_singleton.mp h]
      omega
theorem extL_len {ns pat pl : List Int} (h8 : ns.length ≤ 8) (hp : ∀ i ∈ pl, 1 ≤ i) : (extL ns pat pl).length ≤ 8 := by
  unfold extL candL
  rw [List.length_map]
  have h1 := List.length_filter_le (fun q => fitsL ns pat pl q) (rngI (startOf pl) ((ns.length : Int) + 1 - startOf pl).toNat)
  rw [rngI_len] at h1
  have := startOf_pos hp
  omega
theorem flat_len {α β : Type} (f : α → List β) (c : Nat) : ∀ l : List α, (∀ x ∈ l, (f x).length ≤ c) → (l.map f).flatten.length ≤ c * l.length
  | [], _ => by simp
  | x :: l, h => by
    have h1 := flat_len f c l fun y hy => h y (List.mem_cons_of_mem _ hy)
    have h2 := h x List.mem_cons_self
    rw [List.map_cons, List.flatten_cons, List.length_append, List.length_cons, Nat.mul_add]
    omega
theorem lapP_len {ns pat : List Int} (h8 : ns.length ≤ 8) : ∀ k, (lapP ns pat k).length ≤ 8 ^ k
  | 0 => by simp [lapP]
  | k + 1 => by
    have h1 := flat_len (extL ns pat) 8 (lapP ns pat k) fun pl hp => extL_len h8 fun i hi => ((lapP_ok k pl hp).2 i hi).1
    have h2 := lapP_len (pat := pat) h8 k
    have h3 : (lapP ns pat (k + 1)).length ≤ 8 * (lapP ns pat k).length := h1
    rw [Nat.pow_succ]
    omega
theorem lapP_sz {ns pat : List Int} (h8 : ns.length ≤ 8) {k : Nat} (hk : k ≤ 7) : 8 * (lapP ns pat k).length ≤ sizeLine := by
  have h1 := lapP_len (pat := pat) h8 k
  have h2 : 8 ^ k ≤ 8 ^ 7 := Nat.pow_le_pow_right (by decide) hk
  have h3 : (8 : Nat) ^ 7 = 2097152 := by decide
  rw [sizeLine_eq]
  omega
abbrev sp_places_told : FSp := .fn (fun x : List Int × List Int => [.d (tuI x.1), .d (tuI x.2)])
  (fun x => x.1.length ≤ 8 ∧ x.2.length ≤ 7) fun x => .list ((placesL x.1 x.2).map tuI)
theorem ok_places_told (T : Tx w K mg) : FnOk P w K mg base CX0 2 T.a_places_told T.fd_places_told ["row", "pattern"] (SpF (.pure K) sp_places_told) := by
  refine fn_ok T.F_places_told sc_places_told (fun _ => rfl) fun cdv A outer s H E hr => ⟨_, (pss_cons (ps_set (i := 2) sc_places_told.nd rfl (Or.inl rfl) (pe_lst (pa_cons (pe_tup pa_nil) pa_nil))) (pss_cons (ps_for PassesOwn.never rfl (pi_range1 rfl T.z_range (pa_cons (pe_callB (k_len (K := K) rfl) (by rfl) T.z_len bt_len (pa_cons (pv 1) pa_nil)) pa_nil)) (pg_name (i := 3) sc_places_told.nd rfl (Or.inl rfl)) (pss_cons (ps_set (i := 4) sc_places_told.nd rfl (Or.inl rfl) (pe_lst pa_nil)) (pss_cons (ps_for PassesOwn.never rfl (k_seq (K := K) rfl (pv 2)) (pg_name (i := 5) sc_places_told.nd rfl (Or.inr rfl)) (pss_cons (ps_set (i := 6) sc_places_told.nd rfl (Or.inl rfl) (pe_ifExp (pt_cmpR (k_ne (K := K) rfl hr.units) (pv 5) (pe_tup pa_nil) (nomark _)) (pe_op (k_add (K := K) rfl) (pe_ix (k_ix (K := K) rfl) (pv 5) (pe_un un_neg pe_int) (fun _ _ => rfl)) pe_int) pe_int)) (pss_one (ps_expr (k_bm (K := K) rfl PySem.F.plainAttrs_list PySem.F.slot_list_extend PySem.F.type_list_extend mt_extend (pv 4) (pa_cons (pe_lc (own := [("place", 7)]) (g := gName 7) rfl sc_places_told.nd (pi_range2 rfl T.z_range (pa_cons (pv 6) (pa_cons (pe_op (k_add (K := K) rfl) (pe_callB (k_len (K := K) rfl) (by rfl) T.z_len bt_len (pa_cons (pv 0) pa_nil)) pe_int) pa_nil))) (blkOk_by (by kernel_rfl)) (fun _ _ _ _ _ => (pg_name (i := 7) sc_places_told.nd rfl (Or.inl rfl))) (fun _ _ _ _ _ => (pts_one (pt_val (pe_call (ok_fits_on T) hr (by rfl) T.g_fits_on T.F_fits_on.kp T.b_fits_on .nil pass0 (pa_cons (pv 0) (pa_cons (pv 1) (pa_cons (pv 5) (pa_cons (pv 7) pa_nil)))))))) (fun _ _ _ _ _ => (pe_tup (k_star (K := K) rfl (pv 5) (pa_cons (pv 7) pa_nil))))) pa_nil)))))) (pss_one (ps_set (i := 2) sc_places_told.nd rfl (Or.inl rfl) (pv 4)))))) (pss_one (ps_ret (pv 2))))), ?_⟩
  rintro ⟨ns, pat⟩ hx
  tm_at "go"
  obtain ⟨h8, h7⟩ : ns.length ≤ 8 ∧ pat.length ≤ 7 := hx
  have z1 : 1 ≤ sizeLine := by rw [sizeLine_eq]; decide
  refine' sq_asgL (le_lst (de_cons (ee_tup de_nil (by rw [sizeLine_eq]; decide)) de_nil) (show 1 ≤ sizeLine from z1)) fun a0 => ?_
  refine' sq (N' := fun e => ∃ a p q r s, e = [.d (tuI ns), .d (tuI pat), .own a ((placesL ns pat).map tuI), p, s, q, r, .un]) ?_ ?_
  · refine' se_for (ie_range1 (de_cons (ee_len (ee_var rfl) (.tuple _)) de_nil) ?_) (fun i e => ∃ a p q r s, e = [.d (tuI ns), .d (tuI pat), .own a ((lapP ns pat i).map tuI), p, s, q, r, .un]) ?_ ?_ ?_
    · rw [List.length_map]
      omega
    · exact ⟨_, _, _, _, _, rfl⟩
    · rintro i x env' hx ⟨a, p, q, r, s, rfl⟩
      have hi : i < pat.length := by
        have := (List.getElem?_eq_some_iff.mp hx).1
        rw [rngD_I, List.length_map, rngI_len, List.length_map] at this
        omega
      refine' turn1 ?_
      refine' sq_asgL (le_lst de_nil (by rw [sizeLine_eq]; decide)) fun a1 => ?_
      refine' sq (N' := fun e => ∃ q r, e = [.d (tuI ns), .d (tuI pat), .own a ((lapP ns pat i).map tuI), .d x, .own a1 ((lapP ns pat (i + 1)).map tuI), q, r, .un]) ?_ ?_
      · refine' se_foro (ie_own rfl) (fun j e => ∃ q r, e = [.d (tuI ns), .d (tuI pat), .own a ((lapP ns pat i).map tuI), .d x, .own a1 ((stepP ns pat ((lapP ns pat i).take j)).map tuI), q, r, .un]) ?_ ?_ ?_ ?_
        · rintro j e ⟨q, r, rfl⟩
          rfl
        · exact ⟨_, _, rfl⟩
        · rintro j y env' hy ⟨q, r, rfl⟩
          rw [List.getElem?_map] at hy
          cases hj : (lapP ns pat i)[j]? with
          | none => rw [hj] at hy; exact nomatch hy
          | some pl =>
            rw [hj] at hy
            obtain rfl : tuI pl = y := by simpa using hy
            have hm := List.mem_of_getElem? hj
            have hjl := (List.getElem?_eq_some_iff.mp hj).1
            obtain ⟨hl, hb⟩ := lapP_ok i pl hm
            have hs := startOf_pos fun i hi => (hb i hi).1
            have hst : startOf pl ≤ 9 := by
              unfold startOf
              split
              · omega
              · rename_i hn
                have := hb _ (List.getLast_mem hn)
                omega
            refine' turn1 ?_
            refine' sq_asg (x := .int (startOf pl)) ?_ ?_
            · refine' ee_ifB (c := !PyData.eqv (tuI pl) (.tuple [])) (te_test (ee_opN (ee_var rfl) (ee_tup (b := false) de_nil (by rw [sizeLine_eq]; decide)) ⟨shaped_ti _, shaped_t0⟩)) ?_ ?_
              all_goals intro hk
              all_goals rw [eqv_t0] at hk
              · have hn : pl ≠ [] := fun h => by subst h; exact nomatch hk
                have e : startOf pl = pl.getLast hn + 1 := by unfold startOf; rw [dif_neg hn]
                rw [e]
                exact ee_op (ee_op (ee_var rfl) (ee_neg ee_int) (rv_ixT (atI_lastI hn))) ee_int rv_addI
              · have hn : pl = [] := by cases pl with
                  | nil => rfl
                  | cons a l => exact nomatch hk
                subst hn
                exact ee_int
            · have hl8 : ((List.map PyData.int ns).length : Int) = ns.length := by rw [List.length_map]
              refine' se_extend (a := a1) rfl (LEv.eed (le_lc1 (em := PyData.int) (ns := candL ns pl) (p := fun q => fitsL ns pat pl q) (f := fun q => tuI (pl ++ [q])) ?_ rfl (fun n hn => ?_) (fun n hn _ => ?_) ?_)) ?_ ?_
              · have hi := ie_range2 (P := Pm.pure K) (env := [Ent.d (tuI ns), .d (tuI pat), .own a ((lapP ns pat i).map tuI), .d x, .own a1 ((stepP ns pat ((lapP ns pat i).take j)).map tuI), .d (tuI pl), .d (.int (startOf pl)), .un]) (de_cons (ee_var (i := 6) rfl) (de_cons (ee_op (ee_len (ee_var (i := 0) rfl) (.tuple _)) (ee_int (i := 1)) rv_addI) de_nil)) (by rw [hl8]; omega)
                rw [rngD_I, hl8] at hi
                exact hi
              · have := mem_rngI.mp hn
                exact te_B (ev_fits_on (ee_var rfl) (ee_var rfl) (ee_var rfl) (ee_var rfl) ⟨hb, by omega, by omega⟩)
              · have e : tuI (pl ++ [n]) = .tuple (pl.map .int ++ [.int n]) := by unfold tuI; rw [List.map_append]; rfl
                rw [e]
                refine' ee_tup (de_star (ee_var rfl) (de_cons (ee_var rfl) de_nil)) ?_
                rw [List.length_append, List.length_map, sizeLine_eq, hl]
                show i + 1 ≤ _
                omega
              · unfold candL
                rw [rngI_len, sizeLine_eq]
                omega
              · have e2 : List.map (fun q => tuI (pl ++ [q])) (List.filter (fun q => fitsL ns pat pl q) (candL ns pl)) = (extL ns pat pl).map tuI := by unfold extL; rw [List.map_map]; rfl
                rw [e2, List.length_map, List.length_map]
                have h1 := flat_len (extL ns pat) 8 ((lapP ns pat i).take j) fun pl hp => extL_len h8 fun k hk => ((lapP_ok i pl (List.mem_of_mem_take hp)).2 k hk).1
                have h2 : ((lapP ns pat i).take j).length = j := by rw [List.length_take]; omega
                have h3 := extL_len (pat := pat) (pl := pl) h8 fun k hk => (hb k hk).1
                have h4 := lapP_sz (pat := pat) h8 (k := i) (by omega)
                have h5 : (stepP ns pat ((lapP ns pat i).take j)).length ≤ 8 * ((lapP ns pat i).take j).length := h1
                rw [h2] at h5
                omega
              · refine ⟨.d (tuI pl), .d (.int (startOf pl)), ?_⟩
                have e : stepP ns pat ((lapP ns pat i).take (j + 1)) = stepP ns pat ((lapP ns pat i).take j) ++ extL ns pat pl := by
                  rw [take_get hj]
                  unfold stepP
                  simp
                have e2 : List.map (fun q => tuI (pl ++ [q])) (List.filter (fun q => fitsL ns pat pl q) (candL ns pl)) = (extL ns pat pl).map tuI := by unfold extL; rw [List.map_map]; rfl
                rw [e, List.map_append, ← e2]
                rfl
        · rintro env' ⟨q, r, rfl⟩
          refine ⟨q, r, ?_⟩
          rw [List.length_map, List.take_length]
          rfl
      · rintro env' ⟨q, r, rfl⟩
        refine' se_move rfl (by decide) (show 2 < 8 by decide) ?_
        exact ⟨_, _, _, _, _, rfl⟩
    · rintro env' ⟨a, p, q, r, s, rfl⟩
      refine ⟨a, p, q, r, s, ?_⟩
      rw [rngD_I, List.length_map, rngI_len, List.length_map]
      rfl
  · rintro env' ⟨a, p, q, r, s, rfl⟩
    refine' se_retD (ee_own rfl) rfl
--EV ev_places_told 3
theorem ev_places_told {pm : Pm} {env : List Ent} {E : XK} {ta tb : TE} {ns pat : List Int} (ha : EEd pm false ta env (tuI ns)) (hb : EEd pm false tb env (tuI pat)) (h : ns.length ≤ 8 ∧ pat.length ≤ 7) : EEd pm false (tCall (SpF (.pure pm.K) sp_places_told) [] E (tCons ta (tCons tb tNil))) env (.list ((placesL ns pat).map tuI)) :=
  ee_fn0 (ns, pat) (ae_cons ha (ae_cons hb ae_nil)) h

local macro_rules | `(tactic| tm_at "one") => `(tactic| first
  | with_reducible refine' ev_places_told ?_ ?_ ?_)
def holdsL (ns pat : List Int) : Bool := !(placesL ns pat).isEmpty
abbrev sp_holds_told : FSp := .fn (fun x : List Int × List Int => [.d (tuI x.1), .d (tuI x.2)]) (fun x => x.1.length ≤ 8 ∧ x.2.length ≤ 7) fun x => .bool (holdsL x.1 x.2)
theorem ok_holds_told (T : Tx w K mg) : FnOk P w K mg base CX0 3 T.a_holds_told T.fd_holds_told ["row", "pattern"] (SpF (.pure K) sp_holds_told) := by
  refine fn_ok T.F_holds_told sc_holds_told (fun _ => rfl) fun cdv A outer s H E hr => ⟨_, (pss_one (ps_ret (pe_cmpR (k_ne (K := K) rfl hr.units) (pe_call (ok_places_told T) hr (by rfl) T.g_places_told T.F_places_told.kp T.b_places_told .nil pass0 (pa_cons (pv 0) (pa_cons (pv 1) pa_nil))) (pe_lst pa_nil) (nomark _)))), ?_⟩
  rintro ⟨ns, pat⟩ hx
  tm_at "go"
  refine' se_retD (ee_opN (b2 := false) (ev_places_told (ee_var rfl) (ee_var rfl) hx) (LEv.eed (le_lst de_nil (by rw [sizeLine_eq]; decide))) ⟨shaped_lti _, shaped_l0⟩) ?_
  show PyData.bool _ = PyData.bool _
  rw [eqv_l0]
  show PyData.bool (!((placesL ns pat).map tuI).isEmpty) = PyData.bool (!(placesL ns pat).isEmpty)
  rw [List.isEmpty_map]
--EV ev_holds_told 3
theorem ev_holds_told {pm : Pm} {env : List Ent} {E : XK} {ta tb : TE} {ns pat : List Int} (ha : EEd pm false ta env (tuI ns)) (hb : EEd pm false tb env (tuI pat)) (h : ns.length ≤ 8 ∧ pat.length ≤ 7) : EEd pm false (tCall (SpF (.pure pm.K) sp_holds_told) [] E (tCons ta (tCons tb tNil))) env (.bool (holdsL ns pat)) :=
  ee_fn0 (ns, pat) (ae_cons ha (ae_cons hb ae_nil)) h

local macro_rules | `(tactic| tm_at "one") => `(tactic| first
  | with_reducible refine' ev_holds_told ?_ ?_ ?_)
end
end K71
namespace K71
open Fw PySem PySem.Spec PyProof.Rows L2
local macro_rules | `(tactic| tm_at "one") => `(tactic| first
  | with_reducible exact ee_int
  | with_reducible exact ee_str
  | with_reducible exact ee_bl
  | with_reducible exact ee_non
  | ((with_reducible refine' ee_var ?hv); case hv => rfl)
  | ((with_reducible refine' ee_own ?hv); case hv => rfl)
  | with_reducible refine' ee_andV ?_ (fun hAnd => ?_)
  | with_reducible refine' ee_orV ?_ (fun hOr => ?_)
  | with_reducible refine' ee_notV ?_
  | with_reducible refine' ee_if ?_ (fun hIf => ?_) (fun hIf => ?_)
  | with_reducible refine' te_B ?_
  | with_reducible refine' te_test ?_
  | with_reducible refine' te_and ?_ (fun hAnd => ?_)
  | with_reducible refine' te_or ?_ (fun hOr => ?_)
  | with_reducible refine' te_not ?_
  | with_reducible exact te_yes
  | with_reducible refine' ee_chain ?_ ?_ ?_ (fun hCh => ?_) (fun hCh => ?_)
  | with_reducible refine' ee_isInt ?_
  | with_reducible refine' ee_isBool ?_
  | with_reducible refine' ee_isStr ?_
  | with_reducible refine' ee_isTup ?_
  | with_reducible refine' ee_isLst ?_
  | with_reducible refine' ee_neg ?_
  | with_reducible refine' ee_revT ?_
  | with_reducible refine' ee_opC ?_ ?_
  | with_reducible refine' ee_opE ?_ ?_ ?_
  | with_reducible refine' ee_opN ?_ ?_ ?_
  | with_reducible refine' ee_op ?_ ?_ ?_
  | with_reducible refine' ee_sl ?_ ?_ ?_ ?_
  | with_reducible exact oe_none
  | with_reducible refine' oe_some ?_
  | with_reducible refine' ee_len ?_ ?_
  | with_reducible refine' ee_tup ?_ ?_
  | with_reducible refine' LEv.eed (le_lst ?_ ?_)
  | with_reducible refine' le_lst ?_ ?_
  | with_reducible refine' ee_cb ?_ ?_
  | with_reducible exact de_nil
  | with_reducible refine' de_cons ?_ ?_
  | with_reducible refine' de_star ?_ ?_
  | with_reducible exact ae_nil
  | ((with_reducible refine' ae_raw ?hv ?_); case hv => rfl)
  | with_reducible refine' ae_cons ?_ ?_
  | with_reducible exact rv_addI
  | with_reducible refine' rv_addL ?_
  | with_reducible refine' rv_addT ?_
  | with_reducible refine' rv_addS ?_
  | with_reducible refine' rv_I0 (.int _)
  | with_reducible refine' rv_I0 (.bl _)
  | with_reducible refine' rv_eq ?_ ?_
  | with_reducible refine' rv_ne ?_ ?_
  | with_reducible exact rv_isN
  | with_reducible exact rv_notN
  | with_reducible refine' rv_ixL ?_
  | with_reducible refine' rv_ixT ?_
  | with_reducible exact sv_L
  | with_reducible exact sv_T
  | with_reducible refine' sv_S ?_
  | with_reducible exact rc_lenL
  | with_reducible exact rc_lenT
  | with_reducible exact rc_tupL
  | with_reducible exact rc_tupT
  | with_reducible exact rc_int1
  | with_reducible exact rc_all
  | with_reducible exact rc_any
  | with_reducible refine' ie_list ?_
  | with_reducible refine' ie_tup ?_
  | with_reducible refine' ie_range1 ?_ ?_
  | with_reducible refine' ie_range2 ?_ ?_
  | with_reducible refine' ie_enum0 ?_
  | with_reducible refine' ie_enum1 ?_ ?_
  | with_reducible refine' ie_str ?_)
local macro_rules | `(tactic| tm_at "ev") => `(tactic| repeat' tm_at "one")
local macro_rules | `(tactic| tm_at "go") => `(tactic| dsimp only [padN, poOf, FSp.fn, nox_K, cx_K, List.set])
local macro_rules | `(tactic| tm_at "one") => `(tactic| first
  | with_reducible refine' ev_is_number ?_
  | with_reducible refine' ev_is_between ?_ ?_ ?_
  | with_reducible refine' ev_need_between ?_ ?_ ?_ ?_ ?_
  | with_reducible refine' ev_has_each ?_ ?_
  | with_reducible refine' ev_is_row ?_
  | with_reducible refine' ev_need_row ?_ ?_
  | with_reducible refine' ev_undone_told ?_ ?_
  | with_reducible refine' ev_undone_row ?_ ?_
  | with_reducible refine' ev_turned_row ?_ ?_
  | with_reducible refine' ev_upturned_row ?_ ?_
  | with_reducible refine' ev_standing_told ?_ ?_
  | with_reducible refine' ev_fits_on ?_ ?_ ?_ ?_ ?_
  | with_reducible refine' ev_places_told ?_ ?_ ?_
  | with_reducible refine' ev_holds_told ?_ ?_ ?_)
section
variable {P : Program} {w : World} {K : PySem.W.Frag} {mg : Str → Option Value} {base : Heap}
theorem cut_take {xs : List PyData} {k : Int} (h : 0 ≤ k ∧ k ≤ xs.length) : Fw.cutD xs none (some k) = xs.take k.toNat := by
  have e : k = ((k.toNat : Nat) : Int) := by omega
  unfold Fw.cutD
  rw [HT.sIx_none, e, HT.sIx_nat, List.drop_zero]
  congr 1
  omega
theorem cut_drop {xs : List PyData} {k : Int} (h : 0 ≤ k ∧ k ≤ xs.length) : Fw.cutD xs (some k) none = xs.drop k.toNat := by
  have e : k = ((k.toNat : Nat) : Int) := by omega
  unfold Fw.cutD
  rw [HT.sIx_none, e, HT.sIx_nat, Nat.min_eq_left (by omega), ← e]
  exact List.take_of_length_le (by rw [List.length_drop]; omega)
def outL (ns : List Int) (p : Int) : List Int := stL (ns.take (p - 1).toNat ++ ns.drop p.toNat)
abbrev sp_taken_out : FSp := .fn (fun x : List Int × Int => [.d (.tuple (x.1.map .int)), .d (.int x.2)]) (fun x => RowOk x.1 ∧ 2 ≤ x.1.length ∧ 1 ≤ x.2 ∧ x.2 ≤ x.1.length) fun x => .tuple ((outL x.1 x.2).map .int)
theorem ok_taken_out (T : Tx w K mg) : FnOk P w K mg base CX0 6 T.a_taken_out T.fd_taken_out ["row", "place"] (SpF (.pure K) sp_taken_out) := by
  refine fn_ok T.F_taken_out sc_taken_out (fun _ => rfl) fun cdv A outer s H E hr => ⟨_, (pss_cons (ps_expr (pe_call (ok_need_row T) hr (by rfl) T.g_need_row T.F_need_row.kp T.b_need_row .nil passL (pa_cons (pv 0) pa_nil))) (pss_cons (ps_expr (pe_call (ok_need_between T) (hr.mono (by decide)) (by rfl) T.g_need_between T.F_need_between.kp T.b_need_between .nil pass0 (pa_cons (pv 1) (pa_cons pe_int (pa_cons (pe_callB (k_len (K := K) rfl) (by rfl) T.z_len bt_len (pa_cons (pv 0) pa_nil)) (pa_cons pe_str pa_nil)))))) (pss_cons (ps_if (pt_cmpR (k_eq (K := K) rfl hr.units) (pe_callB (k_len (K := K) rfl) (by rfl) T.z_len bt_len (pa_cons (pv 0) pa_nil)) pe_int (nomark _)) (pss_one ps_never) pss_nil) (pss_one (ps_ret (pe_call (ok_standing_told T) (hr.mono (by decide)) (by rfl) T.g_standing_told T.F_standing_told.kp T.b_standing_told .nil pass0 (pa_cons (pe_tup (k_star (K := K) rfl (pe_slice (k_sl (K := K) rfl) (pv 0) po_none (po_some (pe_op op_sub (pv 1) pe_int))) (k_star (K := K) rfl (pe_slice (k_sl (K := K) rfl) (pv 0) (po_some (pv 1)) po_none) pa_nil))) pa_nil))))))), ?_⟩
  rintro ⟨ns, p⟩ hx
  tm_at "go"
  obtain ⟨hr, h2, h3, h4⟩ : RowOk ns ∧ 2 ≤ ns.length ∧ 1 ≤ p ∧ p ≤ ns.length := hx
  have hl : (ns.map PyData.int).length = ns.length := List.length_map ..
  refine' sq_drop (ev_need_row (ee_var rfl) (isRowD_iff.mpr hr)) ?_
  refine' sq_drop (ev_need_between (ee_var rfl) ee_int (ee_len (ee_var rfl) (.tuple _)) ee_str ?_) ?_
  · show (decide (1 ≤ p) && decide (p ≤ ((ns.map PyData.int).length : Int))) = true
    rw [hl, decide_eq_true h3, decide_eq_true h4]; rfl
  · refine' sq_if (k := false) (TEv.is (te_test (ee_opE (ee_len (ee_var rfl) (.tuple _)) ee_int ⟨shaped_i _, shaped_i _⟩)) ?_) (fun h => nomatch h) (fun _ => sq_next ?_)
    · rw [eqv_i, hl]
      exact decide_eq_false (by omega)
    · have e : (ns.take (p - 1).toNat ++ ns.drop p.toNat).map PyData.int = Fw.cutD (ns.map .int) none (some (p - 1)) ++ (Fw.cutD (ns.map .int) (some p) none ++ []) := by
        rw [cut_take (by rw [hl]; omega), cut_drop (by rw [hl]; omega), List.map_append, List.map_take, List.map_drop, List.append_nil]
      refine' se_retD (ev_standing_told (ns := ns.take (p - 1).toNat ++ ns.drop p.toNat) ?_ ?_) rfl
      · rw [e]
        refine' ee_tup (de_star (ee_sl (ee_var rfl) oe_none (oe_some (ee_ops (ee_var rfl) ee_int (rv_I0 (.int _)))) sv_T) (de_star (ee_sl (ee_var rfl) (oe_some (ee_var rfl)) oe_none sv_T) de_nil)) ?_
        rw [← e, sizeLine_eq]
        simp
        have := hr.l8
        omega
      · simp
        have := hr.l8
        omega
--EV ev_taken_out 3
theorem ev_taken_out {pm : Pm} {env : List Ent} {E : XK} {ta tb : TE} {ns : List Int} {p : Int} (ha : EEd pm false ta env (.tuple (ns.map .int))) (hb : EEd pm false tb env (.int p)) (h : RowOk ns ∧ 2 ≤ ns.length ∧ 1 ≤ p ∧ p ≤ ns.length) : EEd pm false (tCall (SpF (.pure pm.K) sp_taken_out) [] E (tCons ta (tCons tb tNil))) env (.tuple ((outL ns p).map .int)) :=
  ee_fn0 (ns, p) (ae_cons ha (ae_cons hb ae_nil)) h

local macro_rules | `(tactic| tm_at "one") => `(tactic| first
  | with_reducible refine' ev_taken_out ?_ ?_ ?_)
end
end K71
namespace K71
open Fw PySem PySem.Spec PyProof.Rows L2
local macro_rules | `(tactic| tm_at "one") => `(tactic| first
  | with_reducible exact ee_int
  | with_reducible exact ee_str
  | with_reducible exact ee_bl
  | with_reducible exact ee_non
  | ((with_reducible refine' ee_var ?hv); case hv => rfl)
  | ((with_reducible refine' ee_own ?hv); case hv => rfl)
  | with_reducible refine' ee_andV ?_ (fun hAnd => ?_)
  | with_reducible refine' ee_orV ?_ (fun hOr => ?_)
  | with_reducible refine' ee_notV ?_
  | with_reducible refine' ee_if ?_ (fun hIf => ?_) (fun hIf => ?_)
  | with_reducible refine' te_B ?_
  | with_reducible refine' te_test ?_
  | with_reducible refine' te_and ?_ (fun hAnd => ?_)
  | with_reducible refine' te_or ?_ (fun hOr => ?_)
  | with_reducible refine' te_not ?_
  | with_reducible exact te_yes
  | with_reducible refine' ee_chain ?_ ?_ ?_ (fun hCh => ?_) (fun hCh => ?_)
  | with_reducible refine' ee_isInt ?_
  | with_reducible refine' ee_isBool ?_
  | with_reducible refine' ee_isStr ?_
  | with_reducible refine' ee_isTup ?_
  | with_reducible refine' ee_isLst ?_
  | with_reducible refine' ee_neg ?_
  | with_reducible refine' ee_revT ?_
  | with_reducible refine' ee_opC ?_ ?_
  | with_reducible refine' ee_opE ?_ ?_ ?_
  | with_reducible refine' ee_opN ?_ ?_ ?_
  | with_reducible refine' ee_op ?_ ?_ ?_
  | with_reducible refine' ee_sl ?_ ?_ ?_ ?_
  | with_reducible exact oe_none
  | with_reducible refine' oe_some ?_
  | with_reducible refine' ee_len ?_ ?_
  | with_reducible refine' ee_tup ?_ ?_
  | with_reducible refine' LEv.eed (le_lst ?_ ?_)
  | with_reducible refine' le_lst ?_ ?_
  | with_reducible refine' ee_cb ?_ ?_
  | with_reducible exact de_nil
  | with_reducible refine' de_cons ?_ ?_
  | with_reducible refine' de_star ?_ ?_
  | with_reducible exact ae_nil
  | ((with_reducible refine' ae_raw ?hv ?_); case hv => rfl)
  | with_reducible refine' ae_cons ?_ ?_
  | with_reducible exact rv_addI
  | with_reducible refine' rv_addL ?_
  | with_reducible refine' rv_addT ?_
  | with_reducible refine' rv_addS ?_
  | with_reducible refine' rv_I0 (.int _)
  | with_reducible refine' rv_I0 (.bl _)
  | with_reducible refine' rv_eq ?_ ?_
  | with_reducible refine' rv_ne ?_ ?_
  | with_reducible exact rv_isN
  | with_reducible exact rv_notN
  | with_reducible refine' rv_ixL ?_
  | with_reducible refine' rv_ixT ?_
  | with_reducible exact sv_L
  | with_reducible exact sv_T
  | with_reducible refine' sv_S ?_
  | with_reducible exact rc_lenL
  | with_reducible exact rc_lenT
  | with_reducible exact rc_tupL
  | with_reducible exact rc_tupT
  | with_reducible exact rc_int1
  | with_reducible exact rc_all
  | with_reducible exact rc_any
  | with_reducible refine' ie_list ?_
  | with_reducible refine' ie_tup ?_
  | with_reducible refine' ie_range1 ?_ ?_
  | with_reducible refine' ie_range2 ?_ ?_
  | with_reducible refine' ie_enum0 ?_
  | with_reducible refine' ie_enum1 ?_ ?_
  | with_reducible refine' ie_str ?_)
local macro_rules | `(tactic| tm_at "ev") => `(tactic| repeat' tm_at "one")
local macro_rules | `(tactic| tm_at "go") => `(tactic| dsimp only [padN, poOf, FSp.fn, nox_K, cx_K, List.set])
local macro_rules | `(tactic| tm_at "one") => `(tactic| first
  | with_reducible refine' ev_is_number ?_
  | with_reducible refine' ev_is_between ?_ ?_ ?_
  | with_reducible refine' ev_need_between ?_ ?_ ?_ ?_ ?_
  | with_reducible refine' ev_has_each ?_ ?_
  | with_reducible refine' ev_is_row ?_
  | with_reducible refine' ev_need_row ?_ ?_
  | with_reducible refine' ev_undone_told ?_ ?_
  | with_reducible refine' ev_undone_row ?_ ?_
  | with_reducible refine' ev_turned_row ?_ ?_
  | with_reducible refine' ev_upturned_row ?_ ?_
  | with_reducible refine' ev_standing_told ?_ ?_
  | with_reducible refine' ev_fits_on ?_ ?_ ?_ ?_ ?_
  | with_reducible refine' ev_places_told ?_ ?_ ?_
  | with_reducible refine' ev_holds_told ?_ ?_ ?_
  | with_reducible refine' ev_taken_out ?_ ?_ ?_)
section
variable {P : Program} {w : World} {K : PySem.W.Frag} {mg : Str → Option Value} {base : Heap}
abbrev sp_mark_words : FSp := .fn (fun _ : Unit => []) (fun _ => True) fun _ => wordsD
theorem ok_mark_words (T : Tx w K mg) : FnOk P w K mg base CX0 1 T.a_mark_words T.fd_mark_words [] (SpF (.pure K) sp_mark_words) := by
  refine fn_ok T.F_mark_words sc_mark_words (fun _ => rfl) fun cdv A outer s H E hr => ⟨_, (pss_one (ps_ret (pe_glob (v := .ref T.a_MARKS) (by rfl) T.v_MARKS rfl))), ?_⟩
  intro x hx
  tm_at "go"
  refine' se_retD (b := false) (ee_globD T.d_MARKS) rfl

def avoids (ns : List Int) (ps : List (List Int)) : Bool := !(ps.map fun p => holdsL ns p).any id
theorem shunZ_short : ∀ q ∈ shunZ, q.2.length ≤ 7 ∧ ∀ p ∈ q.2, p.length ≤ 7 := by decide
abbrev sp_has_mark : FSp := .fn (fun x : List Int × Str × List (List Int) => [.d (tuI x.1), .d (.str x.2.1)]) (fun x => x.1.length ≤ 8 ∧ (x.2.1, x.2.2) ∈ shunZ) fun x => .bool (avoids x.1 x.2.2)
theorem ok_has_mark (T : Tx w K mg) : FnOk P w K mg base CX0 4 T.a_has_mark T.fd_has_mark ["row", "mark"] (SpF (.pure K) sp_has_mark) := by
  refine fn_ok T.F_has_mark sc_has_mark (fun _ => rfl) fun cdv A outer s H E hr => ⟨_, (pss_one (ps_ret (pe_not (pe_callB (k_any (K := K) rfl rfl) (by rfl) T.z_any bt_any (pa_cons (pe_lc (own := [("pattern", 2)]) (g := gName 2) rfl sc_has_mark.nd (k_seq (K := K) rfl (pe_ix (k_kd (K := K) (w := w) rfl rfl) (pe_glob (v := .ref T.a_SHUNNED) (by rfl) T.v_SHUNNED rfl) (pv 1) (fun _ _ => rfl))) (blkOk_by (by kernel_rfl)) (fun _ _ _ _ _ => (pg_name (i := 2) sc_has_mark.nd rfl (Or.inl rfl))) (fun _ _ _ _ _ => pts_nil) (fun _ _ _ _ _ => (pe_call (ok_holds_told T) hr (by rfl) T.g_holds_told T.F_holds_told.kp T.b_holds_told .nil pass0 (pa_cons (pv 0) (pa_cons (pv 2) pa_nil))))) pa_nil))))), ?_⟩
  rintro ⟨ns, x, ps⟩ hx
  tm_at "go"
  obtain ⟨h8, hm⟩ : ns.length ≤ 8 ∧ (x, ps) ∈ shunZ := hx
  obtain ⟨h1, h2⟩ := shunZ_short _ hm
  have hd : (x, PyData.tuple (ps.map tuZ)) ∈ shunD := List.mem_map.mpr ⟨_, hm, rfl⟩
  refine' se_retD (ee_notV (ee_any (bs := ps.map fun p => holdsL ns p) (LEv.eed (le_lc1Y (em := tuZ) (ns := ps) (f := fun p => .bool (holdsL ns p)) (ie_tup (ee_kd (P := Pm.pure K) (env := [Ent.d (tuI ns), .d (.str x), .un]) T.d_SHUNNED (b := false) (ee_var (i := 1) rfl) hd)) rfl (fun p hp => ?_) ?_)) ?_)) rfl
  · exact ev_holds_told (ee_var rfl) (ee_var rfl) ⟨h8, h2 p hp⟩
  · have h1 : ps.length ≤ 7 := h1
    rw [sizeLine_eq]
    omega
  · rw [List.map_map]
    rfl
--EV ev_has_mark 3
theorem ev_has_mark {pm : Pm} {env : List Ent} {E : XK} {ta tb : TE} {ns : List Int} {x : Str} {ps : List (List Int)} (ha : EEd pm false ta env (tuI ns)) (hb : EEd pm false tb env (.str x)) (h : ns.length ≤ 8 ∧ (x, ps) ∈ shunZ) : EEd pm false (tCall (SpF (.pure pm.K) sp_has_mark) [] E (tCons ta (tCons tb tNil))) env (.bool (avoids ns ps)) :=
  ee_fn0 (ns, x, ps) (ae_cons ha (ae_cons hb ae_nil)) h

local macro_rules | `(tactic| tm_at "one") => `(tactic| first
  | with_reducible refine' ev_has_mark ?_ ?_ ?_)
def marksS (ns : List Int) : List Str := (shunZ.filter fun q => avoids ns q.2).map fun q => q.1
abbrev marksD (ns : List Int) : PyData := .tuple ((marksS ns).map .str)
abbrev sp_marks_told : FSp := .fn (fun ns : List Int => [.d (tuI ns)]) (fun ns => ns.length ≤ 8) fun ns => marksD ns
theorem ok_marks_told (T : Tx w K mg) : FnOk P w K mg base CX0 5 T.a_marks_told T.fd_marks_told ["row"] (SpF (.pure K) sp_marks_told) := by
  refine fn_ok T.F_marks_told sc_marks_told (fun _ => rfl) fun cdv A outer s H E hr => ⟨_, (pss_one (ps_ret (pe_callTy (k_tuple (K := K) rfl) (by rfl) T.z_tuple bt_tuple (pa_cons (pe_lc (own := [("mark", 1)]) (g := gName 1) rfl sc_marks_told.nd (k_seq (K := K) rfl (pe_glob (v := .ref T.a_MARKS) (by rfl) T.v_MARKS rfl)) (blkOk_by (by kernel_rfl)) (fun _ _ _ _ _ => (pg_name (i := 1) sc_marks_told.nd rfl (Or.inl rfl))) (fun _ _ _ _ _ => (pts_one (pt_val (pe_call (ok_has_mark T) hr (by rfl) T.g_has_mark T.F_has_mark.kp T.b_has_mark .nil pass0 (pa_cons (pv 0) (pa_cons (pv 1) pa_nil)))))) (fun _ _ _ _ _ => (pv 1))) pa_nil)))), ?_⟩
  intro ns hx
  tm_at "go"
  have h8 : ns.length ≤ 8 := hx
  refine' se_retD (ee_tupL (LEv.eed (le_lc1 (em := fun q : Str × List (List Int) => PyData.str q.1) (ns := shunZ) (p := fun q => avoids ns q.2) (f := fun q => .str q.1) (ie_tup (ee_globD (P := Pm.pure K) (d := .tuple (shunZ.map fun q => .str q.1)) T.d_MARKS)) rfl (fun q hq => ?_) (fun q hq _ => ee_var rfl) ?_))) ?_
  · exact te_B (ev_has_mark (ee_var rfl) (ee_var rfl) ⟨h8, hq⟩)
  · rw [sizeLine_eq]
    decide
  · show PyData.tuple _ = PyData.tuple _
    unfold marksS
    rw [List.map_map]
    rfl
--EV ev_marks_told 2
theorem ev_marks_told {pm : Pm} {env : List Ent} {E : XK} {ta : TE} {ns : List Int} (ha : EEd pm false ta env (tuI ns)) (h : ns.length ≤ 8) : EEd pm false (tCall (SpF (.pure pm.K) sp_marks_told) [] E (tCons ta tNil)) env (marksD ns) :=
  ee_fn0 ns (ae_cons ha ae_nil) h

local macro_rules | `(tactic| tm_at "one") => `(tactic| first
  | with_reducible refine' ev_marks_told ?_ ?_)
abbrev sp_marks_of (C : Addr) : FSp := { α := PyData, args := fun x => [.d x], pre := fun _ => True, post := fun x z => isRowD x = true ∧ ∀ ns, x = tuI ns → z = marksD ns, err := fun x D fs => isRowD x = false ∧ D = C ∧ fs = [] }
theorem isRowD_int {x : PyData} (h : isRowD x = true) : ∃ ns : List Int, x = tuI ns := by
  cases x with
  | tuple ds =>
    have h1 : (decide (1 ≤ ds.length) && decide (ds.length ≤ 8) && eachD ds) = true := h
    rw [Bool.and_eq_true] at h1
    have h2 := h1.2
    unfold eachD at h2
    rw [Bool.and_eq_true] at h2
    exact ⟨intsOf ds, congrArg PyData.tuple (all_ints h2.1)⟩
  | _ => exact nomatch h
theorem ok_marks_of (T : Tx w K mg) : FnOk P w K mg base (L2.CX P w) 6 T.a_marks_of T.fd_marks_of ["row"] (SpF (.pure K) (sp_marks_of T.c_BadRow)) := by
  refine fn_okX T.F_marks_of sc_marks_of (fun _ => rfl) fun cdv A outer s H E hr => ⟨_, (pss_cons (ps_expr (pe_call (ok_need_row T) hr (by rfl) T.g_need_row T.F_need_row.kp T.b_need_row .nil (passes_call (takes_of rfl rfl rfl rfl) (fun _ _ _ _ h => h)) (pa_cons (pv 0) pa_nil))) (pss_one (ps_ret (pe_call (ok_marks_told T) hr (by rfl) T.g_marks_told T.F_marks_told.kp T.b_marks_told .nil pass0 (pa_cons (pv 0) pa_nil))))), ?_⟩
  intro x hx
  tm_at "go"
  refine' sq_dropX (F := sp_need_row T.c_BadRow) x (ae_cons (ee_var rfl) ae_nil) trivial (fun z hz => ?_) (fun C fs h => h)
  obtain ⟨ns, rfl⟩ := isRowD_int hz.1
  refine' se_retD (b := false) (ev_marks_told (ee_var rfl) (isRowD_iff.mp hz.1).l8) ⟨hz.1, fun ms e => ?_⟩
  have e2 : ns.map PyData.int = ms.map PyData.int := by injection e
  have e3 : ns = ms := List.map_inj_right (fun a b h => by injection h) |>.mp e2
  rw [e3]
--EV ev_marks_of 2
theorem ev_marks_of {pm : Pm} {env : List Ent} {E : XK} {C : Addr} {ta : TE} {ns : List Int} (ha : EEd pm false ta env (tuI ns)) (h : RowOk ns) : EEd pm false (tCall (SpF (.pure pm.K) (sp_marks_of C)) [] E (tCons ta tNil)) env (marksD ns) :=
  EEv.imp (ee_call0 (F := sp_marks_of C) (tuI ns) (ae_cons ha ae_nil) trivial fun D fs (hh : isRowD (tuI ns) = false ∧ _) => by rw [isRowD_iff.mpr h] at hh; exact absurd hh.1 (by simp)) fun z (hz : isRowD (tuI ns) = true ∧ ∀ ms, tuI ns = tuI ms → z = marksD ms) => hz.2 ns rfl

local macro_rules | `(tactic| tm_at "one") => `(tactic| first
  | with_reducible refine' ev_marks_of ?_ ?_)
end
end K71
namespace K71
open Fw PySem PySem.Spec PyProof.Rows L2
local macro_rules | `(tactic| tm_at "one") => `(tactic| first
  | with_reducible exact ee_int
  | with_reducible exact ee_str
  | with_reducible exact ee_bl
  | with_reducible exact ee_non
  | ((with_reducible refine' ee_var ?hv); case hv => rfl)
  | ((with_reducible refine' ee_own ?hv); case hv => rfl)
  | with_reducible refine' ee_andV ?_ (fun hAnd => ?_)
  | with_reducible refine' ee_orV ?_ (fun hOr => ?_)
  | with_reducible refine' ee_notV ?_
  | with_reducible refine' ee_if ?_ (fun hIf => ?_) (fun hIf => ?_)
  | with_reducible refine' te_B ?_
  | with_reducible refine' te_test ?_
  | with_reducible refine' te_and ?_ (fun hAnd => ?_)
  | with_reducible refine' te_or ?_ (fun hOr => ?_)
  | with_reducible refine' te_not ?_
  | with_reducible exact te_yes
  | with_reducible refine' ee_chain ?_ ?_ ?_ (fun hCh => ?_) (fun hCh => ?_)
  | with_reducible refine' ee_isInt ?_
  | with_reducible refine' ee_isBool ?_
  | with_reducible refine' ee_isStr ?_
  | with_reducible refine' ee_isTup ?_
  | with_reducible refine' ee_isLst ?_
  | with_reducible refine' ee_neg ?_
  | with_reducible refine' ee_revT ?_
  | with_reducible refine' ee_opC ?_ ?_
  | with_reducible refine' ee_opE ?_ ?_ ?_
  | with_reducible refine' ee_opN ?_ ?_ ?_
  | with_reducible refine' ee_op ?_ ?_ ?_
  | with_reducible refine' ee_sl ?_ ?_ ?_ ?_
  | with_reducible exact oe_none
  | with_reducible refine' oe_some ?_
  | with_reducible refine' ee_len ?_ ?_
  | with_reducible refine' ee_tup ?_ ?_
  | with_reducible refine' LEv.eed (le_lst ?_ ?_)
  | with_reducible refine' le_lst ?_ ?_
  | with_reducible refine' ee_cb ?_ ?_
  | with_reducible exact de_nil
  | with_reducible refine' de_cons ?_ ?_
  | with_reducible refine' de_star ?_ ?_
  | with_reducible exact ae_nil
  | ((with_reducible refine' ae_raw ?hv ?_); case hv => rfl)
  | with_reducible refine' ae_cons ?_ ?_
  | with_reducible exact rv_addI
  | with_reducible refine' rv_addL ?_
  | with_reducible refine' rv_addT ?_
  | with_reducible refine' rv_addS ?_
  | with_reducible refine' rv_I0 (.int _)
  | with_reducible refine' rv_I0 (.bl _)
  | with_reducible refine' rv_eq ?_ ?_
  | with_reducible refine' rv_ne ?_ ?_
  | with_reducible exact rv_isN
  | with_reducible exact rv_notN
  | with_reducible refine' rv_ixL ?_
  | with_reducible refine' rv_ixT ?_
  | with_reducible exact sv_L
  | with_reducible exact sv_T
  | with_reducible refine' sv_S ?_
  | with_reducible exact rc_lenL
  | with_reducible exact rc_lenT
  | with_reducible exact rc_tupL
  | with_reducible exact rc_tupT
  | with_reducible exact rc_int1
  | with_reducible exact rc_all
  | with_reducible exact rc_any
  | with_reducible refine' ie_list ?_
  | with_reducible refine' ie_tup ?_
  | with_reducible refine' ie_range1 ?_ ?_
  | with_reducible refine' ie_range2 ?_ ?_
  | with_reducible refine' ie_enum0 ?_
  | with_reducible refine' ie_enum1 ?_ ?_
  | with_reducible refine' ie_str ?_)
local macro_rules | `(tactic| tm_at "ev") => `(tactic| repeat' tm_at "one")
local macro_rules | `(tactic| tm_at "go") => `(tactic| dsimp only [padN, poOf, FSp.fn, nox_K, cx_K, List.set])
local macro_rules | `(tactic| tm_at "one") => `(tactic| first
  | with_reducible refine' ev_is_number ?_
  | with_reducible refine' ev_is_between ?_ ?_ ?_
  | with_reducible refine' ev_need_between ?_ ?_ ?_ ?_ ?_
  | with_reducible refine' ev_has_each ?_ ?_
  | with_reducible refine' ev_is_row ?_
  | with_reducible refine' ev_need_row ?_ ?_
  | with_reducible refine' ev_undone_told ?_ ?_
  | with_reducible refine' ev_undone_row ?_ ?_
  | with_reducible refine' ev_turned_row ?_ ?_
  | with_reducible refine' ev_upturned_row ?_ ?_
  | with_reducible refine' ev_standing_told ?_ ?_
  | with_reducible refine' ev_fits_on ?_ ?_ ?_ ?_ ?_
  | with_reducible refine' ev_places_told ?_ ?_ ?_
  | with_reducible refine' ev_holds_told ?_ ?_ ?_
  | with_reducible refine' ev_taken_out ?_ ?_ ?_
  | with_reducible refine' ev_has_mark ?_ ?_ ?_
  | with_reducible refine' ev_marks_told ?_ ?_
  | with_reducible refine' ev_marks_of ?_ ?_)
section
variable {P : Program} {w : World} {K : PySem.W.Frag} {mg : Str → Option Value} {base : Heap}
def shL (ns : List Int) : List Int := ns.map fun n => ((ns.filter fun m => decide (m ≤ n)).length : Int)
abbrev sp_law_shape_of : FSp := .fn (fun ns : List Int => [.d (.tuple (ns.map .int))]) (fun ns => ns.length ≤ 1000) fun ns => .tuple ((shL ns).map .int)
theorem ok__law_shape_of (T : Tx w K mg) : FnOk P w K mg base CX0 1 T.a__law_shape_of T.fd__law_shape_of ["numbers"] (SpF (.pure K) sp_law_shape_of) := by
  refine fn_ok T.F__law_shape_of sc__law_shape_of (fun _ => rfl) fun cdv A outer s H E hr => ⟨_, (pss_one (ps_ret (pe_callTy (k_tuple (K := K) rfl) (by rfl) T.z_tuple bt_tuple (pa_cons (pe_lc (own := [("number", 1)]) (g := gName 1) rfl sc__law_shape_of.nd (k_seq (K := K) rfl (pv 0)) (blkOk_by (by kernel_rfl)) (fun _ _ _ _ _ => (pg_name (i := 1) sc__law_shape_of.nd rfl (Or.inr rfl))) (fun _ _ _ _ _ => pts_nil) (fun _ _ _ _ _ => (pe_callB (k_len (K := K) rfl) (by rfl) T.z_len bt_len (pa_cons (pe_lc (own := [("other", 2)]) (g := gName 2) rfl sc__law_shape_of.nd (k_seq (K := K) rfl (pv 0)) (blkOk_by (by kernel_rfl)) (fun _ _ _ _ _ => (pg_name (i := 2) sc__law_shape_of.nd rfl (Or.inl rfl))) (fun _ _ _ _ _ => (pts_one (pt_cmpR op_le (pv 2) (pv 1) (nomark _)))) (fun _ _ _ _ _ => pe_int)) pa_nil)))) pa_nil)))), ?_⟩
  intro ns hx
  tm_at "go"
  have hx : ns.length ≤ 1000 := hx
  have hz : ns.length ≤ sizeLine := by rw [sizeLine_eq]; omega
  refine' se_retD (ee_tupL (LEv.eed (le_lc1Y (em := PyData.int) (ns := ns) (f := fun n => .int ((ns.filter fun m => decide (m ≤ n)).length : Int)) (ie_tup (ee_var rfl)) rfl (fun n _ => ?_) hz))) ?_
  · refine' ee_lenL (LEv.eed (le_lc1 (em := PyData.int) (ns := ns) (p := fun m => decide (m ≤ n)) (f := fun _ => .int 1) (ie_tup (ee_var rfl)) rfl (fun m _ => te_test (ee_opC (ee_var rfl) (ee_var rfl))) (fun m _ _ => ee_int) hz)) ?_
    rw [List.length_map]
  · show PyData.tuple _ = PyData.tuple _
    unfold shL
    rw [List.map_map]; rfl
--EV ev_law_shape_of 2
theorem ev_law_shape_of {pm : Pm} {env : List Ent} {E : XK} {ta : TE} {ns : List Int} (ha : EEd pm false ta env (.tuple (ns.map .int))) (h : ns.length ≤ 1000) : EEd pm false (tCall (SpF (.pure pm.K) sp_law_shape_of) [] E (tCons ta tNil)) env (.tuple ((shL ns).map .int)) :=
  ee_fn0 ns (ae_cons ha ae_nil) h

local macro_rules | `(tactic| tm_at "one") => `(tactic| first
  | with_reducible refine' ev_law_shape_of ?_ ?_)
def lotStep (many : Int) (fs : List (List Int)) (n : Int) : List (List Int) := fs ++ (fs.filter fun l => decide ((l.length : Int) < many)).map fun l => l ++ [n]
def lotAll (many : Int) (ns : List Int) : List (List Int) := ns.foldl (lotStep many) [[]]
def lotsL (many : Int) (ns : List Int) : List (List Int) := (lotAll many ns).filter fun l => decide ((l.length : Int) = many)
theorem lot_ok (many : Int) : ∀ (ns : List Int) (fs : List (List Int)) (c d : Nat), fs.length ≤ c → (∀ l ∈ fs, l.length ≤ d) → (ns.foldl (lotStep many) fs).length ≤ c * 2 ^ ns.length ∧ ∀ l ∈ ns.foldl (lotStep many) fs, l.length ≤ d + ns.length
  | [], fs, c, d, h, h2 => ⟨by simpa using h, by simpa using h2⟩
  | n :: ns, fs, c, d, h, h2 => by
    have h1 := lot_ok many ns (lotStep many fs n) (c * 2) (d + 1) (by
      unfold lotStep
      rw [List.length_append, List.length_map]
      have := List.length_filter_le (fun l : List Int => decide ((l.length : Int) < many)) fs
      omega) (by
      intro l hl
      cases List.mem_append.mp hl with
      | inl h => have := h2 l h; omega
      | inr h =>
        obtain ⟨l0, h0, rfl⟩ := List.mem_map.mp h
        have := h2 l0 (List.mem_filter.mp h0).1
        rw [List.length_append, List.length_singleton]
        omega)
    rw [List.foldl_cons, List.length_cons]
    refine ⟨?_, fun l hl => ?_⟩
    · have := h1.1
      rw [Nat.pow_succ]
      rw [Nat.mul_assoc, Nat.mul_comm 2] at this
      exact this
    · have := h1.2 l hl
      omega
theorem lot_sz (many : Int) {ns : List Int} {k : Nat} (h : ns.length ≤ k) (hk : k ≤ 10) : (lotAll many ns).length ≤ 1024 ∧ ∀ l ∈ lotAll many ns, l.length ≤ 10 := by
  have h1 := lot_ok many ns [[]] 1 0 (by simp) (by simp)
  have h2 : 2 ^ ns.length ≤ 2 ^ 10 := Nat.pow_le_pow_right (by decide) (by omega)
  refine ⟨?_, fun l hl => ?_⟩
  · have h3 := h1.1
    unfold lotAll
    omega
  · have := h1.2 l hl
    omega
abbrev sp_law_lots : FSp := .fn (fun x : List Int × Int => [.d (tuI x.1), .d (.int x.2)]) (fun x => x.1.length ≤ 9) fun x => .list ((lotsL x.2 x.1).map tuI)
theorem ok__law_lots (T : Tx w K mg) : FnOk P w K mg base CX0 1 T.a__law_lots T.fd__law_lots ["row", "many"] (SpF (.pure K) sp_law_lots) := by
  refine fn_ok T.F__law_lots sc__law_lots (fun _ => rfl) fun cdv A outer s H E hr => ⟨_, (pss_cons (ps_set (i := 2) sc__law_lots.nd rfl (Or.inl rfl) (pe_lst (pa_cons (pe_tup pa_nil) pa_nil))) (pss_cons (ps_for PassesOwn.never rfl (k_seq (K := K) rfl (pv 0)) (pg_name (i := 3) sc__law_lots.nd rfl (Or.inr rfl)) (pss_one (ps_set (i := 2) sc__law_lots.nd rfl (Or.inl rfl) (pe_op (k_add (K := K) rfl) (pv 2) (pe_lc (own := [("lot", 4)]) (g := gName 4) rfl sc__law_lots.nd (k_seq (K := K) rfl (pv 2)) (blkOk_by (by kernel_rfl)) (fun _ _ _ _ _ => (pg_name (i := 4) sc__law_lots.nd rfl (Or.inl rfl))) (fun _ _ _ _ _ => (pts_one (pt_cmpR op_lt (pe_callB (k_len (K := K) rfl) (by rfl) T.z_len bt_len (pa_cons (pv 4) pa_nil)) (pv 1) (nomark _)))) (fun _ _ _ _ _ => (pe_op (k_add (K := K) rfl) (pv 4) (pe_tup (pa_cons (pv 3) pa_nil))))))))) (pss_one (ps_ret (pe_lc (own := [("lot", 4)]) (g := gName 4) rfl sc__law_lots.nd (k_seq (K := K) rfl (pv 2)) (blkOk_by (by kernel_rfl)) (fun _ _ _ _ _ => (pg_name (i := 4) sc__law_lots.nd rfl (Or.inl rfl))) (fun _ _ _ _ _ => (pts_one (pt_cmpR (k_eq (K := K) rfl hr.units) (pe_callB (k_len (K := K) rfl) (by rfl) T.z_len bt_len (pa_cons (pv 4) pa_nil)) (pv 1) (nomark _)))) (fun _ _ _ _ _ => (pv 4))))))), ?_⟩
  rintro ⟨ns, many⟩ hx
  tm_at "go"
  have h9 : ns.length ≤ 9 := hx
  refine' sq_asg (x := .list (List.map tuI [[]])) (LEv.eed (le_lst (de_cons (ee_tup de_nil (by rw [sizeLine_eq]; decide)) de_nil) (by rw [sizeLine_eq]; exact (by decide : 1 ≤ 16777216)))) ?_
  refine' sq (N' := fun e => ∃ q, e = [.d (tuI ns), .d (.int many), .d (.list ((lotAll many ns).map tuI)), q, .un]) ?_ ?_
  · refine' se_for (xs := ns.map .int) (ie_tup (ee_var rfl)) (fun i e => ∃ q, e = [.d (tuI ns), .d (.int many), .d (.list ((lotAll many (ns.take i)).map tuI)), q, .un]) ?_ ?_ ?_
    · exact ⟨_, rfl⟩
    · rintro i x env' hx ⟨q, rfl⟩
      rw [List.getElem?_map] at hx
      cases hj : ns[i]? with
      | none => rw [hj] at hx; exact nomatch hx
      | some n =>
        rw [hj] at hx
        obtain rfl : PyData.int n = x := by simpa using hx
        obtain ⟨z1, z2⟩ := lot_sz many (ns := ns.take i) (k := 9) (by rw [List.length_take]; omega) (by decide)
        refine' turn1 ?_
        refine' se_asg (x := .list ((lotAll many (ns.take i)).map tuI ++ ((lotAll many (ns.take i)).filter fun l => decide ((l.length : Int) < many)).map fun l => tuI (l ++ [n]))) (ee_op (ee_var rfl) (LEv.eed (le_lc1 (em := tuI) (ns := lotAll many (ns.take i)) (p := fun l => decide ((l.length : Int) < many)) (f := fun l => tuI (l ++ [n])) (ie_list (ee_var rfl)) rfl (fun l hl => ?_) (fun l hl _ => ?_) ?_)) (rv_addL ?_)) ?_
        · refine' te_test (ee_opC (b1 := false) (i := (l.length : Int)) ?_ (ee_var rfl))
          have e : (l.length : Int) = ((l.map PyData.int).length : Nat) := by rw [List.length_map]
          rw [e]
          exact ee_len (ee_var rfl) (.tuple _)
        · have e : tuI (l ++ [n]) = .tuple (l.map .int ++ [.int n]) := by unfold tuI; rw [List.map_append]; rfl
          rw [e]
          refine' ee_op (ee_var rfl) (ee_tup (de_cons (ee_var rfl) de_nil) (by rw [sizeLine_eq]; exact (by decide : 1 ≤ 16777216))) (rv_addT ?_)
          have := z2 l hl
          simp [sizeLine_eq]
          omega
        · rw [sizeLine_eq]
          omega
        · have := List.length_filter_le (fun l : List Int => decide ((l.length : Int) < many)) (lotAll many (ns.take i))
          simp [sizeLine_eq]
          omega
        · refine ⟨.d (.int n), ?_⟩
          have e : lotAll many (ns.take (i + 1)) = lotStep many (lotAll many (ns.take i)) n := by
            unfold lotAll
            rw [take_get hj, List.foldl_append]; rfl
          rw [e]
          unfold lotStep
          rw [List.map_append, List.map_map]
          rfl
    · rintro env' ⟨q, rfl⟩
      refine ⟨q, ?_⟩
      rw [List.length_map, List.take_length]
  · rintro env' ⟨q, rfl⟩
    obtain ⟨z1, z2⟩ := lot_sz many (ns := ns) (k := 9) h9 (by decide)
    refine' se_retD (LEv.eed (le_lc1 (em := tuI) (ns := lotAll many ns) (p := fun l => decide ((l.length : Int) = many)) (f := tuI) (ie_list (ee_var rfl)) rfl (fun l hl => ?_) (fun l hl _ => ee_var rfl) ?_)) rfl
    · refine' TEv.is (te_test (ee_opE (ee_len (ee_var rfl) (.tuple _)) (ee_var rfl) ⟨shaped_i _, shaped_i _⟩)) ?_
      rw [eqv_i, List.length_map]
    · rw [sizeLine_eq]
      omega
--EV ev_law_lots 3
theorem ev_law_lots {pm : Pm} {env : List Ent} {E : XK} {ta tb : TE} {ns : List Int} {many : Int} (ha : EEd pm false ta env (tuI ns)) (hb : EEd pm false tb env (.int many)) (h : ns.length ≤ 9) : EEd pm false (tCall (SpF (.pure pm.K) sp_law_lots) [] E (tCons ta (tCons tb tNil))) env (.list ((lotsL many ns).map tuI)) :=
  ee_fn0 (ns, many) (ae_cons ha (ae_cons hb ae_nil)) h

local macro_rules | `(tactic| tm_at "one") => `(tactic| first
  | with_reducible refine' ev_law_lots ?_ ?_ ?_)
theorem shaped_li (ns : List Int) : SeqAt.shaped (.list (ns.map .int)) = true := shaped_flat 1 (flatKs_all (k := 0) fun d hd => by
  obtain ⟨i, _, rfl⟩ := List.mem_map.mp hd
  rfl)
def lawHolds (ns pat : List Int) : Bool := !((lotsL pat.length ns).filter fun l => decide (shL l = pat)).isEmpty
abbrev sp_law_holds : FSp := .fn (fun x : List Int × List Int => [.d (tuI x.1), .d (tuI x.2)]) (fun x => x.1.length ≤ 9) fun x => .bool (lawHolds x.1 x.2)
theorem ok__law_holds (T : Tx w K mg) : FnOk P w K mg base CX0 2 T.a__law_holds T.fd__law_holds ["row", "pattern"] (SpF (.pure K) sp_law_holds) := by
  refine fn_ok T.F__law_holds sc__law_holds (fun _ => rfl) fun cdv A outer s H E hr => ⟨_, (pss_one (ps_ret (pe_cmpR (k_ne (K := K) rfl hr.units) (pe_lc (own := [("lot", 2)]) (g := gName 2) rfl sc__law_holds.nd (k_seq (K := K) rfl (pe_call (ok__law_lots T) hr (by rfl) T.g__law_lots T.F__law_lots.kp T.b__law_lots .nil pass0 (pa_cons (pv 0) (pa_cons (pe_callB (k_len (K := K) rfl) (by rfl) T.z_len bt_len (pa_cons (pv 1) pa_nil)) pa_nil)))) (blkOk_by (by kernel_rfl)) (fun _ _ _ _ _ => (pg_name (i := 2) sc__law_holds.nd rfl (Or.inl rfl))) (fun _ _ _ _ _ => (pts_one (pt_cmpR (k_eq (K := K) rfl hr.units) (pe_call (ok__law_shape_of T) hr (by rfl) T.g__law_shape_of T.F__law_shape_of.kp T.b__law_shape_of .nil pass0 (pa_cons (pv 2) pa_nil)) (pv 1) (nomark _)))) (fun _ _ _ _ _ => pe_int)) (pe_lst pa_nil) (nomark _)))), ?_⟩
  rintro ⟨ns, pat⟩ hx
  tm_at "go"
  have h9 : ns.length ≤ 9 := hx
  obtain ⟨z1, z2⟩ := lot_sz pat.length (ns := ns) (k := 9) h9 (by decide)
  have z3 : (lotsL pat.length ns).length ≤ 1024 := Nat.le_trans (List.length_filter_le ..) z1
  refine' se_retD (ee_opN (b2 := false) (x := .list (((lotsL pat.length ns).filter fun l => decide (shL l = pat)).map fun _ => .int 1)) (LEv.eed (le_lc1 (em := tuI) (ns := lotsL pat.length ns) (p := fun l => decide (shL l = pat)) (f := fun _ => .int 1) (ie_list (ev_law_lots (ee_var rfl) ?_ h9)) rfl (fun l hl => ?_) (fun l hl _ => ee_int) ?_)) (LEv.eed (le_lst de_nil (by rw [sizeLine_eq]; decide))) ⟨?_, shaped_l0⟩) ?_
  · have e : (pat.length : Int) = ((pat.map PyData.int).length : Nat) := by rw [List.length_map]
    rw [e]
    exact ee_len (ee_var rfl) (.tuple _)
  · have h1 := z2 l (List.mem_filter.mp hl).1
    refine' TEv.is (te_test (ee_opE (ev_law_shape_of (ee_var rfl) (by omega)) (ee_var rfl) ⟨shaped_ti _, shaped_ti _⟩)) ?_
    rw [eqv_ti]
  · rw [sizeLine_eq]
    omega
  · have e : (List.map (fun _ => PyData.int 1) ((lotsL pat.length ns).filter fun l => decide (shL l = pat))) = (List.map (fun _ => (1 : Int)) ((lotsL pat.length ns).filter fun l => decide (shL l = pat))).map .int := by rw [List.map_map]; rfl
    rw [e]
    exact shaped_li _
  · show PyData.bool _ = PyData.bool _
    rw [eqv_l0, List.isEmpty_map]
    rfl
--EV ev_law_holds 3
theorem ev_law_holds {pm : Pm} {env : List Ent} {E : XK} {ta tb : TE} {ns pat : List Int} (ha : EEd pm false ta env (tuI ns)) (hb : EEd pm false tb env (tuI pat)) (h : ns.length ≤ 9) : EEd pm false (tCall (SpF (.pure pm.K) sp_law_holds) [] E (tCons ta (tCons tb tNil))) env (.bool (lawHolds ns pat)) :=
  ee_fn0 (ns, pat) (ae_cons ha (ae_cons hb ae_nil)) h

local macro_rules | `(tactic| tm_at "one") => `(tactic| first
  | with_reducible refine' ev_law_holds ?_ ?_ ?_)
end
end K71
namespace K71
open Fw PySem PySem.Spec PyProof.Rows L2
local macro_rules | `(tactic| tm_at "one") => `(tactic| first
  | with_reducible exact ee_int
  | with_reducible exact ee_str
  | with_reducible exact ee_bl
  | with_reducible exact ee_non
  | ((with_reducible refine' ee_var ?hv); case hv => rfl)
  | ((with_reducible refine' ee_own ?hv); case hv => rfl)
  | with_reducible refine' ee_andV ?_ (fun hAnd => ?_)
  | with_reducible refine' ee_orV ?_ (fun hOr => ?_)
  | with_reducible refine' ee_notV ?_
  | with_reducible refine' ee_if ?_ (fun hIf => ?_) (fun hIf => ?_)
  | with_reducible refine' te_B ?_
  | with_reducible refine' te_test ?_
  | with_reducible refine' te_and ?_ (fun hAnd => ?_)
  | with_reducible refine' te_or ?_ (fun hOr => ?_)
  | with_reducible refine' te_not ?_
  | with_reducible exact te_yes
  | with_reducible refine' ee_chain ?_ ?_ ?_ (fun hCh => ?_) (fun hCh => ?_)
  | with_reducible refine' ee_isInt ?_
  | with_reducible refine' ee_isBool ?_
  | with_reducible refine' ee_isStr ?_
  | with_reducible refine' ee_isTup ?_
  | with_reducible refine' ee_isLst ?_
  | with_reducible refine' ee_neg ?_
  | with_reducible refine' ee_revT ?_
  | with_reducible refine' ee_opC ?_ ?_
  | with_reducible refine' ee_opE ?_ ?_ ?_
  | with_reducible refine' ee_opN ?_ ?_ ?_
  | with_reducible refine' ee_op ?_ ?_ ?_
  | with_reducible refine' ee_sl ?_ ?_ ?_ ?_
  | with_reducible exact oe_none
  | with_reducible refine' oe_some ?_
  | with_reducible refine' ee_len ?_ ?_
  | with_reducible refine' ee_tup ?_ ?_
  | with_reducible refine' LEv.eed (le_lst ?_ ?_)
  | with_reducible refine' le_lst ?_ ?_
  | with_reducible refine' ee_cb ?_ ?_
  | with_reducible exact de_nil
  | with_reducible refine' de_cons ?_ ?_
  | with_reducible refine' de_star ?_ ?_
  | with_reducible exact ae_nil
  | ((with_reducible refine' ae_raw ?hv ?_); case hv => rfl)
  | with_reducible refine' ae_cons ?_ ?_
  | with_reducible exact rv_addI
  | with_reducible refine' rv_addL ?_
  | with_reducible refine' rv_addT ?_
  | with_reducible refine' rv_addS ?_
  | with_reducible refine' rv_I0 (.int _)
  | with_reducible refine' rv_I0 (.bl _)
  | with_reducible refine' rv_eq ?_ ?_
  | with_reducible refine' rv_ne ?_ ?_
  | with_reducible exact rv_isN
  | with_reducible exact rv_notN
  | with_reducible refine' rv_ixL ?_
  | with_reducible refine' rv_ixT ?_
  | with_reducible exact sv_L
  | with_reducible exact sv_T
  | with_reducible refine' sv_S ?_
  | with_reducible exact rc_lenL
  | with_reducible exact rc_lenT
  | with_reducible exact rc_tupL
  | with_reducible exact rc_tupT
  | with_reducible exact rc_int1
  | with_reducible exact rc_all
  | with_reducible exact rc_any
  | with_reducible refine' ie_list ?_
  | with_reducible refine' ie_tup ?_
  | with_reducible refine' ie_range1 ?_ ?_
  | with_reducible refine' ie_range2 ?_ ?_
  | with_reducible refine' ie_enum0 ?_
  | with_reducible refine' ie_enum1 ?_ ?_
  | with_reducible refine' ie_str ?_)
local macro_rules | `(tactic| tm_at "ev") => `(tactic| repeat' tm_at "one")
local macro_rules | `(tactic| tm_at "go") => `(tactic| dsimp only [padN, poOf, FSp.fn, nox_K, cx_K, List.set])
local macro_rules | `(tactic| tm_at "one") => `(tactic| first
  | with_reducible refine' ev_is_number ?_
  | with_reducible refine' ev_is_between ?_ ?_ ?_
  | with_reducible refine' ev_need_between ?_ ?_ ?_ ?_ ?_
  | with_reducible refine' ev_has_each ?_ ?_
  | with_reducible refine' ev_is_row ?_
  | with_reducible refine' ev_need_row ?_ ?_
  | with_reducible refine' ev_undone_told ?_ ?_
  | with_reducible refine' ev_undone_row ?_ ?_
  | with_reducible refine' ev_turned_row ?_ ?_
  | with_reducible refine' ev_upturned_row ?_ ?_
  | with_reducible refine' ev_standing_told ?_ ?_
  | with_reducible refine' ev_fits_on ?_ ?_ ?_ ?_ ?_
  | with_reducible refine' ev_places_told ?_ ?_ ?_
  | with_reducible refine' ev_holds_told ?_ ?_ ?_
  | with_reducible refine' ev_taken_out ?_ ?_ ?_
  | with_reducible refine' ev_has_mark ?_ ?_ ?_
  | with_reducible refine' ev_marks_told ?_ ?_
  | with_reducible refine' ev_marks_of ?_ ?_
  | with_reducible refine' ev_law_shape_of ?_ ?_
  | with_reducible refine' ev_law_lots ?_ ?_ ?_
  | with_reducible refine' ev_law_holds ?_ ?_ ?_)
section
variable {P : Program} {w : World} {K : PySem.W.Frag} {mg : Str → Option Value} {base : Heap}
def word (c : Bool) (s : Str) : List Str := if c then [] else [s]
def lawMarks (h : List Int → Bool) : List Str :=
  word (h [3, 2, 1]) "one" ++ word (h [1, 3, 2]) "corner" ++ word (h [2, 1, 4, 3]) "line" ++ word (h [3, 4, 1, 2] || h [4, 2, 3, 1]) "smooth" ++ word (h [3, 2, 1] || h [3, 4, 1, 2]) "cube" ++ word (h [4, 2, 3, 1] || ([[3, 5, 1, 4, 2], [4, 2, 5, 1, 3], [3, 5, 1, 6, 2, 4]].filter h != [])) "regions"
theorem ee_word {P : Pm} {env : List Ent} {t : TT} {c : Bool} {s : Str} (h : TEd P t env c) : EEd P false (tIf t (tLst tNil) (tLst (tCons (tC (.str s)) tNil))) env (.list ((word c s).map .str)) := by
  refine ee_ifB h (fun hk => ?_) (fun hk => ?_)
  · subst hk
    exact LEv.eed (le_lst (ds := []) de_nil (by rw [sizeLine_eq]; decide))
  · subst hk
    exact LEv.eed (le_lst (ds := [.str s]) (de_cons ee_str de_nil) (by rw [sizeLine_eq]; exact (by decide : 1 ≤ 16777216)))
theorem word_len (c : Bool) (s : Str) : (word c s).length ≤ 1 := by cases c <;> (unfold word; simp)
theorem ee_addW {P : Pm} {env : List Ent} {ta tb : TE} {xs : List Str} {c : Bool} {s : Str} (n : Nat) (ha : EEd P false ta env (.list (xs.map .str))) (hb : EEd P false tb env (.list ((word c s).map .str))) (hn : xs.length ≤ n) (h9 : n ≤ 9) : EEd P false (tOp (rAddD P.K) ta tb) env (.list ((xs ++ word c s).map .str)) := by
  rw [List.map_append]
  refine ee_op ha hb (rv_addL ?_)
  have := word_len c s
  rw [List.length_map, List.length_map, sizeLine_eq]
  omega
def three : List (Str × List Int) := [("321", [3, 2, 1]), ("132", [1, 3, 2]), ("2143", [2, 1, 4, 3])]
def hasD (h : List Int → Bool) : List (Key × PyData) := three.map fun q => (.inr q.1, .bool (h q.2))
def hasD2 (h : List Int → Bool) : List (Key × PyData) := hasD h ++ [(.inr "3412", .bool (h [3, 4, 1, 2])), (.inr "4231", .bool (h [4, 2, 3, 1]))]
theorem hasD_merge (h : List Int → Bool) : mergeKD [] (hasD h) = hasD h := by
  rfl
theorem hasD_put (h : List Int → Bool) : putKD (putKD (hasD h) (.inr "3412") (.bool (h [3, 4, 1, 2]))) (.inr "4231") (.bool (h [4, 2, 3, 1])) = hasD2 h := by
  rfl
theorem hasD_get (h : List Int → Bool) : getKD (hasD2 h) (.inr "321") = some (.bool (h [3, 2, 1])) ∧ getKD (hasD2 h) (.inr "132") = some (.bool (h [1, 3, 2])) ∧ getKD (hasD2 h) (.inr "2143") = some (.bool (h [2, 1, 4, 3])) ∧ getKD (hasD2 h) (.inr "3412") = some (.bool (h [3, 4, 1, 2])) ∧ getKD (hasD2 h) (.inr "4231") = some (.bool (h [4, 2, 3, 1])) := ⟨rfl, rfl, rfl, rfl, rfl⟩
abbrev lawMarksD (ns : List Int) : PyData := .tuple ((lawMarks (lawHolds ns)).map .str)
def wideZ : List (List Int) := [[3, 5, 1, 4, 2], [4, 2, 5, 1, 3], [3, 5, 1, 6, 2, 4]]
abbrev sp_law_marks : FSp := .fn (fun ns : List Int => [.d (tuI ns)]) (fun ns => ns.length ≤ 9) fun ns => lawMarksD ns
theorem ok__law_marks (T : Tx w K mg) : FnOk P w K mg base CX0 3 T.a__law_marks T.fd__law_marks ["row"] (SpF (.pure K) sp_law_marks) := by
  refine fn_ok T.F__law_marks sc__law_marks (fun _ => rfl) fun cdv A outer s H E hr => ⟨_, (pss_cons (ps_set (i := 1) sc__law_marks.nd rfl (Or.inl rfl) (pe_callTy (k_dictP (K := K) rfl rfl) (by rfl) T.z_dict bt_dict (pa_cons (pe_lc (own := [("name", 5), ("pattern", 4)]) (g := gTup K 2 (gCons (gName 5) (gCons (gName 4) gNil))) rfl sc__law_marks.nd (k_seq (K := K) rfl (pe_lst (pa_cons (pe_tup (pa_cons pe_str (pa_cons (pe_tup (pa_cons pe_int (pa_cons pe_int (pa_cons pe_int pa_nil)))) pa_nil))) (pa_cons (pe_tup (pa_cons pe_str (pa_cons (pe_tup (pa_cons pe_int (pa_cons pe_int (pa_cons pe_int pa_nil)))) pa_nil))) (pa_cons (pe_tup (pa_cons pe_str (pa_cons (pe_tup (pa_cons pe_int (pa_cons pe_int (pa_cons pe_int (pa_cons pe_int pa_nil))))) pa_nil))) pa_nil))))) (blkOk_by (by kernel_rfl)) (fun _ _ _ _ _ => (k_gtup (K := K) rfl rfl (pgs_cons (pg_name (i := 5) sc__law_marks.nd rfl (Or.inl rfl)) (pgs_cons (pg_name (i := 4) sc__law_marks.nd rfl (Or.inl rfl)) pgs_nil)))) (fun _ _ _ _ _ => pts_nil) (fun _ _ _ _ _ => (pe_tup (pa_cons (pv 5) (pa_cons (pe_call (ok__law_holds T) hr (by rfl) T.g__law_holds T.F__law_holds.kp T.b__law_holds .nil pass0 (pa_cons (pv 0) (pa_cons (pv 4) pa_nil))) pa_nil))))) pa_nil))) (pss_cons (ps_asg (pe_tup (pa_cons (pe_call (ok__law_holds T) hr (by rfl) T.g__law_holds T.F__law_holds.kp T.b__law_holds .nil pass0 (pa_cons (pv 0) (pa_cons (pe_tup (pa_cons pe_int (pa_cons pe_int (pa_cons pe_int (pa_cons pe_int pa_nil))))) pa_nil))) (pa_cons (pe_call (ok__law_holds T) hr (by rfl) T.g__law_holds T.F__law_holds.kp T.b__law_holds .nil pass0 (pa_cons (pv 0) (pa_cons (pe_tup (pa_cons pe_int (pa_cons pe_int (pa_cons pe_int (pa_cons pe_int pa_nil))))) pa_nil))) pa_nil))) (k_gtup (K := K) rfl rfl (pgs_cons (pg_sub (pv 1) pe_str (set_dict (hu_of hr))) (pgs_cons (pg_sub (pv 1) pe_str (set_dict (hu_of hr))) pgs_nil)))) (pss_cons (ps_setLc (i := 2) (own := [("pattern", 4)]) (g := gName 4) rfl sc__law_marks.nd rfl rfl (sw_true rfl rfl rfl (by decide +kernel)) (k_seq (K := K) rfl (pe_lst (pa_cons (pe_tup (pa_cons pe_int (pa_cons pe_int (pa_cons pe_int (pa_cons pe_int (pa_cons pe_int pa_nil)))))) (pa_cons (pe_tup (pa_cons pe_int (pa_cons pe_int (pa_cons pe_int (pa_cons pe_int (pa_cons pe_int pa_nil)))))) (pa_cons (pe_tup (pa_cons pe_int (pa_cons pe_int (pa_cons pe_int (pa_cons pe_int (pa_cons pe_int (pa_cons pe_int pa_nil))))))) pa_nil))))) (blkOk_by (by kernel_rfl)) (fun _ _ _ _ _ => (pg_name (i := 4) sc__law_marks.nd rfl (Or.inl rfl))) (fun _ _ _ _ _ => (pts_one (pt_val (pe_call (ok__law_holds T) hr (by rfl) T.g__law_holds T.F__law_holds.kp T.b__law_holds .nil pass0 (pa_cons (pv 0) (pa_cons (pv 4) pa_nil)))))) (fun _ _ _ _ _ => (pv 4))) (pss_cons (ps_set (i := 3) sc__law_marks.nd rfl (Or.inl rfl) (pe_ifExp (pt_val (pe_dget (hu_of hr) (pv 1) pe_str (fun _ _ => rfl))) (pe_lst pa_nil) (pe_lst (pa_cons pe_str pa_nil)))) (pss_cons (ps_set (i := 3) sc__law_marks.nd rfl (Or.inl rfl) (pe_op (k_add (K := K) rfl) (pe_op (k_add (K := K) rfl) (pv 3) (pe_ifExp (pt_val (pe_dget (hu_of hr) (pv 1) pe_str (fun _ _ => rfl))) (pe_lst pa_nil) (pe_lst (pa_cons pe_str pa_nil)))) (pe_ifExp (pt_val (pe_dget (hu_of hr) (pv 1) pe_str (fun _ _ => rfl))) (pe_lst pa_nil) (pe_lst (pa_cons pe_str pa_nil))))) (pss_cons (ps_set (i := 3) sc__law_marks.nd rfl (Or.inl rfl) (pe_op (k_add (K := K) rfl) (pe_op (k_add (K := K) rfl) (pv 3) (pe_ifExp (PW.pt (pw_or (pt_val (pe_dget (hu_of hr) (pv 1) pe_str (fun _ _ => rfl))) (pw_or1 (pt_val (pe_dget (hu_of hr) (pv 1) pe_str (fun _ _ => rfl)))))) (pe_lst pa_nil) (pe_lst (pa_cons pe_str pa_nil)))) (pe_ifExp (PW.pt (pw_or (pt_val (pe_dget (hu_of hr) (pv 1) pe_str (fun _ _ => rfl))) (pw_or1 (pt_val (pe_dget (hu_of hr) (pv 1) pe_str (fun _ _ => rfl)))))) (pe_lst pa_nil) (pe_lst (pa_cons pe_str pa_nil))))) (pss_one (ps_ret (pe_callTy (k_tuple (K := K) rfl) (by rfl) T.z_tuple bt_tuple (pa_cons (pe_op (k_add (K := K) rfl) (pv 3) (pe_ifExp (PW.pt (pw_or (pt_val (pe_dget (hu_of hr) (pv 1) pe_str (fun _ _ => rfl))) (pw_or1 (pt_cmpR (k_ne (K := K) rfl hr.units) (pv 2) (pe_lst pa_nil) (nomark _))))) (pe_lst pa_nil) (pe_lst (pa_cons pe_str pa_nil)))) pa_nil)))))))))), ?_⟩
  intro ns hx
  tm_at "go"
  have h9 : ns.length ≤ 9 := hx
  have z1 : ∀ n, n ≤ 9 → n ≤ sizeLine := fun n h => by rw [sizeLine_eq]; omega
  refine' sq_asgDict (ms := hasD (lawHolds ns)) ?_ fun a => ?_
  · have e : (hasD (lawHolds ns)).map (fun q => PyData.tuple [keyD q.1, q.2]) = three.map fun q => .tuple [.str q.1, .bool (lawHolds ns q.2)] := by unfold hasD; rw [List.map_map]; rfl
    rw [e]
    have hi : IEv (.pure K) (iSeq K (tLst (tCons (tTup (tCons (tC (.str "321")) (tCons (tTup (tCons (tC (.int 3)) (tCons (tC (.int 2)) (tCons (tC (.int 1)) tNil)))) tNil))) (tCons (tTup (tCons (tC (.str "132")) (tCons (tTup (tCons (tC (.int 1)) (tCons (tC (.int 3)) (tCons (tC (.int 2)) tNil)))) tNil))) (tCons (tTup (tCons (tC (.str "2143")) (tCons (tTup (tCons (tC (.int 2)) (tCons (tC (.int 1)) (tCons (tC (.int 4)) (tCons (tC (.int 3)) tNil))))) tNil))) tNil))))) [Ent.d (tuI ns), .un, .un, .un, .un, .un] (three.map fun q => PyData.tuple [.str q.1, tuI q.2]) := by
      refine ie_list ?_
      dsimp only [three, tuI, List.map]
      tm_at "ev"
      all_goals (refine z1 _ ?_; exact Nat.le_of_ble_eq_true rfl)
    have h := le_lc (te := tTup (tCons (tVar 5) (tCons (tCall (SpF (.pure K) sp_law_holds) [] E0 (tCons (tVar 0) (tCons (tVar 4) tNil))) tNil))) (tt := tYes) (ns := three) (vs := [5, 4]) (g := gTup K 2 (gCons (gName 5) (gCons (gName 4) gNil))) (envx := fun q => (([Ent.d (tuI ns), .un, .un, .un, .un, .un] : List Ent).set 5 (.d (.str q.1))).set 4 (.d (tuI q.2))) (p := fun _ => true) (f := fun q => .tuple [.str q.1, .bool (lawHolds ns q.2)]) hi
      (fun i hi => by rcases List.mem_cons.mp hi with rfl | hi; · rfl
                      · rw [List.mem_singleton.mp hi]; rfl) (fun q _ => ge_pair (by decide) (by decide)) (fun q _ => te_yes) (fun q _ _ => ee_tup (de_cons (ee_var rfl) (de_cons (ev_law_holds (ee_var rfl) (ee_var rfl) h9) de_nil)) (z1 _ (Nat.le_of_ble_eq_true rfl))) (z1 _ (Nat.le_of_ble_eq_true rfl)) (fun q _ => rfl)
    exact LEv.eed h
  rw [hasD_merge]
  refine' sq (N' := fun e => e = [Ent.d (tuI ns), .owk a (hasD2 (lawHolds ns)), .un, .un, .un, .un]) (se_put2 (k1 := .inr "3412") (k2 := .inr "4231") (d1 := .bool (lawHolds ns [3, 4, 1, 2])) (d2 := .bool (lawHolds ns [4, 2, 3, 1])) (ds := hasD (lawHolds ns)) rfl ?_ (b1 := false) ee_str (b2 := false) ee_str ?_ ?_) ?_
  · refine' ee_tup (de_cons (ev_law_holds (pat := [3, 4, 1, 2]) (ee_var rfl) ?_ h9) (de_cons (ev_law_holds (pat := [4, 2, 3, 1]) (ee_var rfl) ?_ h9) de_nil)) (z1 _ (Nat.le_of_ble_eq_true rfl))
    all_goals dsimp only [tuI, List.map]
    all_goals tm_at "ev"
    all_goals (refine z1 _ ?_; exact Nat.le_of_ble_eq_true rfl)
  · rw [sizeLine_eq]
    exact (by decide : 3 + 1 < 16777216)
  · show _ = _
    rw [← hasD_put]
    rfl
  · rintro env' rfl
    obtain ⟨g1, g2, g3, g4, g5⟩ := hasD_get (lawHolds ns)
    refine' sq_asg (x := .list ((wideZ.filter (lawHolds ns)).map tuI)) (LEv.eed (le_lc1 (em := tuI) (ns := wideZ) (p := lawHolds ns) (f := tuI) (ie_list ?_) rfl (fun p _ => te_B (ev_law_holds (ee_var rfl) (ee_var rfl) h9)) (fun p _ _ => ee_var rfl) (z1 _ (Nat.le_of_ble_eq_true rfl)))) ?_
    · dsimp only [wideZ, tuI, List.map]
      tm_at "ev"
      all_goals (refine z1 _ ?_; exact Nat.le_of_ble_eq_true rfl)
    refine' sq_asg (ee_word (te_B (ee_dgetO rfl (b := false) ee_str g1))) ?_
    refine' sq_asg (ee_addW 2 (ee_addW 1 (ee_var rfl) (ee_word (te_B (ee_dgetO rfl (b := false) ee_str g2))) (word_len _ _) (by decide)) (ee_word (te_B (ee_dgetO rfl (b := false) ee_str g3))) ?_ (by decide)) ?_
    · have := word_len (lawHolds ns [3, 2, 1]) "one"
      have := word_len (lawHolds ns [1, 3, 2]) "corner"
      rw [List.length_append]; omega
    refine' sq_asg (ee_addW 4 (ee_addW 3 (ee_var rfl) (ee_word (te_or (te_B (ee_dgetO rfl (b := false) ee_str g4)) (fun _ => te_B (ee_dgetO rfl (b := false) ee_str g5)))) ?_ (by decide)) (ee_word (te_or (te_B (ee_dgetO rfl (b := false) ee_str g1)) (fun _ => te_B (ee_dgetO rfl (b := false) ee_str g4)))) ?_ (by decide)) ?_
    · have := word_len (lawHolds ns [3, 2, 1]) "one"
      have := word_len (lawHolds ns [1, 3, 2]) "corner"
      have := word_len (lawHolds ns [2, 1, 4, 3]) "line"
      rw [List.length_append, List.length_append]; omega
    · have := word_len (lawHolds ns [3, 2, 1]) "one"
      have := word_len (lawHolds ns [1, 3, 2]) "corner"
      have := word_len (lawHolds ns [2, 1, 4, 3]) "line"
      have := word_len (lawHolds ns [3, 4, 1, 2] || lawHolds ns [4, 2, 3, 1]) "smooth"
      rw [List.length_append, List.length_append, List.length_append]; omega
    refine' se_retD (ee_tupL (ee_addW 5 (ee_var rfl) (ee_word (te_or (te_B (ee_dgetO rfl (b := false) ee_str g5)) (fun _ => te_test (ee_opN (b2 := false) (ee_var rfl) (LEv.eed (le_lst de_nil (z1 _ (Nat.le_of_ble_eq_true rfl)))) ⟨shaped_lti _, shaped_l0⟩)))) ?_ (by decide))) ?_
    · have := word_len (lawHolds ns [3, 2, 1]) "one"
      have := word_len (lawHolds ns [1, 3, 2]) "corner"
      have := word_len (lawHolds ns [2, 1, 4, 3]) "line"
      have := word_len (lawHolds ns [3, 4, 1, 2] || lawHolds ns [4, 2, 3, 1]) "smooth"
      have := word_len (lawHolds ns [3, 2, 1] || lawHolds ns [3, 4, 1, 2]) "cube"
      simp only [List.length_append]; omega
    · show PyData.tuple _ = PyData.tuple _
      rw [eqv_l0, List.isEmpty_map]
      have e : ∀ l : List (List Int), (!l.isEmpty) = (l != []) := fun l => by cases l <;> rfl
      rw [e]
      rfl
--EV ev_law_marks 2
theorem ev_law_marks {pm : Pm} {env : List Ent} {E : XK} {ta : TE} {ns : List Int} (ha : EEd pm false ta env (tuI ns)) (h : ns.length ≤ 9) : EEd pm false (tCall (SpF (.pure pm.K) sp_law_marks) [] E (tCons ta tNil)) env (lawMarksD ns) :=
  ee_fn0 ns (ae_cons ha ae_nil) h

local macro_rules | `(tactic| tm_at "one") => `(tactic| first
  | with_reducible refine' ev_law_marks ?_ ?_)
end
end K71
namespace K71
open Fw PySem PySem.Spec PyProof.Rows L2
local macro_rules | `(tactic| tm_at "one") => `(tactic| first
  | with_reducible exact ee_int
  | with_reducible exact ee_str
  | with_reducible exact ee_bl
  | with_reducible exact ee_non
  | ((with_reducible refine' ee_var ?hv); case hv => rfl)
  | ((with_reducible refine' ee_own ?hv); case hv => rfl)
  | with_reducible refine' ee_andV ?_ (fun hAnd => ?_)
  | with_reducible refine' ee_orV ?_ (fun hOr => ?_)
  | with_reducible refine' ee_notV ?_
  | with_reducible refine' ee_if ?_ (fun hIf => ?_) (fun hIf => ?_)
  | with_reducible refine' te_B ?_
  | with_reducible refine' te_test ?_
  | with_reducible refine' te_and ?_ (fun hAnd => ?_)
  | with_reducible refine' te_or ?_ (fun hOr => ?_)
  | with_reducible refine' te_not ?_
  | with_reducible exact te_yes
  | with_reducible refine' ee_chain ?_ ?_ ?_ (fun hCh => ?_) (fun hCh => ?_)
  | with_reducible refine' ee_isInt ?_
  | with_reducible refine' ee_isBool ?_
  | with_reducible refine' ee_isStr ?_
  | with_reducible refine' ee_isTup ?_
  | with_reducible refine' ee_isLst ?_
  | with_reducible refine' ee_neg ?_
  | with_reducible refine' ee_revT ?_
  | with_reducible refine' ee_opC ?_ ?_
  | with_reducible refine' ee_opE ?_ ?_ ?_
  | with_reducible refine' ee_opN ?_ ?_ ?_
  | with_reducible refine' ee_op ?_ ?_ ?_
  | with_reducible refine' ee_sl ?_ ?_ ?_ ?_
  | with_reducible exact oe_none
  | with_reducible refine' oe_some ?_
  | with_reducible refine' ee_len ?_ ?_
  | with_reducible refine' ee_tup ?_ ?_
  | with_reducible refine' LEv.eed (le_lst ?_ ?_)
  | with_reducible refine' le_lst ?_ ?_
  | with_reducible refine' ee_cb ?_ ?_
  | with_reducible exact de_nil
  | with_reducible refine' de_cons ?_ ?_
  | with_reducible refine' de_star ?_ ?_
  | with_reducible exact ae_nil
  | ((with_reducible refine' ae_raw ?hv ?_); case hv => rfl)
  | with_reducible refine' ae_cons ?_ ?_
  | with_reducible exact rv_addI
  | with_reducible refine' rv_addL ?_
  | with_reducible refine' rv_addT ?_
  | with_reducible refine' rv_addS ?_
  | with_reducible refine' rv_I0 (.int _)
  | with_reducible refine' rv_I0 (.bl _)
  | with_reducible refine' rv_eq ?_ ?_
  | with_reducible refine' rv_ne ?_ ?_
  | with_reducible exact rv_isN
  | with_reducible exact rv_notN
  | with_reducible refine' rv_ixL ?_
  | with_reducible refine' rv_ixT ?_
  | with_reducible exact sv_L
  | with_reducible exact sv_T
  | with_reducible refine' sv_S ?_
  | with_reducible exact rc_lenL
  | with_reducible exact rc_lenT
  | with_reducible exact rc_tupL
  | with_reducible exact rc_tupT
  | with_reducible exact rc_int1
  | with_reducible exact rc_all
  | with_reducible exact rc_any
  | with_reducible refine' ie_list ?_
  | with_reducible refine' ie_tup ?_
  | with_reducible refine' ie_range1 ?_ ?_
  | with_reducible refine' ie_range2 ?_ ?_
  | with_reducible refine' ie_enum0 ?_
  | with_reducible refine' ie_enum1 ?_ ?_
  | with_reducible refine' ie_str ?_)
local macro_rules | `(tactic| tm_at "ev") => `(tactic| repeat' tm_at "one")
local macro_rules | `(tactic| tm_at "go") => `(tactic| dsimp only [padN, poOf, FSp.fn, nox_K, cx_K, List.set])
local macro_rules | `(tactic| tm_at "one") => `(tactic| first
  | with_reducible refine' ev_is_number ?_
  | with_reducible refine' ev_is_between ?_ ?_ ?_
  | with_reducible refine' ev_need_between ?_ ?_ ?_ ?_ ?_
  | with_reducible refine' ev_has_each ?_ ?_
  | with_reducible refine' ev_is_row ?_
  | with_reducible refine' ev_need_row ?_ ?_
  | with_reducible refine' ev_undone_told ?_ ?_
  | with_reducible refine' ev_undone_row ?_ ?_
  | with_reducible refine' ev_turned_row ?_ ?_
  | with_reducible refine' ev_upturned_row ?_ ?_
  | with_reducible refine' ev_standing_told ?_ ?_
  | with_reducible refine' ev_fits_on ?_ ?_ ?_ ?_ ?_
  | with_reducible refine' ev_places_told ?_ ?_ ?_
  | with_reducible refine' ev_holds_told ?_ ?_ ?_
  | with_reducible refine' ev_taken_out ?_ ?_ ?_
  | with_reducible refine' ev_has_mark ?_ ?_ ?_
  | with_reducible refine' ev_marks_told ?_ ?_
  | with_reducible refine' ev_marks_of ?_ ?_
  | with_reducible refine' ev_law_shape_of ?_ ?_
  | with_reducible refine' ev_law_lots ?_ ?_ ?_
  | with_reducible refine' ev_law_holds ?_ ?_ ?_
  | with_reducible refine' ev_law_marks ?_ ?_)
section
variable {P : Program} {w : World} {K : PySem.W.Frag} {mg : Str → Option Value} {base : Heap}
abbrev sp_law_blend (d : Addr × Addr × Addr × List Int) : FSp := { α := Unit, args := fun _ => [.raw (.ref d.1)], pre := fun _ => True, post := fun _ z => IntV (fun _ => True) z }
theorem prime_ok : ∀ p ∈ ([2147483629, 2147483587, 2147483579] : List Int), 0 < p ∧ p < 2147483648 := by decide
theorem ok__law_blend (T : Tx w K mg) : FnOk P w K mg base CX0 1 T.a__law_blend T.fd__law_blend ["draw"] (SpI (pmD K) sp_law_blend) := by
  refine fn_okI T.F__law_blend sc__law_blend (fun _ _ => rfl) fun cdv A outer s H E hr => ⟨_, (pss_cons (ps_par (i := 1) (j := 2) (by rfl) sc__law_blend.nd rfl rfl (by decide) rfl rfl (pa_cons (pe_op (k_add (K := K) rfl) (pe_dget (hu_of hr) (pv 0) pe_str (fun _ _ => rfl)) pe_int) (pa_cons pe_int pa_nil)) (by rfl)) (pss_cons (ps_asg (pv 1) (pg_sub (pv 0) pe_str (set_dict (hu_of hr)))) (pss_cons (ps_for PassesOwn.never rfl (k_seq (K := K) rfl (pe_lst (pa_cons pe_int (pa_cons pe_int (pa_cons pe_int pa_nil))))) (pg_name (i := 3) sc__law_blend.nd rfl (Or.inl rfl)) (pss_cons (ps_set (i := 4) sc__law_blend.nd rfl (Or.inl rfl) (pe_op op_mod (pe_callTy call_int1 (by rfl) T.z_int bt_int (pa_cons (pe_op (k_add (K := K) rfl) (pe_op op_mul (pv 1) pe_int) (pe_op op_fdiv (pv 3) pe_int)) pa_nil)) (pv 3))) (pss_cons (ps_for PassesOwn.never rfl (k_seq (K := K) rfl (pe_dget (hu_of hr) (pv 0) pe_str (fun _ _ => rfl))) (pg_name (i := 5) sc__law_blend.nd rfl (Or.inl rfl)) (pss_one (ps_set (i := 4) sc__law_blend.nd rfl (Or.inl rfl) (pe_op op_mod (pe_callTy call_int1 (by rfl) T.z_int bt_int (pa_cons (pe_op (k_add (K := K) rfl) (pe_op (k_add (K := K) rfl) (pe_op op_mul (pv 4) pe_int) (pe_callTy call_int1 (by rfl) T.z_int bt_int (pa_cons (pv 5) pa_nil))) pe_int) pa_nil)) (pv 3))))) (pss_one (ps_set (i := 2) sc__law_blend.nd rfl (Or.inl rfl) (pe_op (k_add (K := K) rfl) (pe_op op_mul (pv 2) pe_int) (pe_op op_mod (pe_callTy call_int1 (by rfl) T.z_int bt_int (pa_cons (pe_op op_pow (pv 4) pe_int) pa_nil)) (pv 3)))))))) (pss_one (ps_ret (pv 2)))))), ?_⟩
  rintro ⟨a, l, c, cs⟩ ⟨⟩ hx
  tm_at "go"
  refine' sq_par (Φ2 := IntV fun _ => True) (ei_op (A := fun _ => True) (B := fun _ => True) (C := fun _ => True) (b1 := false) (ei_turn rfl) (ei_of (b := false) ee_int trivial) fun i j _ _ => ⟨_, trivial, rv_addI⟩) (ei_of ee_int trivial) ?_
  rintro x y ⟨i, _, rfl⟩ ⟨j, _, rfl⟩
  refine' sq (N' := fun e => e = _) (se_putTurn (b := false) (A := fun _ => True) rfl (ei_of (ee_var rfl) trivial) rfl) ?_
  rintro env' rfl
  refine' sq (N' := fun e => ∃ k p q r, e = [.raw (.ref a), .d (.int i), .d (.int k), p, q, r]) ?_ ?_
  · refine' se_for (xs := ([2147483629, 2147483587, 2147483579] : List Int).map .int) (ie_list (LEv.eed (le_lst (de_cons ee_int (de_cons ee_int (de_cons ee_int de_nil))) (by rw [sizeLine_eq]; exact (by decide : 3 ≤ 16777216))))) (fun n e => ∃ k p q r, e = [.raw (.ref a), .d (.int i), .d (.int k), p, q, r]) ?_ ?_ ?_
    · exact ⟨_, _, _, _, rfl⟩
    · rintro n x env' hx ⟨k, p, q, r, rfl⟩
      obtain ⟨m, hm, rfl⟩ := List.mem_map.mp (List.mem_of_getElem? hx)
      obtain ⟨m0, m1⟩ := prime_ok m hm
      refine' turn1 ?_
      refine' sq_asgG (Φ := IntV fun s => 0 ≤ s ∧ s < 2147483648) (ei_op (A := fun _ => True) (B := fun j => j = m) (b1 := false) (b2 := false) (ei_int (b1 := false) (ei_of (A := fun _ => True) (ee_op (ee_op (ee_var rfl) ee_int (rv_I (.inr (by decide)) (.int _))) (ee_op (ee_var rfl) ee_int (rv_I (by constructor <;> decide : CDiv _ 7) (.int _))) rv_addI) trivial)) (ei_of (ee_var rfl) rfl) ?_) ?_
      · rintro s j _ rfl
        exact ⟨_, ⟨Int.emod_nonneg _ (by omega), Int.lt_of_lt_of_le (Int.emod_lt_of_pos _ m0) (by omega)⟩, rv_I m0 (.int _)⟩
      rintro x ⟨s, hs, rfl⟩
      refine' sq (N' := fun e => ∃ s r, (0 ≤ s ∧ s < 2147483648) ∧ e = [.raw (.ref a), .d (.int i), .d (.int k), .d (.int m), .d (.int s), r]) ?_ ?_
      · refine' se_cells rfl (fun _ e => ∃ s r, (0 ≤ s ∧ s < 2147483648) ∧ e = [.raw (.ref a), .d (.int i), .d (.int k), .d (.int m), .d (.int s), r]) ?_ ?_ ?_
        · exact ⟨s, _, hs, rfl⟩
        · rintro n x env' hx ⟨s, r, hs, rfl⟩
          obtain ⟨cl, _, rfl⟩ := List.mem_map.mp (List.mem_of_getElem? hx)
          refine' turn1 ?_
          refine' se_asgG (Φ := IntV fun s => 0 ≤ s ∧ s < 2147483648) (ei_op (A := fun _ => True) (B := fun j => j = m) (b1 := false) (b2 := false) (ei_int (b1 := false) (ei_of (A := fun _ => True) (ee_op (ee_op (ee_op (ee_var rfl) ee_int (rv_I (.inr (by decide)) (.int _))) (ee_cb (de_cons (ee_var rfl) de_nil) rc_int1) rv_addI) ee_int rv_addI) trivial)) (ei_of (ee_var rfl) rfl) ?_) ?_
          · rintro s j _ rfl
            exact ⟨_, ⟨Int.emod_nonneg _ (by omega), Int.lt_of_lt_of_le (Int.emod_lt_of_pos _ m0) (by omega)⟩, rv_I m0 (.int _)⟩
          · rintro x ⟨s, hs, rfl⟩
            exact ⟨s, _, hs, rfl⟩
        · rintro env' h
          exact h
      · rintro env' ⟨s, r, hs, rfl⟩
        refine' se_asgG (Φ := IntV fun _ => True) (ei_op (A := fun _ => True) (B := fun _ => True) (b1 := false) (b2 := false) (ei_of (ee_op (ee_var rfl) ee_int (rv_I (.inr (by decide)) (.int _))) trivial) (ei_op (A := fun _ => True) (B := fun j => j = m) (C := fun _ => True) (b1 := false) (b2 := false) (ei_int (b1 := false) (ei_of (ee_op (ee_var rfl) ee_int (rv_I (by constructor; decide; constructor; decide; omega : CPow s 5) (.int _))) trivial)) (ei_of (ee_var rfl) rfl) ?_) fun i j _ _ => ⟨_, trivial, rv_addI⟩) ?_
        · rintro s j _ rfl
          exact ⟨_, trivial, rv_I m0 (.int _)⟩
        · rintro x ⟨k, _, rfl⟩
          exact ⟨k, _, _, _, rfl⟩
    · rintro env' h
      exact h
  · rintro env' ⟨k, p, q, r, rfl⟩
    refine' se_retD (b := false) (ee_var rfl) ⟨k, trivial, rfl⟩

abbrev sp_law_take (d : Addr × Addr × Addr × List Int) : FSp := { α := Int, args := fun n => [.raw (.ref d.1), .d (.int n)], pre := fun n => 0 < n ∧ n < 1073741824, post := fun n z => IntV (fun i => 0 ≤ i ∧ i < n) z }
theorem ok__law_take (T : Tx w K mg) : FnOk P w K mg base CX0 2 T.a__law_take T.fd__law_take ["draw", "size"] (SpI (pmD K) sp_law_take) := by
  refine fn_okI T.F__law_take sc__law_take (fun _ _ => rfl) fun cdv A outer s H E hr => ⟨_, (pss_cons (ps_while PassesOwn.never (PW.pt (pw_and (pt_cmpR (k_eq (K := K) rfl hr.units) (pe_dget (hu_of hr) (pv 0) pe_str (fun _ _ => rfl)) pe_int (nomark _)) (pw_and1 (pt_cmpR (k_ne (K := K) rfl hr.units) (pe_dget (hu_of hr) (pv 0) pe_str (fun _ _ => rfl)) (pe_lst pa_nil) (nomark _))))) (pss_one (ps_asg (k_bm (K := K) rfl PySem.F.plainAttrs_list PySem.F.slot_list_pop PySem.F.type_list_pop mt_popAt (pe_dget (hu_of hr) (pv 0) pe_str (fun _ _ => rfl)) (pa_cons pe_int pa_nil)) (pg_sub (pv 0) pe_str (set_dict (hu_of hr)))))) (pss_cons (ps_if (pt_cmpR (k_eq (K := K) rfl hr.units) (pe_dget (hu_of hr) (pv 0) pe_str (fun _ _ => rfl)) pe_int (nomark _)) (pss_one (ps_asg (pe_call (ok__law_blend T) hr (by rfl) T.g__law_blend T.F__law_blend.kp T.b__law_blend .nil pass0 (pa_cons (pv 0) pa_nil)) (pg_sub (pv 0) pe_str (set_dict (hu_of hr))))) pss_nil) (pss_cons (ps_set (i := 2) sc__law_take.nd rfl (Or.inl rfl) (pe_op op_mod (pe_callTy call_int1 (by rfl) T.z_int bt_int (pa_cons (pe_dget (hu_of hr) (pv 0) pe_str (fun _ _ => rfl)) pa_nil)) (pv 1))) (pss_cons (ps_asg (pe_op op_fdiv (pe_callTy call_int1 (by rfl) T.z_int bt_int (pa_cons (pe_dget (hu_of hr) (pv 0) pe_str (fun _ _ => rfl)) pa_nil)) (pv 1)) (pg_sub (pv 0) pe_str (set_dict (hu_of hr)))) (pss_one (ps_ret (pv 2))))))), ?_⟩
  rintro ⟨a, l, c, cs⟩ (n : Int) hx
  tm_at "go"
  obtain ⟨n0, n1⟩ : 0 < n ∧ n < 1073741824 := hx
  refine' sq_takeLoop rfl ?_
  refine' sq (N' := fun e => e = [.raw (.ref a), .d (.int n), .un]) ?_ ?_
  · refine' se_ifG (ei_eq (b1 := false) (ei_rest rfl)) ?_ (se_next rfl)
    exact se_putRest (A := fun _ => True) rfl (ee_callI (pm := pmD K) (F := sp_law_blend) (b := false) (a, l, c, cs) () (ae_raw rfl ae_nil) trivial fun _ _ h => h) rfl
  rintro env' rfl
  refine' sq_asgG (Φ := IntV fun i => 0 ≤ i ∧ i < n) (ei_op (A := fun _ => True) (B := fun j => j = n) (b1 := false) (b2 := false) (ei_int (b1 := false) (ei_rest rfl)) (ei_of (ee_var rfl) rfl) ?_) ?_
  · rintro s j _ rfl
    exact ⟨_, ⟨Int.emod_nonneg _ (Int.ne_of_gt n0), Int.emod_lt_of_pos _ n0⟩, rv_I n0 (.int _)⟩
  rintro x ⟨i, hi, rfl⟩
  refine' sq (N' := fun e => e = [.raw (.ref a), .d (.int n), .d (.int i)]) (se_putRest (b := false) (A := fun _ => True) rfl (ei_op (A := fun _ => True) (B := fun j => j = n) (b1 := false) (b2 := false) (ei_int (b1 := false) (ei_rest rfl)) (ei_of (ee_var rfl) rfl) ?_) rfl) ?_
  · rintro s j _ rfl
    exact ⟨_, trivial, rv_I (show CDiv s j from ⟨n0, n1⟩) (.int _)⟩
  rintro env' rfl
  refine' se_retD (b := false) (ee_var rfl) ⟨i, hi, rfl⟩
--EV ev_law_take 3
theorem ev_law_take {env : List Ent} {E : XK} {tb : TE} {a l c : Addr} {cs : List Int} {i : Nat} {n : Int} (ha : env[i]? = some (.raw (.ref a))) (hb : EEd (pmD K (a, l, c, cs)) false tb env (.int n)) (h : 0 < n ∧ n < 1073741824) : EEv (pmD K (a, l, c, cs)) false (tCall (SpI (pmD K) sp_law_take) [] E (tCons (tVar i) (tCons tb tNil))) env (IntV fun i => 0 ≤ i ∧ i < n) :=
  ee_callI (pm := pmD K) (F := sp_law_take) (a, l, c, cs) n (ae_raw ha (ae_cons hb ae_nil)) h fun _ _ h => h

local macro_rules | `(tactic| tm_at "one") => `(tactic| first
  | with_reducible refine' ev_law_take ?_ ?_ ?_)
end
end K71
namespace K71
open Fw PySem PySem.Spec PyProof.Rows L2
local macro_rules | `(tactic| tm_at "one") => `(tactic| first
  | with_reducible exact ee_int
  | with_reducible exact ee_str
  | with_reducible exact ee_bl
  | with_reducible exact ee_non
  | ((with_reducible refine' ee_var ?hv); case hv => rfl)
  | ((with_reducible refine' ee_own ?hv); case hv => rfl)
  | with_reducible refine' ee_andV ?_ (fun hAnd => ?_)
  | with_reducible refine' ee_orV ?_ (fun hOr => ?_)
  | with_reducible refine' ee_notV ?_
  | with_reducible refine' ee_if ?_ (fun hIf => ?_) (fun hIf => ?_)
  | with_reducible refine' te_B ?_
  | with_reducible refine' te_test ?_
  | with_reducible refine' te_and ?_ (fun hAnd => ?_)
  | with_reducible refine' te_or ?_ (fun hOr => ?_)
  | with_reducible refine' te_not ?_
  | with_reducible exact te_yes
  | with_reducible refine' ee_chain ?_ ?_ ?_ (fun hCh => ?_) (fun hCh => ?_)
  | with_reducible refine' ee_isInt ?_
  | with_reducible refine' ee_isBool ?_
  | with_reducible refine' ee_isStr ?_
  | with_reducible refine' ee_isTup ?_
  | with_reducible refine' ee_isLst ?_
  | with_reducible refine' ee_neg ?_
  | with_reducible refine' ee_revT ?_
  | with_reducible refine' ee_opC ?_ ?_
  | with_reducible refine' ee_opE ?_ ?_ ?_
  | with_reducible refine' ee_opN ?_ ?_ ?_
  | with_reducible refine' ee_op ?_ ?_ ?_
  | with_reducible refine' ee_sl ?_ ?_ ?_ ?_
  | with_reducible exact oe_none
  | with_reducible refine' oe_some ?_
  | with_reducible refine' ee_len ?_ ?_
  | with_reducible refine' ee_tup ?_ ?_
  | with_reducible refine' LEv.eed (le_lst ?_ ?_)
  | with_reducible refine' le_lst ?_ ?_
  | with_reducible refine' ee_cb ?_ ?_
  | with_reducible exact de_nil
  | with_reducible refine' de_cons ?_ ?_
  | with_reducible refine' de_star ?_ ?_
  | with_reducible exact ae_nil
  | ((with_reducible refine' ae_raw ?hv ?_); case hv => rfl)
  | with_reducible refine' ae_cons ?_ ?_
  | with_reducible exact rv_addI
  | with_reducible refine' rv_addL ?_
  | with_reducible refine' rv_addT ?_
  | with_reducible refine' rv_addS ?_
  | with_reducible refine' rv_I0 (.int _)
  | with_reducible refine' rv_I0 (.bl _)
  | with_reducible refine' rv_eq ?_ ?_
  | with_reducible refine' rv_ne ?_ ?_
  | with_reducible exact rv_isN
  | with_reducible exact rv_notN
  | with_reducible refine' rv_ixL ?_
  | with_reducible refine' rv_ixT ?_
  | with_reducible exact sv_L
  | with_reducible exact sv_T
  | with_reducible refine' sv_S ?_
  | with_reducible exact rc_lenL
  | with_reducible exact rc_lenT
  | with_reducible exact rc_tupL
  | with_reducible exact rc_tupT
  | with_reducible exact rc_int1
  | with_reducible exact rc_all
  | with_reducible exact rc_any
  | with_reducible refine' ie_list ?_
  | with_reducible refine' ie_tup ?_
  | with_reducible refine' ie_range1 ?_ ?_
  | with_reducible refine' ie_range2 ?_ ?_
  | with_reducible refine' ie_enum0 ?_
  | with_reducible refine' ie_enum1 ?_ ?_
  | with_reducible refine' ie_str ?_)
local macro_rules | `(tactic| tm_at "ev") => `(tactic| repeat' tm_at "one")
local macro_rules | `(tactic| tm_at "go") => `(tactic| dsimp only [padN, poOf, FSp.fn, nox_K, cx_K, List.set])
local macro_rules | `(tactic| tm_at "one") => `(tactic| first
  | with_reducible refine' ev_is_number ?_
  | with_reducible refine' ev_is_between ?_ ?_ ?_
  | with_reducible refine' ev_need_between ?_ ?_ ?_ ?_ ?_
  | with_reducible refine' ev_has_each ?_ ?_
  | with_reducible refine' ev_is_row ?_
  | with_reducible refine' ev_need_row ?_ ?_
  | with_reducible refine' ev_undone_told ?_ ?_
  | with_reducible refine' ev_undone_row ?_ ?_
  | with_reducible refine' ev_turned_row ?_ ?_
  | with_reducible refine' ev_upturned_row ?_ ?_
  | with_reducible refine' ev_standing_told ?_ ?_
  | with_reducible refine' ev_fits_on ?_ ?_ ?_ ?_ ?_
  | with_reducible refine' ev_places_told ?_ ?_ ?_
  | with_reducible refine' ev_holds_told ?_ ?_ ?_
  | with_reducible refine' ev_taken_out ?_ ?_ ?_
  | with_reducible refine' ev_has_mark ?_ ?_ ?_
  | with_reducible refine' ev_marks_told ?_ ?_
  | with_reducible refine' ev_marks_of ?_ ?_
  | with_reducible refine' ev_law_shape_of ?_ ?_
  | with_reducible refine' ev_law_lots ?_ ?_ ?_
  | with_reducible refine' ev_law_holds ?_ ?_ ?_
  | with_reducible refine' ev_law_marks ?_ ?_
  | with_reducible refine' ev_law_take ?_ ?_ ?_)
section
variable {P : Program} {w : World} {K : PySem.W.Frag} {mg : Str → Option Value} {base : Heap}
abbrev sp_law_pick (d : Addr × Addr × Addr × List Int) : FSp := { α := List PyData, args := fun ds => [.raw (.ref d.1), .d (.list ds)], pre := fun ds => 0 < ds.length ∧ ds.length < 1073741824, post := fun ds z => z ∈ ds }
theorem ok__law_pick (T : Tx w K mg) : FnOk P w K mg base CX0 3 T.a__law_pick T.fd__law_pick ["draw", "some"] (SpI (pmD K) sp_law_pick) := by
  refine fn_okI T.F__law_pick sc__law_pick (fun _ _ => rfl) fun cdv A outer s H E hr => ⟨_, (pss_one (ps_ret (pe_ix (k_ix (K := K) rfl) (pv 1) (pe_call (ok__law_take T) hr (by rfl) T.g__law_take T.F__law_take.kp T.b__law_take .nil pass0 (pa_cons (pv 0) (pa_cons (pe_callB (k_len (K := K) rfl) (by rfl) T.z_len bt_len (pa_cons (pv 1) pa_nil)) pa_nil))) (fun _ _ => rfl)))), ?_⟩
  rintro ⟨a, l, c, cs⟩ ds hx
  tm_at "go"
  obtain ⟨n0, n1⟩ : 0 < ds.length ∧ ds.length < 1073741824 := hx
  refine' se_ret (b := false) (ee_opG (Φ3 := fun z => z ∈ ds) (ee_var rfl) (ev_law_take rfl (ee_len (ee_var rfl) (.list ds)) ⟨by omega, by omega⟩) ?_) fun z hz => hz
  rintro x y rfl ⟨i, ⟨h0, h1⟩, rfl⟩
  obtain ⟨z, hz, ha⟩ := atI_mem h0 h1
  exact ⟨z, hz, rv_ixL ha⟩

abbrev sp_law_shuffled (d : Addr × Addr × Addr × List Int) : FSp := { α := List Int, args := fun ns => [.raw (.ref d.1), .d (.list (ns.map .int))], pre := fun ns => ns.length ≤ 1000, post := fun ns z => ∃ ms : List Int, ms.Perm ns ∧ z = .list (ms.map .int) }
theorem erase_perm {ls : List Int} {k : Nat} {x : Int} (h : ls[k]? = some x) : (x :: ls.eraseIdx k).Perm ls := by
  induction ls generalizing k with
  | nil => exact nomatch h
  | cons a ls ih =>
    cases k with
    | zero => cases h; exact .refl _
    | succ k =>
      have h2 : ls[k]? = some x := by simpa using h
      exact (List.Perm.swap a x _).trans ((ih h2).cons a)
theorem map_erase (ls : List Int) (k : Nat) : (ls.map PyData.int).eraseIdx k = (ls.eraseIdx k).map .int := by
  induction ls generalizing k with
  | nil => rfl
  | cons a ls ih =>
    cases k with
    | zero => rfl
    | succ k => exact congrArg (List.cons _) (ih k)
theorem ok__law_shuffled (T : Tx w K mg) : FnOk P w K mg base CX0 3 T.a__law_shuffled T.fd__law_shuffled ["draw", "some"] (SpI (pmD K) sp_law_shuffled) := by
  refine fn_okI T.F__law_shuffled sc__law_shuffled (fun _ _ => rfl) fun cdv A outer s H E hr => ⟨_, (pss_cons (ps_par (i := 2) (j := 3) (by rfl) sc__law_shuffled.nd rfl rfl (by decide) rfl rfl (pa_cons (pe_lst pa_nil) (pa_cons (pe_callTy (k_list (K := K) rfl) (by rfl) T.z_list bt_list (pa_cons (pv 1) pa_nil)) pa_nil)) (by rfl)) (pss_cons (ps_while PassesOwn.never (pt_cmpR (k_ne (K := K) rfl hr.units) (pv 3) (pe_lst pa_nil) (nomark _)) (pss_one (ps_expr (k_bm (K := K) rfl PySem.F.plainAttrs_list PySem.F.slot_list_append PySem.F.type_list_append mt_append (pv 2) (pa_cons (k_bm (K := K) rfl PySem.F.plainAttrs_list PySem.F.slot_list_pop PySem.F.type_list_pop mt_popAt (pv 3) (pa_cons (pe_call (ok__law_take T) hr (by rfl) T.g__law_take T.F__law_take.kp T.b__law_take .nil pass0 (pa_cons (pv 0) (pa_cons (pe_callB (k_len (K := K) rfl) (by rfl) T.z_len bt_len (pa_cons (pv 3) pa_nil)) pa_nil))) pa_nil)) pa_nil))))) (pss_one (ps_ret (pv 2))))), ?_⟩
  rintro ⟨a, l, c, cs⟩ ns hx
  tm_at "go"
  have hx : ns.length ≤ 1000 := hx
  have zl : (1000 : Nat) < sizeLine := by rw [sizeLine_eq]; decide
  refine' sq_par_LL (ns := []) (ms := ns) (le_lst de_nil (by rw [sizeLine_eq]; decide)) (ee_listOfL (ee_var rfl)) fun p q => ?_
  refine' sq (N' := fun e => ∃ fs : List Int, fs.Perm ns ∧ e = [.raw (.ref a), .d (.list (ns.map .int)), .own p (fs.map .int), .own q []]) ?_ ?_
  · refine' se_while (fun m e => ∃ fs ls : List Int, (fs ++ ls).Perm ns ∧ ls.length = m ∧ e = [.raw (.ref a), .d (.list (ns.map .int)), .own p (fs.map .int), .own q (ls.map .int)]) ⟨_, [], ns, .refl _, rfl, rfl⟩ ?_
    rintro m env' ⟨fs, ls, hp, rfl, rfl⟩
    have hlen := hp.length_eq
    rw [List.length_append] at hlen
    refine ⟨!PyData.eqv (.list (ls.map .int)) (.list []), te_test (ee_opN (b2 := false) (ee_own rfl) (LEv.eed (le_lst de_nil (by rw [sizeLine_eq]; decide))) ⟨shaped_flat 1 (flat_li ls), shaped_l0⟩), fun hk => ?_, fun hk => ?_⟩
    · rw [eqv_l0] at hk
      have hl : 0 < ls.length := by
        cases ls with
        | nil => exact nomatch hk
        | cons x ls => exact Nat.succ_pos _
      have hml : (ls.map PyData.int).length = ls.length := List.length_map ..
      refine' se_appendPop (b := false) rfl rfl (by decide) (EEv.imp (ev_law_take rfl (ee_len (ee_own rfl) (.list _)) ⟨by omega, by omega⟩) fun x hx => hx) ?_ ?_ ?_
      · rw [List.length_map]; omega
      · rw [List.length_map]; omega
      · intro k x hkx
        rw [List.getElem?_map] at hkx
        cases hj : ls[k]? with
        | none => rw [hj] at hkx; exact nomatch hkx
        | some n =>
          rw [hj] at hkx
          obtain rfl : PyData.int n = x := by simpa using hkx
          have hpm := erase_perm hj
          have hpl := hpm.length_eq
          rw [List.length_cons] at hpl
          refine ⟨(ls.eraseIdx k).length, by omega, fs ++ [n], ls.eraseIdx k, ?_, rfl, ?_⟩
          · rw [List.append_assoc]
            exact (List.Perm.append_left fs hpm).trans hp
          · rw [map_erase, List.map_append]
            rfl
    · rw [eqv_l0] at hk
      cases ls with
      | nil => exact ⟨fs, by simpa using hp, rfl⟩
      | cons x ls => exact nomatch hk
  · rintro env' ⟨fs, hp, rfl⟩
    refine' se_retD (ee_own rfl) ⟨fs, hp, rfl⟩

abbrev sp_law_row (d : Addr × Addr × Addr × List Int) : FSp := { α := Int, args := fun n => [.raw (.ref d.1), .d (.int n)], pre := fun n => 0 < n ∧ n ≤ 8, post := fun _ z => ∃ ns : List Int, RowOk ns ∧ z = tuI ns }
theorem row_perm {ns ms : List Int} (h : ms.Perm ns) (r : RowOk ns) : RowOk ms :=
  ⟨by rw [h.length_eq]; exact r.l1, by rw [h.length_eq]; exact r.l8, fun n hn => by rw [h.length_eq]; exact r.rg n (h.mem_iff.mp hn), h.nodup_iff.mpr r.nd⟩
theorem row_rng {n : Nat} (h0 : 1 ≤ n) (h8 : n ≤ 8) : RowOk (rngI 1 n) := ⟨by rw [rngI_len]; exact h0, by rw [rngI_len]; exact h8, fun i hi => by have := mem_rngI.mp hi; rw [rngI_len]; omega, rngI_nodup 1 n⟩
theorem ok__law_row (T : Tx w K mg) : FnOk P w K mg base CX0 4 T.a__law_row T.fd__law_row ["draw", "most"] (SpI (pmD K) sp_law_row) := by
  refine fn_okI T.F__law_row sc__law_row (fun _ _ => rfl) fun cdv A outer s H E hr => ⟨_, (pss_one (ps_ret (pe_callTy (k_tuple (K := K) rfl) (by rfl) T.z_tuple bt_tuple (pa_cons (pe_call (ok__law_shuffled T) hr (by rfl) T.g__law_shuffled T.F__law_shuffled.kp T.b__law_shuffled .nil pass0 (pa_cons (pv 0) (pa_cons (pe_listRg rfl (by rfl) T.z_list (prg_2 (by rfl) T.z_range pe_int (pe_op (k_add (K := K) rfl) pe_int (pe_call (ok__law_take T) (hr.mono (by decide)) (by rfl) T.g__law_take T.F__law_take.kp T.b__law_take .nil pass0 (pa_cons (pv 0) (pa_cons (pv 1) pa_nil)))))) pa_nil))) pa_nil)))), ?_⟩
  rintro ⟨a, l, c, cs⟩ (n : Int) hx
  tm_at "go"
  obtain ⟨n0, n8⟩ : 0 < n ∧ n ≤ 8 := hx
  refine' se_ret (b := false) (ee_cbG (Φ := fun z => ∃ ms : List Int, RowOk ms ∧ z = .list (ms.map .int)) (Ψ := fun z => ∃ ms : List Int, RowOk ms ∧ z = tuI ms) (ee_callIG (pm := pmD K) (F := sp_law_shuffled) (a, l, c, cs) (ae_rawG rfl (ae_consG (LEv.ee (le_rgG (A := fun k => 2 ≤ k ∧ k ≤ n + 1) (ei_op (A := fun i => i = 2) (B := fun i => 0 ≤ i ∧ i < n) (b1 := false) (b2 := false) (ei_of ee_int rfl) (ev_law_take rfl (ee_var rfl) ⟨n0, by omega⟩) ?_) ?_)) ae_nil)) ?_) ?_) fun z hz => hz
  · rintro i j rfl hj
    exact ⟨_, ⟨by omega, by omega⟩, rv_addI⟩
  · rintro k hk
    unfold RgOk
    omega
  · rintro as ⟨r, ⟨x, r', ⟨xs, rfl, ⟨k, hk, rfl⟩⟩, rfl, rfl⟩, rfl⟩
    refine ⟨rngI 1 (k - 1).toNat, rfl, ?_, ?_, fun _ _ h => h⟩
    · show (rngI 1 (k - 1).toNat).length ≤ 1000
      rw [rngI_len]
      omega
    · rintro z ⟨ms, hp, rfl⟩
      exact ⟨ms, row_perm hp (row_rng (by omega) (by omega)), rfl⟩
  · rintro x ⟨ms, hr, rfl⟩
    exact ⟨_, ⟨ms, hr, rfl⟩, rc_tupL⟩

end
end K71
namespace K71
open Fw PySem PySem.Spec PyProof.Rows L2
local macro_rules | `(tactic| tm_at "one") => `(tactic| first
  | with_reducible exact ee_int
  | with_reducible exact ee_str
  | with_reducible exact ee_bl
  | with_reducible exact ee_non
  | ((with_reducible refine' ee_var ?hv); case hv => rfl)
  | ((with_reducible refine' ee_own ?hv); case hv => rfl)
  | with_reducible refine' ee_andV ?_ (fun hAnd => ?_)
  | with_reducible refine' ee_orV ?_ (fun hOr => ?_)
  | with_reducible refine' ee_notV ?_
  | with_reducible refine' ee_if ?_ (fun hIf => ?_) (fun hIf => ?_)
  | with_reducible refine' te_B ?_
  | with_reducible refine' te_test ?_
  | with_reducible refine' te_and ?_ (fun hAnd => ?_)
  | with_reducible refine' te_or ?_ (fun hOr => ?_)
  | with_reducible refine' te_not ?_
  | with_reducible exact te_yes
  | with_reducible refine' ee_chain ?_ ?_ ?_ (fun hCh => ?_) (fun hCh => ?_)
  | with_reducible refine' ee_isInt ?_
  | with_reducible refine' ee_isBool ?_
  | with_reducible refine' ee_isStr ?_
  | with_reducible refine' ee_isTup ?_
  | with_reducible refine' ee_isLst ?_
  | with_reducible refine' ee_neg ?_
  | with_reducible refine' ee_revT ?_
  | with_reducible refine' ee_opC ?_ ?_
  | with_reducible refine' ee_opE ?_ ?_ ?_
  | with_reducible refine' ee_opN ?_ ?_ ?_
  | with_reducible refine' ee_op ?_ ?_ ?_
  | with_reducible refine' ee_sl ?_ ?_ ?_ ?_
  | with_reducible exact oe_none
  | with_reducible refine' oe_some ?_
  | with_reducible refine' ee_len ?_ ?_
  | with_reducible refine' ee_tup ?_ ?_
  | with_reducible refine' LEv.eed (le_lst ?_ ?_)
  | with_reducible refine' le_lst ?_ ?_
  | with_reducible refine' ee_cb ?_ ?_
  | with_reducible exact de_nil
  | with_reducible refine' de_cons ?_ ?_
  | with_reducible refine' de_star ?_ ?_
  | with_reducible exact ae_nil
  | ((with_reducible refine' ae_raw ?hv ?_); case hv => rfl)
  | with_reducible refine' ae_cons ?_ ?_
  | with_reducible exact rv_addI
  | with_reducible refine' rv_addL ?_
  | with_reducible refine' rv_addT ?_
  | with_reducible refine' rv_addS ?_
  | with_reducible refine' rv_I0 (.int _)
  | with_reducible refine' rv_I0 (.bl _)
  | with_reducible refine' rv_eq ?_ ?_
  | with_reducible refine' rv_ne ?_ ?_
  | with_reducible exact rv_isN
  | with_reducible exact rv_notN
  | with_reducible refine' rv_ixL ?_
  | with_reducible refine' rv_ixT ?_
  | with_reducible exact sv_L
  | with_reducible exact sv_T
  | with_reducible refine' sv_S ?_
  | with_reducible exact rc_lenL
  | with_reducible exact rc_lenT
  | with_reducible exact rc_tupL
  | with_reducible exact rc_tupT
  | with_reducible exact rc_int1
  | with_reducible exact rc_all
  | with_reducible exact rc_any
  | with_reducible refine' ie_list ?_
  | with_reducible refine' ie_tup ?_
  | with_reducible refine' ie_range1 ?_ ?_
  | with_reducible refine' ie_range2 ?_ ?_
  | with_reducible refine' ie_enum0 ?_
  | with_reducible refine' ie_enum1 ?_ ?_
  | with_reducible refine' ie_str ?_)
local macro_rules | `(tactic| tm_at "ev") => `(tactic| repeat' tm_at "one")
local macro_rules | `(tactic| tm_at "go") => `(tactic| dsimp only [padN, poOf, FSp.fn, nox_K, cx_K, List.set])
local macro_rules | `(tactic| tm_at "one") => `(tactic| first
  | with_reducible refine' ev_is_number ?_
  | with_reducible refine' ev_is_between ?_ ?_ ?_
  | with_reducible refine' ev_need_between ?_ ?_ ?_ ?_ ?_
  | with_reducible refine' ev_has_each ?_ ?_
  | with_reducible refine' ev_is_row ?_
  | with_reducible refine' ev_need_row ?_ ?_
  | with_reducible refine' ev_undone_told ?_ ?_
  | with_reducible refine' ev_undone_row ?_ ?_
  | with_reducible refine' ev_turned_row ?_ ?_
  | with_reducible refine' ev_upturned_row ?_ ?_
  | with_reducible refine' ev_standing_told ?_ ?_
  | with_reducible refine' ev_fits_on ?_ ?_ ?_ ?_ ?_
  | with_reducible refine' ev_places_told ?_ ?_ ?_
  | with_reducible refine' ev_holds_told ?_ ?_ ?_
  | with_reducible refine' ev_taken_out ?_ ?_ ?_
  | with_reducible refine' ev_has_mark ?_ ?_ ?_
  | with_reducible refine' ev_marks_told ?_ ?_
  | with_reducible refine' ev_marks_of ?_ ?_
  | with_reducible refine' ev_law_shape_of ?_ ?_
  | with_reducible refine' ev_law_lots ?_ ?_ ?_
  | with_reducible refine' ev_law_holds ?_ ?_ ?_
  | with_reducible refine' ev_law_marks ?_ ?_
  | with_reducible refine' ev_law_take ?_ ?_ ?_)
section
variable {P : Program} {w : World} {K : PySem.W.Frag} {mg : Str → Option Value} {base : Heap}
def bump (k x : Int) : Int := if decide (k ≤ x) then x + 1 else x
def widen (ns : List Int) (k s : Int) : List Int := (ns.map (bump k)).take s.toNat ++ [k] ++ (ns.map (bump k)).drop s.toNat
theorem bump_inj {k x y : Int} (h : bump k x = bump k y) : x = y := by
  unfold bump at h
  by_cases h1 : k ≤ x <;> by_cases h2 : k ≤ y <;> simp [h1, h2] at h <;> omega
theorem bump_ne {k x : Int} : k ≠ bump k x := by
  unfold bump
  by_cases h1 : k ≤ x <;> simp [h1] <;> omega
theorem widen_perm (ns : List Int) (k s : Int) : (widen ns k s).Perm (k :: ns.map (bump k)) := by
  unfold widen
  rw [List.append_assoc]
  refine (List.perm_middle (a := k) (l₁ := (ns.map (bump k)).take s.toNat) (l₂ := (ns.map (bump k)).drop s.toNat)).trans ?_
  rw [List.take_append_drop]
theorem widen_len (ns : List Int) (k s : Int) : (widen ns k s).length = ns.length + 1 := by
  rw [(widen_perm ns k s).length_eq, List.length_cons, List.length_map]
theorem widen_ok {ns : List Int} {k s : Int} (r : RowOk ns) (h7 : ns.length ≤ 7) (h0 : 1 ≤ k) (h1 : k ≤ ns.length + 1) : RowOk (widen ns k s) := by
  have hp := widen_perm ns k s
  refine ⟨by rw [widen_len]; omega, by rw [widen_len]; omega, fun n hn => ?_, hp.nodup_iff.mpr (List.nodup_cons.mpr ⟨fun hm => ?_, ?_⟩)⟩
  · rw [widen_len]
    rcases List.mem_cons.mp (hp.mem_iff.mp hn) with rfl | hm
    · omega
    · obtain ⟨x, hx, rfl⟩ := List.mem_map.mp hm
      have := r.rg x hx
      unfold bump
      by_cases h1 : k ≤ x <;> simp [h1] <;> omega
  · obtain ⟨x, hx, e⟩ := List.mem_map.mp hm
    exact bump_ne e.symm
  · exact List.pairwise_map.mpr (List.Pairwise.imp (fun hne e => hne (bump_inj e)) r.nd)
abbrev sp_law_wider (d : Addr × Addr × Addr × List Int) : FSp := { α := List Int, args := fun ns => [.raw (.ref d.1), .d (tuI ns)], pre := fun ns => RowOk ns ∧ ns.length ≤ 7, post := fun ns z => ∃ ms : List Int, RowOk ms ∧ ms.length = ns.length + 1 ∧ z = tuI ms }
theorem cut_takeL {ns : List Int} {k : Int} (h : 0 ≤ k ∧ k ≤ ns.length) : Fw.cutD (ns.map .int) none (some k) = (ns.take k.toNat).map .int := by
  rw [cut_take (by rw [List.length_map]; exact h), List.map_take]
theorem cut_dropL {ns : List Int} {k : Int} (h : 0 ≤ k ∧ k ≤ ns.length) : Fw.cutD (ns.map .int) (some k) none = (ns.drop k.toNat).map .int := by
  rw [cut_drop (by rw [List.length_map]; exact h), List.map_drop]
theorem ok__law_wider (T : Tx w K mg) : FnOk P w K mg base CX0 3 T.a__law_wider T.fd__law_wider ["draw", "row"] (SpI (pmD K) sp_law_wider) := by
  refine fn_okI T.F__law_wider sc__law_wider (fun _ _ => rfl) fun cdv A outer s H E hr => ⟨_, (pss_cons (ps_asg (pe_tup (pa_cons (pe_op (k_add (K := K) rfl) pe_int (pe_call (ok__law_take T) hr (by rfl) T.g__law_take T.F__law_take.kp T.b__law_take .nil pass0 (pa_cons (pv 0) (pa_cons (pe_op (k_add (K := K) rfl) (pe_callB (k_len (K := K) rfl) (by rfl) T.z_len bt_len (pa_cons (pv 1) pa_nil)) pe_int) pa_nil)))) (pa_cons (pe_call (ok__law_take T) hr (by rfl) T.g__law_take T.F__law_take.kp T.b__law_take .nil pass0 (pa_cons (pv 0) (pa_cons (pe_op (k_add (K := K) rfl) (pe_callB (k_len (K := K) rfl) (by rfl) T.z_len bt_len (pa_cons (pv 1) pa_nil)) pe_int) pa_nil))) pa_nil))) (k_gtup (K := K) rfl rfl (pgs_cons (pg_name (i := 2) sc__law_wider.nd rfl (Or.inr rfl)) (pgs_cons (pg_name (i := 3) sc__law_wider.nd rfl (Or.inl rfl)) pgs_nil))) (hs := by kernel_rfl) (hw := by kernel_rfl) (h1 := by kernel_rfl)) (pss_cons (ps_setLc (i := 4) (own := [("other", 5)]) (g := gName 5) rfl sc__law_wider.nd rfl rfl (sw_true rfl rfl rfl (by decide +kernel)) (k_seq (K := K) rfl (pv 1)) (blkOk_by (by kernel_rfl)) (fun _ _ _ _ _ => (pg_name (i := 5) sc__law_wider.nd rfl (Or.inl rfl))) (fun _ _ _ _ _ => pts_nil) (fun _ _ _ _ _ => (pe_ifExp (pt_cmpR op_ge (pv 5) (pv 2) (nomark _)) (pe_op (k_add (K := K) rfl) (pv 5) pe_int) (pv 5)))) (pss_one (ps_ret (pe_callTy (k_tuple (K := K) rfl) (by rfl) T.z_tuple bt_tuple (pa_cons (pe_op (k_add (K := K) rfl) (pe_op (k_add (K := K) rfl) (pe_slice (k_sl (K := K) rfl) (pv 4) po_none (po_some (pv 3))) (pe_lst (pa_cons (pv 2) pa_nil))) (pe_slice (k_sl (K := K) rfl) (pv 4) (po_some (pv 3)) po_none)) pa_nil)))))), ?_⟩
  rintro ⟨a, l, c, cs⟩ ns hx
  tm_at "go"
  obtain ⟨hr, h7⟩ : RowOk ns ∧ ns.length ≤ 7 := hx
  have hl : ((ns.map PyData.int).length : Int) = ns.length := by rw [List.length_map]
  have htake : ∀ env : List Ent, env[0]? = some (.raw (.ref a)) → env[1]? = some (.d (tuI ns)) → ∀ E, EEv (pmD K (a, l, c, cs)) false (tCall (SpI (pmD K) sp_law_take) [] E (tCons (tVar 0) (tCons (tOp (rAddD K) (tCB (rLenD K) (tCons (tVar 1) tNil)) (tC (.int 1))) tNil))) env (IntV fun i => 0 ≤ i ∧ i < ns.length + 1) := fun env g0 g1 E => by
    have h := ev_law_take (K := K) (E := E) (l := l) (c := c) (cs := cs) (n := (ns.map PyData.int).length + 1) (tb := tOp (rAddD K) (tCB (rLenD K) (tCons (tVar 1) tNil)) (tC (.int 1))) g0 (ee_op (ee_len (ee_var g1) (.tuple _)) ee_int rv_addI) ⟨by omega, by omega⟩
    rw [hl] at h
    exact h
  refine' sq_asgTup2 (Φ1 := IntV fun i => 1 ≤ i ∧ i ≤ ns.length + 1) (ei_op (A := fun i => i = 1) (B := fun i => 0 ≤ i ∧ i < ns.length + 1) (b1 := false) (b2 := false) (ei_of ee_int rfl) (htake _ rfl rfl _) ?_) (htake _ rfl rfl _) ?_
  · rintro i j rfl hj
    exact ⟨_, ⟨by omega, by omega⟩, rv_addI⟩
  rintro x y ⟨k, hk, rfl⟩ ⟨s, hs, rfl⟩
  refine' sq_asg (x := .list ((ns.map (bump k)).map .int)) ?_ ?_
  · have h : LEv (pmD K (a, l, c, cs)) _ ([Ent.raw (.ref a), .d (tuI ns), .d (.int k), .d (.int s), .un, .un]) _ := le_lc1Y (i := 5) (te := tIf (tTest (tOp (rI0 fun i j => .bl (decide (j ≤ i))) (tVar 5) (tVar 2))) (tOp (rAddD K) (tVar 5) (tC (.int 1))) (tVar 5)) (em := PyData.int) (ns := ns) (f := fun n => .int (bump k n)) (ie_tup (ee_var (i := 1) rfl)) rfl (fun n _ => ?_) (row_sz (by omega))
    · have h2 := LEv.eed h
      have e : (ns.map (bump k)).map PyData.int = ns.map fun n => .int (bump k n) := by rw [List.map_map]; rfl
      rw [e]
      exact h2
    · refine' ee_ifB (c := decide (k ≤ n)) (te_test (ee_opC (ee_var rfl) (ee_var rfl))) (fun hk => ?_) (fun hk => ?_)
      · have e : bump k n = n + 1 := by unfold bump; rw [hk]; rfl
        rw [e]
        exact ee_op (ee_var rfl) ee_int rv_addI
      · have e : bump k n = n := by unfold bump; rw [hk]; rfl
        rw [e]
        exact ee_var rfl
  · have hs2 : 0 ≤ s ∧ s ≤ (ns.map (bump k)).length := by rw [List.length_map]; omega
    have e : (widen ns k s).map PyData.int = Fw.cutD ((ns.map (bump k)).map .int) none (some s) ++ [.int k] ++ Fw.cutD ((ns.map (bump k)).map .int) (some s) none := by
      rw [cut_takeL hs2, cut_dropL hs2]
      unfold widen
      rw [List.map_append, List.map_append]; rfl
    refine' se_retD (b := false) (x := tuI (widen ns k s)) ?_ ⟨_, widen_ok hr h7 (by omega) (by omega), widen_len _ _ _, rfl⟩
    have hlen := congrArg List.length e
    rw [List.length_map, widen_len, List.length_append, List.length_append] at hlen
    show EEd _ _ _ _ (.tuple ((widen ns k s).map .int))
    rw [e]
    refine' ee_tupL (ee_op (ee_op (ee_sl (ee_var rfl) oe_none (oe_some (ee_var rfl)) sv_L) (LEv.eed (le_lst (de_cons (ee_var rfl) de_nil) (by rw [sizeLine_eq]; exact (by decide : 1 ≤ 16777216)))) (rv_addL ?_)) (ee_sl (ee_var rfl) (oe_some (ee_var rfl)) oe_none sv_L) (rv_addL ?_))
    · rw [sizeLine_eq]; omega
    · rw [List.length_append, sizeLine_eq]; omega

end
end K71
namespace K71
open Fw PySem PySem.Spec PyProof.Rows L2
local macro_rules | `(tactic| tm_at "one") => `(tactic| first
  | with_reducible exact ee_int
  | with_reducible exact ee_str
  | with_reducible exact ee_bl
  | with_reducible exact ee_non
  | ((with_reducible refine' ee_var ?hv); case hv => rfl)
  | ((with_reducible refine' ee_own ?hv); case hv => rfl)
  | with_reducible refine' ee_andV ?_ (fun hAnd => ?_)
  | with_reducible refine' ee_orV ?_ (fun hOr => ?_)
  | with_reducible refine' ee_notV ?_
  | with_reducible refine' ee_if ?_ (fun hIf => ?_) (fun hIf => ?_)
  | with_reducible refine' te_B ?_
  | with_reducible refine' te_test ?_
  | with_reducible refine' te_and ?_ (fun hAnd => ?_)
  | with_reducible refine' te_or ?_ (fun hOr => ?_)
  | with_reducible refine' te_not ?_
  | with_reducible exact te_yes
  | with_reducible refine' ee_chain ?_ ?_ ?_ (fun hCh => ?_) (fun hCh => ?_)
  | with_reducible refine' ee_isInt ?_
  | with_reducible refine' ee_isBool ?_
  | with_reducible refine' ee_isStr ?_
  | with_reducible refine' ee_isTup ?_
  | with_reducible refine' ee_isLst ?_
  | with_reducible refine' ee_neg ?_
  | with_reducible refine' ee_revT ?_
  | with_reducible refine' ee_opC ?_ ?_
  | with_reducible refine' ee_opE ?_ ?_ ?_
  | with_reducible refine' ee_opN ?_ ?_ ?_
  | with_reducible refine' ee_op ?_ ?_ ?_
  | with_reducible refine' ee_sl ?_ ?_ ?_ ?_
  | with_reducible exact oe_none
  | with_reducible refine' oe_some ?_
  | with_reducible refine' ee_len ?_ ?_
  | with_reducible refine' ee_tup ?_ ?_
  | with_reducible refine' LEv.eed (le_lst ?_ ?_)
  | with_reducible refine' le_lst ?_ ?_
  | with_reducible refine' ee_cb ?_ ?_
  | with_reducible exact de_nil
  | with_reducible refine' de_cons ?_ ?_
  | with_reducible refine' de_star ?_ ?_
  | with_reducible exact ae_nil
  | ((with_reducible refine' ae_raw ?hv ?_); case hv => rfl)
  | with_reducible refine' ae_cons ?_ ?_
  | with_reducible exact rv_addI
  | with_reducible refine' rv_addL ?_
  | with_reducible refine' rv_addT ?_
  | with_reducible refine' rv_addS ?_
  | with_reducible refine' rv_I0 (.int _)
  | with_reducible refine' rv_I0 (.bl _)
  | with_reducible refine' rv_eq ?_ ?_
  | with_reducible refine' rv_ne ?_ ?_
  | with_reducible exact rv_isN
  | with_reducible exact rv_notN
  | with_reducible refine' rv_ixL ?_
  | with_reducible refine' rv_ixT ?_
  | with_reducible exact sv_L
  | with_reducible exact sv_T
  | with_reducible refine' sv_S ?_
  | with_reducible exact rc_lenL
  | with_reducible exact rc_lenT
  | with_reducible exact rc_tupL
  | with_reducible exact rc_tupT
  | with_reducible exact rc_int1
  | with_reducible exact rc_all
  | with_reducible exact rc_any
  | with_reducible refine' ie_list ?_
  | with_reducible refine' ie_tup ?_
  | with_reducible refine' ie_range1 ?_ ?_
  | with_reducible refine' ie_range2 ?_ ?_
  | with_reducible refine' ie_enum0 ?_
  | with_reducible refine' ie_enum1 ?_ ?_
  | with_reducible refine' ie_str ?_)
local macro_rules | `(tactic| tm_at "ev") => `(tactic| repeat' tm_at "one")
local macro_rules | `(tactic| tm_at "go") => `(tactic| dsimp only [padN, poOf, FSp.fn, nox_K, cx_K, List.set])
local macro_rules | `(tactic| tm_at "one") => `(tactic| first
  | with_reducible refine' ev_is_number ?_
  | with_reducible refine' ev_is_between ?_ ?_ ?_
  | with_reducible refine' ev_need_between ?_ ?_ ?_ ?_ ?_
  | with_reducible refine' ev_has_each ?_ ?_
  | with_reducible refine' ev_is_row ?_
  | with_reducible refine' ev_need_row ?_ ?_
  | with_reducible refine' ev_undone_told ?_ ?_
  | with_reducible refine' ev_undone_row ?_ ?_
  | with_reducible refine' ev_turned_row ?_ ?_
  | with_reducible refine' ev_upturned_row ?_ ?_
  | with_reducible refine' ev_standing_told ?_ ?_
  | with_reducible refine' ev_fits_on ?_ ?_ ?_ ?_ ?_
  | with_reducible refine' ev_places_told ?_ ?_ ?_
  | with_reducible refine' ev_holds_told ?_ ?_ ?_
  | with_reducible refine' ev_taken_out ?_ ?_ ?_
  | with_reducible refine' ev_has_mark ?_ ?_ ?_
  | with_reducible refine' ev_marks_told ?_ ?_
  | with_reducible refine' ev_marks_of ?_ ?_
  | with_reducible refine' ev_law_shape_of ?_ ?_
  | with_reducible refine' ev_law_lots ?_ ?_ ?_
  | with_reducible refine' ev_law_holds ?_ ?_ ?_
  | with_reducible refine' ev_law_marks ?_ ?_
  | with_reducible refine' ev_law_take ?_ ?_ ?_)
section
variable {P : Program} {w : World} {K : PySem.W.Frag} {mg : Str → Option Value} {base : Heap}
def startZ : List (List Int) := [[1], [2, 1], [3, 2, 1], [1, 3, 2], [2, 1, 4, 3], [3, 4, 1, 2], [4, 2, 3, 1], [3, 5, 1, 4, 2], [4, 2, 5, 1, 3], [3, 5, 1, 6, 2, 4]]
theorem startZ_ok : ∀ r ∈ startZ, RowOk r ∧ r.length ≤ 6 := fun r hr => by
  have h : ∀ r ∈ startZ, (1 ≤ r.length ∧ r.length ≤ 8) ∧ (∀ n ∈ r, 1 ≤ n ∧ n ≤ (r.length : Int)) ∧ r.Nodup ∧ r.length ≤ 6 := by decide
  obtain ⟨⟨h1, h2⟩, h3, h4, h5⟩ := h r hr
  exact ⟨⟨h1, h2, h3, h4⟩, h5⟩
abbrev sp_law_some_row (d : Addr × Addr × Addr × List Int) : FSp := { α := Unit, args := fun _ => [.raw (.ref d.1)], pre := fun _ => True, post := fun _ z => ∃ ns : List Int, RowOk ns ∧ z = tuI ns }
theorem ok__law_some_row (T : Tx w K mg) : FnOk P w K mg base CX0 5 T.a__law_some_row T.fd__law_some_row ["draw"] (SpI (pmD K) sp_law_some_row) := by
  refine fn_okI T.F__law_some_row sc__law_some_row (fun _ _ => rfl) fun cdv A outer s H E hr => ⟨_, (pss_cons (ps_set (i := 1) sc__law_some_row.nd rfl (Or.inl rfl) (pe_call (ok__law_take T) (hr.mono (by decide)) (by rfl) T.g__law_take T.F__law_take.kp T.b__law_take .nil pass0 (pa_cons (pv 0) (pa_cons pe_int pa_nil)))) (pss_cons (ps_if (pt_cmpR (k_eq (K := K) rfl hr.units) (pv 1) pe_int (nomark _)) (pss_one (ps_ret (pe_call (ok__law_row T) hr (by rfl) T.g__law_row T.F__law_row.kp T.b__law_row .nil pass0 (pa_cons (pv 0) (pa_cons pe_int pa_nil))))) pss_nil) (pss_cons (ps_set (i := 2) sc__law_some_row.nd rfl (Or.inl rfl) (pe_call (ok__law_pick T) (hr.mono (by decide)) (by rfl) T.g__law_pick T.F__law_pick.kp T.b__law_pick .nil pass0 (pa_cons (pv 0) (pa_cons (pe_lst (pa_cons (pe_tup (pa_cons pe_int pa_nil)) (pa_cons (pe_tup (pa_cons pe_int (pa_cons pe_int pa_nil))) (pa_cons (pe_tup (pa_cons pe_int (pa_cons pe_int (pa_cons pe_int pa_nil)))) (pa_cons (pe_tup (pa_cons pe_int (pa_cons pe_int (pa_cons pe_int pa_nil)))) (pa_cons (pe_tup (pa_cons pe_int (pa_cons pe_int (pa_cons pe_int (pa_cons pe_int pa_nil))))) (pa_cons (pe_tup (pa_cons pe_int (pa_cons pe_int (pa_cons pe_int (pa_cons pe_int pa_nil))))) (pa_cons (pe_tup (pa_cons pe_int (pa_cons pe_int (pa_cons pe_int (pa_cons pe_int pa_nil))))) (pa_cons (pe_tup (pa_cons pe_int (pa_cons pe_int (pa_cons pe_int (pa_cons pe_int (pa_cons pe_int pa_nil)))))) (pa_cons (pe_tup (pa_cons pe_int (pa_cons pe_int (pa_cons pe_int (pa_cons pe_int (pa_cons pe_int pa_nil)))))) (pa_cons (pe_tup (pa_cons pe_int (pa_cons pe_int (pa_cons pe_int (pa_cons pe_int (pa_cons pe_int (pa_cons pe_int pa_nil))))))) pa_nil))))))))))) pa_nil)))) (pss_cons (ps_for PassesOwn.never rfl (pi_range1 rfl T.z_range (pa_cons (pe_call (ok__law_take T) (hr.mono (by decide)) (by rfl) T.g__law_take T.F__law_take.kp T.b__law_take .nil pass0 (pa_cons (pv 0) (pa_cons (pe_op op_sub pe_int (pe_callB (k_len (K := K) rfl) (by rfl) T.z_len bt_len (pa_cons (pv 2) pa_nil))) pa_nil))) pa_nil)) (pg_name (i := 3) sc__law_some_row.nd rfl (Or.inl rfl)) (pss_one (ps_set (i := 2) sc__law_some_row.nd rfl (Or.inl rfl) (pe_call (ok__law_wider T) (hr.mono (by decide)) (by rfl) T.g__law_wider T.F__law_wider.kp T.b__law_wider .nil pass0 (pa_cons (pv 0) (pa_cons (pv 2) pa_nil)))))) (pss_one (ps_ret (pv 2))))))), ?_⟩
  rintro ⟨a, l, c, cs⟩ ⟨⟩ hx
  tm_at "go"
  refine' sq_asgG (ev_law_take (n := 3) rfl ee_int ⟨by decide, by decide⟩) ?_
  rintro x ⟨i, _, rfl⟩
  refine' sq (N' := fun e => e = [.raw (.ref a), .d (.int i), .un, .un]) (se_ifG (ei_eq (A := fun _ => True) (b1 := false) (ei_of (ee_var rfl) trivial)) ?_ (se_next rfl)) ?_
  · refine' se_ret (ee_callI (pm := pmD K) (F := sp_law_row) (b := false) (a, l, c, cs) 8 (ae_raw rfl (ae_cons ee_int ae_nil)) ⟨(by decide : (0 : Int) < 8), (by decide : (8 : Int) ≤ 8)⟩ fun _ _ h => h) fun z hz => hz
  rintro env' rfl
  refine' sq_asgG (Φ := fun z => ∃ ns ∈ startZ, z = tuI ns) (EEv.imp (ee_callI (pm := pmD K) (F := sp_law_pick) (b := false) (a, l, c, cs) (startZ.map tuI) (ae_raw rfl (ae_cons (LEv.eed (le_lst ?_ ?_)) ae_nil)) ⟨by decide, by decide⟩ fun _ _ h => h) ?_) ?_
  · dsimp only [startZ, tuI, List.map]
    tm_at "ev"
    all_goals (rw [sizeLine_eq]; exact Nat.le_of_ble_eq_true rfl)
  · rw [sizeLine_eq]; exact Nat.le_of_ble_eq_true rfl
  · intro z hz
    obtain ⟨ns, hn, e⟩ := List.mem_map.mp hz
    exact ⟨ns, hn, e.symm⟩
  rintro x ⟨n0, hn, rfl⟩
  obtain ⟨hr, h6⟩ := startZ_ok n0 hn
  refine' sq (N' := fun e => ∃ ns q, RowOk ns ∧ e = [.raw (.ref a), .d (.int i), .d (tuI ns), q]) ?_ ?_
  · have hl : ((n0.map PyData.int).length : Int) = n0.length := by rw [List.length_map]
    refine' se_forRg (b := false) (A := fun n => 0 ≤ n ∧ n < 9 - (n0.map PyData.int).length) (ev_law_take rfl (ee_op ee_int (ee_len (ee_var rfl) (.tuple _)) (rv_I0 (.int _))) ⟨by omega, by omega⟩) (fun n hn => by omega) (fun n j e => ∃ ns q, (RowOk ns ∧ ns.length = n0.length + j) ∧ e = [.raw (.ref a), .d (.int i), .d (tuI ns), q]) ?_ ?_ ?_
    · intro n hn
      exact ⟨n0, _, ⟨hr, rfl⟩, rfl⟩
    · rintro n j x env' hA hx ⟨ns, q, ⟨hr2, hl2⟩, rfl⟩
      have hj : j < n.toNat := by
        have := (List.getElem?_eq_some_iff.mp hx).1
        rwa [rngD_I, List.length_map, rngI_len] at this
      refine' turn1 ?_
      refine' se_asgG (ee_callI (pm := pmD K) (F := sp_law_wider) (b := false) (a, l, c, cs) ns (ae_raw rfl (ae_cons (ee_var rfl) ae_nil)) ⟨hr2, by omega⟩ fun _ _ h => h) ?_
      rintro z ⟨ms, h1, h2, rfl⟩
      exact ⟨ms, _, ⟨h1, by omega⟩, rfl⟩
    · rintro n env' hA ⟨ns, q, ⟨hr2, _⟩, rfl⟩
      exact ⟨ns, q, hr2, rfl⟩
  · rintro env' ⟨ns, q, hr2, rfl⟩
    refine' se_retD (b := false) (ee_var rfl) ⟨ns, hr2, rfl⟩

end
end K71
namespace K71
open Fw PySem PySem.Spec PyProof.Rows L2
local macro_rules | `(tactic| tm_at "one") => `(tactic| first
  | with_reducible exact ee_int
  | with_reducible exact ee_str
  | with_reducible exact ee_bl
  | with_reducible exact ee_non
  | ((with_reducible refine' ee_var ?hv); case hv => rfl)
  | ((with_reducible refine' ee_own ?hv); case hv => rfl)
  | with_reducible refine' ee_andV ?_ (fun hAnd => ?_)
  | with_reducible refine' ee_orV ?_ (fun hOr => ?_)
  | with_reducible refine' ee_notV ?_
  | with_reducible refine' ee_if ?_ (fun hIf => ?_) (fun hIf => ?_)
  | with_reducible refine' te_B ?_
  | with_reducible refine' te_test ?_
  | with_reducible refine' te_and ?_ (fun hAnd => ?_)
  | with_reducible refine' te_or ?_ (fun hOr => ?_)
  | with_reducible refine' te_not ?_
  | with_reducible exact te_yes
  | with_reducible refine' ee_chain ?_ ?_ ?_ (fun hCh => ?_) (fun hCh => ?_)
  | with_reducible refine' ee_isInt ?_
  | with_reducible refine' ee_isBool ?_
  | with_reducible refine' ee_isStr ?_
  | with_reducible refine' ee_isTup ?_
  | with_reducible refine' ee_isLst ?_
  | with_reducible refine' ee_neg ?_
  | with_reducible refine' ee_revT ?_
  | with_reducible refine' ee_opC ?_ ?_
  | with_reducible refine' ee_opE ?_ ?_ ?_
  | with_reducible refine' ee_opN ?_ ?_ ?_
  | with_reducible refine' ee_op ?_ ?_ ?_
  | with_reducible refine' ee_sl ?_ ?_ ?_ ?_
  | with_reducible exact oe_none
  | with_reducible refine' oe_some ?_
  | with_reducible refine' ee_len ?_ ?_
  | with_reducible refine' ee_tup ?_ ?_
  | with_reducible refine' LEv.eed (le_lst ?_ ?_)
  | with_reducible refine' le_lst ?_ ?_
  | with_reducible refine' ee_cb ?_ ?_
  | with_reducible exact de_nil
  | with_reducible refine' de_cons ?_ ?_
  | with_reducible refine' de_star ?_ ?_
  | with_reducible exact ae_nil
  | ((with_reducible refine' ae_raw ?hv ?_); case hv => rfl)
  | with_reducible refine' ae_cons ?_ ?_
  | with_reducible exact rv_addI
  | with_reducible refine' rv_addL ?_
  | with_reducible refine' rv_addT ?_
  | with_reducible refine' rv_addS ?_
  | with_reducible refine' rv_I0 (.int _)
  | with_reducible refine' rv_I0 (.bl _)
  | with_reducible refine' rv_eq ?_ ?_
  | with_reducible refine' rv_ne ?_ ?_
  | with_reducible exact rv_isN
  | with_reducible exact rv_notN
  | with_reducible refine' rv_ixL ?_
  | with_reducible refine' rv_ixT ?_
  | with_reducible exact sv_L
  | with_reducible exact sv_T
  | with_reducible refine' sv_S ?_
  | with_reducible exact rc_lenL
  | with_reducible exact rc_lenT
  | with_reducible exact rc_tupL
  | with_reducible exact rc_tupT
  | with_reducible exact rc_int1
  | with_reducible exact rc_all
  | with_reducible exact rc_any
  | with_reducible refine' ie_list ?_
  | with_reducible refine' ie_tup ?_
  | with_reducible refine' ie_range1 ?_ ?_
  | with_reducible refine' ie_range2 ?_ ?_
  | with_reducible refine' ie_enum0 ?_
  | with_reducible refine' ie_enum1 ?_ ?_
  | with_reducible refine' ie_str ?_)
local macro_rules | `(tactic| tm_at "ev") => `(tactic| repeat' tm_at "one")
local macro_rules | `(tactic| tm_at "go") => `(tactic| dsimp only [padN, poOf, FSp.fn, nox_K, cx_K, List.set])
local macro_rules | `(tactic| tm_at "one") => `(tactic| first
  | with_reducible refine' ev_is_number ?_
  | with_reducible refine' ev_is_between ?_ ?_ ?_
  | with_reducible refine' ev_need_between ?_ ?_ ?_ ?_ ?_
  | with_reducible refine' ev_has_each ?_ ?_
  | with_reducible refine' ev_is_row ?_
  | with_reducible refine' ev_need_row ?_ ?_
  | with_reducible refine' ev_undone_told ?_ ?_
  | with_reducible refine' ev_undone_row ?_ ?_
  | with_reducible refine' ev_turned_row ?_ ?_
  | with_reducible refine' ev_upturned_row ?_ ?_
  | with_reducible refine' ev_standing_told ?_ ?_
  | with_reducible refine' ev_fits_on ?_ ?_ ?_ ?_ ?_
  | with_reducible refine' ev_places_told ?_ ?_ ?_
  | with_reducible refine' ev_holds_told ?_ ?_ ?_
  | with_reducible refine' ev_taken_out ?_ ?_ ?_
  | with_reducible refine' ev_has_mark ?_ ?_ ?_
  | with_reducible refine' ev_marks_told ?_ ?_
  | with_reducible refine' ev_marks_of ?_ ?_
  | with_reducible refine' ev_law_shape_of ?_ ?_
  | with_reducible refine' ev_law_lots ?_ ?_ ?_
  | with_reducible refine' ev_law_holds ?_ ?_ ?_
  | with_reducible refine' ev_law_marks ?_ ?_
  | with_reducible refine' ev_law_take ?_ ?_ ?_)
section
variable {P : Program} {w : World} {K : PySem.W.Frag} {mg : Str → Option Value} {base : Heap}
abbrev sp_law_same : FSp := .fn (fun d : PyData => [.d d, .d d]) (fun d => isSeqD d = true ∧ showB d = true ∧ noDict d = true) fun _ => .bool true
theorem ok__law_same (T : Tx w K mg) : FnG P w K mg base 1 T.a__law_same T.fd__law_same ["told", "due"] (SpF (.pure K) sp_law_same) := by
  refine fn_okG T.F__law_same sc__law_same (fun _ => rfl) fun cdv A outer s H E hG hr => ⟨_, (pss_one (ps_ret (pe_cmpR (k_eq (K := K) rfl hr.units) (pe_callB (k_repr (K := K) rfl hG hr.units) (by rfl) T.z_repr bt_repr (pa_cons (pv 0) pa_nil)) (pe_callB (k_repr (K := K) rfl hG hr.units) (by rfl) T.z_repr bt_repr (pa_cons (pv 1) pa_nil)) (nomark _)))), ?_⟩
  intro d hx
  tm_at "go"
  obtain ⟨h1, h2, h3⟩ : isSeqD d = true ∧ showB d = true ∧ noDict d = true := hx
  have h4 := (showB_ok h2).2.2.2.2
  refine' se_retD (ee_opE (ee_repr (ee_var rfl) h1 h2 h3) (ee_repr (ee_var rfl) h1 h2 h3) ⟨h4, h4⟩) ?_
  show PyData.bool _ = PyData.bool true
  rw [eqv_s]
--EV ev_law_same 3
theorem ev_law_same {pm : Pm} {env : List Ent} {E : XK} {ta tb : TE} {d : PyData} (ha : EEd pm false ta env d) (hb : EEd pm false tb env d) (h : isSeqD d = true ∧ showB d = true ∧ noDict d = true) : EEd pm false (tCall (SpF (.pure pm.K) sp_law_same) [] E (tCons ta (tCons tb tNil))) env (.bool true) :=
  ee_fn0 d (ae_cons ha (ae_cons hb ae_nil)) h

local macro_rules | `(tactic| tm_at "one") => `(tactic| first
  | with_reducible refine' ev_law_same ?_ ?_ ?_)
end
end K71
namespace K71
open Fw PySem PySem.Spec PyProof.Rows L2
local macro_rules | `(tactic| tm_at "one") => `(tactic| first
  | with_reducible exact ee_int
  | with_reducible exact ee_str
  | with_reducible exact ee_bl
  | with_reducible exact ee_non
  | ((with_reducible refine' ee_var ?hv); case hv => rfl)
  | ((with_reducible refine' ee_own ?hv); case hv => rfl)
  | with_reducible refine' ee_andV ?_ (fun hAnd => ?_)
  | with_reducible refine' ee_orV ?_ (fun hOr => ?_)
  | with_reducible refine' ee_notV ?_
  | with_reducible refine' ee_if ?_ (fun hIf => ?_) (fun hIf => ?_)
  | with_reducible refine' te_B ?_
  | with_reducible refine' te_test ?_
  | with_reducible refine' te_and ?_ (fun hAnd => ?_)
  | with_reducible refine' te_or ?_ (fun hOr => ?_)
  | with_reducible refine' te_not ?_
  | with_reducible exact te_yes
  | with_reducible refine' ee_chain ?_ ?_ ?_ (fun hCh => ?_) (fun hCh => ?_)
  | with_reducible refine' ee_isInt ?_
  | with_reducible refine' ee_isBool ?_
  | with_reducible refine' ee_isStr ?_
  | with_reducible refine' ee_isTup ?_
  | with_reducible refine' ee_isLst ?_
  | with_reducible refine' ee_neg ?_
  | with_reducible refine' ee_revT ?_
  | with_reducible refine' ee_opC ?_ ?_
  | with_reducible refine' ee_opE ?_ ?_ ?_
  | with_reducible refine' ee_opN ?_ ?_ ?_
  | with_reducible refine' ee_op ?_ ?_ ?_
  | with_reducible refine' ee_sl ?_ ?_ ?_ ?_
  | with_reducible exact oe_none
  | with_reducible refine' oe_some ?_
  | with_reducible refine' ee_len ?_ ?_
  | with_reducible refine' ee_tup ?_ ?_
  | with_reducible refine' LEv.eed (le_lst ?_ ?_)
  | with_reducible refine' le_lst ?_ ?_
  | with_reducible refine' ee_cb ?_ ?_
  | with_reducible exact de_nil
  | with_reducible refine' de_cons ?_ ?_
  | with_reducible refine' de_star ?_ ?_
  | with_reducible exact ae_nil
  | ((with_reducible refine' ae_raw ?hv ?_); case hv => rfl)
  | with_reducible refine' ae_cons ?_ ?_
  | with_reducible exact rv_addI
  | with_reducible refine' rv_addL ?_
  | with_reducible refine' rv_addT ?_
  | with_reducible refine' rv_addS ?_
  | with_reducible refine' rv_I0 (.int _)
  | with_reducible refine' rv_I0 (.bl _)
  | with_reducible refine' rv_eq ?_ ?_
  | with_reducible refine' rv_ne ?_ ?_
  | with_reducible exact rv_isN
  | with_reducible exact rv_notN
  | with_reducible refine' rv_ixL ?_
  | with_reducible refine' rv_ixT ?_
  | with_reducible exact sv_L
  | with_reducible exact sv_T
  | with_reducible refine' sv_S ?_
  | with_reducible exact rc_lenL
  | with_reducible exact rc_lenT
  | with_reducible exact rc_tupL
  | with_reducible exact rc_tupT
  | with_reducible exact rc_int1
  | with_reducible exact rc_all
  | with_reducible exact rc_any
  | with_reducible refine' ie_list ?_
  | with_reducible refine' ie_tup ?_
  | with_reducible refine' ie_range1 ?_ ?_
  | with_reducible refine' ie_range2 ?_ ?_
  | with_reducible refine' ie_enum0 ?_
  | with_reducible refine' ie_enum1 ?_ ?_
  | with_reducible refine' ie_str ?_)
local macro_rules | `(tactic| tm_at "ev") => `(tactic| repeat' tm_at "one")
local macro_rules | `(tactic| tm_at "go") => `(tactic| dsimp only [padN, poOf, FSp.fn, nox_K, cx_K, List.set])
local macro_rules | `(tactic| tm_at "one") => `(tactic| first
  | with_reducible refine' ev_is_number ?_
  | with_reducible refine' ev_is_between ?_ ?_ ?_
  | with_reducible refine' ev_need_between ?_ ?_ ?_ ?_ ?_
  | with_reducible refine' ev_has_each ?_ ?_
  | with_reducible refine' ev_is_row ?_
  | with_reducible refine' ev_need_row ?_ ?_
  | with_reducible refine' ev_undone_told ?_ ?_
  | with_reducible refine' ev_undone_row ?_ ?_
  | with_reducible refine' ev_turned_row ?_ ?_
  | with_reducible refine' ev_upturned_row ?_ ?_
  | with_reducible refine' ev_standing_told ?_ ?_
  | with_reducible refine' ev_fits_on ?_ ?_ ?_ ?_ ?_
  | with_reducible refine' ev_places_told ?_ ?_ ?_
  | with_reducible refine' ev_holds_told ?_ ?_ ?_
  | with_reducible refine' ev_taken_out ?_ ?_ ?_
  | with_reducible refine' ev_has_mark ?_ ?_ ?_
  | with_reducible refine' ev_marks_told ?_ ?_
  | with_reducible refine' ev_marks_of ?_ ?_
  | with_reducible refine' ev_law_shape_of ?_ ?_
  | with_reducible refine' ev_law_lots ?_ ?_ ?_
  | with_reducible refine' ev_law_holds ?_ ?_ ?_
  | with_reducible refine' ev_law_marks ?_ ?_
  | with_reducible refine' ev_law_take ?_ ?_ ?_
  | with_reducible refine' ev_law_same ?_ ?_ ?_)
section
variable {P : Program} {w : World} {K : PySem.W.Frag} {mg : Str → Option Value} {base : Heap}
def one? (b : Bool) (s : Str) : List Str := if b then [s] else []
def pickS (a b c d e f : Bool) : List Str := one? a "one" ++ one? b "corner" ++ one? c "line" ++ one? d "smooth" ++ one? e "cube" ++ one? f "regions"
theorem marksS_pick (ns : List Int) : marksS ns = pickS (avoids ns [[3, 2, 1]]) (avoids ns [[1, 3, 2]]) (avoids ns [[2, 1, 4, 3]]) (avoids ns [[3, 4, 1, 2], [4, 2, 3, 1]]) (avoids ns [[3, 2, 1], [3, 4, 1, 2]]) (avoids ns [[4, 2, 3, 1], [3, 5, 1, 4, 2], [4, 2, 5, 1, 3], [3, 5, 1, 6, 2, 4]]) := by
  unfold marksS shunZ
  simp only [List.filter_cons, List.filter_nil]
  generalize avoids ns [[3, 2, 1]] = a
  generalize avoids ns [[1, 3, 2]] = b
  generalize avoids ns [[2, 1, 4, 3]] = c
  generalize avoids ns [[3, 4, 1, 2], [4, 2, 3, 1]] = d
  generalize avoids ns [[3, 2, 1], [3, 4, 1, 2]] = e
  generalize avoids ns [[4, 2, 3, 1], [3, 5, 1, 4, 2], [4, 2, 5, 1, 3], [3, 5, 1, 6, 2, 4]] = f
  cases a <;> cases b <;> cases c <;> cases d <;> cases e <;> cases f <;> rfl
theorem lawMarks_pick (h : List Int → Bool) : lawMarks h = pickS (!h [3, 2, 1]) (!h [1, 3, 2]) (!h [2, 1, 4, 3]) (!(h [3, 4, 1, 2] || h [4, 2, 3, 1])) (!(h [3, 2, 1] || h [3, 4, 1, 2])) (!(h [4, 2, 3, 1] || ([[3, 5, 1, 4, 2], [4, 2, 5, 1, 3], [3, 5, 1, 6, 2, 4]].filter h != []))) := by
  unfold lawMarks word pickS one?
  generalize h [3, 2, 1] = a
  generalize h [1, 3, 2] = b
  generalize h [2, 1, 4, 3] = c
  generalize h [3, 4, 1, 2] = d
  generalize h [4, 2, 3, 1] = e
  generalize ([[3, 5, 1, 4, 2], [4, 2, 5, 1, 3], [3, 5, 1, 6, 2, 4]].filter h != []) = f
  cases a <;> cases b <;> cases c <;> cases d <;> cases e <;> cases f <;> rfl
theorem pick_mem : ∀ a b c d e f : Bool, decide (("one" : Str) ∈ pickS a b c d e f) = a ∧ decide (("corner" : Str) ∈ pickS a b c d e f) = b ∧ decide (("line" : Str) ∈ pickS a b c d e f) = c ∧ decide (("smooth" : Str) ∈ pickS a b c d e f) = d ∧ decide (("cube" : Str) ∈ pickS a b c d e f) = e ∧ decide (("regions" : Str) ∈ pickS a b c d e f) = f := by decide +kernel
theorem pick_show : ∀ a b c d e f : Bool, showB (.list [.tuple ((pickS a b c d e f).map .str), .tuple ((pickS a b c d e f).map .str)]) = true := by decide +kernel
theorem pick_shaped : ∀ a b c d e f : Bool, SeqAt.shaped (.tuple ((pickS a b c d e f).map .str)) = true ∧ SeqAt.shaped (.list ((pickS a b c d e f).map .str)) = true ∧ ∀ x ∈ pickS a b c d e f, SeqAt.shaped (.str x) = true := by decide +kernel
theorem pick_six : ∀ a b c d e f : Bool, (pickS a b c d e f).length ≤ 6 ∧ noDict (.list [.tuple ((pickS a b c d e f).map .str), .tuple ((pickS a b c d e f).map .str)]) = true := by decide +kernel
theorem pick_most : ∀ a b c d e f : Bool, (pickS a b c d e f).filter (fun x : Str => !decide (x = "corner")) = pickS a false c d e f := by decide +kernel
theorem words_show : showB wordsD = true ∧ isSeqD wordsD = true ∧ noDict wordsD = true := by decide +kernel

end
end K71
namespace K71
open Fw PySem PySem.Spec PyProof.Rows L2
local macro_rules | `(tactic| tm_at "one") => `(tactic| first
  | with_reducible exact ee_int
  | with_reducible exact ee_str
  | with_reducible exact ee_bl
  | with_reducible exact ee_non
  | ((with_reducible refine' ee_var ?hv); case hv => rfl)
  | ((with_reducible refine' ee_own ?hv); case hv => rfl)
  | with_reducible refine' ee_andV ?_ (fun hAnd => ?_)
  | with_reducible refine' ee_orV ?_ (fun hOr => ?_)
  | with_reducible refine' ee_notV ?_
  | with_reducible refine' ee_if ?_ (fun hIf => ?_) (fun hIf => ?_)
  | with_reducible refine' te_B ?_
  | with_reducible refine' te_test ?_
  | with_reducible refine' te_and ?_ (fun hAnd => ?_)
  | with_reducible refine' te_or ?_ (fun hOr => ?_)
  | with_reducible refine' te_not ?_
  | with_reducible exact te_yes
  | with_reducible refine' ee_chain ?_ ?_ ?_ (fun hCh => ?_) (fun hCh => ?_)
  | with_reducible refine' ee_isInt ?_
  | with_reducible refine' ee_isBool ?_
  | with_reducible refine' ee_isStr ?_
  | with_reducible refine' ee_isTup ?_
  | with_reducible refine' ee_isLst ?_
  | with_reducible refine' ee_neg ?_
  | with_reducible refine' ee_revT ?_
  | with_reducible refine' ee_opC ?_ ?_
  | with_reducible refine' ee_opE ?_ ?_ ?_
  | with_reducible refine' ee_opN ?_ ?_ ?_
  | with_reducible refine' ee_op ?_ ?_ ?_
  | with_reducible refine' ee_sl ?_ ?_ ?_ ?_
  | with_reducible exact oe_none
  | with_reducible refine' oe_some ?_
  | with_reducible refine' ee_len ?_ ?_
  | with_reducible refine' ee_tup ?_ ?_
  | with_reducible refine' LEv.eed (le_lst ?_ ?_)
  | with_reducible refine' le_lst ?_ ?_
  | with_reducible refine' ee_cb ?_ ?_
  | with_reducible exact de_nil
  | with_reducible refine' de_cons ?_ ?_
  | with_reducible refine' de_star ?_ ?_
  | with_reducible exact ae_nil
  | ((with_reducible refine' ae_raw ?hv ?_); case hv => rfl)
  | with_reducible refine' ae_cons ?_ ?_
  | with_reducible exact rv_addI
  | with_reducible refine' rv_addL ?_
  | with_reducible refine' rv_addT ?_
  | with_reducible refine' rv_addS ?_
  | with_reducible refine' rv_I0 (.int _)
  | with_reducible refine' rv_I0 (.bl _)
  | with_reducible refine' rv_eq ?_ ?_
  | with_reducible refine' rv_ne ?_ ?_
  | with_reducible exact rv_isN
  | with_reducible exact rv_notN
  | with_reducible refine' rv_ixL ?_
  | with_reducible refine' rv_ixT ?_
  | with_reducible exact sv_L
  | with_reducible exact sv_T
  | with_reducible refine' sv_S ?_
  | with_reducible exact rc_lenL
  | with_reducible exact rc_lenT
  | with_reducible exact rc_tupL
  | with_reducible exact rc_tupT
  | with_reducible exact rc_int1
  | with_reducible exact rc_all
  | with_reducible exact rc_any
  | with_reducible refine' ie_list ?_
  | with_reducible refine' ie_tup ?_
  | with_reducible refine' ie_range1 ?_ ?_
  | with_reducible refine' ie_range2 ?_ ?_
  | with_reducible refine' ie_enum0 ?_
  | with_reducible refine' ie_enum1 ?_ ?_
  | with_reducible refine' ie_str ?_)
local macro_rules | `(tactic| tm_at "ev") => `(tactic| repeat' tm_at "one")
local macro_rules | `(tactic| tm_at "go") => `(tactic| dsimp only [padN, poOf, FSp.fn, nox_K, cx_K, List.set])
local macro_rules | `(tactic| tm_at "one") => `(tactic| first
  | with_reducible refine' ev_is_number ?_
  | with_reducible refine' ev_is_between ?_ ?_ ?_
  | with_reducible refine' ev_need_between ?_ ?_ ?_ ?_ ?_
  | with_reducible refine' ev_has_each ?_ ?_
  | with_reducible refine' ev_is_row ?_
  | with_reducible refine' ev_need_row ?_ ?_
  | with_reducible refine' ev_undone_told ?_ ?_
  | with_reducible refine' ev_undone_row ?_ ?_
  | with_reducible refine' ev_turned_row ?_ ?_
  | with_reducible refine' ev_upturned_row ?_ ?_
  | with_reducible refine' ev_standing_told ?_ ?_
  | with_reducible refine' ev_fits_on ?_ ?_ ?_ ?_ ?_
  | with_reducible refine' ev_places_told ?_ ?_ ?_
  | with_reducible refine' ev_holds_told ?_ ?_ ?_
  | with_reducible refine' ev_taken_out ?_ ?_ ?_
  | with_reducible refine' ev_has_mark ?_ ?_ ?_
  | with_reducible refine' ev_marks_told ?_ ?_
  | with_reducible refine' ev_marks_of ?_ ?_
  | with_reducible refine' ev_law_shape_of ?_ ?_
  | with_reducible refine' ev_law_lots ?_ ?_ ?_
  | with_reducible refine' ev_law_holds ?_ ?_ ?_
  | with_reducible refine' ev_law_marks ?_ ?_
  | with_reducible refine' ev_law_take ?_ ?_ ?_
  | with_reducible refine' ev_law_same ?_ ?_ ?_)
section
variable {P : Program} {w : World} {K : PySem.W.Frag} {mg : Str → Option Value} {base : Heap}
/-! patterns: Has w n p k: k places of w, rising, whose numbers stand as p's do -/
def Has (w : Nat → Int) (n : Nat) (p : Nat → Int) (k : Nat) : Prop := ∃ f : Nat → Nat, (∀ i, i < k → f i < n) ∧ (∀ i j, i < j → j < k → f i < f j) ∧ ∀ i j, i < j → j < k → (w (f i) < w (f j) ↔ p i < p j)
abbrev gt (l : List Int) (i : Nat) : Int := l.getD i 0
theorem gt_at {l : List Int} {i : Nat} (h : i < l.length) : gt l i = l[i] := by
  unfold gt
  rw [List.getD_eq_getElem?_getD, List.getElem?_eq_getElem h]; rfl
theorem gt_snoc_lt {l : List Int} {q : Int} {i : Nat} (h : i < l.length) : gt (l ++ [q]) i = gt l i := by
  unfold gt
  rw [List.getD_eq_getElem?_getD, List.getD_eq_getElem?_getD, List.getElem?_append_left h]
theorem gt_snoc {l : List Int} {q : Int} : gt (l ++ [q]) l.length = q := by
  unfold gt
  rw [List.getD_eq_getElem?_getD]
  simp
/-- places that fit -/
structure Good (ns pat : List Int) (pl : List Int) : Prop where
  rg : ∀ i, i < pl.length → 1 ≤ gt pl i ∧ gt pl i ≤ ns.length
  up : ∀ i j, i < j → j < pl.length → gt pl i < gt pl j
  st : ∀ i j, i < j → j < pl.length → (at1 ns (gt pl i) < at1 ns (gt pl j) ↔ gt pat i < gt pat j)
theorem fits_iff {ns pat pl : List Int} {q : Int} : fitsL ns pat pl q = true ↔ ∀ i, i < pl.length → (at1 ns (gt pl i) < at1 ns q ↔ gt pat i < gt pat pl.length) := by
  unfold fitsL
  rw [List.all_eq_true]
  constructor
  · intro h i hi
    have := h (pl[i], i) (List.mem_zipIdx_iff_getElem?.mpr (List.getElem?_eq_getElem hi))
    rw [gt_at hi]
    simpa using this
  · intro h p hp
    obtain ⟨a, i⟩ := p
    have hi := List.mem_zipIdx_iff_getElem?.mp hp
    have hl := (List.getElem?_eq_some_iff.mp hi).1
    have := h i hl
    rw [gt_at hl, (List.getElem?_eq_some_iff.mp hi).2] at this
    simpa using this
theorem last_gt {pl : List Int} (h : pl ≠ []) : pl.getLast h = gt pl (pl.length - 1) := by
  rw [List.getLast_eq_getElem, gt_at (by have := List.length_pos_iff.mpr h; omega)]
theorem start_good {ns pat pl : List Int} (g : Good ns pat pl) {q : Int} : startOf pl ≤ q ↔ 1 ≤ q ∧ ∀ i, i < pl.length → gt pl i < q := by
  unfold startOf
  split
  · rename_i h
    subst h
    exact ⟨fun h => ⟨h, fun i hi => absurd hi (Nat.not_lt_zero i)⟩, fun h => h.1⟩
  · rename_i h
    have hp := List.length_pos_iff.mpr h
    rw [last_gt h]
    constructor
    · intro hq
      refine ⟨by have := (g.rg (pl.length - 1) (by omega)).1; omega, fun i hi => ?_⟩
      by_cases e : i = pl.length - 1
      · subst e; omega
      · have := g.up i (pl.length - 1) (by omega) (by omega); omega
    · rintro ⟨_, h2⟩
      have := h2 (pl.length - 1) (by omega); omega
theorem lap_good {ns pat : List Int} : ∀ k, ∀ pl ∈ lapP ns pat k, pl.length = k ∧ Good ns pat pl
  | 0, pl, h => by
    have e : pl = [] := by simpa [lapP] using h
    subst e
    exact ⟨rfl, fun i hi => absurd hi (Nat.not_lt_zero i), fun i j _ hj => absurd hj (Nat.not_lt_zero j), fun i j _ hj => absurd hj (Nat.not_lt_zero j)⟩
  | k + 1, pl, h => by
    obtain ⟨l, hl, hp⟩ := List.mem_flatten.mp h
    obtain ⟨p0, h0, rfl⟩ := List.mem_map.mp hl
    obtain ⟨q, hq, rfl⟩ := List.mem_map.mp hp
    obtain ⟨e0, g⟩ := lap_good k p0 h0
    obtain ⟨hc, hf⟩ := List.mem_filter.mp hq
    have hc := mem_rngI.mp hc
    have hs := (start_good g).mp hc.1
    have hf := fits_iff.mp hf
    refine ⟨by simp [e0], fun i hi => ?_, fun i j hij hj => ?_, fun i j hij hj => ?_⟩
    · rw [List.length_append, List.length_singleton] at hi
      by_cases e : i < p0.length
      · rw [gt_snoc_lt e]; exact g.rg i e
      · have e : i = p0.length := by omega
        rw [e, gt_snoc]; omega
    · rw [List.length_append, List.length_singleton] at hj
      rw [gt_snoc_lt (by omega : i < p0.length)]
      by_cases e : j < p0.length
      · rw [gt_snoc_lt e]; exact g.up i j hij e
      · have e : j = p0.length := by omega
        rw [e, gt_snoc]; exact hs.2 i (by omega)
    · rw [List.length_append, List.length_singleton] at hj
      rw [gt_snoc_lt (by omega : i < p0.length)]
      by_cases e : j < p0.length
      · rw [gt_snoc_lt e]; exact g.st i j hij e
      · have e : j = p0.length := by omega
        rw [e, gt_snoc]; exact hf i (by omega)
theorem good_lap {ns pat : List Int} : ∀ k pl, pl.length = k → Good ns pat pl → pl ∈ lapP ns pat k
  | 0, pl, e, _ => by
    have e : pl = [] := List.length_eq_zero_iff.mp e
    subst e
    simp [lapP]
  | k + 1, pl, e, g => by
    have hne : pl ≠ [] := fun z => by rw [z] at e; cases e
    obtain ⟨p0, q, rfl⟩ : ∃ p0 q, pl = p0 ++ [q] := ⟨pl.dropLast, pl.getLast hne, (List.dropLast_concat_getLast hne).symm⟩
    rw [List.length_append, List.length_singleton] at e
    have e0 : p0.length = k := by omega
    have hl : (p0 ++ [q]).length = p0.length + 1 := by simp
    have g0 : Good ns pat p0 := ⟨fun i hi => by have := g.rg i (by omega); rwa [gt_snoc_lt hi] at this, fun i j hij hj => by have := g.up i j hij (by omega); rwa [gt_snoc_lt hj, gt_snoc_lt (by omega)] at this, fun i j hij hj => by have := g.st i j hij (by omega); rwa [gt_snoc_lt hj, gt_snoc_lt (by omega)] at this⟩
    have hq := g.rg p0.length (by omega)
    rw [gt_snoc] at hq
    refine List.mem_flatten.mpr ⟨_, List.mem_map.mpr ⟨p0, good_lap k p0 e0 g0, rfl⟩, List.mem_map.mpr ⟨q, List.mem_filter.mpr ⟨mem_rngI.mpr ?_, fits_iff.mpr fun i hi => ?_⟩, rfl⟩⟩
    · have hs : startOf p0 ≤ q := (start_good g0).mpr ⟨hq.1, fun i hi => by have := g.up i p0.length hi (by omega); rwa [gt_snoc, gt_snoc_lt hi] at this⟩
      omega
    · have := g.st i p0.length hi (by omega)
      rwa [gt_snoc, gt_snoc_lt hi] at this
theorem gt_map {k : Nat} {h : Nat → Int} {i : Nat} (hi : i < k) : gt ((List.range k).map h) i = h i := by
  rw [gt_at (by simpa using hi)]
  simp
theorem holds_has {ns pat : List Int} : holdsL ns pat = true ↔ Has (gt ns) ns.length (gt pat) pat.length := by
  unfold holdsL
  constructor
  · intro h
    obtain ⟨pl, hp⟩ : ∃ pl, pl ∈ placesL ns pat := by
      cases e : placesL ns pat with
      | nil => rw [e] at h; cases h
      | cons a l => exact ⟨a, List.mem_cons_self⟩
    obtain ⟨e, g⟩ := lap_good _ pl hp
    refine ⟨fun i => (gt pl i - 1).toNat, fun i hi => ?_, fun i j hij hj => ?_, fun i j hij hj => g.st i j hij (by omega)⟩
    · have := g.rg i (by omega)
      show (gt pl i - 1).toNat < ns.length
      omega
    · have h1 := g.rg i (by omega)
      have h2 := g.up i j hij (by omega)
      show (gt pl i - 1).toNat < (gt pl j - 1).toNat
      omega
  · rintro ⟨f, h1, h2, h3⟩
    have hm : (List.range pat.length).map (fun i => (f i : Int) + 1) ∈ placesL ns pat := by
      have hl : ((List.range pat.length).map (fun i => (f i : Int) + 1)).length = pat.length := by simp
      refine good_lap _ _ hl ⟨fun i hi => ?_, fun i j hij hj => ?_, fun i j hij hj => ?_⟩
      · rw [hl] at hi
        rw [gt_map hi]
        have := h1 i hi; omega
      · rw [hl] at hj
        rw [gt_map hj, gt_map (by omega : i < pat.length)]
        have := h2 i j hij hj; omega
      · rw [hl] at hj
        rw [gt_map hj, gt_map (by omega : i < pat.length)]
        have e : ∀ x : Nat, at1 ns ((x : Int) + 1) = gt ns x := fun x => by unfold at1; rw [show ((x : Int) + 1 - 1).toNat = x by omega]
        rw [e, e]
        exact h3 i j hij hj
    cases e : placesL ns pat with
    | nil => rw [e] at hm; cases hm
    | cons a l => rfl

end
end K71
namespace K71
open Fw PySem PySem.Spec PyProof.Rows L2
local macro_rules | `(tactic| tm_at "one") => `(tactic| first
  | with_reducible exact ee_int
  | with_reducible exact ee_str
  | with_reducible exact ee_bl
  | with_reducible exact ee_non
  | ((with_reducible refine' ee_var ?hv); case hv => rfl)
  | ((with_reducible refine' ee_own ?hv); case hv => rfl)
  | with_reducible refine' ee_andV ?_ (fun hAnd => ?_)
  | with_reducible refine' ee_orV ?_ (fun hOr => ?_)
  | with_reducible refine' ee_notV ?_
  | with_reducible refine' ee_if ?_ (fun hIf => ?_) (fun hIf => ?_)
  | with_reducible refine' te_B ?_
  | with_reducible refine' te_test ?_
  | with_reducible refine' te_and ?_ (fun hAnd => ?_)
  | with_reducible refine' te_or ?_ (fun hOr => ?_)
  | with_reducible refine' te_not ?_
  | with_reducible exact te_yes
  | with_reducible refine' ee_chain ?_ ?_ ?_ (fun hCh => ?_) (fun hCh => ?_)
  | with_reducible refine' ee_isInt ?_
  | with_reducible refine' ee_isBool ?_
  | with_reducible refine' ee_isStr ?_
  | with_reducible refine' ee_isTup ?_
  | with_reducible refine' ee_isLst ?_
  | with_reducible refine' ee_neg ?_
  | with_reducible refine' ee_revT ?_
  | with_reducible refine' ee_opC ?_ ?_
  | with_reducible refine' ee_opE ?_ ?_ ?_
  | with_reducible refine' ee_opN ?_ ?_ ?_
  | with_reducible refine' ee_op ?_ ?_ ?_
  | with_reducible refine' ee_sl ?_ ?_ ?_ ?_
  | with_reducible exact oe_none
  | with_reducible refine' oe_some ?_
  | with_reducible refine' ee_len ?_ ?_
  | with_reducible refine' ee_tup ?_ ?_
  | with_reducible refine' LEv.eed (le_lst ?_ ?_)
  | with_reducible refine' le_lst ?_ ?_
  | with_reducible refine' ee_cb ?_ ?_
  | with_reducible exact de_nil
  | with_reducible refine' de_cons ?_ ?_
  | with_reducible refine' de_star ?_ ?_
  | with_reducible exact ae_nil
  | ((with_reducible refine' ae_raw ?hv ?_); case hv => rfl)
  | with_reducible refine' ae_cons ?_ ?_
  | with_reducible exact rv_addI
  | with_reducible refine' rv_addL ?_
  | with_reducible refine' rv_addT ?_
  | with_reducible refine' rv_addS ?_
  | with_reducible refine' rv_I0 (.int _)
  | with_reducible refine' rv_I0 (.bl _)
  | with_reducible refine' rv_eq ?_ ?_
  | with_reducible refine' rv_ne ?_ ?_
  | with_reducible exact rv_isN
  | with_reducible exact rv_notN
  | with_reducible refine' rv_ixL ?_
  | with_reducible refine' rv_ixT ?_
  | with_reducible exact sv_L
  | with_reducible exact sv_T
  | with_reducible refine' sv_S ?_
  | with_reducible exact rc_lenL
  | with_reducible exact rc_lenT
  | with_reducible exact rc_tupL
  | with_reducible exact rc_tupT
  | with_reducible exact rc_int1
  | with_reducible exact rc_all
  | with_reducible exact rc_any
  | with_reducible refine' ie_list ?_
  | with_reducible refine' ie_tup ?_
  | with_reducible refine' ie_range1 ?_ ?_
  | with_reducible refine' ie_range2 ?_ ?_
  | with_reducible refine' ie_enum0 ?_
  | with_reducible refine' ie_enum1 ?_ ?_
  | with_reducible refine' ie_str ?_)
local macro_rules | `(tactic| tm_at "ev") => `(tactic| repeat' tm_at "one")
local macro_rules | `(tactic| tm_at "go") => `(tactic| dsimp only [padN, poOf, FSp.fn, nox_K, cx_K, List.set])
local macro_rules | `(tactic| tm_at "one") => `(tactic| first
  | with_reducible refine' ev_is_number ?_
  | with_reducible refine' ev_is_between ?_ ?_ ?_
  | with_reducible refine' ev_need_between ?_ ?_ ?_ ?_ ?_
  | with_reducible refine' ev_has_each ?_ ?_
  | with_reducible refine' ev_is_row ?_
  | with_reducible refine' ev_need_row ?_ ?_
  | with_reducible refine' ev_undone_told ?_ ?_
  | with_reducible refine' ev_undone_row ?_ ?_
  | with_reducible refine' ev_turned_row ?_ ?_
  | with_reducible refine' ev_upturned_row ?_ ?_
  | with_reducible refine' ev_standing_told ?_ ?_
  | with_reducible refine' ev_fits_on ?_ ?_ ?_ ?_ ?_
  | with_reducible refine' ev_places_told ?_ ?_ ?_
  | with_reducible refine' ev_holds_told ?_ ?_ ?_
  | with_reducible refine' ev_taken_out ?_ ?_ ?_
  | with_reducible refine' ev_has_mark ?_ ?_ ?_
  | with_reducible refine' ev_marks_told ?_ ?_
  | with_reducible refine' ev_marks_of ?_ ?_
  | with_reducible refine' ev_law_shape_of ?_ ?_
  | with_reducible refine' ev_law_lots ?_ ?_ ?_
  | with_reducible refine' ev_law_holds ?_ ?_ ?_
  | with_reducible refine' ev_law_marks ?_ ?_
  | with_reducible refine' ev_law_take ?_ ?_ ?_
  | with_reducible refine' ev_law_same ?_ ?_ ?_)
section
variable {P : Program} {w : World} {K : PySem.W.Frag} {mg : Str → Option Value} {base : Heap}
/-! the law's lots -/
theorem mem_lots (many : Nat) (ns : List Int) : ∀ l, l ∈ lotAll many ns ↔ l.Sublist ns ∧ l.length ≤ many := by
  have key : ∀ (r : List Int) (l : List Int), l ∈ lotAll many r.reverse ↔ l.Sublist r.reverse ∧ l.length ≤ many := by
    intro r
    induction r with
    | nil =>
      intro l
      constructor
      · intro h
        have e : l = [] := by simpa [lotAll] using h
        subst e
        exact ⟨.refl _, Nat.zero_le _⟩
      · rintro ⟨h, _⟩
        have e : l = [] := List.sublist_nil.mp (by simpa using h)
        subst e
        simp [lotAll]
    | cons n r ih =>
      intro l
      have e : lotAll many (n :: r).reverse = lotStep many (lotAll many r.reverse) n := by
        unfold lotAll
        rw [List.reverse_cons, List.foldl_append]; rfl
      rw [e, List.reverse_cons]
      unfold lotStep
      rw [List.mem_append, ih, List.mem_map]
      constructor
      · rintro (⟨h1, h2⟩ | ⟨l0, h0, rfl⟩)
        · exact ⟨h1.trans (List.sublist_append_left _ _), h2⟩
        · obtain ⟨h1, h2⟩ := List.mem_filter.mp h0
          have h1 := (ih l0).mp h1
          have h2 : ((l0.length : Int) < many) := of_decide_eq_true h2
          refine ⟨h1.1.append (.refl _), ?_⟩
          rw [List.length_append, List.length_singleton]
          omega
      · rintro ⟨h1, h2⟩
        obtain ⟨l1, l2, rfl, s1, s2⟩ := List.sublist_append_iff.mp h1
        rw [List.length_append] at h2
        cases s2 with
        | cons _ s =>
          have e2 : l2 = [] := List.sublist_nil.mp s
          subst e2
          rw [List.append_nil]
          exact .inl ⟨s1, by simpa using h2⟩
        | cons_cons _ s =>
          rename_i l3
          have e2 : l3 = [] := List.sublist_nil.mp s
          subst e2
          rw [List.length_singleton] at h2
          exact .inr ⟨l1, List.mem_filter.mpr ⟨(ih l1).mpr ⟨s1, by omega⟩, decide_eq_true (by omega)⟩, rfl⟩
  intro l
  have := key ns.reverse l
  rwa [List.reverse_reverse] at this
theorem lawHolds_iff {ns pat : List Int} : lawHolds ns pat = true ↔ ∃ l : List Int, l.Sublist ns ∧ l.length = pat.length ∧ shL l = pat := by
  unfold lawHolds lotsL
  rw [Bool.not_eq_true', List.isEmpty_eq_false_iff_exists_mem]
  constructor
  · rintro ⟨l, h⟩
    obtain ⟨h, h1⟩ := List.mem_filter.mp h
    obtain ⟨h, h2⟩ := List.mem_filter.mp h
    have h2 : (l.length : Int) = pat.length := of_decide_eq_true h2
    exact ⟨l, ((mem_lots _ _ l).mp h).1, by omega, of_decide_eq_true h1⟩
  · rintro ⟨l, h1, h2, h3⟩
    exact ⟨l, List.mem_filter.mpr ⟨List.mem_filter.mpr ⟨(mem_lots _ _ l).mpr ⟨h1, by omega⟩, decide_eq_true (by omega)⟩, decide_eq_true h3⟩⟩
/-! counting -/
theorem cnt_le {a b : Int} (h : a ≤ b) : ∀ l : List Int, (l.filter fun m => decide (m ≤ a)).length ≤ (l.filter fun m => decide (m ≤ b)).length
  | [] => Nat.le_refl _
  | x :: l => by
    have ih := cnt_le h l
    rw [List.filter_cons, List.filter_cons]
    by_cases h1 : x ≤ a
    · rw [if_pos (decide_eq_true h1), if_pos (decide_eq_true (by omega : x ≤ b))]
      simp only [List.length_cons]; omega
    · rw [if_neg (by simpa using h1)]
      split
      · simp only [List.length_cons]; omega
      · exact ih
theorem cnt_lt {a b : Int} (h : a < b) : ∀ l : List Int, b ∈ l → (l.filter fun m => decide (m ≤ a)).length < (l.filter fun m => decide (m ≤ b)).length
  | [], hb => nomatch hb
  | x :: l, hb => by
    have ih := cnt_le (Int.le_of_lt h) l
    rw [List.filter_cons, List.filter_cons]
    by_cases h1 : x ≤ a
    · rw [if_pos (decide_eq_true h1), if_pos (decide_eq_true (by omega : x ≤ b))]
      have hm : b ∈ l := (List.mem_cons.mp hb).resolve_left (by omega)
      have := cnt_lt h l hm
      simp only [List.length_cons]; omega
    · rw [if_neg (by simpa using h1)]
      by_cases h2 : x ≤ b
      · rw [if_pos (decide_eq_true h2)]
        simp only [List.length_cons]; omega
      · rw [if_neg (by simpa using h2)]
        exact cnt_lt h l ((List.mem_cons.mp hb).resolve_left (by omega))
theorem cnt_eq {a b : Int} : ∀ l p : List Int, l.length = p.length → (∀ m, m < l.length → (gt l m ≤ a ↔ gt p m ≤ b)) → (l.filter fun m => decide (m ≤ a)).length = (p.filter fun m => decide (m ≤ b)).length
  | [], [], _, _ => rfl
  | [], _ :: _, h, _ => nomatch h
  | _ :: _, [], h, _ => nomatch h
  | x :: l, y :: p, h, q => by
    have ih := cnt_eq l p (by simpa using h) fun m hm => q (m + 1) (by rw [List.length_cons]; omega)
    have q0 : x ≤ a ↔ y ≤ b := q 0 (by simp)
    rw [List.filter_cons, List.filter_cons]
    by_cases h1 : x ≤ a
    · rw [if_pos (decide_eq_true h1), if_pos (decide_eq_true (q0.mp h1)), List.length_cons, List.length_cons, ih]
    · rw [if_neg (by simpa using h1), if_neg (by simpa using fun z => h1 (q0.mpr z)), ih]
theorem gt_sh {l : List Int} {i : Nat} (h : i < l.length) : gt (shL l) i = ((l.filter fun m => decide (m ≤ gt l i)).length : Int) := by
  have hs : (shL l).length = l.length := by unfold shL; rw [List.length_map]
  rw [gt_at (by omega)]
  unfold shL
  rw [List.getElem_map, gt_at h]
theorem gt_ext {l p : List Int} (h : l.length = p.length) (q : ∀ i, i < l.length → gt l i = gt p i) : l = p := by
  refine List.ext_getElem h fun i h1 h2 => ?_
  rw [← gt_at h1, ← gt_at h2]
  exact q i h1
/-- all numbers of w's first n places unlike -/
def Unlike (w : Nat → Int) (n : Nat) : Prop := ∀ i j, i < n → j < n → w i = w j → i = j
theorem sh_eq {l p : List Int} (hl : l.length = p.length) (ul : Unlike (gt l) l.length) (up : Unlike (gt p) p.length) (own : shL p = p) :
    shL l = p ↔ ∀ i j, i < j → j < p.length → (gt l i < gt l j ↔ gt p i < gt p j) := by
  constructor
  · intro e i j hij hj
    have e1 : gt p i = ((l.filter fun m => decide (m ≤ gt l i)).length : Int) := by rw [← gt_sh (by omega), e]
    have e2 : gt p j = ((l.filter fun m => decide (m ≤ gt l j)).length : Int) := by rw [← gt_sh (by omega), e]
    rw [e1, e2]
    constructor
    · intro h
      have := cnt_lt h l (by rw [gt_at (by omega)]; exact List.getElem_mem _)
      omega
    · intro h
      have h3 : ¬ gt l j ≤ gt l i := fun z => by have := cnt_le z l; omega
      omega
  · intro h
    have hs : (shL l).length = l.length := by unfold shL; rw [List.length_map]
    refine gt_ext (by omega) fun i hi => ?_
    rw [hs] at hi
    rw [← own, gt_sh hi, gt_sh (by omega : i < p.length)]
    congr 1
    refine cnt_eq l p hl fun m hm => ?_
    rcases Nat.lt_trichotomy m i with q | q | q
    · have h1 := h m i q (by omega)
      have h2 : gt l m ≠ gt l i := fun z => absurd (ul m i (by omega) hi z) (by omega)
      have h3 : gt p m ≠ gt p i := fun z => absurd (up m i (by omega) (by omega) z) (by omega)
      omega
    · subst q; omega
    · have h1 := h i m q (by omega)
      omega
theorem sub_has {ns l : List Int} (s : l.Sublist ns) : ∃ f : Nat → Nat, (∀ i, i < l.length → f i < ns.length) ∧ (∀ i j, i < j → j < l.length → f i < f j) ∧ ∀ i, i < l.length → gt ns (f i) = gt l i := by
  induction s with
  | slnil => exact ⟨fun i => i, fun i hi => absurd hi (Nat.not_lt_zero i), fun i j _ hj => absurd hj (Nat.not_lt_zero j), fun i hi => absurd hi (Nat.not_lt_zero i)⟩
  | cons a _ ih =>
    obtain ⟨f, h1, h2, h3⟩ := ih
    exact ⟨fun i => f i + 1, fun i hi => by have := h1 i hi; simp only [List.length_cons]; omega, fun i j hij hj => by have := h2 i j hij hj; simp only; omega, fun i hi => h3 i hi⟩
  | cons_cons a _ ih =>
    obtain ⟨f, h1, h2, h3⟩ := ih
    refine ⟨fun i => match i with | 0 => 0 | i + 1 => f i + 1, fun i hi => ?_, fun i j hij hj => ?_, fun i hi => ?_⟩
    · cases i with
      | zero => simp
      | succ i => have := h1 i (by simpa using hi); simp only [List.length_cons]; omega
    · cases j with
      | zero => omega
      | succ j =>
        cases i with
        | zero => simp
        | succ i => have := h2 i j (by omega) (by simpa using hj); simp only; omega
    · cases i with
      | zero => rfl
      | succ i => exact h3 i (by simpa using hi)
theorem has_sub {ns : List Int} : ∀ k (f : Nat → Nat) m, m ≤ ns.length → (∀ i, i < k → f i < m) → (∀ i j, i < j → j < k → f i < f j) → ((List.range k).map fun i => gt ns (f i)).Sublist (ns.take m)
  | 0, f, m, _, _, _ => by simp
  | k + 1, f, m, hm, h1, h2 => by
    have hk := h1 k (by omega)
    have ih := has_sub (ns := ns) k f (f k) (by omega) (fun i hi => h2 i k hi (by omega)) fun i j hij hj => h2 i j hij (by omega)
    rw [List.range_succ, List.map_append]
    have e : ns.take (f k + 1) = ns.take (f k) ++ [gt ns (f k)] := by
      have hkn : f k < ns.length := by omega
      rw [gt_at hkn]
      exact take_get (l := ns) (i := f k) (List.getElem?_eq_getElem hkn)
    have s1 := ih.append (List.Sublist.refl [gt ns (f k)])
    rw [← e] at s1
    refine s1.trans ?_
    have e2 : ns.take (f k + 1) = (ns.take m).take (f k + 1) := by rw [List.take_take, Nat.min_eq_left (by omega : f k + 1 ≤ m)]
    rw [e2]
    exact List.take_sublist _ _
theorem row_unlike {ns : List Int} (h : ns.Nodup) : Unlike (gt ns) ns.length := fun i j hi hj e => by
  rw [gt_at hi, gt_at hj] at e
  exact (List.getElem_inj h).mp e
theorem law_has {ns pat : List Int} (nd : ns.Nodup) (up : Unlike (gt pat) pat.length) (own : shL pat = pat) : lawHolds ns pat = true ↔ Has (gt ns) ns.length (gt pat) pat.length := by
  rw [lawHolds_iff]
  constructor
  · rintro ⟨l, s, hl, e⟩
    obtain ⟨f, h1, h2, h3⟩ := sub_has s
    have ul : Unlike (gt l) l.length := row_unlike (nd.sublist s)
    refine ⟨f, fun i hi => h1 i (by omega), fun i j hij hj => h2 i j hij (by omega), fun i j hij hj => ?_⟩
    rw [h3 i (by omega), h3 j (by omega)]
    exact (sh_eq hl ul up own).mp e i j hij hj
  · rintro ⟨f, h1, h2, h3⟩
    have s := has_sub pat.length f ns.length (Nat.le_refl _) h1 h2
    rw [List.take_length] at s
    have hl : ((List.range pat.length).map fun i => gt ns (f i)).length = pat.length := by simp
    refine ⟨_, s, hl, (sh_eq hl (row_unlike (nd.sublist s)) up own).mpr fun i j hij hj => ?_⟩
    rw [gt_map (by omega : i < pat.length), gt_map hj]
    exact h3 i j hij hj

end
end K71
namespace K71
open Fw PySem PySem.Spec PyProof.Rows L2
local macro_rules | `(tactic| tm_at "one") => `(tactic| first
  | with_reducible exact ee_int
  | with_reducible exact ee_str
  | with_reducible exact ee_bl
  | with_reducible exact ee_non
  | ((with_reducible refine' ee_var ?hv); case hv => rfl)
  | ((with_reducible refine' ee_own ?hv); case hv => rfl)
  | with_reducible refine' ee_andV ?_ (fun hAnd => ?_)
  | with_reducible refine' ee_orV ?_ (fun hOr => ?_)
  | with_reducible refine' ee_notV ?_
  | with_reducible refine' ee_if ?_ (fun hIf => ?_) (fun hIf => ?_)
  | with_reducible refine' te_B ?_
  | with_reducible refine' te_test ?_
  | with_reducible refine' te_and ?_ (fun hAnd => ?_)
  | with_reducible refine' te_or ?_ (fun hOr => ?_)
  | with_reducible refine' te_not ?_
  | with_reducible exact te_yes
  | with_reducible refine' ee_chain ?_ ?_ ?_ (fun hCh => ?_) (fun hCh => ?_)
  | with_reducible refine' ee_isInt ?_
  | with_reducible refine' ee_isBool ?_
  | with_reducible refine' ee_isStr ?_
  | with_reducible refine' ee_isTup ?_
  | with_reducible refine' ee_isLst ?_
  | with_reducible refine' ee_neg ?_
  | with_reducible refine' ee_revT ?_
  | with_reducible refine' ee_opC ?_ ?_
  | with_reducible refine' ee_opE ?_ ?_ ?_
  | with_reducible refine' ee_opN ?_ ?_ ?_
  | with_reducible refine' ee_op ?_ ?_ ?_
  | with_reducible refine' ee_sl ?_ ?_ ?_ ?_
  | with_reducible exact oe_none
  | with_reducible refine' oe_some ?_
  | with_reducible refine' ee_len ?_ ?_
  | with_reducible refine' ee_tup ?_ ?_
  | with_reducible refine' LEv.eed (le_lst ?_ ?_)
  | with_reducible refine' le_lst ?_ ?_
  | with_reducible refine' ee_cb ?_ ?_
  | with_reducible exact de_nil
  | with_reducible refine' de_cons ?_ ?_
  | with_reducible refine' de_star ?_ ?_
  | with_reducible exact ae_nil
  | ((with_reducible refine' ae_raw ?hv ?_); case hv => rfl)
  | with_reducible refine' ae_cons ?_ ?_
  | with_reducible exact rv_addI
  | with_reducible refine' rv_addL ?_
  | with_reducible refine' rv_addT ?_
  | with_reducible refine' rv_addS ?_
  | with_reducible refine' rv_I0 (.int _)
  | with_reducible refine' rv_I0 (.bl _)
  | with_reducible refine' rv_eq ?_ ?_
  | with_reducible refine' rv_ne ?_ ?_
  | with_reducible exact rv_isN
  | with_reducible exact rv_notN
  | with_reducible refine' rv_ixL ?_
  | with_reducible refine' rv_ixT ?_
  | with_reducible exact sv_L
  | with_reducible exact sv_T
  | with_reducible refine' sv_S ?_
  | with_reducible exact rc_lenL
  | with_reducible exact rc_lenT
  | with_reducible exact rc_tupL
  | with_reducible exact rc_tupT
  | with_reducible exact rc_int1
  | with_reducible exact rc_all
  | with_reducible exact rc_any
  | with_reducible refine' ie_list ?_
  | with_reducible refine' ie_tup ?_
  | with_reducible refine' ie_range1 ?_ ?_
  | with_reducible refine' ie_range2 ?_ ?_
  | with_reducible refine' ie_enum0 ?_
  | with_reducible refine' ie_enum1 ?_ ?_
  | with_reducible refine' ie_str ?_)
local macro_rules | `(tactic| tm_at "ev") => `(tactic| repeat' tm_at "one")
local macro_rules | `(tactic| tm_at "go") => `(tactic| dsimp only [padN, poOf, FSp.fn, nox_K, cx_K, List.set])
local macro_rules | `(tactic| tm_at "one") => `(tactic| first
  | with_reducible refine' ev_is_number ?_
  | with_reducible refine' ev_is_between ?_ ?_ ?_
  | with_reducible refine' ev_need_between ?_ ?_ ?_ ?_ ?_
  | with_reducible refine' ev_has_each ?_ ?_
  | with_reducible refine' ev_is_row ?_
  | with_reducible refine' ev_need_row ?_ ?_
  | with_reducible refine' ev_undone_told ?_ ?_
  | with_reducible refine' ev_undone_row ?_ ?_
  | with_reducible refine' ev_turned_row ?_ ?_
  | with_reducible refine' ev_upturned_row ?_ ?_
  | with_reducible refine' ev_standing_told ?_ ?_
  | with_reducible refine' ev_fits_on ?_ ?_ ?_ ?_ ?_
  | with_reducible refine' ev_places_told ?_ ?_ ?_
  | with_reducible refine' ev_holds_told ?_ ?_ ?_
  | with_reducible refine' ev_taken_out ?_ ?_ ?_
  | with_reducible refine' ev_has_mark ?_ ?_ ?_
  | with_reducible refine' ev_marks_told ?_ ?_
  | with_reducible refine' ev_marks_of ?_ ?_
  | with_reducible refine' ev_law_shape_of ?_ ?_
  | with_reducible refine' ev_law_lots ?_ ?_ ?_
  | with_reducible refine' ev_law_holds ?_ ?_ ?_
  | with_reducible refine' ev_law_marks ?_ ?_
  | with_reducible refine' ev_law_take ?_ ?_ ?_
  | with_reducible refine' ev_law_same ?_ ?_ ?_)
section
variable {P : Program} {w : World} {K : PySem.W.Frag} {mg : Str → Option Value} {base : Heap}
/-! what holds holds in what holds it -/
theorem Has.trans {w p q : Nat → Int} {n k m : Nat} (h1 : Has w n p k) (h2 : Has p k q m) : Has w n q m := by
  obtain ⟨f, f1, f2, f3⟩ := h1
  obtain ⟨g, g1, g2, g3⟩ := h2
  exact ⟨fun i => f (g i), fun i hi => f1 _ (g1 i hi), fun i j hij hj => f2 _ _ (g2 i j hij hj) (g1 j hj), fun i j hij hj => (f3 _ _ (g2 i j hij hj) (g1 j hj)).trans (g3 i j hij hj)⟩
/-- all pairs, where all are unlike -/
theorem pairs {w p : Nat → Int} {n k : Nat} {f : Nat → Nat} (uw : Unlike w n) (up : Unlike p k) (f1 : ∀ i, i < k → f i < n) (f2 : ∀ i j, i < j → j < k → f i < f j) (f3 : ∀ i j, i < j → j < k → (w (f i) < w (f j) ↔ p i < p j)) (i j : Nat) (hi : i < k) (hj : j < k) : w (f i) < w (f j) ↔ p i < p j := by
  rcases Nat.lt_trichotomy i j with h | h | h
  · exact f3 i j h hj
  · subst h; omega
  · have h1 := f3 j i h hi
    have h2 : w (f i) ≠ w (f j) := fun z => by have := uw _ _ (f1 i hi) (f1 j hj) z; have := f2 j i h hi; omega
    have h3 : p i ≠ p j := fun z => by have := up i j hi hj z; omega
    omega
/-- w and v undo each other -/
def Undo (w v : Nat → Int) (n : Nat) : Prop := ∀ i, i < n → 1 ≤ w i ∧ w i ≤ n ∧ v (w i - 1).toNat = i + 1
theorem has_undo {w v p : Nat → Int} {n k : Nat} (u : Undo w v n) (uw : Unlike w n) (pp : Undo p p k) (up : Unlike p k) (h : Has w n p k) : Has v n p k := by
  obtain ⟨f, f1, f2, f3⟩ := h
  have all := pairs uw up f1 f2 f3
  have q1 : ∀ r, r < k → (p r - 1).toNat < k := fun r hr => by have := pp r hr; omega
  have q2 : ∀ r, r < k → p (p r - 1).toNat = r + 1 := fun r hr => (pp r hr).2.2
  refine ⟨fun r => (w (f (p r - 1).toNat) - 1).toNat, fun r hr => ?_, fun r s hrs hs => ?_, fun r s hrs hs => ?_⟩
  · have := u _ (f1 _ (q1 r hr))
    show (w (f (p r - 1).toNat) - 1).toNat < n
    omega
  · have h1 := u _ (f1 _ (q1 r (by omega)))
    have h2 := (all _ _ (q1 r (by omega)) (q1 s hs)).mpr (by rw [q2 r (by omega), q2 s hs]; omega)
    show (w (f (p r - 1).toNat) - 1).toNat < (w (f (p s - 1).toNat) - 1).toNat
    omega
  · have h1 := (u _ (f1 _ (q1 r (by omega)))).2.2
    have h2 := (u _ (f1 _ (q1 s hs))).2.2
    show v (w (f (p r - 1).toNat) - 1).toNat < v (w (f (p s - 1).toNat) - 1).toNat ↔ p r < p s
    rw [h1, h2]
    have a1 := pp r (by omega)
    have a2 := pp s hs
    have mono : (f (p r - 1).toNat : Int) + 1 < (f (p s - 1).toNat : Int) + 1 ↔ (p r - 1).toNat < (p s - 1).toNat := by
      rcases Nat.lt_trichotomy (p r - 1).toNat (p s - 1).toNat with h | h | h
      · have := f2 _ _ h (q1 s hs); omega
      · rw [h]; omega
      · have := f2 _ _ h (q1 r (by omega)); omega
    rw [mono]
    omega
/-- turned and upturned -/
def Turn (w : Nat → Int) (n : Nat) : Nat → Int := fun i => (n : Int) + 1 - w (n - 1 - i)
theorem has_turn {w v p q : Nat → Int} {n k : Nat} (e : ∀ i, i < n → v i = Turn w n i) (e2 : ∀ i, i < k → q i = Turn p k i) (h : Has w n p k) : Has v n q k := by
  obtain ⟨f, f1, f2, f3⟩ := h
  refine ⟨fun i => n - 1 - f (k - 1 - i), fun i hi => ?_, fun i j hij hj => ?_, fun i j hij hj => ?_⟩
  · have := f1 (k - 1 - i) (by omega)
    show n - 1 - f (k - 1 - i) < n
    omega
  · have h1 := f2 (k - 1 - j) (k - 1 - i) (by omega) (by omega)
    have h2 := f1 (k - 1 - i) (by omega)
    show n - 1 - f (k - 1 - i) < n - 1 - f (k - 1 - j)
    omega
  · have h1 := f1 (k - 1 - i) (by omega)
    have h2 := f1 (k - 1 - j) (by omega)
    have h3 := f3 (k - 1 - j) (k - 1 - i) (by omega) (by omega)
    show v (n - 1 - f (k - 1 - i)) < v (n - 1 - f (k - 1 - j)) ↔ q i < q j
    rw [e _ (by omega), e _ (by omega), e2 i (by omega), e2 j hj]
    unfold Turn
    rw [show n - 1 - (n - 1 - f (k - 1 - i)) = f (k - 1 - i) by omega, show n - 1 - (n - 1 - f (k - 1 - j)) = f (k - 1 - j) by omega]
    omega
/-- the patterns -/
def patZ : List (List Int) := [[3, 2, 1], [1, 3, 2], [2, 1, 4, 3], [3, 4, 1, 2], [4, 2, 3, 1], [3, 5, 1, 4, 2], [4, 2, 5, 1, 3], [3, 5, 1, 6, 2, 4]]
theorem pat_ok : ∀ p ∈ patZ, shL p = p ∧ (∀ i, i < p.length → 1 ≤ gt p i ∧ gt p i ≤ p.length ∧ gt p (gt p i - 1).toNat = i + 1) ∧ p.Nodup := by decide
theorem pat_unlike {p : List Int} (h : p ∈ patZ) : Unlike (gt p) p.length := row_unlike (pat_ok p h).2.2
theorem has_of (p q : List Int) (f : Nat → Nat) (h : (∀ i, i < q.length → f i < p.length) ∧ (∀ j, j < q.length → ∀ i, i < j → f i < f j ∧ (gt p (f i) < gt p (f j) ↔ gt q i < gt q j))) : Has (gt p) p.length (gt q) q.length :=
  ⟨f, h.1, fun i j hij hj => (h.2 j hj i hij).1, fun i j hij hj => (h.2 j hj i hij).2⟩
theorem sub_321 : Has (gt [4, 2, 3, 1]) 4 (gt [3, 2, 1]) 3 := has_of [4, 2, 3, 1] [3, 2, 1] (fun i => [0, 1, 3].getD i 0) (by decide)
theorem sub_132 : Has (gt [2, 1, 4, 3]) 4 (gt [1, 3, 2]) 3 := has_of [2, 1, 4, 3] [1, 3, 2] (fun i => [0, 2, 3].getD i 0) (by decide)
theorem sub_a : Has (gt [3, 5, 1, 4, 2]) 5 (gt [3, 4, 1, 2]) 4 := has_of [3, 5, 1, 4, 2] [3, 4, 1, 2] (fun i => [0, 1, 2, 4].getD i 0) (by decide)
theorem sub_b : Has (gt [4, 2, 5, 1, 3]) 5 (gt [3, 4, 1, 2]) 4 := has_of [4, 2, 5, 1, 3] [3, 4, 1, 2] (fun i => [0, 2, 3, 4].getD i 0) (by decide)
theorem sub_c : Has (gt [3, 5, 1, 6, 2, 4]) 6 (gt [3, 4, 1, 2]) 4 := has_of [3, 5, 1, 6, 2, 4] [3, 4, 1, 2] (fun i => [0, 1, 2, 4].getD i 0) (by decide)

end
end K71
namespace K71
open Fw PySem PySem.Spec PyProof.Rows L2
local macro_rules | `(tactic| tm_at "one") => `(tactic| first
  | with_reducible exact ee_int
  | with_reducible exact ee_str
  | with_reducible exact ee_bl
  | with_reducible exact ee_non
  | ((with_reducible refine' ee_var ?hv); case hv => rfl)
  | ((with_reducible refine' ee_own ?hv); case hv => rfl)
  | with_reducible refine' ee_andV ?_ (fun hAnd => ?_)
  | with_reducible refine' ee_orV ?_ (fun hOr => ?_)
  | with_reducible refine' ee_notV ?_
  | with_reducible refine' ee_if ?_ (fun hIf => ?_) (fun hIf => ?_)
  | with_reducible refine' te_B ?_
  | with_reducible refine' te_test ?_
  | with_reducible refine' te_and ?_ (fun hAnd => ?_)
  | with_reducible refine' te_or ?_ (fun hOr => ?_)
  | with_reducible refine' te_not ?_
  | with_reducible exact te_yes
  | with_reducible refine' ee_chain ?_ ?_ ?_ (fun hCh => ?_) (fun hCh => ?_)
  | with_reducible refine' ee_isInt ?_
  | with_reducible refine' ee_isBool ?_
  | with_reducible refine' ee_isStr ?_
  | with_reducible refine' ee_isTup ?_
  | with_reducible refine' ee_isLst ?_
  | with_reducible refine' ee_neg ?_
  | with_reducible refine' ee_revT ?_
  | with_reducible refine' ee_opC ?_ ?_
  | with_reducible refine' ee_opE ?_ ?_ ?_
  | with_reducible refine' ee_opN ?_ ?_ ?_
  | with_reducible refine' ee_op ?_ ?_ ?_
  | with_reducible refine' ee_sl ?_ ?_ ?_ ?_
  | with_reducible exact oe_none
  | with_reducible refine' oe_some ?_
  | with_reducible refine' ee_len ?_ ?_
  | with_reducible refine' ee_tup ?_ ?_
  | with_reducible refine' LEv.eed (le_lst ?_ ?_)
  | with_reducible refine' le_lst ?_ ?_
  | with_reducible refine' ee_cb ?_ ?_
  | with_reducible exact de_nil
  | with_reducible refine' de_cons ?_ ?_
  | with_reducible refine' de_star ?_ ?_
  | with_reducible exact ae_nil
  | ((with_reducible refine' ae_raw ?hv ?_); case hv => rfl)
  | with_reducible refine' ae_cons ?_ ?_
  | with_reducible exact rv_addI
  | with_reducible refine' rv_addL ?_
  | with_reducible refine' rv_addT ?_
  | with_reducible refine' rv_addS ?_
  | with_reducible refine' rv_I0 (.int _)
  | with_reducible refine' rv_I0 (.bl _)
  | with_reducible refine' rv_eq ?_ ?_
  | with_reducible refine' rv_ne ?_ ?_
  | with_reducible exact rv_isN
  | with_reducible exact rv_notN
  | with_reducible refine' rv_ixL ?_
  | with_reducible refine' rv_ixT ?_
  | with_reducible exact sv_L
  | with_reducible exact sv_T
  | with_reducible refine' sv_S ?_
  | with_reducible exact rc_lenL
  | with_reducible exact rc_lenT
  | with_reducible exact rc_tupL
  | with_reducible exact rc_tupT
  | with_reducible exact rc_int1
  | with_reducible exact rc_all
  | with_reducible exact rc_any
  | with_reducible refine' ie_list ?_
  | with_reducible refine' ie_tup ?_
  | with_reducible refine' ie_range1 ?_ ?_
  | with_reducible refine' ie_range2 ?_ ?_
  | with_reducible refine' ie_enum0 ?_
  | with_reducible refine' ie_enum1 ?_ ?_
  | with_reducible refine' ie_str ?_)
local macro_rules | `(tactic| tm_at "ev") => `(tactic| repeat' tm_at "one")
local macro_rules | `(tactic| tm_at "go") => `(tactic| dsimp only [padN, poOf, FSp.fn, nox_K, cx_K, List.set])
local macro_rules | `(tactic| tm_at "one") => `(tactic| first
  | with_reducible refine' ev_is_number ?_
  | with_reducible refine' ev_is_between ?_ ?_ ?_
  | with_reducible refine' ev_need_between ?_ ?_ ?_ ?_ ?_
  | with_reducible refine' ev_has_each ?_ ?_
  | with_reducible refine' ev_is_row ?_
  | with_reducible refine' ev_need_row ?_ ?_
  | with_reducible refine' ev_undone_told ?_ ?_
  | with_reducible refine' ev_undone_row ?_ ?_
  | with_reducible refine' ev_turned_row ?_ ?_
  | with_reducible refine' ev_upturned_row ?_ ?_
  | with_reducible refine' ev_standing_told ?_ ?_
  | with_reducible refine' ev_fits_on ?_ ?_ ?_ ?_ ?_
  | with_reducible refine' ev_places_told ?_ ?_ ?_
  | with_reducible refine' ev_holds_told ?_ ?_ ?_
  | with_reducible refine' ev_taken_out ?_ ?_ ?_
  | with_reducible refine' ev_has_mark ?_ ?_ ?_
  | with_reducible refine' ev_marks_told ?_ ?_
  | with_reducible refine' ev_marks_of ?_ ?_
  | with_reducible refine' ev_law_shape_of ?_ ?_
  | with_reducible refine' ev_law_lots ?_ ?_ ?_
  | with_reducible refine' ev_law_holds ?_ ?_ ?_
  | with_reducible refine' ev_law_marks ?_ ?_
  | with_reducible refine' ev_law_take ?_ ?_ ?_
  | with_reducible refine' ev_law_same ?_ ?_ ?_)
section
variable {P : Program} {w : World} {K : PySem.W.Frag} {mg : Str → Option Value} {base : Heap}
abbrev HasL (ns p : List Int) : Prop := Has (gt ns) ns.length (gt p) p.length
theorem avoids_iff {ns : List Int} {ps : List (List Int)} : avoids ns ps = true ↔ ∀ p ∈ ps, ¬ HasL ns p := by
  unfold avoids
  rw [Bool.not_eq_true', List.any_eq_false]
  constructor
  · intro h p hp hh
    exact h _ (List.mem_map.mpr ⟨p, hp, rfl⟩) (holds_has.mpr hh)
  · intro h b hb hh
    obtain ⟨p, hp, rfl⟩ := List.mem_map.mp hb
    exact h p hp (holds_has.mp hh)
theorem bool_iff {a b : Bool} (h : a = true ↔ b = true) : a = b := by cases a <;> cases b <;> simp_all
theorem law_same {ns p : List Int} (r : RowOk ns) (hp : p ∈ patZ) : lawHolds ns p = holdsL ns p :=
  bool_iff ((law_has r.nd (pat_unlike hp) (pat_ok p hp).1).trans holds_has.symm)
theorem law_marks_eq {ns : List Int} (r : RowOk ns) : lawMarks (lawHolds ns) = marksS ns := by
  rw [lawMarks_pick, marksS_pick]
  have e : ∀ p ∈ patZ, lawHolds ns p = holdsL ns p := fun p hp => law_same r hp
  have e3 : ([[3, 5, 1, 4, 2], [4, 2, 5, 1, 3], [3, 5, 1, 6, 2, 4]].filter (lawHolds ns) != []) = (holdsL ns [3, 5, 1, 4, 2] || holdsL ns [4, 2, 5, 1, 3] || holdsL ns [3, 5, 1, 6, 2, 4]) := by
    simp only [List.filter_cons, List.filter_nil, e _ (by decide : [3, 5, 1, 4, 2] ∈ patZ), e _ (by decide : [4, 2, 5, 1, 3] ∈ patZ), e _ (by decide : [3, 5, 1, 6, 2, 4] ∈ patZ)]
    generalize holdsL ns [3, 5, 1, 4, 2] = a
    generalize holdsL ns [4, 2, 5, 1, 3] = b
    generalize holdsL ns [3, 5, 1, 6, 2, 4] = c
    cases a <;> cases b <;> cases c <;> rfl
  rw [e3, e _ (by decide : [3, 2, 1] ∈ patZ), e _ (by decide : [1, 3, 2] ∈ patZ), e _ (by decide : [2, 1, 4, 3] ∈ patZ), e _ (by decide : [3, 4, 1, 2] ∈ patZ), e _ (by decide : [4, 2, 3, 1] ∈ patZ)]
  have a1 : ∀ p, avoids ns [p] = !holdsL ns p := fun p => by unfold avoids; simp
  have a2 : ∀ p q, avoids ns [p, q] = !(holdsL ns p || holdsL ns q) := fun p q => by unfold avoids; simp
  have a4 : ∀ p q s t, avoids ns [p, q, s, t] = !(holdsL ns p || (holdsL ns q || holdsL ns s || holdsL ns t)) := fun p q s t => by unfold avoids; simp [Bool.or_assoc]
  rw [a1, a1, a1, a2, a2, a4]
theorem avoids_of {ns ms : List Int} {ps : List (List Int)} (h : ∀ p ∈ ps, HasL ns p ↔ HasL ms p) : avoids ns ps = avoids ms ps :=
  bool_iff (avoids_iff.trans ⟨fun q p hp z => q p hp ((h p hp).mpr z), fun q p hp z => q p hp ((h p hp).mp z)⟩ |>.trans avoids_iff.symm)
theorem avoids_to {ns ms : List Int} {ps qs : List (List Int)} (h : ∀ q ∈ qs, HasL ms q → ∃ p ∈ ps, HasL ns p) (a : avoids ns ps = true) : avoids ms qs = true :=
  avoids_iff.mpr fun q hq z => by
    obtain ⟨p, hp, z⟩ := h q hq z
    exact avoids_iff.mp a p hp z
/-! pigeons -/
theorem php : ∀ (n : Nat) (l : List Int), l.Nodup → (∀ x ∈ l, 1 ≤ x ∧ x ≤ n) → l.length ≤ n
  | 0, l, _, h => by
    cases l with
    | nil => exact Nat.le_refl _
    | cons a l => have := h a List.mem_cons_self; omega
  | n + 1, l, nd, h => by
    have ih := php n (l.erase ((n : Int) + 1)) (nd.erase _) fun x hx => by
      have h1 := (nd.mem_erase_iff).mp hx
      have := h x h1.2
      have := h1.1
      omega
    by_cases hm : ((n : Int) + 1) ∈ l
    · rw [List.length_erase_of_mem hm] at ih
      omega
    · rw [List.erase_of_not_mem hm] at ih
      omega
theorem row_all {ns : List Int} (r : RowOk ns) {v : Int} (h : 1 ≤ v ∧ v ≤ ns.length) : ∃ i, i < ns.length ∧ gt ns i = v := by
  have hm : v ∈ ns := by
    refine Classical.byContradiction fun hn => ?_
    have := php ns.length (v :: ns) (List.nodup_cons.mpr ⟨hn, r.nd⟩) fun x hx => by
      rcases List.mem_cons.mp hx with rfl | hx
      · exact h
      · exact r.rg x hx
    rw [List.length_cons] at this
    omega
  obtain ⟨i, hi, e⟩ := List.mem_iff_getElem.mp hm
  exact ⟨i, hi, by rw [gt_at hi, e]⟩
theorem row_gt {ns : List Int} (r : RowOk ns) {i : Nat} (h : i < ns.length) : 1 ≤ gt ns i ∧ gt ns i ≤ ns.length := by
  rw [gt_at h]
  exact r.rg _ (List.getElem_mem h)
theorem row_of {ms : List Int} (h1 : 1 ≤ ms.length) (h8 : ms.length ≤ 8) (rg : ∀ i, i < ms.length → 1 ≤ gt ms i ∧ gt ms i ≤ ms.length) (u : Unlike (gt ms) ms.length) : RowOk ms := by
  refine ⟨h1, h8, fun n hn => ?_, ?_⟩
  · obtain ⟨i, hi, e⟩ := List.mem_iff_getElem.mp hn
    have := rg i hi
    rw [gt_at hi, e] at this
    exact this
  · refine List.pairwise_iff_getElem.mpr fun i j hi hj hij e => ?_
    have := u i j hi hj (by rw [gt_at hi, gt_at hj, e])
    omega
/-! the row undone -/
theorem undo_ints : ∀ (l : List (Int × Nat)) (f : List PyData), (∀ d ∈ f, ∃ i, d = .int i) → ∀ d ∈ l.foldl undoStep f, ∃ i, d = .int i
  | [], f, h => h
  | p :: l, f, h => by
    rw [List.foldl_cons]
    refine undo_ints l _ fun d hd => ?_
    unfold undoStep at hd
    rcases List.mem_or_eq_of_mem_set hd with h' | h'
    · exact h d h'
    · exact ⟨_, h'⟩
theorem undo_at : ∀ (l : List (Int × Nat)) (f : List PyData), (∀ p ∈ l, 1 ≤ p.1 ∧ p.1 ≤ f.length) → (l.map (·.1)).Nodup → (∀ p ∈ l, (l.foldl undoStep f)[(p.1 - 1).toNat]? = some (.int ((p.2 : Nat) + 1))) ∧ ∀ k, (∀ p ∈ l, (p.1 - 1).toNat ≠ k) → (l.foldl undoStep f)[k]? = f[k]?
  | [], f, _, _ => ⟨fun p hp => (nomatch hp), fun k _ => rfl⟩
  | q :: l, f, h, nd => by
    have nd' := List.nodup_cons.mp (show (q.1 :: l.map (·.1)).Nodup from nd)
    have hl : (undoStep f q).length = f.length := by simp [undoStep]
    obtain ⟨i1, i2⟩ := undo_at l (undoStep f q) (fun p hp => by rw [hl]; exact h p (List.mem_cons_of_mem _ hp)) nd'.2
    have hq := h q List.mem_cons_self
    rw [List.foldl_cons]
    refine ⟨fun p hp => ?_, fun k hk => ?_⟩
    · rcases List.mem_cons.mp hp with rfl | hp
      · rw [i2 _ fun p' hp' e => ?_]
        · unfold undoStep
          rw [List.getElem?_set_self (by omega)]
        · have h1 := h p' (List.mem_cons_of_mem _ hp')
          exact nd'.1 (List.mem_map.mpr ⟨p', hp', by omega⟩)
      · exact i1 p hp
    · rw [i2 k fun p hp => hk p (List.mem_cons_of_mem _ hp)]
      unfold undoStep
      rw [List.getElem?_set_ne (hk q List.mem_cons_self)]
theorem undo_row {ns : List Int} (r : RowOk ns) : ∃ ms : List Int, undoL ns = ms.map .int ∧ RowOk ms ∧ Undo (gt ns) (gt ms) ns.length ∧ Undo (gt ms) (gt ns) ns.length ∧ ms.length = ns.length := by
  have hlen : (undoL ns).length = ns.length := by unfold undoL; rw [undo_len]; simp
  have allI : ∀ d ∈ undoL ns, ∃ i, d = .int i := undo_ints _ _ fun d hd => ⟨0, (List.mem_replicate.mp hd).2⟩
  obtain ⟨ms, em⟩ : ∃ ms : List Int, undoL ns = ms.map .int := by
    generalize undoL ns = l at allI
    induction l with
    | nil => exact ⟨[], rfl⟩
    | cons d l ih =>
      obtain ⟨i, rfl⟩ := allI d List.mem_cons_self
      obtain ⟨ms, e⟩ := ih fun d hd => allI d (List.mem_cons_of_mem _ hd)
      exact ⟨i :: ms, by rw [e]; rfl⟩
  have ml : ms.length = ns.length := by rw [← hlen, em, List.length_map]
  have fst : ns.zipIdx.map (·.1) = ns := by simp
  have at_ := (undo_at ns.zipIdx (List.replicate ns.length (.int 0)) (fun p hp => by
    rw [List.length_replicate]
    have : p.1 ∈ ns := by rw [← fst]; exact List.mem_map.mpr ⟨p, hp, rfl⟩
    exact r.rg _ this) (by rw [fst]; exact r.nd)).1
  have u1 : Undo (gt ns) (gt ms) ns.length := fun i hi => by
    have hr := row_gt r hi
    refine ⟨hr.1, hr.2, ?_⟩
    have h := at_ (gt ns i, i) (List.mem_zipIdx_iff_getElem?.mpr (by rw [gt_at hi]; exact List.getElem?_eq_getElem hi))
    have h : (undoL ns)[(gt ns i - 1).toNat]? = some (.int ((i : Nat) + 1)) := h
    rw [em, List.getElem?_map] at h
    have hk : (gt ns i - 1).toNat < ms.length := by omega
    rw [List.getElem?_eq_getElem hk] at h
    have h : PyData.int ms[(gt ns i - 1).toNat] = .int ((i : Nat) + 1) := Option.some.inj h
    rw [gt_at hk]
    injection h
  have back : ∀ k, k < ns.length → ∃ i, i < ns.length ∧ gt ns i = (k : Int) + 1 ∧ gt ms k = (i : Int) + 1 := fun k hk => by
    obtain ⟨i, hi, e⟩ := row_all r (v := (k : Int) + 1) ⟨by omega, by omega⟩
    refine ⟨i, hi, e, ?_⟩
    have := (u1 i hi).2.2
    rw [e, show ((k : Int) + 1 - 1).toNat = k by omega] at this
    exact this
  have u2 : Undo (gt ms) (gt ns) ns.length := fun k hk => by
    obtain ⟨i, hi, e1, e2⟩ := back k hk
    rw [e2]
    exact ⟨by omega, by omega, by rw [show ((i : Int) + 1 - 1).toNat = i by omega]; exact e1⟩
  refine ⟨ms, em, row_of (by rw [ml]; exact r.l1) (by rw [ml]; exact r.l8) (fun i hi => ?_) (fun i j hi hj e => ?_), u1, u2, ml⟩
  · have := u2 i (by omega)
    rw [ml]
    exact ⟨this.1, this.2.1⟩
  · obtain ⟨a, ha, x1, x2⟩ := back i (by omega)
    obtain ⟨b, hb, y1, y2⟩ := back j (by omega)
    have hab : a = b := by omega
    subst hab
    omega

end
end K71
namespace K71
open Fw PySem PySem.Spec PyProof.Rows L2
local macro_rules | `(tactic| tm_at "one") => `(tactic| first
  | with_reducible exact ee_int
  | with_reducible exact ee_str
  | with_reducible exact ee_bl
  | with_reducible exact ee_non
  | ((with_reducible refine' ee_var ?hv); case hv => rfl)
  | ((with_reducible refine' ee_own ?hv); case hv => rfl)
  | with_reducible refine' ee_andV ?_ (fun hAnd => ?_)
  | with_reducible refine' ee_orV ?_ (fun hOr => ?_)
  | with_reducible refine' ee_notV ?_
  | with_reducible refine' ee_if ?_ (fun hIf => ?_) (fun hIf => ?_)
  | with_reducible refine' te_B ?_
  | with_reducible refine' te_test ?_
  | with_reducible refine' te_and ?_ (fun hAnd => ?_)
  | with_reducible refine' te_or ?_ (fun hOr => ?_)
  | with_reducible refine' te_not ?_
  | with_reducible exact te_yes
  | with_reducible refine' ee_chain ?_ ?_ ?_ (fun hCh => ?_) (fun hCh => ?_)
  | with_reducible refine' ee_isInt ?_
  | with_reducible refine' ee_isBool ?_
  | with_reducible refine' ee_isStr ?_
  | with_reducible refine' ee_isTup ?_
  | with_reducible refine' ee_isLst ?_
  | with_reducible refine' ee_neg ?_
  | with_reducible refine' ee_revT ?_
  | with_reducible refine' ee_opC ?_ ?_
  | with_reducible refine' ee_opE ?_ ?_ ?_
  | with_reducible refine' ee_opN ?_ ?_ ?_
  | with_reducible refine' ee_op ?_ ?_ ?_
  | with_reducible refine' ee_sl ?_ ?_ ?_ ?_
  | with_reducible exact oe_none
  | with_reducible refine' oe_some ?_
  | with_reducible refine' ee_len ?_ ?_
  | with_reducible refine' ee_tup ?_ ?_
  | with_reducible refine' LEv.eed (le_lst ?_ ?_)
  | with_reducible refine' le_lst ?_ ?_
  | with_reducible refine' ee_cb ?_ ?_
  | with_reducible exact de_nil
  | with_reducible refine' de_cons ?_ ?_
  | with_reducible refine' de_star ?_ ?_
  | with_reducible exact ae_nil
  | ((with_reducible refine' ae_raw ?hv ?_); case hv => rfl)
  | with_reducible refine' ae_cons ?_ ?_
  | with_reducible exact rv_addI
  | with_reducible refine' rv_addL ?_
  | with_reducible refine' rv_addT ?_
  | with_reducible refine' rv_addS ?_
  | with_reducible refine' rv_I0 (.int _)
  | with_reducible refine' rv_I0 (.bl _)
  | with_reducible refine' rv_eq ?_ ?_
  | with_reducible refine' rv_ne ?_ ?_
  | with_reducible exact rv_isN
  | with_reducible exact rv_notN
  | with_reducible refine' rv_ixL ?_
  | with_reducible refine' rv_ixT ?_
  | with_reducible exact sv_L
  | with_reducible exact sv_T
  | with_reducible refine' sv_S ?_
  | with_reducible exact rc_lenL
  | with_reducible exact rc_lenT
  | with_reducible exact rc_tupL
  | with_reducible exact rc_tupT
  | with_reducible exact rc_int1
  | with_reducible exact rc_all
  | with_reducible exact rc_any
  | with_reducible refine' ie_list ?_
  | with_reducible refine' ie_tup ?_
  | with_reducible refine' ie_range1 ?_ ?_
  | with_reducible refine' ie_range2 ?_ ?_
  | with_reducible refine' ie_enum0 ?_
  | with_reducible refine' ie_enum1 ?_ ?_
  | with_reducible refine' ie_str ?_)
local macro_rules | `(tactic| tm_at "ev") => `(tactic| repeat' tm_at "one")
local macro_rules | `(tactic| tm_at "go") => `(tactic| dsimp only [padN, poOf, FSp.fn, nox_K, cx_K, List.set])
local macro_rules | `(tactic| tm_at "one") => `(tactic| first
  | with_reducible refine' ev_is_number ?_
  | with_reducible refine' ev_is_between ?_ ?_ ?_
  | with_reducible refine' ev_need_between ?_ ?_ ?_ ?_ ?_
  | with_reducible refine' ev_has_each ?_ ?_
  | with_reducible refine' ev_is_row ?_
  | with_reducible refine' ev_need_row ?_ ?_
  | with_reducible refine' ev_undone_told ?_ ?_
  | with_reducible refine' ev_undone_row ?_ ?_
  | with_reducible refine' ev_turned_row ?_ ?_
  | with_reducible refine' ev_upturned_row ?_ ?_
  | with_reducible refine' ev_standing_told ?_ ?_
  | with_reducible refine' ev_fits_on ?_ ?_ ?_ ?_ ?_
  | with_reducible refine' ev_places_told ?_ ?_ ?_
  | with_reducible refine' ev_holds_told ?_ ?_ ?_
  | with_reducible refine' ev_taken_out ?_ ?_ ?_
  | with_reducible refine' ev_has_mark ?_ ?_ ?_
  | with_reducible refine' ev_marks_told ?_ ?_
  | with_reducible refine' ev_marks_of ?_ ?_
  | with_reducible refine' ev_law_shape_of ?_ ?_
  | with_reducible refine' ev_law_lots ?_ ?_ ?_
  | with_reducible refine' ev_law_holds ?_ ?_ ?_
  | with_reducible refine' ev_law_marks ?_ ?_
  | with_reducible refine' ev_law_take ?_ ?_ ?_
  | with_reducible refine' ev_law_same ?_ ?_ ?_)
section
variable {P : Program} {w : World} {K : PySem.W.Frag} {mg : Str → Option Value} {base : Heap}
structure Facts (ns : List Int) : Prop where
  law : lawMarks (lawHolds ns) = marksS ns
  undo : ∃ ms : List Int, undoL ns = ms.map .int ∧ RowOk ms ∧ marksS ms = marksS ns
  up : RowOk (upL ns) ∧ RowOk (upL ns).reverse
  turn : (marksS (upL ns).reverse).filter (fun x : Str => !decide (x = "corner")) = (marksS ns).filter fun x : Str => !decide (x = "corner")
  cube : decide (("cube" : Str) ∈ marksS ns) = (decide (("one" : Str) ∈ marksS ns) && decide (("smooth" : Str) ∈ marksS ns))
  smooth : (("smooth" : Str) ∈ marksS ns) → ("regions" : Str) ∈ marksS ns
  corner : (("corner" : Str) ∈ marksS ns) → ("line" : Str) ∈ marksS ns
  out : ∀ p : Int, 2 ≤ ns.length → 1 ≤ p → p ≤ ns.length → RowOk (outL ns p) ∧ ∀ x ∈ marksS ns, x ∈ marksS (outL ns p)
theorem undo_pat {p : List Int} (h : p ∈ patZ) : Undo (gt p) (gt p) p.length := fun i hi => (pat_ok p h).2.1 i hi
theorem marks_of_has {ns ms : List Int} (h : ∀ p ∈ patZ, HasL ms p ↔ HasL ns p) : marksS ms = marksS ns := by
  have e : ∀ ps : List (List Int), (∀ p ∈ ps, p ∈ patZ) → avoids ms ps = avoids ns ps := fun ps q => avoids_of fun p hp => h p (q p hp)
  rw [marksS_pick, marksS_pick, e _ (by decide), e _ (by decide), e _ (by decide), e _ (by decide), e _ (by decide), e _ (by decide)]
theorem up_row {ns : List Int} (r : RowOk ns) : RowOk (upL ns) ∧ RowOk (upL ns).reverse := by
  have hl : (upL ns).length = ns.length := by unfold upL; rw [List.length_map]
  have h : RowOk (upL ns) := by
    refine ⟨by rw [hl]; exact r.l1, by rw [hl]; exact r.l8, fun n hn => ?_, ?_⟩
    · obtain ⟨x, hx, rfl⟩ := List.mem_map.mp hn
      have := r.rg x hx
      rw [hl]
      omega
    · exact List.pairwise_map.mpr (List.Pairwise.imp (fun hne e => hne (by omega)) r.nd)
  exact ⟨h, row_perm (List.reverse_perm _) h⟩
theorem turn_at {ns : List Int} {i : Nat} (hi : i < ns.length) : gt (upL ns).reverse i = Turn (gt ns) ns.length i := by
  have hl : (upL ns).length = ns.length := by unfold upL; rw [List.length_map]
  rw [gt_at (by rw [List.length_reverse, hl]; exact hi), List.getElem_reverse]
  unfold Turn upL
  rw [List.getElem_map, gt_at (by omega : ns.length - 1 - i < ns.length)]
  congr 2
  · simp
theorem turn_has {ns p q : List Int} (e : p.length = q.length) (e1 : ∀ i, i < p.length → gt q i = Turn (gt p) p.length i) (e2 : ∀ i, i < p.length → gt p i = Turn (gt q) p.length i) : HasL (upL ns).reverse q ↔ HasL ns p := by
  have hl : (upL ns).reverse.length = ns.length := by rw [List.length_reverse]; unfold upL; rw [List.length_map]
  unfold HasL
  rw [hl, ← e]
  constructor
  · refine has_turn (fun i hi => ?_) e2
    unfold Turn
    rw [turn_at (by omega)]
    unfold Turn
    rw [show ns.length - 1 - (ns.length - 1 - i) = i by omega]
    omega
  · exact has_turn (fun i hi => turn_at hi) e1
theorem st_at {l : List Int} {i : Nat} (h : i < l.length) : gt (stL l) i = 1 + ((l.filter fun m => decide (m ≤ gt l i - 1)).length : Int) := by
  have hs : (stL l).length = l.length := by unfold stL; rw [List.length_map]
  rw [gt_at (by omega)]
  unfold stL
  rw [List.getElem_map, gt_at h]
  congr 3
  refine congrArg (fun f => l.filter f) (funext fun m => ?_)
  by_cases q : m < l[i]
  · rw [decide_eq_true q, decide_eq_true (by omega)]
  · rw [decide_eq_false q, decide_eq_false (by omega)]
theorem cnt_lt2 {a b x : Int} (h1 : a < x) (h2 : x ≤ b) {l : List Int} (hx : x ∈ l) : (l.filter fun m => decide (m ≤ a)).length < (l.filter fun m => decide (m ≤ b)).length :=
  Nat.lt_of_lt_of_le (cnt_lt h1 l hx) (cnt_le h2 l)
theorem st_lt {l : List Int} {i j : Nat} (hi : i < l.length) (hj : j < l.length) : gt (stL l) i < gt (stL l) j ↔ gt l i < gt l j := by
  rw [st_at hi, st_at hj]
  constructor
  · intro h
    refine Classical.byContradiction fun n => ?_
    have := cnt_le (by omega : gt l j - 1 ≤ gt l i - 1) l
    omega
  · intro h
    have := cnt_lt2 (by omega : gt l i - 1 < gt l i) (by omega : gt l i ≤ gt l j - 1) (l := l) (by rw [gt_at hi]; exact List.getElem_mem _)
    omega
theorem st_row {l : List Int} (h1 : 1 ≤ l.length) (h8 : l.length ≤ 8) (nd : l.Nodup) : RowOk (stL l) := by
  have hs : (stL l).length = l.length := by unfold stL; rw [List.length_map]
  refine row_of (by omega) (by omega) (fun i hi => ?_) (fun i j hi hj e => ?_)
  · rw [st_at (by omega), hs]
    have := cnt_lt2 (by omega : gt l i - 1 < gt l i) (Int.le_refl (gt l i)) (l := l) (by rw [gt_at (by omega)]; exact List.getElem_mem _)
    have := List.length_filter_le (fun m => decide (m ≤ gt l i)) l
    omega
  · have a1 := (st_lt (l := l) (i := i) (j := j) (by omega) (by omega))
    have a2 := (st_lt (l := l) (i := j) (j := i) (by omega) (by omega))
    exact row_unlike nd i j (by omega) (by omega) (by omega)
theorem out_has {ns l q : List Int} (s : l.Sublist ns) (h : HasL (stL l) q) : HasL ns q := by
  have hs : (stL l).length = l.length := by unfold stL; rw [List.length_map]
  obtain ⟨f, f1, f2, f3⟩ := sub_has s
  refine Has.trans (p := gt (stL l)) (k := (stL l).length) ⟨f, fun i hi => f1 i (by omega), fun i j hij hj => f2 i j hij (by omega), fun i j hij hj => ?_⟩ h
  rw [f3 i (by omega), f3 j (by omega), st_lt (by omega) (by omega)]
theorem one_mono {a b : Bool} (h : a = true → b = true) {s x : Str} (hx : x ∈ one? a s) : x ∈ one? b s := by
  cases a with
  | false => cases hx
  | true => rw [h rfl]; exact hx
theorem pick_mono {a b c d e f a' b' c' d' e' f' : Bool} (ha : a = true → a' = true) (hb : b = true → b' = true) (hc : c = true → c' = true) (hd : d = true → d' = true) (he : e = true → e' = true) (hf : f = true → f' = true) : ∀ x ∈ pickS a b c d e f, x ∈ pickS a' b' c' d' e' f' := fun x hx => by
  unfold pickS at hx ⊢
  simp only [List.mem_append] at hx ⊢
  rcases hx with ((((hx | hx) | hx) | hx) | hx) | hx
  · exact .inl (.inl (.inl (.inl (.inl (one_mono ha hx)))))
  · exact .inl (.inl (.inl (.inl (.inr (one_mono hb hx)))))
  · exact .inl (.inl (.inl (.inr (one_mono hc hx))))
  · exact .inl (.inl (.inr (one_mono hd hx)))
  · exact .inl (.inr (one_mono he hx))
  · exact .inr (one_mono hf hx)
theorem turn_marks (ns : List Int) : (marksS (upL ns).reverse).filter (fun x : Str => !decide (x = "corner")) = (marksS ns).filter fun x : Str => !decide (x = "corner") := by
  have t1 : HasL (upL ns).reverse [3, 2, 1] ↔ HasL ns [3, 2, 1] := turn_has rfl (by decide) (by decide)
  have t2 : HasL (upL ns).reverse [2, 1, 4, 3] ↔ HasL ns [2, 1, 4, 3] := turn_has rfl (by decide) (by decide)
  have t3 : HasL (upL ns).reverse [3, 4, 1, 2] ↔ HasL ns [3, 4, 1, 2] := turn_has rfl (by decide) (by decide)
  have t4 : HasL (upL ns).reverse [4, 2, 3, 1] ↔ HasL ns [4, 2, 3, 1] := turn_has rfl (by decide) (by decide)
  have t5 : HasL (upL ns).reverse [3, 5, 1, 4, 2] ↔ HasL ns [4, 2, 5, 1, 3] := turn_has rfl (by decide) (by decide)
  have t6 : HasL (upL ns).reverse [4, 2, 5, 1, 3] ↔ HasL ns [3, 5, 1, 4, 2] := turn_has rfl (by decide) (by decide)
  have t7 : HasL (upL ns).reverse [3, 5, 1, 6, 2, 4] ↔ HasL ns [3, 5, 1, 6, 2, 4] := turn_has rfl (by decide) (by decide)
  have e1 : avoids (upL ns).reverse [[3, 2, 1]] = avoids ns [[3, 2, 1]] := avoids_of fun p hp => by rw [List.mem_singleton.mp hp]; exact t1
  have e2 : avoids (upL ns).reverse [[2, 1, 4, 3]] = avoids ns [[2, 1, 4, 3]] := avoids_of fun p hp => by rw [List.mem_singleton.mp hp]; exact t2
  have e3 : avoids (upL ns).reverse [[3, 4, 1, 2], [4, 2, 3, 1]] = avoids ns [[3, 4, 1, 2], [4, 2, 3, 1]] := avoids_of fun p hp => by
    rcases List.mem_cons.mp hp with rfl | hp
    · exact t3
    · rw [List.mem_singleton.mp hp]; exact t4
  have e4 : avoids (upL ns).reverse [[3, 2, 1], [3, 4, 1, 2]] = avoids ns [[3, 2, 1], [3, 4, 1, 2]] := avoids_of fun p hp => by
    rcases List.mem_cons.mp hp with rfl | hp
    · exact t1
    · rw [List.mem_singleton.mp hp]; exact t3
  have e5 : avoids (upL ns).reverse [[4, 2, 3, 1], [3, 5, 1, 4, 2], [4, 2, 5, 1, 3], [3, 5, 1, 6, 2, 4]] = avoids ns [[4, 2, 3, 1], [3, 5, 1, 4, 2], [4, 2, 5, 1, 3], [3, 5, 1, 6, 2, 4]] := bool_iff (by
    rw [avoids_iff, avoids_iff]
    simp only [List.forall_mem_cons]
    rw [t4, t5, t6, t7]
    exact ⟨fun ⟨a, b, c, d⟩ => ⟨a, c, b, d.1, fun x hx => nomatch hx⟩, fun ⟨a, b, c, d⟩ => ⟨a, c, b, d.1, fun x hx => nomatch hx⟩⟩)
  rw [marksS_pick, marksS_pick, pick_most, pick_most, e1, e2, e3, e4, e5]
theorem facts {ns : List Int} (r : RowOk ns) : Facts ns := by
  obtain ⟨ms, em, rm, u1, u2, ml⟩ := undo_row r
  have k1 : HasL ns [4, 2, 3, 1] → HasL ns [3, 2, 1] := fun h => Has.trans h sub_321
  have k2 : HasL ns [2, 1, 4, 3] → HasL ns [1, 3, 2] := fun h => Has.trans h sub_132
  have k3 : HasL ns [3, 5, 1, 4, 2] → HasL ns [3, 4, 1, 2] := fun h => Has.trans h sub_a
  have k4 : HasL ns [4, 2, 5, 1, 3] → HasL ns [3, 4, 1, 2] := fun h => Has.trans h sub_b
  have k5 : HasL ns [3, 5, 1, 6, 2, 4] → HasL ns [3, 4, 1, 2] := fun h => Has.trans h sub_c
  refine ⟨law_marks_eq r, ⟨ms, em, rm, marks_of_has fun p hp => ?_⟩, up_row r, turn_marks ns, ?_, fun h => ?_, fun h => ?_, fun p h2 h3 h4 => ?_⟩
  · unfold HasL
    rw [ml]
    exact ⟨has_undo u2 (by rw [← ml]; exact row_unlike rm.nd) (undo_pat hp) (pat_unlike hp), has_undo u1 (row_unlike r.nd) (undo_pat hp) (pat_unlike hp)⟩
  · rw [marksS_pick]
    obtain ⟨m1, _, _, m4, m5, _⟩ := pick_mem (avoids ns [[3, 2, 1]]) (avoids ns [[1, 3, 2]]) (avoids ns [[2, 1, 4, 3]]) (avoids ns [[3, 4, 1, 2], [4, 2, 3, 1]]) (avoids ns [[3, 2, 1], [3, 4, 1, 2]]) (avoids ns [[4, 2, 3, 1], [3, 5, 1, 4, 2], [4, 2, 5, 1, 3], [3, 5, 1, 6, 2, 4]])
    rw [m1, m4, m5]
    refine bool_iff ?_
    rw [Bool.and_eq_true, avoids_iff, avoids_iff, avoids_iff]
    simp only [List.forall_mem_cons]
    exact ⟨fun ⟨a, b, c⟩ => ⟨⟨a, c⟩, b, fun z => a (k1 z), c⟩, fun ⟨⟨a, _⟩, b, c, d⟩ => ⟨a, b, d⟩⟩
  · have h := decide_eq_true h
    refine of_decide_eq_true ?_
    rw [marksS_pick] at h ⊢
    rw [(pick_mem _ _ _ _ _ _).2.2.2.1] at h
    rw [(pick_mem _ _ _ _ _ _).2.2.2.2.2]
    rw [avoids_iff] at h ⊢
    simp only [List.forall_mem_cons] at h ⊢
    exact ⟨h.2.1, fun z => h.1 (k3 z), fun z => h.1 (k4 z), fun z => h.1 (k5 z), h.2.2⟩
  · have h := decide_eq_true h
    refine of_decide_eq_true ?_
    rw [marksS_pick] at h ⊢
    rw [(pick_mem _ _ _ _ _ _).2.1] at h
    rw [(pick_mem _ _ _ _ _ _).2.2.1]
    rw [avoids_iff] at h ⊢
    simp only [List.forall_mem_cons] at h ⊢
    exact ⟨fun z => h.1 (k2 z), h.2⟩
  · have s : (ns.take (p - 1).toNat ++ ns.drop p.toNat).Sublist ns := by
      have e : ns = ns.take (p - 1).toNat ++ ns.drop (p - 1).toNat := (List.take_append_drop _ _).symm
      have q : (ns.drop p.toNat).Sublist (ns.drop (p - 1).toNat) := by
        rw [show p.toNat = (p - 1).toNat + 1 by omega, ← List.drop_drop]
        exact List.drop_sublist _ _
      have q2 := (List.Sublist.refl (ns.take (p - 1).toNat)).append q
      rw [← e] at q2
      exact q2
    have len : (ns.take (p - 1).toNat ++ ns.drop p.toNat).length = ns.length - 1 := by
      rw [List.length_append, List.length_take, List.length_drop]
      omega
    have h8 := r.l8
    refine ⟨st_row (by omega) (by omega) (r.nd.sublist s), ?_⟩
    have av : ∀ ps, avoids ns ps = true → avoids (outL ns p) ps = true := fun ps => avoids_to fun q hq z => ⟨q, hq, out_has s z⟩
    rw [marksS_pick ns, marksS_pick (outL ns p)]
    exact pick_mono (av _) (av _) (av _) (av _) (av _) (av _)
theorem marks_show (ns : List Int) : showB (.list [marksD ns, marksD ns]) = true := by
  unfold marksD
  rw [marksS_pick]
  exact pick_show _ _ _ _ _ _
theorem marks_nodict (ns : List Int) : noDict (.list [marksD ns, marksD ns]) = true := by
  unfold marksD
  rw [marksS_pick]
  exact (pick_six _ _ _ _ _ _).2
theorem marks_shaped (ns : List Int) : SeqAt.shaped (marksD ns) = true ∧ ∀ x ∈ marksS ns, SeqAt.shaped (.str x) = true := by
  unfold marksD
  rw [marksS_pick]
  exact ⟨(pick_shaped _ _ _ _ _ _).1, (pick_shaped _ _ _ _ _ _).2.2⟩
theorem marks_most (ns : List Int) : SeqAt.shaped (.list (((marksS ns).filter fun x : Str => !decide (x = "corner")).map .str)) = true := by
  rw [marksS_pick, pick_most]
  exact (pick_shaped _ _ _ _ _ _).2.1
theorem marks_six (ns : List Int) : (marksS ns).length ≤ 6 := by
  rw [marksS_pick]
  exact (pick_six _ _ _ _ _ _).1
theorem corner_shaped : SeqAt.shaped (.str "corner") = true := by decide +kernel

end
end K71
namespace K71
open Fw PySem PySem.Spec PyProof.Rows L2
local macro_rules | `(tactic| tm_at "one") => `(tactic| first
  | with_reducible exact ee_int
  | with_reducible exact ee_str
  | with_reducible exact ee_bl
  | with_reducible exact ee_non
  | ((with_reducible refine' ee_var ?hv); case hv => rfl)
  | ((with_reducible refine' ee_own ?hv); case hv => rfl)
  | with_reducible refine' ee_andV ?_ (fun hAnd => ?_)
  | with_reducible refine' ee_orV ?_ (fun hOr => ?_)
  | with_reducible refine' ee_notV ?_
  | with_reducible refine' ee_if ?_ (fun hIf => ?_) (fun hIf => ?_)
  | with_reducible refine' te_B ?_
  | with_reducible refine' te_test ?_
  | with_reducible refine' te_and ?_ (fun hAnd => ?_)
  | with_reducible refine' te_or ?_ (fun hOr => ?_)
  | with_reducible refine' te_not ?_
  | with_reducible exact te_yes
  | with_reducible refine' ee_chain ?_ ?_ ?_ (fun hCh => ?_) (fun hCh => ?_)
  | with_reducible refine' ee_isInt ?_
  | with_reducible refine' ee_isBool ?_
  | with_reducible refine' ee_isStr ?_
  | with_reducible refine' ee_isTup ?_
  | with_reducible refine' ee_isLst ?_
  | with_reducible refine' ee_neg ?_
  | with_reducible refine' ee_revT ?_
  | with_reducible refine' ee_opC ?_ ?_
  | with_reducible refine' ee_opE ?_ ?_ ?_
  | with_reducible refine' ee_opN ?_ ?_ ?_
  | with_reducible refine' ee_op ?_ ?_ ?_
  | with_reducible refine' ee_sl ?_ ?_ ?_ ?_
  | with_reducible exact oe_none
  | with_reducible refine' oe_some ?_
  | with_reducible refine' ee_len ?_ ?_
  | with_reducible refine' ee_tup ?_ ?_
  | with_reducible refine' LEv.eed (le_lst ?_ ?_)
  | with_reducible refine' le_lst ?_ ?_
  | with_reducible refine' ee_cb ?_ ?_
  | with_reducible exact de_nil
  | with_reducible refine' de_cons ?_ ?_
  | with_reducible refine' de_star ?_ ?_
  | with_reducible exact ae_nil
  | ((with_reducible refine' ae_raw ?hv ?_); case hv => rfl)
  | with_reducible refine' ae_cons ?_ ?_
  | with_reducible exact rv_addI
  | with_reducible refine' rv_addL ?_
  | with_reducible refine' rv_addT ?_
  | with_reducible refine' rv_addS ?_
  | with_reducible refine' rv_I0 (.int _)
  | with_reducible refine' rv_I0 (.bl _)
  | with_reducible refine' rv_eq ?_ ?_
  | with_reducible refine' rv_ne ?_ ?_
  | with_reducible exact rv_isN
  | with_reducible exact rv_notN
  | with_reducible refine' rv_ixL ?_
  | with_reducible refine' rv_ixT ?_
  | with_reducible exact sv_L
  | with_reducible exact sv_T
  | with_reducible refine' sv_S ?_
  | with_reducible exact rc_lenL
  | with_reducible exact rc_lenT
  | with_reducible exact rc_tupL
  | with_reducible exact rc_tupT
  | with_reducible exact rc_int1
  | with_reducible exact rc_all
  | with_reducible exact rc_any
  | with_reducible refine' ie_list ?_
  | with_reducible refine' ie_tup ?_
  | with_reducible refine' ie_range1 ?_ ?_
  | with_reducible refine' ie_range2 ?_ ?_
  | with_reducible refine' ie_enum0 ?_
  | with_reducible refine' ie_enum1 ?_ ?_
  | with_reducible refine' ie_str ?_)
local macro_rules | `(tactic| tm_at "ev") => `(tactic| repeat' tm_at "one")
local macro_rules | `(tactic| tm_at "go") => `(tactic| dsimp only [padN, poOf, FSp.fn, nox_K, cx_K, List.set])
local macro_rules | `(tactic| tm_at "one") => `(tactic| first
  | with_reducible refine' ev_is_number ?_
  | with_reducible refine' ev_is_between ?_ ?_ ?_
  | with_reducible refine' ev_need_between ?_ ?_ ?_ ?_ ?_
  | with_reducible refine' ev_has_each ?_ ?_
  | with_reducible refine' ev_is_row ?_
  | with_reducible refine' ev_need_row ?_ ?_
  | with_reducible refine' ev_undone_told ?_ ?_
  | with_reducible refine' ev_undone_row ?_ ?_
  | with_reducible refine' ev_turned_row ?_ ?_
  | with_reducible refine' ev_upturned_row ?_ ?_
  | with_reducible refine' ev_standing_told ?_ ?_
  | with_reducible refine' ev_fits_on ?_ ?_ ?_ ?_ ?_
  | with_reducible refine' ev_places_told ?_ ?_ ?_
  | with_reducible refine' ev_holds_told ?_ ?_ ?_
  | with_reducible refine' ev_taken_out ?_ ?_ ?_
  | with_reducible refine' ev_has_mark ?_ ?_ ?_
  | with_reducible refine' ev_marks_told ?_ ?_
  | with_reducible refine' ev_marks_of ?_ ?_
  | with_reducible refine' ev_law_shape_of ?_ ?_
  | with_reducible refine' ev_law_lots ?_ ?_ ?_
  | with_reducible refine' ev_law_holds ?_ ?_ ?_
  | with_reducible refine' ev_law_marks ?_ ?_
  | with_reducible refine' ev_law_take ?_ ?_ ?_
  | with_reducible refine' ev_law_same ?_ ?_ ?_)
section
variable {P : Program} {w : World} {K : PySem.W.Frag} {mg : Str → Option Value} {base : Heap}
theorem Tx.k_marks_of (T : Tx w K mg) : KBinds K T.fd_marks_of ["row"] ["row"] (fun us ws => us ++ ws) (fun vs zs => vs ++ zs) := kb_of T.F_marks_of fun _ _ _ _ _ _ us ws hl => match us, ws, hl with
  | [_], [], _ => rfl
  | [], [_], _ => rfl
abbrev sp_law_one_right (d : Addr × Addr × Addr × List Int) : FSp := { α := Unit, args := fun _ => [.raw (.ref d.1)], pre := fun _ => True, post := fun _ z => z = .bool true }
theorem ok__law_one_right (T : Tx w K mg) : FnG P w K mg base 7 T.a__law_one_right T.fd__law_one_right ["draw"] (SpI (pmD K) sp_law_one_right) := by
  refine fn_okGI T.F__law_one_right sc__law_one_right (fun _ _ => rfl) fun cdv A outer s H E hG hr => ⟨_, (pss_cons (ps_set (i := 1) sc__law_one_right.nd rfl (Or.inr rfl) (pe_call (ok__law_some_row T) (hr.mono (by decide)) (by rfl) T.g__law_some_row T.F__law_some_row.kp T.b__law_some_row .nil pass0 (pa_cons (pv 0) pa_nil))) (pss_cons (ps_set (i := 2) sc__law_one_right.nd rfl (Or.inl rfl) (pe_call (ok__law_marks T) (hr.mono (by decide)) (by rfl) T.g__law_marks T.F__law_marks.kp T.b__law_marks .nil pass0 (pa_cons (pv 1) pa_nil))) (pss_cons (ps_if (pt_not (pt_val (pe_callG (ok__law_same T) hG (hr.mono (by decide)) (by rfl) T.g__law_same T.F__law_same.kp T.b__law_same (pa_cons (pe_lst (pa_cons (pe_call (ok_marks_of T) hr (by rfl) T.g_marks_of T.F_marks_of.kp T.b_marks_of .nil passL (pa_cons (pv 1) pa_nil)) (pa_cons (pe_callKw (ok_marks_of T) hr (by rfl) T.g_marks_of T.F_marks_of.kp T.k_marks_of passL (pk_cons (pv 1) pk_nil)) pa_nil))) (pa_cons (pe_lst (pa_cons (pv 2) (pa_cons (pv 2) pa_nil))) pa_nil))))) (pss_one (ps_ret pe_bl)) pss_nil) (pss_cons (ps_set (i := 3) sc__law_one_right.nd rfl (Or.inl rfl) (pe_revT (K := K) rfl (pe_callTy (k_tuple (K := K) rfl) (by rfl) T.z_tuple bt_tuple (pa_cons (pe_lc (own := [("number", 5)]) (g := gName 5) rfl sc__law_one_right.nd (k_seq (K := K) rfl (pv 1)) (blkOk_by (by kernel_rfl)) (fun _ _ _ _ _ => (pg_name (i := 5) sc__law_one_right.nd rfl (Or.inl rfl))) (fun _ _ _ _ _ => pts_nil) (fun _ _ _ _ _ => (pe_op op_sub (pe_op (k_add (K := K) rfl) (pe_callB (k_len (K := K) rfl) (by rfl) T.z_len bt_len (pa_cons (pv 1) pa_nil)) pe_int) (pv 5)))) pa_nil)))) (pss_cons (ps_if (PW.pt (pw_or (pt_cmpR (k_ne (K := K) rfl hr.units) (pe_call (ok_marks_of T) hr (by rfl) T.g_marks_of T.F_marks_of.kp T.b_marks_of .nil passL (pa_cons (pe_call (ok_undone_row T) hr (by rfl) T.g_undone_row T.F_undone_row.kp T.b_undone_row .nil pass0 (pa_cons (pv 1) pa_nil)) pa_nil)) (pv 2) (nomark _)) (pw_or1 (pt_cmpR (k_ne (K := K) rfl hr.units) (pe_lc (own := [("word", 6)]) (g := gName 6) rfl sc__law_one_right.nd (k_seq (K := K) rfl (pe_call (ok_marks_of T) hr (by rfl) T.g_marks_of T.F_marks_of.kp T.b_marks_of .nil passL (pa_cons (pe_call (ok_turned_row T) hr (by rfl) T.g_turned_row T.F_turned_row.kp T.b_turned_row .nil pass0 (pa_cons (pe_call (ok_upturned_row T) hr (by rfl) T.g_upturned_row T.F_upturned_row.kp T.b_upturned_row .nil pass0 (pa_cons (pv 1) pa_nil)) pa_nil)) pa_nil))) (blkOk_by (by kernel_rfl)) (fun _ _ _ _ _ => (pg_name (i := 6) sc__law_one_right.nd rfl (Or.inl rfl))) (fun _ _ _ _ _ => (pts_one (pt_cmpR (k_ne (K := K) rfl hr.units) (pv 6) pe_str (nomark _)))) (fun _ _ _ _ _ => (pv 6))) (pe_lc (own := [("word", 6)]) (g := gName 6) rfl sc__law_one_right.nd (k_seq (K := K) rfl (pv 2)) (blkOk_by (by kernel_rfl)) (fun _ _ _ _ _ => (pg_name (i := 6) sc__law_one_right.nd rfl (Or.inl rfl))) (fun _ _ _ _ _ => (pts_one (pt_cmpR (k_ne (K := K) rfl hr.units) (pv 6) pe_str (nomark _)))) (fun _ _ _ _ _ => (pv 6))) (nomark _))))) (pss_one (ps_ret pe_bl)) pss_nil) (pss_cons (ps_if (PW.pt (pw_or (pt_cmpR (k_ne (K := K) rfl hr.units) (pe_call (ok_turned_row T) hr (by rfl) T.g_turned_row T.F_turned_row.kp T.b_turned_row .nil pass0 (pa_cons (pe_call (ok_upturned_row T) hr (by rfl) T.g_upturned_row T.F_upturned_row.kp T.b_upturned_row .nil pass0 (pa_cons (pv 1) pa_nil)) pa_nil)) (pv 3) (nomark _)) (pw_or1 (pt_cmpR (k_ne (K := K) rfl hr.units) (pe_cmpR (k_in (K := K) rfl) pe_str (pv 2) (by rfl)) (pe_and (pe_cmpR (k_in (K := K) rfl) pe_str (pv 2) (by rfl)) (pe_one (pe_cmpR (k_in (K := K) rfl) pe_str (pv 2) (by rfl)))) (nomark _))))) (pss_one (ps_ret pe_bl)) pss_nil) (pss_cons (ps_if (PW.pt (pw_or (PW.pt (pw_and (pt_cmpR (k_in (K := K) rfl) pe_str (pv 2) (by rfl)) (pw_and1 (pt_cmpR (k_notin (K := K) rfl) pe_str (pv 2) (by rfl))))) (pw_or1 (PW.pt (pw_and (pt_cmpR (k_in (K := K) rfl) pe_str (pv 2) (by rfl)) (pw_and1 (pt_cmpR (k_notin (K := K) rfl) pe_str (pv 2) (by rfl)))))))) (pss_one (ps_ret pe_bl)) pss_nil) (pss_cons (ps_for PassesOwn.never rfl (k_seq (K := K) rfl (pe_ifExp (pt_cmpR op_gt (pe_callB (k_len (K := K) rfl) (by rfl) T.z_len bt_len (pa_cons (pv 1) pa_nil)) pe_int (nomark _)) (pe_listRg rfl (by rfl) T.z_list (prg_2 (by rfl) T.z_range pe_int (pe_op (k_add (K := K) rfl) (pe_callB (k_len (K := K) rfl) (by rfl) T.z_len bt_len (pa_cons (pv 1) pa_nil)) pe_int))) (pe_lst pa_nil))) (pg_name (i := 4) sc__law_one_right.nd rfl (Or.inr rfl)) (pss_one (ps_if (pt_cmpR (k_ne (K := K) rfl hr.units) (pe_lc (own := [("word", 6)]) (g := gName 6) rfl sc__law_one_right.nd (k_seq (K := K) rfl (pv 2)) (blkOk_by (by kernel_rfl)) (fun _ _ _ _ _ => (pg_name (i := 6) sc__law_one_right.nd rfl (Or.inl rfl))) (fun _ _ _ _ _ => (pts_one (pt_cmpR (k_notin (K := K) rfl) (pv 6) (pe_call (ok_marks_of T) hr (by rfl) T.g_marks_of T.F_marks_of.kp T.b_marks_of .nil passL (pa_cons (pe_call (ok_taken_out T) hr (by rfl) T.g_taken_out T.F_taken_out.kp T.b_taken_out .nil pass0 (pa_cons (pv 1) (pa_cons (pv 4) pa_nil))) pa_nil)) (by rfl)))) (fun _ _ _ _ _ => (pv 6))) (pe_lst pa_nil) (nomark _)) (pss_one (ps_ret pe_bl)) pss_nil))) (pss_one (ps_ret pe_bl)))))))))), ?_⟩
  rintro ⟨a, l, c, cs⟩ ⟨⟩ hx
  tm_at "go"
  have z1 : ∀ n, n ≤ 9 → n ≤ sizeLine := fun n h => by rw [sizeLine_eq]; omega
  refine' sq_asgG (ee_callI (pm := pmD K) (F := sp_law_some_row) (b := false) (a, l, c, cs) () (ae_raw rfl ae_nil) trivial fun _ _ h => h) ?_
  rintro x ⟨ns, hr, rfl⟩
  have h8 := hr.l8
  have fs := facts hr
  have hl : ((ns.map PyData.int).length : Int) = ns.length := by rw [List.length_map]
  refine' sq_asg (ev_law_marks (ee_var rfl) (by omega)) ?_
  have due : lawMarksD ns = marksD ns := by unfold lawMarksD marksD; rw [fs.law]
  rw [due]
  refine' sq_if (k := false) (te_not (te_B (ev_law_same (d := .list [marksD ns, marksD ns]) (LEv.eed (le_lst (de_cons (ev_marks_of (ee_var rfl) hr) (de_cons (ev_marks_of (ee_var rfl) hr) de_nil)) (z1 _ (Nat.le_of_ble_eq_true rfl)))) (LEv.eed (le_lst (de_cons (ee_var rfl) (de_cons (ee_var rfl) de_nil)) (z1 _ (Nat.le_of_ble_eq_true rfl)))) ⟨rfl, marks_show ns, marks_nodict ns⟩))) (fun h => nomatch h) (fun _ => sq_next ?_)
  refine' sq_asg (x := tuI (upL ns).reverse) ?_ ?_
  · have e : tuI (upL ns).reverse = .tuple ((upL ns).map .int).reverse := by unfold tuI; rw [List.map_reverse]
    rw [e]
    refine' ee_revT (ee_tupL (LEv.eed (LEv.imp2 (le_lc1Y (em := PyData.int) (ns := ns) (f := fun x => .int ((ns.length : Int) + 1 - x)) (ie_tup (ee_var (i := 1) rfl)) rfl (fun x _ => ?_) (row_sz hr.l8)) ?_)))
    · refine' ee_ops (b1 := false) (b2 := false) (ee_op (ee_len (b1 := false) (ee_var rfl) ?_) ee_int rv_addI) (ee_var rfl) (rv_I0 (.int _))
      have e : ns.length = (ns.map PyData.int).length := by rw [List.length_map]
      rw [e]
      exact .tuple _
    · intro y hy
      rw [hy]
      unfold upL
      rw [List.map_map]; rfl
  obtain ⟨ms, hu, hrm, hmm⟩ := fs.undo
  have eu : ∀ (env : List Ent) (E' : XK), env[1]? = some (.d (tuI ns)) → EEd (pmD K (a, l, c, cs)) false (tCall (SpF (.pure K) sp_undone_row) [] E' (tCons (tVar 1) tNil)) env (tuI ms) := fun env E' g => by
    have h := ev_undone_row (pm := pmD K (a, l, c, cs)) (E := E') (ee_var g) hr
    rw [hu] at h
    exact h
  have et : ∀ (env : List Ent) (E1 E2 : XK), env[1]? = some (.d (tuI ns)) → EEd (pmD K (a, l, c, cs)) false (tCall (SpF (.pure K) sp_turned_row) [] E1 (tCons (tCall (SpF (.pure K) sp_upturned_row) [] E2 (tCons (tVar 1) tNil)) tNil)) env (tuI (upL ns).reverse) := fun env E1 E2 g => by
    have h := ev_turned_row (pm := pmD K (a, l, c, cs)) (E := E1) (ev_upturned_row (E := E2) (ee_var g) hr) fs.up.1
    exact EEv.is h (by unfold tuI; rw [List.map_reverse])
  refine' sq_if (k := false) (TEv.is (te_or (te_test (ee_opN (ev_marks_of (eu _ _ rfl) hrm) (ee_var rfl) ⟨(marks_shaped ms).1, (marks_shaped ns).1⟩)) (fun _ => te_test (ee_opN (x := .list (((marksS (upL ns).reverse).filter fun x : Str => !decide (x = "corner")).map .str)) (y := .list (((marksS ns).filter fun x : Str => !decide (x = "corner")).map .str))
      (LEv.eed (le_lc1 (em := PyData.str) (ns := marksS (upL ns).reverse) (p := fun x => !decide (x = "corner")) (f := .str) (ie_tup (ev_marks_of (et _ _ _ rfl) fs.up.2)) rfl (fun x hx => ?_) (fun x _ _ => ee_var rfl) ?_))
      (LEv.eed (le_lc1 (em := PyData.str) (ns := marksS ns) (p := fun x => !decide (x = "corner")) (f := .str) (ie_tup (ee_var rfl)) rfl (fun x hx => ?_) (fun x _ _ => ee_var rfl) ?_)) ⟨marks_most _, marks_most _⟩))) ?_) (fun h => nomatch h) (fun _ => sq_next ?_)
  · refine' TEv.is (te_test (ee_opN (ee_var rfl) (b2 := false) ee_str ⟨(marks_shaped _).2 x hx, corner_shaped⟩)) ?_
    rw [eqv_ss]
  · have := marks_six (upL ns).reverse
    exact z1 _ (by omega)
  · refine' TEv.is (te_test (ee_opN (ee_var rfl) (b2 := false) ee_str ⟨(marks_shaped _).2 x hx, corner_shaped⟩)) ?_
    rw [eqv_ss]
  · have := marks_six ns
    exact z1 _ (by omega)
  · rw [fs.turn, eqv_tss, eqv_lss, hmm]
    simp
  refine' sq_if (k := false) (TEv.is (te_or (te_test (ee_opN (et _ _ _ rfl) (ee_var rfl) ⟨shaped_ti _, shaped_ti _⟩)) (fun _ => te_test (ee_opN (ee_ops (b1 := false) ee_str (ee_var rfl) rv_inT) (ee_andV (ee_ops (b1 := false) ee_str (ee_var rfl) rv_inT) (fun _ => ee_ops (b1 := false) ee_str (ee_var rfl) rv_inT)) ⟨shaped_b _, shaped_b _⟩))) ?_) (fun h => nomatch h) (fun _ => sq_next ?_)
  · rw [eqv_ti, eqv_b, fs.cube]
    simp
  refine' sq_if (k := false) (TEv.is (te_or (te_and (te_test (ee_ops (b1 := false) ee_str (ee_var rfl) rv_inT)) (fun _ => te_test (ee_ops (b1 := false) ee_str (ee_var rfl) rv_notinT))) (fun _ => te_and (te_test (ee_ops (b1 := false) ee_str (ee_var rfl) rv_inT)) (fun _ => te_test (ee_ops (b1 := false) ee_str (ee_var rfl) rv_notinT)))) ?_) (fun h => nomatch h) (fun _ => sq_next ?_)
  · have h1 := fs.smooth
    have h2 := fs.corner
    by_cases q1 : (("smooth" : Str) ∈ marksS ns) <;> by_cases q2 : (("corner" : Str) ∈ marksS ns) <;> simp [q1, q2, h1, h2]
  refine' sq (N' := fun e => True) ?_ ?_
  · refine' se_for (xs := if decide (1 < ns.length) then (rngI 1 ns.length).map PyData.int else []) (ie_list ?_) (fun i e => ∃ q, e = [.raw (.ref a), .d (tuI ns), .d (marksD ns), .d (tuI (upL ns).reverse), q, .un, .un]) ⟨_, rfl⟩ ?_ (fun _ _ => trivial)
    · refine' ee_ifB (c := decide (1 < ns.length)) (TEv.is (te_test (ee_opC (b2 := false) (ee_len (ee_var rfl) (.tuple _)) ee_int)) ?_) (fun hk => ?_) (fun hk => ?_)
      · rw [hl]
        by_cases h : 1 < ns.length <;> simp [h] <;> omega
      · rw [hk]
        refine' EEv.is (LEv.eed (LEv.imp2 (le_rgG (b := false) (A := fun k => k = ns.length + 1) (ei_of (EEv.is (ee_op (ee_len (ee_var rfl) (.tuple _)) ee_int rv_addI) (by rw [hl])) rfl) ?_) ?_)) rfl
        · rintro k rfl
          unfold RgOk
          omega
        · rintro y ⟨k, rfl, rfl⟩
          have e : ((ns.length : Int) + 1 - 1).toNat = ns.length := by omega
          rw [e]; rfl
      · rw [hk]
        exact LEv.eed (le_lst de_nil (z1 _ (Nat.le_of_ble_eq_true rfl)))
    · rintro i x env' hx ⟨q, rfl⟩
      by_cases h1 : 1 < ns.length
      · rw [if_pos (decide_eq_true h1)] at hx
        obtain ⟨p, hp, rfl⟩ := List.mem_map.mp (List.mem_of_getElem? hx)
        have hp2 := mem_rngI.mp hp
        obtain ⟨ho, hsub⟩ := fs.out p (by omega) (by omega) (by omega)
        refine' turn1 ?_
        have hlen : (marksS ns).length ≤ sizeLine := z1 _ (by have := marks_six ns; omega)
        have hmem : ∀ x ∈ marksS ns, TEd (pmD K (a, l, c, cs)) _ (([Ent.raw (.ref a), .d (tuI ns), .d (marksD ns), .d (tuI (upL ns).reverse), q, .un, .un].set 4 (.d (.int p))).set 6 (.d (.str x))) false := fun x hx => TEv.is (te_test (ee_ops (r := rInD K true) (b1 := false) (ee_var (i := 6) rfl) (ev_marks_of (C := T.c_BadRow) (E := E0) (ev_taken_out (E := E0) (ee_var (i := 1) rfl) (ee_var (i := 4) rfl) ⟨hr, by omega, by omega, by omega⟩) ho) rv_notinT)) (by simp [hsub x hx])
        refine' se_if (k := false) (TEv.is (te_test (ee_opN (b2 := false) (x := .list []) (EEv.is (LEv.eed (le_lc1 (em := PyData.str) (ns := marksS ns) (p := fun _ => false) (f := .str) (ie_tup (ee_var rfl)) rfl hmem (fun x _ _ => ee_var rfl) hlen)) (by simp)) (LEv.eed (le_lst de_nil (z1 _ (Nat.le_of_ble_eq_true rfl)))) ⟨shaped_l0, shaped_l0⟩)) (by rw [eqv_l0]; rfl)) (fun h => nomatch h) (fun _ => se_next ⟨_, rfl⟩)
      · rw [if_neg (by simpa using h1)] at hx
        exact nomatch hx
  · intro env' _
    refine' se_retD (b := false) ee_bl rfl

end
end K71
namespace K71
open Fw PySem PySem.Spec PyProof.Rows L2
local macro_rules | `(tactic| tm_at "one") => `(tactic| first
  | with_reducible exact ee_int
  | with_reducible exact ee_str
  | with_reducible exact ee_bl
  | with_reducible exact ee_non
  | ((with_reducible refine' ee_var ?hv); case hv => rfl)
  | ((with_reducible refine' ee_own ?hv); case hv => rfl)
  | with_reducible refine' ee_andV ?_ (fun hAnd => ?_)
  | with_reducible refine' ee_orV ?_ (fun hOr => ?_)
  | with_reducible refine' ee_notV ?_
  | with_reducible refine' ee_if ?_ (fun hIf => ?_) (fun hIf => ?_)
  | with_reducible refine' te_B ?_
  | with_reducible refine' te_test ?_
  | with_reducible refine' te_and ?_ (fun hAnd => ?_)
  | with_reducible refine' te_or ?_ (fun hOr => ?_)
  | with_reducible refine' te_not ?_
  | with_reducible exact te_yes
  | with_reducible refine' ee_chain ?_ ?_ ?_ (fun hCh => ?_) (fun hCh => ?_)
  | with_reducible refine' ee_isInt ?_
  | with_reducible refine' ee_isBool ?_
  | with_reducible refine' ee_isStr ?_
  | with_reducible refine' ee_isTup ?_
  | with_reducible refine' ee_isLst ?_
  | with_reducible refine' ee_neg ?_
  | with_reducible refine' ee_revT ?_
  | with_reducible refine' ee_opC ?_ ?_
  | with_reducible refine' ee_opE ?_ ?_ ?_
  | with_reducible refine' ee_opN ?_ ?_ ?_
  | with_reducible refine' ee_op ?_ ?_ ?_
  | with_reducible refine' ee_sl ?_ ?_ ?_ ?_
  | with_reducible exact oe_none
  | with_reducible refine' oe_some ?_
  | with_reducible refine' ee_len ?_ ?_
  | with_reducible refine' ee_tup ?_ ?_
  | with_reducible refine' LEv.eed (le_lst ?_ ?_)
  | with_reducible refine' le_lst ?_ ?_
  | with_reducible refine' ee_cb ?_ ?_
  | with_reducible exact de_nil
  | with_reducible refine' de_cons ?_ ?_
  | with_reducible refine' de_star ?_ ?_
  | with_reducible exact ae_nil
  | ((with_reducible refine' ae_raw ?hv ?_); case hv => rfl)
  | with_reducible refine' ae_cons ?_ ?_
  | with_reducible exact rv_addI
  | with_reducible refine' rv_addL ?_
  | with_reducible refine' rv_addT ?_
  | with_reducible refine' rv_addS ?_
  | with_reducible refine' rv_I0 (.int _)
  | with_reducible refine' rv_I0 (.bl _)
  | with_reducible refine' rv_eq ?_ ?_
  | with_reducible refine' rv_ne ?_ ?_
  | with_reducible exact rv_isN
  | with_reducible exact rv_notN
  | with_reducible refine' rv_ixL ?_
  | with_reducible refine' rv_ixT ?_
  | with_reducible exact sv_L
  | with_reducible exact sv_T
  | with_reducible refine' sv_S ?_
  | with_reducible exact rc_lenL
  | with_reducible exact rc_lenT
  | with_reducible exact rc_tupL
  | with_reducible exact rc_tupT
  | with_reducible exact rc_int1
  | with_reducible exact rc_all
  | with_reducible exact rc_any
  | with_reducible refine' ie_list ?_
  | with_reducible refine' ie_tup ?_
  | with_reducible refine' ie_range1 ?_ ?_
  | with_reducible refine' ie_range2 ?_ ?_
  | with_reducible refine' ie_enum0 ?_
  | with_reducible refine' ie_enum1 ?_ ?_
  | with_reducible refine' ie_str ?_)
local macro_rules | `(tactic| tm_at "ev") => `(tactic| repeat' tm_at "one")
local macro_rules | `(tactic| tm_at "go") => `(tactic| dsimp only [padN, poOf, FSp.fn, nox_K, cx_K, List.set])
local macro_rules | `(tactic| tm_at "one") => `(tactic| first
  | with_reducible refine' ev_is_number ?_
  | with_reducible refine' ev_is_between ?_ ?_ ?_
  | with_reducible refine' ev_need_between ?_ ?_ ?_ ?_ ?_
  | with_reducible refine' ev_has_each ?_ ?_
  | with_reducible refine' ev_is_row ?_
  | with_reducible refine' ev_need_row ?_ ?_
  | with_reducible refine' ev_undone_told ?_ ?_
  | with_reducible refine' ev_undone_row ?_ ?_
  | with_reducible refine' ev_turned_row ?_ ?_
  | with_reducible refine' ev_upturned_row ?_ ?_
  | with_reducible refine' ev_standing_told ?_ ?_
  | with_reducible refine' ev_fits_on ?_ ?_ ?_ ?_ ?_
  | with_reducible refine' ev_places_told ?_ ?_ ?_
  | with_reducible refine' ev_holds_told ?_ ?_ ?_
  | with_reducible refine' ev_taken_out ?_ ?_ ?_
  | with_reducible refine' ev_has_mark ?_ ?_ ?_
  | with_reducible refine' ev_marks_told ?_ ?_
  | with_reducible refine' ev_marks_of ?_ ?_
  | with_reducible refine' ev_law_shape_of ?_ ?_
  | with_reducible refine' ev_law_lots ?_ ?_ ?_
  | with_reducible refine' ev_law_holds ?_ ?_ ?_
  | with_reducible refine' ev_law_marks ?_ ?_
  | with_reducible refine' ev_law_take ?_ ?_ ?_
  | with_reducible refine' ev_law_same ?_ ?_ ?_)
section
variable {P : Program} {w : World} {K : PySem.W.Frag} {mg : Str → Option Value} {base : Heap}
def sp_law_begun (K : PySem.W.Frag) : Sp := fun vs H Q _ => ∃ (a : Addr) (ns : List Int), vs = [.ref a] ∧ SqL K H a (ns.map .int) ∧ ns.length ≤ sizeLine ∧ ∀ d l c cs bs H', H d = none → H l = none → H c = none → d ≠ l ∧ d ≠ c ∧ l ≠ c → DrawAt d l c cs bs 0 0 H' → Same H H' → Q (.ref d) H'
theorem ok__law_begun (T : Tx w K mg) : FnOk P w K mg base CX0 1 T.a__law_begun T.fd__law_begun ["script"] (sp_law_begun K) := by
  refine T.F__law_begun.ok sc__law_begun (fun vs H Q E ⟨a, ns, e, _⟩ => by rw [e]; rfl) fun cdv A outer s H vs Q E hr ⟨a, ns, e, sq, hz, q⟩ => ⟨_, (pss_cons (ps_setLc (i := 1) (own := [("cell", 2)]) (g := gName 2) rfl sc__law_begun.nd rfl rfl (sw_true rfl rfl rfl (by decide +kernel)) (k_seq (K := K) rfl (pv 0)) (blkOk_by (by kernel_rfl)) (fun _ _ _ _ _ => (pg_name (i := 2) sc__law_begun.nd rfl (Or.inl rfl))) (fun _ _ _ _ _ => (pts_one (pt_cmpR op_ge (pe_callB call_abs (by rfl) T.z_abs bt_abs (pa_cons (pv 2) pa_nil)) (pe_op op_pow pe_int pe_int) (nomark _)))) (fun _ _ _ _ _ => (pe_op op_sub (pe_callB call_abs (by rfl) T.z_abs bt_abs (pa_cons (pv 2) pa_nil)) (pe_op op_pow pe_int pe_int)))) (pss_one (ps_ret (pe_disp (pps_cons pe_str (pv 1) (pps_cons pe_str (pe_lc (own := [("cell", 2)]) (g := gName 2) rfl sc__law_begun.nd (k_seq (K := K) rfl (pv 0)) (blkOk_by (by kernel_rfl)) (fun _ _ _ _ _ => (pg_name (i := 2) sc__law_begun.nd rfl (Or.inl rfl))) (fun _ _ _ _ _ => pts_nil) (fun _ _ _ _ _ => (pe_callB call_abs (by rfl) T.z_abs bt_abs (pa_cons (pv 2) pa_nil)))) (pps_cons pe_str pe_int (pps_cons pe_str pe_int pps_nil)))) rfl rfl (by intro h; cases h) (Nat.le_of_ble_eq_true rfl))))), ?_⟩
  subst e
  have S : Stt (.pure K) (fun _ => False) [] H H [some (.ref a), none, none] [.raw (.ref a), .un, .un] := start_ok (P := .pure K) (N := ["script", "large", "cell"]) (vs := [.ref a]) (as := [.raw (.ref a)]) (fun _ h => by cases h) (fun _ h => h.elim) trivial (.cons (.raw _) .nil)
  have pw : (10 : Int) ^ (18 : Int).toNat = 1000000000000000000 := by decide
  have cp : CPow 10 18 := ⟨by decide, by decide, by decide⟩
  let ab : Int → Int := fun i => if i < 0 then -i else i
  have eab : ∀ (env : List Ent) n, env[2]? = some (.d (.int n)) → EEd (.pure K) false (tCB (fun xs H Q => ∃ i, xs = [V.int i] ∧ Q (.int (if i < 0 then -i else i)) H) (tCons (tVar 2) tNil)) env (.int (ab n)) := fun env n h => ee_cb (de_cons (ee_var h) de_nil) rc_abs
  have epw : ∀ env, EEd (.pure K) false (tOp (rI CPow fun i j => .int (i ^ j.toNat)) (tC (.int 10)) (tC (.int 18))) env (.int 1000000000000000000) := fun env => EEv.is (ee_op ee_int ee_int (rv_I cp (.int _))) (by rw [pw])
  dsimp only [tSeq, tAsg, tRet]
  refine lc_script (i := 0) (j := 2) (p := fun n => decide (1000000000000000000 ≤ ab n)) (f := fun n => ab n - 1000000000000000000) S sq hz rfl rfl (fun n _ => ?_) (fun n _ _ => ?_) fun l H1 hl e1 gl => ?_
  · exact te_test (ee_opC (eab _ n rfl) (epw _))
  · exact ee_op (eab _ n rfl) (epw _) (rv_I0 (.int _))
  have S1 := (S.same e1).setE (i := 1) (v := some (.ref l)) (e := .raw (.ref l)) rfl rfl
  intro d hd
  dsimp only [tPairs]
  have S2 := S1.same (same_new (o := .dK []) hd)
  refine ⟨_, rfl, ?_⟩
  dsimp only [tC]
  refine lc_script (i := 0) (j := 2) (p := fun _ => true) (f := ab) S2 sq hz rfl rfl (fun n _ => te_yes) (fun n _ _ => eab _ n rfl) fun c H3 hc e3 gc => ?_
  have nd : H1 d = none := hd
  have e2 : Same H1 (upd H1 d (.dK [])) := same_new hd
  have ld : l ≠ d := fun z => by rw [z, hd] at gl; cases gl
  have cd : c ≠ d := fun z => by rw [z, upd_same] at hc; cases hc
  have cl : c ≠ l := fun z => by rw [z, upd_ne ld, gl] at hc; cases hc
  have gd3 : H3 d = some (.dK []) := e3 _ _ upd_same
  have gl3 : H3 l = some (.lst (((ns.filter fun n => decide (1000000000000000000 ≤ ab n)).map fun n => ab n - 1000000000000000000).map .int)) := e3 _ _ (e2 _ _ gl)
  have back : ∀ {b : Addr}, H1 b = none → H b = none := fun {b} h => by
    cases z : H b with
    | none => rfl
    | some o => rw [e1 _ _ z] at h; cases h
  refine ⟨gd3, drawK l c 0 0, rfl, (by decide : 4 ≤ 15), ?_⟩
  refine q d l c ((ns.filter fun _ => true).map ab) ((ns.filter fun n => decide (1000000000000000000 ≤ ab n)).map fun n => ab n - 1000000000000000000) _ (back hd) hl (back (by rw [upd_ne cd] at hc; exact hc)) ⟨ld.symm, cd.symm, cl.symm⟩ ⟨?_, ?_, ?_⟩ fun b o h => ?_
  · rw [upd_ne cd]; exact gc
  · rw [upd_ne ld]; exact gl3
  · exact upd_same
  · have h1 := e1 _ _ h
    have bd : b ≠ d := fun z => by rw [z, hd] at h1; cases h1
    rw [upd_ne bd]
    exact e3 _ _ (e2 _ _ h1)

end
end K71
namespace K71
open Fw PySem PySem.Spec PyProof.Rows L2
local macro_rules | `(tactic| tm_at "one") => `(tactic| first
  | with_reducible exact ee_int
  | with_reducible exact ee_str
  | with_reducible exact ee_bl
  | with_reducible exact ee_non
  | ((with_reducible refine' ee_var ?hv); case hv => rfl)
  | ((with_reducible refine' ee_own ?hv); case hv => rfl)
  | with_reducible refine' ee_andV ?_ (fun hAnd => ?_)
  | with_reducible refine' ee_orV ?_ (fun hOr => ?_)
  | with_reducible refine' ee_notV ?_
  | with_reducible refine' ee_if ?_ (fun hIf => ?_) (fun hIf => ?_)
  | with_reducible refine' te_B ?_
  | with_reducible refine' te_test ?_
  | with_reducible refine' te_and ?_ (fun hAnd => ?_)
  | with_reducible refine' te_or ?_ (fun hOr => ?_)
  | with_reducible refine' te_not ?_
  | with_reducible exact te_yes
  | with_reducible refine' ee_chain ?_ ?_ ?_ (fun hCh => ?_) (fun hCh => ?_)
  | with_reducible refine' ee_isInt ?_
  | with_reducible refine' ee_isBool ?_
  | with_reducible refine' ee_isStr ?_
  | with_reducible refine' ee_isTup ?_
  | with_reducible refine' ee_isLst ?_
  | with_reducible refine' ee_neg ?_
  | with_reducible refine' ee_revT ?_
  | with_reducible refine' ee_opC ?_ ?_
  | with_reducible refine' ee_opE ?_ ?_ ?_
  | with_reducible refine' ee_opN ?_ ?_ ?_
  | with_reducible refine' ee_op ?_ ?_ ?_
  | with_reducible refine' ee_sl ?_ ?_ ?_ ?_
  | with_reducible exact oe_none
  | with_reducible refine' oe_some ?_
  | with_reducible refine' ee_len ?_ ?_
  | with_reducible refine' ee_tup ?_ ?_
  | with_reducible refine' LEv.eed (le_lst ?_ ?_)
  | with_reducible refine' le_lst ?_ ?_
  | with_reducible refine' ee_cb ?_ ?_
  | with_reducible exact de_nil
  | with_reducible refine' de_cons ?_ ?_
  | with_reducible refine' de_star ?_ ?_
  | with_reducible exact ae_nil
  | ((with_reducible refine' ae_raw ?hv ?_); case hv => rfl)
  | with_reducible refine' ae_cons ?_ ?_
  | with_reducible exact rv_addI
  | with_reducible refine' rv_addL ?_
  | with_reducible refine' rv_addT ?_
  | with_reducible refine' rv_addS ?_
  | with_reducible refine' rv_I0 (.int _)
  | with_reducible refine' rv_I0 (.bl _)
  | with_reducible refine' rv_eq ?_ ?_
  | with_reducible refine' rv_ne ?_ ?_
  | with_reducible exact rv_isN
  | with_reducible exact rv_notN
  | with_reducible refine' rv_ixL ?_
  | with_reducible refine' rv_ixT ?_
  | with_reducible exact sv_L
  | with_reducible exact sv_T
  | with_reducible refine' sv_S ?_
  | with_reducible exact rc_lenL
  | with_reducible exact rc_lenT
  | with_reducible exact rc_tupL
  | with_reducible exact rc_tupT
  | with_reducible exact rc_int1
  | with_reducible exact rc_all
  | with_reducible exact rc_any
  | with_reducible refine' ie_list ?_
  | with_reducible refine' ie_tup ?_
  | with_reducible refine' ie_range1 ?_ ?_
  | with_reducible refine' ie_range2 ?_ ?_
  | with_reducible refine' ie_enum0 ?_
  | with_reducible refine' ie_enum1 ?_ ?_
  | with_reducible refine' ie_str ?_)
local macro_rules | `(tactic| tm_at "ev") => `(tactic| repeat' tm_at "one")
local macro_rules | `(tactic| tm_at "go") => `(tactic| dsimp only [padN, poOf, FSp.fn, nox_K, cx_K, List.set])
local macro_rules | `(tactic| tm_at "one") => `(tactic| first
  | with_reducible refine' ev_is_number ?_
  | with_reducible refine' ev_is_between ?_ ?_ ?_
  | with_reducible refine' ev_need_between ?_ ?_ ?_ ?_ ?_
  | with_reducible refine' ev_has_each ?_ ?_
  | with_reducible refine' ev_is_row ?_
  | with_reducible refine' ev_need_row ?_ ?_
  | with_reducible refine' ev_undone_told ?_ ?_
  | with_reducible refine' ev_undone_row ?_ ?_
  | with_reducible refine' ev_turned_row ?_ ?_
  | with_reducible refine' ev_upturned_row ?_ ?_
  | with_reducible refine' ev_standing_told ?_ ?_
  | with_reducible refine' ev_fits_on ?_ ?_ ?_ ?_ ?_
  | with_reducible refine' ev_places_told ?_ ?_ ?_
  | with_reducible refine' ev_holds_told ?_ ?_ ?_
  | with_reducible refine' ev_taken_out ?_ ?_ ?_
  | with_reducible refine' ev_has_mark ?_ ?_ ?_
  | with_reducible refine' ev_marks_told ?_ ?_
  | with_reducible refine' ev_marks_of ?_ ?_
  | with_reducible refine' ev_law_shape_of ?_ ?_
  | with_reducible refine' ev_law_lots ?_ ?_ ?_
  | with_reducible refine' ev_law_holds ?_ ?_ ?_
  | with_reducible refine' ev_law_marks ?_ ?_
  | with_reducible refine' ev_law_take ?_ ?_ ?_
  | with_reducible refine' ev_law_same ?_ ?_ ?_)
section
variable {P : Program} {w : World} {K : PySem.W.Frag} {mg : Str → Option Value} {base : Heap}
def sp_law (K : PySem.W.Frag) (P : Addr) : Sp := fun vs H Q _ => ∃ (a : Addr) (ns : List Int), vs = [.ref a] ∧ SqL K H a (ns.map .int) ∧ ns.length ≤ sizeLine ∧ H P = some (.tbl #[]) ∧ ∀ H', Q (.bl true) H'
def oddD : List PyData := [.none, .int 5, .tuple [], .list [.int 1, .int 2], .tuple [.int 1, .int 1], .tuple [.int 0, .int 1], .tuple [.int 1, .int 3], .tuple [.bool true], .str "12", .tuple [.int 1, .int 2, .int 3, .int 4, .int 5, .int 6, .int 7, .int 8, .int 9], .tuple [.int 2, .int 1, .none]]
theorem odd_rows : ∀ d ∈ oddD, isRowD d = false := fun d hd => by
  have h : oddD.all (fun d => !isRowD d) = true := by decide +kernel
  simpa using List.all_eq_true.mp h d hd
theorem ee_tupRg {P : Pm} {env : List Ent} {lo hi : Int} (hr : RgOk lo hi) : EEd P false (tTupRg (tRg2 (tC (.int lo)) (tC (.int hi)))) env (.tuple ((rngI lo (hi - lo).toNat).map .int)) := fun M ks H0 H σ S Q q => by
  refine ⟨lo, hi, rfl, rfl, hr, fun p hp => ?_⟩
  have e : rgV lo hi = (rngI lo (hi - lo).toNat).map V.int := by
    unfold rgV rngI
    rw [List.map_map]; rfl
  rw [e]
  exact q _ _ _ rfl (.of (same_new hp)) (S.is (same_new hp)) (.newT (S.mlb false) hp (dd_ints _))
theorem noTab_same {H H' : Hp} (e : Same H H') : Same (noTab H) (noTab H') := noTab_ext fun b o h _ => e b o h
theorem best_marks : marksS [3, 4, 1, 2] = (["one", "corner", "line", "regions"] : List Str) := by decide +kernel
theorem best_row : RowOk [3, 4, 1, 2] := ⟨by decide, by decide, by decide, by decide⟩
theorem un_at {n : Nat} {i : Nat} {e : Ent} (h : (List.replicate n Ent.un)[i]? = some e) : e = .un := by
  have := List.mem_of_getElem? h
  rw [List.mem_replicate] at this
  exact this.2
theorem stt_blank {K : PySem.W.Frag} {H : Hp} {σ : L2.St} {n : Nat} (len : σ.length = n) : Stt (.pure K) (fun _ => False) [] H H σ (List.replicate n .un) := by
  refine ⟨.refl _ _, trivial, (fun _ h => by cases h), fun _ h => h.elim, (by rw [len, List.length_replicate]), fun i v e _ h => ?_, (fun _ h => by cases h), fun i j e f b h _ h3 _ => ?_⟩
  · rw [un_at h]
    cases v <;> trivial
  · rw [un_at h] at h3
    cases h3
theorem ok_law (T : Tx w K mg) {c P1 : Addr} (hc : T.fd_law.code = .ref c) (TB : LamX.TabB base mg c P1) : FnG P w K mg base 9 T.a_law T.fd_law ["script"] (sp_law K P1) := by
  refine fnG_of T.F_law sc_law (fun vs H Q E ⟨a, ns, e, _⟩ => by rw [e]; rfl) fun cdv A outer s H vs Q E hfd hG hr ⟨a, ns, e, sq, hz, ht, q⟩ => ⟨_, (pss_cons (ps_set (i := 1) sc_law.nd rfl (Or.inl rfl) (pe_call (ok__law_begun T) (hr.mono (by decide)) (by rfl) T.g__law_begun T.F__law_begun.kp T.b__law_begun .nil pass0 (pa_cons (pv 0) pa_nil))) (pss_cons (ps_set (i := 2) sc_law.nd rfl (Or.inl rfl) (pe_tup (pa_cons pe_str (pa_cons pe_str (pa_cons pe_str (pa_cons pe_str (pa_cons pe_str (pa_cons pe_str pa_nil)))))))) (pss_cons (ps_if (pt_not (pt_val (pe_callG (ok__law_same T) hG (hr.mono (by decide)) (by rfl) T.g__law_same T.F__law_same.kp T.b__law_same (pa_cons (pe_call0 (ok_mark_words T) (hr.mono (by decide)) (by rfl) T.g_mark_words T.F_mark_words.kp T.b_mark_words .nil pass0) (pa_cons (pv 2) pa_nil))))) (pss_one (ps_ret pe_bl)) pss_nil) (pss_cons (ps_for PassesOwn.never rfl (pi_range1 rfl T.z_range (pa_cons (pe_op (k_add (K := K) rfl) pe_int (pe_callB (call_min2 rfl) (by rfl) T.z_min bt_min (pa_cons (pe_callB (k_len (K := K) rfl) (by rfl) T.z_len bt_len (pa_cons (pv 0) pa_nil)) (pa_cons pe_int pa_nil)))) pa_nil)) (pg_name (i := 3) sc_law.nd rfl (Or.inl rfl)) (pss_one (ps_if (pt_not (pt_val (pe_callG (ok__law_one_right T) hG (hr.mono (by decide)) (by rfl) T.g__law_one_right T.F__law_one_right.kp T.b__law_one_right (pa_cons (pv 1) pa_nil)))) (pss_one (ps_ret pe_bl)) pss_nil))) (pss_cons (ps_for PassesOwn.never rfl (k_seq (K := K) rfl (pe_lst (pa_cons pe_non (pa_cons pe_int (pa_cons (pe_tup pa_nil) (pa_cons (pe_lst (pa_cons pe_int (pa_cons pe_int pa_nil))) (pa_cons (pe_tup (pa_cons pe_int (pa_cons pe_int pa_nil))) (pa_cons (pe_tup (pa_cons pe_int (pa_cons pe_int pa_nil))) (pa_cons (pe_tup (pa_cons pe_int (pa_cons pe_int pa_nil))) (pa_cons (pe_tup (pa_cons pe_bl pa_nil)) (pa_cons pe_str (pa_cons (pe_tupRg rfl (by rfl) T.z_tuple (prg_2 (by rfl) T.z_range pe_int pe_int)) (pa_cons (pe_tup (pa_cons pe_int (pa_cons pe_int (pa_cons pe_non pa_nil)))) pa_nil))))))))))))) (pg_name (i := 4) sc_law.nd rfl (Or.inr rfl)) (pss_one (ps_if (pt_not (pt_val (pe_callB (k_isK (K := K) rfl) (by rfl) T.z_isinstance bt_isinstance (pa_cons (pe_keepcall (k := 6) T.F__law_caught sc__law_caught (by rfl) T.g__law_caught T.b__law_caught (.inl rfl) (fun cdv => keep_gives sc__law_caught rfl rfl (by decide) (by decide) (by decide) (by decide) rfl T.g_SwapError (by decide)) TB (hfd.symm.trans hc) (hr.mono (by decide)) (by kernel_rfl) (fun A outer s H E f c' hr2 => (pe_call (ok_marks_of T) hr2 (by rfl) T.g_marks_of T.F_marks_of.kp T.b_marks_of .nil (passes_call (takes_of rfl rfl rfl rfl) (fun _ _ _ _ h => h)) (pa_cons (pv 4) pa_nil)))) (pa_cons (pe_glob (v := .ref T.c_BadRow) (by rfl) T.g_BadRow rfl) pa_nil))))) (pss_one (ps_ret pe_bl)) pss_nil))) (pss_one (ps_ret (pe_cmpR (k_eq (K := K) rfl hr.units) (pe_call (ok_marks_of T) (hr.mono (by decide)) (by rfl) T.g_marks_of T.F_marks_of.kp T.b_marks_of .nil passL (pa_cons (pe_tup (pa_cons pe_int (pa_cons pe_int (pa_cons pe_int (pa_cons pe_int pa_nil))))) pa_nil)) (pe_tup (pa_cons pe_str (pa_cons pe_str (pa_cons pe_str (pa_cons pe_str pa_nil))))) (nomark _))))))))), ?_⟩
  subst e
  have z1 : ∀ n, n ≤ 100 → n ≤ sizeLine := fun n h => by rw [sizeLine_eq]; omega
  refine ⟨.ref a, rfl, a, ns, rfl, sq, hz, fun d l cc cs bs H1 hd hl hcn ne dr sm => ?_⟩
  have i1 : DrawI d l cc cs H1 := ⟨ne, bs, 0, 0, dr⟩
  have S1 : Stt (pmD K (d, l, cc, cs)) (fun x => x ∈ [d, l, cc]) [] H1 H1 (L2.start ["script", "draw", "words", "lap", "odd"] [.ref a, .ref d]) [.raw (.ref a), .raw (.ref d), .un, .un, .un] := start_ok (P := pmD K (d, l, cc, cs)) (N := ["script", "draw", "words", "lap", "odd"]) (vs := [.ref a, .ref d]) (as := [.raw (.ref a), .raw (.ref d)]) (fun _ h => h) (fun x h => (pmD K (d, l, cc, cs)).live H1 x i1 h) i1 (.cons (.raw _) (.cons (.raw _) .nil))
  have ht1 : H1 P1 = some (.tbl #[]) := sm _ _ ht
  have hPd : P1 ∉ [d, l, cc] := fun h => by
    rcases List.mem_cons.mp h with rfl | h
    · rw [hd] at ht; cases ht
    · rcases List.mem_cons.mp h with rfl | h
      · rw [hl] at ht; cases ht
      · rw [List.mem_singleton.mp h, hcn] at ht; cases ht
  have s2 : ∀ E, SEv (pmD K (d, l, cc, cs)) E (tAsg (tTup (tCons (tC (.str "one")) (tCons (tC (.str "corner")) (tCons (tC (.str "line")) (tCons (tC (.str "smooth")) (tCons (tC (.str "cube")) (tCons (tC (.str "regions")) tNil))))))) (gName 2)) [.raw (.ref a), .raw (.ref d), .un, .un, .un] { N := fun e => e = [.raw (.ref a), .raw (.ref d), .d wordsD, .un, .un], R := fun _ => False } := fun E => by
    refine se_asg (x := .tuple [.str "one", .str "corner", .str "line", .str "smooth", .str "cube", .str "regions"]) ?_ rfl
    tm_at "ev"
    all_goals (refine z1 _ ?_; exact Nat.le_of_ble_eq_true rfl)
  refine s2 E0 _ [] H1 H1 _ _ S1 ⟨fun σ2 H2 env2 hn S2 => ?_, fun _ _ _ h => h.elim, fun _ _ _ h => h.elim, fun _ _ _ h => h.elim, fun _ _ _ _ h => h.elim⟩
  subst hn
  have s3 : ∀ E, SEv (pmD K (d, l, cc, cs)) E (tIfS (tNot (tB (tCall (SpF (.pure K) sp_law_same) [] E0 (tCons (tCall (SpF (.pure K) sp_mark_words) [] E0 tNil) (tCons (tVar 2) tNil))))) (tRet (tC (.bl false))) tNext) [.raw (.ref a), .raw (.ref d), .d wordsD, .un, .un] { N := fun e => e = [.raw (.ref a), .raw (.ref d), .d wordsD, .un, .un], R := fun _ => False } := fun E =>
    se_if (k := false) (te_not (te_B (ev_law_same (d := wordsD) (ee_fn0 (args := fun _ : Unit => []) () ae_nil trivial) (ee_var rfl) ⟨words_show.2.1, words_show.1, words_show.2.2⟩))) (fun h => nomatch h) (fun _ => se_next rfl)
  refine s3 E0 _ [] H1 H2 _ _ S2 ⟨fun σ3 H3 env3 hn S3 => ?_, fun _ _ _ h => h.elim, fun _ _ _ h => h.elim, fun _ _ _ h => h.elim, fun _ _ _ _ h => h.elim⟩
  subst hn
  have sq3 : SqL K H3 a (ns.map .int) := by
    rcases sq with (h | ⟨o, h⟩) | h
    · exact .inl (.inl (S3.ex a _ (fun z => by
        rcases List.mem_cons.mp z with rfl | z
        · rw [hd] at h; cases h
        · rcases List.mem_cons.mp z with rfl | z
          · rw [hl] at h; cases h
          · rw [List.mem_singleton.mp z, hcn] at h; cases h) (sm _ _ h)))
    · exact .inl (.inr ⟨o, S3.ex a _ (fun z => by
        rcases List.mem_cons.mp z with rfl | z
        · rw [hd] at h; cases h
        · rcases List.mem_cons.mp z with rfl | z
          · rw [hl] at h; cases h
          · rw [List.mem_singleton.mp z, hcn] at h; cases h) (sm _ _ h)⟩)
    · exact .inr h
  refine ⟨.ref a, S3.raw_at rfl, .ref a, _, rfl, .inl ⟨_, sq3, rfl⟩, _, _, rfl, .inl ⟨5, _, rfl, rfl, _, rfl, ?_, ?_, ?_⟩⟩
  · split <;> omega
  · split
    · omega
    · rename_i h
      omega
  refine for_heart (E := E0) (po := { N := fun e => ∃ p, e = [.raw (.ref a), .raw (.ref d), .d wordsD, p, .un], R := fun _ => False }) S3 ⟨fun σ4 H4 env4 hn S4 => ?_, fun _ _ _ h => h.elim, fun _ _ _ h => h.elim, fun _ _ _ h => h.elim, fun _ _ _ _ h => h.elim⟩ (iter_range (K := K)) (fun _ e => ∃ p, e = [.raw (.ref a), .raw (.ref d), .d wordsD, p, .un]) (fun _ _ _ _ _ _ q hq => nomatch hq) ⟨_, rfl⟩ ?_ fun _ h => h
  · obtain ⟨p4, rfl⟩ := hn
    have hP4 : H4 P1 = some (.tbl #[]) := S4.ex _ _ hPd ht1
    have hE : EEd (pmD K (d, l, cc, cs)) false (tLst (tCons (tC V.non) (tCons (tC (V.int 5)) (tCons (tTup tNil) (tCons (tLst (tCons (tC (V.int 1)) (tCons (tC (V.int 2)) tNil))) (tCons (tTup (tCons (tC (V.int 1)) (tCons (tC (V.int 1)) tNil))) (tCons (tTup (tCons (tC (V.int 0)) (tCons (tC (V.int 1)) tNil))) (tCons (tTup (tCons (tC (V.int 1)) (tCons (tC (V.int 3)) tNil))) (tCons (tTup (tCons (tC (V.bl true)) tNil)) (tCons (tC (V.str "12")) (tCons (tTupRg (tRg2 (tC (V.int 1)) (tC (V.int 10)))) (tCons (tTup (tCons (tC (V.int 2)) (tCons (tC (V.int 1)) (tCons (tC V.non) tNil)))) tNil)))))))))))) [.raw (.ref a), .raw (.ref d), .d wordsD, p4, .un] (.list oddD) := by
      have hr : EEd (pmD K (d, l, cc, cs)) false (tTupRg (tRg2 (tC (V.int 1)) (tC (V.int 10)))) [.raw (.ref a), .raw (.ref d), .d wordsD, p4, .un] (.tuple [.int 1, .int 2, .int 3, .int 4, .int 5, .int 6, .int 7, .int 8, .int 9]) := ee_tupRg (lo := 1) (hi := 10) (by unfold RgOk; omega)
      unfold oddD
      refine LEv.eed (le_lst (de_cons ee_non (de_cons ee_int (de_cons ?_ (de_cons ?_ (de_cons ?_ (de_cons ?_ (de_cons ?_ (de_cons ?_ (de_cons ee_str (de_cons hr (de_cons ?_ de_nil))))))))))) (z1 _ (Nat.le_of_ble_eq_true rfl)))
      all_goals tm_at "ev"
      all_goals (refine z1 _ ?_; exact Nat.le_of_ble_eq_true rfl)
    refine .inl (hE _ [] H1 H4 σ4 S4 _ fun v y H5 hy e5 i5 d5 => ?_)
    subst hy
    cases d5 with
    | lst g5 a5 =>
    rename_i q5 vs5
    refine ⟨q5, rfl, ⟨_, SqL.of (mk_out g5).2⟩, ?_⟩
    have a5' : DdA K (noTab H5) vs5 oddD := DdA.noTab (a5.mono (mk_same _ _))
    have hP5 : H5 P1 = some (.tbl #[]) := e5 _ _ hPd hP4
    refine for_it (walk_gL (n := 11)) (fun _ σ' H' => σ'.length = 5 ∧ LamX.Tabs [(P1, ("law.<locals>." : Str) ++ "<lambda>")] H' ∧ ∃ vs, noTab H' q5 = some (.lst vs) ∧ DdA K (noTab H') vs oddD) ⟨S4.len, ?_, vs5, noTab_at (mk_out g5).2 (fun _ e => nomatch e), a5'⟩ (fun i σ' H' _ ⟨_, _, vs, g, dd⟩ => ⟨vs, SqL.of (noTab_out g).1, by rw [dd.length]; rfl⟩) ?_ ?_
    · intro q hq
      rw [List.mem_singleton.mp hq]
      exact LamX.TabS.nil hP5
    · rintro i x σ' H' H'' hi ⟨len, tabs, vs, g, dd⟩ ⟨rfl, hv⟩
      have hx := hv _ (SqL.of (noTab_out g).1)
      obtain ⟨item, hit, dx⟩ := dd.get hx
      have hno := odd_rows item (List.mem_of_getElem? hit)
      refine ⟨tabs, fun H2 ext tabs2 => ?_⟩
      refine ⟨x, by rw [List.getElem?_set]; simp [len], fun _ => False, item, (fun _ h => by cases h), (fun _ h => h.elim), trivial, .cons (.d ?_) .nil, trivial, fun v z H3 hp _ _ _ => absurd hp.1 (by rw [hno]; simp), ?_⟩
      · exact (dx.mono (noTab_ext ext)).mono fun b o h => mk_of (fun h => h) (noTab_out h).1
      · rintro C fs dd2 H3 ⟨_, rfl, rfl⟩ e3 _ xd
        have xd : dd2 = none := xd
        subst xd
        refine ⟨T.m_BadRow, fun ae un => ?_⟩
        refine ⟨ae, T.c_BadRow, T.c_BadRow, true, rfl, upd_same, T.e_BadRow, T.k_BadRow, true, rfl, ?_⟩
        have s23 : Same H2 (upd H3 ae (ExK (.ref T.c_BadRow) none ae)) := fun b o h => by
          have h3 := e3.nil b o h
          rw [upd_ne (fun z => by rw [z, un] at h3; cases h3)]
          exact h3
        have big : Same (noTab H'') (noTab (upd H3 ae (ExK (.ref T.c_BadRow) none ae))) := fun b o h => noTab_same s23 b o (noTab_ext ext b o h)
        exact ⟨by rw [List.length_set]; exact len, tabs2.ext s23, vs, big _ _ g, dd.mono big⟩
    · rintro σ6 H6 ⟨len6, _, _⟩
      have S6 : Stt (.pure K) (fun _ => False) [] H6 H6 σ6 [.un, .un, .un, .un, .un] := stt_blank len6
      have h6 : EEd (.pure K) false (tOp (rEqD K) (tCall (SpF (.pure K) (sp_marks_of T.c_BadRow)) [] E0 (tCons (tTup (tCons (tC (V.int 3)) (tCons (tC (V.int 4)) (tCons (tC (V.int 1)) (tCons (tC (V.int 2)) tNil))))) tNil)) (tTup (tCons (tC (V.str "one")) (tCons (tC (V.str "corner")) (tCons (tC (V.str "line")) (tCons (tC (V.str "regions")) tNil)))))) [.un, .un, .un, .un, .un] (.bool true) := by
        have e1 : EEd (.pure K) false (tTup (tCons (tC (V.int 3)) (tCons (tC (V.int 4)) (tCons (tC (V.int 1)) (tCons (tC (V.int 2)) tNil))))) [.un, .un, .un, .un, .un] (tuI [3, 4, 1, 2]) := by
          dsimp only [tuI, List.map]
          tm_at "ev"
          all_goals (refine z1 _ ?_; exact Nat.le_of_ble_eq_true rfl)
        have e2 : EEd (.pure K) false (tTup (tCons (tC (V.str "one")) (tCons (tC (V.str "corner")) (tCons (tC (V.str "line")) (tCons (tC (V.str "regions")) tNil))))) [.un, .un, .un, .un, .un] (marksD [3, 4, 1, 2]) := by
          unfold marksD
          rw [best_marks]
          dsimp only [List.map]
          tm_at "ev"
          all_goals (refine z1 _ ?_; exact Nat.le_of_ble_eq_true rfl)
        refine EEv.is (ee_opE (ev_marks_of (C := T.c_BadRow) e1 best_row) e2 ⟨(marks_shaped _).1, (marks_shaped _).1⟩) ?_
        rw [eqv_tss]
        simp
      refine h6 _ [] H6 H6 σ6 S6 _ fun v y H7 hy _ _ d7 => ?_
      subst hy
      cases d7
      exact q H7
  · rintro i x env' hx ⟨p, rfl⟩
    refine turn1 ?_
    exact se_if (k := false) (te_not (te_B (ee_callI (pm := pmD K) (F := sp_law_one_right) (b := false) (d, l, cc, cs) () (ae_raw rfl ae_nil) trivial fun _ _ h => h))) (fun h => nomatch h) (fun _ => se_next ⟨_, rfl⟩)

end
end K71
namespace K71
open Fw PySem PySem.Spec PyProof.Rows L2
def d_is_number : He.DefD := ⟨("is_number", none), "is_number", "is_number", defArgs s_is_number, defBody s_is_number, defScope s_is_number, [], []⟩
def d_is_between : He.DefD := ⟨("is_between", none), "is_between", "is_between", defArgs s_is_between, defBody s_is_between, defScope s_is_between, [], []⟩
def d_need_between : He.DefD := ⟨("need_between", none), "need_between", "need_between", defArgs s_need_between, defBody s_need_between, defScope s_need_between, [], []⟩
def d_has_each : He.DefD := ⟨("has_each", none), "has_each", "has_each", defArgs s_has_each, defBody s_has_each, defScope s_has_each, [], []⟩
def d_is_row : He.DefD := ⟨("is_row", none), "is_row", "is_row", defArgs s_is_row, defBody s_is_row, defScope s_is_row, [], []⟩
def d_need_row : He.DefD := ⟨("need_row", none), "need_row", "need_row", defArgs s_need_row, defBody s_need_row, defScope s_need_row, [], []⟩
def d_undone_told : He.DefD := ⟨("undone_told", none), "undone_told", "undone_told", defArgs s_undone_told, defBody s_undone_told, defScope s_undone_told, [], []⟩
def d_undone_row : He.DefD := ⟨("undone_row", none), "undone_row", "undone_row", defArgs s_undone_row, defBody s_undone_row, defScope s_undone_row, [], []⟩
def d_turned_row : He.DefD := ⟨("turned_row", none), "turned_row", "turned_row", defArgs s_turned_row, defBody s_turned_row, defScope s_turned_row, [], []⟩
def d_upturned_row : He.DefD := ⟨("upturned_row", none), "upturned_row", "upturned_row", defArgs s_upturned_row, defBody s_upturned_row, defScope s_upturned_row, [], []⟩
def d_standing_told : He.DefD := ⟨("standing_told", none), "standing_told", "standing_told", defArgs s_standing_told, defBody s_standing_told, defScope s_standing_told, [], []⟩
def d_fits_on : He.DefD := ⟨("fits_on", none), "fits_on", "fits_on", defArgs s_fits_on, defBody s_fits_on, defScope s_fits_on, [], []⟩
def d_places_told : He.DefD := ⟨("places_told", none), "places_told", "places_told", defArgs s_places_told, defBody s_places_told, defScope s_places_told, [], []⟩
def d_holds_told : He.DefD := ⟨("holds_told", none), "holds_told", "holds_told", defArgs s_holds_told, defBody s_holds_told, defScope s_holds_told, [], []⟩
def d_taken_out : He.DefD := ⟨("taken_out", none), "taken_out", "taken_out", defArgs s_taken_out, defBody s_taken_out, defScope s_taken_out, [], []⟩
def d_mark_words : He.DefD := ⟨("mark_words", none), "mark_words", "mark_words", defArgs s_mark_words, defBody s_mark_words, defScope s_mark_words, [], []⟩
def d_has_mark : He.DefD := ⟨("has_mark", none), "has_mark", "has_mark", defArgs s_has_mark, defBody s_has_mark, defScope s_has_mark, [], []⟩
def d_marks_told : He.DefD := ⟨("marks_told", none), "marks_told", "marks_told", defArgs s_marks_told, defBody s_marks_told, defScope s_marks_told, [], []⟩
def d_marks_of : He.DefD := ⟨("marks_of", none), "marks_of", "marks_of", defArgs s_marks_of, defBody s_marks_of, defScope s_marks_of, [], []⟩
def d__law_begun : He.DefD := ⟨("_law_begun", none), "_law_begun", "_law_begun", defArgs s__law_begun, defBody s__law_begun, defScope s__law_begun, [], []⟩
def d__law_blend : He.DefD := ⟨("_law_blend", none), "_law_blend", "_law_blend", defArgs s__law_blend, defBody s__law_blend, defScope s__law_blend, [], []⟩
def d__law_take : He.DefD := ⟨("_law_take", none), "_law_take", "_law_take", defArgs s__law_take, defBody s__law_take, defScope s__law_take, [], []⟩
def d__law_pick : He.DefD := ⟨("_law_pick", none), "_law_pick", "_law_pick", defArgs s__law_pick, defBody s__law_pick, defScope s__law_pick, [], []⟩
def d__law_shuffled : He.DefD := ⟨("_law_shuffled", none), "_law_shuffled", "_law_shuffled", defArgs s__law_shuffled, defBody s__law_shuffled, defScope s__law_shuffled, [], []⟩
def d__law_caught : He.DefD := ⟨("_law_caught", none), "_law_caught", "_law_caught", defArgs s__law_caught, defBody s__law_caught, defScope s__law_caught, [], []⟩
def d__law_row : He.DefD := ⟨("_law_row", none), "_law_row", "_law_row", defArgs s__law_row, defBody s__law_row, defScope s__law_row, [], []⟩
def d__law_shape_of : He.DefD := ⟨("_law_shape_of", none), "_law_shape_of", "_law_shape_of", defArgs s__law_shape_of, defBody s__law_shape_of, defScope s__law_shape_of, [], []⟩
def d__law_lots : He.DefD := ⟨("_law_lots", none), "_law_lots", "_law_lots", defArgs s__law_lots, defBody s__law_lots, defScope s__law_lots, [], []⟩
def d__law_holds : He.DefD := ⟨("_law_holds", none), "_law_holds", "_law_holds", defArgs s__law_holds, defBody s__law_holds, defScope s__law_holds, [], []⟩
def d__law_marks : He.DefD := ⟨("_law_marks", none), "_law_marks", "_law_marks", defArgs s__law_marks, defBody s__law_marks, defScope s__law_marks, [], []⟩
def d__law_same : He.DefD := ⟨("_law_same", none), "_law_same", "_law_same", defArgs s__law_same, defBody s__law_same, defScope s__law_same, [], []⟩
def d__law_wider : He.DefD := ⟨("_law_wider", none), "_law_wider", "_law_wider", defArgs s__law_wider, defBody s__law_wider, defScope s__law_wider, [], []⟩
def d__law_some_row : He.DefD := ⟨("_law_some_row", none), "_law_some_row", "_law_some_row", defArgs s__law_some_row, defBody s__law_some_row, defScope s__law_some_row, [], []⟩
def d__law_one_right : He.DefD := ⟨("_law_one_right", none), "_law_one_right", "_law_one_right", defArgs s__law_one_right, defBody s__law_one_right, defScope s__law_one_right, [], []⟩
def d_law : He.DefD := ⟨("law", none), "law", "law", defArgs s_law, defBody s_law, defScope s_law, [], []⟩
def fnL : List He.DefD := [d_is_number, d_is_between, d_need_between, d_has_each, d_is_row, d_need_row, d_undone_told, d_undone_row, d_turned_row, d_upturned_row, d_standing_told, d_fits_on, d_places_told, d_holds_told, d_taken_out, d_mark_words, d_has_mark, d_marks_told, d_marks_of, d__law_begun, d__law_blend, d__law_take, d__law_pick, d__law_shuffled, d__law_caught, d__law_row, d__law_shape_of, d__law_lots, d__law_holds, d__law_marks, d__law_same, d__law_wider, d__law_some_row, d__law_one_right, d_law]
def faL : List He.Fa := [.glo "is_number", .glo "is_between", .glo "need_between", .glo "has_each", .glo "is_row", .glo "need_row", .glo "undone_told", .glo "undone_row", .glo "turned_row", .glo "upturned_row", .glo "standing_told", .glo "fits_on", .glo "places_told", .glo "holds_told", .glo "taken_out", .glo "mark_words", .glo "has_mark", .glo "marks_told", .glo "marks_of", .glo "_law_begun", .glo "_law_blend", .glo "_law_take", .glo "_law_pick", .glo "_law_shuffled", .glo "_law_caught", .glo "_law_row", .glo "_law_shape_of", .glo "_law_lots", .glo "_law_holds", .glo "_law_marks", .glo "_law_same", .glo "_law_wider", .glo "_law_some_row", .glo "_law_one_right", .glo "law", .free "abs", .free "all", .free "any", .free "bool", .free "dict", .free "enumerate", .free "int", .free "isinstance", .free "len", .free "list", .free "min", .free "range", .free "repr", .free "set", .free "tuple", .int "MOST_SEATS" 8, .glo "MARKS", .glo "SHUNNED", .glo "BadRow", .glo "SwapError", .exc "BadRow", .exm "BadRow" "SwapError" true]
def tsL : List He.Tab := [(fun K => He.ga K "SHUNNED", shunZ.map fun q => q.1)]
def tfL : List He.Defn := [("law", none)]
def exL (K : PySem.W.Frag) : Bool := gloB K "MARKS" wordsD && (tabB K (He.ga K "SHUNNED") shunD && excB K (He.ga K "BadRow"))
abbrev RL : PySem.W.OpenRow := PySem.W.OpenLaw.row PySem.Challenge.rw_leastswaps_k71_whole_marks
abbrev hkL : PySem.W.Hook := He.hookX 8 faL fnL tsL tfL exL
def obL (s : PySem.W.SharedT) : He.AlX := He.obsX 8 faL fnL tsL tfL exL (HandSHeadRun.getT s)
theorem obL_eq (s : PySem.W.SharedT) : obL s = hkL.obs s.abs := He.obsX_eq (HandSHeadRun.getT_eq s)
def nm0 : List PySem.Str := ["__name__", "SwapError", "BadNumber", "BadRow", "is_number", "is_between", "need_between", "MOST_SEATS", "has_each", "is_row", "need_row", "undone_told", "undone_row", "turned_row", "upturned_row", "standing_told", "fits_on", "places_told", "holds_told", "taken_out", "MARKS", "SHUNNED", "mark_words", "has_mark", "marks_told", "marks_of", "_law_begun", "_law_blend", "_law_take", "_law_pick"]
def nm1 : List PySem.Str := ["_law_shuffled", "_law_caught", "_law_row", "_law_shape_of", "_law_lots", "_law_holds", "_law_marks", "_law_same", "_law_wider", "_law_some_row", "_law_one_right"]
def nmL : List PySem.Str := nm0 ++ nm1
abbrev qL : Program := PySem.W.view RL.prog [46]
theorem runL_false (w : World) : HandSHeadRun.RunEq RL qL hkL obL 3000 nmL (w.withFollow "special-get-raises" false) := by
  intro os
  kernel_rfl
theorem runL_true (w : World) : HandSHeadRun.RunEq RL qL hkL obL 3000 nmL (w.withFollow "special-get-raises" true) := by
  intro os
  kernel_rfl
theorem runL (w : World) : HandSHeadRun.RunEq RL qL hkL obL 3000 nmL w := PySem.W.byRow2 "special-get-raises" runL_false runL_true w
theorem tx_of {w : World} {K : PySem.W.Frag} {h : Heap} {mg : Str → Option Value} (X : K.In h) (G : h.Ns mainGlobals mg) (c : He.SaysX faL fnL tsL tfL exL w h K) : ∃ T : Tx w K mg, T.a_law = He.ga K "law" := by
  obtain ⟨e_is_number, f_is_number⟩ := c.t.d.def_ 0 (d := d_is_number) rfl
  obtain ⟨fd_is_number, F_is_number⟩ := fun_of (st := s_is_number) f_is_number
  obtain ⟨e_is_between, f_is_between⟩ := c.t.d.def_ 1 (d := d_is_between) rfl
  obtain ⟨fd_is_between, F_is_between⟩ := fun_of (st := s_is_between) f_is_between
  obtain ⟨e_need_between, f_need_between⟩ := c.t.d.def_ 2 (d := d_need_between) rfl
  obtain ⟨fd_need_between, F_need_between⟩ := fun_of (st := s_need_between) f_need_between
  obtain ⟨e_has_each, f_has_each⟩ := c.t.d.def_ 3 (d := d_has_each) rfl
  obtain ⟨fd_has_each, F_has_each⟩ := fun_of (st := s_has_each) f_has_each
  obtain ⟨e_is_row, f_is_row⟩ := c.t.d.def_ 4 (d := d_is_row) rfl
  obtain ⟨fd_is_row, F_is_row⟩ := fun_of (st := s_is_row) f_is_row
  obtain ⟨e_need_row, f_need_row⟩ := c.t.d.def_ 5 (d := d_need_row) rfl
  obtain ⟨fd_need_row, F_need_row⟩ := fun_of (st := s_need_row) f_need_row
  obtain ⟨e_undone_told, f_undone_told⟩ := c.t.d.def_ 6 (d := d_undone_told) rfl
  obtain ⟨fd_undone_told, F_undone_told⟩ := fun_of (st := s_undone_told) f_undone_told
  obtain ⟨e_undone_row, f_undone_row⟩ := c.t.d.def_ 7 (d := d_undone_row) rfl
  obtain ⟨fd_undone_row, F_undone_row⟩ := fun_of (st := s_undone_row) f_undone_row
  obtain ⟨e_turned_row, f_turned_row⟩ := c.t.d.def_ 8 (d := d_turned_row) rfl
  obtain ⟨fd_turned_row, F_turned_row⟩ := fun_of (st := s_turned_row) f_turned_row
  obtain ⟨e_upturned_row, f_upturned_row⟩ := c.t.d.def_ 9 (d := d_upturned_row) rfl
  obtain ⟨fd_upturned_row, F_upturned_row⟩ := fun_of (st := s_upturned_row) f_upturned_row
  obtain ⟨e_standing_told, f_standing_told⟩ := c.t.d.def_ 10 (d := d_standing_told) rfl
  obtain ⟨fd_standing_told, F_standing_told⟩ := fun_of (st := s_standing_told) f_standing_told
  obtain ⟨e_fits_on, f_fits_on⟩ := c.t.d.def_ 11 (d := d_fits_on) rfl
  obtain ⟨fd_fits_on, F_fits_on⟩ := fun_of (st := s_fits_on) f_fits_on
  obtain ⟨e_places_told, f_places_told⟩ := c.t.d.def_ 12 (d := d_places_told) rfl
  obtain ⟨fd_places_told, F_places_told⟩ := fun_of (st := s_places_told) f_places_told
  obtain ⟨e_holds_told, f_holds_told⟩ := c.t.d.def_ 13 (d := d_holds_told) rfl
  obtain ⟨fd_holds_told, F_holds_told⟩ := fun_of (st := s_holds_told) f_holds_told
  obtain ⟨e_taken_out, f_taken_out⟩ := c.t.d.def_ 14 (d := d_taken_out) rfl
  obtain ⟨fd_taken_out, F_taken_out⟩ := fun_of (st := s_taken_out) f_taken_out
  obtain ⟨e_mark_words, f_mark_words⟩ := c.t.d.def_ 15 (d := d_mark_words) rfl
  obtain ⟨fd_mark_words, F_mark_words⟩ := fun_of (st := s_mark_words) f_mark_words
  obtain ⟨e_has_mark, f_has_mark⟩ := c.t.d.def_ 16 (d := d_has_mark) rfl
  obtain ⟨fd_has_mark, F_has_mark⟩ := fun_of (st := s_has_mark) f_has_mark
  obtain ⟨e_marks_told, f_marks_told⟩ := c.t.d.def_ 17 (d := d_marks_told) rfl
  obtain ⟨fd_marks_told, F_marks_told⟩ := fun_of (st := s_marks_told) f_marks_told
  obtain ⟨e_marks_of, f_marks_of⟩ := c.t.d.def_ 18 (d := d_marks_of) rfl
  obtain ⟨fd_marks_of, F_marks_of⟩ := fun_of (st := s_marks_of) f_marks_of
  obtain ⟨e__law_begun, f__law_begun⟩ := c.t.d.def_ 19 (d := d__law_begun) rfl
  obtain ⟨fd__law_begun, F__law_begun⟩ := fun_of (st := s__law_begun) f__law_begun
  obtain ⟨e__law_blend, f__law_blend⟩ := c.t.d.def_ 20 (d := d__law_blend) rfl
  obtain ⟨fd__law_blend, F__law_blend⟩ := fun_of (st := s__law_blend) f__law_blend
  obtain ⟨e__law_take, f__law_take⟩ := c.t.d.def_ 21 (d := d__law_take) rfl
  obtain ⟨fd__law_take, F__law_take⟩ := fun_of (st := s__law_take) f__law_take
  obtain ⟨e__law_pick, f__law_pick⟩ := c.t.d.def_ 22 (d := d__law_pick) rfl
  obtain ⟨fd__law_pick, F__law_pick⟩ := fun_of (st := s__law_pick) f__law_pick
  obtain ⟨e__law_shuffled, f__law_shuffled⟩ := c.t.d.def_ 23 (d := d__law_shuffled) rfl
  obtain ⟨fd__law_shuffled, F__law_shuffled⟩ := fun_of (st := s__law_shuffled) f__law_shuffled
  obtain ⟨e__law_caught, f__law_caught⟩ := c.t.d.def_ 24 (d := d__law_caught) rfl
  obtain ⟨fd__law_caught, F__law_caught⟩ := fun_of (st := s__law_caught) f__law_caught
  obtain ⟨e__law_row, f__law_row⟩ := c.t.d.def_ 25 (d := d__law_row) rfl
  obtain ⟨fd__law_row, F__law_row⟩ := fun_of (st := s__law_row) f__law_row
  obtain ⟨e__law_shape_of, f__law_shape_of⟩ := c.t.d.def_ 26 (d := d__law_shape_of) rfl
  obtain ⟨fd__law_shape_of, F__law_shape_of⟩ := fun_of (st := s__law_shape_of) f__law_shape_of
  obtain ⟨e__law_lots, f__law_lots⟩ := c.t.d.def_ 27 (d := d__law_lots) rfl
  obtain ⟨fd__law_lots, F__law_lots⟩ := fun_of (st := s__law_lots) f__law_lots
  obtain ⟨e__law_holds, f__law_holds⟩ := c.t.d.def_ 28 (d := d__law_holds) rfl
  obtain ⟨fd__law_holds, F__law_holds⟩ := fun_of (st := s__law_holds) f__law_holds
  obtain ⟨e__law_marks, f__law_marks⟩ := c.t.d.def_ 29 (d := d__law_marks) rfl
  obtain ⟨fd__law_marks, F__law_marks⟩ := fun_of (st := s__law_marks) f__law_marks
  obtain ⟨e__law_same, f__law_same⟩ := c.t.d.def_ 30 (d := d__law_same) rfl
  obtain ⟨fd__law_same, F__law_same⟩ := fun_of (st := s__law_same) f__law_same
  obtain ⟨e__law_wider, f__law_wider⟩ := c.t.d.def_ 31 (d := d__law_wider) rfl
  obtain ⟨fd__law_wider, F__law_wider⟩ := fun_of (st := s__law_wider) f__law_wider
  obtain ⟨e__law_some_row, f__law_some_row⟩ := c.t.d.def_ 32 (d := d__law_some_row) rfl
  obtain ⟨fd__law_some_row, F__law_some_row⟩ := fun_of (st := s__law_some_row) f__law_some_row
  obtain ⟨e__law_one_right, f__law_one_right⟩ := c.t.d.def_ 33 (d := d__law_one_right) rfl
  obtain ⟨fd__law_one_right, F__law_one_right⟩ := fun_of (st := s__law_one_right) f__law_one_right
  obtain ⟨e_law, f_law⟩ := c.t.d.def_ 34 (d := d_law) rfl
  obtain ⟨fd_law, F_law⟩ := fun_of (st := s_law) f_law
  obtain ⟨x1, x2⟩ := He.ba c.more
  obtain ⟨x3, x4⟩ := He.ba x2
  obtain ⟨x5, x6⟩ := excB_ok x4
  obtain ⟨y1, y2, y3, y4⟩ := He.exc_ok (c.t.d.fact 55 (f := .exc "BadRow") rfl)
  exact ⟨{ a_is_number := He.ga K "is_number", fd_is_number := fd_is_number, F_is_number := F_is_number, g_is_number := He.glo_ok X G (c.t.d.fact 0 (f := .glo "is_number") rfl), a_is_between := He.ga K "is_between", fd_is_between := fd_is_between, F_is_between := F_is_between, g_is_between := He.glo_ok X G (c.t.d.fact 1 (f := .glo "is_between") rfl), a_need_between := He.ga K "need_between", fd_need_between := fd_need_between, F_need_between := F_need_between, g_need_between := He.glo_ok X G (c.t.d.fact 2 (f := .glo "need_between") rfl), a_has_each := He.ga K "has_each", fd_has_each := fd_has_each, F_has_each := F_has_each, g_has_each := He.glo_ok X G (c.t.d.fact 3 (f := .glo "has_each") rfl), a_is_row := He.ga K "is_row", fd_is_row := fd_is_row, F_is_row := F_is_row, g_is_row := He.glo_ok X G (c.t.d.fact 4 (f := .glo "is_row") rfl), a_need_row := He.ga K "need_row", fd_need_row := fd_need_row, F_need_row := F_need_row, g_need_row := He.glo_ok X G (c.t.d.fact 5 (f := .glo "need_row") rfl), a_undone_told := He.ga K "undone_told", fd_undone_told := fd_undone_told, F_undone_told := F_undone_told, g_undone_told := He.glo_ok X G (c.t.d.fact 6 (f := .glo "undone_told") rfl), a_undone_row := He.ga K "undone_row", fd_undone_row := fd_undone_row, F_undone_row := F_undone_row, g_undone_row := He.glo_ok X G (c.t.d.fact 7 (f := .glo "undone_row") rfl), a_turned_row := He.ga K "turned_row", fd_turned_row := fd_turned_row, F_turned_row := F_turned_row, g_turned_row := He.glo_ok X G (c.t.d.fact 8 (f := .glo "turned_row") rfl), a_upturned_row := He.ga K "upturned_row", fd_upturned_row := fd_upturned_row, F_upturned_row := F_upturned_row, g_upturned_row := He.glo_ok X G (c.t.d.fact 9 (f := .glo "upturned_row") rfl), a_standing_told := He.ga K "standing_told", fd_standing_told := fd_standing_told, F_standing_told := F_standing_told, g_standing_told := He.glo_ok X G (c.t.d.fact 10 (f := .glo "standing_told") rfl), a_fits_on := He.ga K "fits_on", fd_fits_on := fd_fits_on, F_fits_on := F_fits_on, g_fits_on := He.glo_ok X G (c.t.d.fact 11 (f := .glo "fits_on") rfl), a_places_told := He.ga K "places_told", fd_places_told := fd_places_told, F_places_told := F_places_told, g_places_told := He.glo_ok X G (c.t.d.fact 12 (f := .glo "places_told") rfl), a_holds_told := He.ga K "holds_told", fd_holds_told := fd_holds_told, F_holds_told := F_holds_told, g_holds_told := He.glo_ok X G (c.t.d.fact 13 (f := .glo "holds_told") rfl), a_taken_out := He.ga K "taken_out", fd_taken_out := fd_taken_out, F_taken_out := F_taken_out, g_taken_out := He.glo_ok X G (c.t.d.fact 14 (f := .glo "taken_out") rfl), a_mark_words := He.ga K "mark_words", fd_mark_words := fd_mark_words, F_mark_words := F_mark_words, g_mark_words := He.glo_ok X G (c.t.d.fact 15 (f := .glo "mark_words") rfl), a_has_mark := He.ga K "has_mark", fd_has_mark := fd_has_mark, F_has_mark := F_has_mark, g_has_mark := He.glo_ok X G (c.t.d.fact 16 (f := .glo "has_mark") rfl), a_marks_told := He.ga K "marks_told", fd_marks_told := fd_marks_told, F_marks_told := F_marks_told, g_marks_told := He.glo_ok X G (c.t.d.fact 17 (f := .glo "marks_told") rfl), a_marks_of := He.ga K "marks_of", fd_marks_of := fd_marks_of, F_marks_of := F_marks_of, g_marks_of := He.glo_ok X G (c.t.d.fact 18 (f := .glo "marks_of") rfl), a__law_begun := He.ga K "_law_begun", fd__law_begun := fd__law_begun, F__law_begun := F__law_begun, g__law_begun := He.glo_ok X G (c.t.d.fact 19 (f := .glo "_law_begun") rfl), a__law_blend := He.ga K "_law_blend", fd__law_blend := fd__law_blend, F__law_blend := F__law_blend, g__law_blend := He.glo_ok X G (c.t.d.fact 20 (f := .glo "_law_blend") rfl), a__law_take := He.ga K "_law_take", fd__law_take := fd__law_take, F__law_take := F__law_take, g__law_take := He.glo_ok X G (c.t.d.fact 21 (f := .glo "_law_take") rfl), a__law_pick := He.ga K "_law_pick", fd__law_pick := fd__law_pick, F__law_pick := F__law_pick, g__law_pick := He.glo_ok X G (c.t.d.fact 22 (f := .glo "_law_pick") rfl), a__law_shuffled := He.ga K "_law_shuffled", fd__law_shuffled := fd__law_shuffled, F__law_shuffled := F__law_shuffled, g__law_shuffled := He.glo_ok X G (c.t.d.fact 23 (f := .glo "_law_shuffled") rfl), a__law_caught := He.ga K "_law_caught", fd__law_caught := fd__law_caught, F__law_caught := F__law_caught, g__law_caught := He.glo_ok X G (c.t.d.fact 24 (f := .glo "_law_caught") rfl), a__law_row := He.ga K "_law_row", fd__law_row := fd__law_row, F__law_row := F__law_row, g__law_row := He.glo_ok X G (c.t.d.fact 25 (f := .glo "_law_row") rfl), a__law_shape_of := He.ga K "_law_shape_of", fd__law_shape_of := fd__law_shape_of, F__law_shape_of := F__law_shape_of, g__law_shape_of := He.glo_ok X G (c.t.d.fact 26 (f := .glo "_law_shape_of") rfl), a__law_lots := He.ga K "_law_lots", fd__law_lots := fd__law_lots, F__law_lots := F__law_lots, g__law_lots := He.glo_ok X G (c.t.d.fact 27 (f := .glo "_law_lots") rfl), a__law_holds := He.ga K "_law_holds", fd__law_holds := fd__law_holds, F__law_holds := F__law_holds, g__law_holds := He.glo_ok X G (c.t.d.fact 28 (f := .glo "_law_holds") rfl), a__law_marks := He.ga K "_law_marks", fd__law_marks := fd__law_marks, F__law_marks := F__law_marks, g__law_marks := He.glo_ok X G (c.t.d.fact 29 (f := .glo "_law_marks") rfl), a__law_same := He.ga K "_law_same", fd__law_same := fd__law_same, F__law_same := F__law_same, g__law_same := He.glo_ok X G (c.t.d.fact 30 (f := .glo "_law_same") rfl), a__law_wider := He.ga K "_law_wider", fd__law_wider := fd__law_wider, F__law_wider := F__law_wider, g__law_wider := He.glo_ok X G (c.t.d.fact 31 (f := .glo "_law_wider") rfl), a__law_some_row := He.ga K "_law_some_row", fd__law_some_row := fd__law_some_row, F__law_some_row := F__law_some_row, g__law_some_row := He.glo_ok X G (c.t.d.fact 32 (f := .glo "_law_some_row") rfl), a__law_one_right := He.ga K "_law_one_right", fd__law_one_right := fd__law_one_right, F__law_one_right := F__law_one_right, g__law_one_right := He.glo_ok X G (c.t.d.fact 33 (f := .glo "_law_one_right") rfl), a_law := He.ga K "law", fd_law := fd_law, F_law := F_law, g_law := He.glo_ok X G (c.t.d.fact 34 (f := .glo "law") rfl), z_abs := He.free_ok X G (c.t.d.fact 35 (f := .free "abs") rfl), z_all := He.free_ok X G (c.t.d.fact 36 (f := .free "all") rfl), z_any := He.free_ok X G (c.t.d.fact 37 (f := .free "any") rfl), z_bool := He.free_ok X G (c.t.d.fact 38 (f := .free "bool") rfl), z_dict := He.free_ok X G (c.t.d.fact 39 (f := .free "dict") rfl), z_enumerate := He.free_ok X G (c.t.d.fact 40 (f := .free "enumerate") rfl), z_int := He.free_ok X G (c.t.d.fact 41 (f := .free "int") rfl), z_isinstance := He.free_ok X G (c.t.d.fact 42 (f := .free "isinstance") rfl), z_len := He.free_ok X G (c.t.d.fact 43 (f := .free "len") rfl), z_list := He.free_ok X G (c.t.d.fact 44 (f := .free "list") rfl), z_min := He.free_ok X G (c.t.d.fact 45 (f := .free "min") rfl), z_range := He.free_ok X G (c.t.d.fact 46 (f := .free "range") rfl), z_repr := He.free_ok X G (c.t.d.fact 47 (f := .free "repr") rfl), z_set := He.free_ok X G (c.t.d.fact 48 (f := .free "set") rfl), z_tuple := He.free_ok X G (c.t.d.fact 49 (f := .free "tuple") rfl), c_BadRow := He.ga K "BadRow", x_BadRow := ⟨He.glo_ok X G (c.t.d.fact 53 (f := .glo "BadRow") rfl), y1, y2, y3, y4⟩, v_MOST_SEATS := He.int_ok X G (c.t.d.fact 50 (f := .int "MOST_SEATS" 8) rfl), a_MARKS := He.ga K "MARKS", v_MARKS := He.glo_ok X G (c.t.d.fact 51 (f := .glo "MARKS") rfl), d_MARKS := gloB_ok x1, a_SHUNNED := He.ga K "SHUNNED", v_SHUNNED := He.glo_ok X G (c.t.d.fact 52 (f := .glo "SHUNNED") rfl), d_SHUNNED := tabB_ok (c.t.tab 0 rfl) x3, g_BadRow := He.glo_ok X G (c.t.d.fact 53 (f := .glo "BadRow") rfl), c_SwapError := He.ga K "SwapError", g_SwapError := He.glo_ok X G (c.t.d.fact 54 (f := .glo "SwapError") rfl), e_BadRow := x5, m_BadRow := He.exm_ok (c.t.d.fact 56 (f := .exm "BadRow" "SwapError" true) rfl), k_BadRow := x6 }, rfl⟩
theorem bind_one {K : PySem.W.Frag} {x qual a : Str} {st : Stmt} {f : Addr} {fd : FuncData} (Fn : Fun K x qual st f fd)
    (h : ∀ (kV doc pm : Value) (an : Option Addr) (cdv ct u : Value), bindArgs (PySem.W.fnOf x qual (defArgs st) (defBody st) (defScope st) .none kV doc pm an cdv ct) ⟨[u], []⟩ = pure [(a, u)]) (s : Shared) (u : Value) : BindsTo s fd ⟨[u], []⟩ [(a, u)] := by
  obtain ⟨c1, c2, c3, c4, c5, c6, c7, c8, c9, rfl, _, _⟩ := Fn.ex
  exact .of_eq (h c3 c4 c5 c6 c7 c8 u)
theorem code_at {K : PySem.W.Frag} {x qual : Str} {st : Stmt} {fd : FuncData} (Fn : Fun K x qual st (He.ga K x) fd) : fd.code = .ref (He.codeOf K (x, none)) := by
  obtain ⟨c1, c2, c3, c4, c5, c6, c7, c8, c9, rfl, at_, code⟩ := Fn.ex
  obtain ⟨c, e⟩ := He.codeIn_ref code
  have q := He.codeOf_eq (p := (x, none)) at_ e
  rw [q]
  exact e
theorem lawL {w : World} {mg : Str → Option Value} {fa : Addr} {h : Heap} (Y : hkL.says w h) (G : h.Ns mainGlobals mg) (is : mg ("law" : Str) = some (.ref fa)) : LawG PySem.Challenge.rw_leastswaps_k71_whole_marks w mg 9 "script" fa h := by
  obtain ⟨K, X, c⟩ := Y
  obtain ⟨T, ea⟩ := tx_of X G c
  have e := is.symm.trans T.g_law
  cases e
  have F := T.F_law
  have hin : (("law", none) : He.Defn) ∈ tfL := List.mem_singleton.mpr rfl
  have code : T.fd_law.code = .ref (He.codeOf K ("law", none)) := by
    have F' : Fun K "law" "law" s_law (He.ga K "law") T.fd_law := by rw [← ea]; exact F
    exact code_at F'
  exact ⟨K, T.fd_law, _, _, sp_law K (He.cT K ("law", none)).2, X, c.empty _ hin, c.out _ hin, PySem.W.codeHd_of_K X (c.hd _ hin), bind_one F (fun _ _ _ _ _ _ _ => rfl), fun H a ns q1 q2 q3 => ⟨a, ns, rfl, q3, q1, q2, fun _ => rfl⟩, fun base _ _ TB => ok_law T code TB⟩
end K71
open PyProof.Rows PySem PySem.W PySem.Calls
theorem PySem.Challenge.cw_leastswaps_k71_whole_marks_holds : PySem.Challenge.rw_leastswaps_k71_whole_marks.Holds := by
  w_on; o_law
  refine HandSHeadRun.head_any (r := OpenLaw.row PySem.Challenge.rw_leastswaps_k71_whole_marks) (q := K71.qL) (H := K71.hkL) (ob := K71.obL) (M := 3000) (loose := K71.nmL) (d := HandSHeadRun.topDef (OpenLaw.row PySem.Challenge.rw_leastswaps_k71_whole_marks).prog 46) (kwd := []) K71.obL_eq
    (by kernel_rfl) (fun s => by kernel_rfl) K71.runL (by kernel_rfl) (by kernel_rfl) (by kernel_rfl) (by rfl) (by first | assumption | decide +kernel) (by decide +kernel) ⟨rfl, rfl, rfl, rfl, rfl, by decide +kernel⟩ ?hw ?hc
  case hw => w_witness2
  case hc =>
    refine Fw.walk_ofG (l := PySem.Challenge.rw_leastswaps_k71_whole_marks) (n := 63) (k := 9) (x := "script") rfl (by rw [sizeLine_eq]; decide) (by kernel_rfl) ⟨rfl, by decide, by decide⟩ ?F
    intro w mg fa h Y G named
    have en : (HandSHeadRun.topDef (OpenLaw.row PySem.Challenge.rw_leastswaps_k71_whole_marks).prog 46).name = ("law" : PySem.Str) := by kernel_rfl
    rw [en] at named
    exact K71.lawL Y G named
