import PyProof.Rows.All
import Wide.All
import OpenK.AllK
import Wide.FinOn
import Lean
import HandS.ForMost
import HandS.ForExc
import HandS.More
import HandS.Defaults
import HandS.Head0
import HandS.Head1
import HandS.Head2
import HandS.HeadEnd
import HandS.HeadWalk
import HandS.HeadHook1
import HandS.HeadHook2
import HandS.HeadHook3
import HandS.HeadHook4
import HandS.TupAny
import HandS.TupMul
import HandS.TupLe
import HandS.Deep
import HandS.IsInst
import HandS.CallSlots
import HandS.ExcIs
import HandS.ExcValue
import HandS.Strs
import HandS.SetKeys
import HandS.Zip
import KE.GoesMore
import KE.GoesEnum
import KE.GoesZip
import PyProof.StrLawsIn
import HandS.Replace
import HandS.StrMore
import HandS.SetFor
import HandS.Style
import PyProof.Rows.StrRev
import HandS.TupSets
import PyProof.StrWalks
import HandS.SortInts
import KE.KDictPairs
import KE.DataMinMax
import HandS.Codes
import PyProof.Rows.RowBridgeK
import KE.KDictZip
import HandS.Sort
import PySem.Challenge.RW_verseends_k83_whole_poems_by_schemes
set_option Elab.async false
set_option linter.all false
set_option maxRecDepth 100000
set_option maxHeartbeats 0
/-! The data layer, 1: plain data, how a value stands for it, growing heaps. -/
namespace DL
open PySem PySem.Spec L2

/-- plain data of a Python value -/
inductive D where
  | non | bl (b : Bool) | int (i : Int) | str (s : List Nat) | tup (xs : List D) | lst (xs : List D) | dic (t : Bool) (kvs : List (D × D)) | exc (c : Str) | scr (ns : List Int)
  deriving Inhabited

/-- an answer: a datum, an exception of the class of that name, or nothing that is spoken of -/
inductive Res (α : Type) where
  | ok (a : α) | exc (c : Str) | bad
  deriving Inhabited
def Res.bind {α β : Type} (r : Res α) (f : α → Res β) : Res β := match r with
  | .ok a => f a
  | .exc c => .exc c
  | .bad => .bad
@[simp] theorem Res.bind_ok {α β : Type} (a : α) (f : α → Res β) : (Res.ok a).bind f = f a := rfl
@[simp] theorem Res.bind_exc {α β : Type} (c : Str) (f : α → Res β) : (Res.exc c : Res α).bind f = .exc c := rfl
@[simp] theorem Res.bind_bad {α β : Type} (f : α → Res β) : (Res.bad : Res α).bind f = .bad := rfl
def RW {α : Type} (r : Res α) (ok : α → Prop) (ex : Str → Prop) : Prop := match r with
  | .ok a => ok a
  | .exc c => ex c
  | .bad => False
theorem RW.imp {α : Type} {r : Res α} {ok ok' : α → Prop} {ex ex' : Str → Prop} (h : RW r ok ex) (h1 : ∀ a, ok a → ok' a) (h2 : ∀ c, ex c → ex' c) : RW r ok' ex' := by
  cases r with
  | ok a => exact h1 a h
  | exc c => exact h2 c h
  | bad => exact h
theorem RW.bind {α β : Type} {r : Res α} {f : α → Res β} {ok : β → Prop} {ex : Str → Prop} (h : RW (r.bind f) ok ex) : RW r (fun a => RW (f a) ok ex) ex := by
  cases r with
  | ok a => exact h
  | exc c => exact h
  | bad => exact h

/-- an exception that was caught and kept: its class is of that name -/
def ExI (K : PySem.W.Frag) (c : Str) (a : Addr) : HO := .ext fun h => ∃ (oe : Obj) (vs : Array Value), h.get? a = some oe ∧ Zc (.ref (He.ga K c)) none oe ∧ oe.data = .fields vs

/-- a pair of texts; a table: a tuple of such -/
def txtPair : D → Bool
  | .tup [.str _, .str _] => true
  | _ => false
def tabB : List D → Bool
  | [] => false
  | d :: ds => txtPair d && ds.all txtPair
/-- a tuple stands at a; of a table it is told that its object is a plain one -/
def TupF (F : Hp) (a : Addr) (ds : List D) (vs : List V) : Prop := if tabB ds = true then ∃ o, F a = some (.frz o (.tup vs)) ∧ o.dict = none else F a = some (.tup vs)
theorem TupF.mono {F F' : Hp} {a : Addr} {ds : List D} {vs : List V} (e : Same F F') (h : TupF F a ds vs) : TupF F' a ds vs := by
  unfold TupF at h ⊢
  by_cases n : tabB ds = true
  · rw [if_pos n] at h ⊢
    obtain ⟨o, h1, h2⟩ := h
    exact ⟨o, e _ _ h1, h2⟩
  · rw [if_neg n] at h ⊢
    exact e _ _ h
theorem TupF.rd {F : Hp} {a : Addr} {ds : List D} {vs : List V} (h : TupF F a ds vs) : Rd F a (.tup vs) := by
  unfold TupF at h
  by_cases n : tabB ds = true
  · rw [if_pos n] at h
    obtain ⟨o, h1, h2⟩ := h
    exact .inr ⟨o, h1⟩
  · rw [if_neg n] at h
    exact .inl h
theorem rd_same {H H' : Hp} {a : Addr} {o : HO} (e : Same H H') (h : Rd H a o) : Rd H' a o := by
  rcases h with h | ⟨q, h⟩
  · exact .inl (e _ _ h)
  · exact .inr ⟨q, e _ _ h⟩
theorem rd_some {H : Hp} {a : Addr} {o : HO} (h : Rd H a o) : H a ≠ none := by
  rcases h with h | ⟨q, h⟩ <;> rw [h] <;> simp
theorem TupF.sq {K : PySem.W.Frag} {F F' : Hp} {a : Addr} {ds : List D} {vs : List V} (h : TupF F a ds vs) (e : Same F F') : SqT K F' a vs := .inl (h.mono e).rd
theorem TupF.bare {F : Hp} {a : Addr} {ds : List D} {vs : List V} (h : TupF F a ds vs) (n : tabB ds = false) : F a = some (.tup vs) := by
  unfold TupF at h
  rw [n] at h
  simpa using h
section
variable (K : PySem.W.Frag) (F : Hp)
mutual
/-- the value v stands for the datum, in the part F of the heap -/
def Rep : D → V → Prop
  | .non, v => v = .non
  | .bl b, v => v = .bl b
  | .int i, v => v = .int i
  | .str s, v => v = .str ⟨s.toArray⟩ ∧ s.all (· < 0x110000) = true ∧ s.length ≤ sizeLine
  | .tup ds, v => ∃ a vs, v = .ref a ∧ TupF F a ds vs ∧ Reps ds vs ∧ ds.length ≤ sizeLine
  | .lst ds, v => ∃ a vs, v = .ref a ∧ F a = some (.lst vs) ∧ Reps ds vs ∧ ds.length ≤ sizeLine
  | .dic false kvs, v => ∃ a o, v = .ref a ∧ kvs.length ≤ sizeLine ∧ ∃ hk : List (Key × V), F a = some (.frz o (.dK hk)) ∧ RepK kvs hk
  | .dic true kvs, v => ∃ a o, v = .ref a ∧ kvs.length ≤ sizeLine ∧ ∃ ht : List (List Key × V), F a = some (.frz o (.dT ht)) ∧ RepT kvs ht
  | .exc c, v => ∃ a, v = .ref a ∧ F a = some (ExI K c a)
  | .scr ns, v => ∃ a, v = .ref a ∧ SqL K F a (ns.map V.int)
def Reps : List D → List V → Prop
  | [], vs => vs = []
  | d :: ds, vs => ∃ v r, vs = v :: r ∧ Rep d v ∧ Reps ds r
/-- the pairs of a dict whose keys are ints and texts -/
def RepK : List (D × D) → List (Key × V) → Prop
  | [], hk => hk = []
  | kv :: kvs, hk => ∃ k v r, hk = (k, v) :: r ∧ RepKV kv k v ∧ RepK kvs r
def RepKV : D × D → Key → V → Prop
  | (k, d), hk, v => Rep k (kV hk) ∧ Rep d v
/-- the pairs of a dict whose keys are tuples of these -/
def RepT : List (D × D) → List (List Key × V) → Prop
  | [], ht => ht = []
  | kv :: kvs, ht => ∃ k v r, ht = (k, v) :: r ∧ RepTV kv k v ∧ RepT kvs r
def RepTV : D × D → List Key → V → Prop
  | (k, d), ks, v => RepTK k ks ∧ Rep d v
def RepTK : D → List Key → Prop
  | .tup ds, ks => Reps ds (ks.map kV) ∧ ds.length ≤ sizeLine
  | _, _ => False
end
end

theorem Same.seqT {K : PySem.W.Frag} {H H' : Hp} {a : Addr} {xs : List V} (e : Same H H') (h : SqT K H a xs) : SqT K H' a xs := by
  rcases h with (h | ⟨o, h⟩) | h
  · exact .inl (.inl (e _ _ h))
  · exact .inl (.inr ⟨o, e _ _ h⟩)
  · exact .inr h

section
variable {K : PySem.W.Frag} {F F' : Hp}
mutual
theorem Rep.mono (e : Same F F') : ∀ {d : D} {v : V}, Rep K F d v → Rep K F' d v
  | .non, _, h => by simpa only [Rep] using h
  | .bl _, _, h => by simpa only [Rep] using h
  | .int _, _, h => by simpa only [Rep] using h
  | .str _, _, h => by simpa only [Rep] using h
  | .tup ds, v, h => by
    simp only [Rep] at h ⊢
    obtain ⟨a, vs, h1, h2, h3, h4⟩ := h
    exact ⟨a, vs, h1, h2.mono e, Reps.mono e h3, h4⟩
  | .lst ds, v, h => by
    simp only [Rep] at h ⊢
    obtain ⟨a, vs, h1, h2, h3, h4⟩ := h
    exact ⟨a, vs, h1, e _ _ h2, Reps.mono e h3, h4⟩
  | .dic false kvs, v, h => by
    simp only [Rep] at h ⊢
    obtain ⟨a, o, h1, h4, hk, h2, h3⟩ := h
    exact ⟨a, o, h1, h4, hk, e _ _ h2, RepK.mono e h3⟩
  | .dic true kvs, v, h => by
    simp only [Rep] at h ⊢
    obtain ⟨a, o, h1, h4, ht, h2, h3⟩ := h
    exact ⟨a, o, h1, h4, ht, e _ _ h2, RepT.mono e h3⟩
  | .exc c, v, h => by
    simp only [Rep] at h ⊢
    obtain ⟨a, h1, h2⟩ := h
    exact ⟨a, h1, e _ _ h2⟩
  | .scr ns, v, h => by
    simp only [Rep] at h ⊢
    obtain ⟨a, h1, h2⟩ := h
    exact ⟨a, h1, Same.seq e h2⟩
theorem Reps.mono (e : Same F F') : ∀ {ds : List D} {vs : List V}, Reps K F ds vs → Reps K F' ds vs
  | [], vs, h => by simpa only [Reps] using h
  | d :: ds, vs, h => by
    simp only [Reps] at h ⊢
    obtain ⟨v, r, h1, h2, h3⟩ := h
    exact ⟨v, r, h1, Rep.mono e h2, Reps.mono e h3⟩
theorem RepK.mono (e : Same F F') : ∀ {kvs : List (D × D)} {hk : List (Key × V)}, RepK K F kvs hk → RepK K F' kvs hk
  | [], hk, h => by simpa only [RepK] using h
  | kv :: kvs, hk, h => by
    simp only [RepK] at h ⊢
    obtain ⟨k, v, r, h1, h2, h3⟩ := h
    exact ⟨k, v, r, h1, RepKV.mono e h2, RepK.mono e h3⟩
theorem RepKV.mono (e : Same F F') : ∀ {kv : D × D} {k : Key} {v : V}, RepKV K F kv k v → RepKV K F' kv k v
  | (k, d), hk, v, h => by
    simp only [RepKV] at h ⊢
    exact ⟨Rep.mono e h.1, Rep.mono e h.2⟩
theorem RepT.mono (e : Same F F') : ∀ {kvs : List (D × D)} {ht : List (List Key × V)}, RepT K F kvs ht → RepT K F' kvs ht
  | [], ht, h => by simpa only [RepT] using h
  | kv :: kvs, ht, h => by
    simp only [RepT] at h ⊢
    obtain ⟨k, v, r, h1, h2, h3⟩ := h
    exact ⟨k, v, r, h1, RepTV.mono e h2, RepT.mono e h3⟩
theorem RepTV.mono (e : Same F F') : ∀ {kv : D × D} {k : List Key} {v : V}, RepTV K F kv k v → RepTV K F' kv k v
  | (k, d), ks, v, h => by
    simp only [RepTV] at h ⊢
    exact ⟨RepTK.mono e h.1, Rep.mono e h.2⟩
theorem RepTK.mono (e : Same F F') : ∀ {k : D} {ks : List Key}, RepTK K F k ks → RepTK K F' k ks
  | .tup ds, ks, h => by
    simp only [RepTK] at h ⊢
    exact ⟨Reps.mono e h.1, h.2⟩
  | .non, _, h => by simp only [RepTK] at h
  | .bl _, _, h => by simp only [RepTK] at h
  | .int _, _, h => by simp only [RepTK] at h
  | .str _, _, h => by simp only [RepTK] at h
  | .lst _, _, h => by simp only [RepTK] at h
  | .dic _ _, _, h => by simp only [RepTK] at h
  | .exc _, _, h => by simp only [RepTK] at h
  | .scr _, _, h => by simp only [RepTK] at h
end

theorem Reps.length : ∀ {ds : List D} {vs : List V}, Reps K F ds vs → vs.length = ds.length
  | [], vs, h => by simp only [Reps] at h; subst h; rfl
  | d :: ds, vs, h => by
    simp only [Reps] at h
    obtain ⟨v, r, rfl, _, h3⟩ := h
    simp [Reps.length h3]
theorem Reps.get : ∀ {ds : List D} {vs : List V} {i : Nat} {d : D}, Reps K F ds vs → ds[i]? = some d → ∃ v, vs[i]? = some v ∧ Rep K F d v
  | [], vs, i, d, h, e => by simp at e
  | x :: ds, vs, 0, d, h, e => by
    simp only [Reps] at h
    obtain ⟨v, r, rfl, h2, h3⟩ := h
    simp at e; subst e
    exact ⟨v, rfl, h2⟩
  | x :: ds, vs, i + 1, d, h, e => by
    simp only [Reps] at h
    obtain ⟨v, r, rfl, h2, h3⟩ := h
    obtain ⟨u, e1, e2⟩ := Reps.get (i := i) (d := d) h3 (by simpa using e)
    exact ⟨u, by simpa using e1, e2⟩
theorem Reps.get' : ∀ {ds : List D} {vs : List V} {i : Nat} {v : V}, Reps K F ds vs → vs[i]? = some v → ∃ d, ds[i]? = some d ∧ Rep K F d v
  | [], vs, i, v, h, e => by simp only [Reps] at h; subst h; simp at e
  | x :: ds, vs, 0, d, h, e => by
    simp only [Reps] at h
    obtain ⟨v, r, rfl, h2, h3⟩ := h
    simp at e; subst e
    exact ⟨x, rfl, h2⟩
  | x :: ds, vs, i + 1, d, h, e => by
    simp only [Reps] at h
    obtain ⟨v, r, rfl, h2, h3⟩ := h
    obtain ⟨u, e1, e2⟩ := Reps.get' (i := i) (v := d) h3 (by simpa using e)
    exact ⟨u, by simpa using e1, e2⟩
theorem Reps.append : ∀ {ds es : List D} {vs ws : List V}, Reps K F ds vs → Reps K F es ws → Reps K F (ds ++ es) (vs ++ ws)
  | [], es, vs, ws, h, h' => by simp only [Reps] at h; subst h; simpa using h'
  | x :: ds, es, vs, ws, h, h' => by
    simp only [Reps] at h
    obtain ⟨v, r, rfl, h2, h3⟩ := h
    simp only [List.cons_append, Reps]
    exact ⟨v, _, rfl, h2, Reps.append h3 h'⟩
theorem Reps.take : ∀ {ds : List D} {vs : List V} (n : Nat), Reps K F ds vs → Reps K F (ds.take n) (vs.take n)
  | [], vs, n, h => by simp only [Reps] at h; subst h; simp [Reps]
  | x :: ds, vs, 0, h => by simp [Reps]
  | x :: ds, vs, n + 1, h => by
    simp only [Reps] at h
    obtain ⟨v, r, rfl, h2, h3⟩ := h
    simp only [List.take_succ_cons, Reps]
    exact ⟨v, _, rfl, h2, Reps.take n h3⟩
theorem Reps.drop : ∀ {ds : List D} {vs : List V} (n : Nat), Reps K F ds vs → Reps K F (ds.drop n) (vs.drop n)
  | [], vs, n, h => by simp only [Reps] at h; subst h; simp [Reps]
  | x :: ds, vs, 0, h => by simpa using h
  | x :: ds, vs, n + 1, h => by
    simp only [Reps] at h
    obtain ⟨v, r, rfl, h2, h3⟩ := h
    simpa using Reps.drop n h3
theorem Reps.nil : Reps K F [] [] := by simp [Reps]
theorem Reps.cons {d : D} {ds : List D} {v : V} {vs : List V} (h : Rep K F d v) (hs : Reps K F ds vs) : Reps K F (d :: ds) (v :: vs) := by
  simp only [Reps]
  exact ⟨v, vs, rfl, h, hs⟩
theorem Reps.uncons {d : D} {ds : List D} {vs : List V} (h : Reps K F (d :: ds) vs) : ∃ v r, vs = v :: r ∧ Rep K F d v ∧ Reps K F ds r := by simpa only [Reps] using h
theorem Reps.nil_eq {vs : List V} (h : Reps K F [] vs) : vs = [] := by simpa only [Reps] using h
theorem Reps.reverse : ∀ {ds : List D} {vs : List V}, Reps K F ds vs → Reps K F ds.reverse vs.reverse
  | [], vs, h => by simp only [Reps] at h; subst h; exact Reps.nil
  | x :: ds, vs, h => by
    obtain ⟨v, r, rfl, h2, h3⟩ := h.uncons
    rw [List.reverse_cons, List.reverse_cons]
    exact (Reps.reverse h3).append (Reps.nil.cons h2)
end

/-! ### growing heaps -/
structure Ext (F H F' H' : Hp) : Prop where
  same : Same H H'
  grow : Same F F'
  sub : Same F' H'
  new : ∀ a, H a ≠ none → F' a ≠ none → F a ≠ none ∨ ∃ vs, H a = some (.tup vs)
theorem Ext.refl {F H : Hp} (h : Same F H) : Ext F H F H := ⟨Same.refl _, Same.refl _, h, fun _ _ h => .inl h⟩
theorem Ext.trans {F H F1 H1 F2 H2 : Hp} (a : Ext F H F1 H1) (b : Ext F1 H1 F2 H2) : Ext F H F2 H2 :=
  ⟨a.same.trans b.same, a.grow.trans b.grow, b.sub, fun x h1 h2 => by
    cases q : H x with
    | none => exact absurd q h1
    | some o =>
      have q1 := a.same x o q
      rcases b.new x (by rw [q1]; simp) h2 with z | ⟨vs, z⟩
      · rcases a.new x h1 z with z | ⟨vs, z⟩
        · exact .inl z
        · exact .inr ⟨vs, by rw [← q]; exact z⟩
      · rw [q1] at z
        exact .inr ⟨vs, z⟩⟩
theorem same_upd {H : Hp} {p : Addr} {o : HO} (h : H p = none) : Same H (upd H p o) := fun b x e => by
  rw [upd_ne (ne_of_none e h)]
  exact e
theorem Ext.alloc {F H : Hp} {p : Addr} (o : HO) (s : Same F H) (h : H p = none) : Ext F H (upd F p o) (upd H p o) :=
  ⟨same_upd h, same_upd (Same.free s h), fun a x e => by
    by_cases hp : a = p
    · subst hp; rw [upd_same] at e ⊢; exact e
    · rw [upd_ne hp] at e ⊢; exact s a x e, fun a h1 h2 => by
    by_cases hp : a = p
    · subst hp; exact absurd h h1
    · rw [upd_ne hp] at h2; exact .inl h2⟩
/-- a new object that is not told of -/
theorem Ext.loose {F H : Hp} {p : Addr} (o : HO) (s : Same F H) (h : H p = none) : Ext F H F (upd H p o) :=
  ⟨same_upd h, Same.refl _, s.trans (same_upd h), fun a _ h2 => .inl h2⟩

/-! ### environments -/
abbrev Env := List (Option D)
def EnvR (K : PySem.W.Frag) (F : Hp) (ρ : Env) (σ : L2.St) : Prop := ρ.length ≤ σ.length ∧ ∀ (i : Nat) (d : D), ρ[i]? = some (some d) → ∃ v, σ[i]? = some (some v) ∧ Rep K F d v
theorem EnvR.mono {K : PySem.W.Frag} {F F' : Hp} {ρ : Env} {σ : L2.St} (e : Same F F') (h : EnvR K F ρ σ) : EnvR K F' ρ σ := ⟨h.1, fun i d q => by
  obtain ⟨v, h1, h2⟩ := h.2 i d q
  exact ⟨v, h1, h2.mono e⟩⟩

/-! ### readings by data -/
/-- what is wanted of an exception of the class named c -/
abbrev EX := L2.St → XK
def ExW (K : PySem.W.Frag) (E : EX) (σ : L2.St) (H : Hp) (c : Str) : Prop := ∀ H', Same H H' → E σ (.ref (He.ga K c)) none H'
theorem ExW.mono {K : PySem.W.Frag} {E : EX} {σ : L2.St} {H H' : Hp} {c : Str} (h : ExW K E σ H c) (s : Same H H') : ExW K E σ H' c := fun H2 s2 => h H2 (s.trans s2)
def tD (K : PySem.W.Frag) (E : EX) (f : Env → Res D) : TE := fun σ H Q => ∃ F ρ, Same F H ∧ EnvR K F ρ σ ∧ RW (f ρ) (fun d => ∀ v F' H', Ext F H F' H' → Rep K F' d v → Q v H') (ExW K E σ H)
def tDs (K : PySem.W.Frag) (E : EX) (f : Env → Res (List D)) : TA := fun σ H Q => ∃ F ρ, Same F H ∧ EnvR K F ρ σ ∧ RW (f ρ) (fun ds => ∀ vs F' H', Ext F H F' H' → Reps K F' ds vs → Q vs H') (ExW K E σ H)
/-- tests: a truth comes -/
def tDT (K : PySem.W.Frag) (E : EX) (f : Env → Res Bool) : TT := fun σ H Q => ∃ F ρ, Same F H ∧ EnvR K F ρ σ ∧ RW (f ρ) (fun b => ∀ F' H', Ext F H F' H' → Q b H') (ExW K E σ H)
/-- a new list or dict: at p, not in F' -/
def DE (X : Cx) (E : EX) (e : Expr) (f : Env → Res D) : Prop := PE X e (tD X.K E f)
def DEs (X : Cx) (E : EX) (es : List Expr) (f : Env → Res (List D)) : Prop := PA X es (tDs X.K E f)
def DT (X : Cx) (E : EX) (e : Expr) (f : Env → Res Bool) : Prop := PT X e (tDT X.K E f)
theorem pe_weak {X : Cx} {e : Expr} {t t' : TE} (h : PE X e t) (w : ∀ σ H Q, t' σ H Q → t σ H Q) : PE X e t' := ⟨fun pins s σ H Q I q => h.run pins s σ H Q I (w σ H Q q)⟩
theorem pa_weak {X : Cx} {e : List Expr} {t t' : TA} (h : PA X e t) (w : ∀ σ H Q, t' σ H Q → t σ H Q) : PA X e t' := ⟨fun pos pins s σ H Q I q => h.run pos pins s σ H Q I (w σ H Q q)⟩
theorem pt_weak {X : Cx} {e : Expr} {t t' : TT} (h : PT X e t) (w : ∀ σ H Q, t' σ H Q → t σ H Q) : PT X e t' := ⟨fun pins s σ H Q I q => h.run pins s σ H Q I (w σ H Q q)⟩
theorem pw_weak {X : Cx} {e : Expr} {t t' : TT} (h : PW X e t) (w : ∀ σ H Q, t' σ H Q → t σ H Q) : PW X e t' := ⟨fun wh pins s σ H Q I q => h.run wh pins s σ H Q I (w σ H Q q)⟩
theorem ps_weak {X : Cx} {e : Stmt} {t t' : TS} (h : PS X e t) (w : ∀ D σ H, t' D σ H → t D σ H) : PS X e t' := ⟨fun pins s σ H D I q => h.run pins s σ H D I (w D σ H q)⟩
theorem pss_weak {X : Cx} {e : List Stmt} {t t' : TS} (h : PSs X e t) (w : ∀ D σ H, t' D σ H → t D σ H) : PSs X e t' := ⟨fun pins s σ H D I q => h.run pins s σ H D I (w D σ H q)⟩
/-- readings are monotone in what follows -/
theorem tD.mk {K : PySem.W.Frag} {E : EX} {f : Env → Res D} {F : Hp} {ρ : Env} {σ : L2.St} {H : Hp} {Q : VK} (s : Same F H) (r : EnvR K F ρ σ) (h : RW (f ρ) (fun d => ∀ v F' H', Ext F H F' H' → Rep K F' d v → Q v H') (ExW K E σ H)) : tD K E f σ H Q := ⟨F, ρ, s, r, h⟩

section
variable {X : Cx} {E : EX} {a b c : Expr} {fa fb fc : Env → Res D} {pos : Pos}
/-- two data, one behind the other -/
theorem two {F : Hp} {ρ : Env} {σ : L2.St} {H : Hp} {R : V → V → Hp → Prop} (s : Same F H) (r : EnvR X.K F ρ σ)
    (h : RW ((fa ρ).bind fun x => (fb ρ).bind fun y => .ok (x, y)) (fun p => ∀ v w F' H', Ext F H F' H' → Rep X.K F' p.1 v → Rep X.K F' p.2 w → R v w H') (ExW X.K E σ H)) :
    tD X.K E fa σ H fun v H1 => tD X.K E fb σ H1 fun w H2 => R v w H2 := by
  refine tD.mk s r (h.bind.imp (fun x hx => ?_) fun _ z => z)
  intro v F1 H1 e1 r1
  refine tD.mk e1.sub (r.mono e1.grow) (hx.bind.imp (fun y hy => ?_) fun _ z => z.mono e1.same)
  intro w F2 H2 e2 r2
  exact hy v w F2 H2 (e1.trans e2) (r1.mono e2.grow) r2
/-- a rule of two values answers as g -/
def Good2 (K : PySem.W.Frag) (r : R2) (g : D → D → Res D) : Prop := ∀ (F H : Hp) (x y : D) (v w : V) (Q : VK), Same F H → Rep K F x v → Rep K F y w →
  (∃ d, g x y = .ok d ∧ ∀ u F' H', Ext F H F' H' → Rep K F' d u → Q u H') → r v w H Q
/-- g lets out no exception -/
def NoX2 (g : D → D → Res D) : Prop := ∀ x y c, g x y ≠ .exc c
def ap2 (g : D → D → Res D) (fa fb : Env → Res D) : Env → Res D := fun ρ => (fa ρ).bind fun x => (fb ρ).bind fun y => g x y
theorem ap2_two {F : Hp} {ρ : Env} {σ : L2.St} {H : Hp} {r : R2} {g : D → D → Res D} {Q : VK} (hg : Good2 X.K r g) (hn : NoX2 g) (s : Same F H) (re : EnvR X.K F ρ σ)
    (h : RW (ap2 g fa fb ρ) (fun d => ∀ v F' H', Ext F H F' H' → Rep X.K F' d v → Q v H') (ExW X.K E σ H)) : tOp r (tD X.K E fa) (tD X.K E fb) σ H Q := by
  refine two (E := E) s re ?_
  unfold ap2 at h
  cases ea : fa ρ with
  | ok x =>
    rw [ea] at h
    cases eb : fb ρ with
    | ok y =>
      rw [eb] at h
      simp only [Res.bind_ok, RW] at h ⊢
      intro v w F' H' e rx ry
      cases eg : g x y with
      | ok d =>
        rw [eg] at h
        exact hg F' H' x y v w Q e.sub rx ry ⟨d, eg, fun u F2 H2 e2 r2 => h u F2 H2 (e.trans e2) r2⟩
      | exc c => exact absurd eg (hn x y c)
      | bad => rw [eg] at h; exact h.elim
    | exc c => rw [eb] at h; exact h
    | bad => rw [eb] at h; exact h
  | exc c => rw [ea] at h; exact h
  | bad => rw [ea] at h; exact h
theorem de_op {op : Operator} {r : R2} {g : D → D → Res D} (ho : OpR X (binaryOp op) r) (hg : Good2 X.K r g) (hn : NoX2 g) (ha : DE X E a fa) (hb : DE X E b fb) : DE X E (.BinOp a op b pos) (ap2 g fa fb) :=
  pe_weak (pe_op ho ha hb) fun σ H Q ⟨F, ρ, s, re, h⟩ => ap2_two hg hn s re h
theorem de_cmp {op : CmpOp} {r : R2} {g : D → D → Res D} (ho : OpR X (compareOp op) r) (hm : behindInMarks op b = false) (hg : Good2 X.K r g) (hn : NoX2 g) (ha : DE X E a fa) (hb : DE X E b fb) : DE X E (.Compare a [op] [b] pos) (ap2 g fa fb) :=
  pe_weak (pe_cmpR ho ha hb hm) fun σ H Q ⟨F, ρ, s, re, h⟩ => ap2_two hg hn s re h
theorem de_ix {r : R2} {g : D → D → Res D} (ho : IxR X r) (hm : PlainIx b) (hg : Good2 X.K r g) (hn : NoX2 g) (ha : DE X E a fa) (hb : DE X E b fb) : DE X E (.Subscript a b pos) (ap2 g fa fb) :=
  pe_weak (pe_ix ho ha hb hm) fun σ H Q ⟨F, ρ, s, re, h⟩ => ap2_two hg hn s re h
/-! ### names, constants -/
def getV (i : Nat) (ρ : Env) : Res D := match ρ[i]? with
  | some (some d) => .ok d
  | _ => .bad
theorem de_var {i : Nat} {x : Str} (hN : X.N[i]? = some x) (hv : Vis X.env.scope x) (hd : (x == ("__debug__" : Str)) = false) (hcd : (x == ("__classdict__" : Str)) = false) : DE X E (.Name x pos) (getV i) :=
  pe_weak (pe_var hN hv hd hcd) fun σ H Q ⟨F, ρ, s, re, h⟩ => by
    unfold getV at h
    cases e : ρ[i]? with
    | none => rw [e] at h; exact h.elim
    | some o =>
      cases o with
      | none => rw [e] at h; exact h.elim
      | some d =>
        rw [e] at h
        obtain ⟨v, e1, e2⟩ := re.2 i d e
        exact ⟨v, e1, h v F H (Ext.refl s) e2⟩
def cst (d : D) (_ : Env) : Res D := .ok d
theorem de_const {e : Expr} {v : V} {d : D} (h : PE X e (tC v)) (r : ∀ F, Rep X.K F d v) : DE X E e (cst d) :=
  pe_weak h fun σ H Q ⟨F, ρ, s, re, h⟩ => h v F H (Ext.refl s) (r F)
end
end DL
/-! The data layer, 2: operators. -/
namespace DL
open PySem PySem.Spec L2

abbrev S0 (s : List Nat) : Str := ⟨s.toArray⟩
theorem S0_len (s : List Nat) : (S0 s).length = s.length := by simp [TL.len_tl, TL.tl_mk]
theorem S0_tl (s : List Nat) : (S0 s).cps.toList = s := by simp
theorem S0_app (s t : List Nat) : S0 s ++ S0 t = S0 (s ++ t) := TL.ext_tl (by rw [TL.tl_append, TL.tl_mk, TL.tl_mk, TL.tl_mk])
theorem S0_inj {s t : List Nat} (h : S0 s = S0 t) : s = t := by
  have := congrArg TL.tl h
  simpa [TL.tl_mk] using this
theorem S0_eq (s t : List Nat) : decide (S0 s = S0 t) = decide (s = t) := by
  by_cases h : s = t
  · subst h; simp
  · rw [decide_eq_false h, decide_eq_false fun z => h (S0_inj z)]

/-! ### + -/
def addD : D → D → Res D
  | .int i, .int j => .ok (.int (i + j))
  | .str s, .str t => if s.length + t.length ≤ 16777216 then .ok (.str (s ++ t)) else .bad
  | .lst s, .lst t => if s.length + t.length ≤ 16777216 then .ok (.lst (s ++ t)) else .bad
  | .tup s, .tup t => if s.length + t.length ≤ 16777216 ∧ tabB (s ++ t) = false then .ok (.tup (s ++ t)) else .bad
  | _, _ => .bad
def subD : D → D → Res D
  | .int i, .int j => .ok (.int (i - j))
  | _, _ => .bad
/-- a product: one side small; a text or a list so many times -/
def mulD : D → D → Res D
  | .int i, .int j => if (-18446744073709551616 < i ∧ i < 18446744073709551616) ∨ (-18446744073709551616 < j ∧ j < 18446744073709551616) then .ok (.int (i * j)) else .bad
  | .str s, .int k => if -16777216 ≤ k ∧ k ≤ 16777216 ∧ s.length * k.toNat ≤ 16777216 then .ok (.str (List.replicate k.toNat s).flatten) else .bad
  | .lst s, .int k => if -16777216 ≤ k ∧ k ≤ 16777216 ∧ s.length * k.toNat ≤ 16777216 then .ok (.lst (List.replicate k.toNat s).flatten) else .bad
  | .tup s, .int k => if 2 ≤ k ∧ k ≤ 1000 ∧ s ≠ [] ∧ s.length ≤ 1000 ∧ tabB (List.replicate k.toNat s).flatten = false then .ok (.tup (List.replicate k.toNat s).flatten) else .bad
  | _, _ => .bad
def fdivD : D → D → Res D
  | .int i, .int j => if 0 < j ∧ j < 1073741824 then .ok (.int (i / j)) else .bad
  | _, _ => .bad
def modD : D → D → Res D
  | .int i, .int j => if 0 < j then .ok (.int (i % j)) else .bad
  | _, _ => .bad
def powD : D → D → Res D
  | .int i, .int j => if 0 ≤ j ∧ j ≤ 1000000 ∧ i.natAbs < 18446744073709551616 then .ok (.int (i ^ j.toNat)) else .bad
  | _, _ => .bad

theorem codes_app {s t : List Nat} (h1 : s.all (· < 0x110000) = true) (h2 : t.all (· < 0x110000) = true) : (s ++ t).all (· < 0x110000) = true := by rw [List.all_append, h1, h2]; rfl
section
variable {K : PySem.W.Frag}
theorem rep_str {F : Hp} {s : List Nat} {v : V} (h : Rep K F (.str s) v) : v = .str (S0 s) ∧ s.all (· < 0x110000) = true ∧ s.length ≤ sizeLine := by simpa only [Rep] using h
theorem rep_int {F : Hp} {i : Int} {v : V} (h : Rep K F (.int i) v) : v = .int i := by simpa only [Rep] using h
theorem rep_bl {F : Hp} {i : Bool} {v : V} (h : Rep K F (.bl i) v) : v = .bl i := by simpa only [Rep] using h
theorem rep_lst {F : Hp} {ds : List D} {v : V} (h : Rep K F (.lst ds) v) : ∃ a vs, v = .ref a ∧ F a = some (.lst vs) ∧ Reps K F ds vs ∧ ds.length ≤ sizeLine := by simpa only [Rep] using h
theorem rep_tup {F : Hp} {ds : List D} {v : V} (h : Rep K F (.tup ds) v) : ∃ a vs, v = .ref a ∧ TupF F a ds vs ∧ Reps K F ds vs ∧ ds.length ≤ sizeLine := by simpa only [Rep] using h
theorem mk_str {F : Hp} {s : List Nat} (h1 : s.all (· < 0x110000) = true) (h2 : s.length ≤ sizeLine) : Rep K F (.str s) (.str (S0 s)) := by simp only [Rep]; exact ⟨trivial, h1, h2⟩
theorem mk_int {F : Hp} {i : Int} : Rep K F (.int i) (.int i) := by simp only [Rep]
theorem mk_bl {F : Hp} {i : Bool} : Rep K F (.bl i) (.bl i) := by simp only [Rep]
theorem mk_non {F : Hp} : Rep K F .non .non := by simp only [Rep]
theorem mk_lst {F : Hp} {p : Addr} {ds : List D} {vs : List V} (e : F p = some (.lst vs)) (r : Reps K F ds vs) (h : ds.length ≤ sizeLine) : Rep K F (.lst ds) (.ref p) := by simp only [Rep]; exact ⟨p, vs, rfl, e, r, h⟩
theorem mk_tup {F : Hp} {p : Addr} {ds : List D} {vs : List V} (n : tabB ds = false) (e : F p = some (.tup vs)) (r : Reps K F ds vs) (h : ds.length ≤ sizeLine) : Rep K F (.tup ds) (.ref p) := by simp only [Rep]; exact ⟨p, vs, rfl, by unfold TupF; rw [n]; exact e, r, h⟩
/-- a new list, a new tuple -/
theorem new_lst {F H : Hp} {p : Addr} {ds : List D} {vs : List V} (s : Same F H) (hp : H p = none) (r : Reps K F ds vs) (h : ds.length ≤ sizeLine) : Ext F H (upd F p (.lst vs)) (upd H p (.lst vs)) ∧ Rep K (upd F p (.lst vs)) (.lst ds) (.ref p) :=
  ⟨Ext.alloc _ s hp, mk_lst upd_same (r.mono (same_upd (Same.free s hp))) h⟩
theorem new_tup {F H : Hp} {p : Addr} {ds : List D} {vs : List V} (n : tabB ds = false) (s : Same F H) (hp : H p = none) (r : Reps K F ds vs) (h : ds.length ≤ sizeLine) : Ext F H (upd F p (.tup vs)) (upd H p (.tup vs)) ∧ Rep K (upd F p (.tup vs)) (.tup ds) (.ref p) :=
  ⟨Ext.alloc _ s hp, mk_tup n upd_same (r.mono (same_upd (Same.free s hp))) h⟩
end
theorem sz {n : Nat} (h : n ≤ 16777216) : n ≤ sizeLine := by rw [PySem.sizeLine_eq]; exact h

section
variable {X : Cx}
def rAddAll (K : PySem.W.Frag) : R2 := fun x y H Q => (∃ i j, x = .int i ∧ y = .int j ∧ Q (.int (i + j)) H) ∨ (∃ i j, x = .str i ∧ y = .str j ∧ i.length + j.length ≤ sizeLine ∧ Q (.str (i ++ j)) H) ∨ rCat x y H Q ∨ rCatA K x y H Q
theorem op_addAll : OpR X (binaryOp .Add) (rAddAll X.K) := OpR.or op_add (OpR.or op_add_str (OpR.or op_cat op_catA))
theorem good_add {K : PySem.W.Frag} : Good2 K (rAddAll K) addD := by
  intro F H x y v w Q s rx ry ⟨d, e, k⟩
  unfold addD at e
  split at e
  · cases e
    rw [rep_int rx, rep_int ry]
    exact .inl ⟨_, _, rfl, rfl, k _ F H (Ext.refl s) mk_int⟩
  · rename_i a b
    split at e
    · rename_i hl
      cases e
      obtain ⟨rfl, a1, a2⟩ := rep_str rx
      obtain ⟨rfl, b1, b2⟩ := rep_str ry
      refine .inr (.inl ⟨_, _, rfl, rfl, by rw [S0_len, S0_len]; exact sz hl, ?_⟩)
      rw [S0_app]
      exact k _ F H (Ext.refl s) (mk_str (codes_app a1 b1) (by rw [List.length_append]; exact sz hl))
    · cases e
  · split at e
    · rename_i a b hl
      cases e
      obtain ⟨p, vs, rfl, h1, h2, h3⟩ := rep_lst rx
      obtain ⟨q, ws, rfl, g1, g2, g3⟩ := rep_lst ry
      refine .inr (.inr (.inl ⟨p, q, vs, ws, rfl, rfl, s _ _ h1, s _ _ g1, by rw [h2.length, g2.length]; exact sz hl, fun o ho => ?_⟩))
      obtain ⟨e1, r1⟩ := new_lst (K := K) s ho (h2.append g2) (by rw [List.length_append]; exact sz hl)
      exact k _ _ _ e1 r1
    · cases e
  · split at e
    · rename_i a b hl
      cases e
      obtain ⟨p, vs, rfl, h1, h2, h3⟩ := rep_tup rx
      obtain ⟨q, ws, rfl, g1, g2, g3⟩ := rep_tup ry
      have lv := h2.length
      have lw := g2.length
      refine .inr (.inr (.inr ⟨p, q, vs, ws, rfl, rfl, h1.sq s, g1.sq s, by rw [lv, lw]; exact sz hl.1, fun z => ?_, fun _ z => ?_, fun _ _ o ho => ?_⟩))
      · subst z
        have : a = [] := List.eq_nil_of_length_eq_zero (by rw [← lv]; rfl)
        subst this
        exact k _ F H (Ext.refl s) (by simpa using ry)
      · subst z
        have : b = [] := List.eq_nil_of_length_eq_zero (by rw [← lw]; rfl)
        subst this
        exact k _ F H (Ext.refl s) (by simpa using rx)
      · obtain ⟨e1, r1⟩ := new_tup (K := K) hl.2 s ho (h2.append g2) (by rw [List.length_append]; exact sz hl.1)
        exact k _ _ _ e1 r1
    · cases e
  · cases e
theorem nox_add : NoX2 addD := by
  intro x y c
  unfold addD
  split <;> (try split) <;> intro z <;> cases z
theorem good_sub {K : PySem.W.Frag} : Good2 K (rI0 fun i j => .int (i - j)) subD := by
  intro F H x y v w Q s rx ry ⟨d, e, k⟩
  unfold subD at e
  split at e
  · cases e
    rw [rep_int rx, rep_int ry]
    exact ⟨_, _, rfl, rfl, k _ F H (Ext.refl s) mk_int⟩
  · cases e
theorem nox_sub : NoX2 subD := by
  intro x y c
  unfold subD
  split <;> intro z <;> cases z
theorem flatten_len {α : Type} (s : List α) : ∀ n : Nat, (List.replicate n s).flatten.length = s.length * n
  | 0 => by simp
  | n + 1 => by rw [List.replicate_succ, List.flatten_cons, List.length_append, flatten_len s n, Nat.mul_succ]; omega
theorem flatten_all {α : Type} (p : α → Bool) (s : List α) (h : s.all p = true) : ∀ n : Nat, ((List.replicate n s).flatten).all p = true
  | 0 => by simp
  | n + 1 => by rw [List.replicate_succ, List.flatten_cons, List.all_append, h, flatten_all p s h n]; rfl
theorem Reps.rep {K : PySem.W.Frag} {F : Hp} {ds : List D} {vs : List V} (h : Reps K F ds vs) : ∀ n : Nat, Reps K F (List.replicate n ds).flatten (List.replicate n vs).flatten
  | 0 => by simpa using Reps.nil
  | n + 1 => by rw [List.replicate_succ, List.flatten_cons, List.replicate_succ, List.flatten_cons]; exact h.append (Reps.rep h n)
theorem foldl_arr (s : List Nat) : ∀ (k : Nat) (acc : List Nat), List.foldl (fun x1 x2 => x1 ++ x2) acc.toArray (List.replicate k s.toArray) = (acc ++ (List.replicate k s).flatten).toArray
  | 0, acc => by simp
  | k + 1, acc => by
    rw [List.replicate_succ, List.foldl_cons, List.append_toArray, foldl_arr s k, List.replicate_succ, List.flatten_cons, List.append_assoc]
/-- a text so many times -/
def rRepS : R2 := fun x y H Q => ∃ (s : List Nat) (k : Int), x = .str (S0 s) ∧ y = .int k ∧ -16777216 ≤ k ∧ k ≤ 16777216 ∧ s.length * k.toNat ≤ 16777216 ∧ Q (.str (S0 (List.replicate k.toNat s).flatten)) H
theorem op_repS : OpR X (binaryOp .Mult) rRepS := by
  intro pins s σ H x y v u Q I rx ry h
  obtain ⟨z, k, rfl, rfl, h1, h2, h3, q⟩ := h
  obtain ⟨t, rfl⟩ := rx
  obtain ⟨t', rfl⟩ := ry
  have lz : (S0 z).length = z.length := S0_len z
  refine PySem.P.mul_str ?_ ?_ ?_ ?_
  · rw [decide_eq_false (show ¬ k < -(2 ^ 63 : Int) by omega), decide_eq_false (show ¬ k ≥ 2 ^ 63 by omega)]; rfl
  · intro _ hb hgt
    rw [lz] at hgt hb
    rw [Bool.or_eq_false_iff] at hb
    have hk1 : k ≠ 1 := by intro z; rw [z] at hb; simp at hb
    have e1 : (z.length : Int) * k ≤ 16777216 := by
      have : (z.length * k.toNat : Nat) ≤ 16777216 := h3
      have e2 : ((k.toNat : Nat) : Int) = k := by omega
      rw [← e2, ← Int.natCast_mul]; omega
    have hz : (z.length : Int) ≤ (2 ^ 63 - 1) / k := by
      rw [Int.le_ediv_iff_mul_le (by omega)]
      omega
    omega
  · intro _ _
    rw [lz]
    show decide (sizeLine < z.length * k.toNat) = false
    exact decide_eq_false (by rw [PySem.sizeLine_eq]; omega)
  · by_cases c1 : k < 1
    · rw [if_pos c1]
      have e0 : k.toNat = 0 := by omega
      rw [e0] at q
      exact ⟨by decide, .str _, H, I.tok _, ⟨_, rfl⟩, q⟩
    · rw [if_neg c1]
      by_cases c2 : (k == 1 || (S0 z).length == 0) = true
      · rw [if_pos c2]
        have e1 : (List.replicate k.toNat z).flatten = z := by
          rw [Bool.or_eq_true] at c2
          rcases c2 with c2 | c2
          · have : k = 1 := by simpa using c2
            subst this; simp
          · have : z = [] := by
              rw [lz] at c2
              exact List.eq_nil_of_length_eq_zero (by simpa using c2)
            subst this
            have : ∀ n : Nat, (List.replicate n ([] : List Nat)).flatten = [] := by intro n; induction n with
              | zero => rfl
              | succ n ih => rw [List.replicate_succ, List.flatten_cons, ih]; rfl
            exact this _
        rw [e1] at q
        exact ⟨.str _, H, I, ⟨_, rfl⟩, q⟩
      · rw [if_neg c2]
        have e2 : (⟨(List.replicate k.toNat (S0 z).cps).foldl (· ++ ·) #[]⟩ : Str) = S0 (List.replicate k.toNat z).flatten := by
          have := foldl_arr z k.toNat []
          simp only [List.nil_append] at this
          show (⟨_⟩ : Str) = ⟨_⟩
          rw [← this]
        rw [e2]
        exact ⟨by rw [S0_len, flatten_len, PySem.sizeLine_eq]; exact h3, .str _, H, I.tok _, ⟨_, rfl⟩, q⟩
def rMulAll (K : PySem.W.Frag) : R2 := fun x y H Q => rI CMul (fun i j => .int (i * j)) x y H Q ∨ rRepS x y H Q ∨ rRep x y H Q ∨ rRepT K x y H Q
theorem op_mulAll : OpR X (binaryOp .Mult) (rMulAll X.K) := OpR.or op_mul (OpR.or op_repS (OpR.or op_rep op_repT))
theorem good_mul {K : PySem.W.Frag} : Good2 K (rMulAll K) mulD := by
  intro F H x y v w Q s rx ry ⟨d, e, k⟩
  unfold mulD at e
  split at e
  · split at e
    · rename_i hc
      cases e
      rw [rep_int rx, rep_int ry]
      exact .inl ⟨_, _, rfl, rfl, hc, k _ F H (Ext.refl s) mk_int⟩
    · cases e
  · split at e
    · rename_i a b hc
      cases e
      obtain ⟨rfl, a1, a2⟩ := rep_str rx
      rw [rep_int ry]
      obtain ⟨c1, c2, c3⟩ := hc
      refine .inr (.inl ⟨_, _, rfl, rfl, c1, c2, c3, k _ F H (Ext.refl s) (mk_str (flatten_all _ _ a1 _) (by rw [flatten_len]; exact sz c3))⟩)
    · cases e
  · split at e
    · rename_i a b hc
      cases e
      obtain ⟨p, vs, rfl, h1, h2, h3⟩ := rep_lst rx
      rw [rep_int ry]
      obtain ⟨c1, c2, c3⟩ := hc
      refine .inr (.inr (.inl ⟨p, _, vs, rfl, rfl, s _ _ h1, by omega, by omega, by rw [h2.length]; exact sz c3, fun o ho => ?_⟩))
      obtain ⟨e1, r1⟩ := new_lst (K := K) s ho (h2.rep b.toNat) (by rw [flatten_len]; exact sz c3)
      exact k _ _ _ e1 r1
    · cases e
  · split at e
    · rename_i a b hc
      cases e
      obtain ⟨p, vs, rfl, h1, h2, h3⟩ := rep_tup rx
      rw [rep_int ry]
      obtain ⟨c1, c2, c3, c4, c5⟩ := hc
      have lv := h2.length
      refine .inr (.inr (.inr ⟨p, _, vs, rfl, rfl, h1.sq s, fun z => c3 (List.eq_nil_of_length_eq_zero (by rw [← lv, z]; rfl)), c1, c2, by rw [lv]; exact c4, fun o ho => ?_⟩))
      obtain ⟨e1, r1⟩ := new_tup (K := K) c5 s ho (h2.rep b.toNat) (by
        rw [flatten_len]
        refine sz (Nat.le_trans (Nat.mul_le_mul c4 (show b.toNat ≤ 1000 by omega)) (by decide)))
      exact k _ _ _ e1 r1
    · cases e
  · cases e
theorem nox_mul : NoX2 mulD := by
  intro x y c
  unfold mulD
  split <;> (try split) <;> intro z <;> cases z
theorem good_fdiv {K : PySem.W.Frag} : Good2 K (rI CDiv fun i j => .int (i / j)) fdivD := by
  intro F H x y v w Q s rx ry ⟨d, e, k⟩
  unfold fdivD at e
  split at e
  · split at e
    · rename_i hc
      cases e
      rw [rep_int rx, rep_int ry]
      exact ⟨_, _, rfl, rfl, hc, k _ F H (Ext.refl s) mk_int⟩
    · cases e
  · cases e
theorem nox_fdiv : NoX2 fdivD := by
  intro x y c
  unfold fdivD
  split <;> (try split) <;> intro z <;> cases z
theorem good_mod {K : PySem.W.Frag} : Good2 K (rI (fun _ j => 0 < j) fun i j => .int (i % j)) modD := by
  intro F H x y v w Q s rx ry ⟨d, e, k⟩
  unfold modD at e
  split at e
  · split at e
    · rename_i hc
      cases e
      rw [rep_int rx, rep_int ry]
      exact ⟨_, _, rfl, rfl, hc, k _ F H (Ext.refl s) mk_int⟩
    · cases e
  · cases e
theorem nox_mod : NoX2 modD := by
  intro x y c
  unfold modD
  split <;> (try split) <;> intro z <;> cases z
theorem good_pow {K : PySem.W.Frag} : Good2 K (rI CPow fun i j => .int (i ^ j.toNat)) powD := by
  intro F H x y v w Q s rx ry ⟨d, e, k⟩
  unfold powD at e
  split at e
  · split at e
    · rename_i hc
      cases e
      rw [rep_int rx, rep_int ry]
      exact ⟨_, _, rfl, rfl, hc, k _ F H (Ext.refl s) mk_int⟩
    · cases e
  · cases e
theorem nox_pow : NoX2 powD := by
  intro x y c
  unfold powD
  split <;> (try split) <;> intro z <;> cases z
end
end DL
/-! The data layer, 3: comparisons, subscripts, slices. -/
namespace DL
open PySem PySem.Spec L2

/-! ### == -/
mutual
/-- as Python's == -/
def eqD : D → D → Bool
  | .non, .non => true
  | .bl a, .bl b => a == b
  | .bl a, .int j => (if a then 1 else 0) == j
  | .int i, .bl b => i == (if b then 1 else 0)
  | .int i, .int j => i == j
  | .str x, .str y => x == y
  | .lst xs, .lst ys => eqDs xs ys
  | .tup xs, .tup ys => eqDs xs ys
  | _, _ => false
def eqDs : List D → List D → Bool
  | [], [] => true
  | x :: xs, y :: ys => eqD x y && eqDs xs ys
  | _, _ => false
end
/-- data of none, truths, ints, texts, lists, tuples, n deep at most -/
def plain : Nat → D → Bool
  | _, .non => true
  | _, .bl _ => true
  | _, .int _ => true
  | _, .str _ => true
  | n + 1, .tup xs => xs.all (plain n)
  | n + 1, .lst xs => xs.all (plain n)
  | _, _ => false
mutual
def toPy : D → PyData
  | .bl b => .bool b
  | .int i => .int i
  | .str s => .str (S0 s)
  | .lst xs => .list (toPys xs)
  | .tup xs => .tuple (toPys xs)
  | _ => .none
def toPys : List D → List PyData
  | [] => []
  | x :: xs => toPy x :: toPys xs
end
theorem toPys_map : ∀ xs : List D, toPys xs = xs.map toPy
  | [] => by simp only [toPys, List.map_nil]
  | x :: xs => by simp only [toPys, List.map_cons, toPys_map xs]
section
variable {K : PySem.W.Frag} {F : Hp}
mutual
theorem Rep.dp : ∀ (n : Nat) (d : D) (v : V), plain n d = true → Rep K F d v → Dp K F v (toPy d) ∧ (toPy d).canLay0 = true ∧ (toPy d).depth ≤ n
  | n, .non, v, _, h => by
    simp only [Rep] at h; subst h
    exact ⟨by simp only [toPy]; exact .non, by simp only [toPy, PyData.canLay0], by simp only [toPy, PyData.depth]; omega⟩
  | n, .bl b, v, _, h => by
    simp only [Rep] at h; subst h
    exact ⟨by simp only [toPy]; exact .bl b, by simp only [toPy, PyData.canLay0], by simp only [toPy, PyData.depth]; omega⟩
  | n, .int i, v, _, h => by
    simp only [Rep] at h; subst h
    exact ⟨by simp only [toPy]; exact .int i, by simp only [toPy, PyData.canLay0], by simp only [toPy, PyData.depth]; omega⟩
  | n, .str s, v, _, h => by
    obtain ⟨rfl, h1, h2⟩ := rep_str h
    refine ⟨by simp only [toPy]; exact .str _, ?_, by simp only [toPy, PyData.depth]; omega⟩
    simp only [toPy, PyData.canLay0, PyData.strOk]
    rw [← Array.all_toList]
    simpa using h1
  | 0, .tup xs, v, hp, h => by simp [plain] at hp
  | n + 1, .tup xs, v, hp, h => by
    obtain ⟨a, vs, rfl, h1, h2, _⟩ := rep_tup h
    simp only [plain] at hp
    obtain ⟨g1, g2, g3⟩ := Reps.dps n xs vs hp h2
    exact ⟨by simp only [toPy]; exact .tup (.inl h1.rd) g1, by simp only [toPy, PyData.canLay0]; exact g2, by simp only [toPy, PyData.depth]; omega⟩
  | 0, .lst xs, v, hp, h => by simp [plain] at hp
  | n + 1, .lst xs, v, hp, h => by
    obtain ⟨a, vs, rfl, h1, h2, _⟩ := rep_lst h
    simp only [plain] at hp
    obtain ⟨g1, g2, g3⟩ := Reps.dps n xs vs hp h2
    exact ⟨by simp only [toPy]; exact .lst (SqL.of h1) g1, by simp only [toPy, PyData.canLay0]; exact g2, by simp only [toPy, PyData.depth]; omega⟩
  | n, .dic _ _, v, hp, h => by cases n <;> simp [plain] at hp
  | n, .exc _, v, hp, h => by cases n <;> simp [plain] at hp
  | n, .scr _, v, hp, h => by cases n <;> simp [plain] at hp
theorem Reps.dps : ∀ (n : Nat) (ds : List D) (vs : List V), ds.all (plain n) = true → Reps K F ds vs → DpAll K F vs (toPys ds) ∧ PyData.canLayAll0 (toPys ds) = true ∧ PyData.depthAll (toPys ds) ≤ n
  | n, [], vs, _, h => by
    simp only [Reps] at h; subst h
    exact ⟨by simp only [toPys]; exact .nil, by simp only [toPys, PyData.canLayAll0], by simp only [toPys, PyData.depthAll]; omega⟩
  | n, d :: ds, vs, hp, h => by
    obtain ⟨v, r, rfl, h1, h2⟩ := h.uncons
    rw [List.all_cons, Bool.and_eq_true] at hp
    obtain ⟨a1, a2, a3⟩ := Rep.dp n d v hp.1 h1
    obtain ⟨b1, b2, b3⟩ := Reps.dps n ds r hp.2 h2
    refine ⟨by simp only [toPys]; exact .cons a1 b1, ?_, ?_⟩
    · simp only [toPys, PyData.canLayAll0, a2, b2, Bool.and_self]
    · simp only [toPys, PyData.depthAll]; omega
end
end
mutual
theorem eqv_eq : ∀ (n m : Nat) (d e : D), plain n d = true → plain m e = true → PyData.eqv (toPy d) (toPy e) = eqD d e
  | n, m, .non, e, _, he => by cases e <;> (first | (cases m <;> simp [plain] at he; done) | simp [toPy, PyData.eqv, eqD])
  | n, m, .bl b, e, _, he => by cases e <;> (first | (cases m <;> simp [plain] at he; done) | simp [toPy, PyData.eqv, eqD])
  | n, m, .int i, e, _, he => by cases e <;> (first | (cases m <;> simp [plain] at he; done) | simp [toPy, PyData.eqv, eqD])
  | n, m, .str s, e, _, he => by
    cases e with
    | str t =>
      simp only [toPy, PyData.eqv, eqD]
      by_cases h : s = t
      · subst h; simp
      · rw [beq_eq_false_iff_ne.mpr h, beq_eq_false_iff_ne.mpr fun z => h (S0_inj z)]
    | _ => first | (cases m <;> simp [plain] at he; done) | simp [toPy, PyData.eqv, eqD]
  | n, m, .lst xs, e, hd, he => by
    cases e with
    | lst ys =>
      cases n with
      | zero => simp [plain] at hd
      | succ n =>
        cases m with
        | zero => simp [plain] at he
        | succ m =>
          simp only [plain] at hd he
          simp only [toPy, PyData.eqv, eqD]
          exact eqvs_eq n m xs ys hd he
    | _ => first | (cases m <;> simp [plain] at he; done) | simp [toPy, PyData.eqv, eqD]
  | n, m, .tup xs, e, hd, he => by
    cases e with
    | tup ys =>
      cases n with
      | zero => simp [plain] at hd
      | succ n =>
        cases m with
        | zero => simp [plain] at he
        | succ m =>
          simp only [plain] at hd he
          simp only [toPy, PyData.eqv, eqD]
          exact eqvs_eq n m xs ys hd he
    | _ => first | (cases m <;> simp [plain] at he; done) | simp [toPy, PyData.eqv, eqD]
  | n, m, .dic _ _, e, hd, _ => by cases n <;> simp [plain] at hd
  | n, m, .exc _, e, hd, _ => by cases n <;> simp [plain] at hd
  | n, m, .scr _, e, hd, _ => by cases n <;> simp [plain] at hd
theorem eqvs_eq : ∀ (n m : Nat) (ds es : List D), ds.all (plain n) = true → es.all (plain m) = true → PyData.eqvAll (toPys ds) (toPys es) = eqDs ds es
  | n, m, [], [], _, _ => by simp [toPys, PyData.eqvAll, eqDs]
  | n, m, [], e :: es, _, _ => by simp [toPys, PyData.eqvAll, eqDs]
  | n, m, d :: ds, [], _, _ => by simp [toPys, PyData.eqvAll, eqDs]
  | n, m, d :: ds, e :: es, hd, he => by
    rw [List.all_cons, Bool.and_eq_true] at hd he
    simp only [toPys, PyData.eqvAll, eqDs, eqv_eq n m d e hd.1 he.1, eqvs_eq n m ds es hd.2 he.2]
end

/-- the script, and [] -/
def scrEq : D → D → Res D
  | .scr ns, .lst [] => .ok (.bl ns.isEmpty)
  | _, _ => .bad
def eqR (x y : D) : Res D := if plain 60 x = true ∧ plain 60 y = true then .ok (.bl (eqD x y)) else scrEq x y
theorem scr_dp {K : PySem.W.Frag} {H : Hp} : ∀ ns : List Int, DpAll K H (ns.map V.int) (ns.map PyData.int) ∧ PyData.canLayAll0 (ns.map PyData.int) = true ∧ PyData.depthAll (ns.map PyData.int) ≤ 1
  | [] => ⟨.nil, by simp only [List.map_nil, PyData.canLayAll0], by simp only [List.map_nil, PyData.depthAll]; omega⟩
  | i :: ns => by
    obtain ⟨h1, h2, h3⟩ := scr_dp (K := K) (H := H) ns
    refine ⟨.cons (.int i) h1, ?_, ?_⟩
    · simp only [List.map_cons, PyData.canLayAll0, PyData.canLay0, h2]; rfl
    · simp only [List.map_cons, PyData.depthAll, PyData.depth]; omega
def neR (x y : D) : Res D := if plain 60 x = true ∧ plain 60 y = true then .ok (.bl (!eqD x y)) else .bad
theorem shaped_of {d : PyData} {n : Nat} (h1 : d.canLay0 = true) (h2 : d.depth ≤ n) (h : n ≤ 64 := by decide) : SeqAt.shaped d = true := by
  unfold SeqAt.shaped
  rw [h1, Bool.true_and, decide_eq_true (Nat.le_trans h2 h)]
section
variable {K : PySem.W.Frag}
theorem good_eq : Good2 K (rEqD K) eqR := by
  intro F H x y v w Q s rx ry ⟨d, e, k⟩
  unfold eqR at e
  split at e
  · rename_i hp
    cases e
    obtain ⟨a1, a2, a3⟩ := Rep.dp 60 x v hp.1 (rx.mono s)
    obtain ⟨b1, b2, b3⟩ := Rep.dp 60 y w hp.2 (ry.mono s)
    refine ⟨_, _, a1, b1, shaped_of a2 a3, shaped_of b2 b3, ?_⟩
    rw [eqv_eq 60 60 x y hp.1 hp.2]
    exact k _ F H (Ext.refl s) mk_bl
  · unfold scrEq at e
    split at e
    · rename_i ns hneg
      cases e
      simp only [Rep] at rx
      obtain ⟨a, rfl, hq⟩ := rx
      obtain ⟨b, vs, rfl, h1, h2, _⟩ := rep_lst ry
      have := h2.nil_eq; subst this
      obtain ⟨d1, d2, d3⟩ := scr_dp (K := K) (H := H) ns
      refine ⟨.list (ns.map PyData.int), .list [], .lst (Same.seq s hq) d1, .lst (SqL.of (s _ _ h1)) .nil, ?_, ?_, ?_⟩
      · exact shaped_of (n := 2) (by simp only [PyData.canLay0]; exact d2) (by simp only [PyData.depth]; omega)
      · exact shaped_of (n := 2) (by simp only [PyData.canLay0, PyData.canLayAll0]) (by simp only [PyData.depth, PyData.depthAll]; omega)
      · have : PyData.eqv (.list (ns.map PyData.int)) (.list []) = ns.isEmpty := by
          cases ns <;> simp only [List.map_nil, List.map_cons, PyData.eqv, PyData.eqvAll, List.isEmpty]
        rw [this]
        exact k _ F H (Ext.refl s) mk_bl
    · cases e
theorem good_ne : Good2 K (rNeD K) neR := by
  intro F H x y v w Q s rx ry ⟨d, e, k⟩
  unfold neR at e
  split at e
  · rename_i hp
    cases e
    obtain ⟨a1, a2, a3⟩ := Rep.dp 60 x v hp.1 (rx.mono s)
    obtain ⟨b1, b2, b3⟩ := Rep.dp 60 y w hp.2 (ry.mono s)
    refine ⟨_, _, a1, b1, shaped_of a2 a3, shaped_of b2 b3, ?_⟩
    rw [eqv_eq 60 60 x y hp.1 hp.2]
    exact k _ F H (Ext.refl s) mk_bl
  · cases e
end
theorem nox_eq : NoX2 eqR := by
  intro x y c
  unfold eqR scrEq
  split
  · intro z; cases z
  · split <;> intro z <;> cases z
theorem nox_ne : NoX2 neR := by intro x y c; unfold neR; split <;> intro z <;> cases z

/-! ### order -/
def ltR : D → D → Res D
  | .int i, .int j => .ok (.bl (decide (i < j)))
  | .str s, .str t => .ok (.bl (decide (s < t)))
  | _, _ => .bad
def leR : D → D → Res D
  | .int i, .int j => .ok (.bl (decide (i ≤ j)))
  | .str s, .str t => .ok (.bl (!decide (t < s)))
  | _, _ => .bad
def gtR : D → D → Res D
  | .int i, .int j => .ok (.bl (decide (j < i)))
  | .str s, .str t => .ok (.bl (decide (t < s)))
  | _, _ => .bad
def geR : D → D → Res D
  | .int i, .int j => .ok (.bl (decide (j ≤ i)))
  | .str s, .str t => .ok (.bl (!decide (s < t)))
  | _, _ => .bad
def rOrd (p : Int → Int → Bool) (q : Str → Str → Bool) : R2 := fun x y H Q => rI0 (fun i j => .bl (p i j)) x y H Q ∨ (∃ i j, x = .str i ∧ y = .str j ∧ Q (.bl (q i j)) H)
abbrev qLt : Str → Str → Bool := fun i j => decide (i.cps.toList < j.cps.toList)
section
variable {X : Cx} {K : PySem.W.Frag}
theorem op_ltA : OpR X (compareOp .Lt) (rOrd (fun i j => decide (i < j)) qLt) := OpR.or op_lt op_lt_str
theorem op_leA : OpR X (compareOp .LtE) (rOrd (fun i j => decide (i ≤ j)) fun i j => !qLt j i) := OpR.or op_le op_le_str
theorem op_gtA : OpR X (compareOp .Gt) (rOrd (fun i j => decide (j < i)) fun i j => qLt j i) := OpR.or op_gt op_gt_str
theorem op_geA : OpR X (compareOp .GtE) (rOrd (fun i j => decide (j ≤ i)) fun i j => !qLt i j) := OpR.or op_ge op_ge_str
theorem good_ord {p : Int → Int → Bool} {q : Str → Str → Bool} {g : D → D → Res D} (hi : ∀ i j, g (.int i) (.int j) = .ok (.bl (p i j))) (hs : ∀ s t, g (.str s) (.str t) = .ok (.bl (q (S0 s) (S0 t))))
    (hb : ∀ x y d, g x y = .ok d → (∃ i j, x = .int i ∧ y = .int j) ∨ ∃ s t, x = .str s ∧ y = .str t) : Good2 K (rOrd p q) g := by
  intro F H x y v w Q s rx ry ⟨d, e, k⟩
  rcases hb x y d e with ⟨i, j, rfl, rfl⟩ | ⟨a, b, rfl, rfl⟩
  · rw [hi] at e; cases e
    rw [rep_int rx, rep_int ry]
    exact .inl ⟨_, _, rfl, rfl, k _ F H (Ext.refl s) mk_bl⟩
  · rw [hs] at e; cases e
    obtain ⟨rfl, _, _⟩ := rep_str rx
    obtain ⟨rfl, _, _⟩ := rep_str ry
    exact .inr ⟨_, _, rfl, rfl, k _ F H (Ext.refl s) mk_bl⟩
theorem good_lt : Good2 K (rOrd (fun i j => decide (i < j)) qLt) ltR := good_ord (fun _ _ => rfl) (fun s t => by simp [ltR, qLt]) fun x y d e => by
  unfold ltR at e; split at e
  · exact .inl ⟨_, _, rfl, rfl⟩
  · exact .inr ⟨_, _, rfl, rfl⟩
  · cases e
theorem good_le : Good2 K (rOrd (fun i j => decide (i ≤ j)) fun i j => !qLt j i) leR := good_ord (fun _ _ => rfl) (fun s t => by simp [leR, qLt]) fun x y d e => by
  unfold leR at e; split at e
  · exact .inl ⟨_, _, rfl, rfl⟩
  · exact .inr ⟨_, _, rfl, rfl⟩
  · cases e
theorem good_gt : Good2 K (rOrd (fun i j => decide (j < i)) fun i j => qLt j i) gtR := good_ord (fun _ _ => rfl) (fun s t => by simp [gtR, qLt]) fun x y d e => by
  unfold gtR at e; split at e
  · exact .inl ⟨_, _, rfl, rfl⟩
  · exact .inr ⟨_, _, rfl, rfl⟩
  · cases e
theorem good_ge : Good2 K (rOrd (fun i j => decide (j ≤ i)) fun i j => !qLt i j) geR := good_ord (fun _ _ => rfl) (fun s t => by simp [geR, qLt]) fun x y d e => by
  unfold geR at e; split at e
  · exact .inl ⟨_, _, rfl, rfl⟩
  · exact .inr ⟨_, _, rfl, rfl⟩
  · cases e
end
theorem nox_lt : NoX2 ltR := by intro x y c; unfold ltR; split <;> intro z <;> cases z
theorem nox_le : NoX2 leR := by intro x y c; unfold leR; split <;> intro z <;> cases z
theorem nox_gt : NoX2 gtR := by intro x y c; unfold gtR; split <;> intro z <;> cases z
theorem nox_ge : NoX2 geR := by intro x y c; unfold geR; split <;> intro z <;> cases z

/-! ### is -/
def isNon : D → Bool
  | .non => true
  | _ => false
def isR : D → D → Res D
  | x, .non => .ok (.bl (isNon x))
  | .bl a, .bl b => .ok (.bl (a == b))
  | _, _ => .bad
def isnR : D → D → Res D
  | x, .non => .ok (.bl (!isNon x))
  | .bl a, .bl b => .ok (.bl (!(a == b)))
  | _, _ => .bad
section
variable {X : Cx} {K : PySem.W.Frag}
theorem rep_isNon {F : Hp} {x : D} {v : V} (h : Rep K F x v) : decide (v = .non) = isNon x := by
  cases x with
  | non => rw [show v = .non from by simpa only [Rep] using h]; rfl
  | bl b => rw [rep_bl h]; rfl
  | int i => rw [rep_int h]; rfl
  | str s => rw [(rep_str h).1]; rfl
  | tup ds => obtain ⟨a, _, rfl, _⟩ := rep_tup h; rfl
  | lst ds => obtain ⟨a, _, rfl, _⟩ := rep_lst h; rfl
  | dic t kvs => cases t <;> (simp only [Rep] at h; obtain ⟨a, _, rfl, _⟩ := h; rfl)
  | exc c => simp only [Rep] at h; obtain ⟨a, rfl, _⟩ := h; rfl
  | scr ns => simp only [Rep] at h; obtain ⟨a, rfl, _⟩ := h; rfl
def rIsA : R2 := fun x y H Q => (y = .non ∧ Q (.bl (decide (x = .non))) H) ∨ ∃ a b, x = .bl a ∧ y = .bl b ∧ Q (.bl (decide (a = b))) H
def rIsnA : R2 := fun x y H Q => (y = .non ∧ Q (.bl (!decide (x = .non))) H) ∨ ∃ a b, x = .bl a ∧ y = .bl b ∧ Q (.bl (!decide (a = b))) H
theorem op_isA : OpR X (compareOp .Is) rIsA := OpR.or op_isN op_is_bl
theorem op_isnA : OpR X (compareOp .IsNot) rIsnA := OpR.or op_notN op_isnot_bl
theorem good_is : Good2 K rIsA isR := by
  intro F H x y v w Q s rx ry ⟨d, e, k⟩
  unfold isR at e
  split at e
  · cases e
    refine .inl ⟨by simpa only [Rep] using ry, ?_⟩
    rw [rep_isNon rx]
    exact k _ F H (Ext.refl s) mk_bl
  · cases e
    refine .inr ⟨_, _, rep_bl rx, rep_bl ry, ?_⟩
    rw [← Bool.beq_eq_decide_eq]
    exact k _ F H (Ext.refl s) mk_bl
  · cases e
theorem good_isn : Good2 K rIsnA isnR := by
  intro F H x y v w Q s rx ry ⟨d, e, k⟩
  unfold isnR at e
  split at e
  · cases e
    refine .inl ⟨by simpa only [Rep] using ry, ?_⟩
    rw [rep_isNon rx]
    exact k _ F H (Ext.refl s) mk_bl
  · cases e
    refine .inr ⟨_, _, rep_bl rx, rep_bl ry, ?_⟩
    rw [← Bool.beq_eq_decide_eq]
    exact k _ F H (Ext.refl s) mk_bl
  · cases e
end
theorem nox_is : NoX2 isR := by intro x y c; unfold isR; split <;> intro z <;> cases z
theorem nox_isn : NoX2 isnR := by intro x y c; unfold isnR; split <;> intro z <;> cases z

/-! ### dicts -/
/-- keys: ints and texts, or tuples of these -/
def key0 : D → Bool
  | .int _ => true
  | .str _ => true
  | _ => false
def key1 : D → Bool
  | .tup xs => xs.all key0
  | _ => false
/-- what the pairs say at a key -/
def lookD : List (D × D) → D → Option D
  | [], _ => none
  | p :: r, k => if eqD p.1 k = true then some p.2 else lookD r k
section
variable {K : PySem.W.Frag} {F : Hp}
theorem rep_key0 {d : D} {v : V} (hd : key0 d = true) (h : Rep K F d v) : ∃ k : Key, v = kV k := by
  cases d with
  | int i => exact ⟨.inl i, rep_int h⟩
  | str s => exact ⟨.inr (S0 s), (rep_str h).1⟩
  | _ => simp [key0] at hd
theorem kV_key0 {d : D} {k : Key} (h : Rep K F d (kV k)) : key0 d = true := by
  cases d with
  | int i => rfl
  | str s => rfl
  | non => simp only [Rep] at h; cases k <;> cases h
  | bl b => simp only [Rep] at h; cases k <;> cases h
  | tup ds => obtain ⟨a, _, z, _⟩ := rep_tup h; cases k <;> cases z
  | lst ds => obtain ⟨a, _, z, _⟩ := rep_lst h; cases k <;> cases z
  | dic t kvs => cases t <;> (simp only [Rep] at h; obtain ⟨a, _, z, _⟩ := h; cases k <;> cases z)
  | exc c => simp only [Rep] at h; obtain ⟨a, z, _⟩ := h; cases k <;> cases z
  | scr ns => simp only [Rep] at h; obtain ⟨a, z, _⟩ := h; cases k <;> cases z
/-- equal keys -/
theorem key_eq {d e : D} {k j : Key} (h : Rep K F d (kV k)) (h' : Rep K F e (kV j)) : eqD d e = decide (k = j) := by
  have hd := kV_key0 h
  have he := kV_key0 h'
  cases d with
  | int a =>
    have ek : k = .inl a := kV_inj (rep_int h)
    subst ek
    cases e with
    | int b =>
      have ej : j = .inl b := kV_inj (rep_int h')
      subst ej
      rw [key_ll]; simp [eqD]
    | str t =>
      have ej : j = .inr (S0 t) := kV_inj (rep_str h').1
      subst ej
      rw [key_lr]; simp [eqD]
    | _ => simp [key0] at he
  | str a =>
    have ek : k = .inr (S0 a) := kV_inj (rep_str h).1
    subst ek
    cases e with
    | int b =>
      have ej : j = .inl b := kV_inj (rep_int h')
      subst ej
      rw [key_rl]; simp [eqD]
    | str t =>
      have ej : j = .inr (S0 t) := kV_inj (rep_str h').1
      subst ej
      rw [key_rr, S0_eq]; simp [eqD, Bool.beq_eq_decide_eq]
    | _ => simp [key0] at he
  | _ => simp [key0] at hd
theorem keys_eq : ∀ {ds es : List D} {ks js : List Key}, Reps K F ds (ks.map kV) → Reps K F es (js.map kV) → eqDs ds es = decide (ks = js)
  | [], [], ks, js, h, h' => by
    have e1 := Reps.nil_eq h; have e2 := Reps.nil_eq h'
    have e1 : ks = [] := by simpa using e1
    have e2 : js = [] := by simpa using e2
    subst e1 e2; simp [eqDs]
  | [], e :: es, ks, js, h, h' => by
    have e1 := Reps.nil_eq h
    have e1 : ks = [] := by simpa using e1
    subst e1
    cases js with
    | nil => have := Reps.length h'; simp at this
    | cons j js => simp [eqDs]
  | d :: ds, [], ks, js, h, h' => by
    have e1 := Reps.nil_eq h'
    have e1 : js = [] := by simpa using e1
    subst e1
    cases ks with
    | nil => have := Reps.length h; simp at this
    | cons j js => simp [eqDs]
  | d :: ds, e :: es, ks, js, h, h' => by
    cases ks with
    | nil => have := Reps.length h; simp at this
    | cons k ks =>
      cases js with
      | nil => have := Reps.length h'; simp at this
      | cons j js =>
        obtain ⟨v, r, z, h1, h2⟩ := h.uncons
        obtain ⟨v', r', z', h1', h2'⟩ := h'.uncons
        rw [List.map_cons] at z z'
        injection z with z1 z2
        injection z' with z1' z2'
        subst z1 z2 z1' z2'
        simp only [eqDs]
        rw [key_eq h1 h1', keys_eq h2 h2']
        by_cases a : k = j
        · subst a; by_cases b : ks = js
          · subst b; simp
          · simp [b]
        · simp [a]
theorem RepK.look : ∀ {kvs : List (D × D)} {hk : List (Key × V)} {d : D} {k : Key}, RepK K F kvs hk → Rep K F d (kV k) →
    (match lookD kvs d, valV hk k with | some x, some v => Rep K F x v | none, none => True | _, _ => False)
  | [], hk, d, k, h, hd => by
    simp only [RepK] at h; subst h
    simp [lookD, valV_nil]
  | (kd, x) :: kvs, hk, d, k, h, hd => by
    simp only [RepK] at h
    obtain ⟨k', v, r, rfl, h1, h2⟩ := h
    simp only [RepKV] at h1
    have e := key_eq h1.1 hd
    unfold lookD
    by_cases hk' : k' = k
    · subst hk'
      rw [if_pos (by rw [e]; simp), valV_pos (p := (k', v)) rfl]
      exact h1.2
    · rw [if_neg (by rw [e]; simpa using hk'), valV_neg (p := (k', v)) hk']
      exact RepK.look h2 hd
theorem RepT.look : ∀ {kvs : List (D × D)} {ht : List (List Key × V)} {d : D} {k : List Key}, RepT K F kvs ht → RepTK K F d k →
    (match lookD kvs d, valV ht k with | some x, some v => Rep K F x v | none, none => True | _, _ => False)
  | [], hk, d, k, h, hd => by
    simp only [RepT] at h; subst h
    simp [lookD, valV_nil]
  | (kd, x) :: kvs, hk, d, k, h, hd => by
    simp only [RepT] at h
    obtain ⟨k', v, r, rfl, h1, h2⟩ := h
    simp only [RepTV] at h1
    have e : eqD kd d = decide (k' = k) := by
      cases kd with
      | tup a =>
        cases d with
        | tup b =>
          have g1 := h1.1; have g2 := hd
          simp only [RepTK] at g1 g2
          simp only [eqD]
          exact keys_eq g1.1 g2.1
        | _ => simp only [RepTK] at hd
      | _ => have g1 := h1.1; simp only [RepTK] at g1
    unfold lookD
    by_cases hk' : k' = k
    · subst hk'
      rw [if_pos (by rw [e]; simp), valV_pos (p := (k', v)) rfl]
      exact h1.2
    · rw [if_neg (by rw [e]; simpa using hk'), valV_neg (p := (k', v)) hk']
      exact RepT.look h2 hd
theorem tab_key0 {ds : List D} (h : ds.all key0 = true) : tabB ds = false := by
  cases ds with
  | nil => rfl
  | cons d ds =>
    rw [List.all_cons, Bool.and_eq_true] at h
    cases d <;> first | rfl | (cases h.1)
theorem reps_keys : ∀ {ds : List D} {vs : List V}, ds.all key0 = true → Reps K F ds vs → ∃ ks : List Key, vs = ks.map kV
  | [], vs, _, h => ⟨[], by simpa using Reps.nil_eq h⟩
  | d :: ds, vs, hd, h => by
    obtain ⟨v, r, rfl, h1, h2⟩ := h.uncons
    rw [List.all_cons, Bool.and_eq_true] at hd
    obtain ⟨k, rfl⟩ := rep_key0 hd.1 h1
    obtain ⟨ks, rfl⟩ := reps_keys hd.2 h2
    exact ⟨k :: ks, rfl⟩
end
/-- a key fits a dict of that kind -/
def keyOk : Bool → D → Bool
  | false, d => key0 d
  | true, d => key1 d
section
variable {K : PySem.W.Frag} {F : Hp}
/-- what a dict that stands for kvs holds at a key -/
theorem dic_get {H : Hp} {t : Bool} {kvs : List (D × D)} {k : D} {v w : V} (s : Same F H) (h : Rep K F (.dic t kvs) v) (hk : Rep K F k w) (hf : keyOk t k = true) :
    ∃ a o, v = .ref a ∧ IsD H a ∧ DGet H a w o ∧ (match lookD kvs k, o with | some x, some u => Rep K F x u | none, none => True | _, _ => False) := by
  cases t with
  | false =>
    simp only [Rep] at h
    obtain ⟨a, o, rfl, _, hk', h1, h2⟩ := h
    obtain ⟨j, rfl⟩ := rep_key0 hf hk
    exact ⟨a, valV hk' j, rfl, .inl ⟨hk', .inr ⟨o, s _ _ h1⟩⟩, .inl ⟨hk', j, .inr ⟨o, s _ _ h1⟩, rfl, rfl⟩, RepK.look h2 hk⟩
  | true =>
    simp only [Rep] at h
    obtain ⟨a, o, rfl, _, ht, h1, h2⟩ := h
    cases k with
    | tup ds =>
      obtain ⟨b, vs, rfl, g1, g2, g3⟩ := rep_tup hk
      obtain ⟨ks, rfl⟩ := reps_keys (show ds.all key0 = true from hf) g2
      refine ⟨a, valV ht ks, rfl, .inr ⟨ht, .inr ⟨o, s _ _ h1⟩⟩, .inr ⟨ht, ks, b, .inr ⟨o, s _ _ h1⟩, rfl, s _ _ (g1.bare (tab_key0 hf)), rfl⟩, RepT.look h2 ?_⟩
      simp only [RepTK]
      exact ⟨g2, g3⟩
    | _ => simp [keyOk, key1] at hf
end
theorem look_some {K : PySem.W.Frag} {F : Hp} {o : Option D} {u : Option V} (m : match o, u with | some x, some u => Rep K F x u | none, none => True | _, _ => False) : u.isSome = o.isSome := by
  cases o <;> cases u <;> simp at m ⊢
/-! ### in -/
/-- one sign in a text; a datum in a list or tuple; a key in a dict -/
def inB : D → D → Res Bool
  | .str [c], .str s => .ok (decide (c ∈ s))
  | x, .lst ys => if plain 60 x = true ∧ plain 60 (.lst ys) = true then .ok (ys.any fun y => eqD y x) else .bad
  | x, .tup ys => if plain 60 x = true ∧ plain 60 (.tup ys) = true then .ok (ys.any fun y => eqD y x) else .bad
  | x, .dic t kvs => if keyOk t x = true then .ok (lookD kvs x).isSome else .bad
  | _, _ => .bad
def inR (x y : D) : Res D := (inB x y).bind fun b => .ok (.bl b)
def ninR (x y : D) : Res D := (inB x y).bind fun b => .ok (.bl (!b))
def rInA (K : PySem.W.Frag) (neg : Bool) : R2 := fun x y H Q => (∃ (c : Nat) (z : Str), x = .str ⟨#[c]⟩ ∧ y = .str z ∧ Q (.bl (if neg then !decide (c ∈ z.cps.toList) else decide (c ∈ z.cps.toList))) H) ∨
  (∃ (d e : PyData) (ds : List PyData), Dp K H x d ∧ Dp K H y e ∧ (e = .list ds ∨ e = .tuple ds) ∧ SeqAt.shaped d = true ∧ SeqAt.shaped e = true ∧ Q (.bl (if neg then !(ds.any fun z => PyData.eqv z d) else ds.any fun z => PyData.eqv z d)) H) ∨
  (∃ a o, y = .ref a ∧ DGet H a x o ∧ Q (.bl (if neg then !o.isSome else o.isSome)) H)
section
variable {X : Cx} {K : PySem.W.Frag}
theorem op_inA (hu : X.A.units + 65 < cLine) : OpR X (compareOp .In) (rInA X.K false) := by
  intro pins s σ H x y v u Q I rx ry h
  rcases h with h | ⟨d, e, ds, h1, h2, h3, h4, h5, q⟩ | ⟨a, o, rfl, g, q⟩
  · exact op_in_sign pins s σ H x y v u Q I rx ry h
  · obtain ⟨as, r1⟩ := Dp.reads I d x v h1 rx
    rcases h3 with rfl | rfl
    · obtain ⟨bs, r2⟩ := Dp.reads I (.list ds) y u h2 ry
      exact SeqAt.in_list_reads r2 r1 (SeqAt.canLay_of_shaped h5) (SeqAt.canLay_of_shaped h4) (PyProof.Rows.room_in_shaped h4 hu) ⟨.bl _, H, I, rfl, q⟩
    · obtain ⟨bs, r2⟩ := Dp.reads I (.tuple ds) y u h2 ry
      exact SeqAt.in_tuple_reads r2 r1 (by have := SeqAt.canLay_of_shaped h5; simpa only [PyData.canLay0] using this) (SeqAt.canLay_of_shaped h4) (PyProof.Rows.room_in_shaped h4 hu) ⟨.bl _, H, I, rfl, q⟩
  · cases ry
    exact d_in (by omega) I g rx fun s' I' => ⟨.bl _, H, I', rfl, q⟩
theorem op_ninA (hu : X.A.units + 65 < cLine) : OpR X (compareOp .NotIn) (rInA X.K true) := by
  intro pins s σ H x y v u Q I rx ry h
  rcases h with h | ⟨d, e, ds, h1, h2, h3, h4, h5, q⟩ | ⟨a, o, rfl, g, q⟩
  · exact op_notIn_sign pins s σ H x y v u Q I rx ry h
  · obtain ⟨as, r1⟩ := Dp.reads I d x v h1 rx
    rcases h3 with rfl | rfl
    · obtain ⟨bs, r2⟩ := Dp.reads I (.list ds) y u h2 ry
      exact SeqAt.notIn_list_reads r2 r1 (SeqAt.canLay_of_shaped h5) (SeqAt.canLay_of_shaped h4) (PyProof.Rows.room_in_shaped h4 hu) ⟨.bl _, H, I, rfl, q⟩
    · obtain ⟨bs, r2⟩ := Dp.reads I (.tuple ds) y u h2 ry
      exact SeqAt.notIn_tuple_reads r2 r1 (by have := SeqAt.canLay_of_shaped h5; simpa only [PyData.canLay0] using this) (SeqAt.canLay_of_shaped h4) (PyProof.Rows.room_in_shaped h4 hu) ⟨.bl _, H, I, rfl, q⟩
  · cases ry
    exact d_notIn (by omega) I g rx fun s' I' => ⟨.bl _, H, I', rfl, q⟩
theorem any_eqv {n : Nat} {x : D} (hx : plain n x = true) : ∀ ys : List D, ys.all (plain n) = true → ((toPys ys).any fun z => PyData.eqv z (toPy x)) = ys.any fun y => eqD y x
  | [], _ => rfl
  | y :: ys, h => by
    rw [List.all_cons, Bool.and_eq_true] at h
    simp only [toPys, List.any_cons, any_eqv hx ys h.2, eqv_eq n n y x h.1 hx]
theorem all_mono {m n : Nat} (h : ∀ d : D, plain m d = true → plain n d = true) {ys : List D} (hy : ys.all (plain m) = true) : ys.all (plain n) = true := by
  rw [List.all_eq_true] at hy ⊢
  exact fun x hx => h x (hy x hx)
theorem plain_succ : ∀ (n : Nat) (d : D), plain n d = true → plain (n + 1) d = true
  | n, .non, _ => rfl
  | n, .bl _, _ => rfl
  | n, .int _, _ => rfl
  | n, .str _, _ => rfl
  | 0, .tup xs, h => by simp [plain] at h
  | n + 1, .tup xs, h => by simp only [plain] at h ⊢; exact all_mono (plain_succ n) h
  | 0, .lst xs, h => by simp [plain] at h
  | n + 1, .lst xs, h => by simp only [plain] at h ⊢; exact all_mono (plain_succ n) h
  | n, .dic _ _, h => by cases n <;> simp [plain] at h
  | n, .exc _, h => by cases n <;> simp [plain] at h
  | n, .scr _, h => by cases n <;> simp [plain] at h
theorem in_good {neg : Bool} {F H : Hp} {x y : D} {v w : V} {Q : VK} {b : Bool} (s : Same F H) (rx : Rep K F x v) (ry : Rep K F y w) (e : inB x y = .ok b) (k : Q (.bl (if neg then !b else b)) H) : rInA K neg v w H Q := by
  unfold inB at e
  split at e
  · rename_i c z
    cases e
    obtain ⟨rfl, _, _⟩ := rep_str rx
    obtain ⟨rfl, _, _⟩ := rep_str ry
    refine .inl ⟨c, S0 z, rfl, rfl, ?_⟩
    rw [S0_tl]; exact k
  · split at e
    · rename_i ys hp
      cases e
      obtain ⟨a1, a2, a3⟩ := Rep.dp 60 _ v hp.1 (rx.mono s)
      obtain ⟨b1, b2, b3⟩ := Rep.dp 60 _ w hp.2 (ry.mono s)
      refine .inr (.inl ⟨_, _, toPys ys, a1, b1, .inl (by simp only [toPy]), shaped_of a2 a3, shaped_of b2 b3, ?_⟩)
      have hy : ys.all (plain 60) = true := all_mono (plain_succ 59) (show ys.all (plain 59) = true from hp.2)
      rw [any_eqv hp.1 ys hy]; exact k
    · cases e
  · split at e
    · rename_i ys hp
      cases e
      obtain ⟨a1, a2, a3⟩ := Rep.dp 60 _ v hp.1 (rx.mono s)
      obtain ⟨b1, b2, b3⟩ := Rep.dp 60 _ w hp.2 (ry.mono s)
      refine .inr (.inl ⟨_, _, toPys ys, a1, b1, .inr (by simp only [toPy]), shaped_of a2 a3, shaped_of b2 b3, ?_⟩)
      have hy : ys.all (plain 60) = true := all_mono (plain_succ 59) (show ys.all (plain 59) = true from hp.2)
      rw [any_eqv hp.1 ys hy]; exact k
    · cases e
  · split at e
    · rename_i t kvs hf
      cases e
      obtain ⟨a, o, rfl, _, g, m⟩ := dic_get s ry rx hf
      refine .inr (.inr ⟨a, o, rfl, g, ?_⟩)
      rw [look_some m]; exact k
    · cases e
  · cases e
theorem good_in : Good2 K (rInA K false) inR := by
  intro F H x y v w Q s rx ry ⟨d, e, k⟩
  unfold inR at e
  cases hb : inB x y with
  | ok b => rw [hb] at e; cases e; exact in_good s rx ry hb (k _ F H (Ext.refl s) mk_bl)
  | exc c => rw [hb] at e; cases e
  | bad => rw [hb] at e; cases e
theorem good_nin : Good2 K (rInA K true) ninR := by
  intro F H x y v w Q s rx ry ⟨d, e, k⟩
  unfold ninR at e
  cases hb : inB x y with
  | ok b => rw [hb] at e; cases e; exact in_good s rx ry hb (k _ F H (Ext.refl s) mk_bl)
  | exc c => rw [hb] at e; cases e
  | bad => rw [hb] at e; cases e
end
theorem nox_inB : ∀ x y c, inB x y ≠ .exc c := by intro x y c; unfold inB; split <;> (try split) <;> intro z <;> cases z
theorem nox_in : NoX2 inR := by
  intro x y c; unfold inR
  cases hb : inB x y with
  | ok b => intro z; cases z
  | exc c => exact absurd hb (nox_inB x y c)
  | bad => intro z; cases z
theorem nox_nin : NoX2 ninR := by
  intro x y c; unfold ninR
  cases hb : inB x y with
  | ok b => intro z; cases z
  | exc c => exact absurd hb (nox_inB x y c)
  | bad => intro z; cases z

/-! ### subscripts -/
def ixR : D → D → Res D
  | .lst xs, .int i => match atI xs i with | some d => .ok d | none => .bad
  | .tup xs, .int i => match atI xs i with | some d => .ok d | none => .bad
  | .str s, .int i => match atI s i with | some c => .ok (.str [c]) | none => .bad
  | .dic t kvs, k => if keyOk t k = true then (match lookD kvs k with | some d => .ok d | none => .bad) else .bad
  | .scr ns, .int i => match atI ns i with | some d => .ok (.int d) | none => .bad
  | _, _ => .bad
def rIxD : R2 := fun x y H Q => ∃ a v, x = .ref a ∧ DGet H a y (some v) ∧ Q v H
theorem ix_dict {X : Cx} (hu : X.A.units + 1 < cLine) : IxR X rIxD := by
  intro value slice pins s σ H x y v u Q I rx ry h hs
  obtain ⟨a, z, rfl, g, q⟩ := h
  cases rx
  have hT := dict_typeIs I g
  unfold PyProof.Rows.subscriptTail
  refine wpAny_bind ?_
  rw [getitemInPython_of_ne hT.not_modules]
  refine wpAny_bind (wpAny_specialOf hT PySem.F.slot_dict_getitem.lookup ?_)
  have fin : wpAny (model X.prog X.w) X.A (subscripted slice false (.ref a) u) (fun r s₃ => wpAny (model X.prog X.w) X.A (letTemporaryGo value (.ref a) r >>= fun _ => pure r) (EP X pins σ Q) X.xe s₃) X.xe s := by
    rw [hs]
    refine wpAny_operating (d_getItem hu I g ry fun w' s3 I3 rw' => ?_)
    exact wpAny_bind (wpAny_letTemporaryGo (wpAny_pure ⟨z, H, I3, rw', q⟩))
  first
    | exact wpAny_pure (wpAny_bind fin)
    | exact wpAny_bind (wpAny_pure (wpAny_bind fin))
    | exact wpAny_pure fin
def rIxAll (K : PySem.W.Frag) : R2 := fun x y H Q => rIx K x y H Q ∨ rIxD x y H Q
theorem ix_all {X : Cx} (hu : X.A.units + 1 < cLine) : IxR X (rIxAll X.K) := IxR.or ix_seq (ix_dict hu)
theorem Reps.atI {K : PySem.W.Frag} {F : Hp} {ds : List D} {vs : List V} {i : Int} {d : D} (h : Reps K F ds vs) (e : L2.atI ds i = some d) : ∃ v, L2.atI vs i = some v ∧ Rep K F d v := by
  unfold L2.atI at e ⊢
  rw [h.length]
  cases q : ixN ds.length i with
  | none => rw [q] at e; cases e
  | some j => rw [q] at e; exact h.get e
theorem good_ix {K : PySem.W.Frag} : Good2 K (rIxAll K) ixR := by
  intro F H x y v w Q s rx ry ⟨d, e, k⟩
  unfold ixR at e
  split at e
  · rename_i xs i
    obtain ⟨p, vs, rfl, h1, h2, _⟩ := rep_lst rx
    split at e
    · rename_i z hz
      cases e
      obtain ⟨u, e1, e2⟩ := h2.atI hz
      rw [rep_int ry]
      exact .inl (.inl ⟨p, vs, i, u, rfl, rfl, SqL.of (s _ _ h1), e1, k u F H (Ext.refl s) e2⟩)
    · cases e
  · rename_i xs i
    obtain ⟨p, vs, rfl, h1, h2, _⟩ := rep_tup rx
    split at e
    · rename_i z hz
      cases e
      obtain ⟨u, e1, e2⟩ := h2.atI hz
      rw [rep_int ry]
      exact .inl (.inr (.inl ⟨p, vs, i, u, rfl, rfl, h1.sq s, e1, k u F H (Ext.refl s) e2⟩))
    · cases e
  · rename_i xs i
    obtain ⟨rfl, h1, h2⟩ := rep_str rx
    split at e
    · rename_i c hz
      cases e
      rw [rep_int ry]
      refine .inl (.inr (.inr ⟨S0 xs, i, c, rfl, rfl, by rw [S0_len]; exact h2, by rw [S0_tl]; exact hz, k (.str (S0 [c])) F H (Ext.refl s) (mk_str ?_ (by rw [PySem.sizeLine_eq]; show 1 ≤ 16777216; decide))⟩))
      obtain ⟨j, _, hj, _⟩ := atI_get hz
      have hm : c ∈ xs := List.mem_of_getElem? hj
      rw [List.all_cons, List.all_nil, Bool.and_true]
      exact List.all_eq_true.mp h1 c hm
    · cases e
  · split at e
    · rename_i t kvs kd hf
      split at e
      · rename_i z hz
        cases e
        obtain ⟨a, o, rfl, _, g, m⟩ := dic_get s rx ry hf
        rw [hz] at m
        cases o with
        | none => exact m.elim
        | some u => exact .inr ⟨a, u, rfl, g, k u F H (Ext.refl s) m⟩
      · cases e
    · cases e
  · rename_i ns i
    simp only [Rep] at rx
    obtain ⟨p, rfl, hq⟩ := rx
    split at e
    · rename_i z hz
      cases e
      rw [rep_int ry]
      refine .inl (.inl ⟨p, ns.map V.int, i, .int z, rfl, rfl, Same.seq s hq, ?_, k _ F H (Ext.refl s) mk_int⟩)
      unfold L2.atI at hz ⊢
      rw [List.length_map]
      cases q : ixN ns.length i with
      | none => rw [q] at hz; cases hz
      | some j =>
        rw [q] at hz
        show (ns.map V.int)[j]? = _
        rw [List.getElem?_map, show ns[j]? = some z from hz]
        rfl
    · cases e
  · cases e
theorem nox_ix : NoX2 ixR := by intro x y c; unfold ixR; split <;> (try split) <;> (try split) <;> intro z <;> cases z

/-! ### slices -/
def cutL {α : Type} (xs : List α) (lo hi : Option Int) : List α := (xs.drop (HT.sIx xs.length 0 lo)).take (HT.sIx xs.length xs.length hi - HT.sIx xs.length 0 lo)
def slR (lo hi : Option Int) : D → Res D
  | .lst xs => .ok (.lst (cutL xs lo hi))
  | .tup xs => if tabB (cutL xs lo hi) = true then .bad else .ok (.tup (cutL xs lo hi))
  | .str xs => .ok (.str (cutL xs lo hi))
  | _ => .bad
theorem cutL_length {α : Type} (xs : List α) (lo hi : Option Int) : (cutL xs lo hi).length ≤ xs.length := by
  unfold cutL; rw [List.length_take, List.length_drop]; omega
theorem cutL_mem {α : Type} {xs : List α} {lo hi : Option Int} {x : α} (h : x ∈ cutL xs lo hi) : x ∈ xs := List.mem_of_mem_drop (List.mem_of_mem_take h)
theorem Reps.cut {K : PySem.W.Frag} {F : Hp} {ds : List D} {vs : List V} (h : Reps K F ds vs) (lo hi : Option Int) : Reps K F (cutL ds lo hi) (cutV vs lo hi) := by
  unfold cutL cutV
  rw [h.length]
  exact (h.drop _).take _
def rSlAll (K : PySem.W.Frag) : V → Option Int → Option Int → Hp → VK → Prop := fun x lo hi H Q => rSlL K x lo hi H Q ∨ rSlA K x lo hi H Q ∨ rSlS x lo hi H Q
theorem sl_all {X : Cx} : SlR X (rSlAll X.K) := SlR.or sl_list (SlR.or sl_tupA sl_str)
theorem cutL_whole {α : Type} {xs : List α} {lo hi : Option Int} (h : HT.sIx xs.length 0 lo = 0 ∧ HT.sIx xs.length xs.length hi = xs.length) : cutL xs lo hi = xs := by
  unfold cutL; rw [h.1, h.2]; simp
theorem sl_good {K : PySem.W.Frag} {F H : Hp} {x d : D} {v : V} {Q : VK} {lo hi : Option Int} (s : Same F H) (rx : Rep K F x v) (e : slR lo hi x = .ok d) (k : ∀ u F' H', Ext F H F' H' → Rep K F' d u → Q u H') : rSlAll K v lo hi H Q := by
  unfold slR at e
  split at e
  · rename_i xs
    cases e
    obtain ⟨p, vs, rfl, h1, h2, h3⟩ := rep_lst rx
    refine .inl ⟨p, vs, rfl, SqL.of (s _ _ h1), fun o ho => ?_⟩
    obtain ⟨e1, r1⟩ := new_lst (K := K) s ho (h2.cut lo hi) (Nat.le_trans (cutL_length _ _ _) h3)
    exact k _ _ _ e1 r1
  · rename_i xs
    split at e
    · cases e
    rename_i hn
    cases e
    obtain ⟨p, vs, rfl, h1, h2, h3⟩ := rep_tup rx
    refine .inr (.inl ⟨p, vs, rfl, h1.sq s, fun z => ?_, fun _ o ho => ?_⟩)
    · rw [h2.length] at z
      rw [cutL_whole z] at k
      exact k _ F H (Ext.refl s) rx
    · obtain ⟨e1, r1⟩ := new_tup (K := K) (by simpa using hn) s ho (h2.cut lo hi) (Nat.le_trans (cutL_length _ _ _) h3)
      exact k _ _ _ e1 r1
  · rename_i xs
    cases e
    obtain ⟨rfl, h1, h2⟩ := rep_str rx
    refine .inr (.inr ⟨S0 xs, rfl, by rw [S0_len]; exact h2, ?_⟩)
    have e1 : cutS (S0 xs) lo hi = S0 (cutL xs lo hi) := by
      unfold cutS cutL; rw [S0_len, S0_tl]
    rw [e1]
    exact k _ F H (Ext.refl s) (mk_str (List.all_eq_true.mpr fun c hc => List.all_eq_true.mp h1 c (cutL_mem hc)) (Nat.le_trans (cutL_length _ _ _) h2))
  · cases e
/-- a part of a slice: left out, or an int -/
def partR : Option (Env → Res D) → Env → Res (Option Int)
  | none, _ => .ok none
  | some f, ρ => (f ρ).bind fun d => match d with | .int i => .ok (some i) | _ => .bad
def tDO (K : PySem.W.Frag) (E : EX) (f : Env → Res (Option Int)) : TO := fun σ H Q => ∃ F ρ, Same F H ∧ EnvR K F ρ σ ∧ RW (f ρ) (fun o => ∀ F' H', Ext F H F' H' → Q o H') (ExW K E σ H)
theorem do_none {X : Cx} {E : EX} : PO X none (tDO X.K E (partR none)) := ⟨fun pins s σ H Q I ⟨F, ρ, sm, re, h⟩ => po_none.run pins s σ H Q I (h F H (Ext.refl sm))⟩
theorem do_some {X : Cx} {E : EX} {e : Expr} {f : Env → Res D} (h : DE X E e f) : PO X (some e) (tDO X.K E (partR (some f))) := ⟨fun pins s σ H Q I ⟨F, ρ, sm, re, q⟩ => by
  refine (po_some h).run pins s σ H Q I ?_
  refine ⟨F, ρ, sm, re, ?_⟩
  unfold partR at q
  refine RW.imp (RW.bind q) (fun d hd => ?_) fun _ z => z
  intro v F' H' e1 r1
  cases d with
  | int i => exact ⟨i, rep_int r1, hd F' H' e1⟩
  | _ => exact hd.elim⟩
def apSl (fa : Env → Res D) (fl fh : Env → Res (Option Int)) : Env → Res D := fun ρ => (fa ρ).bind fun x => (fl ρ).bind fun l => (fh ρ).bind fun h => slR l h x
theorem nox_sl {l h : Option Int} {x : D} {c : Str} : slR l h x ≠ .exc c := by unfold slR; split <;> (try split) <;> intro z <;> cases z
theorem de_slice {X : Cx} {E : EX} {a : Expr} {fa : Env → Res D} {lo hi : Option Expr} {fl fh : Env → Res (Option Int)} {p2 pos : Pos} (ha : DE X E a fa) (hl : PO X lo (tDO X.K E fl)) (hh : PO X hi (tDO X.K E fh)) : DE X E (.Subscript a (.Slice lo hi none p2) pos) (apSl fa fl fh) :=
  pe_weak (pe_slice sl_all ha hl hh) fun σ H Q ⟨F, ρ, s, re, h⟩ => by
    refine ⟨F, ρ, s, re, RW.imp (RW.bind h) (fun x hx => ?_) fun _ z => z⟩
    intro v F1 H1 e1 r1
    refine ⟨F1, ρ, e1.sub, re.mono e1.grow, RW.imp (RW.bind hx) (fun l hl => ?_) fun _ z => z.mono e1.same⟩
    intro F2 H2 e2
    refine ⟨F2, ρ, e2.sub, (re.mono e1.grow).mono e2.grow, RW.imp (RW.bind hl) (fun u hu => ?_) fun _ z => (z.mono e1.same).mono e2.same⟩
    intro F3 H3 e3
    cases q : slR l u x with
    | ok d =>
      rw [q] at hu
      exact sl_good e3.sub ((r1.mono e2.grow).mono e3.grow) q fun w F4 H4 e4 r4 => hu w F4 H4 (((e1.trans e2).trans e3).trans e4) r4
    | exc c => exact absurd q nox_sl
    | bad => rw [q] at hu; exact hu.elim
end DL
/-! The data layer, 4: lists of arguments, displays, logic, tests, calls of defs. -/
namespace DL
open PySem PySem.Spec L2

section
variable {X : Cx} {E : EX} {a b c : Expr} {es : List Expr} {fa fb fc : Env → Res D} {fs : Env → Res (List D)} {pos : Pos}

/-! ### arguments -/
def argsN (_ : Env) : Res (List D) := .ok []
def argsC (fa : Env → Res D) (fs : Env → Res (List D)) : Env → Res (List D) := fun ρ => (fa ρ).bind fun d => (fs ρ).bind fun ds => .ok (d :: ds)
theorem das_nil : DEs X E [] argsN := pa_weak pa_nil fun σ H Q ⟨F, ρ, s, re, h⟩ => h [] F H (Ext.refl s) Reps.nil
theorem das_cons (ha : DE X E a fa) (hs : DEs X E es fs) (hst : starEach (a :: es) X.env = (false, eval a X.env) :: starEach es X.env) : DEs X E (a :: es) (argsC fa fs) :=
  pa_weak (pa_cons ha hs hst) fun σ H Q ⟨F, ρ, s, re, h⟩ => by
    refine ⟨F, ρ, s, re, RW.imp (RW.bind h) (fun x hx => ?_) fun _ z => z⟩
    intro v F1 H1 e1 r1
    refine ⟨F1, ρ, e1.sub, re.mono e1.grow, RW.imp (RW.bind hx) (fun ds hd => ?_) fun _ z => z.mono e1.same⟩
    intro vs F2 H2 e2 r2
    exact hd (v :: vs) F2 H2 (e1.trans e2) (Reps.cons (r1.mono e2.grow) r2)

/-! ### new lists and dicts that nothing else names -/
/-- what stands at a: a list or a dict that may be changed -/
def OwnAt (K : PySem.W.Frag) (F H : Hp) (a : Addr) : D → Prop
  | .lst ds => ∃ vs, H a = some (.lst vs) ∧ Reps K F ds vs ∧ ds.length ≤ sizeLine
  | .dic false kvs => ∃ hk, H a = some (.dK hk) ∧ RepK K F kvs hk ∧ kvs.length ≤ sizeLine
  | .dic true kvs => ∃ ht, H a = some (.dT ht) ∧ RepT K F kvs ht ∧ kvs.length ≤ sizeLine
  | _ => False
def tDF (K : PySem.W.Frag) (E : EX) (f : Env → Res D) : TE := fun σ H Q => ∃ F ρ, Same F H ∧ EnvR K F ρ σ ∧
  RW (f ρ) (fun d => ∀ p F' H', Ext F H F' H' → H p = none → F' p = none → OwnAt K F' H' p d → Q (.ref p) H') (ExW K E σ H)
def DF (X : Cx) (E : EX) (e : Expr) (f : Env → Res D) : Prop := PE X e (tDF X.K E f)
/-- what came may be locked for good -/
theorem pe_lockpost {e : Expr} {t : TE} (h : PE X e t) (mono : ∀ σ H Q Q', (∀ v H', Q v H' → Q' v H') → t σ H Q → t σ H Q') :
    PE X e (fun σ H Q => t σ H fun v H' => Q v H' ∨ ∃ p u, v = .ref p ∧ H' p = some u ∧ Mut (some u) ∧ ∀ o, Q v (upd H' p (.frz o u))) :=
  ⟨fun pins s σ H Q I q => thn (h.run pins s σ H _ I q) fun v s1 ⟨x, H1, I1, r1, q1⟩ => by
    rcases q1 with q1 | ⟨p, u, e1, e2, e3, q1⟩
    · exact ⟨x, H1, I1, r1, q1⟩
    · obtain ⟨od, I2⟩ := I1.lock e2 e3
      exact ⟨x, _, I2, r1, q1 od⟩⟩
theorem upd_none_same {H F : Hp} {p : Addr} {o : HO} (s : Same F H) (hf : F p = none) : Same F (upd H p o) := fun b x e => by
  rw [upd_ne (ne_of_none e hf)]; exact s b x e
theorem Ext.lock {F H F' H' : Hp} {p : Addr} {o : HO} (e : Ext F H F' H') (h1 : H p = none) (h2 : F' p = none) : Ext F H (upd F' p o) (upd H' p o) :=
  ⟨upd_none_same e.same h1, upd_none_same e.grow (Same.free e.grow h2), fun b x q => by
    by_cases hb : b = p
    · subst hb; rw [upd_same] at q ⊢; exact q
    · rw [upd_ne hb] at q ⊢; exact e.sub b x q, fun x hx hf => by
    by_cases hb : x = p
    · subst hb; exact absurd h1 hx
    · rw [upd_ne hb] at hf; exact e.new x hx hf⟩
theorem tDF_mono {K : PySem.W.Frag} {f : Env → Res D} {σ : L2.St} {H : Hp} {Q Q' : VK} (w : ∀ v H', Q v H' → Q' v H') (h : tDF K E f σ H Q) : tDF K E f σ H Q' := by
  obtain ⟨F, ρ, s, re, h⟩ := h
  exact ⟨F, ρ, s, re, h.imp (fun d hd p F' H' e h1 h2 h3 => w _ _ (hd p F' H' e h1 h2 h3)) fun _ z => z⟩
/-- a new thing, kept as data -/
theorem DF.de (h : DF X E a fa) : DE X E a fa :=
  pe_weak (pe_lockpost h fun σ H Q Q' w q => tDF_mono w q) fun σ H Q ⟨F, ρ, s, re, q⟩ => by
    refine ⟨F, ρ, s, re, RW.imp q (fun d hd => ?_) fun _ z => z⟩
    intro p F' H' e h1 h2 h3
    cases d with
    | lst ds =>
      obtain ⟨vs, g1, g2, g3⟩ := h3
      refine .inl (hd _ (upd F' p (.lst vs)) H' ?_ (mk_lst upd_same (g2.mono (same_upd h2)) g3))
      have e1 := e.lock (o := .lst vs) h1 h2
      have : upd H' p (.lst vs) = H' := by
        funext b
        by_cases hb : b = p
        · subst hb; rw [upd_same, g1]
        · rw [upd_ne hb]
      rw [this] at e1
      exact e1
    | dic t kvs =>
      cases t with
      | false =>
        obtain ⟨hk, g1, g2, g3⟩ := h3
        refine .inr ⟨p, _, rfl, g1, trivial, fun o => hd _ (upd F' p (.frz o (.dK hk))) _ (e.lock h1 h2) ?_⟩
        simp only [Rep]
        exact ⟨p, o, rfl, g3, hk, upd_same, g2.mono (same_upd h2)⟩
      | true =>
        obtain ⟨hk, g1, g2, g3⟩ := h3
        refine .inr ⟨p, _, rfl, g1, trivial, fun o => hd _ (upd F' p (.frz o (.dT hk))) _ (e.lock h1 h2) ?_⟩
        simp only [Rep]
        exact ⟨p, o, rfl, g3, hk, upd_same, g2.mono (same_upd h2)⟩
    | _ => exact h3.elim

/-! ### displays -/
def tupV (fs : Env → Res (List D)) : Env → Res D := fun ρ => (fs ρ).bind fun ds => if tabB ds = true then .bad else .ok (.tup ds)
def lstV (fs : Env → Res (List D)) : Env → Res D := fun ρ => (fs ρ).bind fun ds => .ok (.lst ds)
theorem de_tup {x1} (h : DEs X E es fs) (hl : ∀ ρ ds, fs ρ = .ok ds → ds.length ≤ sizeLine) : DE X E (.Tuple es x1 pos) (tupV fs) :=
  pe_weak (pe_tup h) fun σ H Q ⟨F, ρ, s, re, q⟩ => by
    refine ⟨F, ρ, s, re, ?_⟩
    unfold tupV at q
    cases e : fs ρ with
    | ok ds =>
      rw [e, Res.bind_ok] at q
      split at q
      · exact q.elim
      rename_i hn
      intro vs F1 H1 e1 r1
      have l := hl ρ ds e
      refine ⟨by rw [r1.length]; exact l, fun p hp => ?_⟩
      obtain ⟨e2, r2⟩ := new_tup (K := X.K) (by simpa using hn) e1.sub hp r1 l
      exact q _ _ _ (e1.trans e2) r2
    | exc c => rw [e] at q; exact q
    | bad => rw [e] at q; exact q
theorem df_lst (h : DEs X E es fs) (hl : ∀ ρ ds, fs ρ = .ok ds → ds.length ≤ sizeLine) : DF X E (.List es pos) (lstV fs) :=
  pe_weak (pe_lst h) fun σ H Q ⟨F, ρ, s, re, q⟩ => by
    refine ⟨F, ρ, s, re, ?_⟩
    unfold lstV at q
    cases e : fs ρ with
    | ok ds =>
      rw [e] at q
      intro vs F1 H1 e1 r1
      have l := hl ρ ds e
      refine ⟨by rw [r1.length]; exact l, fun p hp => ?_⟩
      exact q p F1 (upd H1 p (.lst vs)) (e1.trans (Ext.loose _ e1.sub hp)) (Same.free e1.same hp) (Same.free e1.sub hp) ⟨vs, upd_same, r1, l⟩
    | exc c => rw [e] at q; exact q
    | bad => rw [e] at q; exact q
def newD (t : Bool) (_ : Env) : Res D := .ok (.dic t [])
theorem df_newK : DF X E (.Dict [] [] pos) (newD false) :=
  pe_weak pe_dnewK fun σ H Q ⟨F, ρ, s, re, q⟩ p hp => q p F (upd H p (.dK [])) (Ext.loose _ s hp) hp (Same.free s hp) ⟨[], upd_same, by simp only [RepK], Nat.zero_le _⟩
theorem df_newT : DF X E (.Dict [] [] pos) (newD true) :=
  pe_weak pe_dnewT fun σ H Q ⟨F, ρ, s, re, q⟩ p hp => q p F (upd H p (.dT [])) (Ext.loose _ s hp) hp (Same.free s hp) ⟨[], upd_same, by simp only [RepT], Nat.zero_le _⟩
/-- a list and a list, a new one -/
def catD : D → D → Res D
  | .lst s, .lst t => if s.length + t.length ≤ 16777216 then .ok (.lst (s ++ t)) else .bad
  | _, _ => .bad
theorem df_cat {fa fb : Env → Res D} (ha : DE X E a fa) (hb : DE X E b fb) : DF X E (.BinOp a .Add b pos) (ap2 catD fa fb) :=
  pe_weak (pe_op op_cat ha hb) fun σ H Q ⟨F, ρ, s, re, h⟩ => by
    refine two (E := E) s re ?_
    unfold ap2 at h
    cases ea : fa ρ with
    | ok x =>
      rw [ea] at h
      cases eb : fb ρ with
      | ok y =>
        rw [eb] at h
        simp only [Res.bind_ok] at h ⊢
        intro v w F' H' e rx ry
        cases q : catD x y with
        | bad => rw [q] at h; exact h.elim
        | exc c => unfold catD at q; split at q <;> (try split at q) <;> cases q
        | ok d =>
          rw [q] at h
          unfold catD at q
          split at q
          · rename_i s' t'
            split at q
            · rename_i hl
              cases q
              obtain ⟨p, vs, rfl, h1, h2, h3⟩ := rep_lst rx
              obtain ⟨q, ws, rfl, g1, g2, g3⟩ := rep_lst ry
              refine ⟨p, q, vs, ws, rfl, rfl, e.sub _ _ h1, e.sub _ _ g1, by rw [h2.length, g2.length]; exact sz hl, fun o ho => ?_⟩
              exact h o F' _ (e.trans (Ext.loose _ e.sub ho)) (Same.free e.same ho) (Same.free e.sub ho) ⟨_, upd_same, h2.append g2, by rw [List.length_append]; exact sz hl⟩
            · cases q
          · cases q
      | exc c => rw [eb] at h; exact h
      | bad => rw [eb] at h; exact h
    | exc c => rw [ea] at h; exact h
    | bad => rw [ea] at h; exact h

/-! ### tests -/
def tb : D → Res Bool
  | .bl b => .ok b
  | _ => .bad
def tst (f : Env → Res D) : Env → Res Bool := fun ρ => (f ρ).bind tb
theorem dt_val (h : DE X E a fa) (he : ∀ whole, isTrue a X.env whole = (do let v ← whole; standAt a.pos; holding [v] (truthy v))) : DT X E a (tst fa) :=
  pt_weak (pt_val h he) fun σ H Q ⟨F, ρ, s, re, q⟩ => ⟨F, ρ, s, re, RW.imp (RW.bind q) (fun d hd v F' H' e r => by
    cases d with
    | bl b => exact ⟨b, rep_bl r, hd F' H' e⟩
    | _ => exact hd.elim) fun _ z => z⟩
theorem dt_cmp {op : CmpOp} {r : R2} {g : D → D → Res D} (ho : OpR X (compareOp op) r) (hm : behindInMarks op b = false) (hg : Good2 X.K r g) (hn : NoX2 g) (ha : DE X E a fa) (hb : DE X E b fb) : DT X E (.Compare a [op] [b] pos) (tst (ap2 g fa fb)) :=
  pt_weak (pt_cmpR ho ha hb hm) fun σ H Q ⟨F, ρ, s, re, h⟩ => ap2_two hg hn s re (RW.imp (RW.bind h) (fun d hd v F' H' e r => by
    cases d with
    | bl b => exact ⟨b, rep_bl r, hd F' H' e⟩
    | _ => exact hd.elim) fun _ z => z)
/-- a op1 b op2 c -/
def chainV (g g' : D → D → Res D) (fa fb fc : Env → Res D) : Env → Res D := fun ρ => (fa ρ).bind fun x => (fb ρ).bind fun y => (g x y).bind fun z => match z with
  | .bl true => (fc ρ).bind fun w => g' y w
  | .bl false => .ok (.bl false)
  | _ => .bad
theorem chain_two {F : Hp} {ρ : Env} {σ : L2.St} {H : Hp} {r r' : R2} {g g' : D → D → Res D} {Q : VK} (hg : Good2 X.K r g) (hn : NoX2 g) (hg' : Good2 X.K r' g') (hn' : NoX2 g') (s : Same F H) (re : EnvR X.K F ρ σ)
    (h : RW (chainV g g' fa fb fc ρ) (fun d => ∀ v F' H', Ext F H F' H' → Rep X.K F' d v → Q v H') (ExW X.K E σ H)) : tChain r r' (tD X.K E fa) (tD X.K E fb) (tD X.K E fc) σ H Q := by
  unfold tChain
  refine two (E := E) s re ?_
  unfold chainV at h
  cases ea : fa ρ with
  | ok x =>
    rw [ea] at h
    cases eb : fb ρ with
    | ok y =>
      rw [eb] at h
      simp only [Res.bind_ok, RW] at h ⊢
      intro v w F' H' e rx ry
      cases eg : g x y with
      | ok d =>
        rw [eg] at h
        refine hg F' H' x y v w _ e.sub rx ry ⟨d, eg, fun u F2 H2 e2 r2 => ?_⟩
        cases d with
        | bl k =>
          refine ⟨k, rep_bl r2, ?_⟩
          cases k with
          | true =>
            simp only [Res.bind_ok] at h
            rw [if_pos rfl]
            refine ⟨F2, ρ, e2.sub, (re.mono e.grow).mono e2.grow, RW.imp (RW.bind h) (fun z hz => ?_) fun _ q => (q.mono e.same).mono e2.same⟩
            intro u3 F3 H3 e3 r3
            cases eg' : g' y z with
            | ok d' =>
              rw [eg'] at hz
              exact hg' F3 H3 y z w u3 _ e3.sub ((ry.mono e2.grow).mono e3.grow) r3 ⟨d', eg', fun u4 F4 H4 e4 r4 => hz u4 F4 H4 (((e.trans e2).trans e3).trans e4) r4⟩
            | exc c => exact absurd eg' (hn' y z c)
            | bad => rw [eg'] at hz; exact hz.elim
          | false =>
            rw [if_neg Bool.false_ne_true]
            exact h _ F2 H2 (e.trans e2) mk_bl
        | _ => exact h.elim
      | exc c => exact absurd eg (hn x y c)
      | bad => rw [eg] at h; exact h.elim
    | exc c => rw [eb] at h; exact h
    | bad => rw [eb] at h; exact h
  | exc c => rw [ea] at h; exact h
  | bad => rw [ea] at h; exact h
theorem de_chain {op op' : CmpOp} {r r' : R2} {g g' : D → D → Res D} (ho : OpR X (compareOp op) r) (ho' : OpR X (compareOp op') r') (hm : lastMarks [op, op'] [b, c] = false) (hg : Good2 X.K r g) (hn : NoX2 g) (hg' : Good2 X.K r' g') (hn' : NoX2 g')
    (ha : DE X E a fa) (hb : DE X E b fb) (hc : DE X E c fc) : DE X E (.Compare a [op, op'] [b, c] pos) (chainV g g' fa fb fc) :=
  pe_weak (pe_chain ho ho' ha hb hc hm) fun σ H Q ⟨F, ρ, s, re, h⟩ => chain_two hg hn hg' hn' s re h
theorem dt_chain {op op' : CmpOp} {r r' : R2} {g g' : D → D → Res D} (ho : OpR X (compareOp op) r) (ho' : OpR X (compareOp op') r') (hm : lastMarks [op, op'] [b, c] = false) (hg : Good2 X.K r g) (hn : NoX2 g) (hg' : Good2 X.K r' g') (hn' : NoX2 g')
    (ha : DE X E a fa) (hb : DE X E b fb) (hc : DE X E c fc) : DT X E (.Compare a [op, op'] [b, c] pos) (tst (chainV g g' fa fb fc)) :=
  pt_weak (pt_chain ho ho' ha hb hc hm) fun σ H Q ⟨F, ρ, s, re, h⟩ => chain_two hg hn hg' hn' s re (RW.imp (RW.bind h) (fun d hd v F' H' e r => by
    cases d with
    | bl b => exact ⟨b, rep_bl r, hd F' H' e⟩
    | _ => exact hd.elim) fun _ z => z)
/-! and, or, not as tests -/
def andT (f g : Env → Res Bool) : Env → Res Bool := fun ρ => (f ρ).bind fun b => if b = true then g ρ else .ok false
def orT (f g : Env → Res Bool) : Env → Res Bool := fun ρ => (f ρ).bind fun b => if b = true then .ok true else g ρ
def notT (f : Env → Res Bool) : Env → Res Bool := fun ρ => (f ρ).bind fun b => .ok (!b)
def DW (X : Cx) (E : EX) (e : Expr) (f : Env → Res Bool) : Prop := PW X e (tDT X.K E f)
variable {ga gb : Env → Res Bool} {rest : List Expr}
theorem dw_one (op : BoolOp) (h : DT X E a ga) : DW X E (.BoolOp op [a] pos) ga := by
  cases op with
  | And => exact pw_and1 h
  | Or => exact pw_or1 h
theorem dw_and (ha : DT X E a ga) (hb : DW X E (.BoolOp .And (b :: rest) pos) gb) : DW X E (.BoolOp .And (a :: b :: rest) pos) (andT ga gb) :=
  pw_weak (pw_and ha hb) fun σ H Q ⟨F, ρ, s, re, h⟩ => ⟨F, ρ, s, re, RW.imp (RW.bind h) (fun k hk F1 H1 e1 => by
    cases k with
    | true =>
      rw [if_pos rfl] at hk ⊢
      exact ⟨F1, ρ, e1.sub, re.mono e1.grow, RW.imp hk (fun b hb F2 H2 e2 => hb F2 H2 (e1.trans e2)) fun _ z => z.mono e1.same⟩
    | false =>
      rw [if_neg Bool.false_ne_true] at hk ⊢
      exact hk F1 H1 e1) fun _ z => z⟩
theorem dw_or (ha : DT X E a ga) (hb : DW X E (.BoolOp .Or (b :: rest) pos) gb) : DW X E (.BoolOp .Or (a :: b :: rest) pos) (orT ga gb) :=
  pw_weak (pw_or ha hb) fun σ H Q ⟨F, ρ, s, re, h⟩ => ⟨F, ρ, s, re, RW.imp (RW.bind h) (fun k hk F1 H1 e1 => by
    cases k with
    | false =>
      rw [if_neg Bool.false_ne_true] at hk ⊢
      exact ⟨F1, ρ, e1.sub, re.mono e1.grow, RW.imp hk (fun b hb F2 H2 e2 => hb F2 H2 (e1.trans e2)) fun _ z => z.mono e1.same⟩
    | true =>
      rw [if_pos rfl] at hk ⊢
      exact hk F1 H1 e1) fun _ z => z⟩
theorem DW.dt (h : DW X E a ga) : DT X E a ga := PW.pt h
theorem dt_not (h : DT X E a ga) : DT X E (.UnaryOp .Not a pos) (notT ga) :=
  pt_weak (pt_not h) fun σ H Q ⟨F, ρ, s, re, h⟩ => ⟨F, ρ, s, re, RW.imp (RW.bind h) (fun k hk F1 H1 e1 => hk F1 H1 e1) fun _ z => z⟩
/-! .. as values -/
def andV (fa fb : Env → Res D) : Env → Res D := fun ρ => (fa ρ).bind fun x => match x with | .bl true => fb ρ | .bl false => .ok (.bl false) | _ => .bad
def orV (fa fb : Env → Res D) : Env → Res D := fun ρ => (fa ρ).bind fun x => match x with | .bl false => fb ρ | .bl true => .ok (.bl true) | _ => .bad
def notV (fa : Env → Res D) : Env → Res D := fun ρ => (fa ρ).bind fun x => match x with | .bl b => .ok (.bl (!b)) | _ => .bad
def ifV (g : Env → Res Bool) (fa fb : Env → Res D) : Env → Res D := fun ρ => (g ρ).bind fun b => if b = true then fa ρ else fb ρ
theorem de_one {op : BoolOp} (h : DE X E a fa) : DE X E (.BoolOp op [a] pos) fa := pe_one h
theorem de_and (ha : DE X E a fa) (hb : DE X E (.BoolOp .And (b :: rest) pos) fb) : DE X E (.BoolOp .And (a :: b :: rest) pos) (andV fa fb) :=
  pe_weak (pe_and ha hb) fun σ H Q ⟨F, ρ, s, re, h⟩ => ⟨F, ρ, s, re, RW.imp (RW.bind h) (fun x hx v F1 H1 e1 r1 => by
    cases x with
    | bl k =>
      refine ⟨k, rep_bl r1, ?_⟩
      cases k with
      | true => rw [if_pos rfl]; exact ⟨F1, ρ, e1.sub, re.mono e1.grow, RW.imp hx (fun d hd w F2 H2 e2 r2 => hd w F2 H2 (e1.trans e2) r2) fun _ z => z.mono e1.same⟩
      | false => rw [if_neg Bool.false_ne_true]; exact hx _ F1 H1 e1 mk_bl
    | _ => exact hx.elim) fun _ z => z⟩
theorem de_or (ha : DE X E a fa) (hb : DE X E (.BoolOp .Or (b :: rest) pos) fb) : DE X E (.BoolOp .Or (a :: b :: rest) pos) (orV fa fb) :=
  pe_weak (pe_or ha hb) fun σ H Q ⟨F, ρ, s, re, h⟩ => ⟨F, ρ, s, re, RW.imp (RW.bind h) (fun x hx v F1 H1 e1 r1 => by
    cases x with
    | bl k =>
      refine ⟨k, rep_bl r1, ?_⟩
      cases k with
      | false => rw [if_neg Bool.false_ne_true]; exact ⟨F1, ρ, e1.sub, re.mono e1.grow, RW.imp hx (fun d hd w F2 H2 e2 r2 => hd w F2 H2 (e1.trans e2) r2) fun _ z => z.mono e1.same⟩
      | true => rw [if_pos rfl]; exact hx _ F1 H1 e1 mk_bl
    | _ => exact hx.elim) fun _ z => z⟩
theorem de_not (ha : DE X E a fa) : DE X E (.UnaryOp .Not a pos) (notV fa) :=
  pe_weak (pe_not ha) fun σ H Q ⟨F, ρ, s, re, h⟩ => ⟨F, ρ, s, re, RW.imp (RW.bind h) (fun x hx v F1 H1 e1 r1 => by
    cases x with
    | bl k => exact ⟨k, rep_bl r1, hx _ F1 H1 e1 mk_bl⟩
    | _ => exact hx.elim) fun _ z => z⟩
theorem de_if (hc : DT X E c ga) (ha : DE X E a fa) (hb : DE X E b fb) : DE X E (.IfExp c a b pos) (ifV ga fa fb) :=
  pe_weak (pe_ifExp hc ha hb) fun σ H Q ⟨F, ρ, s, re, h⟩ => ⟨F, ρ, s, re, RW.imp (RW.bind h) (fun k hk F1 H1 e1 => by
    cases k with
    | true => rw [if_pos rfl] at hk ⊢; exact ⟨F1, ρ, e1.sub, re.mono e1.grow, RW.imp hk (fun d hd w F2 H2 e2 r2 => hd w F2 H2 (e1.trans e2) r2) fun _ z => z.mono e1.same⟩
    | false => rw [if_neg Bool.false_ne_true] at hk ⊢; exact ⟨F1, ρ, e1.sub, re.mono e1.grow, RW.imp hk (fun d hd w F2 H2 e2 r2 => hd w F2 H2 (e1.trans e2) r2) fun _ z => z.mono e1.same⟩) fun _ z => z⟩
theorem de_neg (ha : DE X E a fa) : DE X E (.UnaryOp .USub a pos) (fun ρ => (fa ρ).bind fun x => match x with | .int i => .ok (.int (-i)) | _ => .bad) :=
  pe_weak (pe_un un_neg ha) fun σ H Q ⟨F, ρ, s, re, h⟩ => ⟨F, ρ, s, re, RW.imp (RW.bind h) (fun x hx v F1 H1 e1 r1 => by
    cases x with
    | int k => exact ⟨k, rep_int r1, hx _ F1 H1 e1 mk_int⟩
    | _ => exact hx.elim) fun _ z => z⟩
end

/-! ### defs -/
/-- a def's promise by a function of data -/
def spD (K : PySem.W.Frag) (n : Nat) (Φ : List D → Res D) : Sp := fun vs H Q E => ∃ F ds, Same F H ∧ Reps K F ds vs ∧ ds.length = n ∧
  RW (Φ ds) (fun d => ∀ v F' H', Ext F H F' H' → Rep K F' d v → Q v H') fun c => ∀ H', Same H H' → E (.ref (He.ga K c)) none H'
/-- the def of that name, with n parameters, answers as Φ; it is at level k -/
structure FnD (P : Program) (w : World) (K : PySem.W.Frag) (mg : Str → Option Value) (base : Heap) (k : Nat) (x : Str) (n : Nat) (Φ : List D → Res D) : Prop where
  ex : ∃ (f : Addr) (fd : FuncData) (ps : List Str), mg x = some (.ref f) ∧ PySem.W.keepIn K (.ref f) = true ∧ Binds K fd ps [] ∧ ps.length = n ∧ FnOk P w K mg base (L2.CX P w) k f fd ps (spD K n Φ)
theorem FnD.mono {P : Program} {w : World} {K : PySem.W.Frag} {mg : Str → Option Value} {base : Heap} {j k : Nat} {x : Str} {n : Nat} {Φ : List D → Res D} (h : FnD P w K mg base j x n Φ) (hj : j ≤ k) : FnD P w K mg base k x n Φ := by
  obtain ⟨f, fd, ps, h1, h2, h3, h4, h5⟩ := h.ex
  exact ⟨f, fd, ps, h1, h2, h3, h4, h5.mono hj⟩
def callV (n : Nat) (Φ : List D → Res D) (fs : Env → Res (List D)) : Env → Res D := fun ρ => (fs ρ).bind fun ds => if ds.length = n then Φ ds else .bad
theorem de_call {X : Cx} {E : EX} {k n : Nat} {x : Str} {Φ : List D → Res D} {a : Expr} {es : List Expr} {fs : Env → Res (List D)} {p pos : Pos} (h : FnD X.prog X.w X.K X.mg X.base k x n Φ) (hr : Room k X.A) (hg : Gl X x)
    (hx : ∀ σ, PassesAt (L2.CX X.prog X.w) X σ (E σ)) (ha : DEs X E (a :: es) fs) (hdb : (x == ("__debug__" : Str)) = false) (he : starEach (a :: es) X.env = (false, eval a X.env) :: starEach es X.env) (hpl : (backTo pos (starEach es X.env)).any (·.1) = false) :
    DE X E (.Call (.Name x p) (a :: es) [] pos) (callV n Φ fs) := by
  obtain ⟨f, fd, ps, h1, h2, h3, h4, h5⟩ := h.ex
  exact pe_weak (pe_callS h5 hr hg h1 h2 h3 hx ha hdb he hpl) fun σ H Q ⟨F, ρ, s, re, q⟩ => ⟨F, ρ, s, re, RW.imp (RW.bind q) (fun ds hd vs F1 H1 e1 r1 => by
    split at hd
    · rename_i hl
      exact ⟨F1, ds, e1.sub, r1, hl, RW.imp hd (fun d hd v F2 H2 e2 r2 => hd v F2 H2 (e1.trans e2) r2) fun c z H2 s2 => z H2 (e1.same.trans s2)⟩
    · exact hd.elim) fun _ z => z⟩
end DL
/-! The data layer, 5: what is walked, targets, comprehensions. -/
namespace DL
open PySem PySem.Spec L2

/-- the walk J yields the data items, wherever F has grown -/
def ItR (K : PySem.W.Frag) (J : It) (F : Hp) (items : List D) : Prop := ∀ F' H', Same F F' → Same F' H' →
  (∀ i d, items[i]? = some d → J.go i H' ∧ ∀ x H'', J.yld i H' x H'' → ∃ F'', Ext F' H' F'' H'' ∧ Rep K F'' d x) ∧ J.stop items.length H'
theorem ItR.mono {K : PySem.W.Frag} {J : It} {F F1 : Hp} {items : List D} (h : ItR K J F items) (s : Same F F1) : ItR K J F1 items := fun F' H' s1 s2 => h F' H' (s.trans s1) s2
def tI (K : PySem.W.Frag) (E : EX) (fi : Env → Res (List D)) : TI := fun σ H R => ∃ F ρ, Same F H ∧ EnvR K F ρ σ ∧
  RW (fi ρ) (fun items => ∀ J F' H', Ext F H F' H' → ItR K J F' items → items.length ≤ sizeLine → R J H') (ExW K E σ H)
def DI (X : Cx) (E : EX) (tg iter : Expr) (fi : Env → Res (List D)) : Prop := PI X tg iter (tI X.K E fi)
theorem pi_weak {X : Cx} {tg e : Expr} {t t' : TI} (h : PI X tg e t) (w : ∀ σ H R, t' σ H R → t σ H R) : PI X tg e t' := ⟨fun pins s σ H R I q => h.run pins s σ H R I (w σ H R q)⟩
theorem pi_or {X : Cx} {tg e : Expr} {t t' : TI} (h : PI X tg e t) (h' : PI X tg e t') : PI X tg e (fun σ H R => t σ H R ∨ t' σ H R) :=
  ⟨fun pins s σ H R I q => q.elim (fun z => h.run pins s σ H R I z) fun z => h'.run pins s σ H R I z⟩

section
variable {K : PySem.W.Frag} {F : Hp}
theorem itr_list {a : Addr} {ds : List D} {vs : List V} (h : F a = some (.lst vs)) (r : Reps K F ds vs) : ItR K (Itl K a) F ds := fun F' H' s1 s2 => by
  have hq : SqL K H' a vs := SqL.of (s2 _ _ (s1 _ _ h))
  refine ⟨fun i d e => ?_, ⟨vs, hq, by rw [r.length]; exact Nat.le_refl _⟩⟩
  obtain ⟨v, e1, e2⟩ := r.get e
  refine ⟨⟨vs, v, hq, e1⟩, fun x H'' y => ?_⟩
  obtain ⟨rfl, y⟩ := y
  have : some x = some v := (y vs hq).symm.trans e1
  cases this
  exact ⟨F', Ext.refl s2, e2.mono s1⟩
theorem itr_tup {a : Addr} {ds : List D} {vs : List V} (h : TupF F a ds vs) (r : Reps K F ds vs) : ItR K (Itt K a) F ds := fun F' H' s1 s2 => by
  have hq : SqT K H' a vs := h.sq (s1.trans s2)
  refine ⟨fun i d e => ?_, ⟨vs, hq, by rw [r.length]; exact Nat.le_refl _⟩⟩
  obtain ⟨v, e1, e2⟩ := r.get e
  refine ⟨⟨vs, v, hq, e1⟩, fun x H'' y => ?_⟩
  obtain ⟨rfl, y⟩ := y
  have : some x = some v := (y vs hq).symm.trans e1
  cases this
  exact ⟨F', Ext.refl s2, e2.mono s1⟩
/-- the signs of a text -/
def signs (s : List Nat) : List D := s.map fun c => .str [c]
theorem mk_sign {F : Hp} {c : Nat} {s : List Nat} (h : s.all (· < 0x110000) = true) (hc : c ∈ s) : Rep K F (.str [c]) (.str (S0 [c])) :=
  mk_str (by rw [List.all_cons, List.all_nil, Bool.and_true]; exact List.all_eq_true.mp h c hc) (by rw [PySem.sizeLine_eq]; show 1 ≤ 16777216; decide)
theorem itr_str {s : List Nat} (h : s.all (· < 0x110000) = true) : ItR K (Its (S0 s)) F (signs s) := fun F' H' s1 s2 => by
  have hl : (S0 s).cps.size = s.length := by simp
  refine ⟨fun i d e => ?_, by
    show (S0 s).cps.size ≤ (signs s).length
    rw [hl]; simp [signs]⟩
  unfold signs at e
  rw [List.getElem?_map] at e
  cases q : s[i]? with
  | none => rw [q] at e; cases e
  | some c =>
    rw [q] at e; cases e
    have hi : i < s.length := (List.getElem?_eq_some_iff.mp q).1
    refine ⟨show i < (S0 s).cps.size by rw [hl]; exact hi, fun x H'' y => ?_⟩
    obtain ⟨rfl, c', e1, rfl⟩ := y
    have : some c' = some c := by rw [← e1, ← q]; simp
    cases this
    exact ⟨F', Ext.refl s2, mk_sign h (List.mem_of_getElem? q)⟩
def intsD (lo : Int) (n : Nat) : List D := (List.range n).map fun i => .int (lo + (i : Nat))
theorem itr_range {lo : Int} {n : Nat} : ItR K (Itr lo n) F (intsD lo n) := fun F' H' s1 s2 => by
  refine ⟨fun i d e => ?_, by show n ≤ (intsD lo n).length; simp [intsD]⟩
  unfold intsD at e
  rw [List.getElem?_map] at e
  cases q : (List.range n)[i]? with
  | none => rw [q] at e; cases e
  | some j =>
    rw [q] at e; cases e
    obtain ⟨hi, hj⟩ := List.getElem?_eq_some_iff.mp q
    rw [List.getElem_range] at hj
    subst hj
    rw [List.length_range] at hi
    refine ⟨hi, fun x H'' y => ?_⟩
    obtain ⟨rfl, rfl⟩ := y
    exact ⟨F', Ext.refl s2, mk_int⟩
theorem RepK.get : ∀ {kvs : List (D × D)} {hk : List (Key × V)} {i : Nat} {p : D × D}, RepK K F kvs hk → kvs[i]? = some p → ∃ k v, hk[i]? = some (k, v) ∧ Rep K F p.1 (kV k) ∧ Rep K F p.2 v
  | [], hk, i, p, h, e => by simp at e
  | (k, d) :: kvs, hk, 0, p, h, e => by
    simp only [RepK] at h
    obtain ⟨k', v, r, rfl, h1, h2⟩ := h
    simp at e; subst e
    simp only [RepKV] at h1
    exact ⟨k', v, rfl, h1.1, h1.2⟩
  | (k, d) :: kvs, hk, i + 1, p, h, e => by
    simp only [RepK] at h
    obtain ⟨k', v, r, rfl, h1, h2⟩ := h
    obtain ⟨k2, v2, e2, r2⟩ := RepK.get (i := i) (p := p) h2 (by simpa using e)
    exact ⟨k2, v2, by simpa using e2, r2⟩
theorem RepT.get : ∀ {kvs : List (D × D)} {hk : List (List Key × V)} {i : Nat} {p : D × D}, RepT K F kvs hk → kvs[i]? = some p → ∃ k v, hk[i]? = some (k, v) ∧ RepTK K F p.1 k ∧ Rep K F p.2 v
  | [], hk, i, p, h, e => by simp at e
  | (k, d) :: kvs, hk, 0, p, h, e => by
    simp only [RepT] at h
    obtain ⟨k', v, r, rfl, h1, h2⟩ := h
    simp at e; subst e
    simp only [RepTV] at h1
    exact ⟨k', v, rfl, h1.1, h1.2⟩
  | (k, d) :: kvs, hk, i + 1, p, h, e => by
    simp only [RepT] at h
    obtain ⟨k', v, r, rfl, h1, h2⟩ := h
    obtain ⟨k2, v2, e2, r2⟩ := RepT.get (i := i) (p := p) h2 (by simpa using e)
    exact ⟨k2, v2, by simpa using e2, r2⟩
theorem RepK.length : ∀ {kvs : List (D × D)} {hk : List (Key × V)}, RepK K F kvs hk → hk.length = kvs.length
  | [], hk, h => by simp only [RepK] at h; subst h; rfl
  | (k, d) :: kvs, hk, h => by
    simp only [RepK] at h
    obtain ⟨k', v, r, rfl, h1, h2⟩ := h
    simp [RepK.length h2]
theorem RepT.length : ∀ {kvs : List (D × D)} {hk : List (List Key × V)}, RepT K F kvs hk → hk.length = kvs.length
  | [], hk, h => by simp only [RepT] at h; subst h; rfl
  | (k, d) :: kvs, hk, h => by
    simp only [RepT] at h
    obtain ⟨k', v, r, rfl, h1, h2⟩ := h
    simp [RepT.length h2]
theorem itr_keysK {a : Addr} {o : Obj} {kvs : List (D × D)} {hk : List (Key × V)} (h : F a = some (.frz o (.dK hk))) (r : RepK K F kvs hk) : ItR K (Itk a o hk) F (kvs.map (·.1)) := fun F' H' s1 s2 => by
  have hq := s2 _ _ (s1 _ _ h)
  refine ⟨fun i d e => ?_, ⟨hq, by rw [r.length]; simp⟩⟩
  rw [List.getElem?_map] at e
  cases q : kvs[i]? with
  | none => rw [q] at e; cases e
  | some p =>
    rw [q] at e; cases e
    obtain ⟨k, v, e1, e2, e3⟩ := r.get q
    refine ⟨⟨hq, (List.getElem?_eq_some_iff.mp e1).1⟩, fun x H'' y => ?_⟩
    obtain ⟨rfl, k', v', e4, rfl⟩ := y
    rw [e1] at e4; cases e4
    exact ⟨F', Ext.refl s2, e2.mono s1⟩
/-- a tuple that stands there may be told of -/
theorem Ext.seen {F H : Hp} {q : Addr} {vs : List V} (s : Same F H) (h : H q = some (.tup vs)) : Ext F H (upd F q (.tup vs)) H :=
  ⟨Same.refl _, fun c z hz => by
    by_cases hc : c = q
    · subst hc
      have := (s _ _ hz).symm.trans h
      cases this; rw [upd_same]
    · rw [upd_ne hc]; exact hz, fun c z hz => by
    by_cases hc : c = q
    · subst hc; rw [upd_same] at hz; rw [← hz]; exact h
    · rw [upd_ne hc] at hz; exact s _ _ hz, fun c h1 h2 => by
    by_cases hc : c = q
    · subst hc; exact .inr ⟨vs, h⟩
    · rw [upd_ne hc] at h2; exact .inl h2⟩
theorem tab_keys {K : PySem.W.Frag} {F : Hp} {ds : List D} {ks : List Key} (h : Reps K F ds (ks.map kV)) : tabB ds = false := by
  cases ds with
  | nil => rfl
  | cons d ds =>
    obtain ⟨v, r, e, h1, _⟩ := h.uncons
    cases d with
    | tup xs =>
      obtain ⟨a, vs, rfl, _⟩ := rep_tup h1
      cases ks with
      | nil => cases e
      | cons k ks =>
        rw [List.map_cons] at e
        injection e with e _
        cases k <;> cases e
    | _ => rfl
theorem tab_kv {K : PySem.W.Frag} {F : Hp} {d e : D} {k : Key} (h : Rep K F d (kV k)) : tabB [d, e] = false := by
  cases d with
  | tup xs =>
    obtain ⟨a, vs, z, _⟩ := rep_tup h
    cases k <;> cases z
  | _ => rfl
/-- the keys of a dict whose keys are tuples -/
theorem itr_keysT {a : Addr} {o : Obj} {kvs : List (D × D)} {ht : List (List Key × V)} (h : F a = some (.frz o (.dT ht))) (r : RepT K F kvs ht) : ItR K (Itkt a o ht) F (kvs.map (·.1)) := fun F' H' s1 s2 => by
  have hq := s2 _ _ (s1 _ _ h)
  refine ⟨fun i d e => ?_, ⟨hq, by rw [r.length]; simp⟩⟩
  rw [List.getElem?_map] at e
  cases q : kvs[i]? with
  | none => rw [q] at e; cases e
  | some p =>
    rw [q] at e; cases e
    obtain ⟨k, v, e1, e2, e3⟩ := r.get q
    refine ⟨⟨hq, (List.getElem?_eq_some_iff.mp e1).1⟩, fun x H'' y => ?_⟩
    obtain ⟨rfl, k', v', b, e4, rfl, hb⟩ := y
    rw [e1] at e4; cases e4
    have x1 := Ext.seen s2 hb
    refine ⟨_, x1, ?_⟩
    obtain ⟨kd, vd⟩ := p
    cases kd with
    | tup ds =>
      simp only [RepTK] at e2
      exact mk_tup (tab_keys e2.1) upd_same ((e2.1.mono s1).mono x1.grow) e2.2
    | _ => simp only [RepTK] at e2
theorem itr_vals {a : Addr} {o : Obj} {kvs : List (D × D)} {hk : List (Key × V)} (h : F a = some (.frz o (.dK hk))) (r : RepK K F kvs hk) : ItR K (Itd a o hk) F (kvs.map (·.2)) := fun F' H' s1 s2 => by
  have hq := s2 _ _ (s1 _ _ h)
  refine ⟨fun i d e => ?_, ⟨hq, by rw [r.length]; simp⟩⟩
  rw [List.getElem?_map] at e
  cases q : kvs[i]? with
  | none => rw [q] at e; cases e
  | some p =>
    rw [q] at e; cases e
    obtain ⟨k, v, e1, e2, e3⟩ := r.get q
    refine ⟨⟨hq, (List.getElem?_eq_some_iff.mp e1).1⟩, fun x H'' y => ?_⟩
    obtain ⟨rfl, k', e4⟩ := y
    rw [e1] at e4; cases e4
    exact ⟨F', Ext.refl s2, e3.mono s1⟩
theorem itr_items {a : Addr} {o : Obj} {kvs : List (D × D)} {hk : List (Key × V)} (h : F a = some (.frz o (.dK hk))) (r : RepK K F kvs hk) : ItR K (Iti a o hk) F (kvs.map fun p => .tup [p.1, p.2]) := fun F' H' s1 s2 => by
  have hq := s2 _ _ (s1 _ _ h)
  refine ⟨fun i d e => ?_, ⟨hq, by rw [r.length]; simp⟩⟩
  rw [List.getElem?_map] at e
  cases q : kvs[i]? with
  | none => rw [q] at e; cases e
  | some p =>
    rw [q] at e; cases e
    obtain ⟨k, v, e1, e2, e3⟩ := r.get q
    refine ⟨⟨hq, (List.getElem?_eq_some_iff.mp e1).1⟩, fun x H'' y => ?_⟩
    obtain ⟨T, k', v', e4, rfl, hT, rfl⟩ := y
    rw [e1] at e4; cases e4
    obtain ⟨x1, x2⟩ := new_tup (K := K) (tab_kv e2) s2 hT (Reps.cons (e2.mono s1) (Reps.cons (e3.mono s1) Reps.nil)) (by rw [PySem.sizeLine_eq]; show 2 ≤ 16777216; decide)
    exact ⟨_, x1, x2⟩
/-- pairs (place, item) -/
def enumD (ds : List D) : List D := (List.range ds.length).map fun i => .tup [.int (i : Nat), ds.getD i .non]
theorem enumD_get {ds : List D} {i : Nat} {d : D} (e : (enumD ds)[i]? = some d) : ∃ x, ds[i]? = some x ∧ d = .tup [.int (i : Nat), x] := by
  unfold enumD at e
  rw [List.getElem?_map] at e
  cases q : (List.range ds.length)[i]? with
  | none => rw [q] at e; cases e
  | some j =>
    rw [q] at e; cases e
    obtain ⟨hi, hj⟩ := List.getElem?_eq_some_iff.mp q
    rw [List.getElem_range] at hj
    subst hj
    rw [List.length_range] at hi
    exact ⟨ds[i], List.getElem?_eq_getElem hi, by show D.tup [_, ds.getD i .non] = _; rw [List.getD_eq_getElem?_getD, List.getElem?_eq_getElem hi]; rfl⟩
theorem enumD_length (ds : List D) : (enumD ds).length = ds.length := by simp [enumD]
theorem itr_enum {a : Addr} {ds : List D} {vs : List V} (h : F a = some (.lst vs)) (r : Reps K F ds vs) : ItR K (Ite K a) F (enumD ds) := fun F' H' s1 s2 => by
  have hq : SqL K H' a vs := SqL.of (s2 _ _ (s1 _ _ h))
  refine ⟨fun i d e => ?_, ⟨vs, hq, by rw [r.length, enumD_length]; exact Nat.le_refl _⟩⟩
  obtain ⟨x, ex, rfl⟩ := enumD_get e
  obtain ⟨v, e1, e2⟩ := r.get ex
  refine ⟨⟨vs, v, hq, e1⟩, fun y H'' hy => ?_⟩
  obtain ⟨T, u, rfl, hT, rfl, hu⟩ := hy
  have : some u = some v := (hu vs hq).symm.trans e1
  cases this
  obtain ⟨x1, x2⟩ := new_tup (K := K) rfl s2 hT (Reps.cons mk_int (Reps.cons (e2.mono s1) Reps.nil)) (by rw [PySem.sizeLine_eq]; show 2 ≤ 16777216; decide)
  exact ⟨_, x1, x2⟩
def zipD (ds es : List D) : List D := (ds.zip es).map fun p => .tup [p.1, p.2]
theorem zipD_get {ds es : List D} {i : Nat} {d : D} (e : (zipD ds es)[i]? = some d) : ∃ x y, ds[i]? = some x ∧ es[i]? = some y ∧ d = .tup [x, y] := by
  unfold zipD at e
  rw [List.getElem?_map] at e
  cases q : (ds.zip es)[i]? with
  | none => rw [q] at e; cases e
  | some p =>
    rw [q] at e; cases e
    rw [List.getElem?_zip_eq_some] at q
    exact ⟨p.1, p.2, q.1, q.2, rfl⟩
theorem zipD_length (ds es : List D) : (zipD ds es).length = min ds.length es.length := by simp [zipD]
end

/-! ### what is walked -/
/-- the items of a list, a tuple, a text; the keys of a dict -/
def itemsOf : D → Res (List D)
  | .lst ds => .ok ds
  | .tup ds => .ok ds
  | .str s => .ok (signs s)
  | .dic _ kvs => .ok (kvs.map (·.1))
  | _ => .bad
section
variable {X : Cx} {E : EX} {tg e e2 : Expr} {f f2 : Env → Res D} {fs : Env → Res (List D)}
theorem tD_imp {K : PySem.W.Frag} {f : Env → Res D} {σ : L2.St} {F H : Hp} {ρ : Env} {Q : VK} {ex : Str → Prop} {ok : D → Prop} (s : Same F H) (re : EnvR K F ρ σ) (h : RW (f ρ) ok (ExW K E σ H)) (w : ∀ d, f ρ = .ok d → ok d → ∀ v F' H', Ext F H F' H' → Rep K F' d v → Q v H') : tD K E f σ H Q := by
  refine ⟨F, ρ, s, re, ?_⟩
  cases q : f ρ with
  | ok d => rw [q] at h; exact w d q h
  | exc c => rw [q] at h; exact h
  | bad => rw [q] at h; exact h
theorem di_val (h : DE X E e f) : DI X E tg e (fun ρ => (f ρ).bind itemsOf) :=
  pi_weak (pi_or (pi_list (tg := tg) h) (pi_or (pi_tup h) (pi_or (pi_str h) (pi_keys h)))) fun σ H R ⟨F, ρ, s, re, q⟩ => by
    have q' := RW.bind q
    cases ef : f ρ with
    | bad => rw [ef] at q'; exact q'.elim
    | exc c =>
      rw [ef] at q'
      exact .inl ⟨F, ρ, s, re, by rw [ef]; exact q'⟩
    | ok d =>
      rw [ef] at q'
      cases d with
      | lst ds =>
        refine .inl ⟨F, ρ, s, re, ?_⟩
        rw [ef]
        intro v F' H' e1 r1
        obtain ⟨a, vs, rfl, h1, h2, h3⟩ := rep_lst r1
        exact ⟨a, rfl, ⟨vs, SqL.of (e1.sub _ _ h1)⟩, q' _ F' H' e1 (itr_list h1 h2) h3⟩
      | tup ds =>
        refine .inr (.inl ⟨F, ρ, s, re, ?_⟩)
        rw [ef]
        intro v F' H' e1 r1
        obtain ⟨a, vs, rfl, h1, h2, h3⟩ := rep_tup r1
        exact ⟨a, rfl, ⟨vs, h1.sq e1.sub⟩, q' _ F' H' e1 (itr_tup h1 h2) h3⟩
      | str z =>
        refine .inr (.inr (.inl ⟨F, ρ, s, re, ?_⟩))
        rw [ef]
        intro v F' H' e1 r1
        obtain ⟨rfl, h1, h2⟩ := rep_str r1
        exact ⟨S0 z, rfl, q' _ F' H' e1 (itr_str h1) (by unfold signs; rw [List.length_map]; exact h2)⟩
      | dic t kvs =>
        refine .inr (.inr (.inr ⟨F, ρ, s, re, ?_⟩))
        rw [ef]
        intro v F' H' e1 r1
        cases t with
        | false =>
          simp only [Rep] at r1
          obtain ⟨a, o, rfl, h3, hk, h1, h2⟩ := r1
          exact ⟨a, o, rfl, .inl ⟨hk, e1.sub _ _ h1, q' _ F' H' e1 (itr_keysK h1 h2) (by rw [List.length_map]; exact h3)⟩⟩
        | true =>
          simp only [Rep] at r1
          obtain ⟨a, o, rfl, h3, hk, h1, h2⟩ := r1
          exact ⟨a, o, rfl, .inr ⟨hk, e1.sub _ _ h1, q' _ F' H' e1 (itr_keysT h1 h2) (by rw [List.length_map]; exact h3)⟩⟩
      | _ => exact q'.elim
theorem intsD_length (lo : Int) (n : Nat) : (intsD lo n).length = n := by simp [intsD]
/-- range(n), range(m, n) -/
def rng1 : List D → Res (List D)
  | [.int j] => if j ≤ 16777216 ∧ -16777216 ≤ j then .ok (intsD 0 j.toNat) else .bad
  | _ => .bad
def rng2 : List D → Res (List D)
  | [.int i, .int j] => if -16777216 ≤ i ∧ i ≤ 16777216 ∧ -16777216 ≤ j ∧ j ≤ 16777216 ∧ j - i ≤ 16777216 then .ok (intsD i (j - i).toNat) else .bad
  | _ => .bad
theorem di_range1 {a : Expr} {p pos : Pos} (hg : Gl X "range") (hm : X.mg "range" = none) (ha : DEs X E [a] fs) (hs : starEach [a] X.env = [(false, eval a X.env)]) : DI X E tg (.Call (.Name "range" p) [a] [] pos) (fun ρ => (fs ρ).bind rng1) :=
  pi_weak (pi_range1 hg hm ha hs) fun σ H R ⟨F, ρ, s, re, q⟩ => ⟨F, ρ, s, re, RW.imp (RW.bind q) (fun ds hd vs F' H' e1 r1 => by
    unfold rng1 at hd
    split at hd
    · rename_i j
      split at hd
      · rename_i hj
        obtain ⟨v, r, rfl, h1, h2⟩ := r1.uncons
        have := h2.nil_eq; subst this
        rw [rep_int h1]
        exact ⟨j, rfl, by omega, by omega, hd _ F' H' e1 itr_range (by rw [intsD_length]; exact sz (by omega))⟩
      · exact hd.elim
    · exact hd.elim) fun _ z => z⟩
theorem di_range2 {a b : Expr} {p pos : Pos} (hg : Gl X "range") (hm : X.mg "range" = none) (ha : DEs X E [a, b] fs) (hs : starEach [a, b] X.env = [(false, eval a X.env), (false, eval b X.env)]) (hs2 : starEach [b] X.env = [(false, eval b X.env)]) : DI X E tg (.Call (.Name "range" p) [a, b] [] pos) (fun ρ => (fs ρ).bind rng2) :=
  pi_weak (pi_range2 hg hm ha hs hs2) fun σ H R ⟨F, ρ, s, re, q⟩ => ⟨F, ρ, s, re, RW.imp (RW.bind q) (fun ds hd vs F' H' e1 r1 => by
    unfold rng2 at hd
    split at hd
    · rename_i i j
      split at hd
      · rename_i hj
        obtain ⟨v, r, rfl, h1, h2⟩ := r1.uncons
        obtain ⟨v', r', rfl, h1', h2'⟩ := h2.uncons
        have := h2'.nil_eq; subst this
        rw [rep_int h1, rep_int h1']
        exact ⟨i, j, rfl, ⟨by omega, by omega, by omega, by omega⟩, hd _ F' H' e1 itr_range (by rw [intsD_length]; exact sz (by omega))⟩
      · exact hd.elim
    · exact hd.elim) fun _ z => z⟩
end
end DL
/-! The data layer, 5b: enumerate and zip over lists, tuples, texts in any mix. -/
namespace DL
open PySem PySem.Spec L2

theorem meets_enum1 {v : Value} {o : Obj} {H : Heap → Prop} (B : Begins v o H) :
    Meets (Builtin.«enumerate.__new__» ⟨[.type "enumerate", v], []⟩) (fun _ R s => H s.heap ∧
      R (.ok (.ret (.ref (s.heap.push o).objs.size))) { s with heap := (s.heap.push o).push { cls := .type "enumerate", data := .fields #[.none, .bool false, .ref s.heap.objs.size, rawInt 0, .none, .none] } }) :=
  .of_wp fun prog w A R s h => by
    obtain ⟨hp, g, d, tk, os⟩ := s; obtain ⟨h1, h⟩ := h
    have hsub := sub_enumerate
    have q1 : ∀ {A' : Around} {E : Value → Shared → Prop} {Q : Value → Shared → Prop}, Q (.ref hp.objs.size) ⟨hp.push o, g, d, tk, os⟩ → wpAny (model prog w) A' (pyIter v) Q E ⟨hp, g, d, tk, os⟩ :=
      fun q => B.iter prog w _ _ ⟨hp, g, d, tk, os⟩ _ h1 q
    wp_walk using q1
    refine wpAny_stack_any fun st => wpAny_pure ?_
    split
    · rename_i c _ _ _ _ _
      cases (c == Value.type "enumerate")
      · wp_walk using q1
        exact ⟨_, rfl, h⟩
      · wp_walk using q1
        exact ⟨_, rfl, h⟩
    · wp_walk using q1
      exact ⟨_, rfl, h⟩
theorem call_enum1 {prog : Program} {w : World} {A : Around} {E : Value → Shared → Prop} {s : Shared} {v : Value} {o : Obj} {H : Heap → Prop} {Q : Value → Shared → Prop} (B : Begins v o H) (h1 : H s.heap)
    (h : ∀ h', IsEnum h' (s.heap.objs.size + 1) s.heap.objs.size 0 .none → h'.get? s.heap.objs.size = some o → h'.objs.size = s.heap.objs.size + 2 →
      (∀ b o, s.heap.get? b = some o → h'.get? b = some o) → Q (.ref (s.heap.objs.size + 1)) { s with heap := h' }) :
    wpAny (model prog w) A (call (.type "enumerate") [v]) Q E s := by
  refine callType_new F.called_enumerate (by decide) (F.typeCall_enumerate_1 _) (F.newCall_enumerate_1 _) (fun obj => F.args_object_init_2 obj _) F.entry_enumerate_new
    (meets_enum1 B) ⟨h1, ?_⟩
  have hz : (s.heap.push o).objs.size = s.heap.objs.size + 1 := Heap.size_push ..
  show _ ∧ _
  rw [hz]
  have he : IsEnum ((s.heap.push o).push { cls := .type "enumerate", data := .fields #[.none, .bool false, .ref s.heap.objs.size, rawInt 0, .none, .none] }) (s.heap.objs.size + 1) s.heap.objs.size 0 .none := by
    have := Heap.get?_push_size (s.heap.push o) (o := { cls := .type "enumerate", data := .fields #[.none, .bool false, .ref s.heap.objs.size, rawInt 0, .none, .none] }) rfl
    rw [hz] at this; exact this
  refine ⟨⟨_, he, rfl⟩, h _ he (Heap.get?_push_of_some _ (Heap.get?_push_size _ B.free)) (by rw [Heap.size_push, hz]) fun b o x => Heap.get?_push_of_some _ (Heap.get?_push_of_some _ x)⟩

/-- what is walked within an enumerate or a zip -/
inductive Src where
  | lst (a : Addr) (vs : List V) | tup (a : Addr) (vs : List V) | str (s : List Nat)
def Src.items : Src → List V
  | .lst _ vs => vs
  | .tup _ vs => vs
  | .str s => s.map fun c => .str (S0 [c])
def Src.v : Src → V
  | .lst a _ => .ref a
  | .tup a _ => .ref a
  | .str s => .str (S0 s)
def Src.Has (H : Hp) : Src → Prop
  | .lst a vs => H a = some (.lst vs)
  | .tup a vs => Rd H a (.tup vs)
  | .str _ => True
def Src.at_ (it : Addr) (i : Nat) (h : Heap) : Src → Prop
  | .lst a _ => h.IsListIter it a i
  | .tup a _ => h.IsTupleIter it a i
  | .str s => ∃ t, h.IsStrIter it (strIterType (S0 s)) (S0 s) t i
theorem Src.keep {src : Src} {it : Addr} {i : Nat} {h h' : Heap} (st : src.at_ it i h) (k : ∀ o, h.get? it = some o → h'.get? it = some o) : src.at_ it i h' := by
  cases src with
  | lst a vs => exact Heap.IsListIter.at st k
  | tup a vs => exact Heap.IsTupleIter.at st k
  | str s => obtain ⟨t, o, ho, r⟩ := st; exact ⟨t, o, k o ho, r⟩
theorem Src.obj {src : Src} {it : Addr} {i : Nat} {h : Heap} (st : src.at_ it i h) : ∃ o, h.get? it = some o ∧ ∀ v, o.data ≠ .cell v := by
  cases src with
  | lst a vs => obtain ⟨o, ho, _, hd⟩ := st; exact ⟨o, ho, fun v q => by rw [hd] at q; cases q⟩
  | tup a vs => obtain ⟨o, ho, _, hd⟩ := st; exact ⟨o, ho, fun v q => by rw [hd] at q; cases q⟩
  | str s => obtain ⟨t, o, ho, _, hd⟩ := st; exact ⟨o, ho, fun v q => by rw [hd] at q; cases q⟩
theorem K_sq {K : PySem.W.Frag} {H : Hp} {a : Addr} {vs : List V} (h : Rd H a (.tup vs)) : SqT K H a vs := .inl h
section
variable {X : Cx} {pins : List (Addr × Obj)} {σ : L2.St} {H : Hp} {s : Shared}
theorem Src.draws {src : Src} {it : Addr} {i : Nat} (I : Inv X pins σ H s) (hh : X.A.handled = none) (hs : src.Has H) (st : src.at_ it i s.heap) (hit : H it = none) :
    ∃ (fp : List Addr) (P : Nat → Value → Prop) (St : Nat → Heap → Prop), Draws X.prog X.w X.A.in1 it fp src.items.length P St ∧ St i s.heap ∧
      (∀ i x, P i x → ∃ v, src.items[i]? = some v ∧ RelV v x) ∧ (∀ j h, St j h → src.at_ it j h) ∧ it ∈ fp ∧ (∀ b ∈ fp, b = it ∨ H b ≠ none) := by
  cases src with
  | lst a vs =>
    obtain ⟨its, rv, p, hz⟩ := I.list (SqL.of (K := X.K) hs)
    have hne : a ≠ it := fun e => by subst e; have : H a = some (.lst vs) := hs; rw [hit] at this; cases this
    refine ⟨[it, a], fun i v => its.toArray[i]? = some v, fun i h => h.IsListIter it a i ∧ h.IsList a its.toArray, ?_, ⟨st, p.isList⟩, ?_, fun j h q => q.1, by simp, fun b hb => ?_⟩
    · show Draws X.prog X.w X.A.in1 it [it, a] vs.length _ _
      have := Draws.list (prog := X.prog) (w := X.w) (A := X.A.in1) hh it a hne its.toArray
      rw [List.size_toArray, ← rv.length] at this
      exact this
    · intro j x hx
      have hx' : its[j]? = some x := by simpa using hx
      have hj := (List.getElem?_eq_some_iff.mp hx').1
      have hj' : j < vs.length := by rw [rv.length]; exact hj
      obtain ⟨u, hu, ru⟩ := rv.get (List.getElem?_eq_getElem hj')
      rw [hx'] at hu; cases hu
      exact ⟨_, List.getElem?_eq_getElem hj', ru⟩
    · have e' : b = it ∨ b = a := by simpa using hb
      rcases e' with z | z
      · exact .inl z
      · right; rw [z]; have : H a = some (.lst vs) := hs; rw [this]; simp
  | tup a vs =>
    obtain ⟨its, rv, p, hz⟩ := I.tuple (K_sq (K := X.K) hs)
    have hne : a ≠ it := fun e => by subst e; exact rd_some (show Rd H a (.tup vs) from hs) hit
    refine ⟨[it, a], fun i v => its.toArray[i]? = some v, fun i h => h.IsTupleIter it a i ∧ h.IsTuple a its.toArray, ?_, ⟨st, show s.heap.IsTuple a its.toArray from p⟩, ?_, fun j h q => q.1, by simp, fun b hb => ?_⟩
    · show Draws X.prog X.w X.A.in1 it [it, a] vs.length _ _
      have := Draws.tuple (prog := X.prog) (w := X.w) (A := X.A.in1) hh it a hne its.toArray
      rw [List.size_toArray, ← rv.length] at this
      exact this
    · intro j x hx
      have hx' : its[j]? = some x := by simpa using hx
      have hj := (List.getElem?_eq_some_iff.mp hx').1
      have hj' : j < vs.length := by rw [rv.length]; exact hj
      obtain ⟨u, hu, ru⟩ := rv.get (List.getElem?_eq_getElem hj')
      rw [hx'] at hu; cases hu
      exact ⟨_, List.getElem?_eq_getElem hj', ru⟩
    · have e' : b = it ∨ b = a := by simpa using hb
      rcases e' with z | z
      · exact .inl z
      · right; rw [z]; exact rd_some (show Rd H a (.tup vs) from hs)
  | str z =>
    obtain ⟨t, st⟩ := st
    refine ⟨[it], fun i v => ∃ c u, (S0 z).cps[i]? = some c ∧ v = .str ⟨#[c]⟩ u, fun j h => h.IsStrIter it (strIterType (S0 z)) (S0 z) t j, ?_, st, ?_, fun j h q => ⟨t, q⟩, by simp, fun b hb => .inl (by simpa using hb)⟩
    · show Draws X.prog X.w X.A.in1 it [it] (Src.str z).items.length _ _
      have := Draws.text (prog := X.prog) (w := X.w) (A := X.A.in1) hh it (S0 z) t
      have e : (Src.str z).items.length = (S0 z).cps.size := by simp [Src.items]
      rw [e]
      exact this
    · rintro j x ⟨c, u, hc, rfl⟩
      have hc' : z[j]? = some c := by simpa using hc
      exact ⟨.str (S0 [c]), by simp only [Src.items, List.getElem?_map, hc']; rfl, ⟨u, rfl⟩⟩
/-- how it begins -/
theorem Src.begins {src : Src} {u : Value} (I : Inv X pins σ H s) (hs : src.Has H) (r : RelV src.v u) : ∃ (o : Obj) (G : Heap → Prop), Begins u o G ∧ G s.heap ∧ o.isFreed = false ∧ ∀ it (h : Heap), h.get? it = some o → src.at_ it 0 h := by
  cases src with
  | lst a vs =>
    obtain ⟨its, rv, p, hz⟩ := I.list (SqL.of (K := X.K) hs)
    cases r
    exact ⟨_, _, begins_list a its.toArray, p.isList, rfl, fun it h e => ⟨_, e, rfl, rfl⟩⟩
  | tup a vs =>
    obtain ⟨its, rv, p, hz⟩ := I.tuple (K_sq (K := X.K) hs)
    cases r
    exact ⟨_, _, begins_tuple a its.toArray, show s.heap.IsTuple a its.toArray from p, rfl, fun it h e => ⟨_, e, rfl, rfl⟩⟩
  | str z =>
    obtain ⟨t, rfl⟩ := r
    exact ⟨_, _, begins_text (S0 z) t, trivial, rfl, fun it h e => ⟨t, _, e, rfl, rfl⟩⟩
end
/-! ### enumerate -/
def Ien (src : Src) : It :=
  ⟨fun i H => src.Has H ∧ i < src.items.length, fun i H v H' => ∃ T x, v = .ref T ∧ H T = none ∧ H' = upd H T (.tup [.int (i : Nat), x]) ∧ src.items[i]? = some x, fun i H => src.Has H ∧ src.items.length = i⟩
theorem Src.has_upd {src : Src} {H : Hp} {T : Addr} {o : HO} (h : src.Has H) (hT : H T = none) : src.Has (upd H T o) := by
  cases src with
  | lst a vs => show upd H T o a = _; rw [upd_ne (ne_of_none (show H a = some (.lst vs) from h) hT)]; exact h
  | tup a vs => exact rd_same (same_upd hT) (show Rd H a (.tup vs) from h)
  | str s => trivial
theorem turn_en {P : Program} {w : World} {K : PySem.W.Frag} {elts : List Expr} {kk : Nat} {tpos : Pos} (src : Src) (e it : Addr) :
    Turn P w K (.Tuple elts kk tpos) (Ien src) [e, it] e (fun i h => (∃ old, IsEnum h e it ((i : Nat) : Int) old) ∧ src.at_ it i h ∧ e ≠ it) where
  mem := by simp
  obj := fun i h st b hb => by
    obtain ⟨⟨old, he⟩, st2, _⟩ := st
    have e' : b = e ∨ b = it := by simpa using hb
    rcases e' with z | z
    · rw [z]; exact ⟨_, he, fun v q => nomatch q⟩
    · rw [z]; exact Src.obj st2
  keep := fun i h h' st k => let ⟨⟨old, he⟩, hi, hne⟩ := st; ⟨⟨old, k e (by simp) _ he⟩, Src.keep hi fun o q => k it (by simp) o q, hne⟩
  item := by
    intro X hP hw hK hc i pins s σ H E I hf st hg
    subst hP hw hK
    obtain ⟨⟨old, he⟩, hit, hne⟩ := st
    obtain ⟨hs, hi⟩ := hg
    have hel : e < s.heap.objs.size := Heap.lt_size he
    have hil : it < s.heap.objs.size := by obtain ⟨o, q, _⟩ := Src.obj hit; exact Heap.lt_size q
    obtain ⟨fp, Pd, St, D, st0, hP, hS, hm, hfp⟩ := Src.draws I (I.ok.hd hc) hs hit (hf it (by simp)).1
    have hef : e ∉ fp := fun z => by
      rcases hfp e z with q | q
      · exact hne q
      · exact q (hf e (by simp)).1
    refine wpAny_pyNext_enum_itemC D he st0 hi hne hef fun u h' tk hPu ho hst' hT hsz hk => ?_
    obtain ⟨x, hx, ru⟩ := hP i u hPu
    refine ⟨_, rfl, wpAny_letOwnedTupleGo_enum (s := { s with heap := h', toks := tk + 1 }) ho fun h'' he' sb => ?_⟩
    have hT2 : h''.get? s.heap.objs.size = some { cls := .type "tuple", data := .seq #[.int (i : Nat) tk, u] } := (sb.2 _ (Nat.ne_of_gt hel)).trans hT
    have new : ObjOk X.prog X.w (upd H s.heap.objs.size (.tup [.int (i : Nat), x])) h'' s.heap.objs.size (.tup [.int (i : Nat), x]) :=
      ⟨by show 2 ≤ sizeLine; decide, [.int (i : Nat) tk, u], .cons ⟨_, rfl⟩ (.cons ru .nil), ⟨_, hT2, rfl, _, rfl⟩⟩
    have I1 : Inv X pins σ (upd H s.heap.objs.size (.tup [.int (i : Nat), x])) { s with heap := h'', toks := tk + 1 } :=
      I.turnedNew (ch := [e, it]) (fun b ob hb q => (sb.2 b (fun z => hb (by simp [z]))).trans (hk b ob (fun z => hb (by simp [z])) (fun z => hb (by simp [z])) q)) hf (Nat.le_refl _) new
    refine ⟨.ref s.heap.objs.size, _, I1, rfl, ⟨_, x, rfl, I.hok.fresh (Nat.le_refl _), rfl, hx⟩, ⟨⟨u, ?_⟩, Src.keep (hS _ _ hst') fun o q => (sb.2 it (Ne.symm hne)).trans q, hne⟩, fun b hb => ?_⟩
    · have e1 : ((i + 1 : Nat) : Int) = (i : Int) + 1 := by omega
      rw [e1]; exact he'
    · have hb' : b < s.heap.objs.size := by
        have e' : b = e ∨ b = it := by simpa using hb
        rcases e' with z | z
        · rw [z]; exact hel
        · rw [z]; exact hil
      rw [upd_ne (Nat.ne_of_lt hb')]
      exact (hf b hb).1
  done := by
    intro X hP hw hK hc i pins s σ H E I hf st hg
    subst hP hw hK
    obtain ⟨⟨old, he⟩, hit, hne⟩ := st
    obtain ⟨hs, rfl⟩ := hg
    obtain ⟨f0, f1, f2, f3, f4, f5⟩ := hf it (by simp)
    obtain ⟨fp, Pd, St, D, st0, hP, hS, hm, hfp⟩ := Src.draws I (I.ok.hd hc) hs hit f0
    exact wpAny_pyNext_enum_endD D he st0 fun h' eb => ⟨rfl, I.turned (t' := s.toks) (fun b o hb q => eb b o hb q) f0 f1 f3 f4 f5⟩
  self := fun A i s Q E st h => let ⟨⟨_, he⟩, _⟩ := st; wpAny_pyIter_enum he h
theorem itr_en {K : PySem.W.Frag} {F : Hp} {src : Src} {ds : List D} (h : src.Has F) (r : Reps K F ds src.items) : ItR K (Ien src) F (enumD ds) := fun F' H' s1 s2 => by
  have hq : src.Has H' := by
    cases src with
    | lst a vs => exact s2 _ _ (s1 _ _ h)
    | tup a vs => exact rd_same (s1.trans s2) (show Rd F a (.tup vs) from h)
    | str s => trivial
  have hl := r.length
  refine ⟨fun i d e => ?_, hq, by rw [hl, enumD_length]⟩
  · obtain ⟨x, ex, rfl⟩ := enumD_get e
    obtain ⟨v, e1, e2⟩ := r.get ex
    refine ⟨⟨hq, (List.getElem?_eq_some_iff.mp e1).1⟩, fun y H'' hy => ?_⟩
    obtain ⟨T, u, rfl, hT, rfl, hu⟩ := hy
    rw [e1] at hu; cases hu
    obtain ⟨x1, x2⟩ := new_tup (K := K) rfl s2 hT (Reps.cons mk_int (Reps.cons (e2.mono s1) Reps.nil)) (by rw [PySem.sizeLine_eq]; show 2 ≤ 16777216; decide)
    exact ⟨_, x1, x2⟩
theorem src_of {K : PySem.W.Frag} {F : Hp} {d : D} {ds : List D} {v : V} (h : Rep K F d v) (e : (match d with | .lst ds => some ds | .tup ds => some ds | .str s => some (signs s) | _ => none) = some ds) : ∃ src : Src, v = src.v ∧ src.Has F ∧ Reps K F ds src.items := by
  cases d with
  | lst xs =>
    cases e
    obtain ⟨a, vs, rfl, h1, h2, _⟩ := rep_lst h
    exact ⟨.lst a vs, rfl, h1, h2⟩
  | tup xs =>
    cases e
    obtain ⟨a, vs, rfl, h1, h2, _⟩ := rep_tup h
    exact ⟨.tup a vs, rfl, h1.rd, h2⟩
  | str z =>
    cases e
    obtain ⟨rfl, h1, h2⟩ := rep_str h
    refine ⟨.str z, rfl, trivial, ?_⟩
    have : ∀ l : List Nat, (∀ c ∈ l, c ∈ z) → Reps K F (signs l) (l.map fun c => V.str (S0 [c])) := by
      intro l
      induction l with
      | nil => intro _; exact Reps.nil
      | cons c r ih =>
        intro hm
        exact Reps.cons (mk_sign h1 (hm c (by simp))) (ih fun x hx => hm x (by simp [hx]))
    exact this z fun c hc => hc
  | _ => cases e
/-- a list, a tuple, a text: its items -/
def seqOf : D → Res (List D)
  | .lst ds => .ok ds
  | .tup ds => .ok ds
  | .str s => .ok (signs s)
  | _ => .bad
theorem src_seq {K : PySem.W.Frag} {F : Hp} {d : D} {ds : List D} {v : V} (h : Rep K F d v) (e : seqOf d = .ok ds) : ∃ src : Src, v = src.v ∧ src.Has F ∧ Reps K F ds src.items := by
  refine src_of h ?_
  unfold seqOf at e
  cases d <;> (first | (cases e; rfl) | cases e)
def iEn (ta : TA) : TI := fun σ H R => ta σ H fun vs H1 => ∃ src : Src, vs = [src.v] ∧ src.Has H1 ∧ R (Ien src) H1
theorem pi_en {X : Cx} {e : Expr} {ta : TA} {p pos tpos : Pos} {elts : List Expr} {kk : Nat} (hg : Gl X "enumerate") (hm : X.mg "enumerate" = none) (ha : PA X [e] ta) (hs : starEach [e] X.env = [(false, eval e X.env)]) :
    PI X (.Tuple elts kk tpos) (.Call (.Name "enumerate" p) [e] [] pos) (iEn ta) := by
  refine ⟨fun pins s σ H R I h => ?_⟩
  refine PyProof.Rows.Call_ (ld_blt I hg hm PyProof.Rows.boot_enumerate (PyProof.Rows.callWith_type1 (thn (ha.run pos pins s σ H _ I h) fun us s1 ⟨vs, H1, I1, r1, q1⟩ => ?_) hs rfl))
  obtain ⟨src, ex, hq, q⟩ := q1
  subst ex
  cases r1 with
  | cons r rr =>
    cases rr
    obtain ⟨o, G, B, hG, hfree, hit⟩ := Src.begins I1 hq r
    refine call_enum1 B hG fun h' he ho hsz hk => wpAny_pyIter_enum he ?_
    have I2 : Inv X pins σ H1 { s1 with heap := h' } := I1.kept (t' := s1.toks) hk
    refine ⟨s1.heap.objs.size + 1, [s1.heap.objs.size + 1, s1.heap.objs.size], _, _, H1, rfl, I2, turn_en src (s1.heap.objs.size + 1) s1.heap.objs.size, ⟨⟨.none, he⟩, hit _ _ ho, Nat.succ_ne_self _⟩, fun b hb => ?_, q⟩
    have e' : b = s1.heap.objs.size + 1 ∨ b = s1.heap.objs.size := by simpa using hb
    have hle : s1.heap.objs.size ≤ b := by
      rcases e' with z | z
      · rw [z]; exact Nat.le_add_right _ _
      · rw [z]; exact Nat.le_refl _
    exact I1.fpOk hle (I1.hok.fresh hle)
/-! ### zip -/
def Izp (a b : Src) : It :=
  ⟨fun i H => a.Has H ∧ b.Has H ∧ i < a.items.length ∧ i < b.items.length,
    fun i H v H' => ∃ T x y, v = .ref T ∧ H T = none ∧ H' = upd H T (.tup [x, y]) ∧ a.items[i]? = some x ∧ b.items[i]? = some y,
    fun i H => a.Has H ∧ b.Has H ∧ i = min a.items.length b.items.length⟩
theorem turn_zp {P : Program} {w : World} {K : PySem.W.Frag} {elts : List Expr} {kk : Nat} {tpos : Pos} {z TI TO i1 i2 : Addr} (a b : Src) (hzt : TI ≠ z ∧ TO ≠ z ∧ TI ≠ TO ∧ TI ≠ i1 ∧ TI ≠ i2 ∧ z ≠ i1 ∧ z ≠ i2 ∧ TO ≠ i1 ∧ TO ≠ i2 ∧ i1 ≠ i2) :
    Turn P w K (.Tuple elts kk tpos) (Izp a b) [z, TI, TO, i1, i2] z (fun i h => IsZip h z TI TO .none ∧ IsTupOf2 h TI (.ref i1) (.ref i2) ∧ (∃ x y, IsTupOf2 h TO x y) ∧ a.at_ i1 i h ∧ b.at_ i2 i h) where
  mem := by simp
  obj := fun i h st c hc => by
    obtain ⟨hz, hTI, ⟨x, y, hTO⟩, h1, h2⟩ := st
    have e' : c = z ∨ c = TI ∨ c = TO ∨ c = i1 ∨ c = i2 := by simpa using hc
    rcases e' with q | q | q | q | q
    · rw [q]; exact ⟨_, hz, fun v q => nomatch q⟩
    · rw [q]; exact ⟨_, hTI, fun v q => nomatch q⟩
    · rw [q]; exact ⟨_, hTO, fun v q => nomatch q⟩
    · rw [q]; exact Src.obj h1
    · rw [q]; exact Src.obj h2
  keep := fun i h h' st k => by
    obtain ⟨hz, hTI, ⟨x, y, hTO⟩, h1, h2⟩ := st
    exact ⟨k z (by simp) _ hz, k TI (by simp) _ hTI, ⟨x, y, k TO (by simp) _ hTO⟩, Src.keep h1 fun o q => k i1 (by simp) o q, Src.keep h2 fun o q => k i2 (by simp) o q⟩
  item := by
    intro X hP hw hK hc i pins s σ H E I hf st hg
    subst hP hw hK
    obtain ⟨hz, hTI, ⟨x0, y0, hTO⟩, h1, h2⟩ := st
    obtain ⟨ha, hb, hi1, hi2⟩ := hg
    obtain ⟨c1, c2, c3, c4, c5, c6, c7, c8, c9, c10⟩ := hzt
    have hzl : z < s.heap.objs.size := Heap.lt_size hz
    obtain ⟨fp1, P1, St1, D1, st1, hP1, hS1, hm1, hf1⟩ := Src.draws I (I.ok.hd hc) ha h1 (hf i1 (by simp)).1
    obtain ⟨fp2, P2, St2, D2, st2, hP2, hS2, hm2, hf2⟩ := Src.draws I (I.ok.hd hc) hb h2 (hf i2 (by simp)).1
    have out1 : ∀ c, c ≠ i1 → c ∈ [z, TI, TO, i1, i2] → c ∉ fp1 := fun c hne hcm q => (hf1 c q).elim hne fun w => w (hf c hcm).1
    have out2 : ∀ c, c ≠ i2 → c ∈ [z, TI, TO, i1, i2] → c ∉ fp2 := fun c hne hcm q => (hf2 c q).elim hne fun w => w (hf c hcm).1
    have S : ZipSep2 z TI TO i1 i2 fp1 fp2 := ⟨c1, c2, c3, c4, hm1, out1 z c6 (by simp), out1 TO c8 (by simp), c5, hm2, out2 z c7 (by simp), out2 TO c9 (by simp), out2 i1 c10 (by simp), out1 i2 (Ne.symm c10) (by simp)⟩
    refine wpAny_pyNext_zipD2_item S D1 D2 hz hTI hTO st1 st2 hi1 hi2 fun u u2 h' tk hp1 hp2 z' TO' s1' s2' hT hsz hk => ?_
    obtain ⟨x, hx, ru⟩ := hP1 i u hp1
    obtain ⟨y, hy, ru2⟩ := hP2 i u2 hp2
    refine ⟨_, rfl, wpAny_letOwnedTupleGo_zip (s := { s with heap := h', toks := tk }) z' fun h'' z'' sb => ?_⟩
    have hT2 : h''.get? s.heap.objs.size = some { cls := .type "tuple", data := .seq #[u, u2] } := (sb.2 _ (Nat.ne_of_gt hzl)).trans hT
    have new : ObjOk X.prog X.w (upd H s.heap.objs.size (.tup [x, y])) h'' s.heap.objs.size (.tup [x, y]) :=
      ⟨by show 2 ≤ sizeLine; decide, [u, u2], .cons ru (.cons ru2 .nil), ⟨_, hT2, rfl, _, rfl⟩⟩
    have I1 : Inv X pins σ (upd H s.heap.objs.size (.tup [x, y])) { s with heap := h'', toks := tk } :=
      I.turnedNew (t' := tk) (ch := [z, TI, TO, i1, i2]) (fun c o hb q => (sb.2 c (fun q' => hb (by simp [q']))).trans (hk c o (fun q' => hb (by simp [q'])) (fun q' => hb (by simp [q'])) (fun q' => hb (by simp [q'])) (fun q' => hb (by simp [q'])) q)) hf (Nat.le_refl _) new
    refine ⟨.ref s.heap.objs.size, _, I1, rfl, ⟨_, x, y, rfl, I.hok.fresh (Nat.le_refl _), rfl, hx, hy⟩, ⟨z'', ?_, ⟨u, u2, ?_⟩, ?_, ?_⟩, fun c hcm => ?_⟩
    · exact (sb.2 _ c1).trans (hk _ _ c1 c3 c4 c5 hTI)
    · exact (sb.2 _ c2).trans TO'
    · exact Src.keep (hS1 _ _ s1') fun o q => (sb.2 _ (Ne.symm c6)).trans q
    · exact Src.keep (hS2 _ _ s2') fun o q => (sb.2 _ (Ne.symm c7)).trans q
    · have hlt : c < s.heap.objs.size := by
        have e' : c = z ∨ c = TI ∨ c = TO ∨ c = i1 ∨ c = i2 := by simpa using hcm
        rcases e' with q | q | q | q | q
        · rw [q]; exact hzl
        · rw [q]; exact Heap.lt_size hTI
        · rw [q]; exact Heap.lt_size hTO
        · rw [q]; obtain ⟨o, w, _⟩ := Src.obj h1; exact Heap.lt_size w
        · rw [q]; obtain ⟨o, w, _⟩ := Src.obj h2; exact Heap.lt_size w
      rw [upd_ne (Nat.ne_of_lt hlt)]
      exact (hf c hcm).1
  done := by
    intro X hP hw hK hc i pins s σ H E I hf st hg
    subst hP hw hK
    obtain ⟨hz, hTI, ⟨x0, y0, hTO⟩, h1, h2⟩ := st
    obtain ⟨ha, hb, hi⟩ := hg
    obtain ⟨c1, c2, c3, c4, c5, c6, c7, c8, c9, c10⟩ := hzt
    obtain ⟨fp1, P1, St1, D1, st1, hP1, hS1, hm1, hf1⟩ := Src.draws I (I.ok.hd hc) ha h1 (hf i1 (by simp)).1
    obtain ⟨fp2, P2, St2, D2, st2, hP2, hS2, hm2, hf2⟩ := Src.draws I (I.ok.hd hc) hb h2 (hf i2 (by simp)).1
    have out1 : ∀ c, c ≠ i1 → c ∈ [z, TI, TO, i1, i2] → c ∉ fp1 := fun c hne hcm q => (hf1 c q).elim hne fun w => w (hf c hcm).1
    have out2 : ∀ c, c ≠ i2 → c ∈ [z, TI, TO, i1, i2] → c ∉ fp2 := fun c hne hcm q => (hf2 c q).elim hne fun w => w (hf c hcm).1
    have S : ZipSep2 z TI TO i1 i2 fp1 fp2 := ⟨c1, c2, c3, c4, hm1, out1 z c6 (by simp), out1 TO c8 (by simp), c5, hm2, out2 z c7 (by simp), out2 TO c9 (by simp), out2 i1 c10 (by simp), out1 i2 (Ne.symm c10) (by simp)⟩
    refine wpAny_pyNext_zipD2_end S D1 D2 hz hTI hTO st1 st2 (by omega) (by omega) (by omega) fun h' tk hk => ⟨rfl, ?_⟩
    exact I.turnedL (t' := tk) (ch := [z, TI, TO, i1, i2]) (fun c o hb q => hk c o (fun q' => hb (by simp [q'])) (fun q' => hb (by simp [q'])) (fun q' => hb (by simp [q'])) (fun q' => hb (by simp [q'])) q) hf
  self := fun A i s Q E st h => wpAny_pyIter_zip st.1 h
/-- no two items make a table -/
def zipOk (ds es : List D) : Bool := (ds.zip es).all fun p => !tabB [p.1, p.2]
theorem zipOk_at {ds es : List D} {i : Nat} {x y : D} (h : zipOk ds es = true) (h1 : ds[i]? = some x) (h2 : es[i]? = some y) : tabB [x, y] = false := by
  have : (ds.zip es)[i]? = some (x, y) := List.getElem?_zip_eq_some.mpr ⟨h1, h2⟩
  have := List.all_eq_true.mp h _ (List.mem_of_getElem? this)
  simpa using this
theorem itr_zp {K : PySem.W.Frag} {F : Hp} {a b : Src} {ds es : List D} (h : a.Has F) (r : Reps K F ds a.items) (h' : b.Has F) (r' : Reps K F es b.items) (hn : zipOk ds es = true) : ItR K (Izp a b) F (zipD ds es) := fun F' H' s1 s2 => by
  have up : ∀ src : Src, src.Has F → src.Has H' := fun src h => by
    cases src with
    | lst a vs => exact s2 _ _ (s1 _ _ h)
    | tup a vs => exact rd_same (s1.trans s2) (show Rd F a (.tup vs) from h)
    | str s => trivial
  refine ⟨fun i d e => ?_, up a h, up b h', by rw [r.length, r'.length, zipD_length]⟩
  obtain ⟨x, y, ex, ey, rfl⟩ := zipD_get e
  have hxy := zipOk_at hn ex ey
  obtain ⟨v, e1, e2⟩ := r.get ex
  obtain ⟨w, f1, f2⟩ := r'.get ey
  refine ⟨⟨up a h, up b h', (List.getElem?_eq_some_iff.mp e1).1, (List.getElem?_eq_some_iff.mp f1).1⟩, fun z H'' hy => ?_⟩
  obtain ⟨T, u, u', rfl, hT, rfl, hu, hu'⟩ := hy
  rw [e1] at hu; cases hu
  rw [f1] at hu'; cases hu'
  obtain ⟨x1, x2⟩ := new_tup (K := K) hxy s2 hT (Reps.cons (e2.mono s1) (Reps.cons (f2.mono s1) Reps.nil)) (by rw [PySem.sizeLine_eq]; show 2 ≤ 16777216; decide)
  exact ⟨_, x1, x2⟩
def iZp (ta : TA) : TI := fun σ H R => ta σ H fun vs H1 => ∃ a b : Src, vs = [a.v, b.v] ∧ a.Has H1 ∧ b.Has H1 ∧ R (Izp a b) H1
theorem pi_zp {X : Cx} {e e2 : Expr} {ta : TA} {p pos tpos : Pos} {elts : List Expr} {kk : Nat} (hg : Gl X "zip") (hm : X.mg "zip" = none) (ha : PA X [e, e2] ta)
    (hs : starEach [e, e2] X.env = (false, eval e X.env) :: starEach [e2] X.env) (hpl : (backTo pos (starEach [e2] X.env)).any (·.1) = false) :
    PI X (.Tuple elts kk tpos) (.Call (.Name "zip" p) [e, e2] [] pos) (iZp ta) := by
  refine ⟨fun pins s σ H R I h => ?_⟩
  refine PyProof.Rows.Call_ (ld_blt I hg hm PyProof.Rows.boot_zip (PyProof.Rows.callWith_type1 (thn (ha.run pos pins s σ H _ I h) fun us s1 ⟨vs, H1, I1, r1, q1⟩ => ?_) hs hpl))
  obtain ⟨a, b, ex, hqx, hqy, q⟩ := q1
  subst ex
  cases r1 with
  | cons r rr =>
    cases rr with
    | cons r' rr =>
      cases rr
      obtain ⟨o1, G1, B1, hG1, hfr1, hit1⟩ := Src.begins I1 hqx r
      obtain ⟨o2, G2, B2, hG2, hfr2, hit2⟩ := Src.begins I1 hqy r'
      refine zip_begins2 B1 B2 hG1 hG2 fun h' hz hTI hTO h1 h2 hsz hk => wpAny_pyIter_zip hz ?_
      have I2 : Inv X pins σ H1 { s1 with heap := h' } := I1.kept (t' := s1.toks) hk
      generalize hn : s1.heap.objs.size = n at *
      refine ⟨n + 4, [n + 4, n + 2, n + 3, n, n + 1], _, _, H1, rfl, I2, turn_zp a b ?_, ⟨hz, hTI, ⟨_, _, hTO⟩, hit1 _ _ h1, hit2 _ _ h2⟩, fun c hcm => ?_, q⟩
      · refine ⟨?_, ?_, ?_, ?_, ?_, ?_, ?_, ?_, ?_, ?_⟩ <;> (intro z; have : ∀ x y : Nat, n + x = n + y → x = y := fun x y h => Nat.add_left_cancel h; first | exact absurd (this _ _ z) (by decide) | exact absurd (this _ 0 z) (by decide) | exact absurd (this 0 _ z) (by decide))
      · have e' : c = n + 4 ∨ c = n + 2 ∨ c = n + 3 ∨ c = n ∨ c = n + 1 := by simpa using hcm
        have hle : n ≤ c := by
          rcases e' with z | z | z | z | z
          · rw [z]; exact Nat.le_add_right _ _
          · rw [z]; exact Nat.le_add_right _ _
          · rw [z]; exact Nat.le_add_right _ _
          · rw [z]; exact Nat.le_refl _
          · rw [z]; exact Nat.le_add_right _ _
        rw [← hn] at hle
        exact I1.fpOk hle (I1.hok.fresh hle)
section
variable {X : Cx} {E : EX} {fs : Env → Res (List D)} {elts : List Expr} {kk : Nat} {p pos tpos : Pos} {a b : Expr}
def enumV : List D → Res (List D)
  | [d] => (seqOf d).bind fun ds => .ok (enumD ds)
  | _ => .bad
def zipV : List D → Res (List D)
  | [d, e] => (seqOf d).bind fun ds => (seqOf e).bind fun es => if zipOk ds es = true then .ok (zipD ds es) else .bad
  | _ => .bad
theorem seq_len {K : PySem.W.Frag} {F : Hp} {d : D} {ds : List D} {v : V} (h : Rep K F d v) (e : seqOf d = .ok ds) : ds.length ≤ sizeLine := by
  unfold seqOf at e
  cases d with
  | lst xs => cases e; obtain ⟨a, vs, _, _, _, h3⟩ := rep_lst h; exact h3
  | tup xs => cases e; obtain ⟨a, vs, _, _, _, h3⟩ := rep_tup h; exact h3
  | str z => cases e; unfold signs; rw [List.length_map]; exact (rep_str h).2.2
  | _ => cases e
theorem seq_ok {d : D} {ds : List D} {β : Type} {f : List D → Res β} {ok : β → Prop} {ex : Str → Prop} (h : RW ((seqOf d).bind f) ok ex) : ∃ ds, seqOf d = .ok ds ∧ RW (f ds) ok ex := by
  cases q : seqOf d with
  | ok ds => rw [q] at h; exact ⟨ds, rfl, h⟩
  | exc c => unfold seqOf at q; cases d <;> cases q
  | bad => rw [q] at h; exact h.elim
theorem di_enum (hg : Gl X "enumerate") (hm : X.mg "enumerate" = none) (ha : DEs X E [a] fs) (hs : starEach [a] X.env = [(false, eval a X.env)]) : DI X E (.Tuple elts kk tpos) (.Call (.Name "enumerate" p) [a] [] pos) (fun ρ => (fs ρ).bind enumV) :=
  pi_weak (pi_en hg hm ha hs) fun σ H R ⟨F, ρ, s, re, q⟩ => ⟨F, ρ, s, re, RW.imp (RW.bind q) (fun ds hd vs F' H' e1 r1 => by
    unfold enumV at hd
    split at hd
    · rename_i d
      obtain ⟨items, e2, h2⟩ := seq_ok (ds := []) hd
      obtain ⟨v, r, rfl, g1, g2⟩ := r1.uncons
      have := g2.nil_eq; subst this
      obtain ⟨src, rfl, k1, k2⟩ := src_seq g1 e2
      refine ⟨src, rfl, ?_, h2 _ F' H' e1 (itr_en k1 k2) (by rw [enumD_length]; exact seq_len g1 e2)⟩
      cases src with
      | lst a vs => exact e1.sub _ _ k1
      | tup a vs => exact rd_same e1.sub (show Rd F' a (.tup vs) from k1)
      | str s => trivial
    · exact hd.elim) fun _ z => z⟩
theorem di_zip (hg : Gl X "zip") (hm : X.mg "zip" = none) (ha : DEs X E [a, b] fs) (hs : starEach [a, b] X.env = (false, eval a X.env) :: starEach [b] X.env) (hpl : (backTo pos (starEach [b] X.env)).any (·.1) = false) :
    DI X E (.Tuple elts kk tpos) (.Call (.Name "zip" p) [a, b] [] pos) (fun ρ => (fs ρ).bind zipV) :=
  pi_weak (pi_zp hg hm ha hs hpl) fun σ H R ⟨F, ρ, s, re, q⟩ => ⟨F, ρ, s, re, RW.imp (RW.bind q) (fun ds hd vs F' H' e1 r1 => by
    unfold zipV at hd
    split at hd
    · rename_i d e
      obtain ⟨items, e2, h2⟩ := seq_ok (ds := []) hd
      obtain ⟨items', e3, h3⟩ := seq_ok (ds := []) h2
      split at h3
      case isFalse => exact h3.elim
      rename_i hz
      obtain ⟨v, r, rfl, g1, g2⟩ := r1.uncons
      obtain ⟨v', r', rfl, g1', g2'⟩ := g2.uncons
      have := g2'.nil_eq; subst this
      obtain ⟨src, rfl, k1, k2⟩ := src_seq g1 e2
      obtain ⟨src', rfl, k1', k2'⟩ := src_seq g1' e3
      have up : ∀ src : Src, src.Has F' → src.Has H' := fun src h => by
        cases src with
        | lst a vs => exact e1.sub _ _ h
        | tup a vs => exact rd_same e1.sub (show Rd F' a (.tup vs) from h)
        | str s => trivial
      exact ⟨src, src', rfl, up _ k1, up _ k1', h3 _ F' H' e1 (itr_zp k1 k2 k1' k2' hz) (by rw [zipD_length]; exact Nat.le_trans (Nat.min_le_left _ _) (seq_len g1 e2))⟩
    · exact hd.elim) fun _ z => z⟩
end
end DL
/-! The data layer, 6: targets, comprehensions. -/
namespace DL
open PySem PySem.Spec L2

/-! ### targets -/
/-- but for the slots vs the same -/
def Agree (σ σ' : L2.St) (vs : List Nat) : Prop := σ'.length = σ.length ∧ ∀ i, i ∉ vs → σ'[i]? = σ[i]?
theorem Agree.refl (σ : L2.St) (vs : List Nat) : Agree σ σ vs := ⟨rfl, fun _ _ => rfl⟩
theorem Agree.trans {σ σ1 σ2 : L2.St} {vs ws : List Nat} (h : Agree σ σ1 vs) (h' : Agree σ1 σ2 ws) : Agree σ σ2 (vs ++ ws) :=
  ⟨h'.1.trans h.1, fun i hi => by
    rw [List.mem_append, not_or] at hi
    exact (h'.2 i hi.2).trans (h.2 i hi.1)⟩
theorem Agree.set (σ : L2.St) (i : Nat) (v : Option V) : Agree σ (σ.set i v) [i] :=
  ⟨by rw [List.length_set], fun j hj => List.getElem?_set_ne (fun e => hj (by simp [e]))⟩
theorem EnvR.set {K : PySem.W.Frag} {F : Hp} {ρ : Env} {σ : L2.St} {i : Nat} {d : D} {v : V} (h : EnvR K F ρ σ) (r : Rep K F d v) : EnvR K F (ρ.set i (some d)) (σ.set i (some v)) :=
  ⟨by rw [List.length_set, List.length_set]; exact h.1, fun j e q => by
    by_cases hj : i = j
    · subst hj
      by_cases hl : i < ρ.length
      · rw [List.getElem?_set_self hl] at q
        cases q
        exact ⟨v, List.getElem?_set_self (Nat.lt_of_lt_of_le hl h.1), r⟩
      · rw [List.getElem?_eq_none (by rw [List.length_set]; omega)] at q; cases q
    · rw [List.getElem?_set_ne hj] at q ⊢
      exact h.2 j e q⟩
def tG (K : PySem.W.Frag) (vs : List Nat) (g : D → Env → Res Env) : TG := fun v σ H Q => ∃ F ρ d, Same F H ∧ EnvR K F ρ σ ∧ Rep K F d v ∧ RW (g d ρ) (fun ρ' => ∀ σ', EnvR K F ρ' σ' → Agree σ σ' vs → Q σ' H) fun _ => False
def tGs (K : PySem.W.Frag) (vs : List Nat) (g : List D → Env → Res Env) : TGs := fun us σ H Q => ∃ F ρ ds, Same F H ∧ EnvR K F ρ σ ∧ Reps K F ds us ∧ RW (g ds ρ) (fun ρ' => ∀ σ', EnvR K F ρ' σ' → Agree σ σ' vs → Q σ' H) fun _ => False
def DG (X : Cx) (tg : Expr) (vs : List Nat) (g : D → Env → Res Env) : Prop := PG X tg (tG X.K vs g)
def DGs (X : Cx) (tg : List Expr) (vs : List Nat) (g : List D → Env → Res Env) : Prop := PGs X tg (tGs X.K vs g)
theorem pg_weak {X : Cx} {e : Expr} {t t' : TG} (h : PG X e t) (w : ∀ v σ H Q, t' v σ H Q → t v σ H Q) : PG X e t' := ⟨fun pins s σ H v u Q I r q => h.run pins s σ H v u Q I r (w v σ H Q q)⟩
theorem pgs_weak {X : Cx} {e : List Expr} {t t' : TGs} (h : PGs X e t) (w : ∀ v σ H Q, t' v σ H Q → t v σ H Q) : PGs X e t' := ⟨fun pins s σ H v u Q I r q => h.run pins s σ H v u Q I r (w v σ H Q q)⟩
def bName (i : Nat) (d : D) (ρ : Env) : Res Env := .ok (ρ.set i (some d))
def bNil (ds : List D) (ρ : Env) : Res Env := match ds with
  | [] => .ok ρ
  | _ => .bad
def bCons (g : D → Env → Res Env) (gs : List D → Env → Res Env) (ds : List D) (ρ : Env) : Res Env := match ds with
  | d :: ds => (g d ρ).bind (gs ds)
  | _ => .bad
def bTup (n : Nat) (gs : List D → Env → Res Env) (d : D) (ρ : Env) : Res Env := match d with
  | .tup ds => if ds.length = n then gs ds ρ else .bad
  | _ => .bad
section
variable {X : Cx} {tg : Expr} {es : List Expr} {vs ws : List Nat} {g : D → Env → Res Env} {gs : List D → Env → Res Env} {pos : Pos} {k n : Nat}
theorem dg_name {i : Nat} {x : Str} (hN : X.N.Nodup) (hi : X.N[i]? = some x) (hx : Loc X.env.scope x) (hf : X.fn x = true ∨ X.env.scope.names.lookup x = some .local) : DG X (.Name x pos) [i] (bName i) :=
  pg_weak (pg_name hN hi hx hf) fun v σ H Q ⟨F, ρ, d, s, re, r, h⟩ => h _ (re.set r) (Agree.set ..)
theorem dgs_nil : DGs X [] [] bNil := pgs_weak pgs_nil fun us σ H Q ⟨F, ρ, ds, s, re, r, h⟩ => by
  cases ds with
  | nil => exact ⟨r.nil_eq, h _ re (Agree.refl ..)⟩
  | cons d ds => exact h.elim
theorem dgs_cons (h1 : DG X tg vs g) (h2 : DGs X es ws gs) (hs : (assignEach (tg :: es) X.env).map (·.2) = assign tg X.env :: (assignEach es X.env).map (·.2)) : DGs X (tg :: es) (vs ++ ws) (bCons g gs) :=
  pgs_weak (pgs_cons h1 h2 hs) fun us σ H Q ⟨F, ρ, ds, s, re, r, h⟩ => by
    cases ds with
    | nil => exact h.elim
    | cons d ds =>
      obtain ⟨v, r', rfl, h3, h4⟩ := r.uncons
      refine ⟨v, r', rfl, F, ρ, d, s, re, h3, RW.imp (RW.bind h) (fun ρ1 q σ1 re1 ag1 => ?_) fun _ z => z⟩
      exact ⟨F, ρ1, ds, s, re1, h4, RW.imp q (fun ρ2 q2 σ2 re2 ag2 => q2 σ2 re2 (ag1.trans ag2)) fun _ z => z⟩
theorem dg_tup (hc : X.calm = true) (h : DGs X es vs gs) (hn : (assignEach es X.env).length = n) (hst : (assignEach es X.env).findIdx? (·.1) = none) : DG X (.Tuple es k pos) vs (bTup n gs) :=
  pg_weak (pg_tup hc h hn hst) fun v σ H Q ⟨F, ρ, d, s, re, r, q⟩ => by
    cases d with
    | tup ds =>
      obtain ⟨a, xs, rfl, h1, h2, h3⟩ := rep_tup r
      simp only [bTup] at q
      split at q
      · rename_i hl
        exact ⟨a, xs, rfl, h1.sq s, by rw [h2.length]; exact hl, F, ρ, ds, s, re, h2, q⟩
      · exact q.elim
    | _ => exact q.elim
end

/-! ### comprehensions -/
def wipeD (ρ : Env) : List Nat → Env
  | [] => ρ
  | v :: vs => (wipeD ρ vs).set v none
theorem EnvR.unset {K : PySem.W.Frag} {F : Hp} {ρ : Env} {σ : L2.St} (i : Nat) (h : EnvR K F ρ σ) : EnvR K F (ρ.set i none) (σ.set i none) :=
  ⟨by rw [List.length_set, List.length_set]; exact h.1, fun j e q => by
    by_cases hj : i = j
    · subst hj
      by_cases hl : i < ρ.length
      · rw [List.getElem?_set_self hl] at q; cases q
      · rw [List.getElem?_eq_none (by rw [List.length_set]; omega)] at q; cases q
    · rw [List.getElem?_set_ne hj] at q ⊢
      exact h.2 j e q⟩
theorem EnvR.wipe {K : PySem.W.Frag} {F : Hp} {ρ : Env} {σ : L2.St} (h : EnvR K F ρ σ) : ∀ vs : List Nat, EnvR K F (wipeD ρ vs) (L2.wipe σ vs)
  | [] => h
  | v :: vs => (EnvR.wipe h vs).unset v
theorem wipe_in {σ : L2.St} {i : Nat} : ∀ {vs : List Nat}, i ∈ vs → (wipe σ vs)[i]? = if i < σ.length then some none else none
  | v :: vs, h => by
    unfold wipe
    by_cases hv : v = i
    · subst hv
      by_cases hl : v < σ.length
      · rw [if_pos hl, List.getElem?_set_self (by rw [wipe_length]; exact hl)]
      · rw [if_neg hl, List.getElem?_eq_none (by rw [List.length_set, wipe_length]; omega)]
    · rw [List.getElem?_set_ne hv]
      exact wipe_in ((List.mem_cons.mp h).resolve_left fun e => hv e.symm)
theorem wipe_agree {σ σ' : L2.St} {vs ws : List Nat} (h : Agree (wipe σ vs) σ' ws) (hs : ∀ i ∈ ws, i ∈ vs) : wipe σ' vs = wipe σ vs := by
  have hl : σ'.length = σ.length := h.1.trans (wipe_length σ vs)
  apply List.ext_getElem?
  intro i
  by_cases hi : i ∈ vs
  · rw [wipe_in hi, wipe_in hi, hl]
  · rw [wipe_out hi, h.2 i fun z => hi (hs i z)]
def Res.calm {α : Type} (r : Res α) : Res α := match r with
  | .ok a => .ok a
  | .exc _ => .bad
  | .bad => .bad
theorem RW.calm {α : Type} {r : Res α} {ok : α → Prop} {ex ex' : Str → Prop} (h : RW r.calm ok ex) : RW r ok ex' := by
  cases r with
  | ok a => exact h
  | exc c => exact h.elim
  | bad => exact h
def compL (g : D → Env → Res Env) (ft : Env → Res Bool) (fe : Env → Res D) (ρ : Env) : List D → Res (List D)
  | [] => .ok []
  | d :: ds => (g d ρ).calm.bind fun ρ1 => (ft ρ1).calm.bind fun b => if b = true then (fe ρ1).calm.bind fun x => (compL g ft fe ρ ds).bind fun xs => .ok (x :: xs) else compL g ft fe ρ ds
theorem compL_len {g : D → Env → Res Env} {ft : Env → Res Bool} {fe : Env → Res D} {ρ : Env} : ∀ {ds xs : List D}, compL g ft fe ρ ds = .ok xs → xs.length ≤ ds.length
  | [], xs, h => by cases h; simp
  | d :: ds, xs, h => by
    unfold compL at h
    cases e1 : (g d ρ).calm with
    | ok ρ1 =>
      rw [e1, Res.bind_ok] at h
      cases e2 : (ft ρ1).calm with
      | ok b =>
        rw [e2, Res.bind_ok] at h
        split at h
        · cases e3 : (fe ρ1).calm with
          | ok x =>
            rw [e3, Res.bind_ok] at h
            cases e4 : compL g ft fe ρ ds with
            | ok ys =>
              rw [e4, Res.bind_ok] at h
              cases h
              have := compL_len e4
              simp only [List.length_cons]
              omega
            | exc c => rw [e4] at h; cases h
            | bad => rw [e4] at h; cases h
          | exc c => rw [e3] at h; cases h
          | bad => rw [e3] at h; cases h
        · have := compL_len h
          simp only [List.length_cons]
          omega
      | exc c => rw [e2] at h; cases h
      | bad => rw [e2] at h; cases h
    | exc c => rw [e1] at h; cases h
    | bad => rw [e1] at h; cases h
theorem calm_nox {α : Type} (r : Res α) (c : Str) : r.calm ≠ .exc c := by cases r <;> intro h <;> cases h
theorem compL_nox {g : D → Env → Res Env} {ft : Env → Res Bool} {fe : Env → Res D} {ρ : Env} : ∀ (ds : List D) (c : Str), compL g ft fe ρ ds ≠ .exc c
  | [], c => fun h => by cases h
  | d :: ds, c => fun h => by
    unfold compL at h
    cases e1 : (g d ρ).calm with
    | ok ρ1 =>
      rw [e1, Res.bind_ok] at h
      cases e2 : (ft ρ1).calm with
      | ok b =>
        rw [e2, Res.bind_ok] at h
        split at h
        · cases e3 : (fe ρ1).calm with
          | ok x =>
            rw [e3, Res.bind_ok] at h
            cases e4 : compL g ft fe ρ ds with
            | ok ys => rw [e4] at h; cases h
            | exc c' => exact compL_nox ds _ e4
            | bad => rw [e4] at h; cases h
          | exc c' => exact absurd e3 (calm_nox _ _)
          | bad => rw [e3] at h; cases h
        · exact compL_nox ds _ h
      | exc c' => exact absurd e2 (calm_nox _ _)
      | bad => rw [e2] at h; cases h
    | exc c' => exact absurd e1 (calm_nox _ _)
    | bad => rw [e1] at h; cases h
def compV (fi : Env → Res (List D)) (vs : List Nat) (g : D → Env → Res Env) (ft : Env → Res Bool) (fe : Env → Res D) : Env → Res D := fun ρ => (fi ρ).bind fun items => (compL g ft fe (wipeD ρ vs) items).bind fun ds => .ok (.lst ds)
/-- no exception -/
def E0 : EX := fun _ _ _ _ => False
theorem ExW.none {K : PySem.W.Frag} {σ : L2.St} {H : Hp} {c : Str} {P : Prop} (h : ExW K E0 σ H c) : P := (h H (Same.refl _)).elim
/-- another thing, that is not told of, has changed -/
theorem Ext.mut {F H F' H' : Hp} {p : Addr} {o : HO} (e : Ext F H F' H') (h1 : H p = none) (h2 : F' p = none) : Ext F H F' (upd H' p o) :=
  ⟨upd_none_same e.same h1, e.grow, upd_none_same e.sub h2, e.new⟩
/-- what is no tuple and not told of, stays untold -/
theorem Ext.hid {F H F' H' : Hp} {p : Addr} {o : HO} (e : Ext F H F' H') (h1 : H p = some o) (ho : ∀ vs, o ≠ .tup vs) (h2 : F p = none) : F' p = none := by
  cases q : F' p with
  | none => rfl
  | some x =>
    rcases e.new p (by rw [h1]; simp) (by rw [q]; simp) with z | ⟨vs, z⟩
    · exact absurd h2 z
    · rw [h1] at z; cases z; exact absurd rfl (ho vs)
def fYes (_ : Env) : Res Bool := .ok true
theorem dts_nil {X : Cx} : PTs X [] (tDT X.K E0 fYes) := ⟨fun pins s σ H Q I ⟨F, ρ, sm, re, h⟩ => pts_nil.run pins s σ H Q I (h F H (Ext.refl sm))⟩
theorem dts_one {X : Cx} {c : Expr} {f : Env → Res Bool} (h : DT X E0 c f) : PTs X [c] (tDT X.K E0 f) := pts_one h
section
variable {X : Cx} {E : EX} {elt tg iter : Expr} {ifs : List Expr} {scope : Scope} {own : List (Str × Nat)} {pos : Pos} {fi : Env → Res (List D)} {vs : List Nat} {g : D → Env → Res Env} {ft : Env → Res Bool} {fe : Env → Res D}
theorem lc_weak {σ : L2.St} {H : Hp} {Q : VK} (hv : ∀ i ∈ vs, i ∈ own.map (·.2)) (h : tDF X.K E (compV fi (own.map (·.2)) g ft fe) σ H Q) : tLc (tI X.K E fi) (tG X.K vs g) (tDT X.K E0 ft) (tD X.K E0 fe) (own.map (·.2)) σ H Q := by
    obtain ⟨F, ρ, sF, re, q⟩ := h
    refine ⟨F, ρ, sF, re, RW.imp (RW.bind q) (fun items hq J F1 H1 e1 it1 hlen D hD => ?_) fun _ z => z⟩
    have hD0 : H D = none := by
      cases z : H D with
      | none => rfl
      | some o => have := e1.same _ _ z; rw [hD] at this; cases this
    have rw1 : EnvR X.K F1 (wipeD ρ (own.map (·.2))) (wipe σ (own.map (·.2))) := (re.mono e1.grow).wipe _
    have hq' : RW (compL g ft fe (wipeD ρ (own.map (·.2))) items) (fun xs => ∀ p F' H', Ext F H F' H' → H p = none → F' p = none → OwnAt X.K F' H' p (.lst xs) → Q (.ref p) H') fun _ => False := by
      have hq := RW.bind hq
      cases z : compL g ft fe (wipeD ρ (own.map (·.2))) items with
      | ok xs => rw [z] at hq; exact hq
      | bad => rw [z] at hq; exact hq
      | exc c =>
        exact absurd z (compL_nox _ _)
    refine ⟨fun i m Hc => ∃ Fc acc outs, m = items.length - i ∧ i ≤ items.length ∧ Ext F1 H1 Fc Hc ∧ Fc D = none ∧ Hc D = some (.lst acc) ∧ Reps X.K Fc outs acc ∧ outs.length ≤ i ∧
      RW (compL g ft fe (wipeD ρ (own.map (·.2))) (items.drop i)) (fun xs => ∀ p F' H', Ext F H F' H' → H p = none → F' p = none → OwnAt X.K F' H' p (.lst (outs ++ xs)) → Q (.ref p) H') fun _ => False, ?_, ?_⟩
    · refine ⟨items.length, F1, [], [], rfl, Nat.zero_le _, (Ext.refl e1.sub).mut hD (Same.free e1.sub hD), Same.free e1.sub hD, upd_same, Reps.nil, Nat.le_refl _, ?_⟩
      rw [List.drop_zero]
      exact hq'
    · rintro i m Hc ⟨Fc, acc, outs, rfl, hi1, ec, fD, hDc, ra, ho, hr⟩
      obtain ⟨go, stop⟩ := it1 Fc Hc ec.grow ec.sub
      by_cases hlt : i < items.length
      · right
        obtain ⟨g1, g2⟩ := go i items[i] (List.getElem?_eq_getElem hlt)
        refine ⟨g1, fun H' => ∃ m', m' < items.length - i ∧ ∃ Fc acc outs, m' = items.length - (i + 1) ∧ (i + 1) ≤ items.length ∧ Ext F1 H1 Fc H' ∧ Fc D = none ∧ H' D = some (.lst acc) ∧ Reps X.K Fc outs acc ∧ outs.length ≤ (i + 1) ∧
      RW (compL g ft fe (wipeD ρ (own.map (·.2))) (items.drop (i + 1))) (fun xs => ∀ p F' H', Ext F H F' H' → H p = none → F' p = none → OwnAt X.K F' H' p (.lst (outs ++ xs)) → Q (.ref p) H') fun _ => False, fun H' h => h, fun x H' hy => ?_⟩
        obtain ⟨F2, e2, rx⟩ := g2 x H' hy
        have f2D := e2.hid hDc (fun _ z => nomatch z) fD
        have ec2 := ec.trans e2
        rw [List.drop_eq_getElem_cons hlt] at hr
        unfold compL at hr
        refine ⟨F2, _, items[i], e2.sub, rw1.mono ec2.grow, rx, RW.imp (RW.calm (RW.bind hr)) (fun ρ1 h1 σ1 re1 ag1 => ?_) fun _ z => z⟩
        refine ⟨wipe_agree ag1 hv, ?_⟩
        refine ⟨F2, ρ1, e2.sub, re1, RW.imp (RW.calm (RW.bind h1)) (fun b hb F3 H3 e3 => ?_) fun _ z => z⟩
        have hD3 := e3.same _ _ (e2.same _ _ hDc)
        have f3D := e3.hid (e2.same _ _ hDc) (fun _ z => nomatch z) f2D
        cases b with
        | false =>
          dsimp only
          rw [if_neg Bool.false_ne_true] at hb ⊢
          refine ⟨_, by omega, F3, acc, outs, rfl, hlt, ec2.trans e3, f3D, hD3, (ra.mono e2.grow).mono e3.grow, by omega, hb⟩
        | true =>
          dsimp only
          rw [if_pos rfl] at hb ⊢
          refine ⟨F3, ρ1, e3.sub, re1.mono e3.grow, RW.imp (RW.calm (RW.bind hb)) (fun y hy v F4 H4 e4 r4 => ?_) fun _ z => z⟩
          have hD4 := e4.same _ _ hD3
          have f4D := e4.hid hD3 (fun _ z => nomatch z) f3D
          have lo := ra.length
          refine ⟨acc, hD4, by omega, ?_⟩
          refine ⟨_, by omega, F4, acc ++ [v], outs ++ [y], rfl, hlt, ((ec2.trans e3).trans e4).mut hD f4D, f4D, upd_same, (((ra.mono e2.grow).mono e3.grow).mono e4.grow).append (Reps.nil.cons r4), by simp; omega, ?_⟩
          refine RW.imp (RW.bind hy) (fun xs hx => ?_) fun _ z => z
          simp only [List.append_assoc, List.cons_append, List.nil_append]
          exact hx
      · left
        have e : i = items.length := by omega
        subst e
        refine ⟨stop, ?_⟩
        rw [List.drop_length] at hr
        have hr' : ∀ p F' H', Ext F H F' H' → H p = none → F' p = none → OwnAt X.K F' H' p (.lst (outs ++ [])) → Q (.ref p) H' := hr
        rw [List.append_nil] at hr'
        exact hr' D Fc Hc (e1.trans ec) hD0 fD ⟨acc, hDc, ra, Nat.le_trans ho hlen⟩
theorem df_comp (hc : X.calm = true) (hN : X.N.Nodup) (hi : DI X E tg iter fi) (ok : BlkOk X.N X.env.scope scope own)
    (hg : ∀ (s : Shared) (H : Hp) (C : Addr) (cl : List (Str × Addr)) (fp : List Addr), DG (X.blk s H scope (compEnvC scope cl C X.env) fp) tg vs g) (hv : ∀ i ∈ vs, i ∈ own.map (·.2))
    (ht : ∀ (s : Shared) (H : Hp) (C : Addr) (cl : List (Str × Addr)) (fp : List Addr), PTs (X.blk s H scope (compEnvC scope cl C X.env) fp) ifs (tDT X.K E0 ft))
    (he : ∀ (s : Shared) (H : Hp) (C : Addr) (cl : List (Str × Addr)) (fp : List Addr), DE (X.blk s H scope (compEnvC scope cl C X.env) fp) E0 elt fe) (hs : ∀ x, foldedSetIterable iter X.env x = pure x) :
    DF X E (.ListComp elt [⟨tg, iter, ifs, 0⟩] scope pos) (compV fi (own.map (·.2)) g ft fe) :=
  pe_weak (pe_lc (g := tG X.K vs g) (tt := tDT X.K E0 ft) (te := tD X.K E0 fe) hc hN hi ok hg ht he hs) fun σ H Q h => lc_weak hv h
end
end DL
/-! The data layer, 7: built-in functions, methods of texts, lists. -/
namespace DL
open PySem PySem.Spec L2

/-! ### a text's places of one sign -/
/-- the places of c in s from lo on -/
def places (s : List Nat) (c lo : Nat) : List Nat := (List.range' lo (s.length + 1 - lo)).filter fun i => s[i]? == some c
theorem subAt_one (s : List Nat) (c i : Nat) (h : i < s.length) : Builtin.Str.subAt (S0 s) (S0 [c]) i = (s[i]? == some c) := by
  have hl : (S0 [c]).length = 1 := S0_len [c]
  unfold Builtin.Str.subAt
  rw [hl]
  have e1 : (S0 s).cps.extract i (i + 1) = [s[i]].toArray := by
    show s.toArray.extract i (i + 1) = _
    rw [List.extract_toArray, List.extract_eq_take_drop, List.drop_eq_getElem_cons h, Nat.add_sub_cancel_left]
    rfl
  rw [e1, List.getElem?_eq_getElem h]
  show ([s[i]].toArray == [c].toArray) = _
  by_cases e : s[i] = c
  · rw [e]; simp
  · have e2 : (s[i] == c) = false := by simpa using e
    simp [e2, e]
theorem occ_run (s : List Nat) (c lim : Nat) : ∀ (k a : Nat) (acc : Array Nat) (free : Nat), free ≤ a → (forIn (List.range' a k) (acc, free) (StrLaws.occBody (S0 s) (S0 [c]) s.length lim)).run.fst.toList = acc.toList ++ ((List.range' a k).filter fun i => s[i]? == some c).take (lim - acc.size)
  | 0, a, acc, free, h => by
    rw [show List.range' a 0 = [] from rfl, List.forIn_nil, List.filter_nil, List.take_nil, List.append_nil]
    rfl
  | k + 1, a, acc, free, h => by
    have hl : (S0 [c]).length = 1 := S0_len [c]
    have no : ¬ (((acc.size < lim ∧ free ≤ a) ∧ a + 1 ≤ s.length) ∧ Builtin.Str.subAt (S0 s) (S0 [c]) a = true) → (forIn (List.range' a (k + 1)) (acc, free) (StrLaws.occBody (S0 s) (S0 [c]) s.length lim)).run.fst.toList = acc.toList ++ ((List.range' (a + 1) k).filter fun i => s[i]? == some c).take (lim - acc.size) := fun n => by
      have e : StrLaws.occBody (S0 s) (S0 [c]) s.length lim a (acc, free) = pure (.yield (acc, free)) := by
        unfold StrLaws.occBody
        rw [hl]
        exact if_neg n
      rw [List.range'_succ, List.forIn_cons, e]
      exact occ_run s c lim k (a + 1) acc free (by omega)
    by_cases ha : a < s.length
    · by_cases hc : s[a]? = some c
      · have hs : Builtin.Str.subAt (S0 s) (S0 [c]) a = true := by rw [subAt_one s c a ha, hc]; simp
        by_cases hz : acc.size < lim
        · have e : StrLaws.occBody (S0 s) (S0 [c]) s.length lim a (acc, free) = pure (.yield (acc.push a, a + 1)) := by
            unfold StrLaws.occBody
            rw [hl]
            exact if_pos ⟨⟨⟨hz, h⟩, by omega⟩, hs⟩
          rw [List.range'_succ, List.forIn_cons, e]
          have ih := occ_run s c lim k (a + 1) (acc.push a) (a + 1) (Nat.le_refl _)
          refine Eq.trans ih ?_
          rw [List.filter_cons_of_pos (by rw [hc]; simp), Array.size_push, Array.toList_push]
          have : lim - acc.size = (lim - (acc.size + 1)) + 1 := by omega
          rw [this, List.take_succ_cons]
          simp
        · rw [no fun z => hz z.1.1.1]
          have : lim - acc.size = 0 := by omega
          rw [this, List.take_zero, List.take_zero]
      · have hs : ¬ Builtin.Str.subAt (S0 s) (S0 [c]) a = true := by rw [subAt_one s c a ha]; simpa using hc
        rw [no fun z => hs z.2, List.range'_succ, List.filter_cons_of_neg (by simpa using hc)]
    · rw [no fun z => by have := z.1.2; omega, List.range'_succ, List.filter_cons_of_neg (by rw [List.getElem?_eq_none (by omega)]; simp)]
theorem occ_one (s : List Nat) (c lo lim : Nat) : Builtin.Str.occurrences (S0 s) (S0 [c]) lo (S0 s).length lim = (places s c lo).take lim := by
  have hl : (S0 s).length = s.length := S0_len s
  rw [StrLaws.occ_eq, hl, occ_run s c lim _ lo #[] lo (Nat.le_refl _)]
  simp [places]

/-! ### calls of built-in functions -/
/-- the rule r of a list of values answers as g -/
def GoodC (K : PySem.W.Frag) (r : List V → Hp → VK → Prop) (g : List D → Res D) : Prop := ∀ (F H : Hp) (ds : List D) (vs : List V) (Q : VK), Same F H → Reps K F ds vs → ∀ d, g ds = .ok d → (∀ u F' H', Ext F H F' H' → Rep K F' d u → Q u H') → r vs H Q
/-- .. by a new list or dict -/
def GoodF (K : PySem.W.Frag) (r : List V → Hp → VK → Prop) (g : List D → Res D) : Prop := ∀ (F H : Hp) (ds : List D) (vs : List V) (Q : VK), Same F H → Reps K F ds vs → ∀ d, g ds = .ok d → (∀ p F' H', Ext F H F' H' → H p = none → F' p = none → OwnAt K F' H' p d → Q (.ref p) H') → r vs H Q
def NoXC (g : List D → Res D) : Prop := ∀ ds c, g ds ≠ .exc c
theorem GoodF.lst {K : PySem.W.Frag} {F H : Hp} {ds : List D} {vs : List V} {Q : VK} {p : Addr} (s : Same F H) (h : H p = none) (r : Reps K F ds vs) (hl : ds.length ≤ sizeLine) (k : ∀ p F' H', Ext F H F' H' → H p = none → F' p = none → OwnAt K F' H' p (.lst ds) → Q (.ref p) H') : Q (.ref p) (upd H p (.lst vs)) :=
  k p F _ (Ext.loose _ s h) h (Same.free s h) ⟨vs, upd_same, r, hl⟩
theorem rw_ok {α β : Type} {r : Res α} {g : α → Res β} {ok : β → Prop} {ex : Str → Prop} (hn : ∀ a c, g a ≠ .exc c) (h : RW (r.bind g) ok ex) : RW r (fun a => ∃ b, g a = .ok b ∧ ok b) ex :=
  RW.imp (RW.bind h) (fun a ha => by
    cases e : g a with
    | ok b => rw [e] at ha; exact ⟨b, rfl, ha⟩
    | exc c => exact absurd e (hn a c)
    | bad => rw [e] at ha; exact ha.elim) fun _ z => z
section
variable {X : Cx} {E : EX} {x : Str} {p pos : Pos} {e : Expr} {es : List Expr} {fs : Env → Res (List D)} {r : List V → Hp → VK → Prop} {g : List D → Res D} {id T : String}
theorem cb_good (gd : GoodC X.K r g) (nx : NoXC g) {σ : L2.St} {H : Hp} {Q : VK} (h : tD X.K E (fun ρ => (fs ρ).bind g) σ H Q) : tDs X.K E fs σ H fun vs H1 => r vs H1 Q := by
  obtain ⟨F, ρ, s, re, q⟩ := h
  exact ⟨F, ρ, s, re, RW.imp (rw_ok nx q) (fun ds ⟨d, e1, hd⟩ vs F1 H1 e r1 => gd F1 H1 ds vs Q e.sub r1 d e1 fun u F2 H2 e2 r2 => hd u F2 H2 (e.trans e2) r2) fun _ z => z⟩
theorem cb_goodF (gd : GoodF X.K r g) (nx : NoXC g) {σ : L2.St} {H : Hp} {Q : VK} (h : tDF X.K E (fun ρ => (fs ρ).bind g) σ H Q) : tDs X.K E fs σ H fun vs H1 => r vs H1 Q := by
  obtain ⟨F, ρ, s, re, q⟩ := h
  exact ⟨F, ρ, s, re, RW.imp (rw_ok nx q) (fun ds ⟨d, e1, hd⟩ vs F1 H1 e r1 => gd F1 H1 ds vs Q e.sub r1 d e1 fun p F2 H2 e2 h1 h2 h3 => hd p F2 H2 (e.trans e2) (Same.free e.same h1) h2 h3) fun _ z => z⟩
theorem de_bB (hc : CallR X (.builtin id) r) (gd : GoodC X.K r g) (nx : NoXC g) (hg : Gl X x) (hm : X.mg x = none) (hv : bootBuiltins x = some (.builtin id)) (hn : x ≠ "__name__") (hdb : (x == ("__debug__" : Str)) = false) (ha : DEs X E (e :: es) fs)
    (he : starEach (e :: es) X.env = (false, eval e X.env) :: starEach es X.env) (hpl : (backTo pos (starEach es X.env)).any (·.1) = false) : DE X E (.Call (.Name x p) (e :: es) [] pos) (fun ρ => (fs ρ).bind g) :=
  pe_weak (pe_callB hc hg hm hv ha hn hdb he hpl) fun σ H Q h => cb_good gd nx h
theorem de_bT (hc : CallR X (.type T) r) (gd : GoodC X.K r g) (nx : NoXC g) (hg : Gl X x) (hm : X.mg x = none) (hv : bootBuiltins x = some (.type T)) (hn : x ≠ "__name__") (hdb : (x == ("__debug__" : Str)) = false) (ha : DEs X E (e :: es) fs)
    (he : starEach (e :: es) X.env = (false, eval e X.env) :: starEach es X.env) (hpl : (backTo pos (starEach es X.env)).any (·.1) = false) : DE X E (.Call (.Name x p) (e :: es) [] pos) (fun ρ => (fs ρ).bind g) :=
  pe_weak (pe_callTy hc hg hm hv ha hn hdb he hpl) fun σ H Q h => cb_good gd nx h
theorem df_bB (hc : CallR X (.builtin id) r) (gd : GoodF X.K r g) (nx : NoXC g) (hg : Gl X x) (hm : X.mg x = none) (hv : bootBuiltins x = some (.builtin id)) (hn : x ≠ "__name__") (hdb : (x == ("__debug__" : Str)) = false) (ha : DEs X E (e :: es) fs)
    (he : starEach (e :: es) X.env = (false, eval e X.env) :: starEach es X.env) (hpl : (backTo pos (starEach es X.env)).any (·.1) = false) : DF X E (.Call (.Name x p) (e :: es) [] pos) (fun ρ => (fs ρ).bind g) :=
  pe_weak (pe_callB hc hg hm hv ha hn hdb he hpl) fun σ H Q h => cb_goodF gd nx h
theorem df_bT (hc : CallR X (.type T) r) (gd : GoodF X.K r g) (nx : NoXC g) (hg : Gl X x) (hm : X.mg x = none) (hv : bootBuiltins x = some (.type T)) (hn : x ≠ "__name__") (hdb : (x == ("__debug__" : Str)) = false) (ha : DEs X E (e :: es) fs)
    (he : starEach (e :: es) X.env = (false, eval e X.env) :: starEach es X.env) (hpl : (backTo pos (starEach es X.env)).any (·.1) = false) : DF X E (.Call (.Name x p) (e :: es) [] pos) (fun ρ => (fs ρ).bind g) :=
  pe_weak (pe_callTy hc hg hm hv ha hn hdb he hpl) fun σ H Q h => cb_goodF gd nx h
end
def intsOf : List D → Option (List Int)
  | [] => some []
  | .int i :: r => (intsOf r).map (i :: ·)
  | _ => none
def blsOf : List D → Option (List Bool)
  | [] => some []
  | .bl i :: r => (blsOf r).map (i :: ·)
  | _ => none
def strsOf : List D → Option (List (List Nat))
  | [] => some []
  | .str i :: r => (strsOf r).map (i :: ·)
  | _ => none
section
variable {K : PySem.W.Frag} {F : Hp}
theorem Reps.one {d : D} {vs : List V} (h : Reps K F [d] vs) : ∃ v, vs = [v] ∧ Rep K F d v := by
  obtain ⟨v, r, rfl, h1, h2⟩ := h.uncons
  have := h2.nil_eq; subst this
  exact ⟨v, rfl, h1⟩
theorem Reps.two {d e : D} {vs : List V} (h : Reps K F [d, e] vs) : ∃ v w, vs = [v, w] ∧ Rep K F d v ∧ Rep K F e w := by
  obtain ⟨v, r, rfl, h1, h2⟩ := h.uncons
  obtain ⟨w, rfl, h3⟩ := h2.one
  exact ⟨v, w, rfl, h1, h3⟩
theorem Reps.ofInts : ∀ {ds : List D} {vs : List V} {ns : List Int}, intsOf ds = some ns → Reps K F ds vs → vs = ns.map V.int
  | [], vs, ns, e, h => by cases e; exact h.nil_eq
  | .int i :: ds, vs, ns, e, h => by
    obtain ⟨v, r, rfl, h1, h2⟩ := h.uncons
    simp only [intsOf, Option.map_eq_some_iff] at e
    obtain ⟨ms, e1, rfl⟩ := e
    rw [rep_int h1, Reps.ofInts e1 h2]
    rfl
theorem Reps.ofBls : ∀ {ds : List D} {vs : List V} {ns : List Bool}, blsOf ds = some ns → Reps K F ds vs → vs = ns.map V.bl
  | [], vs, ns, e, h => by cases e; exact h.nil_eq
  | .bl i :: ds, vs, ns, e, h => by
    obtain ⟨v, r, rfl, h1, h2⟩ := h.uncons
    simp only [blsOf, Option.map_eq_some_iff] at e
    obtain ⟨ms, e1, rfl⟩ := e
    rw [rep_bl h1, Reps.ofBls e1 h2]
    rfl
theorem Reps.ofStrs : ∀ {ds : List D} {vs : List V} {ns : List (List Nat)}, strsOf ds = some ns → Reps K F ds vs → vs = (ns.map S0).map V.str
  | [], vs, ns, e, h => by cases e; exact h.nil_eq
  | .str i :: ds, vs, ns, e, h => by
    obtain ⟨v, r, rfl, h1, h2⟩ := h.uncons
    simp only [strsOf, Option.map_eq_some_iff] at e
    obtain ⟨ms, e1, rfl⟩ := e
    rw [(rep_str h1).1, Reps.ofStrs e1 h2]
    rfl
/-! the functions -/
def lenR : List D → Res D
  | [.str s] => .ok (.int (s.length : Nat))
  | [.lst s] => .ok (.int (s.length : Nat))
  | [.tup s] => .ok (.int (s.length : Nat))
  | [.scr s] => .ok (.int (s.length : Nat))
  | _ => .bad
def intR : List D → Res D
  | [.int i] => .ok (.int i)
  | [.bl b] => .ok (.int (if b then 1 else 0))
  | _ => .bad
def maxO : List Int → Option Int
  | [] => none
  | a :: r => some (r.foldl (fun x y => if y > x then y else x) a)
def minO : List Int → Option Int
  | [] => none
  | a :: r => some (r.foldl (fun x y => if y < x then y else x) a)
def optI : Option Int → Res D
  | some i => .ok (.int i)
  | none => .bad
def maxR : List D → Res D
  | [.int i, .int j] => .ok (.int (if j > i then j else i))
  | [.lst ds] => optI ((intsOf ds).bind maxO)
  | _ => .bad
def minR : List D → Res D
  | [.int i, .int j] => .ok (.int (if j < i then j else i))
  | [.lst ds] => optI ((intsOf ds).bind minO)
  | _ => .bad
def sumR : List D → Res D
  | [.lst ds] => optI ((intsOf ds).map List.sum)
  | _ => .bad
def optB : Option Bool → Res D
  | some i => .ok (.bl i)
  | none => .bad
def anyR : List D → Res D
  | [.lst ds] => optB ((blsOf ds).map fun bs => bs.any id)
  | _ => .bad
def allR : List D → Res D
  | [.lst ds] => optB ((blsOf ds).map fun bs => bs.all id)
  | _ => .bad
def listR : List D → Res D
  | [.lst ds] => .ok (.lst ds)
  | [.tup ds] => .ok (.lst ds)
  | _ => .bad
def tupleR : List D → Res D
  | [.lst ds] => .ok (.tup ds)
  | [.tup ds] => .ok (.tup ds)
  | _ => .bad
theorem maxO_spec : ∀ {ns : List Int} {m : Int}, maxO ns = some m → m ∈ ns ∧ ∀ y ∈ ns, y ≤ m
  | a :: r, m, h => by
    have key : ∀ (r : List Int) (a : Int), let m := r.foldl (fun x y => if y > x then y else x) a; (m = a ∨ m ∈ r) ∧ a ≤ m ∧ ∀ y ∈ r, y ≤ m := by
      intro r
      induction r with
      | nil => intro a; exact ⟨.inl rfl, Int.le_refl _, fun y hy => by cases hy⟩
      | cons b r ih =>
        intro a
        rw [List.foldl_cons]
        obtain ⟨h1, h2, h3⟩ := ih (if b > a then b else a)
        by_cases hb : b > a
        · rw [if_pos hb] at h1 h2 h3 ⊢
          refine ⟨.inr ?_, by omega, fun y hy => ?_⟩
          · rcases h1 with z | z
            · rw [z]; exact List.mem_cons_self
            · exact List.mem_cons_of_mem _ z
          · rcases List.mem_cons.mp hy with z | z
            · rw [z]; exact h2
            · exact h3 y z
        · rw [if_neg hb] at h1 h2 h3 ⊢
          refine ⟨h1.imp id (List.mem_cons_of_mem _), h2, fun y hy => ?_⟩
          rcases List.mem_cons.mp hy with z | z
          · rw [z]; omega
          · exact h3 y z
    obtain ⟨h1, h2, h3⟩ := key r a
    cases h
    refine ⟨?_, fun y hy => ?_⟩
    · rcases h1 with z | z
      · rw [z]; exact List.mem_cons_self
      · exact List.mem_cons_of_mem _ z
    · rcases List.mem_cons.mp hy with z | z
      · rw [z]; exact h2
      · exact h3 y z
theorem minO_spec : ∀ {ns : List Int} {m : Int}, minO ns = some m → m ∈ ns ∧ ∀ y ∈ ns, m ≤ y
  | a :: r, m, h => by
    have key : ∀ (r : List Int) (a : Int), let m := r.foldl (fun x y => if y < x then y else x) a; (m = a ∨ m ∈ r) ∧ m ≤ a ∧ ∀ y ∈ r, m ≤ y := by
      intro r
      induction r with
      | nil => intro a; exact ⟨.inl rfl, Int.le_refl _, fun y hy => by cases hy⟩
      | cons b r ih =>
        intro a
        rw [List.foldl_cons]
        obtain ⟨h1, h2, h3⟩ := ih (if b < a then b else a)
        by_cases hb : b < a
        · rw [if_pos hb] at h1 h2 h3 ⊢
          refine ⟨.inr ?_, by omega, fun y hy => ?_⟩
          · rcases h1 with z | z
            · rw [z]; exact List.mem_cons_self
            · exact List.mem_cons_of_mem _ z
          · rcases List.mem_cons.mp hy with z | z
            · rw [z]; exact h2
            · exact h3 y z
        · rw [if_neg hb] at h1 h2 h3 ⊢
          refine ⟨h1.imp id (List.mem_cons_of_mem _), h2, fun y hy => ?_⟩
          rcases List.mem_cons.mp hy with z | z
          · rw [z]; omega
          · exact h3 y z
    obtain ⟨h1, h2, h3⟩ := key r a
    cases h
    refine ⟨?_, fun y hy => ?_⟩
    · rcases h1 with z | z
      · rw [z]; exact List.mem_cons_self
      · exact List.mem_cons_of_mem _ z
    · rcases List.mem_cons.mp hy with z | z
      · rw [z]; exact h2
      · exact h3 y z
theorem maxO_pos {ns : List Int} {m : Int} (h : maxO ns = some m) : 0 < ns.length := by cases ns with | nil => cases h | cons a r => simp
theorem minO_pos {ns : List Int} {m : Int} (h : minO ns = some m) : 0 < ns.length := by cases ns with | nil => cases h | cons a r => simp
theorem optI_ok {o : Option Int} {d : D} (h : optI o = .ok d) : ∃ i, o = some i ∧ d = .int i := by
  cases o with
  | none => cases h
  | some i => cases h; exact ⟨i, rfl, rfl⟩
theorem optB_ok {o : Option Bool} {d : D} (h : optB o = .ok d) : ∃ i, o = some i ∧ d = .bl i := by
  cases o with
  | none => cases h
  | some i => cases h; exact ⟨i, rfl, rfl⟩
theorem optI_nox {o : Option Int} {c : Str} : optI o ≠ .exc c := by cases o <;> intro h <;> cases h
theorem optB_nox {o : Option Bool} {c : Str} : optB o ≠ .exc c := by cases o <;> intro h <;> cases h
end
section
variable {K : PySem.W.Frag}
theorem good_len : GoodC K (fun xs H Q => ∃ x n, xs = [x] ∧ LenV K x H n ∧ Q (.int n) H) lenR := by
  intro F H ds vs Q s r d e k
  unfold lenR at e
  split at e
  · rename_i z
    cases e
    obtain ⟨v, rfl, r1⟩ := r.one
    obtain ⟨rfl, h1, h2⟩ := rep_str r1
    exact ⟨_, _, rfl, ⟨by rw [S0_len]; exact h2, (S0_len z).symm⟩, k _ F H (Ext.refl s) mk_int⟩
  · rename_i z
    cases e
    obtain ⟨v, rfl, r1⟩ := r.one
    obtain ⟨a, vs, rfl, h1, h2, h3⟩ := rep_lst r1
    exact ⟨_, _, rfl, .inl ⟨vs, SqL.of (s _ _ h1), h2.length.symm⟩, k _ F H (Ext.refl s) mk_int⟩
  · rename_i z
    cases e
    obtain ⟨v, rfl, r1⟩ := r.one
    obtain ⟨a, vs, rfl, h1, h2, h3⟩ := rep_tup r1
    exact ⟨_, _, rfl, .inr ⟨vs, h1.sq s, h2.length.symm⟩, k _ F H (Ext.refl s) mk_int⟩
  · rename_i z
    cases e
    obtain ⟨v, rfl, r1⟩ := r.one
    simp only [Rep] at r1
    obtain ⟨a, rfl, h1⟩ := r1
    exact ⟨_, _, rfl, .inl ⟨z.map V.int, Same.seq s h1, (List.length_map ..).symm⟩, k _ F H (Ext.refl s) mk_int⟩
  · cases e
theorem nox_len : NoXC lenR := by intro ds c h; unfold lenR at h; split at h <;> cases h
theorem good_int : GoodC K (fun xs H Q => (∃ i, xs = [.int i] ∧ Q (.int i) H) ∨ ∃ k, xs = [.bl k] ∧ Q (.int (if k then 1 else 0)) H) intR := by
  intro F H ds vs Q s r d e k
  unfold intR at e
  split at e
  · cases e
    obtain ⟨v, rfl, r1⟩ := r.one
    rw [rep_int r1]
    exact .inl ⟨_, rfl, k _ F H (Ext.refl s) mk_int⟩
  · cases e
    obtain ⟨v, rfl, r1⟩ := r.one
    rw [rep_bl r1]
    exact .inr ⟨_, rfl, k _ F H (Ext.refl s) mk_int⟩
  · cases e
theorem nox_int : NoXC intR := by intro ds c h; unfold intR at h; split at h <;> cases h
theorem good_max : GoodC K (fun xs H Q => (∃ i j, xs = [.int i, .int j] ∧ Q (.int (if j > i then j else i)) H) ∨ rMax K xs H Q) maxR := by
  intro F H ds vs Q s r d e k
  unfold maxR at e
  split at e
  · cases e
    obtain ⟨v, w, rfl, r1, r2⟩ := r.two
    rw [rep_int r1, rep_int r2]
    exact .inl ⟨_, _, rfl, k _ F H (Ext.refl s) mk_int⟩
  · rename_i xs
    obtain ⟨i, e1, rfl⟩ := optI_ok e
    obtain ⟨ns, e2, e3⟩ := Option.bind_eq_some_iff.mp e1
    obtain ⟨v, rfl, r1⟩ := r.one
    obtain ⟨a, vs, rfl, h1, h2, h3⟩ := rep_lst r1
    have := h2.ofInts e2; subst this
    refine .inr ⟨a, ns, rfl, SqL.of (s _ _ h1), maxO_pos e3, fun m hm hy => ?_⟩
    obtain ⟨g1, g2⟩ := maxO_spec e3
    have : m = i := Int.le_antisymm (g2 m hm) (hy i g1)
    subst this
    exact k _ F H (Ext.refl s) mk_int
  · cases e
theorem nox_max : NoXC maxR := by
  intro ds c h; unfold maxR at h; split at h
  · cases h
  · exact optI_nox h
  · cases h
theorem good_min : GoodC K (fun xs H Q => (∃ i j, xs = [.int i, .int j] ∧ Q (.int (if j < i then j else i)) H) ∨ rMin K xs H Q) minR := by
  intro F H ds vs Q s r d e k
  unfold minR at e
  split at e
  · cases e
    obtain ⟨v, w, rfl, r1, r2⟩ := r.two
    rw [rep_int r1, rep_int r2]
    exact .inl ⟨_, _, rfl, k _ F H (Ext.refl s) mk_int⟩
  · rename_i xs
    obtain ⟨i, e1, rfl⟩ := optI_ok e
    obtain ⟨ns, e2, e3⟩ := Option.bind_eq_some_iff.mp e1
    obtain ⟨v, rfl, r1⟩ := r.one
    obtain ⟨a, vs, rfl, h1, h2, h3⟩ := rep_lst r1
    have := h2.ofInts e2; subst this
    refine .inr ⟨a, ns, rfl, SqL.of (s _ _ h1), minO_pos e3, fun m hm hy => ?_⟩
    obtain ⟨g1, g2⟩ := minO_spec e3
    have : m = i := Int.le_antisymm (hy i g1) (g2 m hm)
    subst this
    exact k _ F H (Ext.refl s) mk_int
  · cases e
theorem nox_min : NoXC minR := by
  intro ds c h; unfold minR at h; split at h
  · cases h
  · exact optI_nox h
  · cases h
theorem good_sum : GoodC K (rSum K) sumR := by
  intro F H ds vs Q s r d e k
  unfold sumR at e
  split at e
  · obtain ⟨i, e1, rfl⟩ := optI_ok e
    obtain ⟨ns, e2, rfl⟩ := Option.map_eq_some_iff.mp e1
    obtain ⟨v, rfl, r1⟩ := r.one
    obtain ⟨a, vs, rfl, h1, h2, h3⟩ := rep_lst r1
    have := h2.ofInts e2; subst this
    exact ⟨a, ns, rfl, SqL.of (s _ _ h1), k _ F H (Ext.refl s) mk_int⟩
  · cases e
theorem nox_sum : NoXC sumR := by
  intro ds c h; unfold sumR at h; split at h
  · exact optI_nox h
  · cases h
theorem good_any : GoodC K (rAny K) anyR := by
  intro F H ds vs Q s r d e k
  unfold anyR at e
  split at e
  · obtain ⟨i, e1, rfl⟩ := optB_ok e
    obtain ⟨ns, e2, rfl⟩ := Option.map_eq_some_iff.mp e1
    obtain ⟨v, rfl, r1⟩ := r.one
    obtain ⟨a, vs, rfl, h1, h2, h3⟩ := rep_lst r1
    have := h2.ofBls e2; subst this
    exact ⟨a, ns, rfl, SqL.of (s _ _ h1), k _ F H (Ext.refl s) mk_bl⟩
  · cases e
theorem nox_any : NoXC anyR := by
  intro ds c h; unfold anyR at h; split at h
  · exact optB_nox h
  · cases h
theorem good_all : GoodC K (rAll K) allR := by
  intro F H ds vs Q s r d e k
  unfold allR at e
  split at e
  · obtain ⟨i, e1, rfl⟩ := optB_ok e
    obtain ⟨ns, e2, rfl⟩ := Option.map_eq_some_iff.mp e1
    obtain ⟨v, rfl, r1⟩ := r.one
    obtain ⟨a, vs, rfl, h1, h2, h3⟩ := rep_lst r1
    have := h2.ofBls e2; subst this
    exact ⟨a, ns, rfl, SqL.of (s _ _ h1), k _ F H (Ext.refl s) mk_bl⟩
  · cases e
theorem nox_all : NoXC allR := by
  intro ds c h; unfold allR at h; split at h
  · exact optB_nox h
  · cases h
theorem good_list : GoodF K (fun xs H Q => ∃ p ys, xs = [.ref p] ∧ (SqL K H p ys ∨ SqT K H p ys) ∧ ∀ l, H l = none → Q (.ref l) (upd H l (.lst ys))) listR := by
  intro F H ds vs Q s r d e k
  unfold listR at e
  split at e
  · cases e
    obtain ⟨v, rfl, r1⟩ := r.one
    obtain ⟨a, vs, rfl, h1, h2, h3⟩ := rep_lst r1
    exact ⟨a, vs, rfl, .inl (SqL.of (s _ _ h1)), fun l hl => GoodF.lst s hl h2 h3 k⟩
  · cases e
    obtain ⟨v, rfl, r1⟩ := r.one
    obtain ⟨a, vs, rfl, h1, h2, h3⟩ := rep_tup r1
    exact ⟨a, vs, rfl, .inr (h1.sq s), fun l hl => GoodF.lst s hl h2 h3 k⟩
  · cases e
theorem nox_list : NoXC listR := by intro ds c h; unfold listR at h; split at h <;> cases h
def rTupZ (K : PySem.W.Frag) : List V → Hp → VK → Prop := fun xs H Q => ∃ p ys, xs = [.ref p] ∧ ((SqL K H p ys ∧ ((∀ l, H l = none → Q (.ref l) (upd H l (.tup ys))) ∨ ∀ l o, H l = none → o.dict = none → Q (.ref l) (upd H l (.frz o (.tup ys))))) ∨ (SqT K H p ys ∧ Q (.ref p) H))
theorem good_tuple : GoodC K (rTupZ K) tupleR := by
  intro F H ds vs Q s r d e k
  unfold tupleR at e
  split at e
  · rename_i xs
    cases e
    obtain ⟨v, rfl, r1⟩ := r.one
    obtain ⟨a, vs, rfl, h1, h2, h3⟩ := rep_lst r1
    refine ⟨a, vs, rfl, .inl ⟨SqL.of (s _ _ h1), ?_⟩⟩
    cases n : tabB xs with
    | false =>
      refine .inl fun l hl => ?_
      obtain ⟨e2, r2⟩ := new_tup (K := K) n s hl h2 h3
      exact k _ _ _ e2 r2
    | true =>
      refine .inr fun l o hl ho => ?_
      refine k _ _ _ (Ext.alloc _ s hl) ?_
      simp only [Rep]
      exact ⟨l, vs, rfl, by unfold TupF; rw [n, if_pos rfl]; exact ⟨o, upd_same, ho⟩, h2.mono (same_upd (Same.free s hl)), h3⟩
  · cases e
    obtain ⟨v, rfl, r1⟩ := r.one
    obtain ⟨a, vs, rfl, h1, h2, h3⟩ := rep_tup r1
    exact ⟨a, vs, rfl, .inr ⟨h1.sq s, k _ F H (Ext.refl s) r1⟩⟩
  · cases e
/-- tuple(xs) of a list: of the new object it may be told that it is a plain one -/
theorem call_tupleZ {X : Cx} : CallR X (.type "tuple") (rTupZ X.K) := by
  intro pins s σ H xs us Q I r ⟨p, ys, e, h⟩
  subst e
  rcases h with ⟨hq, h⟩ | ⟨hq, h⟩
  · rcases h with h | h
    · exact call_tuple_of pins s σ H _ us Q I r ⟨p, ys, rfl, .inl ⟨hq, h⟩⟩
    · obtain ⟨u, rfl, rx⟩ := vals1 r
      cases rx
      obtain ⟨its, r', pl, hz⟩ := I.list hq
      refine call_tuple_list pl.isList (fun h' kp => ?_) (by have := r'.length; simp only [List.size_toArray]; omega)
      have I1 : Inv X pins σ H { s with heap := h' } := I.kept (t' := s.toks) kp
      let ob : Obj := { cls := .type "tuple", data := .seq its.toArray }
      refine ⟨.ref h'.objs.size, _, I1.laid (t' := s.toks) (o := .frz ob (.tup ys)) (fun b o e => Heap.get?_push_of_some _ e) (Nat.le_refl _) ⟨Heap.get?_push_size _ rfl, ?_⟩, rfl, h _ ob (I1.hok.fresh (Nat.le_refl _)) rfl⟩
      exact ⟨hz, its, r', PyProof.Rows.IsTup.new _ _⟩
  · exact call_tuple_of pins s σ H _ us Q I r ⟨p, ys, rfl, .inr ⟨hq, h⟩⟩
theorem nox_tuple : NoXC tupleR := by intro ds c h; unfold tupleR at h; split at h <;> cases h
end
end DL
/-! The data layer, 8: methods of texts and lists. -/
namespace DL
open PySem PySem.Spec L2
def GoodM (K : PySem.W.Frag) (r : V → List V → Hp → VK → Prop) (g : D → List D → Res D) : Prop := ∀ (F H : Hp) (x : D) (v : V) (ds : List D) (vs : List V) (Q : VK), Same F H → Rep K F x v → Reps K F ds vs → ∀ d, g x ds = .ok d → (∀ u F' H', Ext F H F' H' → Rep K F' d u → Q u H') → r v vs H Q
def NoXM (g : D → List D → Res D) : Prop := ∀ x ds c, g x ds ≠ .exc c
/-- a new list or tuple by a method -/
def GoodMF (K : PySem.W.Frag) (r : V → List V → Hp → VK → Prop) (g : D → List D → Res D) : Prop := ∀ (F H : Hp) (x : D) (v : V) (ds : List D) (vs : List V) (Q : VK), Same F H → Rep K F x v → Reps K F ds vs → ∀ d, g x ds = .ok d → (∀ p F' H', Ext F H F' H' → H p = none → F' p = none → OwnAt K F' H' p d → Q (.ref p) H') → r v vs H Q
def isStr : D → Bool
  | .str _ => true
  | _ => false
def isLst : D → Bool
  | .lst _ => true
  | _ => false
def TyOk (K : PySem.W.Frag) (T : String) (ty : D → Bool) : Prop := ∀ (F H : Hp) (x : D) (v : V), Same F H → Rep K F x v → ty x = true → tyV K T v H
theorem tyok_str {K : PySem.W.Frag} : TyOk K "str" isStr := fun F H x v s r e => by
  cases x <;> simp [isStr] at e
  obtain ⟨rfl, _⟩ := rep_str r
  rfl
theorem tyok_lst {K : PySem.W.Frag} : TyOk K "list" isLst := fun F H x v s r e => by
  cases x <;> simp [isLst] at e
  obtain ⟨a, vs, rfl, h1, h2, h3⟩ := rep_lst r
  exact .inl ⟨rfl, vs, SqL.of (s _ _ h1)⟩
def mthV (ty : D → Bool) (g : D → List D → Res D) (fo : Env → Res D) (fs : Env → Res (List D)) : Env → Res D := fun ρ => (fo ρ).bind fun x => if ty x = true then (fs ρ).bind (g x) else .bad
section
variable {X : Cx} {E : EX} {o e : Expr} {es : List Expr} {fo : Env → Res D} {fs : Env → Res (List D)} {name : Str} {apos cpos : Pos} {T id : String} {r : V → List V → Hp → VK → Prop} {ty : D → Bool} {g : D → List D → Res D}
theorem mth_two (ht : TyOk X.K T ty) (gd : GoodM X.K r g) (nx : NoXM g) {σ : L2.St} {H : Hp} {Q : VK} (h : tD X.K E (mthV ty g fo fs) σ H Q) : tD X.K E fo σ H fun x H1 => tyV X.K T x H1 ∧ tDs X.K E fs σ H1 fun xs H2 => r x xs H2 Q := by
  obtain ⟨F, ρ, s, re, q⟩ := h
  refine ⟨F, ρ, s, re, RW.imp (RW.bind q) (fun x hx v F1 H1 e1 r1 => ?_) fun _ z => z⟩
  split at hx
  · rename_i hty
    refine ⟨ht F1 H1 x v e1.sub r1 hty, F1, ρ, e1.sub, re.mono e1.grow, RW.imp (rw_ok (nx x) hx) (fun ds ⟨d, e2, hd⟩ vs F2 H2 e3 r3 => ?_) fun _ z => z.mono e1.same⟩
    exact gd F2 H2 x v ds vs Q e3.sub (r1.mono e3.grow) r3 d e2 fun u F4 H4 e4 r4 => hd u F4 H4 ((e1.trans e3).trans e4) r4
  · exact hx.elim
theorem mth_twoF (ht : TyOk X.K T ty) (gd : GoodMF X.K r g) (nx : NoXM g) {σ : L2.St} {H : Hp} {Q : VK} (h : tDF X.K E (mthV ty g fo fs) σ H Q) : tD X.K E fo σ H fun x H1 => tyV X.K T x H1 ∧ tDs X.K E fs σ H1 fun xs H2 => r x xs H2 Q := by
  obtain ⟨F, ρ, s, re, q⟩ := h
  refine ⟨F, ρ, s, re, RW.imp (RW.bind q) (fun x hx v F1 H1 e1 r1 => ?_) fun _ z => z⟩
  split at hx
  · rename_i hty
    refine ⟨ht F1 H1 x v e1.sub r1 hty, F1, ρ, e1.sub, re.mono e1.grow, RW.imp (rw_ok (nx x) hx) (fun ds ⟨d, e2, hd⟩ vs F2 H2 e3 r3 => ?_) fun _ z => z.mono e1.same⟩
    exact gd F2 H2 x v ds vs Q e3.sub (r1.mono e3.grow) r3 d e2 fun u F4 H4 e4 h1 h2 h3 => hd u F4 H4 ((e1.trans e3).trans e4) (Same.free (e1.trans e3).same h1) h2 h3
  · exact hx.elim
theorem de_bm (pa : PlainAttrs T) (slot : Slot T name id) (hty : typeOf (.builtin id) = pure (.type "method_descriptor")) (hm : MtR X id r) (ht : TyOk X.K T ty) (gd : GoodM X.K r g) (nx : NoXM g) (ho : DE X E o fo) (ha : DEs X E (e :: es) fs)
    (hbase : attributeBase o name X.env (eval o X.env) = eval o X.env)
    (hfew : ((backTo cpos (starEach (e :: es) X.env)).all (fun x => !x.1) && (backToKw cpos (keywordEach [] X.env)).all (fun x => x.1.isSome)
      && decide ((e :: es).length + ([] : List Keyword).length + (if ([] : List Keyword).isEmpty then 0 else 1) < 30)) = true)
    (hline : (apos.endLine == cpos.line) = true) (hs : starEach (e :: es) X.env = (false, eval e X.env) :: starEach es X.env) (hplain : (backTo cpos (starEach es X.env)).any (·.1) = false) :
    DE X E (.Call (.Attribute o name apos) (e :: es) [] cpos) (mthV ty g fo fs) :=
  pe_weak (pe_bm pa slot hty hm ho ha hbase hfew hline hs hplain) fun σ H Q h => mth_two ht gd nx h
theorem df_bm (pa : PlainAttrs T) (slot : Slot T name id) (hty : typeOf (.builtin id) = pure (.type "method_descriptor")) (hm : MtR X id r) (ht : TyOk X.K T ty) (gd : GoodMF X.K r g) (nx : NoXM g) (ho : DE X E o fo) (ha : DEs X E (e :: es) fs)
    (hbase : attributeBase o name X.env (eval o X.env) = eval o X.env)
    (hfew : ((backTo cpos (starEach (e :: es) X.env)).all (fun x => !x.1) && (backToKw cpos (keywordEach [] X.env)).all (fun x => x.1.isSome)
      && decide ((e :: es).length + ([] : List Keyword).length + (if ([] : List Keyword).isEmpty then 0 else 1) < 30)) = true)
    (hline : (apos.endLine == cpos.line) = true) (hs : starEach (e :: es) X.env = (false, eval e X.env) :: starEach es X.env) (hplain : (backTo cpos (starEach es X.env)).any (·.1) = false) :
    DF X E (.Call (.Attribute o name apos) (e :: es) [] cpos) (mthV ty g fo fs) :=
  pe_weak (pe_bm pa slot hty hm ho ha hbase hfew hline hs hplain) fun σ H Q h => mth_twoF ht gd nx h
end
/-! the functions -/
def first? : List Nat → Res D
  | i :: _ => .ok (.int (i : Nat))
  | [] => .bad
def idxS : D → List D → Res D
  | .str s, [.str [c]] => first? (places s c 0)
  | _, _ => .bad
def cntS : D → List D → Res D
  | .str s, [.str [c]] => .ok (.int ((places s c 0).length : Nat))
  | _, _ => .bad
def fndI : List Nat → Int
  | i :: _ => (i : Nat)
  | [] => -1
def fndS : D → List D → Res D
  | .str s, [.str [c], .int i] => if 0 ≤ i then .ok (.int (fndI (places s c i.toNat))) else .bad
  | _, _ => .bad
def idxL : D → List D → Res D
  | .lst ds, [d] => if ds.all (plain 60) = true ∧ plain 60 d = true then (match ds.findIdx? fun e => eqD e d with | some j => .ok (.int (j : Nat)) | none => .bad) else .bad
  | _, _ => .bad
theorem places_len (s : List Nat) (c : Nat) : (places s c 0).length ≤ s.length + 1 := by
  unfold places
  refine Nat.le_trans (List.length_filter_le _ _) ?_
  rw [List.length_range']
  omega
section
variable {K : PySem.W.Frag}
theorem good_idxS : GoodM K (fun x xs H Q => ∃ a b i rest, x = .str a ∧ xs = [.str b] ∧ Builtin.Str.occurrences a b 0 a.length 1 = i :: rest ∧ Q (.int (i : Nat)) H) idxS := by
  intro F H x v ds vs Q s rx rs d e k
  unfold idxS at e
  split at e
  · rename_i z c
    obtain ⟨rfl, _⟩ := rep_str rx
    obtain ⟨w, rfl, r2⟩ := rs.one
    obtain ⟨rfl, _⟩ := rep_str r2
    cases q : places z c 0 with
    | nil => rw [q] at e; cases e
    | cons i rest =>
      rw [q] at e
      cases e
      exact ⟨_, _, i, [], rfl, rfl, by rw [occ_one, q]; rfl, k _ F H (Ext.refl s) mk_int⟩
  · cases e
theorem nox_idxS : NoXM idxS := by
  intro x ds c h
  unfold idxS at h
  split at h
  · rename_i s c'
    cases q : places s c' 0 <;> (rw [q] at h; cases h)
  · cases h
theorem good_cntS : GoodM K (fun x xs H Q => ∃ a b, x = .str a ∧ xs = [.str b] ∧ Q (.int (Txt.count a b)) H) cntS := by
  intro F H x v ds vs Q s rx rs d e k
  unfold cntS at e
  split at e
  · rename_i z c
    obtain ⟨rfl, _⟩ := rep_str rx
    obtain ⟨w, rfl, r2⟩ := rs.one
    obtain ⟨rfl, _⟩ := rep_str r2
    cases e
    have e1 : Txt.count (S0 z) (S0 [c]) = ((places z c 0).length : Nat) := by
      unfold Txt.count
      rw [occ_one, List.take_of_length_le (by rw [S0_len]; exact places_len z c)]
    exact ⟨_, _, rfl, rfl, by rw [e1]; exact k _ F H (Ext.refl s) mk_int⟩
  · cases e
theorem nox_cntS : NoXM cntS := by intro x ds c h; unfold cntS at h; split at h <;> cases h
theorem good_fndS : GoodM K (fun x xs H Q => ∃ (a b : Str) (i : Int), x = .str a ∧ xs = [.str b, .int i] ∧ Q (.int (Txt.find3 a b i)) H) fndS := by
  intro F H x v ds vs Q s rx rs d e k
  unfold fndS at e
  split at e
  · rename_i z c i
    split at e
    · rename_i hi
      obtain ⟨rfl, _⟩ := rep_str rx
      obtain ⟨w, w2, rfl, r2, r3⟩ := rs.two
      obtain ⟨rfl, _⟩ := rep_str r2
      rw [rep_int r3]
      cases e
      have e0 : fromIndex (S0 z).length i = i.toNat := by
        unfold fromIndex
        rw [if_neg (by omega)]
        omega
      have e1 : Txt.find3 (S0 z) (S0 [c]) i = fndI (places z c i.toNat) := by
        unfold Txt.find3
        rw [e0, occ_one]
        cases places z c i.toNat <;> rfl
      exact ⟨_, _, _, rfl, rfl, by rw [e1]; exact k _ F H (Ext.refl s) mk_int⟩
    · cases e
  · cases e
theorem nox_fndS : NoXM fndS := by intro x ds c h; unfold fndS at h; split at h <;> (try split at h) <;> cases h
theorem idx_eq {n : Nat} {d : D} (hd : plain n d = true) : ∀ (ds : List D) (j : Nat), ds.all (plain n) = true → (ds.findIdx? fun e => eqD e d) = some j →
    (∃ z, (toPys ds)[j]? = some z ∧ PyData.eqv z (toPy d) = true) ∧ ∀ m z', m < j → (toPys ds)[m]? = some z' → PyData.eqv z' (toPy d) = false
  | [], j, _, h => by simp at h
  | e :: ds, j, ha, h => by
    rw [List.all_cons, Bool.and_eq_true] at ha
    have q := eqv_eq n n e d ha.1 hd
    rw [List.findIdx?_cons] at h
    have hp : toPys (e :: ds) = toPy e :: toPys ds := rfl
    rw [hp]
    cases he : eqD e d with
    | true =>
      rw [he] at h q
      simp at h
      subst h
      exact ⟨⟨_, rfl, q⟩, fun m z' hm => absurd hm (Nat.not_lt_zero _)⟩
    | false =>
      rw [he] at h q
      simp at h
      obtain ⟨j', h1, rfl⟩ := h
      obtain ⟨h2, h3⟩ := idx_eq hd ds j' ha.2 h1
      refine ⟨by simpa using h2, fun m z' hm hz => ?_⟩
      cases m with
      | zero => simp at hz; subst hz; exact q
      | succ m => exact h3 m z' (by omega) (by simpa using hz)
theorem good_idxL : GoodM K (rIndexD K) idxL := by
  intro F H x v ds vs Q s rx rs d e k
  unfold idxL at e
  split at e
  · rename_i xs y
    split at e
    · rename_i hp
      cases q : xs.findIdx? fun e => eqD e y with
      | none => rw [q] at e; cases e
      | some j =>
        rw [q] at e
        cases e
        obtain ⟨w, rfl, r2⟩ := rs.one
        have hL : plain 61 (.lst xs) = true := by simpa [plain] using hp.1
        obtain ⟨d1, c1, p1⟩ := Rep.dp 61 _ _ hL (rx.mono s)
        obtain ⟨d2, c2, p2⟩ := Rep.dp 60 _ _ hp.2 (r2.mono s)
        obtain ⟨a, vs, rfl, h1, h2, h3⟩ := rep_lst rx
        obtain ⟨⟨z, g1, g2⟩, g3⟩ := idx_eq hp.2 xs j hp.1 q
        exact ⟨a, w, _, _, j, z, rfl, rfl, d1, d2, shaped_of c1 p1, shaped_of c2 p2, g1, g2, g3, k _ F H (Ext.refl s) mk_int⟩
    · cases e
  · cases e
theorem nox_idxL : NoXM idxL := by
  intro x ds c h; unfold idxL at h; split at h
  · split at h
    · split at h <;> cases h
    · cases h
  · cases h
end
end DL
/-! The data layer, 9: isinstance; a list, a text read backwards. -/
namespace DL
open PySem PySem.Spec L2

theorem pe_or2 {X : Cx} {e : Expr} {t t' : TE} (h : PE X e t) (h' : PE X e t') : PE X e (fun σ H Q => t σ H Q ∨ t' σ H Q) :=
  ⟨fun pins s σ H Q I q => q.elim (fun z => h.run pins s σ H Q I z) fun z => h'.run pins s σ H Q I z⟩
inductive Ty6 where
  | int | str | bool | list | tuple | dict
  deriving DecidableEq, Repr
def Ty6.nm : Ty6 → String
  | .int => "int" | .str => "str" | .bool => "bool" | .list => "list" | .tuple => "tuple" | .dict => "dict"
def tyD : D → Option String
  | .non => some "NoneType"
  | .bl _ => some "bool"
  | .int _ => some "int"
  | .str _ => some "str"
  | .tup _ => some "tuple"
  | .lst _ => some "list"
  | .dic false _ => some "dict"
  | _ => none
def isI (T : Ty6) : D → Res D
  | .non => .ok (.bl false)
  | .bl _ => .ok (.bl (match T with | .bool => true | .int => true | _ => false))
  | .int _ => .ok (.bl (match T with | .int => true | _ => false))
  | .str _ => .ok (.bl (match T with | .str => true | _ => false))
  | .tup _ => .ok (.bl (match T with | .tuple => true | _ => false))
  | .lst _ => .ok (.bl (match T with | .list => true | _ => false))
  | .dic false _ => .ok (.bl (match T with | .dict => true | _ => false))
  | _ => .bad
theorem isi_kit (K : PySem.W.Frag) (T : Ty6) (d : D) (b : Bool) (h : isI T d = .ok (.bl b)) : ∃ t, tyD d = some t ∧ PySem.W.kitOne K (.type t) (.type T.nm) = some b := by
  cases d with
  | dic t kvs =>
    cases t with
    | true => cases h
    | false => cases T <;> cases h <;> exact ⟨_, rfl, by kernel_rfl⟩
  | exc c => cases h
  | scr n => cases h
  | non => cases T <;> cases h <;> exact ⟨_, rfl, by kernel_rfl⟩
  | bl n => cases T <;> cases h <;> exact ⟨_, rfl, by kernel_rfl⟩
  | int n => cases T <;> cases h <;> exact ⟨_, rfl, by kernel_rfl⟩
  | str n => cases T <;> cases h <;> exact ⟨_, rfl, by kernel_rfl⟩
  | tup n => cases T <;> cases h <;> exact ⟨_, rfl, by kernel_rfl⟩
  | lst n => cases T <;> cases h <;> exact ⟨_, rfl, by kernel_rfl⟩
theorem tyD_ok {K : PySem.W.Frag} {F H : Hp} {d : D} {v : V} {t : String} (s : Same F H) (r : Rep K F d v) (h : tyD d = some t) : TyX K H v (.type t) := by
  cases d with
  | non => cases h; simp only [Rep] at r; subst r; exact .base .non
  | bl b => cases h; rw [rep_bl r]; exact .base (.bl b)
  | int b => cases h; rw [rep_int r]; exact .base (.int b)
  | str b => cases h; obtain ⟨rfl, _⟩ := rep_str r; exact .base (.str _)
  | tup xs =>
    cases h
    obtain ⟨a, vs, rfl, h1, _⟩ := rep_tup r
    rcases (h1.mono s).rd with z | ⟨o, z⟩
    · exact .base (.tup z)
    · exact .fTuple z
  | lst xs => cases h; obtain ⟨a, vs, rfl, h1, _⟩ := rep_lst r; exact .base (.lst (s _ _ h1))
  | dic t kvs =>
    cases t with
    | true => cases h
    | false =>
      cases h
      simp only [Rep] at r
      obtain ⟨a, o, rfl, _, hk, h1, _⟩ := r
      exact .fDict (s _ _ h1)
  | exc c => cases h
  | scr n => cases h
theorem isI_bl {T : Ty6} {d e : D} (h : isI T d = .ok e) : ∃ b, e = .bl b := by
  unfold isI at h
  split at h <;> cases h <;> exact ⟨_, rfl⟩
theorem isI_nox {T : Ty6} {d : D} {c : Str} : isI T d ≠ .exc c := by
  intro h
  unfold isI at h
  split at h <;> cases h
section
variable {X : Cx} {E : EX} {a : Expr} {fa : Env → Res D} {p q pos : Pos} {T : Ty6} {x : Str}
theorem de_isi (hx : x = Str.ofString T.nm) (hg : Gl X "isinstance") (hm : X.mg "isinstance" = none) (hg2 : Gl X x) (hm2 : X.mg x = none) (ha : DE X E a fa)
    (he : starEach [a, .Name x q] X.env = (false, eval a X.env) :: starEach [.Name x q] X.env) :
    DE X E (.Call (.Name "isinstance" p) [a, .Name x q] [] pos) (fun ρ => (fa ρ).bind (isI T)) := by
  have hb : PE X (.Name x q) (tC (.ty T.nm)) := by
    subst hx
    cases T
    · exact pe_bltn hg2 hm2 PyProof.Rows.boot_int rfl
    · exact pe_bltn hg2 hm2 PyProof.Rows.boot_str rfl
    · exact pe_bltn hg2 hm2 PyProof.Rows.boot_bool rfl
    · exact pe_bltn hg2 hm2 PyProof.Rows.boot_list rfl
    · exact pe_bltn hg2 hm2 PyProof.Rows.boot_tuple rfl
    · exact pe_bltn hg2 hm2 PyProof.Rows.boot_dict rfl
  refine pe_weak (pe_callB call_isi hg hm PyProof.Rows.boot_isinstance (pa_cons ha (pa_cons hb pa_nil rfl) he) (by decide) (by decide) he rfl) fun σ H Q ⟨F, ρ, s, re, h⟩ => ?_
  refine ⟨F, ρ, s, re, RW.imp (rw_ok (fun _ _ => isI_nox) h) (fun d ⟨e, e1, he⟩ v F1 H1 x1 r1 => ?_) fun _ z => z⟩
  obtain ⟨b, rfl⟩ := isI_bl e1
  obtain ⟨t, t1, t2⟩ := isi_kit X.K T d b e1
  exact ⟨v, .ty T.nm, .type t, .type T.nm, b, rfl, .ty _, tyD_ok x1.sub r1 t1, t2, he _ F1 H1 x1 mk_bl⟩
end

/-! ### [::-1] -/
theorem rev_list (z : List Nat) : (List.range z.length).map (fun k => z.getD (z.length - 1 - k) 0) = z.reverse := by
  apply List.ext_getElem
  · simp
  · intro i h1 h2
    have hi : i < z.length := by simpa using h1
    rw [List.getElem_map, List.getElem_range, List.getElem_reverse, List.getD_eq_getElem?_getD, List.getElem?_eq_getElem (by omega)]
    rfl
theorem rev_made (z : List Nat) (t u : Tok) : sliceMade (S0 z) t none none (some (-1, u)) = .str (S0 z.reverse) := by
  have hs := PyProof.Rows.step_rev_list (S0 z) u
  unfold Txt.sliceBy slicePicked at hs
  unfold sliceMade slicePicked
  have h1 : ¬ (((((some ((-1 : Int), u)).map (·.1)).getD 1 == 1) && ((Builtin.Str.strSliceIndices ((none : Option (Int × Tok)).map (·.1)) ((none : Option (Int × Tok)).map (·.1)) (((some ((-1 : Int), u)).map (·.1)).getD 1) (S0 z).length).length == (S0 z).length)) = true) := by
    have : ((((some ((-1 : Int), u)).map (·.1)).getD 1 == 1)) = false := rfl
    rw [this, Bool.false_and]
    exact Bool.false_ne_true
  rw [if_neg h1] at hs ⊢
  have hl : (S0 z).length = z.length := S0_len z
  have e : ((List.range (S0 z).length).map fun k => (S0 z).cps.getD ((S0 z).length - 1 - k) 0) = z.reverse := by
    rw [hl, ← rev_list z]
    refine List.map_congr_left fun k _ => ?_
    show z.toArray.getD _ 0 = _
    simp [Array.getD_eq_getD_getElem?, List.getD_eq_getElem?_getD]
  rw [e] at hs
  refine congrArg Made.str (TL.ext_tl ?_)
  refine Eq.trans hs ?_
  simp [TL.tl]
def tRevS (te : TE) : TE := fun σ H Q => te σ H fun x H1 => ∃ z, x = .str (S0 z) ∧ z.length ≤ sizeLine ∧ Q (.str (S0 z.reverse)) H1
section
variable {X : Cx} {e : Expr} {te : TE} {k : Nat} {p1 p2 p3 pos : Pos}
theorem pe_revS (he : PE X e te) : PE X (.Subscript e (.Slice none none (some (.UnaryOp .USub (.Constant (.int 1) k p1) p2)) p3) pos) (tRevS te) := by
  refine ⟨fun pins s σ H Q I h => PyProof.Rows.Subscript_ (thn (he.run pins s σ H _ I h) fun v s1 ⟨x, H1, I1, r1, z, ex, hz, q⟩ => ?_)⟩
  subst ex
  obtain ⟨t, rfl⟩ := r1
  have minus : PO X (some (.UnaryOp .USub (.Constant (.int 1) k p1) p2)) (tPart (tUn (rU fun i => .int (-i)) (tC (.int 1)))) := po_some (pe_un un_neg pe_int)
  refine wpAny_Slice (thn (po_none.run pins s1 σ H1 (fun o G => o = none ∧ G = H1) I1 ⟨rfl, rfl⟩) fun vl s2 ⟨l, H2, I2, pl, el, e2⟩ => ?_)
  subst el e2
  refine thn (po_none.run pins s2 σ H2 (fun o G => o = none ∧ G = H2) I2 ⟨rfl, rfl⟩) fun vu s3 ⟨u, H3, I3, pu, eu, e3⟩ => ?_
  subst eu e3
  refine thn (minus.run pins s3 σ H3 (fun o G => o = some (-1) ∧ G = H3) I3 ⟨1, rfl, -1, rfl, rfl, rfl⟩) fun vs s4 ⟨o, H4, I4, ps, eo, e4⟩ => ?_
  subst eo e4
  have I5 : Inv X pins σ H4 { s4 with heap := s4.heap.push { cls := .type "slice", data := .fields #[vl, vu, vs] } } := I4.kept (t' := s4.toks) fun b ob q => Heap.get?_push_of_some _ q
  obtain ⟨lo, rfl, e1⟩ := IsPart.raw pl
  obtain ⟨hi, rfl, e2⟩ := IsPart.raw pu
  obtain ⟨st, rfl, e3⟩ := IsPart.raw ps
  cases lo with
  | some z => cases e1
  | none =>
  cases hi with
  | some z => cases e2
  | none =>
  cases st with
  | none => cases e3
  | some st =>
  obtain ⟨m, tk⟩ := st
  cases e3
  show wpAny (model X.prog X.w) X.A (PyProof.Rows.subscriptTail e (.Slice none none (some (.UnaryOp .USub (.Constant (.int 1) k p1) p2)) p3) (.str (S0 z) t) (.ref s4.heap.objs.size)) (EP X pins σ Q) X.xe { s4 with heap := s4.heap.push { cls := .type "slice", data := .fields #[partValue none, partValue none, partValue (some (-1, tk))] } }
  refine PyProof.Rows.tail_any (ops := [.str (S0 z) t, .ref s4.heap.objs.size]) (typeIs_str _ _ _) (PySem.F.slot_str_getitem.lookup) ?_ (by with_unfolding_all rfl)
  refine wpAny_getItem_str_slice (l := none) (u := none) (st := some (-1, tk)) ⟨_, Heap.get?_push_size _ rfl, rfl, rfl⟩ rfl ?_
  rw [rev_made]
  refine ⟨by rw [S0_len, List.length_reverse]; exact hz, .str _, H4, I5.tok _, ⟨_, rfl⟩, q⟩
end
/-! a tuple backwards -/
section
open PyProof.Rows
variable {prog : Program} {w : World} {A : Around} {E : Value → Shared → Prop} {s : Shared}
theorem pick_rev (xs : Array Value) : ((List.range xs.size).filterMap fun (m : Nat) => xs[(((xs.size : Nat) : Int) - 1 + (m : Int) * (-1)).toNat]?).toArray = xs.toList.reverse.toArray := by
  congr 1
  apply List.ext_getElem?
  intro i
  have e : (List.range xs.size).filterMap (fun (m : Nat) => xs[(((xs.size : Nat) : Int) - 1 + (m : Int) * (-1)).toNat]?) = (List.range xs.size).map fun m => xs.getD (xs.size - 1 - m) Value.none := by
    have go : ∀ (L : List Nat) (f : Nat → Option Value) (g : Nat → Value), (∀ m ∈ L, f m = some (g m)) → L.filterMap f = L.map g := by
      intro L f g
      induction L with
      | nil => intro _; rfl
      | cons a L ih => intro hh; rw [List.filterMap_cons, hh a List.mem_cons_self, List.map_cons, ih fun m hm => hh m (List.mem_cons_of_mem _ hm)]
    refine go _ _ _ fun m hm => ?_
    have hm' := List.mem_range.mp hm
    have : (((xs.size : Nat) : Int) - 1 + (m : Int) * (-1)).toNat = xs.size - 1 - m := by omega
    rw [this]
    have hlt : xs.size - 1 - m < xs.size := by omega
    simp [Array.getD, hlt]
  rw [e, List.getElem?_map]
  by_cases h : i < xs.size
  · rw [List.getElem?_range h, List.getElem?_reverse (by simpa using h)]
    have hlt : xs.size - 1 - i < xs.size := by omega
    simp [Array.getD, hlt]
  · rw [List.getElem?_eq_none (by simp; omega), List.getElem?_eq_none (by simp; omega)]
    rfl
theorem sliceApplied_rev {sl : Addr} {vs : Value} {n : Nat} {Q : Int × Int × Nat → Shared → Prop} (hs : s.heap.IsSliceOf sl .none .none vs) (ps : IsPart vs (some (-1)))
    (h : Q (((n : Nat) : Int) - 1, -1, n) s) : wpAny (model prog w) A (Builtin.Slice.sliceApplied (.ref sl) (pure (n : Int))) Q E s := by
  obtain ⟨os, hos, hcs, hds⟩ := id hs
  unfold Builtin.Slice.sliceApplied Builtin.Slice.sliceFields
  refine wpAny_bind (wpAny_bind (wpAny_field hos hds (x := .none) rfl (wpAny_bind (wpAny_field hos hds (x := .none) rfl (wpAny_bind (wpAny_field hos hds (x := vs) rfl (wpAny_pure ?_)))))))
  refine wpAny_bind (HT.slicePart_ ps ?_)
  show wpAny _ _ (if ((-1 : Int) == 0) = true then _ else _) _ _ s
  rw [if_neg (by decide)]
  refine wpAny_bind (HT.slicePart_ .none (wpAny_bind (HT.slicePart_ .none (wpAny_bind (wpAny_pure ?_)))))
  show wpAny _ _ (match Builtin.Slice.sliceAdjust none none (-1) (n : Int) with | (lo, hi) => pure (lo, (-1 : Int), Builtin.Slice.slicePlaces lo hi (-1))) _ _ s
  have e1 : Builtin.Slice.sliceAdjust none none (-1) (n : Int) = ((n : Int) - 1, -1) := by
    simp [Builtin.Slice.sliceAdjust]
  have e2 : Builtin.Slice.slicePlaces ((n : Int) - 1) (-1) (-1) = n := by
    simp only [Builtin.Slice.slicePlaces]
    by_cases hn : n = 0
    · subst hn; rfl
    · have : (-1 : Int) < (n : Int) - 1 := by omega
      simp [this]
  rw [e1]
  show wpAny _ _ (pure (((n : Int) - 1), (-1 : Int), Builtin.Slice.slicePlaces ((n : Int) - 1) (-1) (-1))) _ _ s
  rw [e2]
  exact wpAny_pure h
theorem getItem_tuple_rev {t sl : Addr} {items : Array Value} {vs : Value} {Q : Value → Shared → Prop} (ht : IsTup s.heap t items) (hs : s.heap.IsSliceOf sl .none .none vs) (ps : IsPart vs (some (-1)))
    (h : Q (.ref s.heap.objs.size) { s with heap := s.heap.push { cls := .type "tuple", data := .seq items.toList.reverse.toArray } })
    (hsz : items.size ≤ sizeLine) : wpAny (model prog w) A (getItem (.ref t) (.ref sl)) Q E s := by
  have htake : sizeOk (.seq items.toList.reverse.toArray) := by
    show items.toList.reverse.toArray.size ≤ sizeLine
    rw [List.size_toArray, List.length_reverse, Array.length_toList]
    exact hsz
  obtain ⟨os, hos, hcs, hds⟩ := id hs
  have hTs : s.TypeIs (.ref sl) "slice" := ⟨os, hos, hcs⟩
  unfold getItem
  try with_reducible refine wpAny_holding ?_
  first | refine wpAny_bind (wpAny_pure ?_) | skip
  refine wpAny_bind (wpAny_sequenceKey ht.typeIs (by decide) ?_)
  refine wpAny_bind (wpAny_callSpecial?_slot (name := Str.ofString "__getitem__") ht.typeIs PyProof.Rows.slot_tuple_getitem
    (wpAny_call_entry PyProof.Rows.slot_tuple_getitem ht.typeIs entry_tuple_getitem ?_ (args_tuple_getitem _ _)))
  show wpAny _ _ (Builtin.Tuple.tupleItemsOf (.ref t) >>= _) _ _ s
  refine wpAny_bind (tupleItemsOf_ ht ?_)
  refine wpAny_bind (wpAny_typeOf hTs ?_)
  rw [if_pos (by decide)]
  refine wpAny_bind (sliceApplied_rev (n := items.size) hs ps ?_)
  have hno : ¬ (((((items.size : Nat) : Int) - 1) == 0 && (-1 : Int) == 1 && items.size == items.size) = true) := by
    intro q
    rw [Bool.and_eq_true, Bool.and_eq_true] at q
    exact absurd q.1.2 (by decide)
  show wpAny _ _ (if ((((items.size : Nat) : Int) - 1) == 0 && (-1 : Int) == 1 && items.size == items.size) = true then _ else _) _ _ s
  rw [if_neg hno, pick_rev]
  first
    | exact wpAny_bind (m := Builtin.Tuple.tupleExact _) (wpAny_newObj_type (wpAny_pure ⟨_, rfl, wpAny_pure h⟩) htake)
    | exact wpAny_bind (m := Builtin.Tuple.tupleExact _) (wpAny_newObj_type (wpAny_bind (wpAny_pure (wpAny_pure ⟨_, rfl, wpAny_pure h⟩))) htake)
end
def tRevT (K : PySem.W.Frag) (te : TE) : TE := fun σ H Q => te σ H fun x H1 => ∃ a xs, x = .ref a ∧ SqT K H1 a xs ∧ ∀ p, H1 p = none → Q (.ref p) (upd H1 p (.tup xs.reverse))
section
open PyProof.Rows
variable {X : Cx} {e : Expr} {te : TE} {k : Nat} {p1 p2 p3 pos : Pos}
theorem pe_revT (he : PE X e te) : PE X (.Subscript e (.Slice none none (some (.UnaryOp .USub (.Constant (.int 1) k p1) p2)) p3) pos) (tRevT X.K te) := by
  refine ⟨fun pins s σ H Q I h => ?_⟩
  refine Subscript_ (thn (he.run pins s σ H _ I h) fun v s1 ⟨x, H1, I1, r1, q1⟩ => ?_)
  obtain ⟨a, xs, ex, hx, q⟩ := q1
  subst ex
  cases r1
  have hst : PO X (some (.UnaryOp .USub (.Constant (.int 1) k p1) p2)) (tPart (tUn (rU fun i => .int (-i)) (tC (.int 1)))) := po_some (pe_un un_neg pe_int)
  refine wpAny_Slice (thn (po_none.run pins s1 σ H1 (fun o H2 => o = none ∧ H2 = H1) I1 ⟨rfl, rfl⟩) fun vl s2 ⟨l, H2, I2, pl, el, e2⟩ => ?_)
  subst el e2
  refine thn (po_none.run pins s2 σ H2 (fun o H3 => o = none ∧ H3 = H2) I2 ⟨rfl, rfl⟩) fun vu s3 ⟨u, H3, I3, pu, eu, e3⟩ => ?_
  subst eu e3
  refine thn (hst.run pins s3 σ H3 (fun o H4 => o = some (-1) ∧ H4 = H3) I3 ⟨1, rfl, -1, rfl, rfl, rfl⟩) fun vs s4 ⟨o, H4, I4, ps, eo, e4⟩ => ?_
  subst eo e4
  have I5 : Inv X pins σ H4 { s4 with heap := s4.heap.push { cls := .type "slice", data := .fields #[vl, vu, vs] } } := I4.kept (t' := s4.toks) fun b ob q => Heap.get?_push_of_some _ q
  obtain ⟨its, r, ht, hz⟩ := I5.tuple hx
  have hlen := r.length
  have el : vl = .none := by cases pl; rfl
  have eu : vu = .none := by cases pu; rfl
  subst el eu
  show wpAny (model X.prog X.w) X.A (subscriptTail e (.Slice none none (some (.UnaryOp .USub (.Constant (.int 1) k p1) p2)) p3) (.ref a) (.ref s4.heap.objs.size)) (EP X pins σ Q) X.xe { s4 with heap := s4.heap.push { cls := .type "slice", data := .fields #[.none, .none, vs] } }
  refine tail_any (ops := [.ref a, .ref s4.heap.objs.size]) ht.typeIs (PyProof.Rows.slot_tuple_getitem.lookup) ?_ (by with_unfolding_all rfl)
  refine getItem_tuple_rev ht (Heap.IsSliceOf.new _ .none .none vs) ps ?_ (by rw [List.size_toArray]; omega)
  refine ⟨.ref _, _, I5.laid (t' := s4.toks) (o := .tup xs.reverse) (fun b ob q => Heap.get?_push_of_some _ q) (Nat.le_refl _) ?_, rfl, q _ (I5.hok.fresh (Nat.le_refl _))⟩
  refine ⟨by rw [List.length_reverse]; exact hz, _, r.reverse, ?_⟩
  exact IsTup.new _ _
/-- a list or a text backwards -/
def revR : D → Res D
  | .lst ds => .ok (.lst ds.reverse)
  | .str s => .ok (.str s.reverse)
  | .tup ds => if tabB ds.reverse = true then .bad else .ok (.tup ds.reverse)
  | _ => .bad
theorem revR_nox {d : D} {c : Str} : revR d ≠ .exc c := by intro h; unfold revR at h; split at h <;> (try split at h) <;> cases h
theorem de_rev {E : EX} {fe : Env → Res D} (he : DE X E e fe) : DE X E (.Subscript e (.Slice none none (some (.UnaryOp .USub (.Constant (.int 1) k p1) p2)) p3) pos) (fun ρ => (fe ρ).bind revR) := by
  refine pe_weak (pe_or2 (pe_revL he) (pe_or2 (pe_revS he) (pe_revT he))) fun σ H Q ⟨F, ρ, s, re, h⟩ => ?_
  have h' := rw_ok (fun _ _ => revR_nox) h
  cases ef : fe ρ with
  | bad => rw [ef] at h'; exact h'.elim
  | exc c =>
    rw [ef] at h'
    exact .inl ⟨F, ρ, s, re, by rw [ef]; exact h'⟩
  | ok d =>
    rw [ef] at h'
    obtain ⟨d', e1, hd⟩ := h'
    unfold revR at e1
    cases d with
    | lst ds =>
      cases e1
      refine .inl ⟨F, ρ, s, re, ?_⟩
      rw [ef]
      intro v F1 H1 x1 r1
      obtain ⟨a, vs, rfl, h1, h2, h3⟩ := rep_lst r1
      refine ⟨a, vs, rfl, SqL.of (x1.sub _ _ h1), fun p hp => ?_⟩
      obtain ⟨x2, r2⟩ := new_lst (K := X.K) x1.sub hp h2.reverse (by rw [List.length_reverse]; exact h3)
      exact hd _ _ _ (x1.trans x2) r2
    | str z =>
      cases e1
      refine .inr (.inl ⟨F, ρ, s, re, ?_⟩)
      rw [ef]
      intro v F1 H1 x1 r1
      obtain ⟨rfl, h1, h2⟩ := rep_str r1
      exact ⟨z, rfl, h2, hd _ F1 H1 x1 (mk_str (by rw [List.all_reverse]; exact h1) (by rw [List.length_reverse]; exact h2))⟩
    | tup ds =>
      dsimp only at e1
      split at e1
      · cases e1
      · rename_i hn
        cases e1
        refine .inr (.inr ⟨F, ρ, s, re, ?_⟩)
        rw [ef]
        intro v F1 H1 x1 r1
        obtain ⟨a, vs, rfl, h1, h2, h3⟩ := rep_tup r1
        refine ⟨a, vs, rfl, h1.sq x1.sub, fun p hp => ?_⟩
        obtain ⟨x2, r2⟩ := new_tup (K := X.K) (by simpa using hn) x1.sub hp h2.reverse (by rw [List.length_reverse]; exact h3)
        exact hd _ _ _ (x1.trans x2) r2
    | _ => cases e1
end
end DL
/-! The data layer, A: sets of ints and texts, made of a list, a tuple, a text; gathered in some order. -/
namespace DL
open PySem PySem.Spec L2

def keyV (v : Value) : Key := match v with
  | .int i _ => .inl i
  | .str s _ => .inr s
  | _ => .inl 0
theorem keyV_of {k : Key} {u : Value} (r : RelV (kV k) u) : keyV u = k := by
  cases k with
  | inl i => obtain ⟨t, rfl⟩ := r; rfl
  | inr x => obtain ⟨t, rfl⟩ := r; rfl
/-- an entry of such a set -/
def Ent (P : Program) (w : World) (e : Int × Value) : Prop := ∃ k, RelV (kV k) e.2 ∧ e.1 = (mixKind P w).hash k
abbrev keysOf (es : Array (Int × Value)) : List Key := es.toList.map fun e => keyV e.2
/-- the set at a: its keys ks in some order; it can be walked -/
def SetM (P : Program) (w : World) (h : Heap) (a : Addr) (ks : List Key) : Prop :=
  ∃ o es ep t, h.get? a = some o ∧ o.ExactSet ∧ o.data = .set es ep t ∧ (∀ e ∈ es.toList, Ent P w e) ∧ (keysOf es).Perm ks ∧ ks.Nodup ∧ es.size < scanBound ∧ t.fits es.size = true ∧ Ris t.place.toList ∧ (w.params.followText "set-order" = true ∨ t.led = true)
section
variable {P : Program} {w : World} {h h' : Heap} {a : Addr} {ks : List Key}
theorem SetM.at (R : SetM P w h a ks) (k : ∀ o, h.get? a = some o → h'.get? a = some o) : SetM P w h' a ks := by
  obtain ⟨o, es, ep, t, ho, q⟩ := R
  exact ⟨o, es, ep, t, k o ho, q⟩
theorem ent_elems {l : List (Int × Value)} (g : ∀ e ∈ l, Ent P w e) : ElemsOf (mixKind P w) l := fun e he => by
  obtain ⟨k, r, q⟩ := g e he
  exact ⟨⟨k, kV_is r, q⟩, key_scan r⟩
theorem ent_is {e : Int × Value} (g : Ent P w e) (k : Key) : (mixKind P w).is k e.2 = true ↔ keyV e.2 = k := by
  obtain ⟨j, r, _⟩ := g
  rw [keyV_of r]
  constructor
  · intro q
    exact (mixKind P w).inj e.2 j k (kV_is r) q
  · rintro rfl
    exact kV_is r
theorem ent_mem {l : List (Int × Value)} (g : ∀ e ∈ l, Ent P w e) (k : Key) : k ∈ l.map (fun e => keyV e.2) ↔ ∃ e ∈ l, (mixKind P w).is k e.2 = true := by
  rw [List.mem_map]
  constructor
  · rintro ⟨e, he, q⟩
    exact ⟨e, he, (ent_is (g e he) k).mpr q⟩
  · rintro ⟨e, he, q⟩
    exact ⟨e, he, (ent_is (g e he) k).mp q⟩
theorem SetM.len (R : SetM P w h a ks) : ks.length < scanBound := by
  obtain ⟨o, es, ep, t, _, _, _, _, pm, _, hb, _⟩ := R
  have := pm.length_eq
  simp only [List.length_map, Array.length_toList] at this
  omega
end
section
variable {P : Program} {w : World} {A : Around} {E : Value → Shared → Prop} {s : Shared} {a : Addr} {ks : List Key}
/-- the two ways a new entry is laid down -/
theorem setM_tail {g : Bool → Sem Unit} (hg : ∀ (b : Bool) (s1 : Shared) (Q' : Unit → Shared → Prop), Q' () s1 → wpAny (model P w) A (g b) Q' E s1)
    {o : Obj} {es : Array (Int × Value)} {ep : Nat} {t : SetTable} (ho : s.heap.get? a = some o) (hex : o.ExactSet) (hd : o.data = .set es ep t)
    {es1 : Array (Int × Value)} {t2 : SetTable} {ks' : List Key} (g1 : ∀ e ∈ es1.toList, Ent P w e) (pm1 : (keysOf es1).Perm ks') (nd1 : ks'.Nodup)
    (hb1 : es1.size < scanBound) (hf2 : t2.fits es1.size = true) (hr : Ris t2.place.toList) (hl : w.params.followText "set-order" = true ∨ t2.led = true) {wasDummy : Bool} {R : Option Bool → Shared → Prop}
    (hR : ∀ h', Heap.SameBut a s.heap h' → SetM P w h' a ks' → R (some true) { s with heap := h' }) :
    wpAny (model P w) A (do
        storeSet a es1 t2
        if (!wasDummy && t2.tooFull) = true then do
            g (relayAll t2 es1 (SetTable.grown es1.size)).2.2
            storeSet a (relayAll t2 es1 (SetTable.grown es1.size)).1 (relayAll t2 es1 (SetTable.grown es1.size)).2.1
            pure (some true)
          else pure (some true)) R E s := by
  refine wpAny_bind (wpAny_storeSet_of ho hd ?_ (fits_of_scanBound hb1))
  have at1 := L2.store_at (es' := es1) (t' := t2) ho hd
  have but1 := Heap.SameBut.update s.heap a (Obj.putSet es1 t2)
  split
  · have pmR := relayAll_perm t2 es1 (SetTable.grown es1.size)
    have fitR := relayAll_fits t2 es1 (SetTable.grown es1.size)
    have risR := relayAll_ris t2 es1 (SetTable.grown es1.size)
    have ledR := relayAll_led t2 es1 (SetTable.grown es1.size)
    generalize relayAll t2 es1 (SetTable.grown es1.size) = Z at pmR fitR risR ledR ⊢
    obtain ⟨es2, t3, gave⟩ := Z
    dsimp only at pmR fitR risR ledR ⊢
    have same : es2.size = es1.size := by rw [← Array.length_toList, pmR.length_eq, Array.length_toList]
    have few : es2.size < scanBound := by rw [same]; exact hb1
    refine wpAny_bind (hg _ _ _ (wpAny_bind (wpAny_storeSet_of at1 rfl ?_ (fits_of_scanBound few))))
    have at2 := L2.store_at (es' := es2) (t' := t3) at1 rfl
    refine wpAny_pure (hR _ (but1.trans (Heap.SameBut.update _ a _)) ⟨_, es2, _, t3, at2, hex, rfl, fun e he => g1 e (pmR.mem_iff.mp he), (pmR.map _).trans pm1, nd1, few, fitR, risR, hl.imp id fun z => by rw [ledR]; exact z⟩)
  · exact wpAny_pure (hR _ but1 ⟨_, es1, _, t2, at1, hex, rfl, g1, pm1, nd1, hb1, hf2, hr, hl⟩)
def hasK (ks : List Key) (k : Key) : Bool := ks.any fun j => decide (j = k)
theorem hasK_iff {ks : List Key} {k : Key} : hasK ks k = true ↔ k ∈ ks := by
  unfold hasK
  rw [List.any_eq_true]
  constructor
  · rintro ⟨j, hj, e⟩
    rw [← of_decide_eq_true e]
    exact hj
  · exact fun h => ⟨k, h, decide_eq_true rfl⟩
def addK (ks : List Key) (k : Key) : List Key := if hasK ks k = true then ks else k :: ks
theorem setM_add {k : Key} {u : Value} {Q : Bool → Shared → Prop} (ru : RelV (kV k) u) (R : SetM P w s.heap a ks) (room : ks.length + 1 < scanBound)
    (hQ : ∀ (b : Bool) h', Heap.SameBut a s.heap h' → SetM P w h' a (addK ks k) → Q b { s with heap := h' }) :
    wpAny (model P w) A (setAddHashed a u ((mixKind P w).hash k)) Q E s := by
  obtain ⟨o, es, ep, t, ho, hex, hd, g, pm, nd, hb, hf, hr, hl⟩ := R
  have hkey : (mixKind P w).is k u = true := kV_is ru
  have hsc : u.scannable = true := key_scan ru
  have hel : ElemsOf (mixKind P w) es.toList := ent_elems g
  unfold setAddHashed setAddHashedIn
  refine wpAny_holding (wpAny_bind (wpAny_setState_of ho hd hf ?_))
  dsimp only
  rw [byScan_of hsc hb hel]
  simp only [↓reduceIte]
  unfold setAddByScan
  refine wpAny_bind (wpAny_bind (wpAny_rule (wpAny_bind (wpAny_setScan_of hkey ho hd hf hel ?_))))
  cases hfi : List.findIdx? (fun e => (mixKind P w).is k e.2) es.toList with
  | some j =>
    dsimp only
    obtain ⟨hj, pj, _⟩ := List.findIdx?_eq_some_iff_getElem.mp hfi
    have hk : k ∈ ks := pm.mem_iff.mp ((ent_mem g k).mpr ⟨es.toList[j], List.getElem_mem hj, pj⟩)
    refine wpAny_pure (wpAny_pure (hQ _ s.heap (Heap.SameBut.refl a s.heap) ?_))
    unfold addK
    rw [if_pos (hasK_iff.mpr hk)]
    exact ⟨o, es, ep, t, ho, hex, hd, g, pm, nd, hb, hf, hr, hl⟩
  | none =>
    dsimp only
    have hk : k ∉ ks := fun z => by
      obtain ⟨e, he, q⟩ := (ent_mem g k).mp (pm.mem_iff.mpr z)
      have c := List.findIdx?_eq_none_iff.mp hfi e he
      rw [q] at c
      cases c
    have gw : ∀ (b : Bool) {s1 : Shared} {Q' : Unit → Shared → Prop}, Q' () s1 → wpAny (model P w) A (match b with | true => rule "set.scan.the-table-gave-way" | false => pure ()) Q' E s1 :=
      fun b s1 Q' q => by cases b <;> first | exact wpAny_pure q | exact wpAny_rule q
    have pmN := layNew_perm t es ((mixKind P w).hash k) u
    have fitN := layNew_fits t es ((mixKind P w).hash k) u
    have risN := layNew_ris t es ((mixKind P w).hash k) u hr
    have ledN := layNew_led t es ((mixKind P w).hash k) u
    generalize layNew t es ((mixKind P w).hash k) u = Z at pmN fitN risN ledN ⊢
    obtain ⟨es1, t1, wasDummy, gave⟩ := Z
    dsimp only at pmN fitN risN ledN ⊢
    rw [Array.toList_push] at pmN
    have pc : es1.toList.Perm (((mixKind P w).hash k, u) :: es.toList) := pmN.trans (List.perm_append_singleton _ _)
    have pk : (keysOf es1).Perm (k :: ks) := by
      have q := pc.map fun e : Int × Value => keyV e.2
      rw [List.map_cons, keyV_of ru] at q
      exact q.trans (pm.cons k)
    have g1 : ∀ e ∈ es1.toList, Ent P w e := fun e he => by
      rcases List.mem_cons.mp (pc.mem_iff.mp he) with z | z
      · rw [z]; exact ⟨k, ru, rfl⟩
      · exact g e z
    have nd1 : (k :: ks).Nodup := List.nodup_cons.mpr ⟨hk, nd⟩
    have lenE : es.size = ks.length := by
      have := pm.length_eq
      simpa using this
    have hb1 : es1.size < scanBound := by
      rw [← Array.length_toList, pc.length_eq, List.length_cons, Array.length_toList, lenE]
      exact room
    have led1 : w.params.followText "set-order" = true ∨ t1.led = true := hl.imp id fun z => by rw [ledN]; exact z
    have fin : ∀ h', Heap.SameBut a s.heap h' → SetM P w h' a (k :: ks) → Q true { s with heap := h' } := fun h' sb r => hQ true h' sb (by
      unfold addK
      rw [if_neg fun z => hk (hasK_iff.mp z)]
      exact r)
    refine wpAny_bind (gw _ ?_)
    split
    · refine wpAny_bind ?_
      rw [hashByValue_scannable 8 hsc]
      refine wpAny_pure ?_
      refine setM_tail ?_ ho hex hd g1 pk nd1 hb1 ?_ ?_ ?_ ?_
      · intro b s1 Q' q; cases b <;> first | exact wpAny_pure q | exact wpAny_rule q
      · first | (split <;> first | exact fitN | exact SetTable.fits_plain_off fitN) | exact fitN
      · first | (split <;> exact risN) | exact risN
      · first | (split <;> exact led1) | exact led1
      · intro h' sb r; dsimp only; exact wpAny_pure (fin h' sb r)
    · refine wpAny_bind (wpAny_pure ?_)
      simp only [↓reduceIte]
      refine setM_tail ?_ ho hex hd g1 pk nd1 hb1 fitN risN led1 ?_
      · intro b s1 Q' q; cases b <;> first | exact wpAny_pure q | exact wpAny_rule q
      · intro h' sb r; dsimp only; exact wpAny_pure (fin h' sb r)
/-- the keys of a list, each once -/
def dedup (ks : List Key) : List Key := ks.foldl addK []
theorem dedup_len : ∀ (xs acc : List Key), (xs.foldl addK acc).length ≤ acc.length + xs.length
  | [], acc => Nat.le_refl _
  | x :: xs, acc => by
    rw [List.foldl_cons]
    have := dedup_len xs (addK acc x)
    have h2 : (addK acc x).length ≤ acc.length + 1 := by unfold addK; split <;> simp
    simp only [List.length_cons]
    omega
theorem set_update_keys {I : Addr} {fp wr : List Addr} {G : Array GenState → Array GenState → Prop} {n : Nat} {Pv : Nat → Value → Prop} {St : Nat → Shared → Prop} {R : Result → Shared → Prop}
    (W : WalksS P w A.in1 I fp wr G n Pv St) (S : Addr) (hSf : S ∉ fp) (xs : List Key) (hn : n = xs.length) (hb : xs.length + 1 < scanBound) (hval : ∀ i v, Pv i v → ∃ k, xs[i]? = some k ∧ RelV (kV k) v) :
    ∀ (k i : Nat) (s : Shared), n - i = k → i ≤ n → St i s → SetM P w s.heap S (dedup (xs.take i)) →
      (∀ s', Moved (S :: wr) G s s' → SetM P w s'.heap S (dedup xs) → R (.ok (.ret .none)) s') →
      codeAny (model P w) A (.builtin "set.update.loop" ⟨[.ref S, .ref I], []⟩) R s := by
  have outS : S ∉ wr := fun h => hSf (W.sub _ h)
  have more : ∀ b ∈ wr, b ∈ S :: wr := fun b hb => List.mem_cons_of_mem _ hb
  intro k
  induction k with
  | zero =>
    intro i s hk' hi hst hS hR
    have hin : i = n := by omega
    subst hin
    refine codeAny_builtin PyProof.Rows.F.entry_set_update_loop ?_
    rw [Around.under_plainId PyProof.Rows.F.plain_set_update_loop _]
    show wpAny _ A.in1 (pyNext (.ref I) >>= _) _ _ s
    refine wpAny_bind (W.done s _ _ hst fun s' hm => ?_)
    show wpAny _ A.in1 (ret Value.none) _ _ s'
    rw [List.take_of_length_le (by omega)] at hS
    exact wpAny_pure (hR s' (hm.mono more) (hS.at fun o e => hm.heap S o outS e))
  | succ k ih =>
    intro i s hk' hi hst hS hR
    have hlt : i < n := by omega
    refine codeAny_builtin PyProof.Rows.F.entry_set_update_loop ?_
    rw [Around.under_plainId PyProof.Rows.F.plain_set_update_loop _]
    show wpAny _ A.in1 (pyNext (.ref I) >>= _) _ _ s
    refine wpAny_bind (W.item i s _ _ hlt hst fun v s' hP hst' hm => ?_)
    obtain ⟨z, hz, rv⟩ := hval i v hP
    have hS' : SetM P w s'.heap S (dedup (xs.take i)) := hS.at fun o e => hm.heap S o outS e
    show wpAny _ A.in1 (holding [v] (setAdd S v) >>= _) _ _ s'
    refine wpAny_bind (wpAny_holding ?_)
    unfold setAdd
    refine wpAny_holding (wpAny_bind ((mixKind P w).pyHash (k := z) (kV_is rv) ?_))
    have few : (dedup (xs.take i)).length + 1 < scanBound := by
      have := dedup_len (xs.take i) []
      have h2 : (xs.take i).length ≤ xs.length := by rw [List.length_take]; omega
      unfold dedup
      simp only [List.length_nil] at this
      omega
    refine setM_add (s := { s' with toks := s'.toks + 1 }) rv hS' few fun b h' but S2 => ?_
    have S3 : SetM P w h' S (dedup (xs.take (i + 1))) := by
      have e : dedup (xs.take (i + 1)) = addK (dedup (xs.take i)) z := by
        unfold dedup
        rw [List.take_add_one, hz]
        simp [List.foldl_append]
      rw [e]
      exact S2
    refine wpAny_pure ⟨plainId_quiet PyProof.Rows.F.plain_set_update_loop _, ih (i + 1) _ (by omega) hlt (W.frame _ s' _ _ hst' (Nat.le_succ _) fun c hc o e => ?_) S3 fun s'' hm'' hS'' => ?_⟩
    · rw [but.2 c (fun h : c = S => hSf (by rw [← h]; exact hc))]; exact e
    · refine hR s'' (Moved.trans W.gtrans ((hm.mono more).then_heap (Nat.le_succ _) fun c o hc e => ?_) hm'') hS''
      rw [but.2 c (fun h : c = S => hc (by rw [h]; exact List.mem_cons_self))]; exact e
end
end DL
/-! The data layer, B: set(x). -/
namespace DL
open PySem PySem.Spec L2
section
variable {P : Program} {w : World} {A : Around} {E : Value → Shared → Prop} {s : Shared}
abbrev newSet (w : World) : Obj := { cls := .type "set", dict := none, data := .set #[] 0 (.fresh 0 0 (!w.params.followText "set-order")) }
theorem setM_fresh {P : Program} {w : World} {h : Heap} {a : Addr} (ho : h.get? a = some (newSet w)) : SetM P w h a [] :=
  ⟨_, #[], 0, _, ho, ⟨rfl, rfl, rfl⟩, rfl, (fun e he => by simp at he), (by simp), List.nodup_nil, (by decide), (by rfl), List.Pairwise.nil, by
    show _ ∨ (!w.params.followText "set-order") = true
    cases w.params.followText "set-order"
    · exact .inr rfl
    · exact .inl rfl⟩
theorem call_set_listK {l : Addr} {items : Array Value} (xs : List Key) {Q : Value → Shared → Prop} (hh : A.handled = none) (hl : s.heap.IsList l items) (hit : Vals (xs.map kV) items.toList) (few : xs.length + 1 < scanBound)
    (fin : ∀ (h' : Heap) (tk : Nat), SetM P w h' s.heap.objs.size (dedup xs) → (∀ b o, s.heap.get? b = some o → h'.get? b = some o) → Q (.ref s.heap.objs.size) { s with heap := h', toks := tk }) :
    wpAny (model P w) A (call (.type "set") [.ref l]) Q E s := by
  obtain ⟨c0, tl0, mro0⟩ := F.called_set.mro
  have made0 := F.called_set.made
  have sub0 := F.called_set.sub
  refine wpAny_call (codeAny_of_tree ?_)
  show wpAny _ _ (callAny (.type "set") _) _ _ _
  refine wpAny_pure ⟨Code.quiet_builtin _ (by decide +kernel), codeAny_builtin F.entry_type_call ?_⟩
  rw [Around.under_plain (weight_type_call_type "set" [.ref l] []) rfl]
  have nt0 := F.called_set.notType
  have cc0 := F.called_set.canCreate
  have tc0 := F.typeCall_set_1 (.ref l)
  repeat (any_goals (first | assumption | wp_step))
  refine codeAny_mono (L2.code_set_led1 (.ref l) (E := E) (Q₁ := fun obj s1 => obj = .ref s.heap.objs.size ∧ s1 = { s with heap := s.heap.push (newSet w) }) ⟨rfl, rfl⟩) fun r s1 hr => ?_
  cases r with
  | error e => exact hr
  | ok fl =>
    cases fl with
    | ret obj =>
      obtain ⟨rfl, rfl⟩ := hr
      have hS : (s.heap.push (newSet w)).get? s.heap.objs.size = some (newSet w) := Heap.get?_push_size _ rfl
      have hT : Shared.TypeIs { s with heap := s.heap.push (newSet w) } (.ref s.heap.objs.size) "set" := ⟨_, hS, rfl⟩
      have il0 := F.called_set.init.lookup
      have ib0 := F.called_set.init.bind (.ref s.heap.objs.size)
      repeat (any_goals (first | assumption | wp_step))
      refine codeAny_mono (codeAny_call_builtin (R := wants (fun r s2 => r = .none ∧ ∃ h' tk, s2 = { s with heap := h', toks := tk } ∧ SetM P w h' s.heap.objs.size (dedup xs) ∧
          (∀ b o, s.heap.get? b = some o → h'.get? b = some o)) E) F.called_set.init.plain F.entry_set_init (check_set_init_1 hT ?_)) fun r2 s2 hr2 => ?_
      · obtain ⟨ol, hol, hcl, nl, hdl⟩ := hl
        obtain ⟨ocls, odict, odata, oslots⟩ := ol
        simp only at hcl hdl
        subst hcl; subst hdl
        have hol' : (s.heap.push (newSet w)).get? l = some { cls := .type "list", dict := odict, data := .seq items nl, slots := oslots } := Heap.get?_push_of_some _ hol
        have no1 := F.sub_list_set
        have no2 := F.sub_list_frozenset
        have no3 : (Value.type "list" == Value.type "dict") = false := by decide
        have hl1 : (s.heap.push (newSet w)).IsList l items := ⟨_, hol', rfl, nl, rfl⟩
        unfold Builtin.«set.__init__» noKeywords Builtin.Frozenset.updateFrom
        generalize hPI : pyIter = PI
        wp_walk
        subst hPI
        have hh3 : A.in1.in1.in1.handled = none := by simp [hh]
        refine wpAny_pyIter_list hl1 (wpAny_bind (wpAny_runValue ?_))
        have hlS : l < s.heap.objs.size := Heap.lt_size hol
        have hneI : l ≠ (s.heap.push (newSet w)).objs.size := by
          rw [Heap.size_push]; exact Nat.ne_of_lt (Nat.lt_succ_of_lt hlS)
        have hSf : s.heap.objs.size ∉ [(s.heap.push (newSet w)).objs.size, l] := by
          rw [Heap.size_push]
          simp only [List.mem_cons, List.mem_singleton, List.not_mem_nil, or_false, not_or]
          exact ⟨Nat.ne_of_lt (Nat.lt_succ_self _), Nat.ne_of_gt hlS⟩
        have hsz : items.size = xs.length := by
          have q := hit.length
          simpa using q.symm
        have hval : ∀ (i : Nat) (v : Value), items[i]? = some v → ∃ k, xs[i]? = some k ∧ RelV (kV k) v := fun i v hv => by
          have q : items.toList[i]? = some v := by rw [Array.getElem?_toList]; exact hv
          have hi : i < xs.length := by
            have := (List.getElem?_eq_some_iff.mp q).1
            rw [← hsz]; simpa using this
          obtain ⟨u, z1, z2⟩ := hit.get (i := i) (x := kV xs[i]) (by rw [List.getElem?_map, List.getElem?_eq_getElem hi]; rfl)
          rw [q] at z1; cases z1
          exact ⟨xs[i], List.getElem?_eq_getElem hi, z2⟩
        refine set_update_keys ((Walks.list hh3 _ l hneI items).toS) s.heap.objs.size hSf xs hsz few hval (items.size - 0) 0 _ (by omega) (Nat.zero_le _)
          ⟨⟨_, Heap.get?_push_size _ rfl, rfl, rfl⟩, (hl1.push _)⟩ (setM_fresh (Heap.get?_push_of_some _ hS)) ?_
        · intro s' hm hS'
          obtain ⟨h', g', d', tk', os'⟩ := s'
          have eg : g' = s.gens := hm.gens
          have ed : d' = s.drawn := hm.drawn
          have eo : os' = s.os := hm.os
          subst eg; subst ed; subst eo
          show wpAny _ _ _ _ _ _
          refine wpAny_pure ?_
          show wpAny _ _ (ret Value.none) _ _ _
          refine wpAny_pure ⟨rfl, h', tk', rfl, hS', fun b o e => ?_⟩
          have hlt := Heap.lt_size e
          refine hm.heap b o ?_ (Heap.get?_push_of_some _ (Heap.get?_push_of_some _ e))
          simp only [List.mem_cons, List.mem_singleton, List.not_mem_nil, or_false, not_or]
          refine ⟨Nat.ne_of_lt hlt, ?_⟩
          rw [Heap.size_push]
          exact Nat.ne_of_lt (Nat.lt_succ_of_lt hlt)
      · cases r2 with
        | error e => exact hr2
        | ok fl2 =>
          cases fl2 with
          | ret r =>
            obtain ⟨rfl, h', tk, rfl, hS', hk'⟩ := hr2
            repeat (any_goals (first | assumption | wp_step))
            exact fin _ _ hS' hk'
          | _ => exact hr2.elim
    | _ => exact hr.elim
theorem call_set_text {z : List Nat} {t : Tok} (xs : List Key) {Q : Value → Shared → Prop} (hh : A.handled = none) (hx : xs = z.map fun c => Sum.inr (S0 [c])) (few : xs.length + 1 < scanBound)
    (fin : ∀ (h' : Heap) (tk : Nat), SetM P w h' s.heap.objs.size (dedup xs) → (∀ b o, s.heap.get? b = some o → h'.get? b = some o) → Q (.ref s.heap.objs.size) { s with heap := h', toks := tk }) :
    wpAny (model P w) A (call (.type "set") [.str (S0 z) t]) Q E s := by
  obtain ⟨c0, tl0, mro0⟩ := F.called_set.mro
  have made0 := F.called_set.made
  have sub0 := F.called_set.sub
  refine wpAny_call (codeAny_of_tree ?_)
  show wpAny _ _ (callAny (.type "set") _) _ _ _
  refine wpAny_pure ⟨Code.quiet_builtin _ (by decide +kernel), codeAny_builtin F.entry_type_call ?_⟩
  rw [Around.under_plain (weight_type_call_type "set" [.str (S0 z) t] []) rfl]
  have nt0 := F.called_set.notType
  have cc0 := F.called_set.canCreate
  have tc0 := F.typeCall_set_1 (.str (S0 z) t)
  repeat (any_goals (first | assumption | wp_step))
  refine codeAny_mono (L2.code_set_led1 (.str (S0 z) t) (E := E) (Q₁ := fun obj s1 => obj = .ref s.heap.objs.size ∧ s1 = { s with heap := s.heap.push (newSet w) }) ⟨rfl, rfl⟩) fun r s1 hr => ?_
  cases r with
  | error e => exact hr
  | ok fl =>
    cases fl with
    | ret obj =>
      obtain ⟨rfl, rfl⟩ := hr
      have hS : (s.heap.push (newSet w)).get? s.heap.objs.size = some (newSet w) := Heap.get?_push_size _ rfl
      have hT : Shared.TypeIs { s with heap := s.heap.push (newSet w) } (.ref s.heap.objs.size) "set" := ⟨_, hS, rfl⟩
      have il0 := F.called_set.init.lookup
      have ib0 := F.called_set.init.bind (.ref s.heap.objs.size)
      repeat (any_goals (first | assumption | wp_step))
      refine codeAny_mono (codeAny_call_builtin (R := wants (fun r s2 => r = .none ∧ ∃ h' tk, s2 = { s with heap := h', toks := tk } ∧ SetM P w h' s.heap.objs.size (dedup xs) ∧
          (∀ b o, s.heap.get? b = some o → h'.get? b = some o)) E) F.called_set.init.plain F.entry_set_init (check_set_init_1 hT ?_)) fun r2 s2 hr2 => ?_
      · have no1 := F.sub_str_set
        have no2 := F.sub_str_frozenset
        have no3 : (Value.type "str" == Value.type "dict") = false := by decide
        unfold Builtin.«set.__init__» noKeywords Builtin.Frozenset.updateFrom
        generalize hPI : pyIter = PI
        wp_walk
        subst hPI
        have hh3 : A.in1.in1.in1.handled = none := by simp [hh]
        refine wpAny_pyIter_str fun ob St walks st0 => wpAny_bind (wpAny_runValue ?_)
        have hSf : s.heap.objs.size ∉ [(s.heap.push (newSet w)).objs.size] := by
          rw [Heap.size_push]
          simp only [List.mem_singleton]
          exact Nat.ne_of_lt (Nat.lt_succ_self _)
        have hsz : (S0 z).cps.size = xs.length := by rw [hx]; simp
        have hval : ∀ (i : Nat) (v : Value), SignAt (S0 z) i v → ∃ k, xs[i]? = some k ∧ RelV (kV k) v := fun i v hv => by
          obtain ⟨c, u, hc, rfl⟩ := hv
          have q : z[i]? = some c := by simpa using hc
          exact ⟨.inr (S0 [c]), by rw [hx, List.getElem?_map, q]; rfl, ⟨u, rfl⟩⟩
        refine set_update_keys ((walks _ hh3).toS) s.heap.objs.size hSf xs hsz few hval ((S0 z).cps.size - 0) 0 _ (by omega) (Nat.zero_le _) st0 (setM_fresh (Heap.get?_push_of_some _ hS)) ?_
        · intro s' hm hS'
          obtain ⟨h', g', d', tk', os'⟩ := s'
          have eg : g' = s.gens := hm.gens
          have ed : d' = s.drawn := hm.drawn
          have eo : os' = s.os := hm.os
          subst eg; subst ed; subst eo
          show wpAny _ _ _ _ _ _
          refine wpAny_pure ?_
          show wpAny _ _ (ret Value.none) _ _ _
          refine wpAny_pure ⟨rfl, h', tk', rfl, hS', fun b o e => ?_⟩
          have hlt := Heap.lt_size e
          refine hm.heap b o ?_ (Heap.get?_push_of_some _ (Heap.get?_push_of_some _ e))
          simp only [List.mem_cons, List.mem_singleton, List.not_mem_nil, or_false, not_or]
          refine ⟨Nat.ne_of_lt hlt, ?_⟩
          rw [Heap.size_push]
          exact Nat.ne_of_lt (Nat.lt_succ_of_lt hlt)
      · cases r2 with
        | error e => exact hr2
        | ok fl2 =>
          cases fl2 with
          | ret r =>
            obtain ⟨rfl, h', tk, rfl, hS', hk'⟩ := hr2
            repeat (any_goals (first | assumption | wp_step))
            exact fin _ _ hS' hk'
          | _ => exact hr2.elim
    | _ => exact hr.elim
end
end DL
/-! The data layer, C: sorts; sorted(set(x)), len(set(x)). -/
namespace DL
open PySem PySem.Spec L2

/-! ### an insertion sort -/
section
variable {α : Type} (lt : α → α → Bool)
def insL (x : α) : List α → List α
  | [] => [x]
  | y :: r => if lt y x = true then y :: insL x r else x :: y :: r
def isort : List α → List α
  | [] => []
  | x :: r => insL lt x (isort r)
variable {lt}
theorem insL_perm (x : α) : ∀ l : List α, (insL lt x l).Perm (x :: l)
  | [] => List.Perm.refl _
  | y :: r => by
    unfold insL
    split
    · exact ((insL_perm x r).cons y).trans (List.Perm.swap x y r)
    · exact List.Perm.refl _
theorem isort_perm : ∀ l : List α, (isort lt l).Perm l
  | [] => List.Perm.refl _
  | x :: r => (insL_perm x _).trans ((isort_perm r).cons x)
/-- rising: none comes behind one that it is below -/
def Rising (lt : α → α → Bool) (l : List α) : Prop := l.Pairwise fun x y => lt y x = false
theorem insL_rising (O : SrtO.Swo lt) (x : α) : ∀ l : List α, Rising lt l → Rising lt (insL lt x l)
  | [], _ => List.pairwise_singleton _ _
  | y :: r, h => by
    obtain ⟨h1, h2⟩ := List.pairwise_cons.mp h
    unfold insL
    split
    · rename_i q
      refine List.pairwise_cons.mpr ⟨fun z hz => ?_, insL_rising O x r h2⟩
      rcases List.mem_cons.mp ((insL_perm x r).mem_iff.mp hz) with e | e
      · rw [e]; exact O.asym y x q
      · exact h1 z e
    · rename_i q
      have q' : lt y x = false := by simpa using q
      refine List.pairwise_cons.mpr ⟨fun z hz => ?_, h⟩
      rcases List.mem_cons.mp hz with e | e
      · rw [e]; exact q'
      · exact O.tr x y z q' (h1 z e)
theorem isort_rising (O : SrtO.Swo lt) : ∀ l : List α, Rising lt (isort lt l)
  | [] => List.Pairwise.nil
  | x :: r => insL_rising O x _ (isort_rising O r)
/-- a rising order is the only one -/
theorem rising_unique (tot : ∀ a b, lt a b = false → lt b a = false → a = b) {l l' : List α} (h : l.Perm l') (h1 : Rising lt l) (h2 : Rising lt l') : l = l' :=
  List.Perm.eq_of_pairwise (le := fun x y => lt y x = false) (fun a b _ _ p q => tot a b q p) h1 h2 h
theorem isort_eq (O : SrtO.Swo lt) (tot : ∀ a b, lt a b = false → lt b a = false → a = b) {l l' : List α} (h : l'.Perm l) (h1 : Rising lt l') : l' = isort lt l :=
  rising_unique tot (h.trans (isort_perm l).symm) h1 (isort_rising O l)
end
def ltI (a b : Int) : Bool := decide (a < b)
def ltN (a b : List Nat) : Bool := decide (a < b)
theorem swoI : SrtO.Swo ltI := ⟨fun x y h => by
    have := of_decide_eq_true h
    exact decide_eq_false (by omega), fun x y z h1 h2 => by
    have a := of_decide_eq_false h1
    have b := of_decide_eq_false h2
    exact decide_eq_false (by omega)⟩
theorem totI : ∀ a b, ltI a b = false → ltI b a = false → a = b := fun a b h1 h2 => by
  have p := of_decide_eq_false h1
  have q := of_decide_eq_false h2
  omega
theorem swoN : SrtO.Swo ltN := ⟨fun x y h => by
    have := of_decide_eq_true h
    exact decide_eq_false (List.lt_asymm this), fun x y z h1 h2 => by
    have a := List.not_lt.mp (of_decide_eq_false h1)
    have b := List.not_lt.mp (of_decide_eq_false h2)
    exact decide_eq_false (List.not_lt.mpr (List.le_trans a b))⟩
theorem totN : ∀ a b, ltN a b = false → ltN b a = false → a = b := fun a b h1 h2 =>
  List.le_antisymm (List.not_lt.mp (of_decide_eq_false h2)) (List.not_lt.mp (of_decide_eq_false h1))

/-! ### sorted of texts, any number -/
def sv : Value → List Nat
  | .str s _ => s.cps.toList
  | _ => []
def ltSv (v u : Value) : Bool := ltN (sv v) (sv u)
theorem swoS : SrtO.Swo ltSv := ⟨fun x y h => swoN.asym _ _ h, fun x y z h1 h2 => swoN.tr _ _ _ h1 h2⟩
section
variable {prog : Program} {w : World} {A : Around} {E : Value → Shared → Prop} {s : Shared}
theorem strs_mem : ∀ {vs : List Value} {xs : List Str}, PyProof.Rows.StrsAre vs xs → ∀ v ∈ vs, ∃ i t, v = Value.str i t
  | _, _, .nil, v, h => absurd h (by simp)
  | _, _, .cons n t r, v, h => by
    rcases List.mem_cons.mp h with e | h
    · exact ⟨n, t, e⟩
    · exact strs_mem r v h
theorem str_cmp {vs : List Value} {xs : List Str} (hI : PyProof.Rows.StrsAre vs xs) : SrtO.Cmp prog w A s PyProof.Rows.oneType' (fun p => p.1 ∈ vs) (SrtO.lt2 ltSv) := by
  intro p q hm hm'
  obtain ⟨a, t, e⟩ := strs_mem hI _ hm
  obtain ⟨b, u, e'⟩ := strs_mem hI _ hm'
  show wpAny (model prog w) A (PyProof.Rows.keyLt' PyProof.Rows.oneType' p.1 q.1) (fun r s' => s' = s ∧ r = ltSv p.1 q.1) (fun _ _ => False) s
  rw [e, e', PyProof.Rows.keyLt'_oneType]
  exact PyProof.Rows.oneLt_str ⟨rfl, rfl⟩
theorem strs_sortable {a : Addr} {vs : List Value} {xs : List Str} (hI : PyProof.Rows.StrsAre vs xs) (h2 : 2 ≤ vs.length) : SrtO.SortableO prog w A s a vs ltSv := by
  intro h' _
  refine ⟨PyProof.Rows.oneType', fun Q E hq => ?_, str_cmp hI⟩
  match vs, hI, h2 with
  | v1 :: v2 :: rest, hI, _ =>
    rw [PyProof.Rows.keyKind_strs hI]
    exact wpAny_pure hq
  | [], _, h => exact absurd h (by decide)
  | [v], _, h => exact absurd h (by simp)
end
theorem strsAre_of : ∀ {ys : List (List Nat)} {us : List Value}, Vals ((ys.map S0).map V.str) us → PyProof.Rows.StrsAre us (ys.map S0)
  | [], us, h => by cases h; exact .nil
  | y :: ys, us, h => by
    cases h with
    | cons r t =>
      obtain ⟨k, rfl⟩ := r
      exact .cons _ _ (strsAre_of t)
theorem sv_map : ∀ {ys : List (List Nat)} {us : List Value}, Vals ((ys.map S0).map V.str) us → us.map sv = ys
  | [], us, h => by cases h; rfl
  | y :: ys, us, h => by
    cases h with
    | cons r t =>
      obtain ⟨k, rfl⟩ := r
      rw [List.map_cons, sv_map t]
      rfl
/-- texts in another order -/
theorem vals_strs : ∀ {out : List Value}, (∀ v ∈ out, ∃ i t, v = Value.str i t) → Vals (((out.map sv).map S0).map V.str) out
  | [], _ => .nil
  | v :: out, h => by
    obtain ⟨i, t, rfl⟩ := h v List.mem_cons_self
    exact .cons ⟨t, rfl⟩ (vals_strs fun u hu => h u (List.mem_cons_of_mem _ hu))
theorem strs_out {ys : List (List Nat)} {us out : List Value} (h : Vals ((ys.map S0).map V.str) us) (hs : SrtO.Srtd ltSv out) (hp : out.Perm us) : Vals (((isort ltN ys).map S0).map V.str) out := by
  have h1 : ∀ v ∈ out, ∃ i t, v = Value.str i t := fun v hv => strs_mem (strsAre_of h) v (hp.mem_iff.mp hv)
  have h2 : out.map sv = isort ltN ys := by
    refine isort_eq swoN totN ?_ ?_
    · have := hp.map sv
      rw [sv_map h] at this
      exact this
    · exact List.pairwise_map.mpr (hs.imp fun z => z)
  have := vals_strs h1
  rw [h2] at this
  exact this
theorem ints_out {ns : List Int} {us out : List Value} (h : Vals (ns.map V.int) us) (hs : SrtO.Srtd SrtO.ltIv out) (hb : SrtO.Stb SrtO.ltIv out us) : Vals ((isort ltI ns).map V.int) out := by
  obtain ⟨k1, k2, k3⟩ := SrtO.ints_out h.ints hs hb
  have : out.map SrtO.iv = isort ltI ns := isort_eq swoI totI k2 (k3.imp fun z => decide_eq_false (by omega))
  rw [← this]
  exact vals_of_ints k1
/-- sorted(xs), texts -/
def rSortedT (K : PySem.W.Frag) : List V → Hp → VK → Prop := fun vs H Q => ∃ (a : Addr) (ys : List (List Nat)), vs = [V.ref a] ∧ SqL K H a ((ys.map S0).map V.str) ∧ ∀ p : Addr, H p = none → Q (.ref p) (upd H p (.lst (((isort ltN ys).map S0).map V.str)))
section
variable {X : Cx}
theorem cr_sortedT : CallR X (.builtin "sorted") (rSortedT X.K) := by
  intro pins s σ H vs us Q I r h
  obtain ⟨a, ys, rfl, hs, q⟩ := h
  obtain ⟨its, rv, hl, hz⟩ := I.list hs
  rw [Vals.ref1 r]
  have hi := strsAre_of rv
  refine SrtO.sorted_ord swoS hl.isList (by rw [← rv.length]; exact hz) (fun h2 h1 a' _ _ => strs_sortable hi h2) fun out h1 h2 => ?_
  obtain ⟨ep, he'⟩ := PyProof.Rows.sortedAll_at s.heap its out.toArray
  have ro := strs_out rv h1 h2.perm
  have hlen : (((isort ltN ys).map S0).map V.str).length ≤ sizeLine := by
    rw [ro.length, h2.perm.length_eq, ← rv.length]
    exact hz
  exact ⟨.ref _, upd H (s.heap.objs.size + 1) (.lst (((isort ltN ys).map S0).map V.str)), I.laid (t' := s.toks) (fun _ _ => PyProof.Rows.sortedAll_old) (Nat.le_succ _) ⟨hlen, out, ep, ro, he'⟩, rfl, q _ (I.hok.fresh (Nat.le_succ _))⟩
end
/-! the data: sorted(x) -/
def sortR : List D → Res D
  | [.lst ds] => (match intsOf ds with
    | some ns => .ok (.lst ((isort ltI ns).map D.int))
    | none => (match strsOf ds with
      | some ss => .ok (.lst ((isort ltN ss).map D.str))
      | none => .bad))
  | _ => .bad
theorem intsOf_map : ∀ ns : List Int, intsOf (ns.map D.int) = some ns
  | [] => rfl
  | n :: ns => by simp [intsOf, intsOf_map ns]
theorem ints_D : ∀ {ds : List D} {ns : List Int}, intsOf ds = some ns → ds = ns.map D.int
  | [], ns, e => by cases e; rfl
  | .int i :: ds, ns, e => by
    simp only [intsOf, Option.map_eq_some_iff] at e
    obtain ⟨ms, e1, rfl⟩ := e
    rw [ints_D e1]
    rfl
theorem strs_D : ∀ {ds : List D} {ns : List (List Nat)}, strsOf ds = some ns → ds = ns.map D.str
  | [], ns, e => by cases e; rfl
  | .str i :: ds, ns, e => by
    simp only [strsOf, Option.map_eq_some_iff] at e
    obtain ⟨ms, e1, rfl⟩ := e
    rw [strs_D e1]
    rfl
section
variable {K : PySem.W.Frag} {F : Hp}
theorem reps_ints : ∀ ns : List Int, Reps K F (ns.map D.int) (ns.map V.int)
  | [] => Reps.nil
  | n :: ns => Reps.cons mk_int (reps_ints ns)
theorem reps_strs : ∀ {ss : List (List Nat)}, (∀ s ∈ ss, s.all (· < 0x110000) = true ∧ s.length ≤ sizeLine) → Reps K F (ss.map D.str) ((ss.map S0).map V.str)
  | [], _ => Reps.nil
  | s :: ss, h => Reps.cons (mk_str (h s List.mem_cons_self).1 (h s List.mem_cons_self).2) (reps_strs fun t ht => h t (List.mem_cons_of_mem _ ht))
theorem strs_ok : ∀ {ss : List (List Nat)} {vs : List V}, Reps K F (ss.map D.str) vs → ∀ s ∈ ss, s.all (· < 0x110000) = true ∧ s.length ≤ sizeLine
  | [], vs, _, s, h => by cases h
  | s :: ss, vs, r, t, h => by
    obtain ⟨v, rest, rfl, h1, h2⟩ := Reps.uncons r
    rcases List.mem_cons.mp h with e | e
    · rw [e]; exact (rep_str h1).2
    · exact strs_ok h2 t e
theorem good_sort : GoodF K (fun xs H Q => rSortedI K xs H Q ∨ rSortedT K xs H Q) sortR := by
  intro F H ds vs Q s r d e k
  unfold sortR at e
  split at e
  · rename_i xs
    obtain ⟨v, rfl, r1⟩ := r.one
    obtain ⟨a, vs, rfl, h1, h2, h3⟩ := rep_lst r1
    cases q : intsOf xs with
    | some ns =>
      rw [q] at e
      cases e
      have := h2.ofInts q; subst this
      refine .inl ⟨a, ns, rfl, SqL.of (s _ _ h1), fun ns' p hp hr hn => ?_⟩
      have e2 : ns' = isort ltI ns := isort_eq swoI totI hp (hr.imp fun z => decide_eq_false (by omega))
      subst e2
      refine GoodF.lst s hn (reps_ints _) ?_ k
      rw [List.length_map, (isort_perm ns).length_eq]
      have := ints_D q
      rw [this, List.length_map] at h3
      exact h3
    | none =>
      rw [q] at e
      dsimp only at e
      cases q2 : strsOf xs with
      | some ss =>
        rw [q2] at e
        cases e
        have := h2.ofStrs q2; subst this
        have e3 := strs_D q2
        subst e3
        have ok := strs_ok h2
        refine .inr ⟨a, ss, rfl, SqL.of (s _ _ h1), fun p hn => ?_⟩
        refine GoodF.lst s hn (reps_strs fun t ht => ok t ((isort_perm ss).mem_iff.mp ht)) ?_ k
        rw [List.length_map, (isort_perm ss).length_eq]
        rw [List.length_map] at h3
        exact h3
      | none => rw [q2] at e; cases e
  · cases e
theorem nox_sort : NoXC sortR := by
  intro ds c h
  unfold sortR at h
  split at h
  · split at h
    · cases h
    · split at h <;> cases h
  · cases h
end
end DL
/-! The data layer, D: sorted(set(x)), len(set(x)). -/
namespace DL
open PySem PySem.Spec L2

/-- each once -/
def nub {α : Type} [DecidableEq α] (xs : List α) : List α := xs.foldl (fun acc x => if x ∈ acc then acc else x :: acc) []
section
variable {α : Type} [DecidableEq α]
theorem nub_len : ∀ (xs acc : List α), (xs.foldl (fun acc x => if x ∈ acc then acc else x :: acc) acc).length ≤ acc.length + xs.length
  | [], acc => Nat.le_refl _
  | x :: xs, acc => by
    rw [List.foldl_cons]
    have := nub_len xs (if x ∈ acc then acc else x :: acc)
    have h2 : (if x ∈ acc then acc else x :: acc).length ≤ acc.length + 1 := by split <;> simp
    simp only [List.length_cons]
    omega
theorem nub_dedup (f : α → Key) (hf : ∀ x y, f x = f y → x = y) (xs : List α) : dedup (xs.map f) = (nub xs).map f := by
  have go : ∀ (xs acc : List α), (xs.map f).foldl addK (acc.map f) = (xs.foldl (fun acc x => if x ∈ acc then acc else x :: acc) acc).map f := by
    intro xs
    induction xs with
    | nil => intro acc; rfl
    | cons x xs ih =>
      intro acc
      rw [List.map_cons, List.foldl_cons, List.foldl_cons, ← ih]
      refine congrArg (fun z => List.foldl addK z (xs.map f)) ?_
      have hm : hasK (acc.map f) (f x) = true ↔ x ∈ acc := by
        rw [hasK_iff, List.mem_map]
        exact ⟨fun ⟨y, hy, e⟩ => hf y x e ▸ hy, fun h => ⟨x, h, rfl⟩⟩
      unfold addK
      by_cases h : x ∈ acc
      · rw [if_pos (hm.mpr h), if_pos h]
      · rw [if_neg fun z => h (hm.mp z), if_neg h]
        rfl
  exact go xs []
end
def kInt (n : Int) : Key := .inl n
def kStr (s : List Nat) : Key := .inr (S0 s)
theorem kInt_inj : ∀ x y, kInt x = kInt y → x = y := fun x y h => by injection h
theorem kStr_inj : ∀ x y, kStr x = kStr y → x = y := fun x y h => by
  have : S0 x = S0 y := by injection h
  exact S0_inj this
/-- what is put into a set: ints, or texts -/
inductive SK where
  | i (ns : List Int) | s (ss : List (List Nat))
def SK.keys : SK → List Key
  | .i ns => ns.map kInt
  | .s ss => ss.map kStr
def SK.nub : SK → SK
  | .i ns => .i (DL.nub ns)
  | .s ss => .s (DL.nub ss)
def SK.len : SK → Nat
  | .i ns => ns.length
  | .s ss => ss.length
def SK.sorted : SK → List D
  | .i ns => (isort ltI ns).map D.int
  | .s ss => (isort ltN ss).map D.str
def SK.vals : SK → List V
  | .i ns => (isort ltI ns).map V.int
  | .s ss => ((isort ltN ss).map S0).map V.str
theorem SK.dedup (k : SK) : DL.dedup k.keys = k.nub.keys := by
  cases k with
  | i ns => exact nub_dedup kInt kInt_inj ns
  | s ss => exact nub_dedup kStr kStr_inj ss
section
variable {P : Program} {w : World} {A : Around} {E : Value → Shared → Prop} {s : Shared} {a : Addr}
theorem ent_vals : ∀ {vs : List Value}, (∀ v ∈ vs, ∃ k, RelV (kV k) v) → Vals ((vs.map keyV).map kV) vs
  | [], _ => .nil
  | v :: vs, h => by
    obtain ⟨k, r⟩ := h v List.mem_cons_self
    refine .cons ?_ (ent_vals fun u hu => h u (List.mem_cons_of_mem _ hu))
    rw [keyV_of r]
    exact r
theorem perm_unmap {α : Type} {f : α → Key} {g : Key → α} (hg : ∀ x, g (f x) = x) {ks : List Key} {xs : List α} (h : ks.Perm (xs.map f)) : ∃ ys : List α, ks = ys.map f ∧ ys.Perm xs := by
  refine ⟨ks.map g, ?_, ?_⟩
  · rw [List.map_map]
    have : ∀ k ∈ ks, f (g k) = k := fun k hk => by
      obtain ⟨x, _, e⟩ := List.mem_map.mp (h.mem_iff.mp hk)
      rw [← e, hg]
    have e : ks.map (f ∘ g) = ks.map id := List.map_congr_left fun k hk => this k hk
    rw [e, List.map_id]
  · have q := h.map g
    rw [List.map_map] at q
    have e : xs.map (g ∘ f) = xs := by
      rw [show (g ∘ f) = id from funext hg, List.map_id]
    rw [e] at q
    exact q
def unI : Key → Int
  | .inl n => n
  | _ => 0
def unS : Key → List Nat
  | .inr s => s.cps.toList
  | _ => []
/-- sorted(set) -/
theorem sorted_setM {k : SK} {Q : Value → Shared → Prop} (R : SetM P w s.heap a k.keys) (hh : A.handled = none)
    (hQ : ∀ s' p (out : List Value) (c : Nat), (∀ b o, s.heap.get? b = some o → s'.heap.get? b = some o) → s'.gens = s.gens → s'.os = s.os → s.heap.objs.size ≤ p →
      s'.heap.get? p = some (PyProof.Rows.seqObj "list" out.toArray c) → Vals k.vals out → out.length = k.len → Q (.ref p) s') :
    wpAny (model P w) A (call (.builtin "sorted") [.ref a]) Q E s := by
  obtain ⟨o, es, ep, t, ho, hex, hd, g, pm, nd, hb, hf, hr, hl⟩ := R
  refine Calls.call_function_entry PyProof.Rows.kind_sorted PyProof.Rows.plain_sorted PyProof.Rows.entry_sorted (PyProof.Rows.args_sorted1 _) ?_
  unfold Builtin.«sorted»
  refine wpAny_bind (m := checkCount "sorted" 1 1 _) (wpAny_pure ?_)
  refine wpAny_bind (L2.collect_set (A := A.in1) hh ⟨o, ho, hex.1, hd⟩ hf hb hr hl fun s1 vs k1 hz g1 o1 pv => ?_)
  have lenv : vs.length < scanBound := by rw [pv.length_eq, List.length_map, Array.length_toList]; exact hb
  have small : vs.length ≤ sizeLine := fits_of_scanBound lenv
  have rel : Vals ((vs.map keyV).map kV) vs := ent_vals fun v hv => by
    obtain ⟨e, he, q⟩ := List.mem_map.mp (pv.mem_iff.mp hv)
    obtain ⟨z, r, _⟩ := g e he
    exact ⟨z, by rw [← q]; exact r⟩
  have pk : (vs.map keyV).Perm k.keys := by
    have q := pv.map keyV
    rw [List.map_map] at q
    exact q.trans pm
  refine wpAny_bind (wpAny_newList ?_ small)
  have hoL : (s1.heap.push (PyProof.Rows.seqObj "list" vs.toArray 0)).get? s1.heap.objs.size = some (PyProof.Rows.seqObj "list" vs.toArray 0) := Heap.get?_push_size _ rfl
  have keep : ∀ b u (out : Array Value), s.heap.get? b = some u → (PyProof.Rows.sortedHeap (s1.heap.push (PyProof.Rows.seqObj "list" vs.toArray 0)) s1.heap.objs.size vs out).get? b = some u := fun b u out e => by
    have q := k1 b u e
    have hlt := Heap.lt_size q
    rw [PyProof.Rows.sortedHeap_old (Nat.ne_of_lt hlt) (by rw [PyProof.Rows.size_push']; exact Nat.lt_succ_of_lt hlt)]
    exact Heap.get?_push_of_some _ q
  cases k with
  | i ns =>
    obtain ⟨ys, e1, p1⟩ := perm_unmap (f := kInt) (g := unI) (fun _ => rfl) pk
    rw [e1] at rel
    have rel' : Vals (ys.map V.int) vs := by rw [List.map_map] at rel; exact rel
    refine wpAny_bind (wpAny_holding (wpAny_call_entry PyProof.Rows.slot_list_sort ⟨_, hoL, rfl⟩ PyProof.Rows.entry_list_sort
      (SrtO.list_sort_ord SrtO.swo_int hoL small (fun h2 => SrtO.ints_sortable rel'.ints h2) fun out h1 h2 => ⟨_, rfl, ?_⟩) (PyProof.Rows.args_list_sort _)))
    obtain ⟨c, hc⟩ := PyProof.Rows.sortedHeap_at (vs := vs) (out := out.toArray) hoL
    have ro := ints_out rel' h1 h2
    have e2 : isort ltI ys = isort ltI ns := isort_eq swoI totI ((isort_perm ys).trans p1) (isort_rising swoI ys)
    rw [e2] at ro
    refine wpAny_pure ⟨_, rfl, hQ _ s1.heap.objs.size out c (fun b u e => keep b u _ e) g1 o1 hz hc ro ?_⟩
    rw [← ro.length, List.length_map, (isort_perm ns).length_eq]
    rfl
  | s ss =>
    obtain ⟨ys, e1, p1⟩ := perm_unmap (f := kStr) (g := unS) (fun _ => rfl) pk
    rw [e1] at rel
    have rel' : Vals ((ys.map S0).map V.str) vs := by
      rw [List.map_map] at rel ⊢
      exact rel
    refine wpAny_bind (wpAny_holding (wpAny_call_entry PyProof.Rows.slot_list_sort ⟨_, hoL, rfl⟩ PyProof.Rows.entry_list_sort
      (SrtO.list_sort_ord swoS hoL small (fun h2 => strs_sortable (strsAre_of rel') h2) fun out h1 h2 => ⟨_, rfl, ?_⟩) (PyProof.Rows.args_list_sort _)))
    obtain ⟨c, hc⟩ := PyProof.Rows.sortedHeap_at (vs := vs) (out := out.toArray) hoL
    have ro := strs_out rel' h1 h2.perm
    have e2 : isort ltN ys = isort ltN ss := isort_eq swoN totN ((isort_perm ys).trans p1) (isort_rising swoN ys)
    rw [e2] at ro
    refine wpAny_pure ⟨_, rfl, hQ _ s1.heap.objs.size out c (fun b u e => keep b u _ e) g1 o1 hz hc ro ?_⟩
    rw [← ro.length, List.length_map, List.length_map, (isort_perm ss).length_eq]
    rfl
theorem len_setM {ks : List Key} {Q : Value → Shared → Prop} (R : SetM P w s.heap a ks) (h : Q (.int ks.length (s.toks + 1)) { s with toks := s.toks + 1 + 1 }) : wpAny (model P w) A (call (.builtin "len") [.ref a]) Q E s := by
  have hl := R.len
  obtain ⟨o, es, ep, t, ho, hex, hd, g, pm, nd, hb, hf, hr, hl2⟩ := R
  have e : es.size = ks.length := by
    have := pm.length_eq
    simpa using this
  rw [← e] at h
  refine call_len_set ho hex hd hf ?_ h
  have : scanBound = 4096 := rfl
  omega
end
/-! ### as they stand in the text -/
/-- the items -/
def skOf : D → Option SK
  | .str s => if s.length < 4000 then some (.s (s.map fun c => [c])) else none
  | .lst ds => if ds.length < 4000 then (match intsOf ds with
    | some ns => some (.i ns)
    | none => (strsOf ds).map .s) else none
  | _ => none
def sortSetR (d : D) : Res D := match skOf d with
  | some k => .ok (.lst k.nub.sorted)
  | none => .bad
def lenSetR (d : D) : Res D := match skOf d with
  | some k => .ok (.int (k.nub.len : Nat))
  | none => .bad
section
variable {X : Cx} {pins : List (Addr × Obj)} {σ : L2.St} {H F : Hp} {s : Shared}
/-- set(x) makes a set that is not tracked -/
theorem set_of {d : D} {v : V} {u : Value} {k : SK} {E : Value → Shared → Prop} {Q : Value → Shared → Prop} (I : Inv X pins σ H s) (sm : Same F H) (r : Rep X.K F d v) (ru : RelV v u) (hk : skOf d = some k) (hc : X.A.handled = none)
    (fin : ∀ (h' : Heap) (tk : Nat), SetM X.prog X.w h' s.heap.objs.size k.nub.keys → Inv X pins σ H { s with heap := h', toks := tk } → Q (.ref s.heap.objs.size) { s with heap := h', toks := tk }) :
    wpAny (model X.prog X.w) X.A (call (.type "set") [u]) Q E s := by
  rw [← SK.dedup] at fin
  have sb : scanBound = 4096 := rfl
  unfold skOf at hk
  cases d with
  | str z =>
    dsimp only at hk
    split at hk
    · cases hk
      obtain ⟨rfl, _⟩ := rep_str r
      obtain ⟨t, rfl⟩ := ru
      refine call_set_text (z := z) (t := t) _ hc (by simp [SK.keys, kStr]) ?_ fun h' tk R kp => fin h' tk R (I.kept kp)
      rw [show (SK.keys (.s (z.map fun c => [c]))).length = z.length by simp [SK.keys]]
      omega
    · cases hk
  | lst ds =>
    dsimp only at hk
    split at hk
    · rename_i hlen
      obtain ⟨a, vs, rfl, h1, h2, h3⟩ := rep_lst r
      cases ru
      obtain ⟨its, rv, pl, hz⟩ := I.list (SqL.of (K := X.K) (sm _ _ h1))
      cases q : intsOf ds with
      | some ns =>
        rw [q] at hk
        cases hk
        have := h2.ofInts q; subst this
        refine call_set_listK (SK.keys (.i ns)) hc pl.isList (by show Vals ((ns.map kInt).map kV) its; rw [List.map_map]; exact rv) ?_ fun h' tk R kp => fin h' tk R (I.kept kp)
        have := h2.length
        simp only [SK.keys, List.length_map] at this ⊢
        omega
      | none =>
        rw [q] at hk
        obtain ⟨ss, q2, rfl⟩ := Option.map_eq_some_iff.mp hk
        have := h2.ofStrs q2; subst this
        refine call_set_listK (SK.keys (.s ss)) hc pl.isList (by show Vals ((ss.map kStr).map kV) its; rw [List.map_map]; rw [List.map_map] at rv; exact rv) ?_ fun h' tk R kp => fin h' tk R (I.kept kp)
        have := h2.length
        simp only [SK.keys, List.length_map] at this ⊢
        omega
    · cases hk
  | _ => cases hk
variable {E : EX} {a : Expr} {fa : Env → Res D} {p p2 q pos : Pos}
theorem sk_sorted_ok {K : PySem.W.Frag} {F : Hp} {d : D} {v : V} {k : SK} (r : Rep K F d v) (hk : skOf d = some k) : Reps K F k.nub.sorted k.nub.vals ∧ k.nub.sorted.length ≤ sizeLine := by
  have big : (4000 : Nat) ≤ sizeLine := by rw [PySem.sizeLine_eq]; decide
  have mem : ∀ {α : Type} [DecidableEq α] (xs : List α) (x : α), x ∈ DL.nub xs → x ∈ xs := by
    intro α _ xs x
    have go : ∀ (xs acc : List α), x ∈ xs.foldl (fun acc x => if x ∈ acc then acc else x :: acc) acc → x ∈ acc ∨ x ∈ xs := by
      intro xs
      induction xs with
      | nil => exact fun acc h => .inl h
      | cons y ys ih =>
        intro acc h
        rw [List.foldl_cons] at h
        rcases ih _ h with z | z
        · split at z
          · exact .inl z
          · rcases List.mem_cons.mp z with e | e
            · exact .inr (by rw [e]; exact List.mem_cons_self)
            · exact .inl e
        · exact .inr (List.mem_cons_of_mem _ z)
    exact fun h => (go xs [] h).resolve_left (by simp)
  unfold skOf at hk
  cases d with
  | str z =>
    dsimp only at hk
    split at hk
    · rename_i hl
      cases hk
      obtain ⟨_, h1, h2⟩ := rep_str r
      refine ⟨reps_strs fun t ht => ?_, ?_⟩
      · obtain ⟨c, hc, rfl⟩ := List.mem_map.mp (mem _ _ ((isort_perm _).mem_iff.mp ht))
        refine ⟨?_, Nat.le_trans (show 1 ≤ 4000 by decide) big⟩
        rw [List.all_cons, List.all_nil, Bool.and_true]
        exact List.all_eq_true.mp h1 c hc
      · have := nub_len (z.map fun c => [c]) []
        simp only [SK.nub, SK.sorted, List.length_map, (isort_perm _).length_eq]
        unfold DL.nub
        simp only [List.length_nil, List.length_map] at this
        omega
    · cases hk
  | lst ds =>
    dsimp only at hk
    split at hk
    · rename_i hl
      obtain ⟨a, vs, _, h1, h2, h3⟩ := rep_lst r
      cases q : intsOf ds with
      | some ns =>
        rw [q] at hk
        cases hk
        refine ⟨reps_ints _, ?_⟩
        have := nub_len ns []
        have e := ints_D q
        rw [e, List.length_map] at hl
        simp only [SK.nub, SK.sorted, List.length_map, (isort_perm _).length_eq]
        unfold DL.nub
        simp only [List.length_nil] at this
        omega
      | none =>
        rw [q] at hk
        obtain ⟨ss, q2, rfl⟩ := Option.map_eq_some_iff.mp hk
        have e := strs_D q2
        subst e
        have ok := strs_ok h2
        refine ⟨reps_strs fun t ht => ok t (mem _ _ ((isort_perm _).mem_iff.mp ht)), ?_⟩
        have := nub_len ss []
        rw [List.length_map] at hl
        simp only [SK.nub, SK.sorted, List.length_map, (isort_perm _).length_eq]
        unfold DL.nub
        simp only [List.length_nil] at this
        omega
    · cases hk
  | _ => cases hk
theorem df_sortset (hc : X.calm = true) (hg : Gl X "sorted") (hm : X.mg "sorted" = none) (hg2 : Gl X "set") (hm2 : X.mg "set" = none) (ha : DE X E a fa) (na : starEach [a] X.env = (false, eval a X.env) :: starEach [] X.env) :
    DF X E (.Call (.Name "sorted" p) [.Call (.Name "set" p2) [a] [] q] [] pos) (fun ρ => (fa ρ).bind sortSetR) := by
  refine ⟨fun pins s σ H Q I h => PyProof.Rows.Call_ (ld_blt I hg hm (show bootBuiltins "sorted" = some (.builtin "sorted") by decide +kernel) (PyProof.Rows.callWith_builtin1 (PyProof.Rows.args_cons (PyProof.Rows.Call_ (ld_blt I hg2 hm2 PyProof.Rows.boot_set (PyProof.Rows.callWith_type1 (PyProof.Rows.args_cons ?_ na) na rfl))) rfl) rfl rfl))⟩
  obtain ⟨F, ρ, sm, re, qq⟩ := h
  refine thn (ha.run pins s σ H _ I ⟨F, ρ, sm, re, RW.imp (RW.bind qq) (fun d hd v F1 H1 e1 r1 => (⟨d, F1, e1, r1, hd⟩ : ∃ d F1, Ext F H F1 H1 ∧ Rep X.K F1 d v ∧ RW (sortSetR d) _ _)) fun _ z => z⟩) fun u s1 ⟨v, H1, I1, ru, d, F1, e1, r1, hd⟩ => PyProof.Rows.args_nil ?_
  unfold sortSetR at hd
  cases hk : skOf d with
  | none => rw [hk] at hd; exact hd.elim
  | some k =>
    rw [hk] at hd
    have hh : X.A.handled = none := I1.ok.hd hc
    refine set_of I1 e1.sub r1 ru hk hh fun h' tk R I2 => PyProof.Rows.args_nil ?_
    obtain ⟨rs, rl⟩ := sk_sorted_ok r1 hk
    have R' : SetM X.prog X.w ({ s1 with heap := h', toks := tk } : Shared).heap s1.heap.objs.size k.nub.keys := R
    generalize ({ s1 with heap := h', toks := tk } : Shared) = s2 at R' I2 ⊢
    refine sorted_setM R' hh fun s' p out c kp g o hp hg' ro _ => ?_
    have hn : H1 p = none := I2.hok.fresh hp
    have lenV : k.nub.vals.length ≤ sizeLine := by rw [rs.length]; exact rl
    have J : Inv X pins σ (upd H1 p (.lst k.nub.vals)) { s2 with heap := s'.heap, gens := s'.gens, drawn := s'.drawn, toks := s'.toks } :=
      I2.call (ch := []) (Un.laid kp hp hn) (I2.hok.laid kp hp ⟨lenV, out, c, ro, hg'⟩) (by rw [g]; exact I2.bare) (fun _ z => nomatch z)
    have e : s' = { s2 with heap := s'.heap, gens := s'.gens, drawn := s'.drawn, toks := s'.toks } := by
      cases s'
      cases s2
      cases o
      rfl
    rw [e]
    refine ⟨.ref p, _, J, rfl, ?_⟩
    exact hd p F1 _ (e1.trans (Ext.loose _ e1.sub hn)) (Same.free e1.same hn) (Same.free e1.sub hn) ⟨_, upd_same, rs, rl⟩
theorem de_lenset (hc : X.calm = true) (hg : Gl X "len") (hm : X.mg "len" = none) (hg2 : Gl X "set") (hm2 : X.mg "set" = none) (ha : DE X E a fa) (na : starEach [a] X.env = (false, eval a X.env) :: starEach [] X.env) :
    DE X E (.Call (.Name "len" p) [.Call (.Name "set" p2) [a] [] q] [] pos) (fun ρ => (fa ρ).bind lenSetR) := by
  refine ⟨fun pins s σ H Q I h => PyProof.Rows.Call_ (ld_blt I hg hm boot_len (PyProof.Rows.callWith_builtin1 (PyProof.Rows.args_cons (PyProof.Rows.Call_ (ld_blt I hg2 hm2 PyProof.Rows.boot_set (PyProof.Rows.callWith_type1 (PyProof.Rows.args_cons ?_ na) na rfl))) rfl) rfl rfl))⟩
  obtain ⟨F, ρ, sm, re, qq⟩ := h
  refine thn (ha.run pins s σ H _ I ⟨F, ρ, sm, re, RW.imp (RW.bind qq) (fun d hd v F1 H1 e1 r1 => (⟨d, F1, e1, r1, hd⟩ : ∃ d F1, Ext F H F1 H1 ∧ Rep X.K F1 d v ∧ RW (lenSetR d) _ _)) fun _ z => z⟩) fun u s1 ⟨v, H1, I1, ru, d, F1, e1, r1, hd⟩ => PyProof.Rows.args_nil ?_
  unfold lenSetR at hd
  cases hk : skOf d with
  | none => rw [hk] at hd; exact hd.elim
  | some k =>
    rw [hk] at hd
    refine set_of I1 e1.sub r1 ru hk (I1.ok.hd hc) fun h' tk R I2 => PyProof.Rows.args_nil ?_
    refine len_setM R ⟨.int k.nub.keys.length, H1, I2.tok _, ⟨_, rfl⟩, ?_⟩
    have e : k.nub.keys.length = k.nub.len := by cases k <;> simp [SK.nub, SK.keys, SK.len]
    rw [e]
    exact hd _ F1 H1 e1 mk_int
end
end DL
/-! The data layer, E: stores in dicts, dict(..), join. -/
namespace DL
open PySem PySem.Spec L2

/-! ### the pairs of a dict, changed -/
def hasD (kvs : List (D × D)) (k : D) : Bool := kvs.any fun p => eqD p.1 k
def putD (kvs : List (D × D)) (k v : D) : List (D × D) := if hasD kvs k = true then kvs.map (fun p => if eqD p.1 k = true then (p.1, v) else p) else kvs ++ [(k, v)]
def dropD (kvs : List (D × D)) (k : D) : List (D × D) := kvs.filter fun p => !eqD p.1 k
section
variable {K : PySem.W.Frag} {F : Hp}
theorem RepK.any : ∀ {kvs : List (D × D)} {hk : List (Key × V)} {d : D} {k : Key}, RepK K F kvs hk → Rep K F d (kV k) → hasD kvs d = hk.any fun p => decide (p.1 = k)
  | [], hk, d, k, h, hd => by
    simp only [RepK] at h; subst h; rfl
  | (kd, x) :: kvs, hk, d, k, h, hd => by
    simp only [RepK] at h
    obtain ⟨k', v, r, rfl, h1, h2⟩ := h
    simp only [RepKV] at h1
    have e := key_eq h1.1 hd
    have e2 := RepK.any h2 hd
    unfold hasD at e2 ⊢
    rw [List.any_cons, List.any_cons, e2, e]
theorem RepK.append : ∀ {kvs es : List (D × D)} {hk hl : List (Key × V)}, RepK K F kvs hk → RepK K F es hl → RepK K F (kvs ++ es) (hk ++ hl)
  | [], es, hk, hl, h, h' => by simp only [RepK] at h; subst h; exact h'
  | kv :: kvs, es, hk, hl, h, h' => by
    simp only [RepK] at h
    obtain ⟨k', v, r, rfl, h1, h2⟩ := h
    rw [List.cons_append, List.cons_append]
    simp only [RepK]
    exact ⟨k', v, _, rfl, h1, RepK.append h2 h'⟩
theorem RepK.one {d x : D} {k : Key} {v : V} (hd : Rep K F d (kV k)) (hx : Rep K F x v) : RepK K F [(d, x)] [(k, v)] := by
  simp only [RepK]
  exact ⟨k, v, [], rfl, by simp only [RepKV]; exact ⟨hd, hx⟩, rfl⟩
theorem RepK.over : ∀ {kvs : List (D × D)} {hk : List (Key × V)} {d x : D} {k : Key} {v : V}, RepK K F kvs hk → Rep K F d (kV k) → Rep K F x v →
    RepK K F (kvs.map fun p => if eqD p.1 d = true then (p.1, x) else p) (hk.map fun p => if p.1 = k then (p.1, v) else p)
  | [], hk, d, x, k, v, h, hd, hx => by simp only [RepK] at h; subst h; simp only [List.map_nil, RepK]
  | (kd, y) :: kvs, hk, d, x, k, v, h, hd, hx => by
    simp only [RepK] at h
    obtain ⟨k', w, r, rfl, h1, h2⟩ := h
    rw [List.map_cons, List.map_cons]
    simp only [RepK]
    simp only [RepKV] at h1
    have e := key_eq h1.1 hd
    by_cases hk' : k' = k
    · rw [if_pos (show eqD (kd, y).1 d = true by rw [e]; exact decide_eq_true hk'), if_pos (show ((k', w) : Key × V).1 = k from hk')]
      exact ⟨k', v, _, rfl, by simp only [RepKV]; exact ⟨h1.1, hx⟩, RepK.over h2 hd hx⟩
    · rw [if_neg (show ¬ eqD (kd, y).1 d = true by rw [e]; simpa using hk'), if_neg (show ¬ ((k', w) : Key × V).1 = k from hk')]
      exact ⟨k', w, _, rfl, by simp only [RepKV]; exact h1, RepK.over h2 hd hx⟩
theorem RepK.put {kvs : List (D × D)} {hk : List (Key × V)} {d x : D} {k : Key} {v : V} (h : RepK K F kvs hk) (hd : Rep K F d (kV k)) (hx : Rep K F x v) : RepK K F (putD kvs d x) (putK hk k v) := by
  unfold putD putK
  rw [RepK.any h hd]
  split
  · exact RepK.over h hd hx
  · exact h.append (RepK.one hd hx)
theorem RepK.drop : ∀ {kvs : List (D × D)} {hk : List (Key × V)} {d : D} {k : Key}, RepK K F kvs hk → Rep K F d (kV k) → RepK K F (dropD kvs d) (dropK hk k)
  | [], hk, d, k, h, hd => by simp only [RepK] at h; subst h; simp only [dropD, dropK, List.filter_nil, RepK]
  | (kd, y) :: kvs, hk, d, k, h, hd => by
    simp only [RepK] at h
    obtain ⟨k', w, r, rfl, h1, h2⟩ := h
    have i := RepK.drop h2 hd
    simp only [RepKV] at h1
    have e := key_eq h1.1 hd
    unfold dropD dropK at i ⊢
    rw [List.filter_cons, List.filter_cons]
    by_cases hk' : k' = k
    · rw [if_neg (show ¬ (!eqD (kd, y).1 d) = true by rw [e]; simp [hk']), if_neg (show ¬ decide (((k', w) : Key × V).1 ≠ k) = true by simp [hk'])]
      exact i
    · rw [if_pos (show (!eqD (kd, y).1 d) = true by rw [e]; simp [hk']), if_pos (show decide (((k', w) : Key × V).1 ≠ k) = true by simp [hk'])]
      simp only [RepK]
      exact ⟨k', w, _, rfl, by simp only [RepKV]; exact h1, i⟩
theorem tkey_eq {d e : D} {k j : List Key} (h : RepTK K F d k) (h' : RepTK K F e j) : eqD d e = decide (k = j) := by
  cases d with
  | tup a =>
    cases e with
    | tup b =>
      simp only [RepTK] at h h'
      simp only [eqD]
      exact keys_eq h.1 h'.1
    | _ => simp only [RepTK] at h'
  | _ => simp only [RepTK] at h
theorem RepT.any : ∀ {kvs : List (D × D)} {hk : List (List Key × V)} {d : D} {k : List Key}, RepT K F kvs hk → RepTK K F d k → hasD kvs d = hk.any fun p => decide (p.1 = k)
  | [], hk, d, k, h, hd => by
    simp only [RepT] at h; subst h; rfl
  | (kd, x) :: kvs, hk, d, k, h, hd => by
    simp only [RepT] at h
    obtain ⟨k', v, r, rfl, h1, h2⟩ := h
    simp only [RepTV] at h1
    have e := tkey_eq h1.1 hd
    have e2 := RepT.any h2 hd
    unfold hasD at e2 ⊢
    rw [List.any_cons, List.any_cons, e2, e]
theorem RepT.append : ∀ {kvs es : List (D × D)} {hk hl : List (List Key × V)}, RepT K F kvs hk → RepT K F es hl → RepT K F (kvs ++ es) (hk ++ hl)
  | [], es, hk, hl, h, h' => by simp only [RepT] at h; subst h; exact h'
  | kv :: kvs, es, hk, hl, h, h' => by
    simp only [RepT] at h
    obtain ⟨k', v, r, rfl, h1, h2⟩ := h
    rw [List.cons_append, List.cons_append]
    simp only [RepT]
    exact ⟨k', v, _, rfl, h1, RepT.append h2 h'⟩
theorem RepT.one {d x : D} {k : List Key} {v : V} (hd : RepTK K F d k) (hx : Rep K F x v) : RepT K F [(d, x)] [(k, v)] := by
  simp only [RepT]
  exact ⟨k, v, [], rfl, by simp only [RepTV]; exact ⟨hd, hx⟩, rfl⟩
theorem RepT.over : ∀ {kvs : List (D × D)} {hk : List (List Key × V)} {d x : D} {k : List Key} {v : V}, RepT K F kvs hk → RepTK K F d k → Rep K F x v →
    RepT K F (kvs.map fun p => if eqD p.1 d = true then (p.1, x) else p) (hk.map fun p => if p.1 = k then (p.1, v) else p)
  | [], hk, d, x, k, v, h, hd, hx => by simp only [RepT] at h; subst h; simp only [List.map_nil, RepT]
  | (kd, y) :: kvs, hk, d, x, k, v, h, hd, hx => by
    simp only [RepT] at h
    obtain ⟨k', w, r, rfl, h1, h2⟩ := h
    rw [List.map_cons, List.map_cons]
    simp only [RepT]
    simp only [RepTV] at h1
    have e := tkey_eq h1.1 hd
    by_cases hk' : k' = k
    · rw [if_pos (show eqD (kd, y).1 d = true by rw [e]; exact decide_eq_true hk'), if_pos (show ((k', w) : List Key × V).1 = k from hk')]
      exact ⟨k', v, _, rfl, by simp only [RepTV]; exact ⟨h1.1, hx⟩, RepT.over h2 hd hx⟩
    · rw [if_neg (show ¬ eqD (kd, y).1 d = true by rw [e]; simpa using hk'), if_neg (show ¬ ((k', w) : List Key × V).1 = k from hk')]
      exact ⟨k', w, _, rfl, by simp only [RepTV]; exact h1, RepT.over h2 hd hx⟩
theorem RepT.put {kvs : List (D × D)} {hk : List (List Key × V)} {d x : D} {k : List Key} {v : V} (h : RepT K F kvs hk) (hd : RepTK K F d k) (hx : Rep K F x v) : RepT K F (putD kvs d x) (putK hk k v) := by
  unfold putD putK
  rw [RepT.any h hd]
  split
  · exact RepT.over h hd hx
  · exact h.append (RepT.one hd hx)
end
theorem putD_length (kvs : List (D × D)) (k v : D) : (putD kvs k v).length ≤ kvs.length + 1 := by
  unfold putD
  split <;> simp
theorem dropD_length (kvs : List (D × D)) (k : D) : (dropD kvs k).length ≤ kvs.length := List.length_filter_le ..
/-- one behind another -/
def mergeD (kvs : List (D × D)) (more : List (D × D)) : List (D × D) := more.foldl (fun acc p => putD acc p.1 p.2) kvs
theorem mergeD_length : ∀ (more kvs : List (D × D)), (mergeD kvs more).length ≤ kvs.length + more.length
  | [], kvs => Nat.le_refl _
  | p :: more, kvs => by
    have h1 := mergeD_length more (putD kvs p.1 p.2)
    have h2 := putD_length kvs p.1 p.2
    simp only [mergeD, List.foldl_cons, List.length_cons] at h1 ⊢
    omega
theorem RepK.merge {K : PySem.W.Frag} {F : Hp} : ∀ {more : List (D × D)} {hm : List (Key × V)} {kvs : List (D × D)} {hk : List (Key × V)}, RepK K F more hm → RepK K F kvs hk → RepK K F (mergeD kvs more) (mergeK hk hm)
  | [], hm, kvs, hk, h, h' => by simp only [RepK] at h; subst h; exact h'
  | (d, x) :: more, hm, kvs, hk, h, h' => by
    simp only [RepK] at h
    obtain ⟨k, v, r, rfl, h1, h2⟩ := h
    simp only [RepKV] at h1
    show RepK K F (mergeD (putD kvs d x) more) (mergeK (putK hk k v) r)
    exact RepK.merge h2 (h'.put h1.1 h1.2)
/-! ### dict(..) -/
/-- the pairs of a list of pairs -/
def pairsD : List D → Option (List (D × D))
  | [] => some []
  | .tup [k, v] :: r => if key0 k = true then (pairsD r).map ((k, v) :: ·) else none
  | _ :: _ => none
def dictR : List D → Res D
  | [.dic false kvs] => .ok (.dic false kvs)
  | [.lst ds] => (match pairsD ds with
    | some ps => .ok (.dic false (mergeD [] ps))
    | none => .bad)
  | [.tup ds] => if tabB ds = true then (match pairsD ds with
    | some ps => .ok (.dic false (mergeD [] ps))
    | none => .bad) else .bad
  | _ => .bad
theorem nox_dict : NoXC dictR := by intro ds c h; unfold dictR at h; split at h <;> (try split at h) <;> (try split at h) <;> cases h
def rDictZ (K : PySem.W.Frag) : List V → Hp → VK → Prop := fun xs H Q =>
  (∃ (a : Addr) (kvs : List (Key × V)), xs = [.ref a] ∧ Rd H a (.dK kvs) ∧ ∀ p, H p = none → Q (.ref p) (upd H p (.dK kvs))) ∨
  ∃ (a : Addr) (ps : List Addr) (kvs : List (Key × V)), xs = [.ref a] ∧ (SqL K H a (ps.map V.ref) ∨ ∃ o, H a = some (.frz o (.tup (ps.map V.ref))) ∧ o.dict = none) ∧ Paired (fun p kv => SqT K H p [kV kv.1, kv.2]) ps kvs ∧
    ∀ p, H p = none → Q (.ref p) (upd H p (.dK (mergeK [] kvs)))
section
variable {K : PySem.W.Frag} {F : Hp}
theorem pairs_rep : ∀ {ds : List D} {ps : List (D × D)} {vs : List V}, pairsD ds = some ps → Reps K F ds vs → ∃ (as : List Addr) (kvs : List (Key × V)), vs = as.map V.ref ∧ RepK K F ps kvs ∧ ∀ {H : Hp}, Same F H → Paired (fun p kv => SqT K H p [kV kv.1, kv.2]) as kvs
  | [], ps, vs, h, r => by
    cases h
    have := r.nil_eq; subst this
    exact ⟨[], [], rfl, by simp only [RepK], fun _ => .nil⟩
  | d :: ds, ps, vs, h, r => by
    unfold pairsD at h
    split at h
    · rename_i he; cases he
    · rename_i k v ds' he
      cases he
      split at h
      · rename_i hk
        obtain ⟨qs, hq, rfl⟩ := Option.map_eq_some_iff.mp h
        obtain ⟨w, r', rfl, r1, r2⟩ := r.uncons
        obtain ⟨as, kvs, rfl, i1, i2⟩ := pairs_rep hq r2
        obtain ⟨a, us, rfl, h1, h2, _⟩ := rep_tup r1
        obtain ⟨u1, u2, rfl, g1, g2⟩ := h2.two
        obtain ⟨kk, rfl⟩ := rep_key0 hk g1
        refine ⟨a :: as, (kk, u2) :: kvs, rfl, ?_, fun s => .cons (h1.sq s) (i2 s)⟩
        simp only [RepK]
        exact ⟨kk, u2, kvs, rfl, by simp only [RepKV]; exact ⟨g1, g2⟩, i1⟩
      · cases h
    · cases h
theorem GoodF.dic {H : Hp} {kvs : List (D × D)} {hk : List (Key × V)} {Q : VK} {p : Addr} (s : Same F H) (h : H p = none) (r : RepK K F kvs hk) (hl : kvs.length ≤ sizeLine) (k : ∀ p F' H', Ext F H F' H' → H p = none → F' p = none → OwnAt K F' H' p (.dic false kvs) → Q (.ref p) H') : Q (.ref p) (upd H p (.dK hk)) :=
  k p F _ (Ext.loose _ s h) h (Same.free s h) ⟨hk, upd_same, r, hl⟩
theorem pairsD_len : ∀ {ds : List D} {ps : List (D × D)}, pairsD ds = some ps → ps.length = ds.length
  | [], ps, h => by cases h; rfl
  | d :: ds, ps, h => by
    unfold pairsD at h
    split at h
    · rename_i he; cases he
    · rename_i k v ds' he
      cases he
      split at h
      · obtain ⟨qs, hq, rfl⟩ := Option.map_eq_some_iff.mp h
        simp [pairsD_len hq]
      · cases h
    · cases h
theorem good_dict : GoodF K (rDictZ K) dictR := by
  intro F H ds vs Q s r d e k
  unfold dictR at e
  split at e
  · rename_i kvs
    cases e
    obtain ⟨v, rfl, r1⟩ := r.one
    simp only [Rep] at r1
    obtain ⟨a, o, rfl, h1, hk, h2, h3⟩ := r1
    exact .inl ⟨a, hk, rfl, .inr ⟨o, s _ _ h2⟩, fun p hp => GoodF.dic s hp h3 h1 k⟩
  · rename_i xs
    split at e
    · rename_i ps hq
      cases e
      obtain ⟨v, rfl, r1⟩ := r.one
      obtain ⟨a, vs, rfl, h1, h2, h3⟩ := rep_lst r1
      obtain ⟨as, kvs, rfl, i1, i2⟩ := pairs_rep hq h2
      refine .inr ⟨a, as, kvs, rfl, .inl (SqL.of (s _ _ h1)), i2 s, fun p hp => GoodF.dic s hp (RepK.merge i1 (by simp only [RepK])) ?_ k⟩
      have := mergeD_length ps []
      rw [pairsD_len hq] at this
      exact Nat.le_trans this (by simpa using h3)
    · cases e
  · rename_i xs
    split at e
    · rename_i ht
      split at e
      · rename_i ps hq
        cases e
        obtain ⟨v, rfl, r1⟩ := r.one
        obtain ⟨a, vs, rfl, h1, h2, h3⟩ := rep_tup r1
        obtain ⟨as, kvs, rfl, i1, i2⟩ := pairs_rep hq h2
        have h1' := h1.mono s
        unfold TupF at h1'
        rw [if_pos ht] at h1'
        refine .inr ⟨a, as, kvs, rfl, .inr h1', i2 s, fun p hp => GoodF.dic s hp (RepK.merge i1 (by simp only [RepK])) ?_ k⟩
        have := mergeD_length ps []
        rw [pairsD_len hq] at this
        exact Nat.le_trans this (by simpa using h3)
      · cases e
    · cases e
  · cases e
end
section
variable {X : Cx}
theorem list_of {α : Type} : ∀ (n : Nat) (P : Nat → α → Prop), (∀ j, j < n → ∃ x, P j x) → ∃ l : List α, l.length = n ∧ ∀ j x, l[j]? = some x → P j x
  | 0, P, h => ⟨[], rfl, fun j x e => by simp at e⟩
  | n + 1, P, h => by
    obtain ⟨x, hx⟩ := h 0 (Nat.zero_lt_succ n)
    obtain ⟨l, h1, h2⟩ := list_of n (fun j => P (j + 1)) fun j hj => h (j + 1) (Nat.succ_lt_succ hj)
    refine ⟨x :: l, by simp [h1], fun j y e => ?_⟩
    cases j with
    | zero => simp at e; subst e; exact hx
    | succ j => exact h2 j y (by simpa using e)
/-- dict(t) of a tuple of pairs, whose object is plain -/
theorem call_dictZ (hcalm : X.calm = true) : CallR X (.type "dict") (rDictZ X.K) := by
  intro pins s σ H xs us Q I r h
  rcases h with ⟨a, kvs, e, h1, h2⟩ | ⟨a, ps, kvs, e, h1, hp, q⟩
  · exact call_dictD pins s σ H xs us Q I r ⟨a, kvs, e, h1, h2⟩
  rcases h1 with h1 | ⟨o, h1, hd⟩
  · exact call_dictP hcalm pins s σ H xs us Q I r ⟨a, ps, kvs, e, h1, hp, q⟩
  subst e
  obtain ⟨u, rfl, rx⟩ := vals1 r
  cases rx
  obtain ⟨hg, hz, its, rv, p⟩ := I.hok a _ h1
  obtain ⟨o', ho, hc, n, hdat⟩ := p
  rw [hg] at ho; cases ho
  have ei := refs_at rv
  subst ei
  rw [List.length_map] at hz
  obtain ⟨prs, rel, hl, hpr⟩ := pairs_of I hp
  -- the pairs as values
  obtain ⟨pv, l1, l2⟩ := list_of (α := Value × Value) prs.length (fun j z => ∃ (b : Addr) (k : Key), ps[j]? = some b ∧ prs[j]? = some (k, z.2) ∧ PyProof.Rows.IsTup s.heap b #[z.1, z.2] ∧ keyIs k z.1 = true) fun j hj => by
    obtain ⟨b, u, e1, e2, e3⟩ := hpr j prs[j] (List.getElem?_eq_getElem hj)
    exact ⟨(u, prs[j].2), b, prs[j].1, e1, List.getElem?_eq_getElem hj, e2, e3⟩
  have P := PySem.PairArg.tuple (prog := X.prog) (w := X.w) a (ps.map Value.ref).toArray (fun j => ps.getD j 0) pv
  refine PySem.call_dict_pairs (knd := mixKind X.prog X.w) (kvs := prs) P (I.ok.hd hcalm) ⟨⟨o, n, hg, hc, hd, hdat⟩, ?_, fun j k v e => ?_⟩ ⟨l1.symm, fun i k v e => ?_⟩ ?_ fun h' tk hd' hk => ?_
  · simp [l1, hl]
  · obtain ⟨b, kk, e1, e2, e3, e4⟩ := l2 j _ e
    have eb : ps.getD j 0 = b := by rw [List.getD_eq_getElem?_getD, e1]; rfl
    refine ⟨?_, .inl ?_⟩
    · simp [e1]
    · show PyProof.Rows.IsTup s.heap (ps.getD j 0) #[k, v]
      rw [eb]
      exact e3
  · obtain ⟨b, kk, e1, e2, e3, e4⟩ := l2 i _ e
    exact ⟨kk, e2, e4⟩
  · rw [l1, hl]; exact hz
  · have hm : (s.heap.objs.size == sysModules) = false := beq_eq_false_iff_ne.mpr (Nat.ne_of_gt I.big)
    have hlen : (mergeK [] kvs).length ≤ sizeLine := by
      have := length_mergeK kvs []
      rw [List.length_nil, Nat.zero_add, rel.length, hl] at this
      exact Nat.le_trans this hz
    refine ⟨.ref s.heap.objs.size, upd H s.heap.objs.size (.dK (mergeK [] kvs)), I.laid (t' := tk) (fun b o e => hk b o (fun z => nomatch z) e) (Nat.le_refl _) ?_, rfl, q _ (I.hok.fresh (Nat.le_refl _))⟩
    exact ⟨hlen, hm, merged [] prs, KV.merge rel .nil, hd'⟩
end
end DL
/-! The data layer, F: join, max over pairs, sorted(d), isinstance with two types. -/
namespace DL
open PySem PySem.Spec L2
open PySem.W (AlikeAll maxD alike dataLt)

/-! ### join -/
def joinD (a : List Nat) (ds : List D) : Res D := match strsOf ds with
  | some zs => if (zs.map (·.length)).sum + zs.length * a.length ≤ 16777216 then .ok (.str (TL.joinL a zs)) else .bad
  | none => .bad
def joinS : D → List D → Res D
  | .str a, [.lst ds] => joinD a ds
  | .str a, [.tup ds] => joinD a ds
  | _, _ => .bad
theorem joinD_nox {a : List Nat} {ds : List D} {c : Str} : joinD a ds ≠ .exc c := by
  unfold joinD
  split
  · split <;> intro h <;> cases h
  · intro h; cases h
theorem nox_joinS : NoXM joinS := by
  intro x ds c h
  unfold joinS at h
  split at h
  · exact joinD_nox h
  · exact joinD_nox h
  · cases h
theorem joinL_all {a : List Nat} (ha : a.all (· < 0x110000) = true) : ∀ {zs : List (List Nat)}, (∀ z ∈ zs, z.all (· < 0x110000) = true) → (TL.joinL a zs).all (· < 0x110000) = true
  | [], _ => rfl
  | [p], h => h p (by simp)
  | p :: q :: r, h => by
    simp only [TL.joinL, List.all_append, Bool.and_eq_true]
    exact ⟨h p (by simp), ha, joinL_all ha fun z hz => h z (List.mem_cons_of_mem _ hz)⟩
theorem joinL_len {a : List Nat} : ∀ {zs : List (List Nat)}, (TL.joinL a zs).length ≤ (zs.map (·.length)).sum + zs.length * a.length
  | [] => Nat.zero_le _
  | [p] => by simp [TL.joinL]
  | p :: q :: r => by
    have := joinL_len (a := a) (zs := q :: r)
    have e : (p :: q :: r).length * a.length = (q :: r).length * a.length + a.length := by rw [List.length_cons, Nat.succ_mul]
    simp only [TL.joinL, List.length_append]
    rw [List.map_cons, List.sum_cons, e]
    omega
theorem good_joinS {K : PySem.W.Frag} : GoodM K (fun x xs H Q => ∃ a p, ∃ ys : List Str, x = .str a ∧ xs = [.ref p] ∧ (SqL K H p (ys.map V.str) ∨ SqT K H p (ys.map V.str)) ∧ (ys.map (·.length)).sum + ys.length * a.length ≤ 16777216 ∧ Q (.str (Txt.join a ys)) H) joinS := by
  intro F H x v ds vs Q s rx rs d e k
  have fin : ∀ (a : List Nat) (xs : List D) (ws : List V) (p : Addr), a.all (· < 0x110000) = true → Reps K F xs ws → joinD a xs = .ok d → (SqL K H p ws ∨ SqT K H p ws) →
      ∃ b q, ∃ ys : List Str, V.str (S0 a) = .str b ∧ [V.ref p] = [.ref q] ∧ (SqL K H q (ys.map V.str) ∨ SqT K H q (ys.map V.str)) ∧ (ys.map (·.length)).sum + ys.length * b.length ≤ 16777216 ∧ Q (.str (Txt.join b ys)) H := by
    intro a xs ws p ha r e hq
    unfold joinD at e
    cases q : strsOf xs with
    | none => rw [q] at e; cases e
    | some zs =>
      rw [q] at e
      dsimp only at e
      split at e
      · rename_i hs
        cases e
        have := r.ofStrs q; subst this
        have e3 := strs_D q
        subst e3
        have ok := strs_ok r
        have el : ((zs.map S0).map (·.length)).sum + (zs.map S0).length * (S0 a).length = (zs.map (·.length)).sum + zs.length * a.length := by
          rw [List.map_map, List.length_map, S0_len]
          have : ((fun x : Str => x.length) ∘ S0) = fun z : List Nat => z.length := by funext z; exact S0_len z
          rw [this]
        refine ⟨S0 a, p, zs.map S0, rfl, rfl, hq, by rw [el]; exact hs, ?_⟩
        have e1 : Txt.join (S0 a) (zs.map S0) = S0 (TL.joinL a zs) := SX.join_S a zs
        rw [e1]
        exact k _ F H (Ext.refl s) (mk_str (joinL_all ha fun z hz => (ok z hz).1) (sz (Nat.le_trans joinL_len hs)))
      · cases e
  unfold joinS at e
  split at e
  · rename_i a xs
    obtain ⟨rfl, h1, _⟩ := rep_str rx
    obtain ⟨v, rfl, r1⟩ := rs.one
    obtain ⟨p, ws, rfl, g1, g2, g3⟩ := rep_lst r1
    exact fin a xs ws p h1 g2 e (.inl (SqL.of (s _ _ g1)))
  · rename_i a xs
    obtain ⟨rfl, h1, _⟩ := rep_str rx
    obtain ⟨v, rfl, r1⟩ := rs.one
    obtain ⟨p, ws, rfl, g1, g2, g3⟩ := rep_tup r1
    exact fin a xs ws p h1 g2 e (.inr (g1.sq s))
  · cases e

/-! ### plain data are told apart by their Python data -/
mutual
theorem toPy_inj : ∀ (n m : Nat) (d e : D), plain n d = true → plain m e = true → toPy d = toPy e → d = e
  | _, m, .non, e, _, h, q => by
    cases e <;> simp only [toPy] at q <;> first | rfl | (cases q; done) | (cases m <;> simp [plain] at h)
  | _, _, .bl b, e, _, h, q => by
    cases e <;> simp only [toPy] at q <;> first | (cases q; rfl) | cases q
  | _, _, .int b, e, _, h, q => by
    cases e <;> simp only [toPy] at q <;> first | (cases q; rfl) | cases q
  | _, _, .str b, e, _, h, q => by
    cases e <;> simp only [toPy] at q <;> first | (injection q with q; rw [S0_inj q]) | cases q
  | n + 1, m, .tup xs, e, g, h, q => by
    cases e <;> simp only [toPy] at q <;> first | cases q; done | skip
    cases m with
    | zero => simp [plain] at h
    | succ m =>
      rename_i ys
      injection q with q
      simp only [plain] at g h
      rw [toPys_inj n m xs ys g h q]
  | n + 1, m, .lst xs, e, g, h, q => by
    cases e <;> simp only [toPy] at q <;> first | cases q; done | skip
    cases m with
    | zero => simp [plain] at h
    | succ m =>
      rename_i ys
      injection q with q
      simp only [plain] at g h
      rw [toPys_inj n m xs ys g h q]
  | 0, _, .tup xs, e, g, _, _ => by simp [plain] at g
  | 0, _, .lst xs, e, g, _, _ => by simp [plain] at g
  | n, _, .dic _ _, e, g, _, _ => by cases n <;> simp [plain] at g
  | n, _, .exc _, e, g, _, _ => by cases n <;> simp [plain] at g
  | n, _, .scr _, e, g, _, _ => by cases n <;> simp [plain] at g
theorem toPys_inj : ∀ (n m : Nat) (ds es : List D), ds.all (plain n) = true → es.all (plain m) = true → toPys ds = toPys es → ds = es
  | _, _, [], es, _, _, q => by
    cases es with
    | nil => rfl
    | cons e es => simp only [toPys] at q; cases q
  | n, m, d :: ds, es, g, h, q => by
    cases es with
    | nil => simp only [toPys] at q; cases q
    | cons e es =>
      simp only [toPys] at q
      injection q with q1 q2
      rw [List.all_cons, Bool.and_eq_true] at g h
      rw [toPy_inj n m d e g.1 h.1 q1, toPys_inj n m ds es g.2 h.2 q2]
end
/-! ### max over data that are alike -/
def rMaxDt (K : PySem.W.Frag) : List V → Hp → VK → Prop := fun xs H Q => ∃ (a : Addr) (vs : List V) (x : PyData) (ds : List PyData), xs = [.ref a] ∧ SqL K H a vs ∧ DpAll K H vs (x :: ds) ∧ AlikeAll (x :: ds) ∧ PyData.depthAll (x :: ds) ≤ 60 ∧
  ∀ (i : Nat) (v : V), vs[i]? = some v → (x :: ds)[i]? = some (maxD x ds) → Q v H
theorem call_maxDt {X : Cx} (hc : X.calm = true) (hu : X.A.units + 65 < cLine) : CallR X (.builtin "max") (rMaxDt X.K) := by
  intro pins s σ H xs us Q I r ⟨a, vs, x, ds, e, hq, hd, hal, hdep, q⟩
  subst e
  obtain ⟨u, rfl, rx⟩ := vals1 r
  cases rx
  obtain ⟨its, rv, pl, hz⟩ := I.list hq
  obtain ⟨as, hr⟩ := Dp.readsAll I (x :: ds) vs its hd rv
  refine PySem.W.max_list_data (vs := its.toArray) (I.ok.hd hc) pl.isList (by simpa using hr) hal (by omega) fun i v h' tk bs e1 e2 hk => ?_
  have e1' : its[i]? = some v := by simpa using e1
  have hi := (List.getElem?_eq_some_iff.mp e1').1
  have hi' : i < vs.length := by rw [rv.length]; exact hi
  obtain ⟨u', hu', ru⟩ := rv.get (List.getElem?_eq_getElem hi')
  rw [e1'] at hu'; cases hu'
  obtain ⟨bs', z1, z2, z3, z4⟩ := PySem.W.readsAll_at hr i v e1'
  obtain ⟨z5, _⟩ := PyProof.Rows.reads_det (fun b o h _ => hk b o h) z1 e2
  refine ⟨vs[i], H, I.kept (t' := tk) hk, ru, q i vs[i] (List.getElem?_eq_getElem hi') ?_⟩
  rw [z5, List.getElem?_eq_getElem z2, List.getD_eq_getElem?_getD, List.getElem?_eq_getElem z2]
  rfl
def alikeB (ds : List D) : Bool := ds.all fun x => (ds.all fun y => alike (toPy x) (toPy y)) && plain 50 x && (match x with | .non => false | _ => true)
def maxF (x : D) (ds : List D) : D := ds.foldl (fun a y => if dataLt (toPy a) (toPy y) then y else a) x
def maxT : List D → Res D
  | [.lst (x :: ds)] => if alikeB (x :: ds) = true then .ok (maxF x ds) else .bad
  | _ => .bad
theorem maxF_py : ∀ (ds : List D) (x : D), toPy (maxF x ds) = maxD (toPy x) (toPys ds)
  | [], x => by simp only [toPys]; rfl
  | y :: ds, x => by
    have i := maxF_py ds (if dataLt (toPy x) (toPy y) then y else x)
    simp only [toPys, maxF, maxD, List.foldl_cons] at i ⊢
    rw [i]
    congr 1
    split <;> rfl
theorem maxF_mem : ∀ (ds : List D) (x : D), maxF x ds ∈ x :: ds
  | [], x => List.mem_cons_self
  | y :: ds, x => by
    have i := maxF_mem ds (if dataLt (toPy x) (toPy y) then y else x)
    show maxF (if dataLt (toPy x) (toPy y) then y else x) ds ∈ _
    rcases List.mem_cons.mp i with z | z
    · rw [z]
      split
      · simp
      · simp
    · exact List.mem_cons_of_mem _ (List.mem_cons_of_mem _ z)
/-- max(..): two ints, ints, alike data -/
def maxZ (ds : List D) : Res D := match maxR ds with
  | .bad => maxT ds
  | r => r
theorem nox_maxZ : NoXC maxZ := by
  intro ds c h
  unfold maxZ at h
  cases q : maxR ds with
  | ok d => rw [q] at h; cases h
  | exc c => exact nox_max ds c q
  | bad =>
    rw [q] at h
    dsimp only at h
    unfold maxT at h
    split at h
    · split at h <;> cases h
    · cases h
theorem good_maxZ {K : PySem.W.Frag} : GoodC K (fun xs H Q => ((∃ i j, xs = [.int i, .int j] ∧ Q (.int (if j > i then j else i)) H) ∨ rMax K xs H Q) ∨ rMaxDt K xs H Q) maxZ := by
  intro F H ds vs Q s r d e k
  unfold maxZ at e
  cases q : maxR ds with
  | ok d' =>
    rw [q] at e
    cases e
    exact .inl (good_max F H ds vs Q s r _ q k)
  | exc c => exact absurd q (nox_max ds c)
  | bad =>
    rw [q] at e
    dsimp only at e
    unfold maxT at e
    split at e
    · rename_i x xs
      split at e
      · rename_i ha
        cases e
        obtain ⟨v, rfl, r1⟩ := r.one
        obtain ⟨a, ws, rfl, h1, h2, h3⟩ := rep_lst r1
        have hp : (x :: xs).all (plain 50) = true := by
          rw [List.all_eq_true]
          intro y hy
          have := List.all_eq_true.mp ha y hy
          simp only [Bool.and_eq_true] at this
          exact this.1.2
        obtain ⟨g1, g2, g3⟩ := Reps.dps (F := H) 50 (x :: xs) ws hp (h2.mono s)
        refine .inr ⟨a, ws, toPy x, toPys xs, rfl, SqL.of (s _ _ h1), by simpa only [toPys] using g1, ?_, ?_, fun i v e1 e2 => ?_⟩
        · have e4 : toPy x :: toPys xs = (x :: xs).map toPy := by rw [toPys_map]; rfl
          rw [e4]
          refine ⟨fun y hy z hz => ?_, fun y hy => ?_⟩
          · obtain ⟨y', hy', rfl⟩ := List.mem_map.mp hy
            obtain ⟨z', hz', rfl⟩ := List.mem_map.mp hz
            have := List.all_eq_true.mp ha y' hy'
            simp only [Bool.and_eq_true] at this
            exact List.all_eq_true.mp this.1.1 z' hz'
          · obtain ⟨y', hy', rfl⟩ := List.mem_map.mp hy
            have := List.all_eq_true.mp ha y' hy'
            simp only [Bool.and_eq_true] at this
            cases y' with
            | non => exact absurd this.2 Bool.false_ne_true
            | dic t kvs => have := this.1.2; simp [plain] at this
            | exc c => have := this.1.2; simp [plain] at this
            | scr c => have := this.1.2; simp [plain] at this
            | _ => simp only [toPy]; exact fun z => (by cases z)
        · simp only [toPys] at g3
          omega
        · obtain ⟨dd, e5, e6⟩ := h2.get' e1
          have e7 : (x :: xs)[i]? = some (maxF x xs) := by
            have e8 : toPy x :: toPys xs = (x :: xs).map toPy := by rw [toPys_map]; rfl
            rw [e8, List.getElem?_map, e5] at e2
            have e9 : toPy dd = toPy (maxF x xs) := by
              rw [maxF_py]
              simpa using e2
            rw [e5, toPy_inj 50 50 dd (maxF x xs) (List.all_eq_true.mp hp dd (List.mem_of_getElem? e5)) (List.all_eq_true.mp hp _ (maxF_mem xs x)) e9]
          rw [e5] at e7
          cases e7
          exact k v F H (Ext.refl s) e6
      · cases e
    · cases e
/-! ### sorted(d) -/
def sortZ (ds : List D) : Res D := match ds with
  | [.dic false kvs] => (match strsOf (kvs.map (·.1)) with
    | some ss => if ss.length < 64 then .ok (.lst ((isort ltN ss).map D.str)) else .bad
    | none => .bad)
  | _ => sortR ds
theorem nox_sortZ : NoXC sortZ := by
  intro ds c h
  unfold sortZ at h
  split at h
  · split at h
    · split at h <;> cases h
    · cases h
  · exact nox_sort _ c h
def rSortD : List V → Hp → VK → Prop := fun xs H Q => ∃ (a : Addr) (kvs : List (Key × V)) (ks : List Str), xs = [.ref a] ∧ Rd H a (.dK kvs) ∧ kvs.map (·.1) = ks.map Sum.inr ∧ ks.length < 64 ∧ ∀ ys p, ys.Perm ks → PyProof.Rows.sortedS ys = true → H p = none → Q (.ref p) (upd H p (.lst (ys.map V.str)))
theorem repk_strs {K : PySem.W.Frag} {F : Hp} : ∀ {kvs : List (D × D)} {hk : List (Key × V)} {ss : List (List Nat)}, RepK K F kvs hk → strsOf (kvs.map (·.1)) = some ss → hk.map (·.1) = (ss.map S0).map Sum.inr ∧ ∀ s ∈ ss, s.all (· < 0x110000) = true ∧ s.length ≤ sizeLine
  | [], hk, ss, h, e => by
    simp only [RepK] at h; subst h
    cases e
    exact ⟨rfl, fun s z => by cases z⟩
  | (kd, x) :: kvs, hk, ss, h, e => by
    simp only [RepK] at h
    obtain ⟨k, v, r, rfl, h1, h2⟩ := h
    simp only [RepKV] at h1
    rw [List.map_cons] at e
    cases kd with
    | str z =>
      simp only [strsOf, Option.map_eq_some_iff] at e
      obtain ⟨ms, e1, rfl⟩ := e
      obtain ⟨i1, i2⟩ := repk_strs h2 e1
      obtain ⟨g1, g2, g3⟩ := rep_str h1.1
      have : k = .inr (S0 z) := kV_inj g1
      subst this
      refine ⟨by rw [List.map_cons, i1]; rfl, fun s hs => ?_⟩
      rcases List.mem_cons.mp hs with q | q
      · rw [q]; exact ⟨g2, g3⟩
      · exact i2 s q
    | _ => simp only [strsOf] at e; cases e
theorem sortedS_rising : ∀ {ys : List Str}, PyProof.Rows.sortedS ys = true → Rising ltN (ys.map fun z => z.cps.toList)
  | [], _ => .nil
  | [x], _ => List.pairwise_singleton _ _
  | x :: y :: r, h => by
    simp only [PyProof.Rows.sortedS, PyProof.Rows.risingS, Bool.and_eq_true] at h
    have i := sortedS_rising (ys := y :: r) h.2
    rw [List.map_cons]
    refine List.pairwise_cons.mpr ⟨fun z hz => ?_, i⟩
    have h0 : ltN y.cps.toList x.cps.toList = false := by
      have := h.1
      rw [Bool.not_eq_true'] at this
      rw [PyProof.Rows.ltCps_eq] at this
      exact this
    rw [List.map_cons] at hz i
    rcases List.mem_cons.mp hz with e | e
    · rw [e]; exact h0
    · exact swoN.tr _ _ _ h0 ((List.pairwise_cons.mp i).1 z e)
theorem sorted_strs {ss : List (List Nat)} {ys : List Str} (hp : ys.Perm (ss.map S0)) (hs : PyProof.Rows.sortedS ys = true) : ys = (isort ltN ss).map S0 := by
  have e0 : ∀ l : List Str, (l.map fun z => z.cps.toList).map S0 = l := fun l => by
    rw [List.map_map]
    conv => rhs; rw [← List.map_id l]
    exact List.map_congr_left fun z _ => rfl
  have e1 : ∀ l : List (List Nat), ((l.map S0).map fun z : Str => z.cps.toList) = l := fun l => by
    rw [List.map_map]
    conv => rhs; rw [← List.map_id l]
    exact List.map_congr_left fun z _ => by simp [S0]
  have h2 := hp.map fun z : Str => z.cps.toList
  rw [e1] at h2
  rw [← isort_eq swoN totN h2 (sortedS_rising hs), e0]
theorem good_sortZ {K : PySem.W.Frag} : GoodF K (fun xs H Q => (rSortedI K xs H Q ∨ rSortedT K xs H Q) ∨ rSortD xs H Q) sortZ := by
  intro F H ds vs Q s r d e k
  unfold sortZ at e
  split at e
  · rename_i kvs
    cases q : strsOf (kvs.map (·.1)) with
    | none => rw [q] at e; cases e
    | some ss =>
      rw [q] at e
      dsimp only at e
      split at e
      · rename_i hl
        cases e
        obtain ⟨v, rfl, r1⟩ := r.one
        simp only [Rep] at r1
        obtain ⟨a, o, rfl, h1, hk, h2, h3⟩ := r1
        obtain ⟨g1, g2⟩ := repk_strs h3 q
        refine .inr ⟨a, hk, ss.map S0, rfl, .inr ⟨o, s _ _ h2⟩, g1, by rw [List.length_map]; exact hl, fun ys p hp hs hn => ?_⟩
        have : ys = (isort ltN ss).map S0 := sorted_strs hp hs
        subst this
        refine GoodF.lst s hn (reps_strs fun t ht => g2 t ((isort_perm ss).mem_iff.mp ht)) ?_ k
        rw [List.length_map, (isort_perm ss).length_eq]
        exact sz (by omega)
      · cases e
  · exact .inl (good_sort F H _ vs Q s r d e k)
/-! ### isinstance(x, (T, U)) -/
theorem kitAny2 {K : PySem.W.Frag} {t a b : Value} {x y : Bool} (h1 : PySem.W.kitOne K t a = some x) (h2 : PySem.W.kitOne K t b = some y) : PySem.W.kitAny K t [a, b] = some (x || y) := by
  unfold PySem.W.kitAny
  rw [h1]
  cases x with
  | true => rfl
  | false =>
    show PySem.W.kitAny K t [b] = _
    unfold PySem.W.kitAny
    rw [h2]
    cases y <;> rfl
def isI2 (T U : Ty6) (d : D) : Res D := (isI T d).bind fun x => if eqD x (.bl true) = true then .ok x else isI U d
section
variable {X : Cx} {E : EX} {a : Expr} {fa : Env → Res D} {p q q2 tp pos : Pos} {k : Nat} {T U : Ty6} {x y : Str}
theorem pe_ty6 {x : Str} {q : Pos} {T : Ty6} (hx : x = Str.ofString T.nm) (hg2 : Gl X x) (hm2 : X.mg x = none) : PE X (.Name x q) (tC (.ty T.nm)) := by
  subst hx
  cases T
  · exact pe_bltn hg2 hm2 PyProof.Rows.boot_int rfl
  · exact pe_bltn hg2 hm2 PyProof.Rows.boot_str rfl
  · exact pe_bltn hg2 hm2 PyProof.Rows.boot_bool rfl
  · exact pe_bltn hg2 hm2 PyProof.Rows.boot_list rfl
  · exact pe_bltn hg2 hm2 PyProof.Rows.boot_tuple rfl
  · exact pe_bltn hg2 hm2 PyProof.Rows.boot_dict rfl
theorem isI_some {T U : Ty6} {d e : D} (h : isI T d = .ok e) : ∃ b, isI U d = .ok (.bl b) := by
  cases d with
  | dic t kvs =>
    cases t with
    | true => cases h
    | false => exact ⟨_, rfl⟩
  | exc c => cases h
  | scr n => cases h
  | _ => exact ⟨_, rfl⟩
theorem de_isi2 (hx : x = Str.ofString T.nm) (hy : y = Str.ofString U.nm) (hg : Gl X "isinstance") (hm : X.mg "isinstance" = none) (hg2 : Gl X x) (hm2 : X.mg x = none) (hg3 : Gl X y) (hm3 : X.mg y = none) (ha : DE X E a fa)
    (he : starEach [a, .Tuple [.Name x q, .Name y q2] k tp] X.env = (false, eval a X.env) :: starEach [.Tuple [.Name x q, .Name y q2] k tp] X.env) :
    DE X E (.Call (.Name "isinstance" p) [a, .Tuple [.Name x q, .Name y q2] k tp] [] pos) (fun ρ => (fa ρ).bind (isI2 T U)) := by
  have ht := pe_tup (X := X) (x1 := k) (pos := tp) (pa_cons (pe_ty6 (q := q) hx hg2 hm2) (pa_cons (pe_ty6 (q := q2) hy hg3 hm3) pa_nil rfl) rfl)
  refine pe_weak (pe_callB call_isiT hg hm PyProof.Rows.boot_isinstance (pa_cons ha (pa_cons ht pa_nil rfl) he) (by decide) (by decide) he rfl) fun σ H Q ⟨F, ρ, s, re, h⟩ => ?_
  have nx : ∀ d c, isI2 T U d ≠ .exc c := fun d c z => by
    unfold isI2 at z
    cases e : isI T d with
    | ok d' =>
      rw [e, Res.bind_ok] at z
      split at z
      · cases z
      · exact isI_nox z
    | exc c' => exact isI_nox e
    | bad => rw [e] at z; cases z
  refine ⟨F, ρ, s, re, RW.imp (rw_ok nx h) (fun d ⟨e, e1, he⟩ v F1 H1 x1 r1 => ?_) fun _ z => z⟩
  unfold isI2 at e1
  cases e2 : isI T d with
  | exc c' => exact absurd e2 isI_nox
  | bad => rw [e2] at e1; cases e1
  | ok d' =>
    rw [e2, Res.bind_ok] at e1
    obtain ⟨b1, rfl⟩ := isI_bl e2
    obtain ⟨b2, e3⟩ := isI_some (U := U) e2
    obtain ⟨t, t1, t2⟩ := isi_kit X.K T d b1 e2
    obtain ⟨t', t1', t2'⟩ := isi_kit X.K U d b2 e3
    rw [t1] at t1'; cases t1'
    have eb : e = .bl (b1 || b2) := by
      cases b1 with
      | true => simp only [eqD, decide_true, if_true] at e1; cases e1; rfl
      | false =>
        rw [e3] at e1
        have : ¬ eqD (.bl false) (.bl true) = true := by decide
        rw [if_neg this] at e1
        cases e1
        rfl
    subst eb
    refine ⟨by rw [PySem.sizeLine_eq]; show 2 ≤ 16777216; decide, fun tq hq => ?_⟩
    have x2 := Ext.loose (F := F1) (H := H1) (.tup [.ty T.nm, .ty U.nm]) x1.sub hq
    exact ⟨v, tq, _, .type t, [.type T.nm, .type U.nm], b1 || b2, rfl, upd_same, .cons (.ty _) (.cons (.ty _) .nil), tyD_ok x2.sub r1 t1, kitAny2 t2 t2', he _ F1 _ (x1.trans x2) mk_bl⟩
end
end DL
/-! The data layer, G: d.get(k, x), d.items(), d.values(), {i: j}. -/
namespace DL
open PySem PySem.Spec L2

def isDct : D → Bool
  | .dic _ _ => true
  | _ => false
def getR : D → List D → Res D
  | .dic t kvs, [k, x] => if keyOk t k = true then .ok ((lookD kvs k).getD x) else .bad
  | _, _ => .bad
/-- the pairs -/
def itemsR : D → Res (List D)
  | .dic false kvs => if kvs.all (fun p => !tabB [p.1, p.2]) = true then .ok (kvs.map fun p => .tup [p.1, p.2]) else .bad
  | _ => .bad
def valsR : D → Res (List D)
  | .dic false kvs => .ok (kvs.map (·.2))
  | _ => .bad
section
variable {K : PySem.W.Frag} {F : Hp}
theorem itr_valsK {a : Addr} {o : Obj} {kvs : List (D × D)} {hk : List (Key × V)} (h : F a = some (.frz o (.dK hk))) (r : RepK K F kvs hk) : ItR K (Itd a o hk) F (kvs.map (·.2)) := fun F' H' s1 s2 => by
  have hq := s2 _ _ (s1 _ _ h)
  refine ⟨fun i d e => ?_, ⟨hq, by rw [r.length]; simp⟩⟩
  rw [List.getElem?_map] at e
  cases q : kvs[i]? with
  | none => rw [q] at e; cases e
  | some p =>
    rw [q] at e; cases e
    obtain ⟨k, v, e1, e2, e3⟩ := r.get q
    refine ⟨⟨hq, (List.getElem?_eq_some_iff.mp e1).1⟩, fun x H'' y => ?_⟩
    obtain ⟨rfl, k', e4⟩ := y
    rw [e1] at e4; cases e4
    exact ⟨F', Ext.refl s2, e3.mono s1⟩
theorem itr_itemsK {a : Addr} {o : Obj} {kvs : List (D × D)} {hk : List (Key × V)} (h : F a = some (.frz o (.dK hk))) (r : RepK K F kvs hk) (hn : kvs.all (fun p => !tabB [p.1, p.2]) = true) : ItR K (Iti a o hk) F (kvs.map fun p => .tup [p.1, p.2]) := fun F' H' s1 s2 => by
  have hq := s2 _ _ (s1 _ _ h)
  refine ⟨fun i d e => ?_, ⟨hq, by rw [r.length]; simp⟩⟩
  rw [List.getElem?_map] at e
  cases q : kvs[i]? with
  | none => rw [q] at e; cases e
  | some p =>
    rw [q] at e; cases e
    obtain ⟨k, v, e1, e2, e3⟩ := r.get q
    have hp := List.all_eq_true.mp hn p (List.mem_of_getElem? q)
    refine ⟨⟨hq, (List.getElem?_eq_some_iff.mp e1).1⟩, fun x H'' y => ?_⟩
    obtain ⟨T, k', v', e4, rfl, hT, rfl⟩ := y
    rw [e1] at e4; cases e4
    obtain ⟨x1, x2⟩ := new_tup (K := K) (by simpa using hp) s2 hT (Reps.cons (e2.mono s1) (Reps.cons (e3.mono s1) Reps.nil)) (by rw [PySem.sizeLine_eq]; show 2 ≤ 16777216; decide)
    exact ⟨_, x1, x2⟩
end
section
variable {X : Cx} {E : EX} {tg e : Expr} {f : Env → Res D} {apos cpos : Pos}
theorem di_vals (h : DE X E e f) (hb : attributeBase e "values" X.env (eval e X.env) = eval e X.env) (hl : (apos.endLine == cpos.line) = true) : DI X E tg (.Call (.Attribute e "values" apos) [] [] cpos) (fun ρ => (f ρ).bind valsR) :=
  pi_weak (pi_values h hb hl) fun σ H R ⟨F, ρ, s, re, q⟩ => by
    refine ⟨F, ρ, s, re, RW.imp (RW.bind q) (fun d hd v F' H' e1 r1 => ?_) fun _ z => z⟩
    cases d with
    | dic t kvs =>
      cases t with
      | false =>
        simp only [Rep] at r1
        obtain ⟨a, o, rfl, h3, hk, h1, h2⟩ := r1
        exact ⟨a, o, hk, rfl, e1.sub _ _ h1, hd _ F' H' e1 (itr_valsK h1 h2) (by rw [List.length_map]; exact h3)⟩
      | true => exact hd.elim
    | _ => exact hd.elim
theorem di_items {elts : List Expr} {kk : Nat} {tpos : Pos} (h : DE X E e f) (hb : attributeBase e "items" X.env (eval e X.env) = eval e X.env) (hl : (apos.endLine == cpos.line) = true) : DI X E (.Tuple elts kk tpos) (.Call (.Attribute e "items" apos) [] [] cpos) (fun ρ => (f ρ).bind itemsR) :=
  pi_weak (pi_items h hb hl) fun σ H R ⟨F, ρ, s, re, q⟩ => by
    refine ⟨F, ρ, s, re, RW.imp (RW.bind q) (fun d hd v F' H' e1 r1 => ?_) fun _ z => z⟩
    cases d with
    | dic t kvs =>
      cases t with
      | false =>
        simp only [Rep] at r1
        obtain ⟨a, o, rfl, h3, hk, h1, h2⟩ := r1
        simp only [itemsR] at hd
        split at hd
        · rename_i hn
          exact ⟨a, o, hk, rfl, e1.sub _ _ h1, hd _ F' H' e1 (itr_itemsK h1 h2 hn) (by rw [List.length_map]; exact h3)⟩
        · exact hd.elim
      | true => exact hd.elim
    | _ => exact hd.elim
/-- d.get(k, x) -/
theorem de_get {k x : Expr} {fk fx : Env → Res D} (hu : X.A.units + 1 < cLine) (h : DE X E e f) (hk : DE X E k fk) (hx : DE X E x fx) (m : M2 X e "get" apos k x cpos) :
    DE X E (.Call (.Attribute e "get" apos) [k, x] [] cpos) (mthV isDct getR f (argsC fk (argsC fx argsN))) :=
  pe_weak (pe_dget2 hu h hk hx m) fun σ H Q ⟨F, ρ, s, re, q⟩ => by
    unfold mthV argsC argsN at q
    refine ⟨F, ρ, s, re, RW.imp (RW.bind q) (fun d hd v F1 H1 e1 r1 => ?_) fun _ z => z⟩
    cases d with
    | dic t kvs =>
      have hd' : RW ((((fk ρ).bind fun dk => ((fx ρ).bind fun dx => Res.ok [dx]).bind fun ds => .ok (dk :: ds))).bind (getR (.dic t kvs))) (fun d => ∀ v F' H', Ext F H F' H' → Rep X.K F' d v → Q v H') (ExW X.K E σ H) := by
        simpa [isDct] using hd
      have r1' := r1
      have : ∃ a, v = .ref a ∧ IsD H1 a := by
        cases t with
        | false => simp only [Rep] at r1; obtain ⟨a, o, rfl, h3, hk, h1, h2⟩ := r1; exact ⟨a, rfl, .inl ⟨hk, .inr ⟨o, e1.sub _ _ h1⟩⟩⟩
        | true => simp only [Rep] at r1; obtain ⟨a, o, rfl, h3, hk, h1, h2⟩ := r1; exact ⟨a, rfl, .inr ⟨hk, .inr ⟨o, e1.sub _ _ h1⟩⟩⟩
      obtain ⟨a, rfl, isd⟩ := this
      refine ⟨a, rfl, isd, F1, ρ, e1.sub, re.mono e1.grow, ?_⟩
      cases ek : fk ρ with
      | exc c => rw [ek] at hd'; exact ExW.mono hd' e1.same
      | bad => rw [ek] at hd'; exact hd'.elim
      | ok dk =>
        rw [ek] at hd'
        intro y F2 H2 e2 r2
        refine ⟨F2, ρ, e2.sub, (re.mono e1.grow).mono e2.grow, ?_⟩
        cases ex : fx ρ with
        | exc c => rw [ex] at hd'; exact ExW.mono (ExW.mono hd' e1.same) e2.same
        | bad => rw [ex] at hd'; exact hd'.elim
        | ok dx =>
          rw [ex] at hd'
          have hd2 : RW (getR (.dic t kvs) [dk, dx]) (fun d => ∀ v F' H', Ext F H F' H' → Rep X.K F' d v → Q v H') (ExW X.K E σ H) := hd'
          simp only [getR] at hd2
          split at hd2
          · rename_i hok
            intro z F3 H3 e3 r3
            obtain ⟨a', o, ea, _, dg, mm⟩ := dic_get e3.sub ((r1'.mono e2.grow).mono e3.grow) (r2.mono e3.grow) hok
            cases ea
            refine ⟨o, dg, hd2 _ F3 H3 ((e1.trans e2).trans e3) ?_⟩
            cases e4 : lookD kvs dk with
            | none =>
              rw [e4] at mm
              cases o with
              | none => exact r3
              | some v => exact mm.elim
            | some d =>
              rw [e4] at mm
              cases o with
              | none => exact mm.elim
              | some v => exact mm
          · exact hd2.elim
    | _ => exact (show False from by simpa [isDct, RW] using hd).elim
/-- {i: j} -/
def dic1D (i j : Int) (_ : Env) : Res D := .ok (.dic false [(.int i, .int j)])
theorem df_dic1 {i j : Int} {k1 k2 : Nat} {p1 p2 pos : Pos} : DF X E (.Dict [some (.Constant (.int i) k1 p1)] [.Constant (.int j) k2 p2] pos) (dic1D i j) :=
  pe_weak (pe_disp (pps_cons pe_int pe_int pps_nil) rfl rfl (fun z => by cases z) (show 1 ≤ 15 by decide)) fun σ H Q ⟨F, ρ, s, re, q⟩ p hp => by
    have q' : ∀ p' F' H', Ext F H F' H' → H p' = none → F' p' = none → OwnAt X.K F' H' p' (.dic false [(.int i, .int j)]) → Q (.ref p') H' := q
    refine ⟨upd_same, [(Sum.inl i, .int j)], rfl, (show 1 ≤ 15 by decide), ?_⟩
    have e : upd (upd H p (.dK [])) p (.dK (mergeK [] [(Sum.inl i, V.int j)])) = upd H p (.dK [(Sum.inl i, V.int j)]) := by
      funext b
      by_cases hb : b = p
      · subst hb; rw [upd_same, upd_same]; rfl
      · rw [upd_ne hb, upd_ne hb, upd_ne hb]
    show Q (.ref p) (upd (upd H p (.dK [])) p (.dK (mergeK [] [(Sum.inl i, V.int j)])))
    rw [e]
    refine q' p F _ (Ext.loose _ s hp) hp (Same.free s hp) ⟨[(Sum.inl i, V.int j)], upd_same, ?_, by rw [PySem.sizeLine_eq]; show 1 ≤ 16777216; decide⟩
    simp only [RepK, RepKV]
    exact ⟨_, _, _, rfl, ⟨mk_int, mk_int⟩, rfl⟩
end
end DL
/-! The data layer, H: list(zip(a, b)). -/
namespace DL
open PySem PySem.Spec L2
open PySem.Sem (wp)
theorem zip_no_len : typeLookup (.type "zip") "__len__" = pure none := am_miss_of_fast (by decide +kernel)
theorem zip_no_hint : typeLookup (.type "zip") "__length_hint__" = pure none := am_miss_of_fast (by decide +kernel)
section
variable {prog : Program} {w : World} {A : Around} {E : Value → Shared → Prop} {s : Shared} {z TI TO T i1 i2 : Addr} {fp1 fp2 : List Addr} {n1 n2 i : Nat} {P1 P2 : Nat → Value → Prop} {St1 St2 : Nat → Heap → Prop} {f : Bool} {oT : Obj}
theorem zipD2_item_held {Q : Value → Shared → Prop} (S : ZipSep2 z TI TO i1 i2 fp1 fp2) (D1 : Draws prog w A i1 fp1 n1 P1 St1) (D2 : Draws prog w A i2 fp2 n2 P2 St2)
    (hz : IsZipHeld s.heap z TI TO T f) (hT : s.heap.get? T = some oT) (hTI : IsTupOf2 s.heap TI (.ref i1) (.ref i2)) (st1 : St1 i s.heap) (st2 : St2 i s.heap) (hlt1 : i < n1) (hlt2 : i < n2)
    (hQ : ∀ x1 x2 h' tk, P1 i x1 → P2 i x2 → IsZipHeld h' z TI TO T true → St1 (i + 1) h' → St2 (i + 1) h' → IsTupOf2 h' s.heap.objs.size x1 x2 → h'.objs.size = s.heap.objs.size + 1 →
      (∀ c o, c ≠ z → c ≠ i1 → c ≠ i2 → s.heap.get? c = some o → h'.get? c = some o) → Q (.ref s.heap.objs.size) { s with heap := h', toks := tk }) :
    wpAny (model prog w) A (Builtin.«zip.__next__» ⟨[.ref z], []⟩) (fun fin s' => ∃ v, fin = .done (.ret v) ∧ Q v s') E s := by
  obtain ⟨hp, g, d, tk0, os⟩ := s
  show wpAny _ _ (field (.ref z) 2 >>= _) _ _ _
  refine wpAny_bind (wpAny_field hz rfl (x := .bool false) rfl ?_)
  show wpAny _ _ (field (.ref z) 3 >>= _) _ _ _
  refine wpAny_bind (wpAny_field hz rfl (x := .ref TI) rfl ?_)
  refine wpAny_bind (wpAny_seqItems hTI rfl ?_)
  show wpAny _ _ (Builtin.SmallTypes.ownedTupleIsFree (.ref z) >>= _) _ _ _
  refine wpAny_bind (wpAny_tupleHeld_zip hz hT fun g0 hz0 hs0 => ?_)
  replace hs0 : Heap.SameBut z hp g0 := hs0
  simp only [Bool.false_eq_true, if_false]
  refine wpAny_bind ?_
  rw [← Array.forIn_toList]
  simp only [List.forIn_cons, List.forIn_nil]
  refine wpAny_bind (wpAny_bind (wpAny_holding ?_))
  show wpAny _ _ (Builtin.SmallTypes.nextOf (.ref i1) >>= _) _ _ ⟨g0, g, d, tk0, os⟩
  refine wpAny_bind (D1.item i _ _ _ hlt1 (D1.over st1 hs0 S.zf1) fun x1 p1 tk1 hx1 sn1 hp1 => wpAny_pure ?_)
  replace hp1 : Heap.SameBut i1 g0 p1 := hp1
  refine wpAny_pure ?_
  refine wpAny_bind (wpAny_bind (wpAny_holding ?_))
  show wpAny _ _ (Builtin.SmallTypes.nextOf (.ref i2) >>= _) _ _ ⟨p1, g, d, tk1, os⟩
  refine wpAny_bind (D2.item i _ _ _ hlt2 (D2.over (D2.over st2 hs0 S.zf2) hp1 S.sep1_2) fun x2 p2 tk2 hx2 sn2 hp2 => wpAny_pure ?_)
  replace hp2 : Heap.SameBut i2 p1 p2 := hp2
  refine wpAny_pure (wpAny_pure ?_)
  show wpAny _ _ (newTuple [x1, x2] >>= _) _ _ _
  refine wpAny_bind (wpAny_newTuple ?_)
  have hsz : p2.objs.size = hp.objs.size := by rw [hp2.1, hp1.1, hs0.1]
  have hz3 : IsZipHeld p2 z TI TO T true := hp2.extBut _ _ S.zi2 (hp1.extBut _ _ S.zi1 hz0)
  have hk : ∀ c o, c ≠ z → c ≠ i1 → c ≠ i2 → hp.get? c = some o → p2.get? c = some o := fun c o c1 c2 c3 e => hp2.extBut _ _ c3 (hp1.extBut _ _ c2 (hs0.extBut _ _ c1 e))
  have hj1 : St1 (i + 1) p2 := D1.over sn1 hp2 S.sep2_1
  refine wpAny_pure ⟨_, rfl, ?_⟩
  show Q (.ref p2.objs.size) _
  have hpq : IsTupOf2 (p2.push { cls := .type "tuple", data := .seq #[x1, x2] }) p2.objs.size x1 x2 := Heap.get?_push_size _ rfl
  have hz4 : (p2.push { cls := .type "tuple", data := .seq #[x1, x2] }).objs.size = p2.objs.size + 1 := Heap.size_push ..
  rw [hsz] at hpq hz4 ⊢
  exact hQ x1 x2 _ tk2 hx1 hx2 (Heap.get?_push_of_some _ hz3) (D1.frame _ _ _ hj1 fun b _ o e => Heap.get?_push_of_some _ e) (D2.frame _ _ _ sn2 fun b _ o e => Heap.get?_push_of_some _ e) hpq hz4 fun c o c1 c2 c3 e => Heap.get?_push_of_some _ (hk c o c1 c2 c3 e)
theorem zipD2_end_held {Q : Fin → Shared → Prop} (S : ZipSep2 z TI TO i1 i2 fp1 fp2) (D1 : Draws prog w A i1 fp1 n1 P1 St1) (D2 : Draws prog w A i2 fp2 n2 P2 St2)
    (hz : IsZipHeld s.heap z TI TO T f) (hT : s.heap.get? T = some oT) (hTI : IsTupOf2 s.heap TI (.ref i1) (.ref i2)) (st1 : St1 i s.heap) (st2 : St2 i s.heap) (hle1 : i ≤ n1) (hle2 : i ≤ n2) (hend : i = n1 ∨ i = n2)
    (hE : ∀ h' tk e, (∀ c o, c ≠ z → c ≠ i1 → c ≠ i2 → s.heap.get? c = some o → h'.get? c = some o) → (∃ o, h'.get? e = some o ∧ o.cls = .type "StopIteration") → E (.ref e) { s with heap := h', toks := tk }) :
    wpAny (model prog w) A (Builtin.«zip.__next__» ⟨[.ref z], []⟩) Q E s := by
  obtain ⟨hp, g, d, tk0, os⟩ := s
  show wpAny _ _ (field (.ref z) 2 >>= _) _ _ _
  refine wpAny_bind (wpAny_field hz rfl (x := .bool false) rfl ?_)
  show wpAny _ _ (field (.ref z) 3 >>= _) _ _ _
  refine wpAny_bind (wpAny_field hz rfl (x := .ref TI) rfl ?_)
  refine wpAny_bind (wpAny_seqItems hTI rfl ?_)
  show wpAny _ _ (Builtin.SmallTypes.ownedTupleIsFree (.ref z) >>= _) _ _ _
  refine wpAny_bind (wpAny_tupleHeld_zip hz hT fun g0 hz0 hs0 => ?_)
  replace hs0 : Heap.SameBut z hp g0 := hs0
  simp only [Bool.false_eq_true, if_false]
  refine wpAny_bind ?_
  rw [← Array.forIn_toList]
  simp only [List.forIn_cons, List.forIn_nil]
  refine wpAny_bind (wpAny_bind (wpAny_holding ?_))
  show wpAny _ _ (Builtin.SmallTypes.nextOf (.ref i1) >>= _) _ _ ⟨g0, g, d, tk0, os⟩
  by_cases hlt1 : i < n1
  · refine wpAny_bind (D1.item i _ _ _ hlt1 (D1.over st1 hs0 S.zf1) fun x1 p1 tk1 hx1 sn1 hp1 => wpAny_pure ?_)
    replace hp1 : Heap.SameBut i1 g0 p1 := hp1
    refine wpAny_pure ?_
    have hi2 : i = n2 := by omega
    refine wpAny_bind (wpAny_bind (wpAny_holding ?_))
    show wpAny _ _ (Builtin.SmallTypes.nextOf (.ref i2) >>= _) _ _ ⟨p1, g, d, tk1, os⟩
    refine wpAny_bind (D2.done ⟨p1, g, d, tk1, os⟩ _ _ (by rw [← hi2]; exact D2.over (D2.over st2 hs0 S.zf2) hp1 S.sep1_2) fun q e hq he => ?_)
    exact hE q tk1 e (fun c o cz c1 c2 x => hq _ _ c2 (hp1.extBut _ _ c1 (hs0.extBut _ _ cz x))) he
  · have hi1 : i = n1 := by omega
    refine wpAny_bind (D1.done ⟨g0, g, d, tk0, os⟩ _ _ (by rw [← hi1]; exact D1.over st1 hs0 S.zf1) fun q e hq he => ?_)
    exact hE q tk0 e (fun c o cz c1 c2 x => hq _ _ c1 (hs0.extBut _ _ cz x)) he
theorem pyNext_held {Q : Option Value → Shared → Prop} (S : ZipSep2 z TI TO i1 i2 fp1 fp2) (D1 : Draws prog w A.in1 i1 fp1 n1 P1 St1) (D2 : Draws prog w A.in1 i2 fp2 n2 P2 St2)
    (hz : IsZipHeld s.heap z TI TO T f) (hT : s.heap.get? T = some oT) (hTI : IsTupOf2 s.heap TI (.ref i1) (.ref i2)) (st1 : St1 i s.heap) (st2 : St2 i s.heap) (hlt1 : i < n1) (hlt2 : i < n2)
    (hQ : ∀ x1 x2 h' tk, P1 i x1 → P2 i x2 → IsZipHeld h' z TI TO T true → St1 (i + 1) h' → St2 (i + 1) h' → IsTupOf2 h' s.heap.objs.size x1 x2 → h'.objs.size = s.heap.objs.size + 1 →
      (∀ c o, c ≠ z → c ≠ i1 → c ≠ i2 → s.heap.get? c = some o → h'.get? c = some o) → Q (some (.ref s.heap.objs.size)) { s with heap := h', toks := tk }) :
    wpAny (model prog w) A (pyNext (.ref z)) Q E s := by
  have hTy : s.TypeIs (.ref z) "zip" := ⟨_, hz, rfl⟩
  unfold pyNext
  exact wpAny_bind (wpAny_attempt (wpAny_callSpecial?_slot (name := Str.ofString "__next__") hTy F.slot_zip_next
    (wpAny_call_entry F.slot_zip_next hTy F.entry_zip_next
      (zipD2_item_held S D1 D2 hz hT hTI st1 st2 hlt1 hlt2 fun x1 x2 h' tk a1 a3 a4 a5 a6 a7 a8 a9 => wpAny_pure (hQ x1 x2 h' tk a1 a3 a4 a5 a6 a7 a8 a9)) (F.args_zip_next_1 _))))
theorem pyEnd_held {Q : Option Value → Shared → Prop} (S : ZipSep2 z TI TO i1 i2 fp1 fp2) (D1 : Draws prog w A.in1 i1 fp1 n1 P1 St1) (D2 : Draws prog w A.in1 i2 fp2 n2 P2 St2)
    (hz : IsZipHeld s.heap z TI TO T f) (hT : s.heap.get? T = some oT) (hTI : IsTupOf2 s.heap TI (.ref i1) (.ref i2)) (st1 : St1 i s.heap) (st2 : St2 i s.heap) (hle1 : i ≤ n1) (hle2 : i ≤ n2) (hend : i = n1 ∨ i = n2)
    (hQ : ∀ h' tk, (∀ c o, c ≠ z → c ≠ i1 → c ≠ i2 → s.heap.get? c = some o → h'.get? c = some o) → Q none { s with heap := h', toks := tk }) :
    wpAny (model prog w) A (pyNext (.ref z)) Q E s := by
  have hTy : s.TypeIs (.ref z) "zip" := ⟨_, hz, rfl⟩
  unfold pyNext
  refine wpAny_bind (wpAny_attempt (wpAny_callSpecial?_slot (name := Str.ofString "__next__") hTy F.slot_zip_next
    (wpAny_call_entry F.slot_zip_next hTy F.entry_zip_next (zipD2_end_held S D1 D2 hz hT hTI st1 st2 hle1 hle2 hend fun h' tk e hk he => ?_) (F.args_zip_next_1 _))))
  obtain ⟨o, ho, hc⟩ := he
  refine wpAny_bind (wpAny_isInstance (T := "StopIteration") (b := true) ⟨o, ho, hc⟩ isSubtype_stop ?_)
  exact wpAny_pure (hQ _ _ hk)
end
section
variable {X : Cx} {pins : List (Addr × Obj)} {σ : L2.St} {H : Hp} {s : Shared}
/-- Src.draws with any surroundings -/
theorem Src.drawsA {src : Src} {it : Addr} {i : Nat} (B : Around) (I : Inv X pins σ H s) (hh : B.handled = none) (hs : src.Has H) (st : src.at_ it i s.heap) (hit : H it = none) :
    ∃ (fp : List Addr) (P : Nat → Value → Prop) (St : Nat → Heap → Prop), Draws X.prog X.w B it fp src.items.length P St ∧ St i s.heap ∧
      (∀ i x, P i x → ∃ v, src.items[i]? = some v ∧ RelV v x) ∧ (∀ j h, St j h → src.at_ it j h) ∧ it ∈ fp ∧ (∀ b ∈ fp, b = it ∨ H b ≠ none) := by
  cases src with
  | lst a vs =>
    obtain ⟨its, rv, p, hz⟩ := I.list (SqL.of (K := X.K) hs)
    have hne : a ≠ it := fun e => by subst e; have : H a = some (.lst vs) := hs; rw [hit] at this; cases this
    refine ⟨[it, a], fun i v => its.toArray[i]? = some v, fun i h => h.IsListIter it a i ∧ h.IsList a its.toArray, ?_, ⟨st, p.isList⟩, ?_, fun j h q => q.1, by simp, fun b hb => ?_⟩
    · show Draws X.prog X.w B it [it, a] vs.length _ _
      have := Draws.list (prog := X.prog) (w := X.w) (A := B) hh it a hne its.toArray
      rw [List.size_toArray, ← rv.length] at this
      exact this
    · intro j x hx
      have hx' : its[j]? = some x := by simpa using hx
      have hj := (List.getElem?_eq_some_iff.mp hx').1
      have hj' : j < vs.length := by rw [rv.length]; exact hj
      obtain ⟨u, hu, ru⟩ := rv.get (List.getElem?_eq_getElem hj')
      rw [hx'] at hu; cases hu
      exact ⟨_, List.getElem?_eq_getElem hj', ru⟩
    · have e' : b = it ∨ b = a := by simpa using hb
      rcases e' with z | z
      · exact .inl z
      · right; rw [z]; have : H a = some (.lst vs) := hs; rw [this]; simp
  | tup a vs =>
    obtain ⟨its, rv, p, hz⟩ := I.tuple (K_sq (K := X.K) hs)
    have hne : a ≠ it := fun e => by subst e; exact rd_some (show Rd H a (.tup vs) from hs) hit
    refine ⟨[it, a], fun i v => its.toArray[i]? = some v, fun i h => h.IsTupleIter it a i ∧ h.IsTuple a its.toArray, ?_, ⟨st, show s.heap.IsTuple a its.toArray from p⟩, ?_, fun j h q => q.1, by simp, fun b hb => ?_⟩
    · show Draws X.prog X.w B it [it, a] vs.length _ _
      have := Draws.tuple (prog := X.prog) (w := X.w) (A := B) hh it a hne its.toArray
      rw [List.size_toArray, ← rv.length] at this
      exact this
    · intro j x hx
      have hx' : its[j]? = some x := by simpa using hx
      have hj := (List.getElem?_eq_some_iff.mp hx').1
      have hj' : j < vs.length := by rw [rv.length]; exact hj
      obtain ⟨u, hu, ru⟩ := rv.get (List.getElem?_eq_getElem hj')
      rw [hx'] at hu; cases hu
      exact ⟨_, List.getElem?_eq_getElem hj', ru⟩
    · have e' : b = it ∨ b = a := by simpa using hb
      rcases e' with z | z
      · exact .inl z
      · right; rw [z]; exact rd_some (show Rd H a (.tup vs) from hs)
  | str z =>
    obtain ⟨t, st⟩ := st
    refine ⟨[it], fun i v => ∃ c u, (S0 z).cps[i]? = some c ∧ v = .str ⟨#[c]⟩ u, fun j h => h.IsStrIter it (strIterType (S0 z)) (S0 z) t j, ?_, st, ?_, fun j h q => ⟨t, q⟩, by simp, fun b hb => .inl (by simpa using hb)⟩
    · show Draws X.prog X.w B it [it] (Src.str z).items.length _ _
      have := Draws.text (prog := X.prog) (w := X.w) (A := B) hh it (S0 z) t
      have e : (Src.str z).items.length = (S0 z).cps.size := by simp [Src.items]
      rw [e]
      exact this
    · rintro j x ⟨c, u, hc, rfl⟩
      have hc' : z[j]? = some c := by simpa using hc
      exact ⟨.str (S0 [c]), by simp only [Src.items, List.getElem?_map, hc']; rfl, ⟨u, rfl⟩⟩
/-- how the zip at z stands -/
def ZSt (z TI TO i1 i2 : Addr) (a b : Src) (i : Nat) (h : Heap) (H : Hp) : Prop :=
  (IsZip h z TI TO .none ∨ ∃ T f xs, IsZipHeld h z TI TO T f ∧ H T = some (.tup xs)) ∧ (∃ x y, IsTupOf2 h TO x y) ∧ IsTupOf2 h TI (.ref i1) (.ref i2) ∧ a.at_ i1 i h ∧ b.at_ i2 i h
def ZApart (z TI TO i1 i2 : Addr) : Prop := TI ≠ z ∧ TO ≠ z ∧ TI ≠ TO ∧ TI ≠ i1 ∧ TI ≠ i2 ∧ z ≠ i1 ∧ z ≠ i2 ∧ TO ≠ i1 ∧ TO ≠ i2 ∧ i1 ≠ i2
/-- the list at q is filled -/
structure ZRun (a b : Src) (q : Addr) (P : Nat → List V → Hp → Prop) (R : List V → Hp → Prop) : Prop where
  at_ : ∀ i acc H, P i acc H → H q = some (.lst acc) ∧ a.Has H ∧ b.Has H
  len : ∀ i acc H, P i acc H → i < a.items.length → acc.length < sizeLine
  step : ∀ i acc H T x y, P i acc H → H T = none → a.items[i]? = some x → b.items[i]? = some y → P (i + 1) (acc ++ [.ref T]) (upd (upd H T (.tup [x, y])) q (.lst (acc ++ [.ref T])))
  fin : ∀ i acc H, P i acc H → i = min a.items.length b.items.length → R acc H
theorem IsTupOf2.upd {h : Heap} {q T : Addr} {x y : Value} {f : Obj → Obj} (e : IsTupOf2 h T x y) (n : T ≠ q) : IsTupOf2 (h.update q f) T x y := (Heap.get?_update_other _ _ (Ne.symm n)).trans e
theorem zl_loop {A1 : Around} {a b : Src} {z TI TO i1 i2 q : Addr} {P : Nat → List V → Hp → Prop} {R : List V → Hp → Prop} {Rs : Result → Shared → Prop} (hh : A1.handled = none) (hzt : ZApart z TI TO i1 i2) (run : ZRun a b q P R)
    (hdone : ∀ acc H s, Inv X pins σ H s → R acc H → Rs (.ok (.ret .none)) s) :
    ∀ (m i : Nat) (acc : List V) (H : Hp) (s : Shared), i + m = min a.items.length b.items.length → Inv X pins σ H s → P i acc H → ZSt z TI TO i1 i2 a b i s.heap H → (∀ c ∈ [z, TI, TO, i1, i2], FpOk X pins H c) →
      codeAny (model X.prog X.w) A1 (.builtin "list.extend.loop" ⟨[.ref q, .ref z, .none], []⟩) Rs s := by
  obtain ⟨c1, c2, c3, c4, c5, c6, c7, c8, c9, c10⟩ := hzt
  intro m
  induction m with
  | zero =>
    intro i acc H s hm I hP st hf
    obtain ⟨hq, ha, hb⟩ := run.at_ _ _ _ hP
    obtain ⟨hzz, ⟨x0, y0, hTO⟩, hTI, h1, h2⟩ := st
    obtain ⟨fp1, P1, St1, D1, st1, hP1, hS1, hm1, hf1⟩ := Src.drawsA A1.in1.in1 I hh ha h1 (hf i1 (by simp)).1
    obtain ⟨fp2, P2, St2, D2, st2, hP2, hS2, hm2, hf2⟩ := Src.drawsA A1.in1.in1 I hh hb h2 (hf i2 (by simp)).1
    have out1 : ∀ c, c ≠ i1 → c ∈ [z, TI, TO, i1, i2] → c ∉ fp1 := fun c hne hcm q => (hf1 c q).elim hne fun w => w (hf c hcm).1
    have out2 : ∀ c, c ≠ i2 → c ∈ [z, TI, TO, i1, i2] → c ∉ fp2 := fun c hne hcm q => (hf2 c q).elim hne fun w => w (hf c hcm).1
    have S : ZipSep2 z TI TO i1 i2 fp1 fp2 := ⟨c1, c2, c3, c4, hm1, out1 z c6 (by simp), out1 TO c8 (by simp), c5, hm2, out2 z c7 (by simp), out2 TO c9 (by simp), out2 i1 c10 (by simp), out1 i2 (Ne.symm c10) (by simp)⟩
    refine codeAny_builtin PySem.F.entry_extend_loop ?_
    rw [Around.under_plainId PySem.F.plain_extend_loop _]
    show wpAny _ A1.in1 (pyNext (.ref z) >>= _) _ _ s
    refine wpAny_bind ?_
    rcases hzz with hz | ⟨T, f, xs, hz, hTn⟩
    · refine wpAny_pyNext_zipD2_end S D1 D2 hz hTI hTO st1 st2 (by omega) (by omega) (by omega) fun h' tk hk => ?_
      exact wpAny_pure (hdone acc H _ (I.turnedL (t' := tk) (ch := [z, TI, TO, i1, i2]) (fun c o hb q => hk c o (fun q' => hb (by simp [q'])) (fun q' => hb (by simp [q'])) (fun q' => hb (by simp [q'])) (fun q' => hb (by simp [q'])) q) hf) (run.fin _ _ _ hP (by omega)))
    · obtain ⟨its, rv, ⟨oT, hT, _⟩, _⟩ := I.tuple (show SqT X.K H T xs from .inl (.inl hTn))
      refine pyEnd_held S D1 D2 hz hT hTI st1 st2 (by omega) (by omega) (by omega) fun h' tk hk => ?_
      exact wpAny_pure (hdone acc H _ (I.turnedL (t' := tk) (ch := [z, TI, TO, i1, i2]) (fun c o hb q => hk c o (fun q' => hb (by simp [q'])) (fun q' => hb (by simp [q'])) (fun q' => hb (by simp [q'])) q) hf) (run.fin _ _ _ hP (by omega)))
  | succ m ih =>
    intro i acc H s hm I hP st hf
    obtain ⟨hq, ha, hb⟩ := run.at_ _ _ _ hP
    obtain ⟨hzz, ⟨x0, y0, hTO⟩, hTI, h1, h2⟩ := st
    have li1 : i < a.items.length := by omega
    have li2 : i < b.items.length := by omega
    obtain ⟨fp1, P1, St1, D1, st1, hP1, hS1, hm1, hf1⟩ := Src.drawsA A1.in1.in1 I hh ha h1 (hf i1 (by simp)).1
    obtain ⟨fp2, P2, St2, D2, st2, hP2, hS2, hm2, hf2⟩ := Src.drawsA A1.in1.in1 I hh hb h2 (hf i2 (by simp)).1
    have out1 : ∀ c, c ≠ i1 → c ∈ [z, TI, TO, i1, i2] → c ∉ fp1 := fun c hne hcm q => (hf1 c q).elim hne fun w => w (hf c hcm).1
    have out2 : ∀ c, c ≠ i2 → c ∈ [z, TI, TO, i1, i2] → c ∉ fp2 := fun c hne hcm q => (hf2 c q).elim hne fun w => w (hf c hcm).1
    have S : ZipSep2 z TI TO i1 i2 fp1 fp2 := ⟨c1, c2, c3, c4, hm1, out1 z c6 (by simp), out1 TO c8 (by simp), c5, hm2, out2 z c7 (by simp), out2 TO c9 (by simp), out2 i1 c10 (by simp), out1 i2 (Ne.symm c10) (by simp)⟩
    have hlen := run.len _ _ _ hP li1
    have lt : ∀ c ∈ [z, TI, TO, i1, i2], c ≠ s.heap.objs.size := fun c hc e => by
      have h3 : ∃ o, s.heap.get? c = some o := by
        have e' : c = z ∨ c = TI ∨ c = TO ∨ c = i1 ∨ c = i2 := by simpa using hc
        rcases e' with w | w | w | w | w
        · rw [w]; rcases hzz with hz | ⟨_, _, _, hz, _⟩ <;> exact ⟨_, hz⟩
        · rw [w]; exact ⟨_, hTI⟩
        · rw [w]; exact ⟨_, hTO⟩
        · rw [w]; obtain ⟨o, ho, _⟩ := Src.obj h1; exact ⟨o, ho⟩
        · rw [w]; obtain ⟨o, ho, _⟩ := Src.obj h2; exact ⟨o, ho⟩
      obtain ⟨o, ho⟩ := h3
      exact Nat.ne_of_lt (Heap.lt_size ho) e
    have nz : ∀ c ∈ [z, TI, TO, i1, i2], c ≠ q := fun c hc e => by have := (hf c hc).1; rw [e, hq] at this; cases this
    -- one turn, the new pair at the heap's end
    have turn : ∀ (u u2 : Value) (h' : Heap) (tk : Nat), P1 i u → P2 i u2 → (∃ T f, IsZipHeld h' z TI TO T f ∧ (T = s.heap.objs.size ∨ ∃ xs, H T = some (.tup xs))) → (∃ x y, IsTupOf2 h' TO x y) → IsTupOf2 h' TI (.ref i1) (.ref i2) → St1 (i + 1) h' → St2 (i + 1) h' → IsTupOf2 h' s.heap.objs.size u u2 →
        (∀ c o, c ∉ [z, TI, TO, i1, i2] → s.heap.get? c = some o → h'.get? c = some o) →
        wpAny (model X.prog X.w) A1.in1 (updateSeq q (·.push (.ref s.heap.objs.size)) >>= fun _ => again (.builtin "list.extend.loop" ⟨[.ref q, .ref z, .none], []⟩))
          (fun fin s' => match fin with | .done f => Rs (.ok f) s' | .again c' => c'.quiet = true ∧ codeAny (model X.prog X.w) A1 c' Rs s') (fun e s' => Rs (.error e) s') { s with heap := h', toks := tk } := by
      intro u u2 h' tk hp1 hp2 hzh hTO' hTI' s1' s2' hT hk
      obtain ⟨x, hx, ru⟩ := hP1 i u hp1
      obtain ⟨y, hy, ru2⟩ := hP2 i u2 hp2
      have new : ObjOk X.prog X.w (upd H s.heap.objs.size (.tup [x, y])) h' s.heap.objs.size (.tup [x, y]) :=
        ⟨by show 2 ≤ sizeLine; rw [sizeLine_eq]; decide, [u, u2], .cons ru (.cons ru2 .nil), ⟨_, hT, rfl, _, rfl⟩⟩
      have I1 : Inv X pins σ (upd H s.heap.objs.size (.tup [x, y])) { s with heap := h', toks := tk } := I.turnedNew (t' := tk) (ch := [z, TI, TO, i1, i2]) hk hf (Nat.le_refl _) new
      have fr : H s.heap.objs.size = none := I.hok.fresh (Nat.le_refl _)
      have nq : q ≠ s.heap.objs.size := ne_of_none hq fr
      have hq1 : upd H s.heap.objs.size (.tup [x, y]) q = some (.lst acc) := by rw [upd_ne nq]; exact hq
      obtain ⟨zl, its, k, r2, hl, e⟩ := I1.lstM hq1
      refine wpAny_bind (wpAny_updateSeq e rfl (wpAny_pure ⟨plainId_quiet PySem.F.plain_extend_loop _, ?_⟩) (by rw [List.size_toArray]; omega) (by show (its.toArray.push _).size ≤ sizeLine + 1; rw [Array.size_push, List.size_toArray]; omega))
      have I2 := I1.lset (its' := its ++ [.ref s.heap.objs.size]) (ys := acc ++ [.ref s.heap.objs.size]) (f := (·.push (.ref s.heap.objs.size))) (t' := tk) hq1 e (by simp) (r2.append (.cons (show RelV (.ref s.heap.objs.size) (.ref s.heap.objs.size) from rfl) .nil)) (by rw [List.length_append, List.length_singleton]; omega)
      have keep : ∀ c o, c ≠ q → h'.get? c = some o → (h'.update q (Obj.mapSeq (·.push (.ref s.heap.objs.size)))).get? c = some o := fun c o n e => (Heap.get?_update_other _ _ (Ne.symm n)).trans e
      refine ih (i + 1) (acc ++ [.ref s.heap.objs.size]) _ _ (by omega) I2 (run.step _ _ _ _ _ _ hP fr hx hy) ⟨?_, ?_, ?_, ?_, ?_⟩ fun c hc => ?_
      · obtain ⟨T, f, hz, hT3⟩ := hzh
        rcases hT3 with rfl | ⟨xs, hT3⟩
        · exact .inr ⟨_, f, _, keep _ _ (nz z (by simp)) hz, by rw [upd_ne (Ne.symm nq), upd_same]⟩
        · refine .inr ⟨T, f, xs, keep _ _ (nz z (by simp)) hz, ?_⟩
          rw [upd_ne (fun e => by rw [e, hq] at hT3; cases hT3), upd_ne (ne_of_none hT3 fr)]
          exact hT3
      · obtain ⟨x', y', h3⟩ := hTO'
        exact ⟨x', y', keep _ _ (nz TO (by simp)) h3⟩
      · exact keep _ _ (nz TI (by simp)) hTI'
      · exact Src.keep (hS1 _ _ s1') fun o w => keep _ _ (nz i1 (by simp)) w
      · exact Src.keep (hS2 _ _ s2') fun o w => keep _ _ (nz i2 (by simp)) w
      · obtain ⟨f0, fr'⟩ := hf c hc
        exact ⟨by rw [upd_ne (nz c hc), upd_ne (lt c hc)]; exact f0, fr'⟩
    refine codeAny_builtin PySem.F.entry_extend_loop ?_
    rw [Around.under_plainId PySem.F.plain_extend_loop _]
    show wpAny _ A1.in1 (pyNext (.ref z) >>= _) _ _ s
    refine wpAny_bind ?_
    rcases hzz with hz | ⟨T, f, xs, hz, hTn⟩
    · refine wpAny_pyNext_zipD2_item S D1 D2 hz hTI hTO st1 st2 li1 li2 fun u u2 h' tk hp1 hp2 z' TO' s1' s2' hT hsz hk => ?_
      exact turn u u2 h' tk hp1 hp2 ⟨_, false, z', .inl rfl⟩ ⟨_, _, TO'⟩ (hk _ _ c1 c3 c4 c5 hTI) s1' s2' hT fun c o hb w => hk c o (fun q' => hb (by simp [q'])) (fun q' => hb (by simp [q'])) (fun q' => hb (by simp [q'])) (fun q' => hb (by simp [q'])) w
    · obtain ⟨its, rv, ⟨oT, hT0, _⟩, _⟩ := I.tuple (show SqT X.K H T xs from .inl (.inl hTn))
      refine pyNext_held S D1 D2 hz hT0 hTI st1 st2 li1 li2 fun u u2 h' tk hp1 hp2 z' s1' s2' hT hsz hk => ?_
      exact turn u u2 h' tk hp1 hp2 ⟨T, true, z', .inr ⟨xs, hTn⟩⟩ ⟨_, _, hk _ _ c2 c8 c9 hTO⟩ (hk _ _ c1 c4 c5 hTI) s1' s2' hT fun c o hb w => hk c o (fun q' => hb (by simp [q'])) (fun q' => hb (by simp [q'])) (fun q' => hb (by simp [q'])) w
/-- list(z), z a zip -/
theorem call_listZip {a b : Src} {z TI TO i1 i2 : Addr} {Q : VK} {A1 : Around} (I : Inv X pins σ H s) (hh : A1.handled = none) (hzt : ZApart z TI TO i1 i2) (st : ZSt z TI TO i1 i2 a b 0 s.heap H) (hz : IsZip s.heap z TI TO .none)
    (hf : ∀ c ∈ [z, TI, TO, i1, i2], FpOk X pins H c) (h : ∀ q, H q = none → ∃ P : Nat → List V → Hp → Prop, P 0 [] (upd H q (.lst [])) ∧ ZRun a b q P fun _ H' => Q (.ref q) H') :
    wpAny (model X.prog X.w) A1 (call (.type "list") [.ref z]) (EP X pins σ Q) X.xe s := by
  refine callType_codes (Q₁ := fun obj s₁ => obj = .ref s.heap.objs.size ∧ s₁ = { s with heap := s.heap.push { cls := .type "list", data := .seq #[] } }) PySem.F.called_list (PySem.F.typeCall_list_1 _) PySem.F.entry_list_init
    (code_list_new _ ⟨rfl, rfl⟩) fun obj s₁ h₁ => ?_
  obtain ⟨rfl, rfl⟩ := h₁
  have hS : (s.heap.push { cls := .type "list", data := .seq #[] }).get? s.heap.objs.size = some { cls := .type "list", data := .seq #[] } := Heap.get?_push_size _ rfl
  refine ⟨⟨_, hS, rfl⟩, PySem.F.args_list_init_2 _ _, ?_⟩
  have fr : H s.heap.objs.size = none := I.hok.fresh (Nat.le_refl _)
  obtain ⟨P, hP, run⟩ := h _ fr
  generalize hq : s.heap.objs.size = q at *
  have I1 : Inv X pins σ (upd H q (.lst [])) { s with heap := s.heap.push { cls := .type "list", data := .seq #[] } } := by
    have := I.lnew (its := []) (ys := []) (t' := s.toks) .nil (Nat.zero_le _)
    rw [hq] at this
    exact this
  have h5 : ∀ c ∈ [z, TI, TO, i1, i2], ∃ o, s.heap.get? c = some o := fun c hc => by
    obtain ⟨hzz, ⟨x0, y0, hTO⟩, hTI, h1, h2⟩ := st
    have e' : c = z ∨ c = TI ∨ c = TO ∨ c = i1 ∨ c = i2 := by simpa using hc
    rcases e' with w | w | w | w | w
    · rw [w]; exact ⟨_, hz⟩
    · rw [w]; exact ⟨_, hTI⟩
    · rw [w]; exact ⟨_, hTO⟩
    · rw [w]; obtain ⟨o, ho, _⟩ := Src.obj h1; exact ⟨o, ho⟩
    · rw [w]; obtain ⟨o, ho, _⟩ := Src.obj h2; exact ⟨o, ho⟩
  have ne : ∀ c ∈ [z, TI, TO, i1, i2], c ≠ q := fun c hc e => by
    obtain ⟨o, ho⟩ := h5 c hc
    have := Heap.lt_size ho
    rw [hq, e] at this
    exact Nat.lt_irrefl _ this
  -- the zip stands in every later heap
  have keepSt : ∀ (h' : Heap) (H' : Hp), (∀ c o, c ≠ q → s.heap.get? c = some o → h'.get? c = some o) → ZSt z TI TO i1 i2 a b 0 h' H' := fun h' H' k => by
    obtain ⟨hzz, ⟨x0, y0, hTO⟩, hTI, h1, h2⟩ := st
    exact ⟨.inl (k _ _ (ne z (by simp)) hz), ⟨x0, y0, k _ _ (ne TO (by simp)) hTO⟩, k _ _ (ne TI (by simp)) hTI, Src.keep h1 fun o w => k _ _ (ne i1 (by simp)) w, Src.keep h2 fun o w => k _ _ (ne i2 (by simp)) w⟩
  have fpq : ∀ (H' : Hp), (∀ b, b ≠ q → H' b = H b) → ∀ c ∈ [z, TI, TO, i1, i2], FpOk X pins H' c := fun H' e c hc => by
    obtain ⟨f0, r⟩ := hf c hc
    exact ⟨by rw [e c (ne c hc)]; exact f0, r⟩
  show wpAny _ _ (do let old ← Builtin.List.listItems (.ref q); Builtin.List.listUpdate (.ref q) (fun _ => #[]); letGo old.toList.reverse; Builtin.List.listExtendWith (.ref q) (.ref z) .none) _ _ _
  refine wpAny_bind ?_
  unfold Builtin.List.listItems
  refine wpAny_bind (wpAny_seqItems hS rfl (wpAny_pure ?_))
  show wpAny _ _ (updateSeq q (fun _ => #[]) >>= fun _ => letGo (#[] : Array Value).toList.reverse >>= fun _ => Builtin.List.listExtendWith (.ref q) (.ref z) .none) _ _ _
  refine wpAny_bind (wpAny_updateSeq hS rfl ?_)
  have I2 := I1.lset (f := fun _ => #[]) (its := []) (its' := []) (ys := []) (t' := s.toks) upd_same hS rfl .nil (Nat.zero_le _)
  rw [upd_upd] at I2
  refine wpAny_bind (wpAny_letGo ?_)
  have k2 : ∀ c o, c ≠ q → s.heap.get? c = some o → ((s.heap.push { cls := .type "list", data := .seq #[] }).update q (Obj.mapSeq fun _ => #[])).get? c = some o := fun c o n e =>
    (Heap.get?_update_other _ _ (Ne.symm n)).trans (Heap.get?_push_of_some _ e)
  have z2 : IsZip ((s.heap.push { cls := .type "list", data := .seq #[] }).update q (Obj.mapSeq fun _ => #[])) z TI TO .none := k2 _ _ (ne z (by simp)) hz
  have tz : Shared.TypeIs { s with heap := (s.heap.push { cls := .type "list", data := .seq #[] }).update q (Obj.mapSeq fun _ => #[]), toks := s.toks } (.ref z) "zip" := ⟨_, z2, rfl⟩
  unfold Builtin.List.listExtendWith
  refine wpAny_bind (wpAny_typeOf tz ?_)
  have h1 : Builtin.List.listSameRef (.ref q) (.ref z) = false := by simp [Builtin.List.listSameRef, (Ne.symm (ne z (by simp)))]
  have h2 : (Value.type "zip" == Value.type "list") = false := by decide
  have h3 : (Value.type "zip" == Value.type "tuple") = false := by decide
  simp only [h1, h2, h3, Bool.or_false, Bool.false_eq_true, if_false]
  refine wpAny_bind (wpAny_pyIter_zip z2 ?_)
  refine wpAny_bind (wpAny_holding ?_)
  unfold Builtin.List.listLengthHint
  refine wpAny_bind (wpAny_specialOf tz zip_no_len ?_)
  show wpAny _ _ (specialOf (Value.ref z) (Str.ofString "__length_hint__") >>= _) _ _ _
  refine wpAny_bind (wpAny_specialOf tz zip_no_hint ?_)
  refine wpAny_pure ?_
  obtain ⟨zz, its, k, r3, hl3, e3⟩ := I2.lstM upd_same
  cases r3
  show wpAny _ _ (rule "list.extend.makes-room" >>= fun _ => Builtin.List.listTouch (.ref q) >>= fun _ =>
    again (.builtin "list.extend.loop" ⟨[.ref q, .ref z, .none], []⟩)) _ _ _
  refine wpAny_bind (wpAny_rule ?_)
  refine wpAny_bind ?_
  show wpAny _ _ (updateSeq q (·.push .none) >>= fun _ => updateSeq q (·.pop)) _ _ _
  refine wpAny_bind (wpAny_updateSeq e3 rfl ?_)
  have I3 := I2.lset (f := (·.push Value.none)) (its' := [Value.none]) (ys := [.non]) (t' := s.toks) upd_same e3 (by simp) (.cons rfl .nil) (by rw [List.length_singleton, sizeLine_eq]; decide)
  obtain ⟨z4, its4, k4, r4, hl4, e4⟩ := I3.lstM upd_same
  obtain ⟨u4, rfl, ru4⟩ := r4.one
  refine wpAny_updateSeq e4 rfl ?_ (by show 1 ≤ sizeLine; rw [sizeLine_eq]; decide) (by show 0 ≤ sizeLine + 1; exact Nat.zero_le _)
  have I4 := I3.lset (f := (·.pop)) (its := [u4]) (its' := []) (ys := []) (t' := s.toks) upd_same e4 (by rfl) .nil (Nat.zero_le _)
  rw [upd_upd, upd_upd] at I4
  refine wpAny_pure ⟨plainId_quiet PySem.F.plain_extend_loop _, zl_loop (A1 := A1.in1) (Rs := wants (fun r s₂ => r = .none ∧ EP X pins σ Q (.ref q) s₂) X.xe) hh hzt run (fun acc H' s' I' hR => ⟨rfl, .ref q, H', I', rfl, hR⟩) _ 0 [] _ _ (Nat.zero_add _) I4 hP (keepSt _ _ fun c o n e => ?_) (fpq _ fun b hb => upd_ne hb)⟩
  exact (Heap.get?_update_other _ _ (Ne.symm n)).trans ((Heap.get?_update_other _ _ (Ne.symm n)).trans (k2 c o n e))
/-- list(zip(x, y)) -/
def tLz (ta : TA) : TE := fun σ H Q => ta σ H fun vs H1 => ∃ a b : Src, vs = [a.v, b.v] ∧ a.Has H1 ∧ b.Has H1 ∧ ∀ q, H1 q = none → ∃ P : Nat → List V → Hp → Prop, P 0 [] (upd H1 q (.lst [])) ∧ ZRun a b q P fun _ H' => Q (.ref q) H'
theorem pe_lz {e e2 : Expr} {ta : TA} {p p2 pos pos2 : Pos} (hg : Gl X "zip") (hm : X.mg "zip" = none) (hg2 : Gl X "list") (hm2 : X.mg "list" = none) (hc : X.calm = true) (ha : PA X [e, e2] ta)
    (hs : starEach [e, e2] X.env = (false, eval e X.env) :: starEach [e2] X.env) (hpl : (backTo pos2 (starEach [e2] X.env)).any (·.1) = false) :
    PE X (.Call (.Name "list" p) [.Call (.Name "zip" p2) [e, e2] [] pos2] [] pos) (tLz ta) := by
  refine ⟨fun pins s σ H Q I h => ?_⟩
  refine PyProof.Rows.Call_ (ld_blt I hg2 hm2 PyProof.Rows.boot_list (PyProof.Rows.callWith_type1 ?_ rfl rfl))
  show wpAny _ _ (spliced ((false, eval (.Call (.Name "zip" p2) [e, e2] [] pos2) X.env) :: backTo pos (starEach [] X.env))) _ _ s
  refine Calls.spliced_cons ?_
  refine PyProof.Rows.Call_ (ld_blt I hg hm PyProof.Rows.boot_zip (PyProof.Rows.callWith_type1 (thn (ha.run pos2 pins s σ H _ I h) fun us s1 ⟨vs, H1, I1, r1, q1⟩ => ?_) hs hpl))
  obtain ⟨a, b, ex, hqx, hqy, q⟩ := q1
  subst ex
  cases r1 with
  | cons r rr =>
    cases rr with
    | cons r' rr =>
      cases rr
      obtain ⟨o1, G1, B1, hG1, hfr1, hit1⟩ := Src.begins I1 hqx r
      obtain ⟨o2, G2, B2, hG2, hfr2, hit2⟩ := Src.begins I1 hqy r'
      refine zip_begins2 B1 B2 hG1 hG2 fun h' hz hTI hTO h1 h2 hsz hk => ?_
      refine Calls.spliced_nil ?_
      have I2 : Inv X pins σ H1 { s1 with heap := h' } := I1.kept (t' := s1.toks) hk
      generalize hn : s1.heap.objs.size = n at *
      refine call_listZip I2 (I.ok.hd hc) (z := n + 4) (TI := n + 2) (TO := n + 3) (i1 := n) (i2 := n + 1) (a := a) (b := b) ?_ ⟨.inl hz, ⟨_, _, hTO⟩, hTI, hit1 _ _ h1, hit2 _ _ h2⟩ hz (fun c hcm => ?_) q
      · refine ⟨?_, ?_, ?_, ?_, ?_, ?_, ?_, ?_, ?_, ?_⟩ <;> (intro z; have : ∀ x y : Nat, n + x = n + y → x = y := fun x y h => Nat.add_left_cancel h; first | exact absurd (this _ _ z) (by decide) | exact absurd (this _ 0 z) (by decide) | exact absurd (this 0 _ z) (by decide))
      · have e' : c = n + 4 ∨ c = n + 2 ∨ c = n + 3 ∨ c = n ∨ c = n + 1 := by simpa using hcm
        have hle : n ≤ c := by
          rcases e' with z | z | z | z | z
          · rw [z]; exact Nat.le_add_right _ _
          · rw [z]; exact Nat.le_add_right _ _
          · rw [z]; exact Nat.le_add_right _ _
          · rw [z]; exact Nat.le_refl _
          · rw [z]; exact Nat.le_add_right _ _
        rw [← hn] at hle
        exact I1.fpOk hle (I1.hok.fresh hle)
end
theorem zipD_at {ds es : List D} {i : Nat} {x y : D} (h1 : ds[i]? = some x) (h2 : es[i]? = some y) : (zipD ds es)[i]? = some (.tup [x, y]) := by
  unfold zipD
  have e : (ds.zip es)[i]? = some (x, y) := List.getElem?_zip_eq_some.mpr ⟨h1, h2⟩
  rw [List.getElem?_map, e]
  rfl
/-- list(zip(..)) of data -/
def lzR (ds : List D) : Res D := (zipV ds).bind fun l => .ok (.lst l)
section
variable {X : Cx} {E : EX} {fs : Env → Res (List D)} {p p2 pos pos2 : Pos} {a b : Expr}
theorem Src.has_up {src : Src} {F H : Hp} (h : src.Has F) (s : Same F H) : src.Has H := by
  cases src with
  | lst a vs => exact s _ _ h
  | tup a vs => exact rd_same s (show Rd F a (.tup vs) from h)
  | str s => trivial
theorem df_lz (hg : Gl X "zip") (hm : X.mg "zip" = none) (hg2 : Gl X "list") (hm2 : X.mg "list" = none) (hc : X.calm = true) (ha : DEs X E [a, b] fs) (hs : starEach [a, b] X.env = (false, eval a X.env) :: starEach [b] X.env) (hpl : (backTo pos2 (starEach [b] X.env)).any (·.1) = false) :
    DF X E (.Call (.Name "list" p) [.Call (.Name "zip" p2) [a, b] [] pos2] [] pos) (fun ρ => (fs ρ).bind lzR) :=
  pe_weak (pe_lz hg hm hg2 hm2 hc ha hs hpl) fun σ H Q ⟨F, ρ, s, re, q⟩ => ⟨F, ρ, s, re, RW.imp (RW.bind q) (fun ds hd vs F1 H1 e1 r1 => by
    unfold lzR zipV at hd
    split at hd
    · rename_i d e
      have hd := RW.bind hd
      obtain ⟨items, e2, h2⟩ := seq_ok (ds := []) hd
      obtain ⟨items', e3, h3⟩ := seq_ok (ds := []) h2
      split at h3
      case isFalse => exact h3.elim
      rename_i hz
      obtain ⟨v, r, rfl, g1, g2⟩ := r1.uncons
      obtain ⟨v', r', rfl, g1', g2'⟩ := g2.uncons
      have := g2'.nil_eq; subst this
      obtain ⟨src, rfl, k1, k2⟩ := src_seq g1 e2
      obtain ⟨src', rfl, k1', k2'⟩ := src_seq g1' e3
      have fin : ∀ p F' H', Ext F H F' H' → H p = none → F' p = none → OwnAt X.K F' H' p (.lst (zipD items items')) → Q (.ref p) H' := h3
      have l1 := k2.length
      have l2 := k2'.length
      refine ⟨src, src', rfl, Src.has_up k1 e1.sub, Src.has_up k1' e1.sub, fun q hq => ?_⟩
      have hq0 : H q = none := Same.free e1.same hq
      have fq : F1 q = none := Same.free e1.sub hq
      refine ⟨fun i acc H' => ∃ F', Ext F1 H1 F' H' ∧ F' q = none ∧ H' q = some (.lst acc) ∧ Reps X.K F' ((zipD items items').take i) acc, ⟨F1, ⟨same_upd hq, Same.refl _, e1.sub.trans (same_upd hq), fun _ _ z => .inl z⟩, fq, upd_same, by rw [List.take_zero]; exact Reps.nil⟩, ?_, ?_, ?_, ?_⟩
      · rintro i acc H' ⟨F', x, n, e, rp⟩
        exact ⟨e, Src.has_up k1 (x.grow.trans x.sub), Src.has_up k1' (x.grow.trans x.sub)⟩
      · rintro i acc H' ⟨F', x, n, e, rp⟩ hi
        have := rp.length
        rw [this, List.length_take]
        have b1 : src.items.length ≤ sizeLine := by rw [l1]; exact seq_len g1 e2
        omega
      · rintro i acc H' T x y ⟨F', ex, n, e, rp⟩ hT hx hy
        obtain ⟨d1, ed1, rd1⟩ := k2.get' hx
        obtain ⟨d2, ed2, rd2⟩ := k2'.get' hy
        have hxy := zipOk_at hz ed1 ed2
        obtain ⟨x1, x2⟩ := new_tup (K := X.K) hxy ex.sub hT (Reps.cons (rd1.mono ex.grow) (Reps.cons (rd2.mono ex.grow) Reps.nil)) (by rw [PySem.sizeLine_eq]; show 2 ≤ 16777216; decide)
        have nq : q ≠ T := ne_of_none e hT
        have n2 : upd F' T (.tup [x, y]) q = none := by rw [upd_ne nq]; exact n
        refine ⟨upd F' T (.tup [x, y]), ⟨fun b o hb => ?_, ex.grow.trans x1.grow, fun b o hb => ?_, fun b h1 h2 => ?_⟩, n2, upd_same, ?_⟩
        · rw [upd_ne (ne_of_none hb hq)]
          exact x1.same _ _ (ex.same _ _ hb)
        · have nb : b ≠ q := fun z => by rw [z, n2] at hb; cases hb
          rw [upd_ne nb]
          exact x1.sub _ _ hb
        · rcases x1.new b (by
            cases w : H1 b with
            | none => exact absurd w h1
            | some o => rw [ex.same _ _ w]; simp) h2 with z | ⟨vs, z⟩
          · exact ex.new b h1 z
          · cases w : H1 b with
            | none => exact absurd w h1
            | some o => rw [ex.same _ _ w] at z; exact .inr ⟨vs, z⟩
        · have hz2 : (zipD items items')[i]? = some (.tup [d1, d2]) := zipD_at ed1 ed2
          have ht : (zipD items items').take (i + 1) = (zipD items items').take i ++ [.tup [d1, d2]] := by
            rw [List.take_add_one, hz2]; rfl
          rw [ht]
          exact (rp.mono x1.grow).append (Reps.nil.cons x2)
      · rintro i acc H' ⟨F', ex, n, e, rp⟩ hi
        refine fin q F' H' (e1.trans ex) hq0 n ⟨acc, e, ?_, by rw [zipD_length]; exact Nat.le_trans (Nat.min_le_left _ _) (seq_len g1 e2)⟩
        have : (zipD items items').take i = zipD items items' := List.take_of_length_le (by rw [zipD_length, hi, l1, l2]; exact Nat.le_refl _)
        rw [this] at rp
        exact rp
    · exact hd.elim) fun _ z => z⟩
end
end DL
/-! The data layer, I: max(d.values()). -/
namespace DL
open PySem PySem.Spec L2 PyProof.Rows
section
variable {X : Cx} {o : Expr} {p pos apos mpos : Pos} {td : TE}
def tMaxVals (td : TE) : TE := fun σ H Q => td σ H fun x H1 => ∃ a kvs is, x = V.ref a ∧ Rd H1 a (.dK kvs) ∧ kvs.map (·.2) = is.map V.int ∧ is ≠ [] ∧ ∀ m, m ∈ is → (∀ j ∈ is, j ≤ m) → Q (.int m) H1
theorem pe_maxVals (hc : X.calm = true) (hg : Gl X "max") (hm : X.mg "max" = none) (hd : PE X o td) (hbase : attributeBase o "values" X.env (eval o X.env) = eval o X.env) (hline : (apos.endLine == mpos.line) = true)
    (hse : starEach [Expr.Call (.Attribute o "values" apos) [] [] mpos] X.env = [(false, eval (Expr.Call (.Attribute o "values" apos) [] [] mpos) X.env)] := by rfl) :
    PE X (.Call (.Name "max" p) [.Call (.Attribute o "values" apos) [] [] mpos] [] pos) (tMaxVals td) := by
  refine ⟨fun pins s σ H Q I h => ?_⟩
  refine wpAny_Call_Name_kw (ld_blt I hg hm (u := .builtin "max") (by first | rfl | decide +kernel) ?_ (by first | decide +kernel | decide) (by first | decide +kernel | decide))
  rw [hse]
  refine PySem.callWith_builtin1 (wpAny_Call_method0_late hbase hline (thn (hd.run pins s σ H _ I h) fun v s1 ⟨x, H1, I1, r1, a, kvs, is, ex, ha, hv, hne, q⟩ => ?_))
  subst ex
  obtain rfl : v = Value.ref a := r1
  obtain ⟨_, hsys, vs, rel, dof⟩ := dk_rd I1.hok ha
  obtain ⟨ep, dat⟩ := dof.dictAt
  have dat' := dat
  obtain ⟨ob, es, ho, ex, hdat, hko, hpr, hnd⟩ := dat'
  refine ⟨"dict", "dict.values", F.plainAttrs_dict, F.slot_dict_values, F.type_dict_values, ⟨ob, ho, ex.1⟩, fun b e => ?_, Calls.callWith_builtin rfl (PySem.evalArgs_none ?_)⟩
  · cases e
    exact ⟨ob, ho, ex.2.1⟩
  refine call_meetsIn F.slot_dict_values ⟨ob, ho, ex.1⟩ F.entry_dict_values (F.args_dict_values_1 _) (meets_dict_values (mixKind X.prog X.w) a hsys) ⟨⟨vs, dof⟩, ?_⟩
  have k1 : ∀ b u, s1.heap.get? b = some u → (s1.heap.push { cls := .type "dict_values", data := .fields #[.ref a] }).get? b = some u := fun b u e => Heap.get?_push_of_some _ e
  have dat1 : (s1.heap.push { cls := .type "dict_values", data := .fields #[.ref a] }).DictAt (mixKind X.prog X.w) a vs ep := dat.keep k1
  have hlv : vs.length = is.length := by
    have e1 := congrArg List.length hv
    rw [List.length_map, List.length_map] at e1
    rw [← e1]
    exact (KV.length rel).symm
  have hlen : 0 < vs.length := by
    rw [hlv]
    exact List.length_pos_iff.mpr hne
  have hval : ∀ (i : Nat) (v : Value), (∃ k, vs[i]? = some (k, v)) → ∃ t, v = Value.int (is.getD i 0) t := fun i v ⟨k, hk⟩ => by
    obtain ⟨x, h1, h2⟩ := KV.at' rel hk
    have e1 : (kvs.map (·.2))[i]? = some x := by rw [List.getElem?_map, h1] <;> rfl
    rw [hv, List.getElem?_map] at e1
    obtain ⟨j, hj, e2⟩ := Option.map_eq_some_iff.mp e1
    subst e2
    obtain ⟨t, e3⟩ := h2
    refine ⟨t, ?_⟩
    rw [e3, List.getD_eq_getElem?_getD, hj] <;> rfl
  refine call_max_walk (wpAny_pyIter_values (v := s1.heap.objs.size) (d := a) ⟨_, Heap.get?_push_size _ rfl, rfl, rfl⟩ dat1 ?_)
  have hlt : a < s1.heap.objs.size := Heap.lt_size ho
  have hsz : (s1.heap.push { cls := .type "dict_values", data := .fields #[.ref a] }).objs.size = s1.heap.objs.size + 1 := Heap.size_push _ _
  refine ⟨_, _, _, _, _, _, _, rfl, Walks.dictValues (knd := mixKind X.prog X.w) (A := X.A.in1) (I.ok.hd hc) (s1.heap.push { cls := .type "dict_values", data := .fields #[.ref a] }).objs.size a (by rw [hsz]; exact Nat.ne_of_lt (Nat.lt_succ_of_lt hlt)) vs ep,
    ⟨⟨_, Heap.get?_push_size _ rfl, rfl, rfl⟩, dat1.keep fun b u e => Heap.get?_push_of_some _ e⟩, fun b hb => ?_, hlen, CmpOf.ints_gt (fun i => is.getD i 0) hval, fun v h' tk hP hk => ?_⟩
  · show b < ((s1.heap.push _).push _).objs.size
    rw [Heap.size_push, Heap.size_push]
    rw [hsz] at hb
    rcases List.mem_cons.mp hb with e | hb
    · rw [e]
      exact Nat.lt_succ_self _
    · have e : b = a := List.mem_singleton.mp hb
      rw [e]
      exact Nat.lt_succ_of_lt (Nat.lt_succ_of_lt hlt)
  · obtain ⟨t, rfl⟩ := hval _ v hP
    obtain ⟨b1, b2⟩ := argBest_gt (fun i => is.getD i 0) (vs.length - 1)
    refine ⟨.int _, H1, I1.kept (t' := tk) fun b u e => hk b u (fun hmem => ?_) (Heap.get?_push_of_some _ (k1 b u e)), ⟨t, rfl⟩, q _ ?_ fun j hj => ?_⟩
    · have e1 : b = (s1.heap.push { cls := .type "dict_values", data := .fields #[.ref a] }).objs.size := List.mem_singleton.mp hmem
      have e2 := Heap.lt_size e
      rw [hsz] at e1
      rw [e1] at e2
      exact absurd e2 (Nat.not_lt.mpr (Nat.le_succ _))
    · have hb : argBest (fun i j => decide (is.getD i 0 > is.getD j 0)) (vs.length - 1) < is.length := by omega
      rw [List.getD_eq_getElem?_getD, List.getElem?_eq_getElem hb]
      exact List.getElem_mem hb
    · obtain ⟨i, hi, e⟩ := List.mem_iff_getElem.mp hj
      have e2 : is.getD i 0 = j := by rw [List.getD_eq_getElem?_getD, List.getElem?_eq_getElem hi, ← e] <;> rfl
      rw [← e2]
      exact b2 i (by omega)
end
/-- max of a dict's values, ints -/
def maxvR : D → Res D
  | .dic false kvs => (match intsOf (kvs.map (·.2)) with
    | some (i :: is) => .ok (.int (is.foldl max i))
    | _ => .bad)
  | _ => .bad
theorem foldl_max : ∀ (is : List Int) (i : Int), is.foldl max i ∈ i :: is ∧ ∀ j ∈ i :: is, j ≤ is.foldl max i
  | [], i => ⟨by simp, by simp⟩
  | j :: is, i => by
    obtain ⟨h1, h2⟩ := foldl_max is (max i j)
    rw [List.foldl_cons]
    refine ⟨?_, fun x hx => ?_⟩
    · rcases List.mem_cons.mp h1 with e | e
      · rw [e]
        rcases Int.le_total i j with h | h
        · rw [Int.max_eq_right h]; simp
        · rw [Int.max_eq_left h]; simp
      · simp [e]
    · have hm := h2 (max i j) (by simp)
      rcases List.mem_cons.mp hx with e | e
      · rw [e]; exact Int.le_trans (Int.le_max_left i j) hm
      · rcases List.mem_cons.mp e with e | e
        · rw [e]; exact Int.le_trans (Int.le_max_right i j) hm
        · exact h2 x (by simp [e])
theorem RepK.vals {K : PySem.W.Frag} {F : Hp} : ∀ {kvs : List (D × D)} {hk : List (Key × V)} {is : List Int}, RepK K F kvs hk → intsOf (kvs.map (·.2)) = some is → hk.map (·.2) = is.map V.int
  | [], hk, is, h, e => by
    simp only [RepK] at h; subst h
    cases e; rfl
  | (k, d) :: kvs, hk, is, h, e => by
    simp only [RepK] at h
    obtain ⟨k', v, r, rfl, h1, h2⟩ := h
    simp only [RepKV] at h1
    rw [List.map_cons] at e
    cases d with
    | int i =>
      simp only [intsOf] at e
      obtain ⟨js, e1, rfl⟩ := Option.map_eq_some_iff.mp e
      rw [List.map_cons, List.map_cons, RepK.vals h2 e1]
      rw [rep_int h1.2]
    | _ => simp [intsOf] at e
section
variable {X : Cx} {E : EX} {f : Env → Res D} {p pos apos mpos : Pos} {o : Expr}
theorem de_mxv (hc : X.calm = true) (hg : Gl X "max") (hm : X.mg "max" = none) (ho : DE X E o f) (hbase : attributeBase o "values" X.env (eval o X.env) = eval o X.env) (hline : (apos.endLine == mpos.line) = true) :
    DE X E (.Call (.Name "max" p) [.Call (.Attribute o "values" apos) [] [] mpos] [] pos) (fun ρ => (f ρ).bind maxvR) :=
  pe_weak (pe_maxVals hc hg hm ho hbase hline) fun σ H Q ⟨F, ρ, s, re, q⟩ => ⟨F, ρ, s, re, RW.imp (RW.bind q) (fun d hd v F' H' e1 r1 => by
    unfold maxvR at hd
    split at hd
    · rename_i kvs
      split at hd
      · rename_i i is ei
        simp only [Rep] at r1
        obtain ⟨a, ob, rfl, hl, hk, g1, g2⟩ := r1
        refine ⟨a, hk, i :: is, rfl, .inr ⟨ob, e1.sub _ _ g1⟩, g2.vals ei, by simp, fun m hm hle => ?_⟩
        have : m = is.foldl max i := by
          obtain ⟨f1, f2⟩ := foldl_max is i
          exact Int.le_antisymm (f2 m hm) (hle _ f1)
        rw [this]
        exact hd _ F' H' e1 mk_int
      · exact hd.elim
    · exact hd.elim) fun _ z => z⟩
end
end DL
/-! The data layer, 10: a small language of expressions, its reading, the look that takes Python's expressions to it. -/
namespace DL
open PySem PySem.Spec L2

inductive Op2 where
  | add | sub | mul | fdiv | mod | pow | eq | ne | lt | le | gt | ge | is | isn | inn | nin | ix
  deriving DecidableEq, Repr
def Op2.fn : Op2 → D → D → Res D
  | .add => addD | .sub => subD | .mul => mulD | .fdiv => fdivD | .mod => modD | .pow => powD
  | .eq => eqR | .ne => neR | .lt => ltR | .le => leR | .gt => gtR | .ge => geR | .is => isR | .isn => isnR | .inn => inR | .nin => ninR | .ix => ixR
inductive Blt where
  | len | int | max | min | sum | any | all | list | tuple | sorted | dict
  deriving DecidableEq, Repr
def Blt.fn : Blt → List D → Res D
  | .len => lenR | .int => intR | .max => maxZ | .min => minR | .sum => sumR | .any => anyR | .all => allR | .list => listR | .tuple => tupleR | .sorted => sortZ | .dict => dictR
def Blt.nm : Blt → String
  | .len => "len" | .int => "int" | .max => "max" | .min => "min" | .sum => "sum" | .any => "any" | .all => "all" | .list => "list" | .tuple => "tuple" | .sorted => "sorted" | .dict => "dict"
def bltAll : List Blt := [.len, .int, .max, .min, .sum, .any, .all, .list, .tuple, .sorted, .dict]
def bltOf (x : Str) : Option Blt := bltAll.find? fun b => decide (x = Str.ofString b.nm)
inductive Mth where
  | index | count | find | join | get
  deriving DecidableEq, Repr
def isSL (d : D) : Bool := isStr d || isLst d
def idxA (x : D) (ds : List D) : Res D := if isStr x = true then idxS x ds else idxL x ds
def Mth.ty : Mth → D → Bool
  | .index => isSL | .count => isStr | .find => isStr | .join => isStr | .get => isDct
def Mth.fn : Mth → D → List D → Res D
  | .index => idxA | .count => cntS | .find => fndS | .join => joinS | .get => getR
def Mth.nm : Mth → String
  | .index => "index" | .count => "count" | .find => "find" | .join => "join" | .get => "get"
def mthAll : List Mth := [.index, .count, .find, .join, .get]
def mthOf (x : Str) : Option Mth := mthAll.find? fun b => decide (x = Str.ofString b.nm)
/-- forms of one part, of two parts -/
inductive U1 where
  | mxv
  deriving DecidableEq, Repr
def U1.fn : U1 → D → Res D
  | .mxv => maxvR
inductive B2 where
  | lz
  deriving DecidableEq, Repr
def B2.fn : B2 → List D → Res D
  | .lz => lzR
inductive ItK where
  | val | rng1 | rng2 | enum | zip | items | vals
  deriving DecidableEq, Repr
def one1 (f : D → Res (List D)) : List D → Res (List D)
  | [d] => f d
  | _ => .bad
def ItK.fn : ItK → List D → Res (List D)
  | .val => one1 itemsOf | .rng1 => DL.rng1 | .rng2 => DL.rng2 | .enum => enumV | .zip => zipV | .items => one1 itemsR | .vals => one1 valsR

mutual
inductive Tg where
  | name (i : Nat) | tup (ts : Tgs)
inductive Tgs where
  | nil | cons (t : Tg) (ts : Tgs)
end
def Tgs.len : Tgs → Nat
  | .nil => 0
  | .cons _ ts => ts.len + 1
mutual
def bT : Tg → D → Env → Res Env
  | .name i => bName i
  | .tup ts => bTup ts.len (bTs ts)
def bTs : Tgs → List D → Env → Res Env
  | .nil => bNil
  | .cons t ts => bCons (bT t) (bTs ts)
end
mutual
def Tg.slots : Tg → List Nat
  | .name i => [i]
  | .tup ts => ts.slots
def Tgs.slots : Tgs → List Nat
  | .nil => []
  | .cons t ts => t.slots ++ ts.slots
end
mutual
inductive Ex where
  | var (i : Nat) | lit (d : D) | tup (es : Exs) | lst (es : Exs) | dic (t : Bool) | dic1 (i j : Int)
  | op (o : Op2) (a b : Ex) | neg (a : Ex) | no (a : Ex) | and (a b : Ex) | or (a b : Ex) | chain (o o' : Op2) (a b c : Ex) | ife (c a b : Ex)
  | slice (a : Ex) (l h : Exs) | rev (a : Ex) | call (j n : Nat) (es : Exs) | blt (b : Blt) (es : Exs) | mth (m : Mth) (o : Ex) (es : Exs) | isi (T : Ty6) (a : Ex) | sset (a : Ex) | lset (a : Ex) | un (u : U1) (a : Ex) | bi (u : B2) (a b : Ex)
  | comp (k : ItK) (es : Exs) (vs : List Nat) (tg : Tg) (t e : Ex)
inductive Exs where
  | nil | cons (e : Ex) (es : Exs)
end
def Exs.len : Exs → Nat
  | .nil => 0
  | .cons _ es => es.len + 1
def negR : D → Res D
  | .int i => .ok (.int (-i))
  | _ => .bad
/-- a part of a slice: none, or one -/
def partL : List D → Res (Option Int)
  | [] => .ok none
  | [.int i] => .ok (some i)
  | _ => .bad
mutual
def ev (Φ : List (List D → Res D)) : Ex → Env → Res D
  | .var i => getV i
  | .lit d => cst d
  | .tup es => tupV (evs Φ es)
  | .lst es => lstV (evs Φ es)
  | .dic t => newD t
  | .dic1 i j => dic1D i j
  | .op o a b => ap2 o.fn (ev Φ a) (ev Φ b)
  | .neg a => fun ρ => (ev Φ a ρ).bind negR
  | .no a => notV (ev Φ a)
  | .and a b => andV (ev Φ a) (ev Φ b)
  | .or a b => orV (ev Φ a) (ev Φ b)
  | .chain o o' a b c => chainV o.fn o'.fn (ev Φ a) (ev Φ b) (ev Φ c)
  | .ife c a b => ifV (tst (ev Φ c)) (ev Φ a) (ev Φ b)
  | .slice a l h => apSl (ev Φ a) (fun ρ => (evs Φ l ρ).bind partL) (fun ρ => (evs Φ h ρ).bind partL)
  | .rev a => fun ρ => (ev Φ a ρ).bind revR
  | .call j n es => callV n (Φ.getD j fun _ => .bad) (evs Φ es)
  | .blt b es => fun ρ => (evs Φ es ρ).bind b.fn
  | .mth m o es => mthV m.ty m.fn (ev Φ o) (evs Φ es)
  | .isi T a => fun ρ => (ev Φ a ρ).bind (isI T)
  | .sset a => fun ρ => (ev Φ a ρ).bind sortSetR
  | .lset a => fun ρ => (ev Φ a ρ).bind lenSetR
  | .un u a => fun ρ => (ev Φ a ρ).bind u.fn
  | .bi u a b => fun ρ => (argsC (ev Φ a) (argsC (ev Φ b) argsN) ρ).bind u.fn
  | .comp k es vs tg t e => compV (fun ρ => (evs Φ es ρ).bind k.fn) vs (bT tg) (tst (ev Φ t)) (ev Φ e)
def evs (Φ : List (List D → Res D)) : Exs → Env → Res (List D)
  | .nil => argsN
  | .cons e es => argsC (ev Φ e) (evs Φ es)
end

/-! ### the look -/
/-- the module's name x is a plain tuple of these texts -/
def tupN (K : PySem.W.Frag) (x : Str) (ys : List Str) : Bool := He.tupB K x (ys.map He.Dv.str) && (match K.lookup (He.ga K x) with
  | some ⟨.type c, none, _, _⟩ => decide (c = "tuple")
  | _ => false)
structure Gam where
  N : List Str
  sc : Scope
  fns : List (Str × Nat)
  cons : List (Str × D)
  free : List Str
  tk : Bool
  st : List (Str × NameKind)
  excs : List Str
  tups : List (Str × List Str)
structure Ok (Γ : Gam) (Φ : List (List D → Res D)) (X : Cx) (E : EX) : Prop where
  N : X.N = Γ.N
  nd : X.N.Nodup
  sc : X.env.scope = Γ.sc
  calm : X.calm = true
  units : X.A.units + 65 < cLine
  fn : ∀ x, Γ.st.lookup x = some .cell → X.fn x = true
  blt : ∀ x, x ∈ Γ.free → X.mg x = none
  fns : ∀ j x n, Γ.fns[j]? = some (x, n) → ∃ k, FnD X.prog X.w X.K X.mg X.base k x n (Φ.getD j fun _ => .bad) ∧ Room k X.A
  pass : ∀ σ, PassesAt (L2.CX X.prog X.w) X σ (E σ)
  cons : ∀ x d, (x, d) ∈ Γ.cons → ∃ u v, X.mg x = some u ∧ RelV v u ∧ ∀ F, Rep X.K F d v
  excs : ∀ x, x ∈ Γ.excs → X.mg x = some (.ref (He.ga X.K x)) ∧ (He.Fa.exc x).ok X.K = true
  tups : ∀ x ys, (x, ys) ∈ Γ.tups → X.mg x = some (.ref (He.ga X.K x)) ∧ tupN X.K x ys = true
def slot (N : List Str) (x : Str) : Option Nat := if N[N.idxOf x]? = some x then some (N.idxOf x) else none
theorem slot_ok {N : List Str} {x : Str} {i : Nat} (h : slot N x = some i) : N[i]? = some x := by
  unfold slot at h
  split at h
  · cases h; assumption
  · cases h
def binO : Operator → Option Op2
  | .Add => some .add | .Sub => some .sub | .Mult => some .mul | .FloorDiv => some .fdiv | .Mod => some .mod | .Pow => some .pow
  | _ => none
def cmpO : CmpOp → Option Op2
  | .Eq => some .eq | .NotEq => some .ne | .Lt => some .lt | .LtE => some .le | .Gt => some .gt | .GtE => some .ge | .Is => some .is | .IsNot => some .isn | .In => some .inn | .NotIn => some .nin
theorem bin_ok (X : Cx) {o : Operator} {m : Op2} (h : binO o = some m) : ∃ r, OpR X (binaryOp o) r ∧ Good2 X.K r m.fn ∧ NoX2 m.fn := by
  cases o <;> cases h
  · exact ⟨_, op_addAll, good_add, nox_add⟩
  · exact ⟨_, op_sub, good_sub, nox_sub⟩
  · exact ⟨_, op_mulAll, good_mul, nox_mul⟩
  · exact ⟨_, op_mod, good_mod, nox_mod⟩
  · exact ⟨_, op_pow, good_pow, nox_pow⟩
  · exact ⟨_, op_fdiv, good_fdiv, nox_fdiv⟩
theorem cmp_ok (X : Cx) (hu : X.A.units + 65 < cLine) {o : CmpOp} {m : Op2} (h : cmpO o = some m) : ∃ r, OpR X (compareOp o) r ∧ Good2 X.K r m.fn ∧ NoX2 m.fn := by
  cases o <;> cases h
  · exact ⟨_, op_eqD (by omega), good_eq, nox_eq⟩
  · exact ⟨_, op_neD (by omega), good_ne, nox_ne⟩
  · exact ⟨_, op_ltA, good_lt, nox_lt⟩
  · exact ⟨_, op_leA, good_le, nox_le⟩
  · exact ⟨_, op_gtA, good_gt, nox_gt⟩
  · exact ⟨_, op_geA, good_ge, nox_ge⟩
  · exact ⟨_, op_isA, good_is, nox_is⟩
  · exact ⟨_, op_isnA, good_isn, nox_isn⟩
  · exact ⟨_, op_inA hu, good_in, nox_in⟩
  · exact ⟨_, op_ninA hu, good_nin, nox_nin⟩

/-! ### forms -/
def notStar : Expr → Bool
  | .Starred .. => false
  | _ => true
theorem star_cons {a : Expr} {es : List Expr} {env : PySem.Env} (h : notStar a = true) : starEach (a :: es) env = (false, eval a env) :: starEach es env := by
  cases a <;> first | rfl | cases h
theorem star_plain {env : PySem.Env} {pos : Pos} : ∀ {es : List Expr}, es.all notStar = true → (backTo pos (starEach es env)).any (·.1) = false
  | [], _ => rfl
  | a :: es, h => by
    rw [List.all_cons, Bool.and_eq_true] at h
    rw [star_cons h.1]
    exact star_plain (es := es) h.2
theorem star_all {env : PySem.Env} {pos : Pos} : ∀ {es : List Expr}, es.all notStar = true → (backTo pos (starEach es env)).all (fun x => !x.1) = true
  | [], _ => rfl
  | a :: es, h => by
    rw [List.all_cons, Bool.and_eq_true] at h
    rw [star_cons h.1]
    exact star_all (es := es) h.2
theorem star_few {env : PySem.Env} {pos : Pos} {es : List Expr} (h : es.all notStar = true) (hl : es.length < 30) : ((backTo pos (starEach es env)).all (fun x => !x.1) && (backToKw pos (keywordEach [] env)).all (fun x => x.1.isSome)
      && decide (es.length + ([] : List Keyword).length + (if ([] : List Keyword).isEmpty then 0 else 1) < 30)) = true := by
  rw [star_all h, Bool.true_and]
  show (true && decide _) = true
  rw [Bool.true_and]
  exact decide_eq_true (by show es.length + 0 + 0 < 30; omega)
def notCall0 : Expr → Bool
  | .Call _ [] [] _ => false
  | _ => true
theorem base_ok {o : Expr} {m : Str} {env : PySem.Env} {w : Sem Value} (h : notCall0 o = true) : attributeBase o m env w = w := by
  unfold attributeBase
  split
  · cases h
  · rfl
def notSet : Expr → Bool
  | .Set .. => false
  | _ => true
theorem fold_ok {o : Expr} {env : PySem.Env} {x : Value} (h : notSet o = true) : foldedSetIterable o env x = pure x := by
  cases o <;> first | rfl | cases h
def notSlice : Expr → Bool
  | .Slice .. => false
  | _ => true
theorem plainIx_ok {b : Expr} (h : notSlice b = true) : PlainIx b := fun o i => by
  cases b <;> first | rfl | cases h
/-- heads whose truth is that of their value -/
def valHead : Expr → Bool
  | .Name .. => true
  | .Call .. => true
  | .Constant .. => true
  | .Subscript .. => true
  | _ => false
theorem valHead_ok {e : Expr} {env : PySem.Env} (h : valHead e = true) : ∀ whole, isTrue e env whole = (do let v ← whole; standAt e.pos; holding [v] (truthy v)) := by
  intro whole
  cases e <;> first | rfl | cases h
theorem assign_cons {a : Expr} {es : List Expr} {env : PySem.Env} (h : notStar a = true) : assignEach (a :: es) env = (false, assign a env) :: assignEach es env := by
  cases a <;> first | rfl | cases h
theorem assign_len {env : PySem.Env} : ∀ {es : List Expr}, es.all notStar = true → (assignEach es env).length = es.length ∧ (assignEach es env).findIdx? (·.1) = none
  | [], _ => ⟨rfl, rfl⟩
  | a :: es, h => by
    rw [List.all_cons, Bool.and_eq_true] at h
    obtain ⟨h1, h2⟩ := assign_len (es := es) (env := env) h.2
    rw [assign_cons h.1]
    refine ⟨by simp [h1], ?_⟩
    rw [List.findIdx?_cons, h2]
    rfl
/-! ### targets -/
def tgR : Nat → Gam → Expr → Option Tg
  | 0, _, _ => none
  | n + 1, Γ, e => match e with
    | .Name x _ => if Γ.sc.names.lookup x = some .local ∨ (Γ.sc.names.lookup x = some .cell ∧ Γ.st.lookup x = some .cell) then (slot Γ.N x).map .name else none
    | .Tuple es _ _ => (go n Γ es).map .tup
    | _ => none
where go : Nat → Gam → List Expr → Option Tgs
  | _, _, [] => some .nil
  | 0, _, _ :: _ => none
  | n + 1, Γ, e :: es => if notStar e = true then (match tgR n Γ e, go n Γ es with | some a, some b => some (.cons a b) | _, _ => none) else none
theorem tgR_ok {Φ : List (List D → Res D)} {E : EX} : ∀ (n : Nat) (Γ : Gam) (X : Cx), Ok Γ Φ X E → (∀ e t, tgR n Γ e = some t → DG X e t.slots (bT t)) ∧ ∀ es ts, tgR.go n Γ es = some ts → DGs X es ts.slots (bTs ts) ∧ es.all notStar = true ∧ es.length = ts.len
  | 0, Γ, X, O => ⟨fun e t h => (by cases h), fun es ts h => by
    cases es with
    | nil => cases h; exact ⟨dgs_nil, rfl, rfl⟩
    | cons e es => cases h⟩
  | n + 1, Γ, X, O => by
    obtain ⟨i1, i2⟩ := tgR_ok (Φ := Φ) (E := E) n Γ X O
    refine ⟨fun e t h => ?_, fun es ts h => ?_⟩
    · unfold tgR at h
      split at h
      · rename_i x p
        split at h
        · rename_i hk
          obtain ⟨i, hi, rfl⟩ := Option.map_eq_some_iff.mp h
          have hN : X.N[i]? = some x := by rw [O.N]; exact slot_ok hi
          have hk' : X.env.scope.names.lookup x = some .local ∨ (X.env.scope.names.lookup x = some .cell ∧ X.fn x = true) := by
            rw [O.sc]
            exact hk.imp id fun z => ⟨z.1, O.fn x z.2⟩
          rcases hk' with z | z
          · exact dg_name O.nd hN (.inl z) (.inr z)
          · exact dg_name O.nd hN (.inr z.1) (.inl z.2)
        · cases h
      · rename_i es k p
        obtain ⟨ts, hts, rfl⟩ := Option.map_eq_some_iff.mp h
        obtain ⟨h1, h2, h3⟩ := i2 es ts hts
        obtain ⟨l1, l2⟩ := assign_len (env := X.env) h2
        exact dg_tup O.calm h1 (l1.trans h3) l2
      · cases h
    · cases es with
      | nil => cases h; exact ⟨dgs_nil, rfl, rfl⟩
      | cons e es =>
        unfold tgR.go at h
        split at h
        · rename_i hs
          split at h
          · rename_i a b ha hb
            cases h
            obtain ⟨h1, h2, h3⟩ := i2 es b hb
            exact ⟨dgs_cons (i1 e a ha) h1 (by rw [assign_cons hs]; rfl), by rw [List.all_cons, hs, h2]; rfl, by simp [Tgs.len, h3]⟩
          · cases h
        · cases h
end DL
/-! The data layer, 11: from Python's expressions to the small language. -/
namespace DL
open PySem PySem.Spec L2

/-- a look: a test (true) or a value (false) -/
abbrev Rc := Bool → Gam → Expr → Option Ex
structure Snd (Φ : List (List D → Res D)) (r : Rc) : Prop where
  val : ∀ Γ X E, Ok Γ Φ X E → ∀ e m, r false Γ e = some m → DE X E e (ev Φ m)
  tst : ∀ Γ X E, Ok Γ Φ X E → ∀ e m, r true Γ e = some m → DT X E e (tst (ev Φ m))

def esR (r : Rc) (Γ : Gam) : List Expr → Option Exs
  | [] => some .nil
  | e :: es => if notStar e = true then (match r false Γ e, esR r Γ es with | some a, some b => some (.cons a b) | _, _ => none) else none
theorem esR_nil {r : Rc} {Γ : Gam} {ms : Exs} (h : esR r Γ [] = some ms) : ms = .nil := by cases h; rfl
theorem esR_cons {r : Rc} {Γ : Gam} {e : Expr} {es : List Expr} {ms : Exs} (h : esR r Γ (e :: es) = some ms) : ∃ a b, r false Γ e = some a ∧ esR r Γ es = some b ∧ ms = .cons a b := by
  unfold esR at h
  split at h
  · split at h
    · rename_i a b ha hb
      cases h
      exact ⟨a, b, ha, hb, rfl⟩
    · cases h
  · cases h
theorem evs_len {Φ : List (List D → Res D)} {ρ : Env} : ∀ {es : Exs} {ds : List D}, evs Φ es ρ = .ok ds → ds.length = es.len
  | .nil, ds, h => by cases h; rfl
  | .cons e es, ds, h => by
    simp only [evs, argsC] at h
    cases e1 : ev Φ e ρ with
    | ok x =>
      rw [e1, Res.bind_ok] at h
      cases e2 : evs Φ es ρ with
      | ok xs =>
        rw [e2, Res.bind_ok] at h
        cases h
        simp [Exs.len, evs_len e2]
      | exc c => rw [e2] at h; cases h
      | bad => rw [e2] at h; cases h
    | exc c => rw [e1] at h; cases h
    | bad => rw [e1] at h; cases h
section
variable {Φ : List (List D → Res D)} {r : Rc} {Γ : Gam} {X : Cx} {E : EX}
theorem esR_ok (hr : Snd Φ r) (O : Ok Γ Φ X E) : ∀ es ms, esR r Γ es = some ms → DEs X E es (evs Φ ms) ∧ es.all notStar = true ∧ es.length = ms.len
  | [], ms, h => by cases h; exact ⟨das_nil, rfl, rfl⟩
  | e :: es, ms, h => by
    unfold esR at h
    split at h
    · rename_i hs
      split at h
      · rename_i a b ha hb
        cases h
        obtain ⟨h1, h2, h3⟩ := esR_ok hr O es b hb
        exact ⟨das_cons (hr.val Γ X E O e a ha) h1 (star_cons hs), by rw [List.all_cons, hs, h2]; rfl, by simp [Exs.len, h3]⟩
      · cases h
    · cases h
end
def boR (r : Rc) (b : Bool) (Γ : Gam) (op : BoolOp) : List Expr → Option Ex
  | [] => none
  | [a] => r b Γ a
  | a :: c :: rest => match r b Γ a, boR r b Γ op (c :: rest) with
    | some x, some y => some (match op with | .And => .and x y | .Or => .or x y)
    | _, _ => none
theorem tst_and (f g : Env → Res D) : tst (andV f g) = andT (tst f) (tst g) := by
  funext ρ
  simp only [tst, andV, andT]
  cases f ρ with
  | ok x =>
    cases x with
    | bl b => cases b <;> rfl
    | _ => rfl
  | exc c => rfl
  | bad => rfl
theorem tst_or (f g : Env → Res D) : tst (orV f g) = orT (tst f) (tst g) := by
  funext ρ
  simp only [tst, orV, orT]
  cases f ρ with
  | ok x =>
    cases x with
    | bl b => cases b <;> rfl
    | _ => rfl
  | exc c => rfl
  | bad => rfl
theorem tst_not (f : Env → Res D) : tst (notV f) = notT (tst f) := by
  funext ρ
  simp only [tst, notV, notT]
  cases f ρ with
  | ok x =>
    cases x with
    | bl b => cases b <;> rfl
    | _ => rfl
  | exc c => rfl
  | bad => rfl
section
variable {Φ : List (List D → Res D)} {r : Rc} {Γ : Gam} {X : Cx} {E : EX}
theorem boR_val (hr : Snd Φ r) (O : Ok Γ Φ X E) (op : BoolOp) (pos : Pos) : ∀ es m, boR r false Γ op es = some m → DE X E (.BoolOp op es pos) (ev Φ m)
  | [], m, h => by cases h
  | [a], m, h => de_one (hr.val Γ X E O a m h)
  | a :: c :: rest, m, h => by
    unfold boR at h
    split at h
    · rename_i x y hx hy
      cases h
      have h1 := hr.val Γ X E O a x hx
      have h2 := boR_val hr O op pos (c :: rest) y hy
      cases op with
      | And => exact de_and h1 h2
      | Or => exact de_or h1 h2
    · cases h
theorem boR_tst (hr : Snd Φ r) (O : Ok Γ Φ X E) (op : BoolOp) (pos : Pos) : ∀ es m, boR r true Γ op es = some m → DW X E (.BoolOp op es pos) (tst (ev Φ m))
  | [], m, h => by cases h
  | [a], m, h => dw_one op (hr.tst Γ X E O a m h)
  | a :: c :: rest, m, h => by
    unfold boR at h
    split at h
    · rename_i x y hx hy
      cases h
      have h1 := hr.tst Γ X E O a x hx
      have h2 := boR_tst hr O op pos (c :: rest) y hy
      cases op with
      | And => simp only [ev]; rw [tst_and]; exact dw_and h1 h2
      | Or => simp only [ev]; rw [tst_or]; exact dw_or h1 h2
    · cases h
end
/-! ### what is walked -/
def glob (Γ : Gam) (x : Str) : Bool := decide (Γ.sc.names.lookup x = some .globalImplicit)
def isFree (Γ : Gam) (x : Str) : Bool := glob Γ x && decide (x ∈ Γ.free)
def isTupE : Expr → Bool
  | .Tuple .. => true
  | _ => false
def ciR (r : Rc) (Γ : Gam) (tg iter : Expr) : Option (ItK × Exs) := match iter with
  | .Call (.Name x _) args [] _ =>
    if x = "range" then
      if isFree Γ x = true then (match args with
        | [_] => (esR r Γ args).map fun m => (.rng1, m)
        | [_, _] => (esR r Γ args).map fun m => (.rng2, m)
        | _ => none)
      else none
    else if x = "enumerate" then
      if isFree Γ x = true ∧ isTupE tg = true then (match args with
        | [_] => (esR r Γ args).map fun m => (.enum, m)
        | _ => none)
      else none
    else if x = "zip" then
      if isFree Γ x = true ∧ isTupE tg = true then (match args with
        | [_, _] => (esR r Γ args).map fun m => (.zip, m)
        | _ => none)
      else none
    else (r false Γ iter).map fun m => (.val, .cons m .nil)
  | .Call (.Attribute e x apos) [] [] cpos =>
    if notCall0 e = true ∧ (apos.endLine == cpos.line) = true then
      if x = "items" then (if isTupE tg = true then (r false Γ e).map fun m => (.items, .cons m .nil) else none)
      else if x = "values" then (r false Γ e).map fun m => (.vals, .cons m .nil)
      else none
    else none
  | _ => if notSet iter = true then (r false Γ iter).map fun m => (.val, .cons m .nil) else none
theorem ev_one {Φ : List (List D → Res D)} {m : Ex} {f : D → Res (List D)} : (fun ρ => (evs Φ (.cons m .nil) ρ).bind (one1 f)) = fun ρ => (ev Φ m ρ).bind f := by
  funext ρ
  simp only [evs, argsC, argsN]
  cases ev Φ m ρ with
  | ok d => rfl
  | exc c => rfl
  | bad => rfl
theorem di_valE {Φ : List (List D → Res D)} {X : Cx} {E : EX} {tg iter : Expr} {m : Ex} (h : DE X E iter (ev Φ m)) : DI X E tg iter (fun ρ => (evs Φ (.cons m .nil) ρ).bind (ItK.fn .val)) := by
  have e : (fun ρ => (evs Φ (.cons m .nil) ρ).bind (ItK.fn .val)) = fun ρ => (ev Φ m ρ).bind itemsOf := by
    funext ρ
    simp only [evs, argsC, argsN, ItK.fn]
    cases ev Φ m ρ with
    | ok d => rfl
    | exc c => rfl
    | bad => rfl
  rw [e]
  exact di_val h
theorem isFree_ok {Φ : List (List D → Res D)} {Γ : Gam} {X : Cx} {E : EX} (O : Ok Γ Φ X E) {x : Str} (h : isFree Γ x = true) : Gl X x ∧ X.mg x = none := by
  unfold isFree glob at h
  rw [Bool.and_eq_true, decide_eq_true_eq, decide_eq_true_eq] at h
  refine ⟨?_, O.blt x h.2⟩
  show X.env.scope.names.lookup x = _
  rw [O.sc]
  exact h.1
section
variable {Φ : List (List D → Res D)} {r : Rc} {Γ : Gam} {X : Cx} {E : EX}
theorem ciR_ok (hr : Snd Φ r) (O : Ok Γ Φ X E) {tg iter : Expr} {k : ItK} {ms : Exs} (h : ciR r Γ tg iter = some (k, ms)) : DI X E tg iter (fun ρ => (evs Φ ms ρ).bind k.fn) ∧ notSet iter = true := by
  unfold ciR at h
  split at h
  · rename_i x p args pos
    refine ⟨?_, rfl⟩
    split at h
    · rename_i hx
      split at h
      · rename_i hf
        obtain ⟨g1, g2⟩ := isFree_ok O hf
        subst hx
        split at h
        · rename_i a
          obtain ⟨m, hm, e⟩ := Option.map_eq_some_iff.mp h
          cases e
          obtain ⟨h1, h2, h3⟩ := esR_ok hr O _ _ hm
          rw [List.all_cons, Bool.and_eq_true] at h2
          exact di_range1 g1 g2 h1 (star_cons h2.1)
        · rename_i a b
          obtain ⟨m, hm, e⟩ := Option.map_eq_some_iff.mp h
          cases e
          obtain ⟨h1, h2, h3⟩ := esR_ok hr O _ _ hm
          rw [List.all_cons, Bool.and_eq_true] at h2
          have h4 := h2.2
          rw [List.all_cons, Bool.and_eq_true] at h4
          have s2 : starEach [b] X.env = [(false, eval b X.env)] := star_cons h4.1
          exact di_range2 g1 g2 h1 (by rw [star_cons h2.1, s2]) s2
        · cases h
      · cases h
    · split at h
      · rename_i hx
        split at h
        · rename_i hf
          obtain ⟨g1, g2⟩ := isFree_ok O hf.1
          subst hx
          split at h
          · rename_i a
            obtain ⟨m, hm, e⟩ := Option.map_eq_some_iff.mp h
            cases e
            obtain ⟨h1, h2, h3⟩ := esR_ok hr O _ _ hm
            rw [List.all_cons, Bool.and_eq_true] at h2
            cases tg <;> first | cases hf.2; done | exact di_enum g1 g2 h1 (star_cons h2.1)
          · cases h
        · cases h
      · split at h
        · rename_i hx
          split at h
          · rename_i hf
            obtain ⟨g1, g2⟩ := isFree_ok O hf.1
            subst hx
            split at h
            · rename_i a b
              obtain ⟨m, hm, e⟩ := Option.map_eq_some_iff.mp h
              cases e
              obtain ⟨h1, h2, h3⟩ := esR_ok hr O _ _ hm
              rw [List.all_cons, Bool.and_eq_true] at h2
              cases tg <;> first | cases hf.2; done | exact di_zip g1 g2 h1 (star_cons h2.1) (star_plain h2.2)
            · cases h
          · cases h
        · obtain ⟨m, hm, e⟩ := Option.map_eq_some_iff.mp h
          cases e
          exact di_valE (hr.val Γ X E O _ m hm)
  · rename_i e x apos cpos
    refine ⟨?_, rfl⟩
    split at h
    · rename_i hc
      split at h
      · rename_i hx
        subst hx
        split at h
        · rename_i ht
          obtain ⟨m, hm, e1⟩ := Option.map_eq_some_iff.mp h
          cases e1
          simp only [ItK.fn, ev_one]
          cases tg <;> first | cases ht; done | exact di_items (hr.val Γ X E O _ m hm) (base_ok hc.1) hc.2
        · cases h
      · split at h
        · rename_i hx
          subst hx
          obtain ⟨m, hm, e1⟩ := Option.map_eq_some_iff.mp h
          cases e1
          simp only [ItK.fn, ev_one]
          exact di_vals (hr.val Γ X E O _ m hm) (base_ok hc.1) hc.2
        · cases h
    · cases h
  · split at h
    · rename_i hs
      obtain ⟨m, hm, e⟩ := Option.map_eq_some_iff.mp h
      cases e
      exact ⟨di_valE (hr.val Γ X E O _ m hm), hs⟩
    · cases h
end
/-! ### comprehensions -/
def ownOf (N : List Str) (scope : Scope) : List (Str × Nat) := scope.names.filterMap fun y => match y.2 with
  | .local => (slot N y.1).map fun i => (y.1, i)
  | .cell => (slot N y.1).map fun i => (y.1, i)
  | _ => none
def blkG (Γ : Gam) (scope : Scope) : Gam := { Γ with sc := relS scope Γ.sc, st := scope.names }
def ifR (r : Rc) (Γ : Gam) : List Expr → Option Ex
  | [] => some (.lit (.bl true))
  | [c] => r true Γ c
  | _ => none
def compR (r : Rc) (Γ : Gam) (elt tg iter : Expr) (ifs : List Expr) (scope : Scope) : Option Ex :=
  if blkC Γ.N Γ.sc scope (ownOf Γ.N scope) = true then
    match ciR r Γ tg iter, tgR 20 (blkG Γ scope) tg, ifR r (blkG Γ scope) ifs, r false (blkG Γ scope) elt with
    | some (k, ms), some t, some c, some e => if t.slots.all (fun i => ((ownOf Γ.N scope).map (·.2)).contains i) = true then some (.comp k ms ((ownOf Γ.N scope).map (·.2)) t c e) else none
    | _, _, _, _ => none
  else none
section
variable {Φ : List (List D → Res D)} {r : Rc} {Γ : Gam} {X : Cx} {E : EX}
theorem Ok.blk (O : Ok Γ Φ X E) (scope : Scope) (s : Shared) (H : Hp) (C : Addr) (cl : List (Str × Addr)) (fp : List Addr) : Ok (blkG Γ scope) Φ (X.blk s H scope (compEnvC scope cl C X.env) fp) E0 where
  N := O.N
  nd := O.nd
  sc := by
    show relS scope X.env.scope = relS scope Γ.sc
    rw [O.sc]
  calm := O.calm
  units := O.units
  fn := fun x h => by
    show (scope.names.lookup x == some .cell) = true
    rw [show scope.names.lookup x = some .cell from h]
    rfl
  blt := O.blt
  fns := O.fns
  pass := fun σ pins H s e s' I c => by
    obtain ⟨_, _, _, _, _, _, _, _, _, _, _, _, z⟩ := c
    exact z.elim
  cons := O.cons
  excs := O.excs
  tups := O.tups
theorem compR_ok (hr : Snd Φ r) (O : Ok Γ Φ X E) {elt tg iter : Expr} {ifs : List Expr} {scope : Scope} {pos : Pos} {m : Ex} (h : compR r Γ elt tg iter ifs scope = some m) : DF X E (.ListComp elt [⟨tg, iter, ifs, 0⟩] scope pos) (ev Φ m) := by
  unfold compR at h
  split at h
  · rename_i hb
    split at h
    · rename_i k ms t c e hi ht hc he
      split at h
      · rename_i hv
        cases h
        obtain ⟨d1, d2⟩ := ciR_ok hr O hi
        have ok : BlkOk X.N X.env.scope scope (ownOf Γ.N scope) := by rw [O.N, O.sc]; exact blkOk_by hb
        simp only [ev]
        refine df_comp O.calm O.nd d1 ok (vs := t.slots) (fun s H C cl fp => (tgR_ok (Φ := Φ) (E := E0) 20 _ _ (O.blk scope s H C cl fp)).1 _ _ ht) (fun i hi => ?_) (fun s H C cl fp => ?_) (fun s H C cl fp => hr.val _ _ _ (O.blk scope s H C cl fp) _ _ he) (fun x => fold_ok d2)
        · have := List.all_eq_true.mp hv i hi
          simpa using this
        · have O' := O.blk scope s H C cl fp
          unfold ifR at hc
          split at hc
          · cases hc
            exact dts_nil
          · exact dts_one (hr.tst _ _ _ O' _ _ hc)
          · cases hc
      · cases h
    · cases h
  · cases h
end
end DL
/-! The data layer, 11b: T.index(e) of a tuple of texts of the module. -/
namespace DL
open PySem PySem.Spec L2
def litX : List Str → Exs
  | [] => .nil
  | y :: ys => .cons (.lit (.str y.cps.toList)) (litX ys)
theorem litX_ev {Φ : List (List D → Res D)} {ρ : Env} : ∀ ys : List Str, evs Φ (litX ys) ρ = .ok (ys.map fun y => .str y.cps.toList)
  | [] => by simp only [litX, evs, argsN]; rfl
  | y :: ys => by
    simp only [litX, evs, argsC, litX_ev ys]
    simp only [ev, cst, Res.bind_ok, List.map_cons]
theorem S0_cps (y : Str) : S0 y.cps.toList = y := by
  cases y
  simp [S0]
section
variable {Φ : List (List D → Res D)} {X : Cx} {E : EX}
theorem tupN_ok {K : PySem.W.Frag} {x : Str} {ys : List Str} (h : tupN K x ys = true) (H : Hp) : SqT K H (He.ga K x) (ys.map V.str) ∧ tyV K "tuple" (.ref (He.ga K x)) H := by
  unfold tupN at h
  rw [Bool.and_eq_true] at h
  refine ⟨by have := He.tupB_ok h.1 H; rw [List.map_map] at this; exact this, .inr (.inl ⟨rfl, ?_⟩)⟩
  have h2 := h.2
  split at h2
  · rename_i c dt sl e
    rw [decide_eq_true_eq] at h2
    subst h2
    exact ⟨_, e, rfl, rfl⟩
  · cases h2
theorem de_kidx {x : Str} {ys : List Str} {a : Expr} {m : Ex} {p apos cpos : Pos} (hg : Gl X x) (hm : X.mg x = some (.ref (He.ga X.K x))) (ht : tupN X.K x ys = true) (hd : (x == ("__debug__" : Str)) = false) (ha : DE X E a (ev Φ m))
    (hbase : attributeBase (.Name x p) "index" X.env (eval (.Name x p) X.env) = eval (.Name x p) X.env)
    (hfew : ((backTo cpos (starEach [a] X.env)).all (fun x => !x.1) && (backToKw cpos (keywordEach [] X.env)).all (fun x => x.1.isSome)
      && decide ([a].length + ([] : List Keyword).length + (if ([] : List Keyword).isEmpty then 0 else 1) < 30)) = true)
    (hline : (apos.endLine == cpos.line) = true) (hs : starEach [a] X.env = (false, eval a X.env) :: starEach [] X.env) (hplain : (backTo cpos (starEach [] X.env)).any (·.1) = false) :
    DE X E (.Call (.Attribute (.Name x p) "index" apos) [a] [] cpos) (ev Φ (.mth .index (.lst (litX ys)) (.cons m .nil))) :=
  pe_weak (pe_bm F.plainAttrs_tuple F.slot_tuple_index F.type_tuple_index mt_tup_index (pe_glob (v := V.ref (He.ga X.K x)) hg hm rfl hd) (das_cons ha das_nil hs) hbase hfew hline hs hplain) fun σ H Q ⟨F, ρ, s, re, h⟩ => by
    obtain ⟨q1, q2⟩ := tupN_ok ht H
    refine ⟨q2, F, ρ, s, re, ?_⟩
    have e : ev Φ (.mth .index (.lst (litX ys)) (.cons m .nil)) ρ = (ev Φ m ρ).bind fun d => idxL (.lst (ys.map fun y => .str y.cps.toList)) [d] := by
      simp only [ev, evs, mthV, lstV, litX_ev, argsC, argsN, Res.bind_ok]
      cases ev Φ m ρ <;> rfl
    rw [e] at h
    have e2 : argsC (ev Φ m) argsN ρ = (ev Φ m ρ).bind fun d => .ok [d] := by
      simp only [argsC, argsN, Res.bind_ok]
    rw [e2]
    cases em : ev Φ m ρ with
    | exc c => rw [em] at h; exact h
    | bad => rw [em] at h; exact h
    | ok d =>
      rw [em] at h
      simp only [Res.bind_ok] at h ⊢
      intro vs F' H' ex r
      obtain ⟨w, rfl, r2⟩ := r.one
      simp only [idxL] at h
      split at h
      · cases hf : (ys.map fun y => D.str y.cps.toList).findIdx? fun e => eqD e d with
        | none => rw [hf] at h; exact h.elim
        | some j =>
          rw [hf] at h
          obtain ⟨hj, g1, g2⟩ := List.findIdx?_eq_some_iff_getElem.mp hf
          have hj' : j < ys.length := by simpa using hj
          rw [List.getElem_map] at g1
          have hd2 : d = .str ys[j].cps.toList := by
            cases d with
            | str cs =>
              simp only [eqD] at g1
              rw [eq_of_beq g1]
            | _ => simp [eqD] at g1
          subst hd2
          obtain ⟨rfl, _, _⟩ := rep_str r2
          rw [S0_cps]
          refine ⟨_, ys, ys[j], j, rfl, rfl, (tupN_ok ht H').1, List.getElem?_eq_getElem hj', fun k hk z => ?_, h _ F' H' ex mk_int⟩
          have hk' : k < ys.length := by omega
          apply g2 k hk
          rw [List.getElem_map]
          have : ys[k] = ys[j] := by
            rw [List.getElem?_eq_getElem hk'] at z
            exact Option.some.inj z
          rw [this]
          simp [eqD]
      · exact h.elim
end
end DL
/-! The data layer, 12: calls; the whole look. -/
namespace DL
open PySem PySem.Spec L2

def fnIx (fns : List (Str × Nat)) (x : Str) : Option (Nat × Nat) := match fns[(fns.map (·.1)).idxOf x]? with
  | some (y, n) => if y = x then some ((fns.map (·.1)).idxOf x, n) else none
  | none => none
theorem fnIx_ok {fns : List (Str × Nat)} {x : Str} {j n : Nat} (h : fnIx fns x = some (j, n)) : fns[j]? = some (x, n) := by
  unfold fnIx at h
  split at h
  · rename_i y k e
    split at h
    · rename_i hy
      cases h
      rw [e, hy]
    · cases h
  · cases h
def tyAll : List Ty6 := [.int, .str, .bool, .list, .tuple, .dict]
def tyOfN (x : Str) : Option Ty6 := tyAll.find? fun b => decide (x = Str.ofString b.nm)
theorem find_nm {α : Type} {l : List α} {f : α → String} {x : Str} {a : α} (h : l.find? (fun b => decide (x = Str.ofString (f b))) = some a) : x = Str.ofString (f a) := by
  have := List.find?_some h
  simpa using this
/-- the argument set(a) -/
def setArg : List Expr → Option (Str × Expr)
  | [.Call (.Name x _) [a] [] _] => if x = "set" then some (x, a) else none
  | _ => none
/-- a call of a name -/
def callN (r : Rc) (Γ : Gam) (f : Str) (args : List Expr) : Option Ex :=
  if f = "__debug__" then none else
  match setArg args with
  | some (x, a) => if x = "set" ∧ isFree Γ x = true ∧ isFree Γ f = true ∧ notStar a = true then (match r false Γ a with
      | some m => if f = "sorted" then some (.sset m) else if f = "len" then some (.lset m) else none
      | none => none) else none
  | none =>
  match fnIx Γ.fns f with
  | some (j, n) => if glob Γ f = true then (match args with
      | [] => none
      | _ :: _ => (match esR r Γ args with
        | some ms => if ms.len = n then some (.call j n ms) else none
        | none => none)) else none
  | none => if isFree Γ f = true then
      (if f = "isinstance" then (match args with
        | [a, .Name T _] => if isFree Γ T = true ∧ notStar a = true then (match tyOfN T, r false Γ a with | some t, some m => some (.isi t m) | _, _ => none) else none
        | [a, .Tuple [.Name T _, .Name U _] _ _] => if isFree Γ T = true ∧ isFree Γ U = true ∧ notStar a = true then (match tyOfN T, tyOfN U, r false Γ a with | some t, some u, some m => some (.or (.isi t m) (.isi u m)) | _, _, _ => none) else none
        | _ => none)
      else match bltOf f with
        | some b => (match args with
          | [] => none
          | _ :: _ => (esR r Γ args).map (.blt b))
        | none => none)
      else none
/-- some calls of built-in names over calls -/
def spN (r : Rc) (Γ : Gam) (f : Str) (args : List Expr) : Option Ex := match args with
  | [.Call (.Name z _) [a, b] [] _] => if f = "list" ∧ z = "zip" ∧ isFree Γ f = true ∧ isFree Γ z = true ∧ notStar a = true ∧ notStar b = true then (match r false Γ a, r false Γ b with
      | some x, some y => some (.bi .lz x y)
      | _, _ => none) else none
  | [.Call (.Attribute o m apos) [] [] mpos] => if f = "max" ∧ m = "values" ∧ isFree Γ f = true ∧ notCall0 o = true ∧ (apos.endLine == mpos.line) = true then (r false Γ o).map (.un .mxv) else none
  | _ => none
/-- a call of a method -/
def kidxR (r : Rc) (Γ : Gam) (o : Expr) (m : Str) (args : List Expr) : Option Ex := match o, args with
  | .Name x _, [a] => if m = "index" ∧ glob Γ x = true ∧ x ≠ "__debug__" ∧ notStar a = true then
      (match Γ.tups.find? (fun q => decide (q.1 = x)), r false Γ a with
      | some q, some ma => some (.mth .index (.lst (litX q.2)) (.cons ma .nil))
      | _, _ => none)
    else none
  | _, _ => none
def callM (r : Rc) (Γ : Gam) (o : Expr) (m : Str) (apos pos : Pos) (args : List Expr) : Option Ex :=
  if (apos.endLine == pos.line) = true ∧ (kidxR r Γ o m args).isSome = true then kidxR r Γ o m args else
  if notCall0 o = true ∧ (apos.endLine == pos.line) = true ∧ args.length < 30 then
    match args with
    | [] => none
    | _ :: _ => (match mthOf m, r false Γ o, esR r Γ args with
      | some b, some x, some ms => if b = .get then (if args.length = 2 then some (.mth b x ms) else none) else some (.mth b x ms)
      | _, _, _ => none)
  else none
section
variable {Φ : List (List D → Res D)} {r : Rc} {Γ : Gam} {X : Cx} {E : EX}
theorem glob_ok (O : Ok Γ Φ X E) {x : Str} (h : glob Γ x = true) : Gl X x := by
  unfold glob at h
  rw [decide_eq_true_eq] at h
  show X.env.scope.names.lookup x = _
  rw [O.sc]
  exact h
theorem blt_ok (O : Ok Γ Φ X E) {x : Str} {b : Blt} (hx : bltOf x = some b) (hf : isFree Γ x = true) {e : Expr} {es : List Expr} {p pos : Pos} {fs : Env → Res (List D)} (ha : DEs X E (e :: es) fs)
    (he : starEach (e :: es) X.env = (false, eval e X.env) :: starEach es X.env) (hpl : (backTo pos (starEach es X.env)).any (·.1) = false) : DE X E (.Call (.Name x p) (e :: es) [] pos) (fun ρ => (fs ρ).bind b.fn) := by
  obtain ⟨g1, g2⟩ := isFree_ok O hf
  have e1 := find_nm hx
  subst e1
  cases b
  · exact de_bB call_len good_len nox_len g1 g2 PySem.boot_len (by decide) (by decide) ha he hpl
  · exact de_bT call_int1 good_int nox_int g1 g2 PyProof.Rows.boot_int (by decide) (by decide) ha he hpl
  · exact de_bB (CallR.or (CallR.or (call_max2 O.calm) (cr_max O.calm)) (call_maxDt O.calm O.units)) good_maxZ nox_maxZ g1 g2 (by decide +kernel) (by decide) (by decide) ha he hpl
  · exact de_bB (CallR.or (call_min2 O.calm) (cr_min O.calm)) good_min nox_min g1 g2 (by decide +kernel) (by decide) (by decide) ha he hpl
  · exact de_bB (cr_sum O.calm) good_sum nox_sum g1 g2 (by decide +kernel) (by decide) (by decide) ha he hpl
  · exact de_bB (cr_any O.calm) good_any nox_any g1 g2 (by decide +kernel) (by decide) (by decide) ha he hpl
  · exact de_bB (cr_all O.calm) good_all nox_all g1 g2 (by decide +kernel) (by decide) (by decide) ha he hpl
  · exact (df_bT call_list_of good_list nox_list g1 g2 PyProof.Rows.boot_list (by decide) (by decide) ha he hpl).de
  · exact de_bT call_tupleZ good_tuple nox_tuple g1 g2 PyProof.Rows.boot_tuple (by decide) (by decide) ha he hpl
  · exact (df_bB (CallR.or (CallR.or cr_sortedI cr_sortedT) (call_sortedD O.calm)) good_sortZ nox_sortZ g1 g2 PyProof.Rows.boot_sorted (by decide) (by decide) ha he hpl).de
  · exact (df_bT (call_dictZ O.calm) good_dict nox_dict g1 g2 PyProof.Rows.boot_dict (by decide) (by decide) ha he hpl).de
theorem ev_isi2 {T U : Ty6} {m : Ex} : ev Φ (.or (.isi T m) (.isi U m)) = fun ρ => (ev Φ m ρ).bind (isI2 T U) := by
  funext ρ
  simp only [ev, orV]
  cases ev Φ m ρ with
  | ok d =>
    simp only [Res.bind_ok, isI2]
    cases e : isI T d with
    | ok d' =>
      obtain ⟨b, rfl⟩ := isI_bl e
      cases b <;> rfl
    | exc c => rfl
    | bad => rfl
  | exc c => rfl
  | bad => rfl
theorem callN_ok (hr : Snd Φ r) (O : Ok Γ Φ X E) {f : Str} {args : List Expr} {m : Ex} {p pos : Pos} (h : callN r Γ f args = some m) : DE X E (.Call (.Name f p) args [] pos) (ev Φ m) := by
  unfold callN at h
  split at h
  · cases h
  · rename_i hdb
    have hdb' : (f == ("__debug__" : Str)) = false := by simpa using hdb
    split at h
    · rename_i x a hsa
      unfold setArg at hsa
      split at hsa
      · rename_i x' p' a' q'
        split at hsa
        · cases hsa
          split at h
          · rename_i hc
            obtain ⟨c1, c2, c3, c4⟩ := hc
            obtain ⟨g1, g2⟩ := isFree_ok O c2
            obtain ⟨g3, g4⟩ := isFree_ok O c3
            subst c1
            split at h
            · rename_i m' hm
              split at h
              · rename_i hf
                subst hf
                cases h
                exact (df_sortset O.calm g3 g4 g1 g2 (hr.val Γ X E O _ _ hm) (star_cons c4)).de
              · split at h
                · rename_i hf
                  subst hf
                  cases h
                  exact de_lenset O.calm g3 g4 g1 g2 (hr.val Γ X E O _ _ hm) (star_cons c4)
                · cases h
            · cases h
          · cases h
        · cases hsa
      · cases hsa
    split at h
    · rename_i j n hfn
      split at h
      · rename_i hg
        split at h
        · cases h
        · rename_i a es
          split at h
          · rename_i ms hms
            split at h
            · rename_i hn
              cases h
              obtain ⟨h1, h2, h3⟩ := esR_ok hr O _ _ hms
              rw [List.all_cons, Bool.and_eq_true] at h2
              obtain ⟨k, F, room⟩ := O.fns _ _ _ (fnIx_ok hfn)
              exact de_call F room (glob_ok O hg) O.pass h1 hdb' (star_cons h2.1) (star_plain h2.2)
            · cases h
          · cases h
      · cases h
    · split at h
      · rename_i hf
        split at h
        · rename_i hi
          subst hi
          split at h
          · rename_i a T q
            split at h
            · rename_i hT
              split at h
              · rename_i t x ht hx
                cases h
                obtain ⟨g1, g2⟩ := isFree_ok O hf
                obtain ⟨g3, g4⟩ := isFree_ok O hT.1
                exact de_isi (find_nm ht) g1 g2 g3 g4 (hr.val Γ X E O _ _ hx) (star_cons hT.2)
              · cases h
            · cases h
          · rename_i a T q U q2 k tp
            split at h
            · rename_i hT
              split at h
              · rename_i t u x ht hu hx
                cases h
                obtain ⟨g1, g2⟩ := isFree_ok O hf
                obtain ⟨g3, g4⟩ := isFree_ok O hT.1
                obtain ⟨g5, g6⟩ := isFree_ok O hT.2.1
                rw [ev_isi2]
                exact de_isi2 (find_nm ht) (find_nm hu) g1 g2 g3 g4 g5 g6 (hr.val Γ X E O _ _ hx) (star_cons hT.2.2)
              · cases h
            · cases h
          · cases h
        · split at h
          · rename_i b hb
            split at h
            · cases h
            · rename_i a es
              obtain ⟨ms, hms, e⟩ := Option.map_eq_some_iff.mp h
              cases e
              obtain ⟨h1, h2, h3⟩ := esR_ok hr O _ _ hms
              rw [List.all_cons, Bool.and_eq_true] at h2
              exact blt_ok O hb hf h1 (star_cons h2.1) (star_plain h2.2)
          · cases h
      · cases h
theorem spN_ok (hr : Snd Φ r) (O : Ok Γ Φ X E) {f : Str} {args : List Expr} {m : Ex} {p pos : Pos} (h : spN r Γ f args = some m) : DE X E (.Call (.Name f p) args [] pos) (ev Φ m) := by
  unfold spN at h
  split at h
  · split at h
    · rename_i hc
      obtain ⟨rfl, rfl, c3, c4, c5, c6⟩ := hc
      split at h
      · rename_i x y hx hy
        cases h
        obtain ⟨g1, g2⟩ := isFree_ok O c3
        obtain ⟨g3, g4⟩ := isFree_ok O c4
        exact (df_lz g3 g4 g1 g2 O.calm (das_cons (hr.val Γ X E O _ _ hx) (das_cons (hr.val Γ X E O _ _ hy) das_nil (star_cons c6)) (star_cons c5)) (star_cons c5) (star_plain (by rw [List.all_cons, c6]; rfl))).de
      · cases h
    · cases h
  · split at h
    · rename_i hc
      obtain ⟨rfl, rfl, c3, c4, c5⟩ := hc
      obtain ⟨x, hx, e⟩ := Option.map_eq_some_iff.mp h
      cases e
      obtain ⟨g1, g2⟩ := isFree_ok O c3
      exact de_mxv O.calm g1 g2 (hr.val Γ X E O _ _ hx) (base_ok c4) c5
    · cases h
  · cases h
theorem spN_dict {args : List Expr} : spN r Γ "dict" args = none := by
  unfold spN
  split
  · rw [if_neg]
    intro h
    exact absurd h.1 (by decide)
  · rw [if_neg]
    intro h
    exact absurd h.1 (by decide)
  · rfl
theorem de_index (hu : X.A.units + 65 < cLine) {o e : Expr} {es : List Expr} {fo : Env → Res D} {fs : Env → Res (List D)} {apos cpos : Pos} (ho : DE X E o fo) (ha : DEs X E (e :: es) fs)
    (hbase : attributeBase o "index" X.env (eval o X.env) = eval o X.env)
    (hfew : ((backTo cpos (starEach (e :: es) X.env)).all (fun x => !x.1) && (backToKw cpos (keywordEach [] X.env)).all (fun x => x.1.isSome)
      && decide ((e :: es).length + ([] : List Keyword).length + (if ([] : List Keyword).isEmpty then 0 else 1) < 30)) = true)
    (hline : (apos.endLine == cpos.line) = true) (hs : starEach (e :: es) X.env = (false, eval e X.env) :: starEach es X.env) (hplain : (backTo cpos (starEach es X.env)).any (·.1) = false) :
    DE X E (.Call (.Attribute o "index" apos) (e :: es) [] cpos) (mthV isSL idxA fo fs) := by
  have d1 := de_bm (E := E) F.plainAttrs_str F.slot_str_index F.type_str_index mt_sindex tyok_str good_idxS nox_idxS ho ha hbase hfew hline hs hplain
  have d2 := de_bm (E := E) F.plainAttrs_list F.slot_list_index F.type_list_index (mt_indexD hu) tyok_lst good_idxL nox_idxL ho ha hbase hfew hline hs hplain
  refine pe_weak (pe_or2 d1 d2) fun σ H Q ⟨F, ρ, s, re, h⟩ => ?_
  unfold mthV at h
  cases eo : fo ρ with
  | ok x =>
    rw [eo, Res.bind_ok] at h
    cases hx : isStr x with
    | true =>
      refine .inl ⟨F, ρ, s, re, ?_⟩
      unfold mthV
      rw [eo, Res.bind_ok, if_pos hx]
      have : isSL x = true := by unfold isSL; rw [hx]; rfl
      rw [if_pos this] at h
      have e : idxA x = idxS x := by funext ds; unfold idxA; rw [if_pos hx]
      rw [e] at h
      exact h
    | false =>
      refine .inr ⟨F, ρ, s, re, ?_⟩
      unfold mthV
      rw [eo, Res.bind_ok]
      cases hl : isLst x with
      | true =>
        rw [if_pos rfl]
        have : isSL x = true := by unfold isSL; rw [hl, Bool.or_true]
        rw [if_pos this] at h
        have e : idxA x = idxL x := by funext ds; unfold idxA; rw [hx]; rfl
        rw [e] at h
        exact h
      | false =>
        have : ¬ isSL x = true := by unfold isSL; rw [hl, hx]; simp
        rw [if_neg this] at h
        exact h.elim
  | exc c =>
    rw [eo] at h
    refine .inl ⟨F, ρ, s, re, ?_⟩
    unfold mthV
    rw [eo]
    exact h
  | bad => rw [eo] at h; exact h.elim
theorem callM_ok (hr : Snd Φ r) (O : Ok Γ Φ X E) {o : Expr} {nm : Str} {apos pos : Pos} {args : List Expr} {m : Ex} (h : callM r Γ o nm apos pos args = some m) : DE X E (.Call (.Attribute o nm apos) args [] pos) (ev Φ m) := by
  unfold callM at h
  split at h
  · rename_i hk
    unfold kidxR at h
    split at h
    · rename_i x p a
      split at h
      · rename_i hc
        obtain ⟨c1, c2, c3, c4⟩ := hc
        split at h
        · rename_i q ma hq hma
          cases h
          subst c1
          have hx : q.1 = x := by simpa using List.find?_some hq
          have hin : (x, q.2) ∈ Γ.tups := by
            have := List.mem_of_find?_eq_some hq
            rw [← hx]
            exact this
          obtain ⟨t1, t2⟩ := O.tups x q.2 hin
          have ha := hr.val Γ X E O _ _ hma
          have all1 : [a].all notStar = true := by rw [List.all_cons, c4]; rfl
          exact de_kidx (glob_ok O c2) t1 t2 (by simpa using c3) ha (base_ok (o := .Name x p) rfl) (star_few all1 (by simp)) hk.1 (star_cons c4) (star_plain (es := []) rfl)
        · cases h
      · cases h
    · cases h
  rename_i hnk
  clear hnk
  split at h
  · rename_i hc
    obtain ⟨c1, c2, c3⟩ := hc
    split at h
    · cases h
    · rename_i a es
      split at h
      · rename_i b x ms hb hx hms
        obtain ⟨h1, h2, h3⟩ := esR_ok hr O _ _ hms
        have h4 := h2
        rw [List.all_cons, Bool.and_eq_true] at h4
        have e1 := find_nm hb
        subst e1
        have ho := hr.val Γ X E O _ _ hx
        by_cases hget : b = .get
        · subst hget
          rw [if_pos rfl] at h
          split at h
          · rename_i h2l
            cases h
            cases es with
            | nil => cases h2l
            | cons a2 es =>
              cases es with
              | cons a3 es => exact absurd h2l (by simp)
              | nil =>
                have h5 := h4.2
                rw [List.all_cons, Bool.and_eq_true] at h5
                obtain ⟨m1, ms1, g1, g2, rfl⟩ := esR_cons hms
                obtain ⟨m2, ms2, g3, g4, rfl⟩ := esR_cons g2
                obtain rfl := esR_nil g4
                exact de_get (by have := O.units; omega) ho (hr.val Γ X E O _ _ g1) (hr.val Γ X E O _ _ g3) ⟨base_ok c1, star_few h2 c3, c2, by rw [star_cons h4.1, star_cons h5.1]; rfl⟩
          · cases h
        rw [if_neg hget] at h
        cases h
        cases b
        · exact de_index O.units ho h1 (base_ok c1) (star_few h2 c3) c2 (star_cons h4.1) (star_plain h4.2)
        · exact de_bm F.plainAttrs_str F.slot_str_count F.type_str_count mt_count tyok_str good_cntS nox_cntS ho h1 (base_ok c1) (star_few h2 c3) c2 (star_cons h4.1) (star_plain h4.2)
        · exact de_bm F.plainAttrs_str F.slot_str_find F.type_str_find mt_find3 tyok_str good_fndS nox_fndS ho h1 (base_ok c1) (star_few h2 c3) c2 (star_cons h4.1) (star_plain h4.2)
        · exact de_bm F.plainAttrs_str F.slot_str_join F.type_str_join mt_join tyok_str good_joinS nox_joinS ho h1 (base_ok c1) (star_few h2 c3) c2 (star_cons h4.1) (star_plain h4.2)
        · exact absurd rfl hget
      · cases h
  · cases h
end
/-! ### the whole -/
def codes (x : Str) : Bool := x.cps.toList.all (· < 0x110000) && decide (x.cps.toList.length ≤ 1000)
def optR (r : Rc) (Γ : Gam) : Option Expr → Option Exs
  | none => some .nil
  | some e => (r false Γ e).map fun m => .cons m .nil
def ceV (r : Rc) (Γ : Gam) (e : Expr) : Option Ex := match e with
  | .Name x _ => if x = "__debug__" ∨ x = "__classdict__" then none else
      if Γ.sc.names.lookup x = some .local ∨ Γ.sc.names.lookup x = some .cell ∨ Γ.sc.names.lookup x = some .free then (slot Γ.N x).map .var
      else if glob Γ x = true then (match Γ.cons.find? (fun q => decide (q.1 = x)) with | some q => some (.lit q.2) | none => none)
      else none
  | .Constant (.int i) _ _ => some (.lit (.int i))
  | .Constant (.str s) _ _ => if codes s = true then some (.lit (.str s.cps.toList)) else none
  | .Constant (.bool b) _ _ => some (.lit (.bl b))
  | .Constant .none _ _ => some (.lit .non)
  | .Tuple es _ _ => if es.length ≤ 1000 then (esR r Γ es).map .tup else none
  | .List es _ => if es.length ≤ 1000 then (esR r Γ es).map .lst else none
  | .Dict [] [] _ => some (.dic Γ.tk)
  | .Dict [some (.Constant (.int i) _ _)] [.Constant (.int j) _ _] _ => if Γ.tk = false then some (.dic1 i j) else none
  | .BinOp a o b _ => (match binO o, r false Γ a, r false Γ b with | some m, some x, some y => some (.op m x y) | _, _, _ => none)
  | .UnaryOp .USub a _ => (r false Γ a).map .neg
  | .UnaryOp .Not a _ => (r false Γ a).map .no
  | .BoolOp o es _ => boR r false Γ o es
  | .Compare a [o] [b] _ => if behindInMarks o b = false then (match cmpO o, r false Γ a, r false Γ b with | some m, some x, some y => some (.op m x y) | _, _, _ => none) else none
  | .Compare a [o, o'] [b, c] _ => if lastMarks [o, o'] [b, c] = false then (match cmpO o, cmpO o', r false Γ a, r false Γ b, r false Γ c with | some m, some m', some x, some y, some z => some (.chain m m' x y z) | _, _, _, _, _ => none) else none
  | .IfExp c a b _ => (match r true Γ c, r false Γ a, r false Γ b with | some m, some x, some y => some (.ife m x y) | _, _, _ => none)
  | .Subscript a (.Slice lo hi none _) _ => (match r false Γ a, optR r Γ lo, optR r Γ hi with | some x, some l, some h => some (.slice x l h) | _, _, _ => none)
  | .Subscript a (.Slice none none (some (.UnaryOp .USub (.Constant (.int 1) _ _) _)) _) _ => (r false Γ a).map .rev
  | .Subscript a b _ => if notSlice b = true then (match r false Γ a, r false Γ b with | some x, some y => some (.op .ix x y) | _, _ => none) else none
  | .Call (.Name f _) args [] _ => (match spN r Γ f args with | some m => some m | none => callN r Γ f args)
  | .Call (.Attribute o m apos) args [] pos => callM r Γ o m apos pos args
  | .ListComp elt [⟨tg, iter, ifs, 0⟩] scope _ => compR r Γ elt tg iter ifs scope
  | _ => none
def ceT (r : Rc) (Γ : Gam) (e : Expr) : Option Ex := match e with
  | .UnaryOp .Not a _ => (r true Γ a).map .no
  | .BoolOp o es _ => boR r true Γ o es
  | .Compare a [o] [b] _ => if behindInMarks o b = false then (match cmpO o, r false Γ a, r false Γ b with | some m, some x, some y => some (.op m x y) | _, _, _ => none) else none
  | .Compare a [o, o'] [b, c] _ => if lastMarks [o, o'] [b, c] = false then (match cmpO o, cmpO o', r false Γ a, r false Γ b, r false Γ c with | some m, some m', some x, some y, some z => some (.chain m m' x y z) | _, _, _, _, _ => none) else none
  | e => if valHead e = true then r false Γ e else none
def ce : Nat → Rc
  | 0 => fun _ _ _ => none
  | n + 1 => fun b Γ e => if b = true then ceT (ce n) Γ e else ceV (ce n) Γ e
section
variable {Φ : List (List D → Res D)} {r : Rc} {Γ : Gam} {X : Cx} {E : EX}
theorem po_part (hr : Snd Φ r) (O : Ok Γ Φ X E) {o : Option Expr} {ms : Exs} (h : optR r Γ o = some ms) : PO X o (tDO X.K E fun ρ => (evs Φ ms ρ).bind partL) := by
  cases o with
  | none =>
    cases h
    exact do_none
  | some e =>
    obtain ⟨m, hm, e1⟩ := Option.map_eq_some_iff.mp h
    cases e1
    have h1 := do_some (hr.val Γ X E O _ _ hm)
    have e2 : (fun ρ => (evs Φ (.cons m .nil) ρ).bind partL) = partR (some (ev Φ m)) := by
      funext ρ
      simp only [evs, argsC, argsN, partR]
      cases ev Φ m ρ with
      | ok d => cases d <;> rfl
      | exc c => rfl
      | bad => rfl
    rw [e2]
    exact h1
theorem ceV_ok (hr : Snd Φ r) (O : Ok Γ Φ X E) {e : Expr} {m : Ex} (h : ceV r Γ e = some m) : DE X E e (ev Φ m) := by
  unfold ceV at h
  split at h
  · -- a name
    split at h
    · cases h
    · rename_i x p hx
      have hx1 : (x == ("__debug__" : Str)) = false := by
        have : x ≠ "__debug__" := fun z => hx (.inl z)
        simpa using this
      have hx2 : (x == ("__classdict__" : Str)) = false := by
        have : x ≠ "__classdict__" := fun z => hx (.inr z)
        simpa using this
      split at h
      · rename_i hk
        obtain ⟨i, hi, e⟩ := Option.map_eq_some_iff.mp h
        cases e
        have hN : X.N[i]? = some x := by rw [O.N]; exact slot_ok hi
        have hV : Vis X.env.scope x := by
          unfold Vis
          rw [O.sc]
          exact hk
        exact de_var hN hV hx1 hx2
      · split at h
        · rename_i hg
          split at h
          · rename_i q hq
            cases h
            have h1 := List.find?_some hq
            have h2 := List.mem_of_find?_eq_some hq
            obtain ⟨y, d⟩ := q
            have : y = x := by simpa using h1
            subst this
            obtain ⟨u, v, e1, e2, e3⟩ := O.cons y d h2
            exact de_const (pe_glob (glob_ok O hg) e1 e2 hx1) e3
          · cases h
        · cases h
  · cases h; exact de_const pe_int fun F => mk_int
  · rename_i z j p
    split at h
    · rename_i hc
      cases h
      unfold codes at hc
      rw [Bool.and_eq_true, decide_eq_true_eq] at hc
      have : (⟨z.cps.toList.toArray⟩ : Str) = z := rfl
      exact de_const pe_str fun F => mk_str hc.1 (Nat.le_trans hc.2 (by rw [PySem.sizeLine_eq]; decide))
    · cases h
  · cases h; exact de_const pe_bl fun F => mk_bl
  · cases h; exact de_const pe_non fun F => mk_non
  · rename_i es k p
    split at h
    · rename_i hl
      obtain ⟨ms, hm, e⟩ := Option.map_eq_some_iff.mp h
      cases e
      obtain ⟨h1, h2, h3⟩ := esR_ok hr O _ _ hm
      exact de_tup h1 fun ρ ds q => by rw [evs_len q, ← h3]; exact Nat.le_trans hl (by rw [PySem.sizeLine_eq]; decide)
    · cases h
  · rename_i es p
    split at h
    · rename_i hl
      obtain ⟨ms, hm, e⟩ := Option.map_eq_some_iff.mp h
      cases e
      obtain ⟨h1, h2, h3⟩ := esR_ok hr O _ _ hm
      exact (df_lst h1 fun ρ ds q => by rw [evs_len q, ← h3]; exact Nat.le_trans hl (by rw [PySem.sizeLine_eq]; decide)).de
    · cases h
  · cases h
    cases hk : Γ.tk with
    | true => exact df_newT.de
    | false => exact df_newK.de
  · split at h
    · cases h
      exact df_dic1.de
    · cases h
  · split at h
    · rename_i o b p m x y hm hx hy
      cases h
      obtain ⟨r2, g1, g2, g3⟩ := bin_ok X hm
      exact de_op g1 g2 g3 (hr.val Γ X E O _ _ hx) (hr.val Γ X E O _ _ hy)
    · cases h
  · obtain ⟨x, hx, e⟩ := Option.map_eq_some_iff.mp h
    cases e
    exact de_neg (hr.val Γ X E O _ _ hx)
  · obtain ⟨x, hx, e⟩ := Option.map_eq_some_iff.mp h
    cases e
    exact de_not (hr.val Γ X E O _ _ hx)
  · exact boR_val hr O _ _ _ _ h
  · split at h
    · rename_i hb
      split at h
      · rename_i m x y hm hx hy
        cases h
        obtain ⟨r2, g1, g2, g3⟩ := cmp_ok X O.units hm
        exact de_cmp g1 hb g2 g3 (hr.val Γ X E O _ _ hx) (hr.val Γ X E O _ _ hy)
      · cases h
    · cases h
  · split at h
    · rename_i hb
      split at h
      · rename_i m m' x y z hm hm' hx hy hz
        cases h
        obtain ⟨r2, g1, g2, g3⟩ := cmp_ok X O.units hm
        obtain ⟨r3, g4, g5, g6⟩ := cmp_ok X O.units hm'
        exact de_chain g1 g4 hb g2 g3 g5 g6 (hr.val Γ X E O _ _ hx) (hr.val Γ X E O _ _ hy) (hr.val Γ X E O _ _ hz)
      · cases h
    · cases h
  · split at h
    · rename_i m x y hm hx hy
      cases h
      exact de_if (hr.tst Γ X E O _ _ hm) (hr.val Γ X E O _ _ hx) (hr.val Γ X E O _ _ hy)
    · cases h
  · split at h
    · rename_i x l u hx hl hu
      cases h
      exact de_slice (hr.val Γ X E O _ _ hx) (po_part hr O hl) (po_part hr O hu)
    · cases h
  · obtain ⟨x, hx, e⟩ := Option.map_eq_some_iff.mp h
    cases e
    exact de_rev (hr.val Γ X E O _ _ hx)
  · split at h
    · rename_i hs
      split at h
      · rename_i x y hx hy
        cases h
        exact de_ix (ix_all (by have := O.units; omega)) (plainIx_ok hs) good_ix nox_ix (hr.val Γ X E O _ _ hx) (hr.val Γ X E O _ _ hy)
      · cases h
    · cases h
  · split at h
    · rename_i hs
      cases h
      exact spN_ok hr O hs
    · exact callN_ok hr O h
  · exact callM_ok hr O h
  · exact (compR_ok hr O h).de
  · cases h
theorem ceT_ok (hr : Snd Φ r) (O : Ok Γ Φ X E) {e : Expr} {m : Ex} (h : ceT r Γ e = some m) : DT X E e (tst (ev Φ m)) := by
  unfold ceT at h
  split at h
  · obtain ⟨x, hx, e⟩ := Option.map_eq_some_iff.mp h
    cases e
    simp only [ev]
    rw [tst_not]
    exact dt_not (hr.tst Γ X E O _ _ hx)
  · exact (boR_tst hr O _ _ _ _ h).dt
  · split at h
    · rename_i hb
      split at h
      · rename_i m x y hm hx hy
        cases h
        obtain ⟨r2, g1, g2, g3⟩ := cmp_ok X O.units hm
        exact dt_cmp g1 hb g2 g3 (hr.val Γ X E O _ _ hx) (hr.val Γ X E O _ _ hy)
      · cases h
    · cases h
  · split at h
    · rename_i hb
      split at h
      · rename_i m m' x y z hm hm' hx hy hz
        cases h
        obtain ⟨r2, g1, g2, g3⟩ := cmp_ok X O.units hm
        obtain ⟨r3, g4, g5, g6⟩ := cmp_ok X O.units hm'
        exact dt_chain g1 g4 hb g2 g3 g5 g6 (hr.val Γ X E O _ _ hx) (hr.val Γ X E O _ _ hy) (hr.val Γ X E O _ _ hz)
      · cases h
    · cases h
  · split at h
    · rename_i hv
      exact dt_val (hr.val Γ X E O _ _ h) (valHead_ok hv)
    · cases h
theorem ce_ok : ∀ n, Snd Φ (ce n)
  | 0 => ⟨fun _ _ _ _ _ _ h => (by cases h), fun _ _ _ _ _ _ h => (by cases h)⟩
  | n + 1 => ⟨fun Γ X E O e m h => ceV_ok (ce_ok n) O h, fun Γ X E O e m h => ceT_ok (ce_ok n) O h⟩
end
end DL
/-! The data layer, 13: what an expression reads; the state of a def's body, its own lists and dicts. -/
namespace DL
open PySem PySem.Spec L2

/-! ### what an expression reads -/
mutual
def Ex.rd : Ex → List Nat
  | .var i => [i]
  | .lit _ => []
  | .tup es => es.rd
  | .lst es => es.rd
  | .dic _ => []
  | .dic1 _ _ => []
  | .op _ a b => a.rd ++ b.rd
  | .neg a => a.rd
  | .no a => a.rd
  | .and a b => a.rd ++ b.rd
  | .or a b => a.rd ++ b.rd
  | .chain _ _ a b c => a.rd ++ (b.rd ++ c.rd)
  | .ife c a b => c.rd ++ (a.rd ++ b.rd)
  | .slice a l h => a.rd ++ (l.rd ++ h.rd)
  | .rev a => a.rd
  | .call _ _ es => es.rd
  | .blt _ es => es.rd
  | .mth _ o es => o.rd ++ es.rd
  | .isi _ a => a.rd
  | .sset a => a.rd
  | .lset a => a.rd
  | .un _ a => a.rd
  | .bi _ a b => a.rd ++ b.rd
  | .comp _ es _ _ t e => es.rd ++ (t.rd ++ e.rd)
def Exs.rd : Exs → List Nat
  | .nil => []
  | .cons e es => e.rd ++ es.rd
end
def Agr (R : List Nat) (ρ ρ' : Env) : Prop := ρ.length = ρ'.length ∧ ∀ i ∈ R, ρ[i]? = ρ'[i]?
theorem Agr.mono {R R' : List Nat} {ρ ρ' : Env} (h : Agr R ρ ρ') (s : ∀ i ∈ R', i ∈ R) : Agr R' ρ ρ' := ⟨h.1, fun i hi => h.2 i (s i hi)⟩
theorem Agr.l {R R' : List Nat} {ρ ρ' : Env} (h : Agr (R ++ R') ρ ρ') : Agr R ρ ρ' := h.mono fun i hi => List.mem_append_left _ hi
theorem Agr.r {R R' : List Nat} {ρ ρ' : Env} (h : Agr (R ++ R') ρ ρ') : Agr R' ρ ρ' := h.mono fun i hi => List.mem_append_right _ hi
theorem Agr.set {R : List Nat} {ρ ρ' : Env} (h : Agr R ρ ρ') (j : Nat) (o : Option D) : Agr R (ρ.set j o) (ρ'.set j o) :=
  ⟨by rw [List.length_set, List.length_set]; exact h.1, fun i hi => by
    by_cases hj : j = i
    · subst hj
      by_cases hl : j < ρ.length
      · rw [List.getElem?_set_self hl, List.getElem?_set_self (by rw [← h.1]; exact hl)]
      · rw [List.getElem?_eq_none (by rw [List.length_set]; omega), List.getElem?_eq_none (by rw [List.length_set, ← h.1]; omega)]
    · rw [List.getElem?_set_ne hj, List.getElem?_set_ne hj]
      exact h.2 i hi⟩
theorem Agr.wipe {R : List Nat} {ρ ρ' : Env} (h : Agr R ρ ρ') : ∀ vs : List Nat, Agr R (wipeD ρ vs) (wipeD ρ' vs)
  | [] => h
  | v :: vs => (Agr.wipe h vs).set v none
theorem wipeD_length (ρ : Env) : ∀ vs : List Nat, (wipeD ρ vs).length = ρ.length
  | [] => rfl
  | v :: vs => by unfold wipeD; rw [List.length_set, wipeD_length ρ vs]
theorem wipeD_out {ρ : Env} {i : Nat} : ∀ {vs : List Nat}, i ∉ vs → (wipeD ρ vs)[i]? = ρ[i]?
  | [], _ => rfl
  | v :: vs, h => by
    have h1 : v ≠ i := fun e => h (by rw [e]; exact List.mem_cons_self)
    have h2 : i ∉ vs := fun m => h (List.mem_cons_of_mem _ m)
    unfold wipeD
    rw [List.getElem?_set_ne h1]
    exact wipeD_out h2
theorem wipeD_in {ρ : Env} {i : Nat} {d : D} : ∀ {vs : List Nat}, i ∈ vs → (wipeD ρ vs)[i]? ≠ some (some d)
  | v :: vs, h => by
    unfold wipeD
    by_cases hv : v = i
    · subst hv
      by_cases hl : v < (wipeD ρ vs).length
      · rw [List.getElem?_set_self hl]; intro z; cases z
      · rw [List.getElem?_eq_none (by rw [List.length_set]; omega)]; intro z; cases z
    · rw [List.getElem?_set_ne hv]
      exact wipeD_in ((List.mem_cons.mp h).resolve_left fun e => hv e.symm)
theorem agr_wipe {R vs : List Nat} {ρ : Env} (h : ∀ i ∈ R, i ∉ vs) : Agr R ρ (wipeD ρ vs) := ⟨(wipeD_length ρ vs).symm, fun i hi => (wipeD_out (h i hi)).symm⟩
/-- the same answer, environments that agree on R -/
def AgrR (R : List Nat) (a b : Res Env) : Prop := match a, b with
  | .ok x, .ok y => Agr R x y
  | .exc c, .exc d => c = d
  | .bad, .bad => True
  | _, _ => False
mutual
theorem bT_agr (R : List Nat) : ∀ (t : Tg) (d : D) {ρ ρ' : Env}, Agr R ρ ρ' → AgrR R (bT t d ρ) (bT t d ρ')
  | .name i, d, ρ, ρ', h => by simp only [bT, bName]; exact h.set i _
  | .tup ts, d, ρ, ρ', h => by
    simp only [bT, bTup]
    cases d with
    | tup ds =>
      dsimp only
      split
      · exact bTs_agr R ts ds h
      · exact True.intro
    | _ => exact True.intro
theorem bTs_agr (R : List Nat) : ∀ (ts : Tgs) (ds : List D) {ρ ρ' : Env}, Agr R ρ ρ' → AgrR R (bTs ts ds ρ) (bTs ts ds ρ')
  | .nil, ds, ρ, ρ', h => by
    simp only [bTs, bNil]
    cases ds with
    | nil => exact h
    | cons d ds => exact True.intro
  | .cons t ts, ds, ρ, ρ', h => by
    simp only [bTs, bCons]
    cases ds with
    | nil => exact True.intro
    | cons d ds =>
      dsimp only
      have h1 := bT_agr R t d h
      cases e1 : bT t d ρ with
      | ok x =>
        rw [e1] at h1
        cases e2 : bT t d ρ' with
        | ok y => rw [e2] at h1; exact bTs_agr R ts ds h1
        | exc c => rw [e2] at h1; exact h1.elim
        | bad => rw [e2] at h1; exact h1.elim
      | exc c =>
        rw [e1] at h1
        cases e2 : bT t d ρ' with
        | ok y => rw [e2] at h1; exact h1.elim
        | exc c' => rw [e2] at h1; exact h1
        | bad => rw [e2] at h1; exact h1.elim
      | bad =>
        rw [e1] at h1
        cases e2 : bT t d ρ' with
        | ok y => rw [e2] at h1; exact h1.elim
        | exc c => rw [e2] at h1; exact h1.elim
        | bad => exact True.intro
end
theorem compL_agr {t : Tg} {ft : Env → Res Bool} {fe : Env → Res D} {R : List Nat} (h1 : ∀ ρ ρ', Agr R ρ ρ' → ft ρ = ft ρ') (h2 : ∀ ρ ρ', Agr R ρ ρ' → fe ρ = fe ρ') {ρ ρ' : Env} (h : Agr R ρ ρ') : ∀ ds, compL (bT t) ft fe ρ ds = compL (bT t) ft fe ρ' ds
  | [] => rfl
  | d :: ds => by
    simp only [compL]
    have ha := bT_agr R t d h
    rw [compL_agr h1 h2 h ds]
    cases e1 : bT t d ρ with
    | ok x =>
      rw [e1] at ha
      cases e2 : bT t d ρ' with
      | ok y =>
        rw [e2] at ha
        simp only [Res.calm, Res.bind_ok]
        rw [h1 x y ha, h2 x y ha]
      | exc c => rw [e2] at ha; exact ha.elim
      | bad => rw [e2] at ha; exact ha.elim
    | exc c =>
      rw [e1] at ha
      cases e2 : bT t d ρ' with
      | ok y => rw [e2] at ha; exact ha.elim
      | exc c' => rfl
      | bad => rw [e2] at ha; exact ha.elim
    | bad =>
      rw [e1] at ha
      cases e2 : bT t d ρ' with
      | ok y => rw [e2] at ha; exact ha.elim
      | exc c => rw [e2] at ha; exact ha.elim
      | bad => rfl
section
variable (Φ : List (List D → Res D))
mutual
theorem ev_agr : ∀ (m : Ex) (ρ ρ' : Env), Agr m.rd ρ ρ' → ev Φ m ρ = ev Φ m ρ'
  | .var i, ρ, ρ', h => by simp only [ev, getV]; rw [h.2 i (by simp [Ex.rd])]
  | .lit d, ρ, ρ', h => rfl
  | .tup es, ρ, ρ', h => by simp only [ev, tupV]; rw [evs_agr es ρ ρ' h]
  | .lst es, ρ, ρ', h => by simp only [ev, lstV]; rw [evs_agr es ρ ρ' h]
  | .dic t, ρ, ρ', h => rfl
  | .dic1 _ _, ρ, ρ', h => rfl
  | .op o a b, ρ, ρ', h => by simp only [Ex.rd] at h; simp only [ev, ap2]; rw [ev_agr a ρ ρ' h.l, ev_agr b ρ ρ' h.r]
  | .neg a, ρ, ρ', h => by simp only [ev]; rw [ev_agr a ρ ρ' h]
  | .no a, ρ, ρ', h => by simp only [ev, notV]; rw [ev_agr a ρ ρ' h]
  | .and a b, ρ, ρ', h => by simp only [Ex.rd] at h; simp only [ev, andV]; rw [ev_agr a ρ ρ' h.l, ev_agr b ρ ρ' h.r]
  | .or a b, ρ, ρ', h => by simp only [Ex.rd] at h; simp only [ev, orV]; rw [ev_agr a ρ ρ' h.l, ev_agr b ρ ρ' h.r]
  | .chain o o' a b c, ρ, ρ', h => by simp only [Ex.rd] at h; simp only [ev, chainV]; rw [ev_agr a ρ ρ' h.l, ev_agr b ρ ρ' h.r.l, ev_agr c ρ ρ' h.r.r]
  | .ife c a b, ρ, ρ', h => by simp only [Ex.rd] at h; simp only [ev, ifV, tst]; rw [ev_agr c ρ ρ' h.l, ev_agr a ρ ρ' h.r.l, ev_agr b ρ ρ' h.r.r]
  | .slice a l u, ρ, ρ', h => by simp only [Ex.rd] at h; simp only [ev, apSl]; rw [ev_agr a ρ ρ' h.l, evs_agr l ρ ρ' h.r.l, evs_agr u ρ ρ' h.r.r]
  | .rev a, ρ, ρ', h => by simp only [ev]; rw [ev_agr a ρ ρ' h]
  | .call j n es, ρ, ρ', h => by simp only [ev, callV]; rw [evs_agr es ρ ρ' h]
  | .blt b es, ρ, ρ', h => by simp only [ev]; rw [evs_agr es ρ ρ' h]
  | .mth m o es, ρ, ρ', h => by simp only [Ex.rd] at h; simp only [ev, mthV]; rw [ev_agr o ρ ρ' h.l, evs_agr es ρ ρ' h.r]
  | .isi T a, ρ, ρ', h => by simp only [ev]; rw [ev_agr a ρ ρ' h]
  | .sset a, ρ, ρ', h => by simp only [ev]; rw [ev_agr a ρ ρ' h]
  | .lset a, ρ, ρ', h => by simp only [ev]; rw [ev_agr a ρ ρ' h]
  | .un u a, ρ, ρ', h => by simp only [ev]; rw [ev_agr a ρ ρ' h]
  | .bi u a b, ρ, ρ', h => by simp only [Ex.rd] at h; simp only [ev, argsC]; rw [ev_agr a ρ ρ' h.l, ev_agr b ρ ρ' h.r]; rfl
  | .comp k es vs tg t e, ρ, ρ', h => by
    simp only [Ex.rd] at h
    simp only [ev, compV]
    rw [evs_agr es ρ ρ' h.l]
    refine congrArg _ (funext fun items => ?_)
    rw [compL_agr (R := t.rd ++ e.rd) (fun ρ ρ' h => by simp only [tst]; rw [ev_agr t ρ ρ' h.l]) (fun ρ ρ' h => ev_agr e ρ ρ' h.r) (h.r.wipe vs)]
theorem evs_agr : ∀ (es : Exs) (ρ ρ' : Env), Agr es.rd ρ ρ' → evs Φ es ρ = evs Φ es ρ'
  | .nil, ρ, ρ', h => rfl
  | .cons e es, ρ, ρ', h => by simp only [Exs.rd] at h; simp only [evs, argsC]; rw [ev_agr e ρ ρ' h.l, evs_agr es ρ ρ' h.r]
end
end
end DL
/-! The data layer, 14: the state of a def's body; expressions in it. -/
namespace DL
open PySem PySem.Spec L2

/-- the state: W the slots of own lists, U those of own dicts; F0, H0 the heaps at the entry -/
structure StR (K : PySem.W.Frag) (W U : List Nat) (F0 H0 F H : Hp) (ρ : Env) (σ : L2.St) : Prop where
  ext : Ext F0 H0 F H
  len : ρ.length ≤ σ.length
  fz : ∀ (i : Nat) (d : D), i ∉ W → i ∉ U → ρ[i]? = some (some d) → ∃ v, σ[i]? = some (some v) ∧ Rep K F d v
  ow : ∀ (i : Nat) (d : D), i ∈ W ∨ i ∈ U → ρ[i]? = some (some d) → ∃ a, σ[i]? = some (some (.ref a)) ∧ OwnAt K F H a d ∧ F a = none ∧ H0 a = none
  kind : ∀ (i : Nat) (d : D), i ∈ W → ρ[i]? = some (some d) → ∃ ds, d = .lst ds
  ne : ∀ (i j : Nat) (d e : D) (a : Addr), i ∈ W ∨ i ∈ U → j ∈ W ∨ j ∈ U → i ≠ j → ρ[i]? = some (some d) → ρ[j]? = some (some e) → σ[i]? = some (some (.ref a)) → σ[j]? ≠ some (some (.ref a))
section
variable {K : PySem.W.Frag} {W U : List Nat} {F0 H0 F H F' H' : Hp} {ρ : Env} {σ : L2.St}
theorem StR.env (h : StR K W U F0 H0 F H ρ σ) : EnvR K F (wipeD ρ (W ++ U)) σ :=
  ⟨by rw [wipeD_length]; exact h.len, fun i d e => by
    by_cases hi : i ∈ W ++ U
    · exact absurd e (wipeD_in hi)
    · rw [wipeD_out hi] at e
      rw [List.mem_append, not_or] at hi
      exact h.fz i d hi.1 hi.2 e⟩
theorem OwnAt.mono {a : Addr} {d : D} (h : OwnAt K F H a d) (s : Same F F') (e : H' a = H a) : OwnAt K F' H' a d := by
  cases d with
  | lst ds => obtain ⟨vs, h1, h2, h3⟩ := h; exact ⟨vs, by rw [e]; exact h1, h2.mono s, h3⟩
  | dic t kvs =>
    cases t with
    | true => obtain ⟨vs, h1, h2, h3⟩ := h; exact ⟨vs, by rw [e]; exact h1, h2.mono s, h3⟩
    | false => obtain ⟨vs, h1, h2, h3⟩ := h; exact ⟨vs, by rw [e]; exact h1, h2.mono s, h3⟩
  | _ => exact h.elim
theorem OwnAt.here {a : Addr} {d : D} (h : OwnAt K F H a d) : ∃ o, H a = some o ∧ Mut (some o) ∧ ∀ vs, o ≠ .tup vs := by
  cases d with
  | lst ds => obtain ⟨vs, h1, h2, h3⟩ := h; exact ⟨_, h1, trivial, fun _ z => nomatch z⟩
  | dic t kvs =>
    cases t with
    | true => obtain ⟨vs, h1, h2, h3⟩ := h; exact ⟨_, h1, trivial, fun _ z => nomatch z⟩
    | false => obtain ⟨vs, h1, h2, h3⟩ := h; exact ⟨_, h1, trivial, fun _ z => nomatch z⟩
  | _ => exact h.elim
theorem StR.step (h : StR K W U F0 H0 F H ρ σ) (e : Ext F H F' H') : StR K W U F0 H0 F' H' ρ σ where
  ext := h.ext.trans e
  len := h.len
  fz := fun i d h1 h2 q => by
    obtain ⟨v, e1, e2⟩ := h.fz i d h1 h2 q
    exact ⟨v, e1, e2.mono e.grow⟩
  ow := fun i d h1 q => by
    obtain ⟨a, e1, e2, e3, e4⟩ := h.ow i d h1 q
    obtain ⟨o, o1, o2, o3⟩ := e2.here
    exact ⟨a, e1, e2.mono e.grow (by rw [o1]; exact e.same _ _ o1), e.hid o1 o3 e3, e4⟩
  kind := h.kind
  ne := h.ne
/-- nothing new is told of -/
theorem StR.loose (h : StR K W U F0 H0 F H ρ σ) (s : Same H H') : StR K W U F0 H0 F H' ρ σ :=
  h.step ⟨s, Same.refl _, h.ext.sub.trans s, fun _ _ z => .inl z⟩
/-- fewer own ones -/
def less (W : List Nat) (i : Nat) : List Nat := W.filter fun j => decide (j ≠ i)
theorem mem_less {W : List Nat} {i j : Nat} : j ∈ less W i ↔ j ∈ W ∧ j ≠ i := by
  unfold less
  rw [List.mem_filter, decide_eq_true_eq]
/-- an own list is told of, and stays as it is -/
theorem StR.freeze (h : StR K W U F0 H0 F H ρ σ) {i : Nat} (hi : i ∈ W) (hu : i ∉ U) : ∃ F', StR K (less W i) U F0 H0 F' H ρ σ ∧ Same F F' ∧ Same F' H := by
  cases q : ρ[i]? with
  | none =>
    refine ⟨F, ⟨h.ext, h.len, fun j d h1 h2 e => ?_, fun j d h1 e => h.ow j d (h1.imp (fun z => (mem_less.mp z).1) id) e, fun j d h1 e => h.kind j d (mem_less.mp h1).1 e, fun j k d e a h1 h2 => h.ne j k d e a (h1.imp (fun z => (mem_less.mp z).1) id) (h2.imp (fun z => (mem_less.mp z).1) id)⟩, Same.refl _, h.ext.sub⟩
    by_cases hj : j = i
    · subst hj; rw [q] at e; cases e
    · exact h.fz j d (fun z => h1 (mem_less.mpr ⟨z, hj⟩)) h2 e
  | some o =>
    cases o with
    | none =>
      refine ⟨F, ⟨h.ext, h.len, fun j d h1 h2 e => ?_, fun j d h1 e => h.ow j d (h1.imp (fun z => (mem_less.mp z).1) id) e, fun j d h1 e => h.kind j d (mem_less.mp h1).1 e, fun j k d e a h1 h2 => h.ne j k d e a (h1.imp (fun z => (mem_less.mp z).1) id) (h2.imp (fun z => (mem_less.mp z).1) id)⟩, Same.refl _, h.ext.sub⟩
      by_cases hj : j = i
      · subst hj; rw [q] at e; cases e
      · exact h.fz j d (fun z => h1 (mem_less.mpr ⟨z, hj⟩)) h2 e
    | some d0 =>
      obtain ⟨ds, rfl⟩ := h.kind i d0 hi q
      obtain ⟨a, e1, ⟨vs, g1, g2, g3⟩, e3, e4⟩ := h.ow i _ (.inl hi) q
      have up : Same F (upd F a (.lst vs)) := same_upd e3
      refine ⟨upd F a (.lst vs), ⟨⟨h.ext.same, h.ext.grow.trans up, fun b o hb => ?_, fun b h1 h2 => ?_⟩, h.len, fun j d h1 h2 e => ?_, fun j d h1 e => ?_, fun j d h1 e => h.kind j d (mem_less.mp h1).1 e, fun j k d e a h1 h2 => h.ne j k d e a (h1.imp (fun z => (mem_less.mp z).1) id) (h2.imp (fun z => (mem_less.mp z).1) id)⟩, up, fun b o hb => ?_⟩
      · by_cases hc : b = a
        · subst hc; rw [upd_same] at hb; rw [← hb]; exact g1
        · rw [upd_ne hc] at hb; exact h.ext.sub _ _ hb
      · by_cases hc : b = a
        · subst hc; exact absurd e4 h1
        · rw [upd_ne hc] at h2; exact h.ext.new b h1 h2
      · by_cases hj : j = i
        · subst hj
          rw [q] at e; cases e
          exact ⟨_, e1, mk_lst upd_same (g2.mono up) g3⟩
        · obtain ⟨v, z1, z2⟩ := h.fz j d (fun z => h1 (mem_less.mpr ⟨z, hj⟩)) h2 e
          exact ⟨v, z1, z2.mono up⟩
      · have hj : j ≠ i := fun z => by
          subst z
          rcases h1 with z | z
          · exact (mem_less.mp z).2 rfl
          · exact hu z
        have h1' : j ∈ W ∨ j ∈ U := h1.imp (fun z => (mem_less.mp z).1) id
        obtain ⟨b, z1, z2, z3, z4⟩ := h.ow j d h1' e
        have hb : b ≠ a := fun z => h.ne i j _ d a (.inl hi) h1' (Ne.symm hj) q e e1 (by rw [← z]; exact z1)
        exact ⟨b, z1, z2.mono up rfl, by rw [upd_ne hb]; exact z3, z4⟩
      · by_cases hc : b = a
        · subst hc; rw [upd_same] at hb; rw [← hb]; exact g1
        · rw [upd_ne hc] at hb; exact h.ext.sub _ _ hb
/-- an own dict is locked for good -/
theorem StR.lockd (h : StR K W U F0 H0 F H ρ σ) {i : Nat} (hi : i ∈ U) (hw : i ∉ W) : StR K W (less U i) F0 H0 F H ρ σ ∨
    ∃ a u, H a = some u ∧ Mut (some u) ∧ ∀ o, (∃ F', StR K W (less U i) F0 H0 F' (upd H a (.frz o u)) ρ σ) ∨ ∃ F', StR K W (less U i) F0 H0 F' H ρ σ := by
  have weak : (∀ d, ρ[i]? ≠ some (some d)) → StR K W (less U i) F0 H0 F H ρ σ := fun q =>
    ⟨h.ext, h.len, fun j d h1 h2 e => by
      by_cases hj : j = i
      · subst hj; exact absurd e (q d)
      · exact h.fz j d h1 (fun z => h2 (mem_less.mpr ⟨z, hj⟩)) e, fun j d h1 e => h.ow j d (h1.imp id fun z => (mem_less.mp z).1) e, h.kind, fun j k d e a h1 h2 => h.ne j k d e a (h1.imp id fun z => (mem_less.mp z).1) (h2.imp id fun z => (mem_less.mp z).1)⟩
  cases q : ρ[i]? with
  | none => exact .inl (weak fun d z => by rw [q] at z; cases z)
  | some o =>
    cases o with
    | none => exact .inl (weak fun d z => by rw [q] at z; cases z)
    | some d0 =>
      right
      obtain ⟨a, e1, own, e3, e4⟩ := h.ow i _ (.inr hi) q
      obtain ⟨u, u1, u2, u3⟩ := own.here
      refine ⟨a, u, u1, u2, fun o => ?_⟩
      -- what stands there from now on
      have go : ∀ (w : HO) (H' : Hp), H' a = some w → (∀ b, b ≠ a → H' b = H b) → Rep K (upd F a w) d0 (.ref a) → StR K W (less U i) F0 H0 (upd F a w) H' ρ σ := fun w H' ha hb hr => by
        have up : Same F (upd F a w) := same_upd e3
        have sameF : Same F H' := fun b x hx => by
          rw [hb b (ne_of_none hx e3)]
          exact h.ext.sub _ _ hx
        refine ⟨⟨fun b x hx => ?_, h.ext.grow.trans up, fun b x hx => ?_, fun b h1 h2 => ?_⟩, h.len, fun j d h1 h2 e => ?_, fun j d h1 e => ?_, h.kind, fun j k d e a h1 h2 => h.ne j k d e a (h1.imp id fun z => (mem_less.mp z).1) (h2.imp id fun z => (mem_less.mp z).1)⟩
        · rw [hb b (ne_of_none hx e4)]
          exact h.ext.same _ _ hx
        · by_cases hc : b = a
          · subst hc; rw [upd_same] at hx; rw [← hx]; exact ha
          · rw [upd_ne hc] at hx; rw [hb b hc]; exact h.ext.sub _ _ hx
        · by_cases hc : b = a
          · subst hc; exact absurd e4 h1
          · rw [upd_ne hc] at h2; exact h.ext.new b h1 h2
        · by_cases hj : j = i
          · subst hj
            rw [q] at e; cases e
            exact ⟨_, e1, hr⟩
          · obtain ⟨v, z1, z2⟩ := h.fz j d h1 (fun z => h2 (mem_less.mpr ⟨z, hj⟩)) e
            exact ⟨v, z1, z2.mono up⟩
        · have hj : j ≠ i := fun z => by
            subst z
            rcases h1 with z | z
            · exact hw z
            · exact (mem_less.mp z).2 rfl
          have h1' : j ∈ W ∨ j ∈ U := h1.imp id fun z => (mem_less.mp z).1
          obtain ⟨b, z1, z2, z3, z4⟩ := h.ow j d h1' e
          have hne : b ≠ a := fun z => h.ne i j _ d a (.inr hi) h1' (Ne.symm hj) q e e1 (by rw [← z]; exact z1)
          exact ⟨b, z1, z2.mono up (hb b hne), by rw [upd_ne hne]; exact z3, z4⟩
      cases d0 with
      | lst ds =>
        obtain ⟨vs, g1, g2, g3⟩ := own
        exact .inr ⟨_, go (.lst vs) H g1 (fun _ _ => rfl) (mk_lst upd_same (g2.mono (same_upd e3)) g3)⟩
      | dic t kvs =>
        cases t with
        | false =>
          obtain ⟨hk, g1, g2, g3⟩ := own
          rw [g1] at u1; cases u1
          refine .inl ⟨_, go (.frz o (.dK hk)) _ upd_same (fun b hb => upd_ne hb) ?_⟩
          simp only [Rep]
          exact ⟨a, o, rfl, g3, hk, upd_same, g2.mono (same_upd e3)⟩
        | true =>
          obtain ⟨hk, g1, g2, g3⟩ := own
          rw [g1] at u1; cases u1
          refine .inl ⟨_, go (.frz o (.dT hk)) _ upd_same (fun b hb => upd_ne hb) ?_⟩
          simp only [Rep]
          exact ⟨a, o, rfl, g3, hk, upd_same, g2.mono (same_upd e3)⟩
      | _ => exact own.elim
end
end DL
/-! The data layer, 15: expressions within the state; what a statement comes to; assignments. -/
namespace DL
open PySem PySem.Spec L2

theorem less_length_le (W : List Nat) (i : Nat) : (less W i).length ≤ W.length := List.length_filter_le _ _
section
variable {K : PySem.W.Frag} {U : List Nat} {F0 H0 F H F' H' : Hp} {ρ : Env} {σ : L2.St}
theorem StR.freezeAll : ∀ (n : Nat) {W : List Nat} {F : Hp}, W.length ≤ n → (∀ i ∈ W, i ∉ U) → StR K W U F0 H0 F H ρ σ → ∃ F1, StR K [] U F0 H0 F1 H ρ σ ∧ Same F F1
  | _, [], F, _, _, h => ⟨F, h, Same.refl _⟩
  | 0, _ :: _, F, hn, _, h => by simp at hn
  | n + 1, i :: W, F, hn, hd, h => by
    obtain ⟨F1, h1, s1, _⟩ := h.freeze (i := i) List.mem_cons_self (hd i List.mem_cons_self)
    have hl : (less (i :: W) i).length ≤ n := by
      unfold less
      rw [List.filter_cons_of_neg (by simp)]
      have := List.length_filter_le (fun j => decide (j ≠ i)) W
      simp only [List.length_cons] at hn
      omega
    obtain ⟨F2, h2, s2⟩ := StR.freezeAll n hl (fun j hj => hd j (mem_less.mp hj).1) h1
    exact ⟨F2, h2, s1.trans s2⟩
end
def atom : D → Bool
  | .non => true
  | .bl _ => true
  | .int _ => true
  | .str _ => true
  | _ => false
theorem Rep.atom {K : PySem.W.Frag} {F F' : Hp} {d : D} {v : V} (h : Rep K F d v) (a : atom d = true) : Rep K F' d v := by
  cases d <;> first | (simp only [Rep] at h ⊢; exact h) | cases a
/-! readings within a state -/
section
variable {X : Cx} {E : EX} {W U : List Nat} {Φ : List (List D → Res D)} {m : Ex} {e tg iter : Expr}
theorem rd_env {ρ : Env} {O : List Nat} (h : ∀ i ∈ m.rd, i ∉ O) : ev Φ m ρ = ev Φ m (wipeD ρ O) := ev_agr Φ m ρ _ (agr_wipe h)
/-- of a value -/
def sV (K : PySem.W.Frag) (E : EX) (W U : List Nat) (f : Env → Res D) : TE := fun σ H Q => ∃ F0 H0 F ρ, StR K W U F0 H0 F H ρ σ ∧ RW (f ρ) (fun d => ∀ v F' H', StR K W U F0 H0 F' H' ρ σ → Rep K F' d v → Q v H') (ExW K E σ H)
theorem sV_tD {K : PySem.W.Frag} {E : EX} {σ : L2.St} {H : Hp} {Q : VK} (hr : ∀ i ∈ m.rd, i ∉ W ++ U) (h : sV K E W U (ev Φ m) σ H Q) : tD K E (ev Φ m) σ H Q := by
  obtain ⟨F0, H0, F, ρ, s, q⟩ := h
  refine ⟨F, wipeD ρ (W ++ U), s.ext.sub, s.env, ?_⟩
  rw [← rd_env hr]
  exact RW.imp q (fun d hd v F' H' e r => hd v F' H' (s.step e) r) fun _ z => z
/-- .. that is atomic; own lists may be read -/
def sK (K : PySem.W.Frag) (E : EX) (W U : List Nat) (f : Env → Res D) : TE := fun σ H Q => ∃ F0 H0 F ρ, StR K W U F0 H0 F H ρ σ ∧ RW (f ρ) (fun d => atom d = true ∧ ∀ v F' H', StR K W U F0 H0 F' H' ρ σ → Rep K F' d v → Q v H') (ExW K E σ H)
theorem sK_tD {K : PySem.W.Frag} {E : EX} {σ : L2.St} {H : Hp} {Q : VK} (hr : ∀ i ∈ m.rd, i ∉ U) (hd : ∀ i ∈ W, i ∉ U) (h : sK K E W U (ev Φ m) σ H Q) : tD K E (ev Φ m) σ H Q := by
  obtain ⟨F0, H0, F, ρ, s, q⟩ := h
  obtain ⟨F1, s1, _⟩ := StR.freezeAll W.length (Nat.le_refl _) hd s
  refine ⟨F1, wipeD ρ ([] ++ U), s1.ext.sub, s1.env, ?_⟩
  rw [← rd_env (by simpa using hr)]
  exact RW.imp q (fun d ⟨ha, hq⟩ v F' H' e r => hq v F H' (s.loose e.same) (r.atom ha)) fun _ z => z
/-- of a new list or dict -/
def sF (K : PySem.W.Frag) (E : EX) (W U : List Nat) (f : Env → Res D) : TE := fun σ H Q => ∃ F0 H0 F ρ, StR K W U F0 H0 F H ρ σ ∧ RW (f ρ) (fun d => ∀ p F' H', StR K W U F0 H0 F' H' ρ σ → H p = none → F' p = none → (∀ a, H a ≠ none → H' a ≠ none) → OwnAt K F' H' p d → Q (.ref p) H') (ExW K E σ H)
theorem sF_tDF {K : PySem.W.Frag} {E : EX} {σ : L2.St} {H : Hp} {Q : VK} (hr : ∀ i ∈ m.rd, i ∉ W ++ U) (h : sF K E W U (ev Φ m) σ H Q) : tDF K E (ev Φ m) σ H Q := by
  obtain ⟨F0, H0, F, ρ, s, q⟩ := h
  refine ⟨F, wipeD ρ (W ++ U), s.ext.sub, s.env, ?_⟩
  rw [← rd_env hr]
  exact RW.imp q (fun d hd p F' H' e h1 h2 h3 => hd p F' H' (s.step e) h1 h2 (fun a ha => by
    cases z : H a with
    | none => exact absurd z ha
    | some o => rw [e.same _ _ z]; simp) h3) fun _ z => z
/-- of a test -/
def sT (K : PySem.W.Frag) (E : EX) (W U : List Nat) (f : Env → Res Bool) : TT := fun σ H Q => ∃ F0 H0 F ρ, StR K W U F0 H0 F H ρ σ ∧ RW (f ρ) (fun b => ∀ F' H', StR K W U F0 H0 F' H' ρ σ → Q b H') (ExW K E σ H)
theorem sT_tDT {K : PySem.W.Frag} {E : EX} {σ : L2.St} {H : Hp} {Q : Bool → Hp → Prop} (hr : ∀ i ∈ m.rd, i ∉ U) (hd : ∀ i ∈ W, i ∉ U) (h : sT K E W U (tst (ev Φ m)) σ H Q) : tDT K E (tst (ev Φ m)) σ H Q := by
  obtain ⟨F0, H0, F, ρ, s, q⟩ := h
  obtain ⟨F1, s1, _⟩ := StR.freezeAll W.length (Nat.le_refl _) hd s
  refine ⟨F1, wipeD ρ ([] ++ U), s1.ext.sub, s1.env, ?_⟩
  have : tst (ev Φ m) (wipeD ρ ([] ++ U)) = tst (ev Φ m) ρ := by
    unfold tst
    rw [← rd_env (by simpa using hr)]
  rw [this]
  exact RW.imp q (fun b hq F' H' e => hq F H' (s.loose e.same)) fun _ z => z
/-- of what is walked -/
def sI (K : PySem.W.Frag) (E : EX) (W U : List Nat) (f : Env → Res (List D)) : TI := fun σ H R => ∃ F0 H0 F ρ, StR K W U F0 H0 F H ρ σ ∧ RW (f ρ) (fun items => ∀ J F' H', StR K W U F0 H0 F' H' ρ σ → ItR K J F' items → items.length ≤ sizeLine → R J H') (ExW K E σ H)
theorem sI_tI {K : PySem.W.Frag} {E : EX} {σ : L2.St} {H : Hp} {R : It → Hp → Prop} {es : Exs} {k : List D → Res (List D)} (hr : ∀ i ∈ es.rd, i ∉ W ++ U) (h : sI K E W U (fun ρ => (evs Φ es ρ).bind k) σ H R) : tI K E (fun ρ => (evs Φ es ρ).bind k) σ H R := by
  obtain ⟨F0, H0, F, ρ, s, q⟩ := h
  refine ⟨F, wipeD ρ (W ++ U), s.ext.sub, s.env, ?_⟩
  have : evs Φ es ρ = evs Φ es (wipeD ρ (W ++ U)) := evs_agr Φ es ρ _ (agr_wipe hr)
  show RW ((evs Φ es (wipeD ρ (W ++ U))).bind k) _ _
  rw [← this]
  exact RW.imp q (fun items hq J F' H' e it hl => hq J F' H' (s.step e) it hl) fun _ z => z
/-- of arguments -/
def sA (K : PySem.W.Frag) (E : EX) (W U : List Nat) (f : Env → Res (List D)) : TA := fun σ H Q => ∃ F0 H0 F ρ, StR K W U F0 H0 F H ρ σ ∧ RW (f ρ) (fun ds => ∀ vs F' H', StR K W U F0 H0 F' H' ρ σ → Reps K F' ds vs → Q vs H') (ExW K E σ H)
theorem sA_tDs {K : PySem.W.Frag} {E : EX} {σ : L2.St} {H : Hp} {Q : List V → Hp → Prop} {es : Exs} (hr : ∀ i ∈ es.rd, i ∉ W ++ U) (h : sA K E W U (evs Φ es) σ H Q) : tDs K E (evs Φ es) σ H Q := by
  obtain ⟨F0, H0, F, ρ, s, q⟩ := h
  refine ⟨F, wipeD ρ (W ++ U), s.ext.sub, s.env, ?_⟩
  rw [← evs_agr Φ es ρ _ (agr_wipe hr)]
  exact RW.imp q (fun d hd v F' H' e r => hd v F' H' (s.step e) r) fun _ z => z
end
/-! ### stores -/
theorem bT_out : ∀ (t : Tg) (d : D) (ρ ρ' : Env), bT t d ρ = .ok ρ' → ρ'.length = ρ.length ∧ ∀ i, i ∉ t.slots → ρ'[i]? = ρ[i]? :=
  @Tg.rec (fun t => ∀ (d : D) (ρ ρ' : Env), bT t d ρ = .ok ρ' → ρ'.length = ρ.length ∧ ∀ i, i ∉ t.slots → ρ'[i]? = ρ[i]?)
    (fun ts => ∀ (ds : List D) (ρ ρ' : Env), bTs ts ds ρ = .ok ρ' → ρ'.length = ρ.length ∧ ∀ i, i ∉ ts.slots → ρ'[i]? = ρ[i]?)
    (fun j d ρ ρ' h => by
      simp only [bT, bName] at h
      cases h
      refine ⟨List.length_set, fun i hi => List.getElem?_set_ne fun z => hi ?_⟩
      simp [Tg.slots, z])
    (fun ts ih d ρ ρ' h => by
      simp only [bT, bTup] at h
      cases d with
      | tup ds =>
        dsimp only at h
        split at h
        · exact ih ds ρ ρ' h
        · cases h
      | _ => cases h)
    (fun ds ρ ρ' h => by
      simp only [bTs, bNil] at h
      cases ds with
      | nil => cases h; exact ⟨rfl, fun _ _ => rfl⟩
      | cons d ds => cases h)
    (fun t ts ih1 ih2 ds ρ ρ' h => by
      simp only [bTs, bCons] at h
      cases ds with
      | nil => cases h
      | cons d ds =>
        dsimp only at h
        cases e1 : bT t d ρ with
        | ok ρ1 =>
          rw [e1, Res.bind_ok] at h
          obtain ⟨l1, q1⟩ := ih1 d ρ ρ1 e1
          obtain ⟨l2, q2⟩ := ih2 ds ρ1 ρ' h
          refine ⟨l2.trans l1, fun i hi => ?_⟩
          simp only [Tgs.slots, List.mem_append, not_or] at hi
          exact (q2 i hi.2).trans (q1 i hi.1)
        | exc c => rw [e1] at h; cases h
        | bad => rw [e1] at h; cases h)
theorem bT_nox (t : Tg) : ∀ (d : D) (ρ : Env) (c : Str), bT t d ρ ≠ .exc c :=
  @Tg.rec (fun t => ∀ (d : D) (ρ : Env) (c : Str), bT t d ρ ≠ .exc c) (fun ts => ∀ (ds : List D) (ρ : Env) (c : Str), bTs ts ds ρ ≠ .exc c)
    (fun j d ρ c h => by simp only [bT, bName] at h; cases h)
    (fun ts ih d ρ c h => by
      simp only [bT, bTup] at h
      cases d with
      | tup ds =>
        dsimp only at h
        split at h
        · exact ih ds ρ c h
        · cases h
      | _ => cases h)
    (fun ds ρ c h => by
      simp only [bTs, bNil] at h
      cases ds <;> cases h)
    (fun t ts ih1 ih2 ds ρ c h => by
      simp only [bTs, bCons] at h
      cases ds with
      | nil => cases h
      | cons d ds =>
        dsimp only at h
        cases e1 : bT t d ρ with
        | ok ρ1 => rw [e1, Res.bind_ok] at h; exact ih2 ds ρ1 c h
        | exc c' => exact ih1 _ _ _ e1
        | bad => rw [e1] at h; cases h) t
section
variable {K : PySem.W.Frag} {W U : List Nat} {F0 H0 F H : Hp} {ρ ρ1 ρ2 : Env} {σ σ' : L2.St} {t : Tg} {d : D}
/-- a store into slots that are no own ones -/
theorem StR.tgt (h : StR K W U F0 H0 F H ρ σ) (hs : ∀ i ∈ t.slots, i ∉ W ++ U) (e1 : bT t d ρ = .ok ρ1) (e2 : bT t d (wipeD ρ (W ++ U)) = .ok ρ2) (re : EnvR K F ρ2 σ') (ag : Agree σ σ' t.slots) : StR K W U F0 H0 F H ρ1 σ' := by
  obtain ⟨l1, q1⟩ := bT_out t d ρ ρ1 e1
  have same : ∀ i, i ∉ W ++ U → ρ1[i]? = ρ2[i]? := fun i hi => by
    have a : Agr [i] ρ (wipeD ρ (W ++ U)) := agr_wipe fun j hj => by rw [List.mem_singleton.mp hj]; exact hi
    have b := bT_agr [i] t d a
    rw [e1, e2] at b
    exact b.2 i (List.mem_singleton.mpr rfl)
  have out : ∀ i, i ∈ W ∨ i ∈ U → ρ1[i]? = ρ[i]? ∧ σ'[i]? = σ[i]? := fun i hi => by
    have : i ∉ t.slots := fun z => hs i z (List.mem_append.mpr hi)
    exact ⟨q1 i this, ag.2 i this⟩
  refine ⟨h.ext, by rw [l1, ag.1]; exact h.len, fun i d' h1 h2 e => ?_, fun i d' h1 e => ?_, fun i d' h1 e => ?_, fun i j d' e' a h1 h2 hne g1 g2 g3 => ?_⟩
  · rw [same i (by rw [List.mem_append, not_or]; exact ⟨h1, h2⟩)] at e
    exact re.2 i d' e
  · obtain ⟨o1, o2⟩ := out i h1
    rw [o1] at e
    rw [o2]
    exact h.ow i d' h1 e
  · rw [(out i (.inl h1)).1] at e
    exact h.kind i d' h1 e
  · rw [(out i h1).1] at g1
    rw [(out j h2).1] at g2
    rw [(out i h1).2] at g3
    rw [(out j h2).2]
    exact h.ne i j d' e' a h1 h2 hne g1 g2 g3
end
end DL
/-! The data layer, 16: statements. -/
namespace DL
open PySem PySem.Spec L2

inductive Out where
  | nx (ρ : Env) | ret (d : D) | brk (ρ : Env) | cnt (ρ : Env) | exc (ρ : Env) (c : Str) | bad
/-- the own slots that are wanted at a loop's break and continue, where an exception is caught -/
structure Jt where
  lw : List Nat
  lu : List Nat
  x : Option (List Nat × List Nat)
def OutW (K : PySem.W.Frag) (J : Jt) (W U : List Nat) (F0 H0 : Hp) (E : EX) (D : Ends) : Out → Prop
  | .nx ρ => ∀ σ F H, StR K W U F0 H0 F H ρ σ → D.nx σ H
  | .brk ρ => ∀ σ F H, StR K J.lw J.lu F0 H0 F H ρ σ → D.bk σ H
  | .cnt ρ => ∀ σ F H, StR K J.lw J.lu F0 H0 F H ρ σ → D.ct σ H
  | .ret d => ∀ v F H, Ext F0 H0 F H → Rep K F d v → D.rt v H
  | .exc ρ c => (match J.x with
    | none => ∀ σ H, Same H0 H → E σ (.ref (He.ga K c)) none H
    | some wu => ∀ σ F H H', StR K wu.1 wu.2 F0 H0 F H ρ σ → Same H H' → E σ (.ref (He.ga K c)) none H')
  | .bad => False
def tDS (K : PySem.W.Frag) (J : Jt) (W U W' U' : List Nat) (E : EX) (f : Env → Out) : TS := fun D σ H => ∃ F0 H0 F ρ, StR K W U F0 H0 F H ρ σ ∧ OutW K J W' U' F0 H0 E D (f ρ)
def DS (X : Cx) (E : EX) (J : Jt) (W U : List Nat) (s : Stmt) (f : Env → Out) (W' U' : List Nat) : Prop := PS X s (tDS X.K J W U W' U' E f)
def DSs (X : Cx) (E : EX) (J : Jt) (W U : List Nat) (s : List Stmt) (f : Env → Out) (W' U' : List Nat) : Prop := PSs X s (tDS X.K J W U W' U' E f)
/-- may raise here -/
def Jt.ok (J : Jt) (W U : List Nat) : Bool := match J.x with
  | none => true
  | some wu => decide (wu.1 = W ∧ wu.2 = U)
def rO {α : Type} (ρ : Env) (r : Res α) (k : α → Out) : Out := match r with
  | .ok a => k a
  | .exc c => .exc ρ c
  | .bad => .bad
/-- a store -/
def stO (r : Res Env) : Out := match r with
  | .ok ρ => .nx ρ
  | _ => .bad
def kp (k : Bool) (r : Res D) : Res D := match r with
  | .ok d => if k = true ∧ atom d = false then .bad else .ok d
  | .exc c => .exc c
  | .bad => .bad
section
variable {K : PySem.W.Frag} {J : Jt} {W U W' U' : List Nat} {F0 H0 F H : Hp} {E : EX} {De : Ends} {ρ : Env} {σ : L2.St}
/-- the exceptions of an expression -/
theorem exc_ok {c : Str} (s : StR K W U F0 H0 F H ρ σ) (hx : J.ok W U = true) (h : OutW K J W' U' F0 H0 E De (.exc ρ c)) : ExW K E σ H c := fun H' s' => by
  simp only [OutW] at h
  unfold Jt.ok at hx
  cases q : J.x with
  | none =>
    rw [q] at h
    exact h σ H' (s.ext.same.trans s')
  | some wu =>
    rw [q] at h hx
    dsimp only at h hx
    rw [decide_eq_true_eq] at hx
    exact h σ F H H' (by rw [hx.1, hx.2]; exact s) s'
theorem rO_ok {α : Type} {r : Res α} {k : α → Out} (s : StR K W U F0 H0 F H ρ σ) (hx : J.ok W U = true) (h : OutW K J W' U' F0 H0 E De (rO ρ r k)) : RW r (fun a => OutW K J W' U' F0 H0 E De (k a)) (ExW K E σ H) := by
  cases r with
  | ok a => exact h
  | exc c => exact exc_ok s hx h
  | bad => exact h
theorem stO_ok {r : Res Env} (h : OutW K J W' U' F0 H0 E De (stO r)) : ∃ ρ', r = .ok ρ' ∧ OutW K J W' U' F0 H0 E De (.nx ρ') := by
  cases r with
  | ok ρ' => exact ⟨ρ', rfl, h⟩
  | exc c => exact h.elim
  | bad => exact h.elim
end
section
variable {X : Cx} {E : EX} {J : Jt} {W U W' U' W2 U2 : List Nat} {Φ : List (List D → Res D)} {m : Ex} {t : Tg} {e tg : Expr} {pos : Pos} {s : Stmt} {ss : List Stmt} {f g : Env → Out}
/-! ### one behind another -/
def seqO (f g : Env → Out) : Env → Out := fun ρ => match f ρ with
  | .nx ρ' => g ρ'
  | o => o
theorem dss_nil : DSs X E J W U [] Out.nx W U := pss_weak pss_nil fun D σ H ⟨F0, H0, F, ρ, s, h⟩ => h σ F H s
theorem dss_cons (h1 : DS X E J W U s f W' U') (h2 : DSs X E J W' U' ss g W2 U2) : DSs X E J W U (s :: ss) (seqO f g) W2 U2 :=
  pss_weak (pss_cons h1 h2) fun D σ H ⟨F0, H0, F, ρ, st, h⟩ => by
    refine ⟨F0, H0, F, ρ, st, ?_⟩
    unfold seqO at h
    cases q : f ρ with
    | nx ρ' =>
      rw [q] at h
      exact fun σ' F' H' st' => ⟨F0, H0, F', ρ', st', h⟩
    | ret d => rw [q] at h; exact h
    | brk ρ' => rw [q] at h; exact h
    | cnt ρ' => rw [q] at h; exact h
    | exc ρ' c => rw [q] at h; exact h
    | bad => rw [q] at h; exact h.elim
/-! ### fewer own ones at the start, at the end -/
theorem ps_lockpre {t : TS} (h : PS X s t) : PS X s (fun D σ H => t D σ H ∨ ∃ a u, H a = some u ∧ Mut (some u) ∧ ∀ o, t D σ (upd H a (.frz o u)) ∨ t D σ H) :=
  ⟨fun pins s σ H D I q => by
    rcases q with q | ⟨a, u, e1, e2, q⟩
    · exact h.run pins s σ H D I q
    · obtain ⟨od, I1⟩ := I.lock e1 e2
      rcases q od with q | q
      · exact h.run pins s σ _ D I1 q
      · exact h.run pins s σ H D I q⟩
theorem pss_lockpre {t : TS} (h : PSs X ss t) : PSs X ss (fun D σ H => t D σ H ∨ ∃ a u, H a = some u ∧ Mut (some u) ∧ ∀ o, t D σ (upd H a (.frz o u)) ∨ t D σ H) :=
  ⟨fun pins s σ H D I q => by
    rcases q with q | ⟨a, u, e1, e2, q⟩
    · exact h.run pins s σ H D I q
    · obtain ⟨od, I1⟩ := I.lock e1 e2
      rcases q od with q | q
      · exact h.run pins s σ _ D I1 q
      · exact h.run pins s σ H D I q⟩
theorem less_out {i : Nat} : ∀ {W : List Nat}, i ∉ W → less W i = W := fun {W} h => by
  unfold less
  rw [List.filter_eq_self]
  intro j hj
  exact decide_eq_true fun z => h (z ▸ hj)
/-- slot i is own no more -/
theorem ds_less (i : Nat) (hd : i ∈ W → i ∉ U) (h : DS X E J (less W i) (less U i) s f W' U') : DS X E J W U s f W' U' := by
  by_cases hw : i ∈ W
  · have hu := hd hw
    rw [less_out hu] at h
    refine ps_weak h fun D σ H ⟨F0, H0, F, ρ, st, q⟩ => ?_
    obtain ⟨F', st', _, _⟩ := st.freeze hw hu
    exact ⟨F0, H0, F', ρ, st', q⟩
  · by_cases hu : i ∈ U
    · rw [less_out hw] at h
      refine ps_weak (ps_lockpre h) fun D σ H ⟨F0, H0, F, ρ, st, q⟩ => ?_
      rcases st.lockd hu hw with st' | ⟨a, u, e1, e2, e3⟩
      · exact .inl ⟨F0, H0, F, ρ, st', q⟩
      · refine .inr ⟨a, u, e1, e2, fun o => ?_⟩
        rcases e3 o with ⟨F', st'⟩ | ⟨F', st'⟩
        · exact .inl ⟨F0, H0, F', ρ, st', q⟩
        · exact .inr ⟨F0, H0, F', ρ, st', q⟩
    · rw [less_out hw, less_out hu] at h
      exact h
theorem dss_less (i : Nat) (hd : i ∈ W → i ∉ U) (h : DSs X E J (less W i) (less U i) ss f W' U') : DSs X E J W U ss f W' U' := by
  by_cases hw : i ∈ W
  · have hu := hd hw
    rw [less_out hu] at h
    refine pss_weak h fun D σ H ⟨F0, H0, F, ρ, st, q⟩ => ?_
    obtain ⟨F', st', _, _⟩ := st.freeze hw hu
    exact ⟨F0, H0, F', ρ, st', q⟩
  · by_cases hu : i ∈ U
    · rw [less_out hw] at h
      refine pss_weak (pss_lockpre h) fun D σ H ⟨F0, H0, F, ρ, st, q⟩ => ?_
      rcases st.lockd hu hw with st' | ⟨a, u, e1, e2, e3⟩
      · exact .inl ⟨F0, H0, F, ρ, st', q⟩
      · refine .inr ⟨a, u, e1, e2, fun o => ?_⟩
        rcases e3 o with ⟨F', st'⟩ | ⟨F', st'⟩
        · exact .inl ⟨F0, H0, F', ρ, st', q⟩
        · exact .inr ⟨F0, H0, F', ρ, st', q⟩
    · rw [less_out hw, less_out hu] at h
      exact h
/-- without the slots of Z -/
def lessA (W : List Nat) : List Nat → List Nat
  | [] => W
  | i :: Z => lessA (less W i) Z
theorem lessA_sub {j : Nat} : ∀ {Z : List Nat} {W : List Nat}, j ∈ lessA W Z → j ∈ W ∧ j ∉ Z
  | [], W, h => ⟨h, by simp⟩
  | i :: Z, W, h => by
    obtain ⟨h1, h2⟩ := lessA_sub (Z := Z) (W := less W i) h
    obtain ⟨h3, h4⟩ := mem_less.mp h1
    exact ⟨h3, by rw [List.mem_cons, not_or]; exact ⟨h4, h2⟩⟩
theorem ds_lessA : ∀ (Z W U : List Nat), (∀ i ∈ W, i ∉ U) → DS X E J (lessA W Z) (lessA U Z) s f W' U' → DS X E J W U s f W' U'
  | [], W, U, _, h => h
  | i :: Z, W, U, hd, h => ds_less i (fun hw => hd i hw) (ds_lessA Z (less W i) (less U i) (fun j hj hu => hd j (mem_less.mp hj).1 (mem_less.mp hu).1) h)
theorem dss_lessA : ∀ (Z W U : List Nat), (∀ i ∈ W, i ∉ U) → DSs X E J (lessA W Z) (lessA U Z) ss f W' U' → DSs X E J W U ss f W' U'
  | [], W, U, _, h => h
  | i :: Z, W, U, hd, h => dss_less i (fun hw => hd i hw) (dss_lessA Z (less W i) (less U i) (fun j hj hu => hd j (mem_less.mp hj).1 (mem_less.mp hu).1) h)
/-- a statement that ends with fewer own ones: followed by nothing -/
theorem dss_end (Z : List Nat) (hd : ∀ i ∈ W, i ∉ U) : DSs X E J W U [] Out.nx (lessA W Z) (lessA U Z) := dss_lessA Z W U hd dss_nil

/-! ### assignments -/
theorem ds_asg (hA : PS X (.Assign [tg] e pos) (tAsg (tD X.K E (ev Φ m)) (tG X.K t.slots (bT t)))) (hr : ∀ i ∈ m.rd, i ∉ W ++ U) (hs : ∀ i ∈ t.slots, i ∉ W ++ U) (hx : J.ok W U = true) :
    DS X E J W U (.Assign [tg] e pos) (fun ρ => rO ρ (ev Φ m ρ) fun d => stO (bT t d ρ)) W U :=
  ps_weak hA fun D σ H ⟨F0, H0, F, ρ, st, q⟩ => by
    refine sV_tD hr ⟨F0, H0, F, ρ, st, RW.imp (rO_ok st hx q) (fun d hd v F' H' st' r => ?_) fun _ z => z⟩
    obtain ⟨ρ1, e1, hn⟩ := stO_ok hd
    have a : AgrR [] (bT t d ρ) (bT t d (wipeD ρ (W ++ U))) := bT_agr [] t d ⟨(wipeD_length _ _).symm, fun i hi => by cases hi⟩
    rw [e1] at a
    refine ⟨F', wipeD ρ (W ++ U), d, st'.ext.sub, st'.env, r, ?_⟩
    cases e2 : bT t d (wipeD ρ (W ++ U)) with
    | ok ρ2 => exact fun σ' re ag => hn σ' F' H' (st'.tgt hs e1 e2 re ag)
    | exc c => rw [e2] at a; exact a.elim
    | bad => rw [e2] at a; exact a.elim
theorem ds_asgK (hA : PS X (.Assign [tg] e pos) (tAsg (tD X.K E (ev Φ m)) (tG X.K t.slots (bT t)))) (hr : ∀ i ∈ m.rd, i ∉ U) (hd : ∀ i ∈ W, i ∉ U) (hs : ∀ i ∈ t.slots, i ∉ W ++ U) (hx : J.ok W U = true) :
    DS X E J W U (.Assign [tg] e pos) (fun ρ => rO ρ (kp true (ev Φ m ρ)) fun d => stO (bT t d ρ)) W U :=
  ps_weak hA fun D σ H ⟨F0, H0, F, ρ, st, q⟩ => by
    refine sK_tD hr hd ⟨F0, H0, F, ρ, st, ?_⟩
    have q' := rO_ok st hx q
    cases ee : ev Φ m ρ with
    | exc c => rw [ee] at q'; exact q'
    | bad => rw [ee] at q'; exact q'
    | ok d =>
      rw [ee] at q'
      unfold kp at q'
      dsimp only at q'
      split at q'
      · exact q'.elim
      · rename_i hat
        have hat' : atom d = true := by
          cases z : atom d with
          | true => rfl
          | false => exact absurd ⟨rfl, z⟩ hat
        refine ⟨hat', fun v F' H' st' r => ?_⟩
        obtain ⟨ρ1, e1, hn⟩ := stO_ok (q' : OutW _ _ _ _ _ _ _ _ (stO (bT t d ρ)))
        have a : AgrR [] (bT t d ρ) (bT t d (wipeD ρ (W ++ U))) := bT_agr [] t d ⟨(wipeD_length _ _).symm, fun i hi => by cases hi⟩
        rw [e1] at a
        refine ⟨F', wipeD ρ (W ++ U), d, st'.ext.sub, st'.env, r, ?_⟩
        cases e2 : bT t d (wipeD ρ (W ++ U)) with
        | ok ρ2 => exact fun σ' re ag => hn σ' F' H' (st'.tgt hs e1 e2 re ag)
        | exc c => rw [e2] at a; exact a.elim
        | bad => rw [e2] at a; exact a.elim
/-- a new list or dict becomes an own one -/
theorem StR.own {K : PySem.W.Frag} {F0 H0 F H F' H' : Hp} {ρ : Env} {σ : L2.St} {i : Nat} {p : Addr} {d : D} {b : Bool} (s0 : StR K W U F0 H0 F H ρ σ) (st : StR K W U F0 H0 F' H' ρ σ) (hp : H p = none) (fp : F' p = none) (h : OwnAt K F' H' p d)
    (hi : i ∉ W ++ U) (hb : b = false → ∃ ds, d = .lst ds) : StR K (if b = false then i :: W else W) (if b = true then i :: U else U) F0 H0 F' H' (ρ.set i (some d)) (σ.set i (some (.ref p))) := by
  have hi1 : i ∉ W := fun z => hi (List.mem_append_left _ z)
  have hi2 : i ∉ U := fun z => hi (List.mem_append_right _ z)
  have mem : ∀ j, (j ∈ (if b = false then i :: W else W) ∨ j ∈ (if b = true then i :: U else U)) ↔ j = i ∨ (j ∈ W ∨ j ∈ U) := fun j => by
    cases b
    · rw [if_pos rfl, if_neg Bool.false_ne_true, List.mem_cons]
      exact ⟨fun z => z.elim (fun z => z.elim .inl fun z => .inr (.inl z)) fun z => .inr (.inr z), fun z => z.elim (fun z => .inl (.inl z)) fun z => z.elim (fun z => .inl (.inr z)) .inr⟩
    · rw [if_neg Bool.noConfusion, if_pos rfl, List.mem_cons]
      exact ⟨fun z => z.elim (fun z => .inr (.inl z)) fun z => z.elim .inl fun z => .inr (.inr z), fun z => z.elim (fun z => .inr (.inl z)) fun z => z.elim .inl fun z => .inr (.inr z)⟩
  -- what was own stands elsewhere
  have apart : ∀ (j : Nat) (e : D) (a : Addr), j ∈ W ∨ j ∈ U → ρ[j]? = some (some e) → σ[j]? = some (some (.ref a)) → a ≠ p := fun j e a h1 h2 h3 z => by
    obtain ⟨a', z1, z2, _, _⟩ := s0.ow j e h1 h2
    rw [h3] at z1; cases z1
    obtain ⟨o, o1, _, _⟩ := z2.here
    rw [z, hp] at o1; cases o1
  have at_ : ∀ (e : D), (ρ.set i (some d))[i]? = some (some e) → e = d ∧ (σ.set i (some (V.ref p)))[i]? = some (some (.ref p)) := fun e q => by
    by_cases hl : i < ρ.length
    · rw [List.getElem?_set_self hl] at q
      cases q
      exact ⟨rfl, List.getElem?_set_self (Nat.lt_of_lt_of_le hl st.len)⟩
    · rw [List.getElem?_eq_none (by rw [List.length_set]; omega)] at q; cases q
  refine ⟨st.ext, by rw [List.length_set, List.length_set]; exact st.len, fun j e h1 h2 q => ?_, fun j e h1 q => ?_, fun j e h1 q => ?_, fun j k e e' a h1 h2 hne q1 q2 q3 => ?_⟩
  · have hj : j ≠ i := fun z => by
      have := (mem j).mpr (.inl z)
      exact this.elim h1 h2
    have hn : ¬ (j ∈ W ∨ j ∈ U) := fun z => ((mem j).mpr (.inr z)).elim h1 h2
    rw [List.getElem?_set_ne (Ne.symm hj)] at q ⊢
    exact st.fz j e (fun z => hn (.inl z)) (fun z => hn (.inr z)) q
  · by_cases hj : j = i
    · subst hj
      obtain ⟨rfl, q2⟩ := at_ e q
      refine ⟨p, q2, h, fp, ?_⟩
      cases z : H0 p with
      | none => rfl
      | some o => have := s0.ext.same _ _ z; rw [hp] at this; cases this
    · rw [List.getElem?_set_ne (Ne.symm hj)] at q ⊢
      exact st.ow j e (((mem j).mp h1).resolve_left hj) q
  · by_cases hj : j = i
    · subst hj
      obtain ⟨rfl, q2⟩ := at_ e q
      cases b with
      | false => exact hb rfl
      | true => rw [if_neg Bool.noConfusion] at h1; exact absurd h1 hi1
    · rw [List.getElem?_set_ne (Ne.symm hj)] at q
      refine st.kind j e ?_ q
      cases b with
      | false => rw [if_pos rfl] at h1; exact (List.mem_cons.mp h1).resolve_left hj
      | true => rw [if_neg Bool.noConfusion] at h1; exact h1
  · by_cases hj : j = i
    · subst hj
      have hk : k ≠ j := Ne.symm hne
      obtain ⟨rfl, z⟩ := at_ e q1
      rw [z] at q3; cases q3
      rw [List.getElem?_set_ne (Ne.symm hk)] at q2 ⊢
      exact fun z => apart k e' p (((mem k).mp h2).resolve_left hk) q2 z rfl
    · rw [List.getElem?_set_ne (Ne.symm hj)] at q1 q3
      by_cases hk : k = i
      · subst hk
        obtain ⟨rfl, z⟩ := at_ e' q2
        rw [z]
        intro z2
        cases z2
        exact apart j e _ (((mem j).mp h1).resolve_left hj) q1 q3 rfl
      · rw [List.getElem?_set_ne (Ne.symm hk)] at q2 ⊢
        exact st.ne j k e e' a (((mem j).mp h1).resolve_left hj) (((mem k).mp h2).resolve_left hk) hne q1 q2 q3
theorem ds_asgF {i : Nat} {b : Bool} (hA : PS X (.Assign [tg] e pos) (tAsg (tDF X.K E (ev Φ m)) (gName i))) (hr : ∀ j ∈ m.rd, j ∉ W ++ U) (hi : i ∉ W ++ U) (hx : J.ok W U = true) (hb : b = false → ∀ ρ d, ev Φ m ρ = .ok d → ∃ ds, d = .lst ds) :
    DS X E J W U (.Assign [tg] e pos) (fun ρ => rO ρ (ev Φ m ρ) fun d => stO (bT (.name i) d ρ)) (if b = false then i :: W else W) (if b = true then i :: U else U) :=
  ps_weak hA fun D σ H ⟨F0, H0, F, ρ, st, q⟩ => by
    have q' := rO_ok st hx q
    refine sF_tDF hr ⟨F0, H0, F, ρ, st, ?_⟩
    cases ee : ev Φ m ρ with
    | exc c => rw [ee] at q'; exact q'
    | bad => rw [ee] at q'; exact q'
    | ok d =>
      rw [ee] at q'
      intro p F' H' st' h1 h2 _ h3
      exact (q' : OutW _ _ _ _ _ _ _ _ (.nx (ρ.set i (some d)))) _ F' H' (StR.own st st' h1 h2 h3 hi fun z => hb z ρ d ee)
end
end DL
/-! The data layer, 17: if, for, while, return, raise, the changes of own lists. -/
namespace DL
open PySem PySem.Spec L2

/-! ### another ground -/
section
variable {K : PySem.W.Frag} {J : Jt} {W U W' U' : List Nat} {F0 H0 F1 H1 F H : Hp} {E : EX} {De : Ends} {ρ : Env} {σ : L2.St}
theorem StR.up (g : Ext F0 H0 F1 H1) (h : StR K W U F1 H0 F H ρ σ) : StR K W U F0 H0 F H ρ σ :=
  ⟨⟨h.ext.same, g.grow.trans h.ext.grow, h.ext.sub, fun a h1 h2 => (h.ext.new a h1 h2).elim (fun z => g.new a h1 z) .inr⟩, h.len, h.fz, h.ow, h.kind, h.ne⟩
theorem StR.down (h : StR K W U F0 H0 F H ρ σ) : StR K W U F H0 F H ρ σ :=
  ⟨⟨h.ext.same, Same.refl _, h.ext.sub, fun _ _ z => .inl z⟩, h.len, h.fz, h.ow, h.kind, h.ne⟩
theorem OutW.down (g : Ext F0 H0 F1 H1) {o : Out} (h : OutW K J W U F0 H0 E De o) : OutW K J W U F1 H0 E De o := by
  cases o with
  | nx ρ => exact fun σ F H s => h σ F H (s.up g)
  | brk ρ => exact fun σ F H s => h σ F H (s.up g)
  | cnt ρ => exact fun σ F H s => h σ F H (s.up g)
  | ret d => exact fun v F H e r => h v F H ⟨e.same, g.grow.trans e.grow, e.sub, fun a h1 h2 => (e.new a h1 h2).elim (fun z => g.new a h1 z) .inr⟩ r
  | exc ρ c =>
    simp only [OutW] at h ⊢
    cases q : J.x with
    | none => rw [q] at h; exact h
    | some wu => rw [q] at h; exact fun σ F H H' s => h σ F H H' (s.up g)
  | bad => exact h
end
section
variable {X : Cx} {E : EX} {J : Jt} {W U W' U' W2 U2 : List Nat} {Φ : List (List D → Res D)} {m : Ex} {t : Tg} {e tg c iter : Expr} {pos : Pos} {s : Stmt} {ss : List Stmt} {f g : Env → Out} {sa sb : List Stmt} {fa fb : Env → Out}
def iteO (h : Env → Res Bool) (fa fb : Env → Out) : Env → Out := fun ρ => rO ρ (h ρ) fun b => if b = true then fa ρ else fb ρ
theorem ds_if (hc : DT X E c (tst (ev Φ m))) (hr : ∀ i ∈ m.rd, i ∉ U) (hd : ∀ i ∈ W, i ∉ U) (hx : J.ok W U = true) (ha : DSs X E J W U sa fa W' U') (hb : DSs X E J W U sb fb W' U') :
    DS X E J W U (.If c sa sb pos) (iteO (tst (ev Φ m)) fa fb) W' U' :=
  ps_weak (ps_if hc ha hb) fun D σ H ⟨F0, H0, F, ρ, st, q⟩ => by
    refine sT_tDT hr hd ⟨F0, H0, F, ρ, st, RW.imp (rO_ok st hx q) (fun b hb F' H' st' => ?_) fun _ z => z⟩
    cases b with
    | true => rw [if_pos rfl] at hb ⊢; exact ⟨F0, H0, F', ρ, st', hb⟩
    | false => rw [if_neg Bool.false_ne_true] at hb ⊢; exact ⟨F0, H0, F', ρ, st', hb⟩
/-! ### loops -/
def forO (g : D → Env → Res Env) (f : Env → Out) : List D → Env → Out
  | [], ρ => .nx ρ
  | d :: ds, ρ => (match g d ρ with
    | .ok ρ1 => (match f ρ1 with
      | .nx ρ2 => forO g f ds ρ2
      | .cnt ρ2 => forO g f ds ρ2
      | .brk ρ2 => .nx ρ2
      | o => o)
    | _ => .bad)
theorem ds_for {es : Exs} {k : ItK} (hp : PassesOwn (model X.prog X.w) X.A X.env X.xe) (hc : X.calm = true) (hi : DI X E tg iter (fun ρ => (evs Φ es ρ).bind k.fn)) (hf : notSet iter = true) (hg : DG X tg t.slots (bT t)) (hr : ∀ i ∈ es.rd, i ∉ W ++ U) (hs : ∀ i ∈ t.slots, i ∉ W ++ U) (hx : J.ok W U = true)
    (hb : DSs X E ⟨W, U, J.x⟩ W U ss f W U) : DS X E J W U (.For tg iter ss [] pos) (fun ρ => rO ρ ((evs Φ es ρ).bind k.fn) fun items => forO (bT t) f items ρ) W U :=
  ps_weak (ps_for hp hc hi hg hb (fun x => fold_ok hf)) fun D σ H ⟨F0, H0, F, ρ, st, q⟩ => by
    refine sI_tI hr ⟨F0, H0, F, ρ, st, RW.imp (rO_ok st hx q) (fun items hq It F1 H1 st1 it1 hl => ?_) fun _ z => z⟩
    have g1 := st1.ext
    refine ⟨fun i n σ H => ∃ F ρ, n = items.length - i ∧ i ≤ items.length ∧ StR X.K W U F1 H0 F H ρ σ ∧ OutW X.K J W U F1 H0 E D (forO (bT t) f (items.drop i) ρ), ⟨items.length, F1, ρ, rfl, Nat.zero_le _, st1.down, by rw [List.drop_zero]; exact OutW.down g1 hq⟩, ?_⟩
    rintro i n σ2 H2 ⟨F2, ρ2, rfl, hi2, st2, h2⟩
    obtain ⟨go, stop⟩ := it1 F2 H2 st2.ext.grow st2.ext.sub
    by_cases hlt : i < items.length
    · right
      obtain ⟨g2, g3⟩ := go i items[i] (List.getElem?_eq_getElem hlt)
      refine ⟨g2, fun σ' H' => ∃ n', n' < items.length - i ∧ ∃ F ρ, n' = items.length - (i + 1) ∧ i + 1 ≤ items.length ∧ StR X.K W U F1 H0 F H' ρ σ' ∧ OutW X.K J W U F1 H0 E D (forO (bT t) f (items.drop (i + 1)) ρ), fun σ' H' z => z, fun x H' hy => ?_⟩
      obtain ⟨F3, e3, rx⟩ := g3 x H' hy
      have st3 := st2.step e3
      rw [List.drop_eq_getElem_cons hlt] at h2
      unfold forO at h2
      have a : AgrR [] (bT t items[i] ρ2) (bT t items[i] (wipeD ρ2 (W ++ U))) := bT_agr [] t items[i] ⟨(wipeD_length _ _).symm, fun i hi => by cases hi⟩
      cases e1 : bT t items[i] ρ2 with
      | exc c => rw [e1] at h2; exact h2.elim
      | bad => rw [e1] at h2; exact h2.elim
      | ok ρ3 =>
        rw [e1] at h2 a
        refine ⟨F3, wipeD ρ2 (W ++ U), items[i], st3.ext.sub, st3.env, rx, ?_⟩
        cases e2 : bT t items[i] (wipeD ρ2 (W ++ U)) with
        | exc c => rw [e2] at a; exact a.elim
        | bad => rw [e2] at a; exact a.elim
        | ok ρ4 =>
          intro σ4 re ag
          have st4 := st3.tgt hs e1 e2 re ag
          refine ⟨F1, H0, F3, ρ3, st4, ?_⟩
          dsimp only at h2
          have more : ∀ ρ5 : Env, OutW X.K J W U F1 H0 E D (forO (bT t) f (items.drop (i + 1)) ρ5) → ∀ σ F H, StR X.K W U F1 H0 F H ρ5 σ → ∃ n', n' < items.length - i ∧ ∃ F ρ, n' = items.length - (i + 1) ∧ i + 1 ≤ items.length ∧ StR X.K W U F1 H0 F H ρ σ ∧ OutW X.K J W U F1 H0 E D (forO (bT t) f (items.drop (i + 1)) ρ) :=
            fun ρ5 h5 σ F H s5 => ⟨items.length - (i + 1), by omega, F, ρ5, rfl, hlt, s5, h5⟩
          cases q : f ρ3 with
          | nx ρ5 => rw [q] at h2; exact more ρ5 h2
          | cnt ρ5 => rw [q] at h2; exact more ρ5 h2
          | brk ρ5 => rw [q] at h2; exact h2
          | ret d => rw [q] at h2; exact h2
          | exc ρ5 c => rw [q] at h2; exact h2
          | bad => rw [q] at h2; exact h2.elim
    · left
      have e : i = items.length := by omega
      subst e
      rw [List.drop_length] at h2
      exact ⟨stop, h2 σ2 F2 H2 st2⟩
def whlO (h : Env → Res Bool) (f : Env → Out) : Nat → Env → Out
  | 0, _ => .bad
  | n + 1, ρ => rO ρ (h ρ) fun b => if b = true then (match f ρ with
      | .nx ρ2 => whlO h f n ρ2
      | .cnt ρ2 => whlO h f n ρ2
      | .brk ρ2 => .nx ρ2
      | o => o) else .nx ρ
theorem ds_while (n : Nat) (hp : PassesOwn (model X.prog X.w) X.A X.env X.xe) (hc : DT X E c (tst (ev Φ m))) (hr : ∀ i ∈ m.rd, i ∉ U) (hd : ∀ i ∈ W, i ∉ U) (hx : J.ok W U = true) (hb : DSs X E ⟨W, U, J.x⟩ W U ss f W U) :
    DS X E J W U (.While c ss [] pos) (whlO (tst (ev Φ m)) f n) W U :=
  ps_weak (ps_while hp hc hb) fun D σ H ⟨F0, H0, F, ρ, st, q⟩ => by
    refine ⟨fun n σ H => ∃ F ρ, StR X.K W U F0 H0 F H ρ σ ∧ OutW X.K J W U F0 H0 E D (whlO (tst (ev Φ m)) f n ρ), ⟨n, F, ρ, st, q⟩, ?_⟩
    rintro n σ2 H2 ⟨F2, ρ2, st2, h2⟩
    cases n with
    | zero => exact h2.elim
    | succ n =>
      unfold whlO at h2
      refine sT_tDT hr hd ⟨F0, H0, F2, ρ2, st2, RW.imp (rO_ok st2 hx h2) (fun b hb F' H' st' => ?_) fun _ z => z⟩
      cases b with
      | false => rw [if_neg Bool.false_ne_true] at hb ⊢; exact hb _ _ _ st'
      | true =>
        rw [if_pos rfl] at hb ⊢
        have more : ∀ ρ5 : Env, OutW X.K J W U F0 H0 E D (whlO (tst (ev Φ m)) f n ρ5) → ∀ σ F H, StR X.K W U F0 H0 F H ρ5 σ → ∃ n', n' < n + 1 ∧ ∃ F ρ, StR X.K W U F0 H0 F H ρ σ ∧ OutW X.K J W U F0 H0 E D (whlO (tst (ev Φ m)) f n' ρ) :=
          fun ρ5 h5 σ F H s5 => ⟨n, Nat.lt_succ_self n, F, ρ5, s5, h5⟩
        refine ⟨fun σ H => ∃ n', n' < n + 1 ∧ ∃ F ρ, StR X.K W U F0 H0 F H ρ σ ∧ OutW X.K J W U F0 H0 E D (whlO (tst (ev Φ m)) f n' ρ), fun σ H z => z, F0, H0, F', ρ2, st', ?_⟩
        cases q : f ρ2 with
        | nx ρ5 => rw [q] at hb; exact more ρ5 hb
        | cnt ρ5 => rw [q] at hb; exact more ρ5 hb
        | brk ρ5 => rw [q] at hb; exact hb
        | ret d => rw [q] at hb; exact hb
        | exc ρ5 c => rw [q] at hb; exact hb
        | bad => rw [q] at hb; exact hb.elim
/-! ### the ends -/
theorem ds_ret (he : DE X E e (ev Φ m)) (hr : ∀ i ∈ m.rd, i ∉ W ++ U) (hx : J.ok W U = true) : DS X E J W U (.Return (some e) pos) (fun ρ => rO ρ (ev Φ m ρ) .ret) W' U' :=
  ps_weak (ps_ret he) fun D σ H ⟨F0, H0, F, ρ, st, q⟩ => sV_tD hr ⟨F0, H0, F, ρ, st, RW.imp (rO_ok st hx q) (fun d hd v F' H' st' r => hd v F' H' st'.ext r) fun _ z => z⟩
theorem ds_retN : DS X E J W U (.Return none pos) (fun _ => .ret .non) W' U' :=
  ps_weak ps_retN fun D σ H ⟨F0, H0, F, ρ, st, q⟩ => q .non F H st.ext mk_non
theorem ds_pass : DS X E J W U (.Pass pos) Out.nx W U := ps_weak ps_pass fun D σ H ⟨F0, H0, F, ρ, st, q⟩ => q σ F H st
theorem ds_brk : DS X E J J.lw J.lu (.Break pos) Out.brk W' U' := ps_weak ps_break fun D σ H ⟨F0, H0, F, ρ, st, q⟩ => q σ F H st
theorem ds_cnt : DS X E J J.lw J.lu (.Continue pos) Out.cnt W' U' := ps_weak ps_continue fun D σ H ⟨F0, H0, F, ρ, st, q⟩ => q σ F H st
theorem ds_expr (he : DE X E e (ev Φ m)) (hw : swapsWith e none pos.line X.env = pure false) (hr : ∀ i ∈ m.rd, i ∉ W ++ U) (hx : J.ok W U = true) : DS X E J W U (.Expr e pos) (fun ρ => rO ρ (ev Φ m ρ) fun _ => .nx ρ) W U :=
  ps_weak (ps_expr he hw) fun D σ H ⟨F0, H0, F, ρ, st, q⟩ => sV_tD hr ⟨F0, H0, F, ρ, st, RW.imp (rO_ok st hx q) (fun d hd v F' H' st' r => hd σ F' H' st') fun _ z => z⟩
theorem ds_raise {Wx : WX} {x msg : Str} {j : Nat} {p p2 cpos : Pos} (hc : X.calm = true) (tk : Takes X Wx) (hg : Gl X x) (hm : X.mg x = some (.ref (He.ga X.K x))) (ok : (He.Fa.exc x).ok X.K = true) (hdb : (x == ("__debug__" : Str)) = false) (hx : J.ok W U = true) :
    DS X (WE Wx) J W U (.Raise (some (.Call (.Name x p) [.Constant (.str msg) j p2] [] cpos)) none pos) (fun ρ => .exc ρ x) W' U' := by
  obtain ⟨c1, c2, c3, c4⟩ := He.exc_ok ok
  refine ps_weak (ps_raise hc tk (pmk_own PySem.F.excBase_ValueError c1 hm c2 (raises_own c3 c4) hg hdb)) fun D σ H ⟨F0, H0, F, ρ, st, q⟩ => ?_
  exact exc_ok st hx q H (Same.refl _)
/-! ### own lists -/
/-- the list at slot i is now ds' -/
theorem StR.chg {K : PySem.W.Frag} {F0 H0 F H : Hp} {ρ : Env} {σ : L2.St} {i : Nat} {a : Addr} {d d' : D} {o' : HO} (st : StR K W U F0 H0 F H ρ σ) (hi : i ∈ W ∨ i ∈ U) (hd : ρ[i]? = some (some d)) (hs : σ[i]? = some (some (.ref a))) (fa : F a = none) (h0 : H0 a = none)
    (own : OwnAt K F (upd H a o') a d') (hk : i ∈ W → ∃ ds, d' = .lst ds) : StR K W U F0 H0 F (upd H a o') (ρ.set i (some d')) σ := by
  have hl : i < ρ.length := (List.getElem?_eq_some_iff.mp hd).1
  have at_ : (ρ.set i (some d'))[i]? = some (some d') := List.getElem?_set_self hl
  have old : ∀ j, j ≠ i → (ρ.set i (some d'))[j]? = ρ[j]? := fun j hj => List.getElem?_set_ne (Ne.symm hj)
  refine ⟨st.ext.mut h0 fa, by rw [List.length_set]; exact st.len, fun j e h1 h2 q => ?_, fun j e h1 q => ?_, fun j e h1 q => ?_, fun j k e e' b h1 h2 hne q1 q2 q3 => ?_⟩
  · have hj : j ≠ i := fun z => by subst z; exact hi.elim h1 h2
    rw [old j hj] at q
    exact st.fz j e h1 h2 q
  · by_cases hj : j = i
    · subst hj
      rw [at_] at q; cases q
      exact ⟨a, hs, own, fa, h0⟩
    · rw [old j hj] at q
      obtain ⟨b, e1, e2, e3, e4⟩ := st.ow j e h1 q
      have hb : b ≠ a := fun z => st.ne i j d e a hi h1 (Ne.symm hj) hd q hs (by rw [← z]; exact e1)
      exact ⟨b, e1, e2.mono (Same.refl _) (upd_ne hb), e3, e4⟩
  · by_cases hj : j = i
    · subst hj
      rw [at_] at q; cases q
      exact hk h1
    · rw [old j hj] at q
      exact st.kind j e h1 q
  · have q1' : ∃ e0, ρ[j]? = some (some e0) := by
      by_cases hj : j = i
      · subst hj; exact ⟨d, hd⟩
      · rw [old j hj] at q1; exact ⟨e, q1⟩
    have q2' : ∃ e0, ρ[k]? = some (some e0) := by
      by_cases hj : k = i
      · subst hj; exact ⟨d, hd⟩
      · rw [old k hj] at q2; exact ⟨e', q2⟩
    obtain ⟨z1, q1'⟩ := q1'
    obtain ⟨z2, q2'⟩ := q2'
    exact st.ne j k z1 z2 b h1 h2 hne q1' q2' q3
/-- what stands at slot i of an own list -/
theorem StR.lst_at {K : PySem.W.Frag} {F0 H0 F H : Hp} {ρ : Env} {σ : L2.St} {i : Nat} {ds : List D} (st : StR K W U F0 H0 F H ρ σ) (hi : i ∈ W) (hd : ρ[i]? = some (some (.lst ds))) : ∃ a vs, σ[i]? = some (some (.ref a)) ∧ H a = some (.lst vs) ∧ Reps K F ds vs ∧ ds.length ≤ sizeLine ∧ F a = none ∧ H0 a = none := by
  obtain ⟨a, e1, ⟨vs, g1, g2, g3⟩, e3, e4⟩ := st.ow i _ (.inl hi) hd
  exact ⟨a, vs, e1, g1, g2, g3, e3, e4⟩
def appO (i : Nat) (f : Env → Res D) : Env → Out := fun ρ => match ρ[i]? with
  | some (some (.lst ds)) => rO ρ (f ρ) fun d => if ds.length < 16777216 then .nx (ρ.set i (some (.lst (ds ++ [d])))) else .bad
  | _ => .bad
def extO (i : Nat) (f : Env → Res D) : Env → Out := fun ρ => match ρ[i]? with
  | some (some (.lst ds)) => rO ρ (f ρ) fun d => (match d with
    | .lst es => if ds.length + es.length ≤ 16777216 then .nx (ρ.set i (some (.lst (ds ++ es)))) else .bad
    | _ => .bad)
  | _ => .bad
theorem lst_slot {ρ : Env} {i : Nat} {k : List D → Out} {K : PySem.W.Frag} {F0 H0 : Hp} {De : Ends} (h : OutW K J W' U' F0 H0 E De (match ρ[i]? with | some (some (.lst ds)) => k ds | _ => .bad)) : ∃ ds, ρ[i]? = some (some (.lst ds)) ∧ OutW K J W' U' F0 H0 E De (k ds) := by
  cases q : ρ[i]? with
  | none => rw [q] at h; exact h.elim
  | some o =>
    cases o with
    | none => rw [q] at h; exact h.elim
    | some d =>
      cases d with
      | lst ds => rw [q] at h; exact ⟨ds, rfl, h⟩
      | _ => rw [q] at h; exact h.elim
section
variable {i : Nat} {x : Str} {p apos cpos : Pos}
theorem app_core (hi : i ∈ W) {De : Ends} {k : Bool} (hx : J.ok W U = true) {σ : L2.St} {H : Hp} {F0 H0 F : Hp} {ρ : Env} (st : StR X.K W U F0 H0 F H ρ σ) (q : OutW X.K J W U F0 H0 E De (appO i (fun ρ => kp k (ev Φ m ρ)) ρ))
    (hk : k = false → ∀ j ∈ m.rd, j ∉ W ++ U) (hk' : k = true → (∀ j ∈ m.rd, j ∉ U) ∧ ∀ j ∈ W, j ∉ U) :
    tBM X.K "list" rAppend (tVar i) (tCons (tD X.K E (ev Φ m)) tNil) σ H (fun _ H1 => De.nx σ H1) := by
  unfold appO at q
  obtain ⟨ds, e1, q⟩ := lst_slot q
  obtain ⟨a, vs, g1, g2, g3, g4, g5, g6⟩ := st.lst_at hi e1
  refine ⟨_, g1, .inl ⟨rfl, vs, SqL.of g2⟩, ?_⟩
  have fin : ∀ (d : D) (v : V) (F' H' : Hp), StR X.K W U F0 H0 F' H' ρ σ → Rep X.K F' d v → OutW X.K J W U F0 H0 E De (if ds.length < 16777216 then .nx (ρ.set i (some (.lst (ds ++ [d])))) else .bad) → tNil σ H' fun vs' H2 => rAppend (.ref a) (v :: vs') H2 fun _ H1 => De.nx σ H1 := fun d v F' H' st' r hq => by
    split at hq
    · rename_i hl
      obtain ⟨a', vs2, z1, z2, z3, z4, z5, z6⟩ := st'.lst_at hi e1
      rw [g1] at z1
      have ea : a = a' := by injection z1 with z1; injection z1 with z1; injection z1
      subst ea
      have l2 := z3.length
      refine ⟨a, vs2, v, rfl, rfl, z2, by rw [PySem.sizeLine_eq]; omega, ?_⟩
      exact hq σ F' _ (st'.chg (.inl hi) e1 g1 z5 z6 ⟨_, upd_same, z3.append (Reps.nil.cons r), by rw [List.length_append, PySem.sizeLine_eq]; simp; omega⟩ fun _ => ⟨_, rfl⟩)
    · exact hq.elim
  cases k with
  | false =>
    refine sV_tD (hk rfl) ⟨F0, H0, F, ρ, st, ?_⟩
    have q' := rO_ok st hx q
    dsimp only at q'
    cases ee : ev Φ m ρ with
    | exc c => rw [ee] at q'; exact q'
    | bad => rw [ee] at q'; exact q'
    | ok d => rw [ee] at q'; exact fun v F' H' st' r => fin d v F' H' st' r q'
  | true =>
    obtain ⟨k1, k2⟩ := hk' rfl
    refine sK_tD k1 k2 ⟨F0, H0, F, ρ, st, ?_⟩
    have q' := rO_ok st hx q
    dsimp only at q'
    cases ee : ev Φ m ρ with
    | exc c => rw [ee] at q'; exact q'
    | bad => rw [ee] at q'; exact q'
    | ok d =>
      rw [ee] at q'
      unfold kp at q'
      dsimp only at q'
      split at q'
      · exact q'.elim
      · rename_i hat
        refine ⟨?_, fun v F' H' st' r => fin d v F' H' st' r q'⟩
        cases z : atom d with
        | true => rfl
        | false => exact absurd ⟨rfl, z⟩ hat
theorem ds_app {k : Bool} (hN : X.N[i]? = some x) (hv : Vis X.env.scope x) (h1 : (x == ("__debug__" : Str)) = false) (h2 : (x == ("__classdict__" : Str)) = false) (he : DE X E e (ev Φ m)) (hn : notStar e = true) (hl : (apos.endLine == cpos.line) = true) (hi : i ∈ W) (hx : J.ok W U = true)
    (hk : k = false → ∀ j ∈ m.rd, j ∉ W ++ U) (hk' : k = true → (∀ j ∈ m.rd, j ∉ U) ∧ ∀ j ∈ W, j ∉ U) :
    DS X E J W U (.Expr (.Call (.Attribute (.Name x p) "append" apos) [e] [] cpos) pos) (appO i (fun ρ => kp k (ev Φ m ρ))) W U :=
  ps_weak (ps_expr (pe_bm F.plainAttrs_list F.slot_list_append F.type_list_append mt_append (pe_var hN hv h1 h2) (pa_cons he pa_nil (star_cons hn)) rfl (star_few (by rw [List.all_cons, hn]; rfl) (by simp)) hl (star_cons hn) rfl) rfl) fun D σ H ⟨F0, H0, F, ρ, st, q⟩ => app_core hi hx st q hk hk'
theorem ext_core (hi : i ∈ W) {De : Ends} (hx : J.ok W U = true) {σ : L2.St} {H : Hp} {F0 H0 F : Hp} {ρ : Env} (st : StR X.K W U F0 H0 F H ρ σ) (q : OutW X.K J W U F0 H0 E De (extO i (ev Φ m) ρ)) (hk : ∀ j ∈ m.rd, j ∉ W ++ U) :
    tBM X.K "list" rExtend (tVar i) (tCons (tD X.K E (ev Φ m)) tNil) σ H (fun _ H1 => De.nx σ H1) := by
  unfold extO at q
  obtain ⟨ds, e1, q⟩ := lst_slot q
  obtain ⟨a, vs, g1, g2, g3, g4, g5, g6⟩ := st.lst_at hi e1
  refine ⟨_, g1, .inl ⟨rfl, vs, SqL.of g2⟩, ?_⟩
  refine sV_tD hk ⟨F0, H0, F, ρ, st, RW.imp (rO_ok st hx q) (fun d hq v F' H' st' r => ?_) fun _ z => z⟩
  cases d with
  | lst es =>
    dsimp only at hq
    split at hq
    · rename_i hl
      obtain ⟨a', vs2, z1, z2, z3, z4, z5, z6⟩ := st'.lst_at hi e1
      rw [g1] at z1
      have ea : a = a' := by injection z1 with z1; injection z1 with z1; injection z1
      subst ea
      obtain ⟨b, ws, rfl, w1, w2, w3⟩ := rep_lst r
      have l2 := z3.length
      have l3 := w2.length
      refine ⟨a, b, vs2, ws, rfl, rfl, z2, st'.ext.sub _ _ w1, by rw [PySem.sizeLine_eq]; omega, ?_⟩
      exact hq σ F' _ (st'.chg (.inl hi) e1 g1 z5 z6 ⟨_, upd_same, z3.append w2, by rw [List.length_append, PySem.sizeLine_eq]; omega⟩ fun _ => ⟨_, rfl⟩)
    · exact hq.elim
  | _ => exact hq.elim
theorem ds_ext (hN : X.N[i]? = some x) (hv : Vis X.env.scope x) (h1 : (x == ("__debug__" : Str)) = false) (h2 : (x == ("__classdict__" : Str)) = false) (he : DE X E e (ev Φ m)) (hn : notStar e = true) (hl : (apos.endLine == cpos.line) = true) (hi : i ∈ W) (hx : J.ok W U = true)
    (hk : ∀ j ∈ m.rd, j ∉ W ++ U) : DS X E J W U (.Expr (.Call (.Attribute (.Name x p) "extend" apos) [e] [] cpos) pos) (extO i (ev Φ m)) W U :=
  ps_weak (ps_expr (pe_bm F.plainAttrs_list F.slot_list_extend F.type_list_extend mt_extend (pe_var hN hv h1 h2) (pa_cons he pa_nil (star_cons hn)) rfl (star_few (by rw [List.all_cons, hn]; rfl) (by simp)) hl (star_cons hn) rfl) rfl) fun D σ H ⟨F0, H0, F, ρ, st, q⟩ => ext_core hi hx st q hk
end
end
end DL
/-! The data layer, 18: assignments as they stand in the text. -/
namespace DL
open PySem PySem.Spec L2

/-! ### a list comprehension that is stored on its line -/
section
variable {X : Cx} {E : EX} {elt tg iter : Expr} {ifs : List Expr} {scope : Scope} {own : List (Str × Nat)} {pos : Pos} {fi : Env → Res (List D)} {vs : List Nat} {g : D → Env → Res Env} {ft : Env → Res Bool} {fe : Env → Res D}
theorem tD_tDF {K : PySem.W.Frag} {f : Env → Res D} (hf : ∀ ρ d, f ρ = .ok d → ∃ ds, d = .lst ds) {σ : L2.St} {H : Hp} {Q : VK} (h : tD K E f σ H Q) : tDF K E f σ H Q := by
  obtain ⟨F, ρ, s, re, q⟩ := h
  refine ⟨F, ρ, s, re, ?_⟩
  cases e : f ρ with
  | exc c => rw [e] at q; exact q
  | bad => rw [e] at q; exact q
  | ok d =>
    rw [e] at q
    obtain ⟨ds, rfl⟩ := hf ρ d e
    intro p F' H' e1 h1 h2 h3
    obtain ⟨ws, g1, g2, g3⟩ := h3
    have e2 := e1.lock (o := .lst ws) h1 h2
    have : upd H' p (.lst ws) = H' := by
      funext b
      by_cases hb : b = p
      · subst hb; rw [upd_same, g1]
      · rw [upd_ne hb]
    rw [this] at e2
    exact q _ _ _ e2 (mk_lst upd_same (g2.mono (same_upd h2)) g3)
end
def isFun (Γ : Gam) : Bool := decide (Γ.sc.kind = .function)
/-- the target's name is swapped in -/
def swB (Γ : Gam) (y : Str) (py pos : Pos) (scope : Scope) : Bool := isFun Γ && decide (Γ.sc.names.lookup y = some .local) && (py.line == pos.line) && !(scope.names.any fun (n, k) => n == y && (k == .local || k == .cell))
def isComp : Expr → Bool
  | .ListComp .. => true
  | .SetComp .. => true
  | .DictComp .. => true
  | _ => false
theorem sw_plain {e : Expr} {t : Option Expr} {l : Nat} {env : PySem.Env} (h : isComp e = false) : swapsWith e t l env = pure false := by
  cases e <;> first | rfl | cases h
def isName : Expr → Bool
  | .Name .. => true
  | _ => false
theorem sw_tuple {es : List Expr} {k : Nat} {p : Pos} {e : Expr} {l : Nat} {env : PySem.Env} : swapsWith e (some (.Tuple es k p)) l env = pure false := by
  cases e <;> rfl
theorem sw_false {Φ : List (List D → Res D)} {Γ : Gam} {X : Cx} {E : EX} (O : Ok Γ Φ X E) {y : Str} {py pos : Pos} {scope : Scope} {elt : Expr} {gs : List Comprehension} {l : Nat} (hk : Γ.sc.kind = .function) (h : swB Γ y py pos scope = false) : swapsWith (.ListComp elt gs scope pos) (some (.Name y py)) l X.env = pure false := by
  have hb : X.env.blockKind = .function := by unfold PySem.Env.blockKind; rw [O.sc, hk]; rfl
  have ky : X.env.kindOf y = Γ.sc.names.lookup y := by show X.env.scope.names.lookup y = _; rw [O.sc]
  unfold swB isFun at h
  rw [hk] at h
  unfold swapsWith
  simp only [hb, ky, Expr.pos]
  have : ((ScopeKind.function == ScopeKind.function) && (Γ.sc.names.lookup y == some NameKind.local) && (py.line == pos.line) && !(scope.names.any fun (n, k) => n == y && (k == .local || k == .cell))) = false := by
    rw [← h]
    have e1 : (ScopeKind.function == ScopeKind.function) = decide (ScopeKind.function = ScopeKind.function) := by decide
    have e2 : (Γ.sc.names.lookup y == some NameKind.local) = decide (Γ.sc.names.lookup y = some NameKind.local) := by
      by_cases z : Γ.sc.names.lookup y = some .local
      · rw [z]; rfl
      · rw [decide_eq_false z]
        simpa using z
    rw [e1, e2]
  rw [this]
section
variable {Φ : List (List D → Res D)} {r : Rc} {Γ : Gam} {X : Cx} {E : EX}
theorem compV_lst {fi : Env → Res (List D)} {vs : List Nat} {g : D → Env → Res Env} {ft : Env → Res Bool} {fe : Env → Res D} (ρ : Env) (d : D) (h : compV fi vs g ft fe ρ = .ok d) : ∃ ds, d = .lst ds := by
  unfold compV at h
  cases e1 : fi ρ with
  | ok items =>
    rw [e1, Res.bind_ok] at h
    cases e2 : compL g ft fe (wipeD ρ vs) items with
    | ok ds => rw [e2] at h; cases h; exact ⟨ds, rfl⟩
    | exc c => rw [e2] at h; cases h
    | bad => rw [e2] at h; cases h
  | exc c => rw [e1] at h; cases h
  | bad => rw [e1] at h; cases h
theorem compR_lst {elt tg iter : Expr} {ifs : List Expr} {scope : Scope} {m : Ex} (h : compR r Γ elt tg iter ifs scope = some m) (ρ : Env) (d : D) (hd : ev Φ m ρ = .ok d) : ∃ ds, d = .lst ds := by
  unfold compR at h
  split at h
  · split at h
    · split at h
      · cases h
        exact compV_lst ρ d hd
      · cases h
    · cases h
  · cases h
/-- name = [..] -/
theorem ps_comp (hr : Snd Φ r) (O : Ok Γ Φ X E) {elt tg iter : Expr} {ifs : List Expr} {scope : Scope} {pos py spos : Pos} {y : Str} {i : Nat} {m : Ex} (h : compR r Γ elt tg iter ifs scope = some m) (hN : X.N[i]? = some y) (hsw : swB Γ y py pos scope = true) :
    PS X (.Assign [.Name y py] (.ListComp elt [⟨tg, iter, ifs, 0⟩] scope pos) spos) (tAsg (tDF X.K E (ev Φ m)) (gName i)) := by
  unfold swB isFun at hsw
  simp only [Bool.and_eq_true, decide_eq_true_eq, Bool.not_eq_true'] at hsw
  obtain ⟨⟨⟨s1, s2⟩, s3⟩, s4⟩ := hsw
  have hy : X.env.scope.names.lookup y = some .local := by rw [O.sc]; exact s2
  have hsw' : swapsWith (.ListComp elt [⟨tg, iter, ifs, 0⟩] scope pos) (some (.Name y py)) spos.line X.env = pure true := sw_true (by rw [O.sc]; exact s1) hy s3 s4
  unfold compR at h
  split at h
  · rename_i hb
    split at h
    · rename_i k ms t c e hi ht hc he
      split at h
      · rename_i hv
        cases h
        obtain ⟨d1, d2⟩ := ciR_ok hr O hi
        have ok : BlkOk X.N X.env.scope scope (ownOf Γ.N scope) := by rw [O.N, O.sc]; exact blkOk_by hb
        have hts : ∀ (s : Shared) (H : Hp) (C : Addr) (cl : List (Str × Addr)) (fp : List Addr), PTs (X.blk s H scope (compEnvC scope cl C X.env) fp) ifs (tDT X.K E0 (tst (ev Φ c))) := fun s H C cl fp => by
          have O' := O.blk scope s H C cl fp
          unfold ifR at hc
          split at hc
          · cases hc; exact dts_nil
          · exact dts_one (hr.tst _ _ _ O' _ _ hc)
          · cases hc
        refine ps_weak (ps_setLc (g := tG X.K t.slots (bT t)) (tt := tDT X.K E0 (tst (ev Φ c))) (te := tD X.K E0 (ev Φ e)) O.calm O.nd hN hy hsw' d1 ok (fun s H C cl fp => (tgR_ok (Φ := Φ) (E := E0) 20 _ _ (O.blk scope s H C cl fp)).1 _ _ ht) hts (fun s H C cl fp => hr.val _ _ _ (O.blk scope s H C cl fp) _ _ he) (fun x => fold_ok d2)) fun De σ H q => ?_
        exact lc_weak (fun i hi => by simpa using List.all_eq_true.mp hv i hi) q
      · cases h
    · cases h
  · cases h
end
end DL
/-! The data layer, 19: two stores at once; fewer own ones at the end. -/
namespace DL
open PySem PySem.Spec L2

def starB : Expr → Bool
  | .Starred .. => true
  | _ => false
theorem starB_no {z : Expr} (h : notStar z = true) : starB z = false := by cases z <;> first | rfl | cases h
def par2B (Γ : Gam) (x y : Str) (px py : Pos) (a b : Expr) : Bool := isFun Γ && decide (Γ.sc.names.lookup x = some .local) && decide (Γ.sc.names.lookup y = some .local) && (py.line == px.line) && decide (x ≠ y) && notStar a && notStar b && !([a, b].all (foldedForSure 8)) && !([a, b].all (constantsAlone 8))
theorem par2_ok {Φ : List (List D → Res D)} {Γ : Gam} {X : Cx} {E : EX} (O : Ok Γ Φ X E) {x y : Str} {px py pt pt2 : Pos} {a b : Expr} {kt k2 : Nat} (h : par2B Γ x y px py a b = true) :
    swappedStores [.Tuple [.Name x px, .Name y py] kt pt] (.Tuple [a, b] k2 pt2) X.env = pure (some [x, y]) := by
  unfold par2B isFun at h
  simp only [Bool.and_eq_true, decide_eq_true_eq, Bool.not_eq_true'] at h
  obtain ⟨⟨⟨⟨⟨⟨⟨⟨h1, h2⟩, h3⟩, h4⟩, h5⟩, h6⟩, h7⟩, h8⟩, h9⟩ := h
  have hb : X.env.blockKind = .function := by unfold PySem.Env.blockKind; rw [O.sc, h1]; rfl
  have kx : X.env.kindOf x = some .local := by show X.env.scope.names.lookup x = _; rw [O.sc]; exact h2
  have ky : X.env.kindOf y = some .local := by show X.env.scope.names.lookup y = _; rw [O.sc]; exact h3
  have hst : ([a, b].any fun | .Starred .. => true | _ => false) = false := by
    show (starB a || (starB b || false)) = false
    rw [starB_no h6, starB_no h7]
    rfl
  have hyl : (py.line == px.line) = true := h4
  have hd : [x, y].eraseDups = [x, y] := by
    have : (y == x) = false := by simpa using fun z => h5 z.symm
    simp [List.eraseDups_cons, this]
  have hd2 : ([x, y].eraseDups.length != [x, y].length) = false := by rw [hd]; rfl
  have hn : (List.filterMap (fun z => match z with
      | .Name id pos => if (X.env.kindOf id == some .local && pos.line == px.line) = true then some id else none
      | _ => none) [Expr.Name x px, Expr.Name y py]) = [x, y] := by
    have q1 : (X.env.kindOf x == some NameKind.local && px.line == px.line) = true := by rw [kx]; simp
    have q2 : (X.env.kindOf y == some NameKind.local && py.line == px.line) = true := by rw [ky, hyl]; rfl
    rw [List.filterMap_cons, List.filterMap_cons, List.filterMap_nil]
    dsimp only
    rw [if_pos q1, if_pos q2]
  unfold swappedStores
  dsimp only
  have key : ∀ L : List Str, L = [x, y] → ¬ ((L.length != [Expr.Name x px, Expr.Name y py].length || L.eraseDups.length != L.length) = true) := by
    rintro _ rfl
    rw [hd]
    exact Bool.false_ne_true
  split
  · rename_i z
    rw [hb] at z
    exact absurd (show false = true from z) Bool.false_ne_true
  · split
    · rename_i z
      exact absurd (hst.symm.trans z) Bool.false_ne_true
    · split
      · rename_i z
        exact absurd z (key _ hn)
      · split
        · rename_i z
          exact absurd (h8.symm.trans z) Bool.false_ne_true
        · split
          · rename_i z
            exact absurd (h9.symm.trans z) Bool.false_ne_true
          · exact congrArg (fun L => (pure (some L) : Sem (Option (List Str)))) hn
section
variable {X : Cx} {E : EX} {J : Jt} {W U W' U' : List Nat} {Φ : List (List D → Res D)} {m1 m2 : Ex} {a b : Expr} {ss : List Stmt} {f : Env → Out}
/-- x, y = a, b -/
theorem ds_par {x y : Str} {px py pt pt2 pos : Pos} {kt k2 : Nat} {i j : Nat} (hc : X.calm = true) (hN : X.N.Nodup) (hi : X.N[i]? = some x) (hj : X.N[j]? = some y) (hij : i ≠ j) (hx : X.env.scope.names.lookup x = some .local) (hy : X.env.scope.names.lookup y = some .local)
    (ha : DEs X E [a, b] (evs Φ (.cons m1 (.cons m2 .nil)))) (hw : swappedStores [.Tuple [.Name x px, .Name y py] kt pt] (.Tuple [a, b] k2 pt2) X.env = pure (some [x, y])) (hr : ∀ k ∈ (Exs.cons m1 (.cons m2 .nil)).rd, k ∉ W ++ U) (h1 : i ∉ W ++ U) (h2 : j ∉ W ++ U) (hx1 : J.ok W U = true) :
    DS X E J W U (.Assign [.Tuple [.Name x px, .Name y py] kt pt] (.Tuple [a, b] k2 pt2) pos) (fun ρ => rO ρ (ev Φ (.tup (.cons m1 (.cons m2 .nil))) ρ) fun d => stO (bT (.tup (.cons (.name i) (.cons (.name j) .nil))) d ρ)) W U :=
  ps_weak (ps_par hc hN hi hj hij hx hy ha hw (sw_tuple (es := [.Name x px, .Name y py]) (k := kt) (p := pt) (e := .Tuple [a, b] k2 pt2) (l := pos.line) (env := X.env))) fun De σ H ⟨F0, H0, F, ρ, st, q⟩ => by
    refine sA_tDs hr ⟨F0, H0, F, ρ, st, ?_⟩
    have q' := rO_ok st hx1 q
    simp only [ev, tupV] at q'
    refine RW.imp (RW.bind q') (fun ds hd vs F' H' st' r => ?_) fun _ z => z
    split at hd
    · exact hd.elim
    have hd' : OutW X.K J W U F0 H0 E De (stO (bT (.tup (.cons (.name i) (.cons (.name j) .nil))) (.tup ds) ρ)) := hd
    cases ds with
    | nil => exact hd'.elim
    | cons d1 ds =>
      cases ds with
      | nil => exact hd'.elim
      | cons d2 ds =>
        cases ds with
        | cons d3 ds =>
          have hz : bT (.tup (.cons (.name i) (.cons (.name j) .nil))) (.tup (d1 :: d2 :: d3 :: ds)) ρ = .bad := by
            simp only [bT, bTup, Tgs.len]
            exact if_neg (by simp)
          rw [hz] at hd'
          exact hd'.elim
        | nil =>
          obtain ⟨v, w, rfl, r1, r2⟩ := r.two
          refine ⟨v, w, rfl, ?_⟩
          have hn : OutW X.K J W U F0 H0 E De (.nx ((ρ.set i (some d1)).set j (some d2))) := hd'
          have e1 : bT (.tup (.cons (.name i) (.cons (.name j) .nil))) (.tup [d1, d2]) ρ = .ok ((ρ.set i (some d1)).set j (some d2)) := rfl
          have e2 : bT (.tup (.cons (.name i) (.cons (.name j) .nil))) (.tup [d1, d2]) (wipeD ρ (W ++ U)) = .ok (((wipeD ρ (W ++ U)).set i (some d1)).set j (some d2)) := rfl
          refine hn _ F' H' (st'.tgt (t := .tup (.cons (.name i) (.cons (.name j) .nil))) (fun k hk => ?_) e1 e2 ((st'.env.set r1).set r2) ?_)
          · have : k = i ∨ k = j := by simpa [Tg.slots, Tgs.slots] using hk
            rcases this with z | z
            · rw [z]; exact h1
            · rw [z]; exact h2
          · have := (Agree.set σ i (some v)).trans (Agree.set (σ.set i (some v)) j (some w))
            exact ⟨this.1, fun k hk => this.2 k (by simpa [Tg.slots, Tgs.slots] using hk)⟩
/-! ### fewer own ones at the end -/
theorem pss_lockpost {t : TS} (h : PSs X ss t) : PSs X ss (fun De σ H => t { De with nx := fun σ' H' => De.nx σ' H' ∨ ∃ a u, H' a = some u ∧ Mut (some u) ∧ ∀ o, De.nx σ' (upd H' a (.frz o u)) ∨ De.nx σ' H' } σ H) :=
  ⟨fun pins s σ H De I q => thn (h.run pins s σ H _ I q) fun fl s1 z => by
    cases fl with
    | next =>
      obtain ⟨σ', H', I1, z⟩ := z
      rcases z with z | ⟨a, u, e1, e2, z⟩
      · exact ⟨σ', H', I1, z⟩
      · obtain ⟨od, I2⟩ := I1.lock e1 e2
        rcases z od with z | z
        · exact ⟨σ', _, I2, z⟩
        · exact ⟨σ', H', I1, z⟩
    | brk => exact z
    | cont => exact z
    | ret v => exact z⟩
theorem dss_post1 (i : Nat) (hd : i ∈ W' → i ∉ U') (h : DSs X E J W U ss f W' U') : DSs X E J W U ss f (less W' i) (less U' i) :=
  pss_weak (pss_lockpost h) fun De σ H ⟨F0, H0, F, ρ, st, q⟩ => by
    refine ⟨F0, H0, F, ρ, st, ?_⟩
    cases e : f ρ with
    | nx ρ' =>
      rw [e] at q
      intro σ' F' H' st'
      by_cases hw : i ∈ W'
      · have hu := hd hw
        obtain ⟨F2, st2, _, _⟩ := st'.freeze hw hu
        rw [less_out hu] at q
        exact .inl (q σ' F2 H' st2)
      · rw [less_out hw] at q
        by_cases hu : i ∈ U'
        · rcases st'.lockd hu hw with st2 | ⟨a, u, e1, e2, e3⟩
          · exact .inl (q σ' F' H' st2)
          · refine .inr ⟨a, u, e1, e2, fun o => ?_⟩
            rcases e3 o with ⟨F2, st2⟩ | ⟨F2, st2⟩
            · exact .inl (q _ _ _ st2)
            · exact .inr (q _ _ _ st2)
        · rw [less_out hu] at q
          exact .inl (q σ' F' H' st')
    | ret d => rw [e] at q; exact q
    | brk ρ' => rw [e] at q; exact q
    | cnt ρ' => rw [e] at q; exact q
    | exc ρ' c => rw [e] at q; exact q
    | bad => rw [e] at q; exact q.elim
theorem dss_post : ∀ (Z : List Nat) {W' U' : List Nat}, (∀ i ∈ W', i ∉ U') → DSs X E J W U ss f W' U' → DSs X E J W U ss f (lessA W' Z) (lessA U' Z)
  | [], _, _, _, h => h
  | i :: Z, W', U', hd, h => dss_post Z (fun j hj hu => hd j (mem_less.mp hj).1 (mem_less.mp hu).1) (dss_post1 i (fun hw => hd i hw) h)
end
end DL
/-! The data layer, 19b: own dicts: a store, a key taken out. -/
namespace DL
open PySem PySem.Spec L2

section
variable {X : Cx} {E : EX} {J : Jt} {W U W' U' : List Nat} {Φ : List (List D → Res D)} {mk mv : Ex} {ek evx : Expr} {i : Nat} {x : Str} {p apos cpos spos pos : Pos}
def putO (i : Nat) (fk fv : Env → Res D) : Env → Out := fun ρ => match ρ[i]? with
  | some (some (.dic t kvs)) => rO ρ (fv ρ) fun v => rO ρ (fk ρ) fun k => if keyOk t k = true ∧ kvs.length < 16777216 then .nx (ρ.set i (some (.dic t (putD kvs k v)))) else .bad
  | _ => .bad
def popO (i : Nat) (fk : Env → Res D) : Env → Out := fun ρ => match ρ[i]? with
  | some (some (.dic false kvs)) => rO ρ (fk ρ) fun k => if key0 k = true ∧ (lookD kvs k).isSome = true then .nx (ρ.set i (some (.dic false (dropD kvs k)))) else .bad
  | _ => .bad
theorem dic_slot {ρ : Env} {i : Nat} {k : Bool → List (D × D) → Out} {K : PySem.W.Frag} {F0 H0 : Hp} {De : Ends} (h : OutW K J W' U' F0 H0 E De (match ρ[i]? with | some (some (.dic t kvs)) => k t kvs | _ => .bad)) : ∃ t kvs, ρ[i]? = some (some (.dic t kvs)) ∧ OutW K J W' U' F0 H0 E De (k t kvs) := by
  cases q : ρ[i]? with
  | none => rw [q] at h; exact h.elim
  | some o =>
    cases o with
    | none => rw [q] at h; exact h.elim
    | some d =>
      cases d with
      | dic t kvs => rw [q] at h; exact ⟨t, kvs, rfl, h⟩
      | _ => rw [q] at h; exact h.elim
theorem tvar_at {K : PySem.W.Frag} {F0 H0 F H : Hp} {ρ : Env} {σ : L2.St} {d : D} {a : Addr} {v : V} {H' : Hp} (h : σ[i]? = some (some v)) (Q : VK) (q : Q v H') : tVar i σ H' Q := ⟨v, h, q⟩
theorem key_of {K : PySem.W.Frag} {F : Hp} {k : D} {y : V} (hk : key1 k = true) (r : Rep K F k y) : ∃ b ks, y = .ref b ∧ F b = some (.tup (ks.map kV)) ∧ RepTK K F k ks := by
  cases k with
  | tup ds =>
    obtain ⟨b, vs, rfl, g1, g2, g3⟩ := rep_tup r
    obtain ⟨ks, rfl⟩ := reps_keys (show ds.all key0 = true from hk) g2
    exact ⟨b, ks, rfl, g1.bare (tab_key0 hk), by simp only [RepTK]; exact ⟨g2, g3⟩⟩
  | _ => cases hk
/-- x[k] = v -/
theorem ds_put (hu : X.A.units + 1 < cLine) (hN : X.N[i]? = some x) (hv : Vis X.env.scope x) (h1 : (x == ("__debug__" : Str)) = false) (h2 : (x == ("__classdict__" : Str)) = false) (hek : DE X E ek (ev Φ mk)) (hev : DE X E evx (ev Φ mv)) (hc : isComp evx = false) (hi : i ∈ U) (hiw : i ∉ W) (hx : J.ok W U = true)
    (hrk : ∀ j ∈ mk.rd, j ∉ W ++ U) (hrv : ∀ j ∈ mv.rd, j ∉ W ++ U) : DS X E J W U (.Assign [.Subscript (.Name x p) ek spos] evx pos) (putO i (ev Φ mk) (ev Φ mv)) W U :=
  ps_weak (ps_dput hu (pe_var hN hv h1 h2) hek hev (sw_plain hc)) fun De σ H ⟨F0, H0, F, ρ, st, q⟩ => by
    unfold putO at q
    obtain ⟨t, kvs, e1, q⟩ := dic_slot q
    refine sV_tD hrv ⟨F0, H0, F, ρ, st, RW.imp (rO_ok st hx q) (fun dv hdv v F1 H1 st1 r1 => ?_) fun _ z => z⟩
    obtain ⟨a, g1, own1, _, _⟩ := st1.ow i _ (.inr hi) e1
    refine ⟨_, g1, ?_⟩
    refine sV_tD hrk ⟨F1, H0, F1, ρ, st1.down, RW.imp (rO_ok st1.down hx (OutW.down st1.ext hdv)) (fun dk hdk y F2 H2 st2 r2 => ?_) fun _ z => z⟩
    split at hdk
    · rename_i hl
      obtain ⟨a', g1', own, fa, h0⟩ := st2.ow i _ (.inr hi) e1
      rw [g1] at g1'
      have ea : a = a' := by injection g1' with z1; injection z1 with z1; injection z1
      subst ea
      have hlen : (putD kvs dk dv).length ≤ sizeLine := by
        have := putD_length kvs dk dv
        rw [PySem.sizeLine_eq]
        omega
      have hl' : ∀ {n : Nat}, n = kvs.length → n < sizeLine := fun e => by rw [PySem.sizeLine_eq]; omega
      have r1' : Rep X.K F2 dv v := r1.mono st2.ext.grow
      cases t with
      | false =>
        obtain ⟨hk, o1, o2, o3⟩ := own
        obtain ⟨k, rfl⟩ := rep_key0 hl.1 r2
        refine ⟨a, _, rfl, .k o1 (hl' o2.length), hdk σ F2 _ (st2.chg (.inr hi) e1 g1 fa h0 ⟨_, upd_same, o2.put r2 r1', hlen⟩ fun z => absurd z hiw)⟩
      | true =>
        obtain ⟨ht, o1, o2, o3⟩ := own
        obtain ⟨b, ks, rfl, k1, k2⟩ := key_of hl.1 r2
        refine ⟨a, _, rfl, .t o1 (st2.ext.sub _ _ k1) (hl' o2.length), hdk σ F2 _ (st2.chg (.inr hi) e1 g1 fa h0 ⟨_, upd_same, o2.put k2 r1', hlen⟩ fun z => absurd z hiw)⟩
    · exact hdk.elim
/-- x.pop(k) -/
theorem ds_pop (hN : X.N[i]? = some x) (hv : Vis X.env.scope x) (h1 : (x == ("__debug__" : Str)) = false) (h2 : (x == ("__classdict__" : Str)) = false) (hek : DE X E ek (ev Φ mk)) (hn : notStar ek = true) (hl : (apos.endLine == cpos.line) = true) (hi : i ∈ U) (hiw : i ∉ W) (hx : J.ok W U = true)
    (hrk : ∀ j ∈ mk.rd, j ∉ W ++ U) : DS X E J W U (.Expr (.Call (.Attribute (.Name x p) "pop" apos) [ek] [] cpos) pos) (popO i (ev Φ mk)) W U :=
  ps_weak (ps_expr (pe_dpop1 (pe_var hN hv h1 h2) hek ⟨rfl, star_few (by rw [List.all_cons, hn]; rfl) (by simp), hl, by rw [star_cons hn]; rfl⟩) rfl) fun De σ H ⟨F0, H0, F, ρ, st, q⟩ => by
    unfold popO at q
    have q0 : ∃ kvs, ρ[i]? = some (some (.dic false kvs)) ∧ OutW X.K J W U F0 H0 E De (rO ρ (ev Φ mk ρ) fun k => if key0 k = true ∧ (lookD kvs k).isSome = true then .nx (ρ.set i (some (.dic false (dropD kvs k)))) else .bad) := by
      cases e : ρ[i]? with
      | none => rw [e] at q; exact q.elim
      | some o =>
        cases o with
        | none => rw [e] at q; exact q.elim
        | some d =>
          cases d with
          | dic t kvs =>
            cases t with
            | true => rw [e] at q; exact q.elim
            | false => rw [e] at q; exact ⟨kvs, rfl, q⟩
          | _ => rw [e] at q; exact q.elim
    obtain ⟨kvs, e1, q⟩ := q0
    obtain ⟨a, g1, own1, _, _⟩ := st.ow i _ (.inr hi) e1
    obtain ⟨hk, o1, o2, o3⟩ := own1
    refine ⟨_, g1, a, rfl, .inl ⟨hk, .inl o1⟩, ?_⟩
    refine sV_tD hrk ⟨F0, H0, F, ρ, st, RW.imp (rO_ok st hx q) (fun dk hdk y F2 H2 st2 r2 => ?_) fun _ z => z⟩
    split at hdk
    · rename_i hc
      obtain ⟨a', g1', own, fa, h0⟩ := st2.ow i _ (.inr hi) e1
      rw [g1] at g1'
      have ea : a = a' := by injection g1' with z1; injection z1 with z1; injection z1
      subst ea
      obtain ⟨hk2, p1, p2, p3⟩ := own
      obtain ⟨k, rfl⟩ := rep_key0 hc.1 r2
      have hs := p2.look r2
      have : ∃ v, valV hk2 k = some v := by
        have h3 := hc.2
        cases e3 : lookD kvs dk with
        | none => rw [e3] at h3; cases h3
        | some d =>
          rw [e3] at hs
          cases e4 : valV hk2 k with
          | none => rw [e4] at hs; exact hs.elim
          | some v => exact ⟨v, rfl⟩
      obtain ⟨v, ev⟩ := this
      exact ⟨hk2, k, v, p1, rfl, ev, hdk σ F2 _ (st2.chg (.inr hi) e1 g1 fa h0 ⟨_, upd_same, p2.drop r2, Nat.le_trans (dropD_length kvs dk) p3⟩ fun z => absurd z hiw)⟩
    · exact hdk.elim
end
end DL
/-! The data layer, 19c: x[k] = x.get(k, c) + e on an own dict. -/
namespace DL
open PySem PySem.Spec L2

def incO (i : Nat) (c : Int) (fk2 fe fk : Env → Res D) : Env → Out := fun ρ => match ρ[i]? with
  | some (some (.dic t kvs)) => rO ρ (fk2 ρ) fun k2 => if keyOk t k2 = true then rO ρ (fe ρ) fun e => rO ρ (addD ((lookD kvs k2).getD (.int c)) e) fun v => rO ρ (fk ρ) fun k => if keyOk t k = true ∧ kvs.length < 16777216 then .nx (ρ.set i (some (.dic t (putD kvs k v)))) else .bad else .bad
  | _ => .bad
section
variable {X : Cx} {E : EX} {J : Jt} {W U W' U' : List Nat} {Φ : List (List D → Res D)} {mk2 me mk : Ex} {i : Nat} {x : Str} {p p2 spos pos apos cpos bpos kpos : Pos} {ek2 ee ek : Expr} {c : Int} {cj : Nat}
/-- what an own dict holds at a key -/
theorem own_get {K : PySem.W.Frag} {F H : Hp} {a : Addr} {t : Bool} {kvs : List (D × D)} {k : D} {y : V} (s : Same F H) (own : OwnAt K F H a (.dic t kvs)) (hk : keyOk t k = true) (r : Rep K F k y) :
    IsD H a ∧ ∃ o, DGet H a y o ∧ Rep K F ((lookD kvs k).getD (.int c)) (o.getD (.int c)) := by
  have fin : ∀ o : Option V, (match lookD kvs k, o with | some x, some v => Rep K F x v | none, none => True | _, _ => False) → Rep K F ((lookD kvs k).getD (.int c)) (o.getD (.int c)) := fun o h => by
    cases e1 : lookD kvs k with
    | none =>
      rw [e1] at h
      cases o with
      | none => exact mk_int
      | some v => exact h.elim
    | some d =>
      rw [e1] at h
      cases o with
      | none => exact h.elim
      | some v => exact h
  cases t with
  | false =>
    obtain ⟨hk', o1, o2, o3⟩ := own
    obtain ⟨j, rfl⟩ := rep_key0 hk r
    exact ⟨.inl ⟨hk', .inl o1⟩, valV hk' j, .inl ⟨hk', j, .inl o1, rfl, rfl⟩, fin _ (RepK.look o2 r)⟩
  | true =>
    obtain ⟨ht, o1, o2, o3⟩ := own
    obtain ⟨b, ks, rfl, k1, k2⟩ := key_of hk r
    exact ⟨.inr ⟨ht, .inl o1⟩, valV ht ks, .inr ⟨ht, ks, b, .inl o1, rfl, s _ _ k1, rfl⟩, fin _ (RepT.look o2 k2)⟩
theorem ds_inc (hu : X.A.units + 1 < cLine) (hN : X.N[i]? = some x) (hv : Vis X.env.scope x) (h1 : (x == ("__debug__" : Str)) = false) (h2 : (x == ("__classdict__" : Str)) = false) (hek2 : DE X E ek2 (ev Φ mk2)) (hee : DE X E ee (ev Φ me)) (hek : DE X E ek (ev Φ mk)) (hn : notStar ek2 = true) (hl : (apos.endLine == cpos.line) = true)
    (hi : i ∈ U) (hiw : i ∉ W) (hx : J.ok W U = true) (hrk2 : ∀ j ∈ mk2.rd, j ∉ W ++ U) (hre : ∀ j ∈ me.rd, j ∉ W ++ U) (hrk : ∀ j ∈ mk.rd, j ∉ W ++ U) :
    DS X E J W U (.Assign [.Subscript (.Name x p) ek spos] (.BinOp (.Call (.Attribute (.Name x p2) "get" apos) [ek2, .Constant (.int c) cj kpos] [] cpos) .Add ee bpos) pos) (incO i c (ev Φ mk2) (ev Φ me) (ev Φ mk)) W U :=
  ps_weak (ps_dput hu (pe_var hN hv h1 h2) hek (pe_op op_addAll (pe_dget2 hu (pe_var hN hv h1 h2) hek2 pe_int ⟨rfl, star_few (by rw [List.all_cons, hn]; rfl) (by simp), hl, by rw [star_cons hn]; rfl⟩) hee) (sw_plain rfl)) fun De σ H ⟨F0, H0, F, ρ, st, q⟩ => by
    unfold incO at q
    obtain ⟨t, kvs, e1, q⟩ := dic_slot q
    obtain ⟨a, g1, own0, _, _⟩ := st.ow i _ (.inr hi) e1
    -- x, then the key
    refine ⟨_, g1, a, rfl, ?_⟩
    have isd : IsD H a := by
      cases t with
      | false => obtain ⟨z, o1, _⟩ := own0; exact .inl ⟨z, .inl o1⟩
      | true => obtain ⟨z, o1, _⟩ := own0; exact .inr ⟨z, .inl o1⟩
    refine ⟨isd, ?_⟩
    refine sV_tD hrk2 ⟨F0, H0, F, ρ, st, RW.imp (rO_ok st hx q) (fun dk2 hdk2 y F1 H1 st1 r2 => ?_) fun _ z => z⟩
    split at hdk2
    · rename_i hk2
      obtain ⟨a1, g1', own1, _, _⟩ := st1.ow i _ (.inr hi) e1
      rw [g1] at g1'
      have ea : a = a1 := by injection g1' with z1; injection z1 with z1; injection z1
      subst ea
      obtain ⟨_, o, dg, ro⟩ := own_get (c := c) st1.ext.sub own1 hk2 r2
      refine ⟨o, dg, ?_⟩
      have st1' := st1.down
      refine sV_tD hre ⟨F1, H0, F1, ρ, st1', RW.imp (rO_ok st1' hx (OutW.down st1.ext hdk2)) (fun de hde w F2 H2 st2 r3 => ?_) fun _ z => z⟩
      have hv := rO_ok st2 hx hde
      cases eadd : addD ((lookD kvs dk2).getD (.int c)) de with
      | exc c' => exact absurd eadd (nox_add _ _ _)
      | bad => rw [eadd] at hv; exact hv.elim
      | ok dv =>
        rw [eadd] at hv
        have hv' : OutW X.K J W U F1 H0 E De (rO ρ (ev Φ mk ρ) fun k => if keyOk t k = true ∧ kvs.length < 16777216 then .nx (ρ.set i (some (.dic t (putD kvs k dv)))) else .bad) := hv
        refine good_add F2 H2 ((lookD kvs dk2).getD (.int c)) de _ _ _ st2.ext.sub (ro.mono st2.ext.grow) r3 ⟨dv, eadd, fun v F3 H3 ex3 r4 => ?_⟩
        have st3 := st2.step ex3
        have st3' := st3.down
        refine ⟨_, g1, ?_⟩
        refine sV_tD hrk ⟨F3, H0, F3, ρ, st3', RW.imp (rO_ok st3' hx (OutW.down st3.ext hv')) (fun dk hdk y4 F4 H4 st4 r5 => ?_) fun _ z => z⟩
        split at hdk
        · rename_i hl
          obtain ⟨a4, g4, own, fa, h0⟩ := st4.ow i _ (.inr hi) e1
          rw [g1] at g4
          have ea : a = a4 := by injection g4 with z1; injection z1 with z1; injection z1
          subst ea
          have hlen : (putD kvs dk dv).length ≤ sizeLine := by
            have := putD_length kvs dk dv
            rw [PySem.sizeLine_eq]
            omega
          have hl' : ∀ {n : Nat}, n = kvs.length → n < sizeLine := fun e => by rw [PySem.sizeLine_eq]; omega
          have r1' : Rep X.K F4 dv v := r4.mono st4.ext.grow
          cases t with
          | false =>
            obtain ⟨hk, o1, o2, o3⟩ := own
            obtain ⟨k, rfl⟩ := rep_key0 hl.1 r5
            refine ⟨a, _, rfl, .k o1 (hl' o2.length), hdk σ F4 _ (st4.chg (.inr hi) e1 g1 fa h0 ⟨_, upd_same, o2.put r5 r1', hlen⟩ fun z => absurd z hiw)⟩
          | true =>
            obtain ⟨ht, o1, o2, o3⟩ := own
            obtain ⟨b, ks, rfl, k1, k2⟩ := key_of hl.1 r5
            refine ⟨a, _, rfl, .t o1 (st4.ext.sub _ _ k1) (hl' o2.length), hdk σ F4 _ (st4.chg (.inr hi) e1 g1 fa h0 ⟨_, upd_same, o2.put k2 r1', hlen⟩ fun z => absurd z hiw)⟩
        · exact hdk.elim
    · exact hdk2.elim
end
end DL
/-! The data layer, 19d: two stores at once, the second one a new own list. -/
namespace DL
open PySem PySem.Spec L2
section
variable {X : Cx} {E : EX} {J : Jt} {W U W' U' : List Nat} {Φ : List (List D → Res D)} {m1 : Ex} {a b : Expr}
theorem ev_lst0 {ρ : Env} : ev Φ (.lst .nil) ρ = .ok (.lst []) := by simp only [ev, lstV, evs, argsN]; rfl
/-- x, y = a, [] -/
theorem ds_parF {x y : Str} {px py pt pt2 pos : Pos} {kt k2 : Nat} {i j : Nat} (hc : X.calm = true) (hN : X.N.Nodup) (hi : X.N[i]? = some x) (hj : X.N[j]? = some y) (hij : i ≠ j) (hx : X.env.scope.names.lookup x = some .local) (hy : X.env.scope.names.lookup y = some .local)
    (ha : DE X E a (ev Φ m1)) (hb : DF X E b (ev Φ (.lst .nil))) (s1 : starEach [a, b] X.env = (false, eval a X.env) :: starEach [b] X.env) (s2 : starEach [b] X.env = (false, eval b X.env) :: starEach [] X.env)
    (hw : swappedStores [.Tuple [.Name x px, .Name y py] kt pt] (.Tuple [a, b] k2 pt2) X.env = pure (some [x, y])) (hr1 : ∀ k ∈ m1.rd, k ∉ W ++ U) (h1 : i ∉ W ++ U) (h2 : j ∉ W ++ U) (hx1 : J.ok W U = true) :
    DS X E J W U (.Assign [.Tuple [.Name x px, .Name y py] kt pt] (.Tuple [a, b] k2 pt2) pos) (fun ρ => rO ρ (ev Φ (.tup (.cons m1 (.cons (.lst .nil) .nil))) ρ) fun d => stO (bT (.tup (.cons (.name i) (.cons (.name j) .nil))) d ρ)) (j :: W) U :=
  ps_weak (ps_par hc hN hi hj hij hx hy (pa_cons ha (pa_cons hb pa_nil s2) s1) hw (sw_tuple (es := [.Name x px, .Name y py]) (k := kt) (p := pt) (e := .Tuple [a, b] k2 pt2) (l := pos.line) (env := X.env))) fun De σ H ⟨F0, H0, F, ρ, st, q⟩ => by
    have q' := rO_ok st hx1 q
    have et : ev Φ (.tup (.cons m1 (.cons (.lst .nil) .nil))) ρ = (ev Φ m1 ρ).bind fun d => .ok (.tup [d, .lst []]) := by
      simp only [ev, tupV, evs, argsC, argsN, lstV]
      cases ev Φ m1 ρ with
      | exc c => rfl
      | bad => rfl
      | ok d =>
        have tb : tabB [d, .lst []] = false := by simp [tabB, txtPair]
        simp only [Res.bind_ok, tb, Bool.false_eq_true, if_false]
    rw [et] at q'
    refine sV_tD hr1 ⟨F0, H0, F, ρ, st, ?_⟩
    cases e1 : ev Φ m1 ρ with
    | exc c => rw [e1] at q'; exact q'
    | bad => rw [e1] at q'; exact q'
    | ok d1 =>
      intro v F1 H1 st1 r1
      rw [e1] at q'
      have q2 : OutW X.K J (j :: W) U F0 H0 E De (.nx ((ρ.set i (some d1)).set j (some (.lst [])))) := q'
      refine ⟨F1, wipeD ρ (W ++ U), st1.ext.sub, st1.env, ?_⟩
      rw [ev_lst0]
      intro p F2 H2 e g1 g2 own
      refine ⟨v, .ref p, rfl, ?_⟩
      have t1 : ∀ {F H}, StR X.K W U F0 H0 F H ρ σ → Rep X.K F d1 v → StR X.K W U F0 H0 F H (ρ.set i (some d1)) (σ.set i (some v)) := fun s r =>
        s.tgt (t := .name i) (ρ2 := (wipeD ρ (W ++ U)).set i (some d1)) (fun k hk => by rw [show k = i from by simpa [Tg.slots] using hk]; exact h1) rfl rfl (s.env.set r) (Agree.set σ i (some v))
      have := StR.own (b := false) (t1 st1 r1) (t1 (st1.step e) (r1.mono e.grow)) g1 g2 own h2 fun _ => ⟨[], rfl⟩
      exact q2 _ F2 H2 this
/-- x, y = a, [] by way of a tuple -/
theorem ds_tupF {tx ty : Expr} {pt pt2 pos : Pos} {kt k2 : Nat} {i j : Nat} (hc : X.calm = true) (hij : i ≠ j) (gx : PG X tx (gName i)) (gy : PG X ty (gName j)) (sx : assignEach [tx, ty] X.env = (false, assign tx X.env) :: assignEach [ty] X.env) (sy : assignEach [ty] X.env = [(false, assign ty X.env)])
    (ha : DE X E a (ev Φ m1)) (hb : DF X E b (ev Φ (.lst .nil))) (s1 : starEach [a, b] X.env = (false, eval a X.env) :: starEach [b] X.env) (s2 : starEach [b] X.env = (false, eval b X.env) :: starEach [] X.env)
    (hw : swappedStores [.Tuple [tx, ty] kt pt] (.Tuple [a, b] k2 pt2) X.env = pure none) (hr1 : ∀ k ∈ m1.rd, k ∉ W ++ U) (h1 : i ∉ W ++ U) (h2 : j ∉ W ++ U) (hx1 : J.ok W U = true) :
    DS X E J W U (.Assign [.Tuple [tx, ty] kt pt] (.Tuple [a, b] k2 pt2) pos) (fun ρ => rO ρ (ev Φ (.tup (.cons m1 (.cons (.lst .nil) .nil))) ρ) fun d => stO (bT (.tup (.cons (.name i) (.cons (.name j) .nil))) d ρ)) (j :: W) U :=
  ps_weak (ps_asg (pe_tup (pa_cons ha (pa_cons hb pa_nil s2) s1)) (pg_tup (n := 2) hc (pgs_cons gx (pgs_cons gy pgs_nil (by rw [sy]; rfl)) (by rw [sx]; rfl)) (by rw [sx, sy]; rfl) (by rw [sx, sy]; rfl)) (sw_tuple (es := [tx, ty]) (k := kt) (p := pt) (e := .Tuple [a, b] k2 pt2) (l := pos.line) (env := X.env)) hw rfl) fun De σ H ⟨F0, H0, F, ρ, st, q⟩ => by
    have q' := rO_ok st hx1 q
    have et : ev Φ (.tup (.cons m1 (.cons (.lst .nil) .nil))) ρ = (ev Φ m1 ρ).bind fun d => .ok (.tup [d, .lst []]) := by
      simp only [ev, tupV, evs, argsC, argsN, lstV]
      cases ev Φ m1 ρ with
      | exc c => rfl
      | bad => rfl
      | ok d =>
        have tb : tabB [d, .lst []] = false := by simp [tabB, txtPair]
        simp only [Res.bind_ok, tb, Bool.false_eq_true, if_false]
    rw [et] at q'
    refine sV_tD hr1 ⟨F0, H0, F, ρ, st, ?_⟩
    cases e1 : ev Φ m1 ρ with
    | exc c => rw [e1] at q'; exact q'
    | bad => rw [e1] at q'; exact q'
    | ok d1 =>
      intro v F1 H1 st1 r1
      rw [e1] at q'
      have q2 : OutW X.K J (j :: W) U F0 H0 E De (.nx ((ρ.set i (some d1)).set j (some (.lst [])))) := q'
      refine ⟨F1, wipeD ρ (W ++ U), st1.ext.sub, st1.env, ?_⟩
      rw [ev_lst0]
      intro p F2 H2 e g1 g2 own
      refine ⟨by rw [PySem.sizeLine_eq]; show 2 ≤ 16777216; decide, fun t ht => ⟨t, [v, .ref p], rfl, .inl (.inl upd_same), rfl, v, _, rfl, .ref p, _, rfl, rfl, ?_⟩⟩
      have t1 : ∀ {F H}, StR X.K W U F0 H0 F H ρ σ → Rep X.K F d1 v → StR X.K W U F0 H0 F H (ρ.set i (some d1)) (σ.set i (some v)) := fun s r =>
        s.tgt (t := .name i) (ρ2 := (wipeD ρ (W ++ U)).set i (some d1)) (fun k hk => by rw [show k = i from by simpa [Tg.slots] using hk]; exact h1) rfl rfl (s.env.set r) (Agree.set σ i (some v))
      have := StR.own (b := false) (t1 st1 r1) (t1 (st1.step e) (r1.mono e.grow)) g1 g2 own h2 fun _ => ⟨[], rfl⟩
      exact q2 _ F2 _ (this.loose (same_upd ht))
end
end DL
/-! The data layer, 19e: for t in e: x.setdefault(k, []).append(v), x an own dict that is empty ahead. -/
namespace DL
open PySem PySem.Spec L2

/-- the key is there from now on -/
def famD : List (D × D) → D → List (D × D)
  | [], k => [(k, .lst [])]
  | (k', d) :: r, k => if eqD k' k = true then (k', d) :: r else (k', d) :: famD r k
/-- one more in the list at a key -/
def famA : List (D × D) → D → D → Option (List (D × D))
  | [], _, _ => none
  | (k', d) :: r, k, e => if eqD k' k = true then (match d with
      | .lst ds => if ds.length < 16777216 then some ((k', .lst (ds ++ [e])) :: r) else none
      | _ => none) else (famA r k e).map ((k', d) :: ·)
theorem famA_length : ∀ {l l' : List (D × D)} {k e : D}, famA l k e = some l' → l'.length = l.length
  | [], l', k, e, h => by cases h
  | (k', d) :: r, l', k, e, h => by
    unfold famA at h
    split at h
    · cases d with
      | lst ds =>
        dsimp only at h
        split at h
        · cases h; rfl
        · cases h
      | _ => cases h
    · obtain ⟨l2, g, rfl⟩ := Option.map_eq_some_iff.mp h
      simp [famA_length g]
theorem famD_length : ∀ (l : List (D × D)) (k : D), (famD l k).length ≤ l.length + 1
  | [], k => by simp [famD]
  | (k', d) :: r, k => by
    unfold famD
    split
    · simp
    · have := famD_length r k
      simp only [List.length_cons]; omega
section
variable {K : PySem.W.Frag} {F F' H H' : Hp}
/-- the pairs of a dict of own lists, which stand at bs -/
def FamL (K : PySem.W.Frag) (F H : Hp) : List (D × D) → List (Key × V) → List Addr → Prop
  | [], hk, bs => hk = [] ∧ bs = []
  | (k, d) :: r, hk, bs => ∃ y b hk' bs' ds vs, hk = (y, .ref b) :: hk' ∧ bs = b :: bs' ∧ d = .lst ds ∧ Rep K F k (kV y) ∧ H b = some (.lst vs) ∧ Reps K F ds vs ∧ ds.length ≤ sizeLine ∧ FamL K F H r hk' bs'
theorem FamL.mono (s : Same F F') : ∀ {kvs : List (D × D)} {hk : List (Key × V)} {bs : List Addr}, FamL K F H kvs hk bs → (∀ b ∈ bs, H' b = H b) → FamL K F' H' kvs hk bs
  | [], hk, bs, h, e => h
  | (k, d) :: r, hk, bs, h, e => by
    obtain ⟨y, b, hk', bs', ds, vs, rfl, rfl, rfl, h4, h5, h6, h7, h8⟩ := h
    exact ⟨y, b, hk', bs', ds, vs, rfl, rfl, rfl, h4.mono s, by rw [e b (by simp)]; exact h5, h6.mono s, h7, FamL.mono s h8 fun c hc => e c (by simp [hc])⟩
theorem FamL.here : ∀ {kvs : List (D × D)} {hk : List (Key × V)} {bs : List Addr}, FamL K F H kvs hk bs → ∀ b ∈ bs, ∃ vs, H b = some (.lst vs)
  | [], hk, bs, h, b, hb => by rw [h.2] at hb; cases hb
  | (k, d) :: r, hk, bs, h, b, hb => by
    obtain ⟨y, b', hk', bs', ds, vs, rfl, rfl, rfl, h4, h5, h6, h7, h8⟩ := h
    rcases List.mem_cons.mp hb with rfl | hb
    · exact ⟨vs, h5⟩
    · exact FamL.here h8 b hb
theorem FamL.length : ∀ {kvs : List (D × D)} {hk : List (Key × V)} {bs : List Addr}, FamL K F H kvs hk bs → hk.length = kvs.length
  | [], hk, bs, h => by rw [h.1]; rfl
  | (k, d) :: r, hk, bs, h => by
    obtain ⟨y, b', hk', bs', ds, vs, rfl, rfl, rfl, h4, h5, h6, h7, h8⟩ := h
    simp [FamL.length h8]
/-- the key is looked up -/
theorem FamL.setd : ∀ {kvs : List (D × D)} {hk : List (Key × V)} {bs : List Addr} {k : D} {y : Key}, FamL K F H kvs hk bs → Rep K F k (kV y) →
    (∀ v, valV hk y = some v → ∃ b, v = .ref b ∧ b ∈ bs ∧ FamL K F H (famD kvs k) hk bs) ∧
    (valV hk y = none → ∀ b, b ∉ bs → H b = none → ∀ z, (z = V.ref b → FamL K F (upd H b (.lst [])) (famD kvs k) (putK hk y z) (bs ++ [b])) ∧ valV (putK hk y z) y = some z)
  | [], hk, bs, k, y, h, hk0 => by
    obtain ⟨rfl, rfl⟩ := h
    refine ⟨fun v e => by simp [valV] at e, fun _ b _ hb z => ⟨fun e => ?_, by simp [putK, valV]⟩⟩
    subst e
    simp only [putK, List.any_nil, Bool.false_eq_true, if_false, List.nil_append, famD]
    exact ⟨y, b, [], [], [], [], rfl, rfl, rfl, hk0, upd_same, Reps.nil, Nat.zero_le _, rfl, rfl⟩
  | (kd, d) :: r, hk, bs, k, y, h, hk0 => by
    obtain ⟨y', b', hk', bs', ds, vs, rfl, rfl, rfl, h4, h5, h6, h7, h8⟩ := h
    have e : eqD kd k = decide (y' = y) := key_eq h4 hk0
    obtain ⟨i1, i2⟩ := FamL.setd h8 hk0
    by_cases hy : y' = y
    · have e' : eqD kd k = true := by rw [e]; exact decide_eq_true hy
      refine ⟨fun v ev => ?_, fun ev => ?_⟩
      · rw [valV_pos hy] at ev
        cases ev
        refine ⟨b', rfl, by simp, ?_⟩
        simp only [famD, e', if_true]
        exact ⟨y', b', hk', bs', ds, vs, rfl, rfl, rfl, h4, h5, h6, h7, h8⟩
      · rw [valV_pos hy] at ev; cases ev
    · have e' : ¬ eqD kd k = true := by rw [e]; simp [hy]
      refine ⟨fun v ev => ?_, fun ev b hb hH z => ?_⟩
      · rw [valV_neg hy] at ev
        obtain ⟨b, rfl, hb, hf⟩ := i1 v ev
        refine ⟨b, rfl, by simp [hb], ?_⟩
        simp only [famD, if_neg e']
        exact ⟨y', b', hk', bs', ds, vs, rfl, rfl, rfl, h4, h5, h6, h7, hf⟩
      · rw [valV_neg hy] at ev
        obtain ⟨j1, j2⟩ := i2 ev b (fun q => hb (by simp [q])) hH z
        have hp : putK ((y', V.ref b') :: hk') y z = (y', V.ref b') :: putK hk' y z := by
          unfold putK
          simp only [List.any_cons, decide_eq_false hy, Bool.false_or, List.map_cons, if_neg hy]
          split <;> rfl
        rw [hp]
        refine ⟨fun ez => ?_, by rw [valV_neg hy]; exact j2⟩
        simp only [famD, if_neg e']
        exact ⟨y', b', _, bs' ++ [b], ds, vs, rfl, rfl, rfl, h4, by rw [upd_ne (fun q => hb (by simp [q]))]; exact h5, h6, h7, j1 ez⟩
/-- one more -/
theorem FamL.app : ∀ {kvs kvs' : List (D × D)} {hk : List (Key × V)} {bs : List Addr} {k e : D} {y : Key} {b : Addr}, FamL K F H kvs hk bs → bs.Nodup → Rep K F k (kV y) → valV hk y = some (.ref b) → famA kvs k e = some kvs' →
    ∃ vs, H b = some (.lst vs) ∧ vs.length < 16777216 ∧ b ∈ bs ∧ ∀ v, Rep K F e v → FamL K F (upd H b (.lst (vs ++ [v]))) kvs' hk bs
  | [], kvs', hk, bs, k, e, y, b, h, nd, hk0, hv, ha => by cases ha
  | (kd, d) :: r, kvs', hk, bs, k, e, y, b, h, nd, hk0, hv, ha => by
    obtain ⟨y', b', hk', bs', ds, vs, rfl, rfl, rfl, h4, h5, h6, h7, h8⟩ := h
    have ee : eqD kd k = decide (y' = y) := key_eq h4 hk0
    unfold famA at ha
    by_cases hy : y' = y
    · have e' : eqD kd k = true := by rw [ee]; exact decide_eq_true hy
      rw [if_pos e'] at ha
      dsimp only at ha
      split at ha
      · rename_i hl
        cases ha
        rw [valV_pos hy] at hv
        have eb : b' = b := by injection hv with hv; injection hv
        subst eb
        refine ⟨vs, h5, by rw [h6.length]; exact hl, by simp, fun v rv => ?_⟩
        refine ⟨y', b', hk', bs', ds ++ [e], vs ++ [v], rfl, rfl, rfl, h4, upd_same, h6.append (Reps.nil.cons rv), by rw [List.length_append, PySem.sizeLine_eq]; simp; omega, FamL.mono (Same.refl _) h8 fun c hc => upd_ne fun q => ?_⟩
        subst q
        exact (List.nodup_cons.mp nd).1 hc
      · cases ha
    · have e' : ¬ eqD kd k = true := by rw [ee]; simp [hy]
      rw [if_neg e'] at ha
      obtain ⟨kvs2, h2, rfl⟩ := Option.map_eq_some_iff.mp ha
      rw [valV_neg hy] at hv
      obtain ⟨ws, w1, w2, w3, w4⟩ := FamL.app h8 (List.nodup_cons.mp nd).2 hk0 hv h2
      refine ⟨ws, w1, w2, by simp [w3], fun v rv => ?_⟩
      have nb : b' ≠ b := fun q => (List.nodup_cons.mp nd).1 (by rw [q]; exact w3)
      exact ⟨y', b', hk', bs', ds, vs, rfl, rfl, rfl, h4, by rw [upd_ne nb]; exact h5, h6, h7, w4 v rv⟩
/-- the lists are told of from now on -/
def over (F H : Hp) (bs : List Addr) : Hp := fun b => if b ∈ bs then H b else F b
theorem over_in {bs : List Addr} {b : Addr} (h : b ∈ bs) : over F H bs b = H b := if_pos h
theorem over_out {bs : List Addr} {b : Addr} (h : b ∉ bs) : over F H bs b = F b := if_neg h
theorem over_same {bs : List Addr} (h : ∀ b ∈ bs, F b = none) : Same F (over F H bs) := fun b o e => by
  have : b ∉ bs := fun z => by rw [h b z] at e; cases e
  rw [over_out this]
  exact e
theorem FamL.rep {bs0 : List Addr} (s : Same F (over F H bs0)) : ∀ {kvs : List (D × D)} {hk : List (Key × V)} {bs : List Addr}, FamL K F H kvs hk bs → (∀ b ∈ bs, b ∈ bs0) → RepK K (over F H bs0) kvs hk
  | [], hk, bs, h, _ => by simp only [RepK]; exact h.1
  | (k, d) :: r, hk, bs, h, hs => by
    obtain ⟨y, b, hk', bs', ds, vs, rfl, rfl, rfl, h4, h5, h6, h7, h8⟩ := h
    simp only [RepK]
    refine ⟨y, .ref b, hk', rfl, ?_, FamL.rep s h8 fun c hc => hs c (by simp [hc])⟩
    simp only [RepKV]
    exact ⟨h4.mono s, mk_lst (by rw [over_in (hs b (by simp))]; exact h5) (h6.mono s) h7⟩
end
/-! ### the loop's semantics -/
def famS (fk fe : Env → Res D) (kvs : List (D × D)) (ρ : Env) (c : List (D × D) → Out) : Out := rO ρ (fk ρ) fun k => if key0 k = true ∧ kvs.length < 16777216 then rO ρ (fe ρ) fun e => (match famA (famD kvs k) k e with
  | some kvs' => c kvs'
  | none => .bad) else .bad
def famF (i : Nat) (g : D → Env → Res Env) (fk fe : Env → Res D) : List D → List (D × D) → Env → Out
  | [], kvs, ρ => .nx (ρ.set i (some (.dic false kvs)))
  | d :: ds, kvs, ρ => match g d ρ with
    | .ok ρ' => famS fk fe kvs ρ' fun kvs' => famF i g fk fe ds kvs' ρ'
    | _ => .bad
def famO (i : Nat) (fi : Env → Res (List D)) (g : D → Env → Res Env) (fk fe : Env → Res D) : Env → Out := fun ρ => match ρ[i]? with
  | some (some (.dic false [])) => rO ρ (fi ρ) fun items => famF i g fk fe items [] (ρ.set i none)
  | _ => .bad
/-! ### a dict of own lists beside the state -/
structure FamR (K : PySem.W.Frag) (W U : List Nat) (i : Nat) (F0 H0 F H : Hp) (ρ : Env) (kvs : List (D × D)) (σ : L2.St) : Prop where
  st : StR K W U F0 H0 F H ρ σ
  no : ∀ d, ρ[i]? ≠ some (some d)
  il : i < ρ.length
  at_ : ∃ a hk bs, σ[i]? = some (some (.ref a)) ∧ H a = some (.dK hk) ∧ F a = none ∧ H0 a = none ∧ FamL K F H kvs hk bs ∧ bs.Nodup ∧ (∀ b ∈ bs, F b = none ∧ H0 b = none) ∧
    ∀ j d c, j ∈ W ∨ j ∈ U → ρ[j]? = some (some d) → σ[j]? = some (some (.ref c)) → c ∉ a :: bs
section
variable {K : PySem.W.Frag} {W U : List Nat} {i : Nat} {F0 H0 F H F' H' : Hp} {ρ : Env} {kvs : List (D × D)} {σ : L2.St}
/-- what is not told of is changed -/
theorem StR.off {a : Addr} {o : HO} (st : StR K W U F0 H0 F H ρ σ) (fa : F a = none) (h0 : H0 a = none) (ap : ∀ j d c, j ∈ W ∨ j ∈ U → ρ[j]? = some (some d) → σ[j]? = some (some (.ref c)) → c ≠ a) : StR K W U F0 H0 F (upd H a o) ρ σ :=
  ⟨st.ext.mut h0 fa, st.len, st.fz, fun j d h1 q => by
    obtain ⟨b, e1, e2, e3, e4⟩ := st.ow j d h1 q
    exact ⟨b, e1, e2.mono (Same.refl _) (upd_ne (ap j d b h1 q e1)), e3, e4⟩, st.kind, st.ne⟩
theorem FamR.step (h : FamR K W U i F0 H0 F H ρ kvs σ) (e : Ext F H F' H') : FamR K W U i F0 H0 F' H' ρ kvs σ := by
  obtain ⟨st, no, il, a, hk, bs, h1, h2, h3, h4, h5, h6, h7, h8⟩ := h
  refine ⟨st.step e, no, il, a, hk, bs, h1, e.same _ _ h2, e.hid h2 (fun _ z => nomatch z) h3, h4, h5.mono e.grow fun b hb => ?_, h6, fun b hb => ?_, h8⟩
  · obtain ⟨vs, q⟩ := h5.here b hb
    rw [q, e.same _ _ q]
  · obtain ⟨vs, q⟩ := h5.here b hb
    exact ⟨e.hid q (fun _ z => nomatch z) (h7 b hb).1, (h7 b hb).2⟩
theorem FamR.up {F1 H1 : Hp} (g : Ext F0 H0 F1 H1) (h : FamR K W U i F1 H0 F H ρ kvs σ) : FamR K W U i F0 H0 F H ρ kvs σ := ⟨h.st.up g, h.no, h.il, h.at_⟩
theorem FamR.down (h : FamR K W U i F0 H0 F H ρ kvs σ) : FamR K W U i F H0 F H ρ kvs σ := ⟨h.st.down, h.no, h.il, h.at_⟩
/-- the end: an own dict of lists that are told of -/
theorem FamR.fin (h : FamR K W U i F0 H0 F H ρ kvs σ) (hw : i ∉ W) (hu : i ∉ U) (hl : kvs.length ≤ sizeLine) : ∃ F', StR K W (i :: U) F0 H0 F' H (ρ.set i (some (.dic false kvs))) σ := by
  obtain ⟨st, no, il, a, hk, bs, h1, h2, h3, h4, h5, h6, h7, h8⟩ := h
  have sm : Same F (over F H bs) := over_same fun b hb => (h7 b hb).1
  have na : a ∉ bs := fun z => by
    obtain ⟨vs, q⟩ := h5.here a z
    rw [h2] at q; cases q
  have fa : over F H bs a = none := by rw [over_out na]; exact h3
  have at_ : (ρ.set i (some (D.dic false kvs)))[i]? = some (some (.dic false kvs)) := List.getElem?_set_self il
  have old : ∀ j, j ≠ i → (ρ.set i (some (D.dic false kvs)))[j]? = ρ[j]? := fun j hj => List.getElem?_set_ne (Ne.symm hj)
  refine ⟨over F H bs, ⟨⟨st.ext.same, st.ext.grow.trans sm, fun b o e => ?_, fun b n1 n2 => ?_⟩, by rw [List.length_set]; exact st.len, fun j d n1 n2 q => ?_, fun j d n1 q => ?_, fun j d n1 q => ?_, fun j k d e c n1 n2 hne q1 q2 q3 => ?_⟩⟩
  · by_cases hb : b ∈ bs
    · rw [over_in hb] at e; exact e
    · rw [over_out hb] at e; exact st.ext.sub _ _ e
  · by_cases hb : b ∈ bs
    · exact absurd (h7 b hb).2 n1
    · rw [over_out hb] at n2; exact st.ext.new b n1 n2
  · have hj : j ≠ i := fun z => n2 (by simp [z])
    rw [old j hj] at q
    obtain ⟨v, e1, e2⟩ := st.fz j d n1 (fun z => n2 (List.mem_cons_of_mem _ z)) q
    exact ⟨v, e1, e2.mono sm⟩
  · by_cases hj : j = i
    · subst hj
      rw [at_] at q; cases q
      exact ⟨a, h1, ⟨hk, h2, h5.rep sm fun _ z => z, hl⟩, fa, h4⟩
    · rw [old j hj] at q
      have n1' : j ∈ W ∨ j ∈ U := n1.imp id fun z => (List.mem_cons.mp z).resolve_left hj
      obtain ⟨b, e1, e2, e3, e4⟩ := st.ow j d n1' q
      have hb : b ∉ bs := fun z => h8 j d b n1' q e1 (List.mem_cons_of_mem _ z)
      exact ⟨b, e1, e2.mono sm rfl, by rw [over_out hb]; exact e3, e4⟩
  · have hj : j ≠ i := fun z => hw (by rw [← z]; exact n1)
    rw [old j hj] at q
    exact st.kind j d n1 q
  · by_cases hj : j = i
    · subst hj
      have hk' : k ≠ j := Ne.symm hne
      rw [h1] at q3; cases q3
      rw [old k hk'] at q2
      have n2' : k ∈ W ∨ k ∈ U := n2.imp id fun z => (List.mem_cons.mp z).resolve_left hk'
      exact fun z => h8 k e a n2' q2 z (by simp)
    · rw [old j hj] at q1
      have n1' : j ∈ W ∨ j ∈ U := n1.imp id fun z => (List.mem_cons.mp z).resolve_left hj
      by_cases hk' : k = i
      · subst hk'
        rw [h1]
        intro z
        cases z
        exact h8 j d _ n1' q1 q3 (by simp)
      · rw [old k hk'] at q2
        exact st.ne j k d e c n1' (n2.imp id fun z => (List.mem_cons.mp z).resolve_left hk') hne q1 q2 q3
/-- the start: an empty own dict -/
theorem FamR.start (st : StR K W U F0 H0 F H ρ σ) (hi : i ∈ U) (hw : i ∉ W) (hd : ρ[i]? = some (some (.dic false []))) : FamR K W (less U i) i F0 H0 F H (ρ.set i none) [] σ := by
  have hl : i < ρ.length := (List.getElem?_eq_some_iff.mp hd).1
  have at_ : (ρ.set i none)[i]? = some none := List.getElem?_set_self hl
  have old : ∀ j, j ≠ i → (ρ.set i none)[j]? = ρ[j]? := fun j hj => List.getElem?_set_ne (Ne.symm hj)
  have ne' : ∀ j d, (ρ.set i none)[j]? = some (some d) → j ≠ i := fun j d q z => by rw [z, at_] at q; cases q
  obtain ⟨a, e1, ⟨hk, g1, g2, g3⟩, e3, e4⟩ := st.ow i _ (.inr hi) hd
  simp only [RepK] at g2
  subst g2
  have up : ∀ j, j ∈ W ∨ j ∈ less U i → j ∈ W ∨ j ∈ U := fun j h => h.imp id fun z => (mem_less.mp z).1
  refine ⟨⟨st.ext, by rw [List.length_set]; exact st.len, fun j d n1 n2 q => ?_, fun j d n1 q => ?_, fun j d n1 q => ?_, fun j k d e c n1 n2 hne q1 q2 q3 => ?_⟩, fun d q => (by rw [at_] at q; cases q), by rw [List.length_set]; exact hl, a, [], [], e1, g1, e3, e4, ⟨rfl, rfl⟩, List.nodup_nil, fun b hb => (by cases hb), fun j d c n1 q1 q2 z => ?_⟩
  · have hj := ne' j d q
    rw [old j hj] at q
    exact st.fz j d n1 (fun z => n2 (mem_less.mpr ⟨z, hj⟩)) q
  · have hj := ne' j d q
    rw [old j hj] at q
    exact st.ow j d (up j n1) q
  · have hj := ne' j d q
    rw [old j hj] at q
    exact st.kind j d n1 q
  · have hj := ne' j d q1
    have hk' := ne' k e q2
    rw [old j hj] at q1
    rw [old k hk'] at q2
    exact st.ne j k d e c (up j n1) (up k n2) hne q1 q2 q3
  · have hj := ne' j d q1
    rw [old j hj] at q1
    rw [List.mem_singleton.mp z] at q2
    exact st.ne i j _ d a (.inr hi) (up j n1) (Ne.symm hj) hd q1 e1 q2
theorem FamR.setd {a p : Addr} {k : D} {y : Key} (h : FamR K W U i F0 H0 F H ρ kvs σ) (ha : σ[i]? = some (some (.ref a))) (rk : Rep K F k (kV y)) (hl : kvs.length < 16777216) (hp : H p = none) :
    ∃ hk, upd H p (.lst []) a = some (.dK hk) ∧ hk.length < sizeLine ∧
      (∀ v, valV hk y = some v → ∃ b, v = .ref b ∧ FamR K W U i F0 H0 F (upd H p (.lst [])) ρ (famD kvs k) σ) ∧
      (valV hk y = none → FamR K W U i F0 H0 F (upd (upd H p (.lst [])) a (.dK (putK hk y (.ref p)))) ρ (famD kvs k) σ ∧ valV (putK hk y (.ref p)) y = some (.ref p)) := by
  have h' := h.step (Ext.loose (.lst []) h.st.ext.sub hp)
  obtain ⟨st, no, il, a', hk, bs, h1, h2, h3, h4, h5, h6, h7, h8⟩ := h
  rw [ha] at h1
  have ea : a = a' := by injection h1 with z1; injection z1 with z1; injection z1
  subst ea
  have pa : a ≠ p := ne_of_none h2 hp
  have pb : p ∉ bs := fun z => by
    obtain ⟨vs, q⟩ := h5.here p z
    rw [hp] at q; cases q
  have ab : a ∉ bs := fun z => by
    obtain ⟨vs, q⟩ := h5.here a z
    rw [h2] at q; cases q
  obtain ⟨i1, i2⟩ := h5.setd rk
  refine ⟨hk, by rw [upd_ne pa]; exact h2, by rw [h5.length, PySem.sizeLine_eq]; exact hl, fun v ev => ?_, fun ev => ?_⟩
  · obtain ⟨b, rfl, hb, hf⟩ := i1 v ev
    obtain ⟨st', no', il', a2, hk2, bs2, g1, g2, g3, g4, g5, g6, g7, g8⟩ := h'
    exact ⟨b, rfl, st', no, il, a, hk, bs, ha, by rw [upd_ne pa]; exact h2, h3, h4, hf.mono (Same.refl _) fun c hc => upd_ne fun z => pb (z ▸ hc), h6, h7, h8⟩
  · obtain ⟨j1, j2⟩ := i2 ev p pb hp (.ref p)
    have fp : F p = none := Same.free st.ext.sub hp
    have hp0 : H0 p = none := Same.free st.ext.same hp
    refine ⟨⟨StR.off h'.st h3 h4 fun j d c n1 q1 q2 => fun z => h8 j d c n1 q1 q2 (by simp [z]), no, il, a, _, bs ++ [p], ha, upd_same, h3, h4, (j1 rfl).mono (Same.refl _) fun c hc => upd_ne fun z => ?_, ?_, fun b hb => ?_, fun j d c n1 q1 q2 z => ?_⟩, j2⟩
    · rw [z] at hc
      rcases List.mem_append.mp hc with w | w
      · exact ab w
      · exact pa (List.mem_singleton.mp w)
    · rw [List.nodup_append]
      exact ⟨h6, by simp, fun x hx z hz e => pb (by rw [← List.mem_singleton.mp hz, ← e]; exact hx)⟩
    · rcases List.mem_append.mp hb with w | w
      · exact h7 b w
      · rw [List.mem_singleton.mp w]; exact ⟨fp, hp0⟩
    · rcases List.mem_cons.mp z with w | w
      · exact h8 j d c n1 q1 q2 (by simp [w])
      · rcases List.mem_append.mp w with w | w
        · exact h8 j d c n1 q1 q2 (by simp [w])
        · obtain ⟨c', e1, e2, _, _⟩ := st.ow j d n1 q1
          rw [q2] at e1; cases e1
          obtain ⟨o, o1, _, _⟩ := e2.here
          rw [List.mem_singleton.mp w, hp] at o1; cases o1
theorem FamR.app {a b : Addr} {k e : D} {y : Key} {v : V} {hk : List (Key × V)} {kvs' : List (D × D)} (h : FamR K W U i F0 H0 F H ρ kvs σ) (ha : σ[i]? = some (some (.ref a))) (hH : H a = some (.dK hk)) (hv : valV hk y = some (.ref b)) (rk : Rep K F k (kV y)) (hf : famA kvs k e = some kvs') (re : Rep K F e v) :
    ∃ vs, H b = some (.lst vs) ∧ vs.length < 16777216 ∧ FamR K W U i F0 H0 F (upd H b (.lst (vs ++ [v]))) ρ kvs' σ := by
  obtain ⟨st, no, il, a', hk', bs, h1, h2, h3, h4, h5, h6, h7, h8⟩ := h
  rw [ha] at h1
  have ea : a = a' := by injection h1 with z1; injection z1 with z1; injection z1
  subst ea
  rw [hH] at h2
  have ek : hk = hk' := by injection h2 with z; injection z
  subst ek
  obtain ⟨vs, w1, w2, w3, w4⟩ := h5.app h6 rk hv hf
  have ab : a ≠ b := fun z => by rw [z, w1] at hH; cases hH
  refine ⟨vs, w1, w2, StR.off st (h7 b w3).1 (h7 b w3).2 (fun j d c n1 q1 q2 z => h8 j d c n1 q1 q2 (by rw [z]; exact List.mem_cons_of_mem _ w3)), no, il, a, hk, bs, ha, by rw [upd_ne ab]; exact hH, h3, h4, w4 v re, h6, h7, h8⟩
end
section
variable {X : Cx} {E : EX} {J : Jt} {W U W' U' : List Nat} {Φ : List (List D → Res D)} {m mk me : Ex} {t : Tg} {tg iter ek ee : Expr} {pos : Pos} {i : Nat}
/-- of a value, beside a dict of own lists -/
theorem FamR.tD {K : PySem.W.Frag} {F0 H0 F H : Hp} {ρ : Env} {kvs : List (D × D)} {σ : L2.St} {Q : VK} (h : FamR K W U i F0 H0 F H ρ kvs σ) (hr : ∀ j ∈ m.rd, j ∉ W ++ U)
    (q : RW (ev Φ m ρ) (fun d => ∀ v F' H', FamR K W U i F0 H0 F' H' ρ kvs σ → Ext F H F' H' → Rep K F' d v → Q v H') (ExW K E σ H)) : DL.tD K E (ev Φ m) σ H Q := by
  refine ⟨F, wipeD ρ (W ++ U), h.st.ext.sub, h.st.env, ?_⟩
  rw [← rd_env hr]
  exact RW.imp q (fun d hd v F' H' e r => hd v F' H' (h.step e) e r) fun _ z => z
theorem FamR.tgt {K : PySem.W.Frag} {F0 H0 F H : Hp} {ρ ρ1 ρ2 : Env} {kvs : List (D × D)} {σ σ' : L2.St} {d : D} (h : FamR K W U i F0 H0 F H ρ kvs σ) (hs : ∀ i ∈ t.slots, i ∉ W ++ U) (hi : i ∉ t.slots) (e1 : bT t d ρ = .ok ρ1) (e2 : bT t d (wipeD ρ (W ++ U)) = .ok ρ2) (re : EnvR K F ρ2 σ') (ag : Agree σ σ' t.slots) : FamR K W U i F0 H0 F H ρ1 kvs σ' := by
  obtain ⟨l1, q1⟩ := bT_out t d ρ ρ1 e1
  obtain ⟨st, no, il, a, hk, bs, h1, h2, h3, h4, h5, h6, h7, h8⟩ := h
  refine ⟨st.tgt hs e1 e2 re ag, by rw [q1 i hi]; exact no, by rw [l1]; exact il, a, hk, bs, by rw [ag.2 i hi]; exact h1, h2, h3, h4, h5, h6, h7, fun j d c n1 g1 g2 => ?_⟩
  have hj : j ∉ t.slots := fun z => hs j z (List.mem_append.mpr n1)
  rw [q1 j hj] at g1
  rw [ag.2 j hj] at g2
  exact h8 j d c n1 g1 g2
theorem dic0_slot {ρ : Env} {k : Out} {K : PySem.W.Frag} {F0 H0 : Hp} {De : Ends} (h : OutW K J W' U' F0 H0 E De (match ρ[i]? with | some (some (.dic false [])) => k | _ => .bad)) : ρ[i]? = some (some (.dic false [])) ∧ OutW K J W' U' F0 H0 E De k := by
  split at h
  · rename_i e; exact ⟨e, h⟩
  · exact h.elim
theorem ds_fam {x : Str} {es : Exs} {k : ItK} {p1 ap1 cp1 ap2 cp2 ep lp : Pos} (hp : PassesOwn (model X.prog X.w) X.A X.env X.xe) (hc : X.calm = true) (hN : X.N[i]? = some x) (hv : Vis X.env.scope x) (h1 : (x == ("__debug__" : Str)) = false) (h2 : (x == ("__classdict__" : Str)) = false)
    (hi : DI X E tg iter (fun ρ => (evs Φ es ρ).bind k.fn)) (hf : notSet iter = true) (hg : DG X tg t.slots (bT t)) (hek : DE X E ek (ev Φ mk)) (hee : DE X E ee (ev Φ me)) (hnk : notStar ek = true) (hne : notStar ee = true) (hl1 : (ap1.endLine == cp1.line) = true) (hl2 : (ap2.endLine == cp2.line) = true)
    (hiU : i ∈ U) (hiW : i ∉ W) (hr : ∀ j ∈ es.rd, j ∉ W ++ U) (hs : ∀ j ∈ t.slots, j ∉ W ++ U) (hrk : ∀ j ∈ mk.rd, j ∉ W ++ U) (hre : ∀ j ∈ me.rd, j ∉ W ++ U) (hx : J.x = none) :
    DS X E J W U (.For tg iter [.Expr (.Call (.Attribute (.Call (.Attribute (.Name x p1) "setdefault" ap1) [ek, .List [] lp] [] cp1) "append" ap2) [ee] [] cp2) ep] [] pos) (famO i (fun ρ => (evs Φ es ρ).bind k.fn) (bT t) (ev Φ mk) (ev Φ me)) W (i :: less U i) := by
  have few2 : ([ek, .List [] lp] : List Expr).all notStar = true := by rw [List.all_cons, hnk]; rfl
  have m2 : M2 X (.Name x p1) "setdefault" ap1 ek (.List [] lp) cp1 := ⟨rfl, star_few few2 (by simp), hl1, by rw [star_cons hnk]; rfl⟩
  have few1 : [ee].all notStar = true := by rw [List.all_cons, hne]; rfl
  have body := pss_one (ps_expr (pos := ep) (pe_bm F.plainAttrs_list F.slot_list_append F.type_list_append mt_append (pe_dsetd (pe_var (i := i) hN hv h1 h2) hek (pe_lst (pos := lp) pa_nil) m2) (pa_cons hee pa_nil (star_cons hne)) (base_ok (o := .Call (.Attribute (.Name x p1) "setdefault" ap1) [ek, .List [] lp] [] cp1) rfl) (star_few few1 (by simp)) hl2 (star_cons hne) (star_plain (es := []) rfl)) rfl)
  have jok : ∀ W U, J.ok W U = true := fun W U => by unfold Jt.ok; rw [hx]
  have less_sub : ∀ {R : List Nat}, (∀ j ∈ R, j ∉ W ++ U) → ∀ j ∈ R, j ∉ W ++ less U i := fun h j hj z => h j hj (by
    rcases List.mem_append.mp z with z | z
    · exact List.mem_append_left _ z
    · exact List.mem_append_right _ (mem_less.mp z).1)
  have his : i ∉ t.slots := fun z => hs i z (List.mem_append_right _ hiU)
  refine ps_weak (ps_for hp hc hi hg body (fun x => fold_ok hf)) fun D σ H ⟨F0, H0, F, ρ, st, q⟩ => ?_
  unfold famO at q
  obtain ⟨hd, q⟩ := dic0_slot q
  refine sI_tI hr ⟨F0, H0, F, ρ, st, RW.imp (rO_ok st (jok _ _) q) (fun items hq It F1 H1 st1 it1 hl => ?_) fun _ z => z⟩
  have g1 := st1.ext
  refine ⟨fun j n σ H => ∃ F ρ kvs, n = items.length - j ∧ j ≤ items.length ∧ FamR X.K W (less U i) i F1 H0 F H ρ kvs σ ∧ kvs.length ≤ 16777216 ∧ OutW X.K J W (i :: less U i) F1 H0 E D (famF i (bT t) (ev Φ mk) (ev Φ me) (items.drop j) kvs ρ), ⟨items.length, F1, _, [], rfl, Nat.zero_le _, (FamR.start st1 hiU hiW hd).down, Nat.zero_le _, by rw [List.drop_zero]; exact OutW.down g1 hq⟩, ?_⟩
  rintro j n σ2 H2 ⟨F2, ρ2, kvs, rfl, hj2, fr2, kl, h2⟩
  have st2 := fr2.st
  obtain ⟨go, stop⟩ := it1 F2 H2 st2.ext.grow st2.ext.sub
  by_cases hlt : j < items.length
  · right
    obtain ⟨g2, g3⟩ := go j items[j] (List.getElem?_eq_getElem hlt)
    refine ⟨g2, fun σ' H' => ∃ n', n' < items.length - j ∧ ∃ F ρ kvs, n' = items.length - (j + 1) ∧ j + 1 ≤ items.length ∧ FamR X.K W (less U i) i F1 H0 F H' ρ kvs σ' ∧ kvs.length ≤ 16777216 ∧ OutW X.K J W (i :: less U i) F1 H0 E D (famF i (bT t) (ev Φ mk) (ev Φ me) (items.drop (j + 1)) kvs ρ), fun σ' H' z => z, fun x H' hy => ?_⟩
    obtain ⟨F3, e3, rx⟩ := g3 x H' hy
    have fr3 := fr2.step e3
    rw [List.drop_eq_getElem_cons hlt] at h2
    unfold famF at h2
    have a : AgrR [] (bT t items[j] ρ2) (bT t items[j] (wipeD ρ2 (W ++ less U i))) := bT_agr [] t items[j] ⟨(wipeD_length _ _).symm, fun i hi => by cases hi⟩
    cases e1 : bT t items[j] ρ2 with
    | exc c => rw [e1] at h2; exact h2.elim
    | bad => rw [e1] at h2; exact h2.elim
    | ok ρ3 =>
      rw [e1] at h2 a
      refine ⟨F3, wipeD ρ2 (W ++ less U i), items[j], fr3.st.ext.sub, fr3.st.env, rx, ?_⟩
      cases e2 : bT t items[j] (wipeD ρ2 (W ++ less U i)) with
      | exc c => rw [e2] at a; exact a.elim
      | bad => rw [e2] at a; exact a.elim
      | ok ρ4 =>
        intro σ4 re ag
        have fr4 : FamR X.K W (less U i) i F1 H0 F3 H' ρ3 kvs σ4 := fr3.tgt (less_sub hs) his e1 e2 re ag
        have h2' : OutW X.K J W (i :: less U i) F1 H0 E D (famS (ev Φ mk) (ev Φ me) kvs ρ3 fun kvs' => famF i (bT t) (ev Φ mk) (ev Φ me) (items.drop (j + 1)) kvs' ρ3) := h2
        unfold famS at h2'
        obtain ⟨ad, _, _, ha, hHa, _⟩ := fr4.at_
        refine ⟨_, ha, ad, rfl, .inl ⟨_, .inl hHa⟩, fr4.tD (less_sub hrk) (RW.imp (rO_ok fr4.st (jok _ _) h2') (fun dk hk y F5 H5 fr5 x5 r5 => ?_) fun _ z => z)⟩
        split at hk
        case isFalse => exact hk.elim
        rename_i hkey
        obtain ⟨ky, rfl⟩ := rep_key0 hkey.1 r5
        refine ⟨Nat.zero_le _, fun p hp => ?_⟩
        obtain ⟨hkk, b1, b2, b3, b4⟩ := fr5.setd ha r5 hkey.2 hp
        -- the append
        have fin : ∀ (H6 : Hp) (b : Addr) (hk' : List (Key × V)), Same H5 H6 ∨ True → FamR X.K W (less U i) i F1 H0 F5 H6 ρ3 (famD kvs dk) σ4 → H6 ad = some (.dK hk') → valV hk' ky = some (.ref b) →
            tyV X.K "list" (.ref b) H6 ∧ tCons (DL.tD X.K E (ev Φ me)) tNil σ4 H6 fun xs H7 => rAppend (.ref b) xs H7 fun _ H8 => ∃ n', n' < items.length - j ∧ ∃ F ρ kvs, n' = items.length - (j + 1) ∧ j + 1 ≤ items.length ∧ FamR X.K W (less U i) i F1 H0 F H8 ρ kvs σ4 ∧ kvs.length ≤ 16777216 ∧ OutW X.K J W (i :: less U i) F1 H0 E D (famF i (bT t) (ev Φ mk) (ev Φ me) (items.drop (j + 1)) kvs ρ) := by
          intro H6 b hk' _ fr6 hH6 hv6
          have isl : ∃ vs, H6 b = some (.lst vs) := by
            obtain ⟨st', no', il', a2, hk2, bs2, g1, g2, g3, g4, g5, g6, g7, g8⟩ := fr6
            rw [ha] at g1
            have ea : ad = a2 := by injection g1 with z1; injection z1 with z1; injection z1
            subst ea
            rw [hH6] at g2
            have ek : hk' = hk2 := by injection g2 with z; injection z
            subst ek
            obtain ⟨i1, _⟩ := g5.setd (r5.mono (Same.refl _))
            obtain ⟨b', eb, hb, _⟩ := i1 _ hv6
            cases eb
            exact g5.here b hb
          obtain ⟨vs0, hvs0⟩ := isl
          refine ⟨.inl ⟨rfl, vs0, SqL.of hvs0⟩, fr6.tD (less_sub hre) (RW.imp (rO_ok fr6.st (jok _ _) hk) (fun de he v F7 H7 fr7 x7 r7 => ?_) fun _ z => z)⟩
          cases ea : famA (famD kvs dk) dk de with
          | none => rw [ea] at he; exact he.elim
          | some kvs' =>
            rw [ea] at he
            obtain ⟨vs, w1, w2, w3⟩ := fr7.app ha (x7.same _ _ hH6) hv6 (r5.mono x7.grow) ea r7
            refine ⟨b, vs, v, rfl, rfl, w1, by rw [PySem.sizeLine_eq]; exact w2, items.length - (j + 1), by omega, F7, ρ3, kvs', rfl, hlt, w3, ?_, he⟩
            rw [famA_length ea]
            exact Nat.le_trans (famD_length _ _) hkey.2
        refine ⟨hkk, ky, b1, rfl, b2, fun v hv => ?_, fun hn => ?_⟩
        · obtain ⟨b, rfl, fr6⟩ := b3 v hv
          exact fin _ b hkk (.inr trivial) fr6 b1 hv
        · obtain ⟨fr6, hv6⟩ := b4 hn
          exact fin _ p _ (.inr trivial) fr6 upd_same hv6
  · left
    have e : j = items.length := by omega
    subst e
    rw [List.drop_length] at h2
    unfold famF at h2
    obtain ⟨F', s'⟩ := fr2.fin hiW (fun z => (mem_less.mp z).2 rfl) (by rw [PySem.sizeLine_eq]; exact kl)
    exact ⟨stop, h2 σ2 F' H2 s'⟩
end
end DL
/-! The data layer, 20: the small language's statements, the look at Python's statements. -/
namespace DL
open PySem PySem.Spec L2

mutual
inductive Sm where
  | asg (k : Bool) (t : Tg) (e : Ex) | app (i : Nat) (k : Bool) (e : Ex) | ext (i : Nat) (e : Ex) | put (i : Nat) (k v : Ex) | inc (i : Nat) (c : Int) (k2 e k : Ex) | pop (i : Nat) (k : Ex)
  | ite (c : Ex) (a b : Sms) | for_ (k : ItK) (es : Exs) (t : Tg) (b : Sms) | fam (i : Nat) (k : ItK) (es : Exs) (t : Tg) (mk me : Ex) | whl (n : Nat) (c : Ex) (b : Sms)
  | ret (e : Ex) | exp (e : Ex) | brk | cnt | pass | raise (c : Str)
inductive Sms where
  | nil | cons (s : Sm) (ss : Sms)
end
mutual
def evS (Φ : List (List D → Res D)) : Sm → Env → Out
  | .asg k t e => fun ρ => rO ρ (kp k (ev Φ e ρ)) fun d => stO (bT t d ρ)
  | .app i k e => appO i (fun ρ => kp k (ev Φ e ρ))
  | .ext i e => extO i (ev Φ e)
  | .put i k v => putO i (ev Φ k) (ev Φ v)
  | .inc i c k2 e k => incO i c (ev Φ k2) (ev Φ e) (ev Φ k)
  | .pop i k => popO i (ev Φ k)
  | .ite c a b => iteO (tst (ev Φ c)) (evSs Φ a) (evSs Φ b)
  | .for_ k es t b => fun ρ => rO ρ ((evs Φ es ρ).bind k.fn) fun items => forO (bT t) (evSs Φ b) items ρ
  | .fam i k es t mk me => famO i (fun ρ => (evs Φ es ρ).bind k.fn) (bT t) (ev Φ mk) (ev Φ me)
  | .whl n c b => whlO (tst (ev Φ c)) (evSs Φ b) n
  | .ret e => fun ρ => rO ρ (ev Φ e ρ) .ret
  | .exp e => fun ρ => rO ρ (ev Φ e ρ) fun _ => .nx ρ
  | .brk => Out.brk
  | .cnt => Out.cnt
  | .pass => Out.nx
  | .raise c => fun ρ => .exc ρ c
def evSs (Φ : List (List D → Res D)) : Sms → Env → Out
  | .nil => Out.nx
  | .cons s ss => seqO (evS Φ s) (evSs Φ ss)
end
theorem kp_false (r : Res D) : kp false r = r := by
  cases r with
  | ok d => unfold kp; simp
  | exc c => rfl
  | bad => rfl
/-- what a look needs of a def: its own lists, own dicts; lines where nothing is kept; how long a while may run -/
structure Opt where
  ml : List Nat
  md : List Nat
  fz : List Nat
  fuel : Nat
def listy : Ex → Bool
  | .lst _ => true
  | .tup _ => true
  | .comp .. => true
  | .blt .list _ => true
  | .blt .tuple _ => true
  | .blt .sorted _ => true
  | .sset _ => true
  | .slice .. => true
  | _ => false
/-- likely to be atomic -/
def atomE : Ex → Bool
  | .lit d => atom d
  | .op .add a b => !listy a && !listy b
  | .op .mul a b => !listy a && !listy b
  | .op _ _ _ => true
  | .neg _ => true
  | .no _ => true
  | .and _ _ => true
  | .or _ _ => true
  | .chain .. => true
  | .isi _ _ => true
  | .ife _ a b => atomE a && atomE b
  | .blt .list _ => false
  | .blt .tuple _ => false
  | .blt .sorted _ => false
  | .blt .dict _ => false
  | .blt .max _ => false
  | .lset _ => true
  | .blt _ _ => true
  | .mth .. => true
  | _ => false
def dis (R O : List Nat) : Bool := R.all fun i => !O.contains i
theorem dis_ok {R O : List Nat} (h : dis R O = true) : ∀ i ∈ R, i ∉ O := fun i hi => by
  have := List.all_eq_true.mp h i hi
  simpa using this
abbrev WU := List Nat × List Nat
def rex : Rc := ce 40
/-- where the end is: none, the statement is not left at its end -/
abbrev End := Option WU
/-- the ends of two branches -/
def cut (a b : WU) : List Nat := (a.1 ++ a.2).filter fun i => !(b.1 ++ b.2).contains i
def joinE (a b : End) : Option End := match a, b with
  | none, none => some none
  | none, some w => some (some w)
  | some w, none => some (some w)
  | some x, some y => if lessA x.1 (cut x y) = lessA y.1 (cut y x) ∧ lessA x.2 (cut x y) = lessA y.2 (cut y x) ∧ dis x.1 x.2 = true ∧ dis y.1 y.2 = true then some (some (lessA x.1 (cut x y), lessA x.2 (cut x y))) else none
def freshL : Expr → Bool
  | .List .. => true
  | .ListComp .. => true
  | _ => false
def isDictC (Γ : Gam) : Expr → Bool
  | .Call (.Name x _) [_] [] _ => decide (x = "dict") && (fnIx Γ.fns x).isNone
  | _ => false
def freshD (Γ : Gam) : Expr → Bool
  | .Dict [] [] _ => true
  | e => isDictC Γ e
def isTup2 : Expr → Bool
  | .Tuple .. => true
  | _ => false
def nmSlot (Γ : Gam) (x : Str) : Option Nat := if x = "__debug__" ∨ x = "__classdict__" then none else if Γ.sc.names.lookup x = some .local ∨ Γ.sc.names.lookup x = some .cell ∨ Γ.sc.names.lookup x = some .free then slot Γ.N x else none
/-- name = e, where nothing is swapped -/
def noSwap (Γ : Gam) (tg e : Expr) : Bool := match e, tg with
  | .ListComp _ _ sc p, .Name y py => isFun Γ && !swB Γ y py p sc
  | e, _ => !isComp e
def swaps (Γ : Gam) (tg e : Expr) : Bool := match e, tg with
  | .ListComp _ _ sc p, .Name y py => swB Γ y py p sc
  | _, _ => false
/-- how a store is made -/
inductive AsgK where
  | new (b : Bool) (i : Nat) | keep | frz
  deriving DecidableEq
def asgK (Γ : Gam) (o : Opt) (W U : List Nat) (e : Expr) (t : Tg) (m : Ex) (l : Nat) : AsgK := match t with
  | .name i => if freshL e = true ∧ i ∈ o.ml then .new false i else if freshD Γ e = true ∧ i ∈ o.md then .new true i
      else if dis m.rd (W ++ U) = false ∧ atomE m = true ∧ dis m.rd U = true ∧ l ∉ o.fz then .keep else .frz
  | _ => if dis m.rd (W ++ U) = false ∧ atomE m = true ∧ dis m.rd U = true ∧ l ∉ o.fz then .keep else .frz
def okA (J : Jt) (W U : List Nat) (R : List Nat) : Bool := dis R (W ++ U) && J.ok W U
/-- a store by the plain way -/
def cAsg1 (Γ : Gam) (o : Opt) (J : Jt) (W U : List Nat) (tg e : Expr) (pos : Pos) : Option (Sm × End) :=
    match tgR 20 Γ tg, rex false Γ e with
    | some t, some m =>
      match asgK Γ o W U e t m pos.line with
      | .new b i => (fun Z => if okA J (lessA W Z) (lessA U Z) (m.rd ++ [i]) = true ∧ (noSwap Γ tg e = true ∨ swaps Γ tg e = true) then some (.asg false t m, some (if b = false then i :: lessA W Z else lessA W Z, if b = true then i :: lessA U Z else lessA U Z)) else none) (m.rd ++ [i])
      | .keep => (fun Z => if okA J (lessA W Z) (lessA U Z) t.slots = true ∧ dis m.rd (lessA U Z) = true ∧ dis (lessA W Z) (lessA U Z) = true ∧ noSwap Γ tg e = true then some (.asg true t m, some (lessA W Z, lessA U Z)) else none) t.slots
      | .frz => (fun Z => if okA J (lessA W Z) (lessA U Z) (m.rd ++ t.slots) = true ∧ (noSwap Γ tg e = true ∨ swaps Γ tg e = true) then some (.asg false t m, some (lessA W Z, lessA U Z)) else none) (m.rd ++ t.slots)
    | _, _ => none
/-- a tuple's names that are not all stored at once -/
def swapN (Γ : Gam) : Expr → Bool
  | .Tuple ts _ _ => (ts.filterMap fun
    | .Name id pos => if (Γ.sc.names.lookup id == some .local && pos.line == (ts.head?.map (·.pos.line)).getD 0) = true then some id else none
    | _ => none).length != ts.length
  | _ => false
def isL0 : Ex → Bool
  | .lst .nil => true
  | _ => false
theorem isL0_ok {m : Ex} (h : isL0 m = true) : m = .lst .nil := by
  unfold isL0 at h
  split at h
  · rfl
  · cases h
/-- x, y = a, [] by way of a tuple -/
def cTupF (Γ : Gam) (o : Opt) (J : Jt) (W U : List Nat) (tg e : Expr) : Option (Sm × End) := match tg, e with
  | .Tuple [tx, ty] _ _, .Tuple [a, b] _ _ =>
    if notStar tx = true ∧ notStar ty = true ∧ notStar a = true ∧ notStar b = true ∧ freshL b = true then
      match tgR 20 Γ tx, tgR 20 Γ ty, rex false Γ a, rex false Γ b with
      | some (.name i), some (.name j), some m1, some m2 =>
        if isL0 m2 = true ∧ j ∈ o.ml then
          (fun Z => if okA J (lessA W Z) (lessA U Z) (m1.rd ++ [i, j]) = true ∧ i ≠ j then some (.asg false (.tup (.cons (.name i) (.cons (.name j) .nil))) (.tup (.cons m1 (.cons (.lst .nil) .nil))), some (j :: lessA W Z, lessA U Z)) else none) (m1.rd ++ [i, j])
        else none
      | _, _, _, _ => none
    else none
  | _, _ => none
/-- a store as it stands -/
def cAsg (Γ : Gam) (o : Opt) (J : Jt) (W U : List Nat) (tg e : Expr) (pos : Pos) : Option (Sm × End) :=
  if isTup2 tg = true ∧ isTup2 e = true then
    if swapN Γ tg = true then (match cTupF Γ o J W U tg e with | some z => some z | none => cAsg1 Γ o J W U tg e pos) else
    match tg, e with
    | .Tuple [.Name x px, .Name y py] _ _, .Tuple [a, b] _ _ =>
      if par2B Γ x y px py a b = true then
        match slot Γ.N x, slot Γ.N y, rex false Γ a, rex false Γ b with
        | some i, some j, some m1, some m2 =>
          if isL0 m2 = true ∧ freshL b = true ∧ j ∈ o.ml then
          (fun Z => if okA J (lessA W Z) (lessA U Z) (m1.rd ++ [i, j]) = true ∧ i ≠ j then some (.asg false (.tup (.cons (.name i) (.cons (.name j) .nil))) (.tup (.cons m1 (.cons (.lst .nil) .nil))), some (j :: lessA W Z, lessA U Z)) else none) (m1.rd ++ [i, j])
          else
          (fun Z => if okA J (lessA W Z) (lessA U Z) ((Exs.cons m1 (.cons m2 .nil)).rd ++ [i, j]) = true ∧ i ≠ j then some (.asg false (.tup (.cons (.name i) (.cons (.name j) .nil))) (.tup (.cons m1 (.cons m2 .nil))), some (lessA W Z, lessA U Z)) else none) ((Exs.cons m1 (.cons m2 .nil)).rd ++ [i, j])
        | _, _, _, _ => none
      else none
    | _, _ => none
  else cAsg1 Γ o J W U tg e pos
/-- a store in an own dict -/
def cPut (Γ : Gam) (J : Jt) (W U : List Nat) (x : Str) (ek evx : Expr) : Option (Sm × End) :=
  match nmSlot Γ x, rex false Γ ek, rex false Γ evx with
  | some i, some mk, some mv => if isComp evx = false then (fun Z => if okA J (lessA W Z) (lessA U Z) (mk.rd ++ mv.rd) = true ∧ i ∈ lessA U Z ∧ i ∉ lessA W Z then some (.put i mk mv, some (lessA W Z, lessA U Z)) else none) (mk.rd ++ mv.rd) else none
  | _, _, _ => none
/-- x[k] = x.get(k, c) + e; else a store -/
def cInc (Γ : Gam) (J : Jt) (W U : List Nat) (x : Str) (ek evx : Expr) : Option (Sm × End) := match evx with
  | .BinOp (.Call (.Attribute (.Name x2 _) g apos) [ek2, .Constant (.int c) _ _] [] cpos) .Add ee _ =>
    if x2 = x ∧ g = "get" ∧ notStar ek2 = true ∧ (apos.endLine == cpos.line) = true then
      match nmSlot Γ x, rex false Γ ek2, rex false Γ ee, rex false Γ ek with
      | some i, some m2, some me, some mk => (fun Z => if okA J (lessA W Z) (lessA U Z) (m2.rd ++ (me.rd ++ mk.rd)) = true ∧ i ∈ lessA U Z ∧ i ∉ lessA W Z then some (.inc i c m2 me mk, some (lessA W Z, lessA U Z)) else none) (m2.rd ++ (me.rd ++ mk.rd))
      | _, _, _, _ => none
    else cPut Γ J W U x ek evx
  | _ => cPut Γ J W U x ek evx
/-- a change of an own list -/
def cChg (Γ : Gam) (o : Opt) (J : Jt) (W U : List Nat) (x : Str) (nm : Str) (e : Expr) (apos cpos pos : Pos) : Option (Sm × End) :=
  if notStar e = true ∧ (apos.endLine == cpos.line) = true then
    match nmSlot Γ x, rex false Γ e with
    | some i, some m =>
      if i ∈ W then
        if nm = "append" then
          if dis m.rd (W ++ U) = false ∧ atomE m = true ∧ dis m.rd U = true ∧ pos.line ∉ o.fz then
            if J.ok W U = true ∧ dis W U = true then some (.app i true m, some (W, U)) else none
          else
            (fun Z => if okA J (lessA W Z) (lessA U Z) m.rd = true ∧ i ∈ lessA W Z then some (.app i false m, some (lessA W Z, lessA U Z)) else none) m.rd
        else if nm = "extend" then
          (fun Z => if okA J (lessA W Z) (lessA U Z) m.rd = true ∧ i ∈ lessA W Z then some (.ext i m, some (lessA W Z, lessA U Z)) else none) m.rd
        else none
      else if i ∈ U ∧ nm = "pop" then
        (fun Z => if okA J (lessA W Z) (lessA U Z) m.rd = true ∧ i ∈ lessA U Z ∧ i ∉ lessA W Z then some (.pop i m, some (lessA W Z, lessA U Z)) else none) m.rd
      else none
    | _, _ => none
  else none
/-- for tg in iter: x.setdefault(k, []).append(e) -/
def famOf : List Stmt → Option (Str × Expr × Expr × Pos × Pos × Pos × Pos)
  | [.Expr (.Call (.Attribute (.Call (.Attribute (.Name x _) sd ap1) [ek, .List [] _] [] cp1) ap ap2) [ee] [] cp2) _] => if sd = "setdefault" ∧ ap = "append" then some (x, ek, ee, ap1, cp1, ap2, cp2) else none
  | _ => none
def cFam (Γ : Gam) (J : Jt) (W U : List Nat) (tg iter : Expr) (x : Str) (ek ee : Expr) (ap1 cp1 ap2 cp2 : Pos) : Option (Sm × End) :=
  match ciR rex Γ tg iter, tgR 20 Γ tg, nmSlot Γ x, rex false Γ ek, rex false Γ ee with
  | some (k, es), some t, some i, some mk, some me =>
    (fun Z => if okA J (lessA W Z) (lessA U Z) Z = true ∧ notStar ek = true ∧ notStar ee = true ∧ (ap1.endLine == cp1.line) = true ∧ (ap2.endLine == cp2.line) = true ∧ i ∈ lessA U Z ∧ i ∉ lessA W Z ∧ J.x = none then
      some (.fam i k es t mk me, some (lessA W Z, i :: less (lessA U Z) i)) else none) (es.rd ++ (t.slots ++ (mk.rd ++ me.rd)))
  | _, _, _, _, _ => none
def chgOf : Expr → Option (Str × Str × Expr × Pos × Pos)
  | .Call (.Attribute (.Name x _) nm apos) [e] [] cpos => some (x, nm, e, apos, cpos)
  | _ => none
def isChg (nm : Str) : Bool := decide (nm = "append") || decide (nm = "extend") || decide (nm = "pop")
mutual
def cS : Nat → Gam → Opt → Jt → List Nat → List Nat → Stmt → Option (Sm × End)
  | 0, _, _, _, _, _, _ => none
  | n + 1, Γ, o, J, W, U, s => if dis W U = true then (match s with
    | .Assign [.Subscript (.Name x _) ek _] evx _ => cInc Γ J W U x ek evx
    | .Assign [tg] e pos => cAsg Γ o J W U tg e pos
    | .Expr (.Call (.Attribute (.Name x _) nm apos) [e] [] cpos) pos => if isChg nm = true then cChg Γ o J W U x nm e apos cpos pos else none
    | .Expr e pos => if isComp e = false then (match rex false Γ e with
      | some m => (fun Z => if okA J (lessA W Z) (lessA U Z) m.rd = true then some (.exp m, some (lessA W Z, lessA U Z)) else none) m.rd
      | none => none) else none
    | .If c a b _ => (match rex true Γ c with
      | some m => (fun Z => if J.ok (lessA W Z) (lessA U Z) = true ∧ dis m.rd (lessA U Z) = true ∧ dis (lessA W Z) (lessA U Z) = true then
          (match cSs n Γ o J (lessA W Z) (lessA U Z) a, cSs n Γ o J (lessA W Z) (lessA U Z) b with
          | some (ma, ea), some (mb, eb) => (match joinE ea eb with
            | some en => some (.ite m ma mb, en)
            | none => none)
          | _, _ => none) else none) (m.rd.filter fun i => U.contains i)
      | none => none)
    | .For tg iter body [] _ => (match famOf body with
      | some (x, ek, ee, ap1, cp1, ap2, cp2) => cFam Γ J W U tg iter x ek ee ap1 cp1 ap2 cp2
      | none => match ciR rex Γ tg iter, tgR 20 Γ tg with
      | some (k, es), some t => cFor n 4 Γ o J (lessA W (es.rd ++ t.slots)) (lessA U (es.rd ++ t.slots)) k es t body (es.rd ++ t.slots)
      | _, _ => none)
    | .While c body [] _ => (match rex true Γ c with
      | some m => cWhl n 4 Γ o J (lessA W (m.rd.filter fun i => U.contains i)) (lessA U (m.rd.filter fun i => U.contains i)) m body (m.rd.filter fun i => U.contains i)
      | none => none)
    | .Return (some e) _ => (match rex false Γ e with
      | some m => (fun Z => if okA J (lessA W Z) (lessA U Z) m.rd = true then some (.ret m, none) else none) m.rd
      | none => none)
    | .Pass _ => some (.pass, some (W, U))
    | .Break _ => (fun Z => if lessA W Z = J.lw ∧ lessA U Z = J.lu then some (.brk, none) else none) (cut (W, U) (J.lw, J.lu))
    | .Continue _ => (fun Z => if lessA W Z = J.lw ∧ lessA U Z = J.lu then some (.cnt, none) else none) (cut (W, U) (J.lw, J.lu))
    | .Raise (some (.Call (.Name x _) [.Constant (.str _) _ _] [] _)) none _ => if x ∈ Γ.excs ∧ glob Γ x = true ∧ x ≠ "__debug__" then
        (match J.x with
        | none => some (.raise x, none)
        | some wu => (fun Z => if lessA W Z = wu.1 ∧ lessA U Z = wu.2 then some (.raise x, none) else none) (cut (W, U) wu))
        else none
    | _ => none) else none
def cSs : Nat → Gam → Opt → Jt → List Nat → List Nat → List Stmt → Option (Sms × End)
  | _, _, _, _, W, U, [] => some (.nil, some (W, U))
  | 0, _, _, _, _, _, _ :: _ => none
  | n + 1, Γ, o, J, W, U, s :: ss => (match cS n Γ o J W U s with
    | some (m, some (W', U')) => (match cSs n Γ o J W' U' ss with
      | some (ms, en) => some (.cons m ms, en)
      | none => none)
    | some (m, none) => (match ss with
      | [] => some (.cons m .nil, none)
      | _ :: _ => none)
    | none => none)
def cFor : Nat → Nat → Gam → Opt → Jt → List Nat → List Nat → ItK → Exs → Tg → List Stmt → List Nat → Option (Sm × End)
  | _, 0, _, _, _, _, _, _, _, _, _, _ => none
  | 0, _, _, _, _, _, _, _, _, _, _, _ => none
  | n + 1, c + 1, Γ, o, J, W, U, k, es, t, body, Z => if okA J W U (es.rd ++ t.slots) = true ∧ dis W U = true then
      (match cSs n Γ o ⟨W, U, J.x⟩ W U body with
      | some (mb, none) => some (.for_ k es t mb, some (W, U))
      | some (mb, some (W', U')) =>
        if lessA W' (cut (W', U') (W, U)) = W ∧ lessA U' (cut (W', U') (W, U)) = U ∧ dis W' U' = true then some (.for_ k es t mb, some (W, U))
        else cFor n c Γ o J (lessA W (cut (W, U) (W', U'))) (lessA U (cut (W, U) (W', U'))) k es t body Z
      | none => none)
    else none
def cWhl : Nat → Nat → Gam → Opt → Jt → List Nat → List Nat → Ex → List Stmt → List Nat → Option (Sm × End)
  | _, 0, _, _, _, _, _, _, _, _ => none
  | 0, _, _, _, _, _, _, _, _, _ => none
  | n + 1, c + 1, Γ, o, J, W, U, m, body, Z => if dis m.rd U = true ∧ J.ok W U = true ∧ dis W U = true then
      (match cSs n Γ o ⟨W, U, J.x⟩ W U body with
      | some (mb, none) => some (.whl o.fuel m mb, some (W, U))
      | some (mb, some (W', U')) =>
        if lessA W' (cut (W', U') (W, U)) = W ∧ lessA U' (cut (W', U') (W, U)) = U ∧ dis W' U' = true then some (.whl o.fuel m mb, some (W, U))
        else cWhl n c Γ o J (lessA W (cut (W, U) (W', U'))) (lessA U (cut (W, U) (W', U'))) m body Z
      | none => none)
    else none
end
end DL
/-! The data layer, 21: the look at statements is right. -/
namespace DL
open PySem PySem.Spec L2

structure OkS (Γ : Gam) (Φ : List (List D → Res D)) (X : Cx) (Wx : WX) : Prop where
  ok : Ok Γ Φ X (WE Wx)
  tk : Takes X Wx
  hp : PassesOwn (model X.prog X.w) X.A X.env X.xe
def DSE (X : Cx) (E : EX) (J : Jt) (W U : List Nat) (s : Stmt) (f : Env → Out) : End → Prop
  | none => ∀ W' U', DS X E J W U s f W' U'
  | some w => DS X E J W U s f w.1 w.2
def DSEs (X : Cx) (E : EX) (J : Jt) (W U : List Nat) (s : List Stmt) (f : Env → Out) : End → Prop
  | none => ∀ W' U', DSs X E J W U s f W' U'
  | some w => DSs X E J W U s f w.1 w.2
theorem swst_name {y : Str} {p : Pos} {e : Expr} {env : PySem.Env} : swappedStores [.Name y p] e env = pure none := by
  cases e <;> rfl
theorem swst_tup {ts : List Expr} {k : Nat} {p : Pos} {e : Expr} {env : PySem.Env} (h : isTup2 e = false) : swappedStores [.Tuple ts k p] e env = pure none := by
  cases e <;> first | rfl | cases h
section
variable {Φ : List (List D → Res D)} {Γ : Gam} {o : Opt} {X : Cx} {Wx : WX} {J : Jt} {W U : List Nat}
theorem rex_ok : Snd Φ rex := ce_ok 40
theorem dsw {s : Stmt} {f : Env → Out} (Z : List Nat) {W' U' : List Nat} (hd : dis W U = true) (h : DS X (WE Wx) J (lessA W Z) (lessA U Z) s f W' U') : DS X (WE Wx) J W U s f W' U' := ds_lessA Z W U (dis_ok hd) h
theorem okA_ok {W U R : List Nat} (h : okA J W U R = true) : (∀ i ∈ R, i ∉ W ++ U) ∧ J.ok W U = true := by
  unfold okA at h
  rw [Bool.and_eq_true] at h
  exact ⟨dis_ok h.1, h.2⟩
theorem swst_len (O : OkS Γ Φ X Wx) {ts : List Expr} {k : Nat} {p : Pos} {e : Expr} (h : swapN Γ (.Tuple ts k p) = true) : swappedStores [.Tuple ts k p] e X.env = pure none := by
  cases e with
  | Tuple vs k2 p2 =>
    unfold swapN at h
    have hk : ∀ id, X.env.kindOf id = Γ.sc.names.lookup id := fun id => by rw [← O.ok.sc]; rfl
    unfold swappedStores
    dsimp only
    split
    · rfl
    · split
      · rfl
      · split
        · rfl
        · rename_i z
          exfalso
          apply z
          rw [Bool.or_eq_true]
          left
          refine Eq.trans ?_ h
          congr 2
          refine congrArg (fun f => List.filterMap f ts) (funext fun t => ?_)
          cases t <;> first | rfl | (dsimp only; rw [hk])
  | _ => rfl
theorem noSw_ok (O : OkS Γ Φ X Wx) {tg e : Expr} {t : Tg} (ht : tgR 20 Γ tg = some t) (h : swapN Γ tg = true ∨ ¬ (isTup2 tg = true ∧ isTup2 e = true)) : swappedStores [tg] e X.env = pure none := by
  cases tg with
  | Name y p => exact swst_name
  | Tuple ts k p =>
    rcases h with h | h
    · exact swst_len O h
    · exact swst_tup (by
        cases z : isTup2 e with
        | true => exact absurd ⟨rfl, z⟩ h
        | false => rfl)
  | _ => unfold tgR at ht; cases ht
/-- a name or a tuple, stored by the plain way -/
theorem asg_plain (O : OkS Γ Φ X Wx) {tg e : Expr} {t : Tg} {m : Ex} {pos : Pos} (ht : tgR 20 Γ tg = some t) (hm : rex false Γ e = some m) (hn : noSwap Γ tg e = true) (hw : swappedStores [tg] e X.env = pure none) {te : TE} (he : PE X e te) :
    PS X (.Assign [tg] e pos) (tAsg te (tG X.K t.slots (bT t))) := by
  have hg : DG X tg t.slots (bT t) := (tgR_ok (Φ := Φ) (E := WE Wx) 20 Γ X O.ok).1 tg t ht
  have h1 : (assignEach [tg] X.env).map (·.2) = [assign tg X.env] := by
    cases tg <;> first | rfl | (unfold tgR at ht; cases ht)
  have hs : swapsWithSole [tg] e pos.line X.env = pure false := by
    show swapsWith e (some tg) pos.line X.env = pure false
    unfold noSwap at hn
    split at hn
    · rename_i elt gs sc p y py
      rw [Bool.and_eq_true, Bool.not_eq_true'] at hn
      refine sw_false O.ok ?_ hn.2
      have := hn.1
      unfold isFun at this
      exact of_decide_eq_true this
    · rename_i e' hne
      cases tg with
      | Name y p => exact sw_plain (by simpa using hn)
      | Tuple ts k p => exact sw_tuple
      | _ => unfold tgR at ht; cases ht
  exact ps_asg he hg hs hw h1
theorem slot_name (O : OkS Γ Φ X Wx) {y : Str} {py : Pos} {t : Tg} (ht : tgR 20 Γ (.Name y py) = some t) : ∃ i, t = .name i ∧ X.N[i]? = some y := by
  unfold tgR at ht
  dsimp only at ht
  split at ht
  · obtain ⟨i, hi, rfl⟩ := Option.map_eq_some_iff.mp ht
    exact ⟨i, rfl, by rw [O.ok.N]; exact slot_ok hi⟩
  · cases ht
/-- a comprehension that is swapped in -/
theorem asg_swap (O : OkS Γ Φ X Wx) {tg e : Expr} {t : Tg} {m : Ex} {pos : Pos} (ht : tgR 20 Γ tg = some t) (hm : rex false Γ e = some m) (hs : swaps Γ tg e = true) : ∃ i, t = .name i ∧ PS X (.Assign [tg] e pos) (tAsg (tDF X.K (WE Wx) (ev Φ m)) (gName i)) ∧ ∀ ρ d, ev Φ m ρ = .ok d → ∃ ds, d = .lst ds := by
  unfold swaps at hs
  split at hs
  · rename_i elt gs sc p y py
    obtain ⟨i, rfl, hN⟩ := slot_name O ht
    refine ⟨i, rfl, ?_⟩
    have hm' : ceV (ce 39) Γ (.ListComp elt gs sc p) = some m := hm
    unfold ceV at hm'
    split at hm' <;> first | (rename_i h; cases h; done) | skip
    all_goals first
      | (rename_i tg iter ifs _ _ h; cases h; exact ⟨ps_comp (ce_ok 39) O.ok hm' hN hs, fun ρ d hd => compR_lst hm' ρ d hd⟩)
      | cases hm'
  · cases hs
theorem swap_D {tg e : Expr} {m : Ex} {pos : Pos} {i : Nat} (h : PS X (.Assign [tg] e pos) (tAsg (tDF X.K (WE Wx) (ev Φ m)) (gName i))) (hl : ∀ ρ d, ev Φ m ρ = .ok d → ∃ ds, d = .lst ds) : PS X (.Assign [tg] e pos) (tAsg (tD X.K (WE Wx) (ev Φ m)) (tG X.K [i] (bT (.name i)))) :=
  ps_weak h fun De σ H q => by
    refine tDF_mono (fun v H' z => ?_) (tD_tDF hl q)
    obtain ⟨F, ρ, d, s, re, r, h⟩ := z
    exact h _ (re.set r) (Agree.set ..)
theorem lst_lst {es : Exs} (ρ : Env) (d : D) (h : ev Φ (.lst es) ρ = .ok d) : ∃ ds, d = .lst ds := by
  simp only [ev, lstV] at h
  cases e : evs Φ es ρ with
  | ok ds => rw [e] at h; cases h; exact ⟨ds, rfl⟩
  | exc c => rw [e] at h; cases h
  | bad => rw [e] at h; cases h
theorem freshL_ok (O : OkS Γ Φ X Wx) {e : Expr} {m : Ex} (hm : rex false Γ e = some m) (hf : freshL e = true) : DF X (WE Wx) e (ev Φ m) ∧ ∀ ρ d, ev Φ m ρ = .ok d → ∃ ds, d = .lst ds := by
  have hm' : ceV (ce 39) Γ e = some m := hm
  unfold ceV at hm'
  split at hm' <;> first | (cases hf; done) | skip
  · rename_i es p
    split at hm'
    · rename_i hl
      obtain ⟨ms, hms, rfl⟩ := Option.map_eq_some_iff.mp hm'
      obtain ⟨h1, h2, h3⟩ := esR_ok (ce_ok 39) O.ok _ _ hms
      exact ⟨df_lst h1 fun ρ ds q => by rw [evs_len q, ← h3]; exact Nat.le_trans hl (by rw [PySem.sizeLine_eq]; decide), fun ρ d hd => lst_lst ρ d hd⟩
    · cases hm'
  · exact ⟨compR_ok (ce_ok 39) O.ok hm', fun ρ d hd => compR_lst hm' ρ d hd⟩
  · cases hm'
theorem dictC_ok (O : OkS Γ Φ X Wx) {e : Expr} {m : Ex} (hm : rex false Γ e = some m) (hf : isDictC Γ e = true) : DF X (WE Wx) e (ev Φ m) := by
  unfold isDictC at hf
  split at hf
  · rename_i x p a pos
    rw [Bool.and_eq_true, decide_eq_true_eq] at hf
    obtain ⟨rfl, hfn⟩ := hf
    have hm0 : (match spN (ce 39) Γ "dict" [a] with | some m => some m | none => callN (ce 39) Γ "dict" [a]) = some m := hm
    rw [spN_dict] at hm0
    have hm' : callN (ce 39) Γ "dict" [a] = some m := hm0
    unfold callN at hm'
    split at hm'
    · cases hm'
    · split at hm'
      · split at hm'
        · split at hm'
          · split at hm'
            · rename_i z; cases z
            · split at hm'
              · rename_i z; cases z
              · cases hm'
          · cases hm'
        · cases hm'
      · split at hm'
        · rename_i z; rw [z] at hfn; cases hfn
        · split at hm'
          · rename_i hfree
            split at hm'
            · rename_i z; cases z
            · split at hm'
              · rename_i b hb
                obtain ⟨ms, hms, e⟩ := Option.map_eq_some_iff.mp hm'
                cases e
                obtain ⟨h1, h2, h3⟩ := esR_ok (ce_ok 39) O.ok _ _ hms
                rw [List.all_cons, Bool.and_eq_true] at h2
                have e1 := find_nm hb
                have hbd : b = .dict := by
                  have : bltOf "dict" = some .dict := by decide +kernel
                  rw [this] at hb
                  cases hb
                  rfl
                subst hbd
                obtain ⟨g1, g2⟩ := isFree_ok O.ok hfree
                exact df_bT (call_dictZ O.ok.calm) good_dict nox_dict g1 g2 PyProof.Rows.boot_dict (by decide) (by decide) h1 (star_cons h2.1) (star_plain h2.2)
              · cases hm'
          · cases hm'
  · cases hf
theorem freshD_ok (O : OkS Γ Φ X Wx) {e : Expr} {m : Ex} (hm : rex false Γ e = some m) (hf : freshD Γ e = true) : DF X (WE Wx) e (ev Φ m) := by
  have hm' : ceV (ce 39) Γ e = some m := hm
  unfold freshD at hf
  split at hf
  · unfold ceV at hm'
    dsimp only at hm'
    cases hm'
    cases hk : Γ.tk with
    | true => exact df_newT
    | false => exact df_newK
  · exact dictC_ok O hm hf
/-- as asg_plain, the value as it is -/
theorem asg_plainN (O : OkS Γ Φ X Wx) {tg e : Expr} {i : Nat} {m : Ex} {pos : Pos} (ht : tgR 20 Γ tg = some (.name i)) (hn : noSwap Γ tg e = true) {te : TE} (he : PE X e te) : PS X (.Assign [tg] e pos) (tAsg te (gName i)) := by
  cases tg with
  | Name y p =>
    have ht' := ht
    unfold tgR at ht
    dsimp only at ht
    split at ht
    · rename_i hk
      obtain ⟨j, hj, e1⟩ := Option.map_eq_some_iff.mp ht
      cases e1
      have hN : X.N[i]? = some y := by rw [O.ok.N]; exact slot_ok hj
      have hk' : X.env.scope.names.lookup y = some .local ∨ (X.env.scope.names.lookup y = some .cell ∧ X.fn y = true) := by
        rw [O.ok.sc]
        exact hk.imp id fun z => ⟨z.1, O.ok.fn y z.2⟩
      have hs : swapsWith e (some (.Name y p)) pos.line X.env = pure false := by
        unfold noSwap at hn
        split at hn
        · rename_i elt gs sc p2 y2 py e3
          cases e3
          rw [Bool.and_eq_true, Bool.not_eq_true'] at hn
          refine sw_false O.ok ?_ hn.2
          have := hn.1
          unfold isFun at this
          exact of_decide_eq_true this
        · exact sw_plain (by simpa using hn)
      rcases hk' with z | z
      · exact ps_set O.ok.nd hN (.inl z) he hs (.inr z)
      · exact ps_set O.ok.nd hN (.inr z.1) he hs (.inl z.2)
    · cases ht
  | Tuple ts k p =>
    unfold tgR at ht
    dsimp only at ht
    obtain ⟨j, hj, e1⟩ := Option.map_eq_some_iff.mp ht
    cases e1
  | _ => unfold tgR at ht; cases ht
theorem cAsg1_ok (O : OkS Γ Φ X Wx) {tg e : Expr} {pos : Pos} {m : Sm} {en : End} (hd : dis W U = true) (hsw : swapN Γ tg = true ∨ ¬ (isTup2 tg = true ∧ isTup2 e = true)) (h : cAsg1 Γ o J W U tg e pos = some (m, en)) : DSE X (WE Wx) J W U (.Assign [tg] e pos) (evS Φ m) en := by
  unfold cAsg1 at h
  split at h
  · rename_i t x ht hx
    have hnt := noSw_ok O (e := e) ht hsw
    have he := rex_ok.val Γ X (WE Wx) O.ok e x hx
    have kf : (fun ρ => rO ρ (kp false (ev Φ x ρ)) fun d => stO (bT t d ρ)) = fun ρ => rO ρ (ev Φ x ρ) fun d => stO (bT t d ρ) := by
      funext ρ
      rw [kp_false]
    split at h
    · -- a new one
      rename_i b i hk
      dsimp only at h
      split at h
      · rename_i hc
        cases h
        obtain ⟨c1, c2⟩ := okA_ok hc.1
        refine dsw (x.rd ++ [i]) hd ?_
        have hti : t = .name i ∧ ((b = false ∧ freshL e = true) ∨ (b = true ∧ freshD Γ e = true)) := by
          unfold asgK at hk
          split at hk
          · rename_i i'
            split at hk
            · rename_i z; cases hk; exact ⟨rfl, .inl ⟨rfl, z.1⟩⟩
            · split at hk
              · rename_i z; cases hk; exact ⟨rfl, .inr ⟨rfl, z.1⟩⟩
              · split at hk <;> cases hk
          · split at hk <;> cases hk
        obtain ⟨rfl, hfr⟩ := hti
        have hF : DF X (WE Wx) e (ev Φ x) ∧ (b = false → ∀ ρ d, ev Φ x ρ = .ok d → ∃ ds, d = .lst ds) := by
          rcases hfr with ⟨rfl, z⟩ | ⟨rfl, z⟩
          · obtain ⟨z1, z2⟩ := freshL_ok O hx z; exact ⟨z1, fun _ => z2⟩
          · exact ⟨freshD_ok O hx z, fun z => by cases z⟩
        have hA : PS X (.Assign [tg] e pos) (tAsg (tDF X.K (WE Wx) (ev Φ x)) (gName i)) := by
          rcases hc.2 with z | z
          · exact asg_plainN O (m := x) ht z hF.1
          · obtain ⟨j, e1, e2, _⟩ := asg_swap O ht hx (pos := pos) z
            cases e1
            exact e2
        simp only [evS]
        rw [kf]
        exact ds_asgF hA (fun j hj => c1 j (List.mem_append_left _ hj)) (c1 i (by simp)) c2 hF.2
      · cases h
    · dsimp only at h
      split at h
      · rename_i hc
        cases h
        obtain ⟨c1, c2⟩ := okA_ok hc.1
        refine dsw t.slots hd ?_
        simp only [evS]
        exact ds_asgK (asg_plain O ht hx hc.2.2.2 hnt he) (dis_ok hc.2.1) (dis_ok hc.2.2.1) c1 c2
      · cases h
    · dsimp only at h
      split at h
      · rename_i hc
        cases h
        obtain ⟨c1, c2⟩ := okA_ok hc.1
        refine dsw (x.rd ++ t.slots) hd ?_
        simp only [evS]
        rw [kf]
        rcases hc.2 with z | z
        · exact ds_asg (asg_plain O ht hx z hnt he) (fun j hj => c1 j (List.mem_append_left _ hj)) (fun j hj => c1 j (List.mem_append_right _ hj)) c2
        · obtain ⟨j, rfl, e2, e3⟩ := asg_swap O ht hx (pos := pos) z
          exact ds_asg (swap_D e2 e3) (fun k hk => c1 k (List.mem_append_left _ hk)) (fun k hk => c1 k (List.mem_append_right _ hk)) c2
      · cases h
  · cases h
theorem pgN_ok (O : OkS Γ Φ X Wx) {tg : Expr} {i : Nat} (ht : tgR 20 Γ tg = some (.name i)) : PG X tg (gName i) := by
  cases tg with
  | Name y p =>
    unfold tgR at ht
    dsimp only at ht
    split at ht
    · rename_i hk
      obtain ⟨j, hj, e1⟩ := Option.map_eq_some_iff.mp ht
      cases e1
      have hN : X.N[i]? = some y := by rw [O.ok.N]; exact slot_ok hj
      have hk' : X.env.scope.names.lookup y = some .local ∨ (X.env.scope.names.lookup y = some .cell ∧ X.fn y = true) := by
        rw [O.ok.sc]
        exact hk.imp id fun z => ⟨z.1, O.ok.fn y z.2⟩
      rcases hk' with z | z
      · exact pg_name O.ok.nd hN (.inl z) (.inr z)
      · exact pg_name O.ok.nd hN (.inr z.1) (.inl z.2)
    · cases ht
  | Tuple ts k p =>
    unfold tgR at ht
    dsimp only at ht
    obtain ⟨j, hj, e1⟩ := Option.map_eq_some_iff.mp ht
    cases e1
  | _ => unfold tgR at ht; cases ht
theorem cTupF_ok (O : OkS Γ Φ X Wx) {tg e : Expr} {pos : Pos} {m : Sm} {en : End} (hd : dis W U = true) (hsw : swapN Γ tg = true) (h : cTupF Γ o J W U tg e = some (m, en)) : DSE X (WE Wx) J W U (.Assign [tg] e pos) (evS Φ m) en := by
  unfold cTupF at h
  split at h
  · rename_i tx ty kt pt a b k2 pt2
    split at h
    · rename_i hc
      obtain ⟨c1, c2, c3, c4, c5⟩ := hc
      split at h
      · rename_i i j m1 m2 hi hj h1 h2
        split at h
        · rename_i hf
          dsimp only at h
          split at h
          · rename_i hz
            cases h
            obtain ⟨d1, d2⟩ := okA_ok hz.1
            have em := isL0_ok hf.1
            subst em
            refine dsw (m1.rd ++ [i, j]) hd ?_
            simp only [evS]
            have e1 : (fun ρ => rO ρ (kp false (ev Φ (.tup (.cons m1 (.cons (.lst .nil) .nil))) ρ)) fun d => stO (bT (.tup (.cons (.name i) (.cons (.name j) .nil))) d ρ)) = fun ρ => rO ρ (ev Φ (.tup (.cons m1 (.cons (.lst .nil) .nil))) ρ) fun d => stO (bT (.tup (.cons (.name i) (.cons (.name j) .nil))) d ρ) := by
              funext ρ
              rw [kp_false]
            rw [e1]
            exact ds_tupF O.ok.calm hz.2 (pgN_ok O hi) (pgN_ok O hj) (assign_cons c1) (assign_cons (es := []) c2) (rex_ok.val Γ X _ O.ok a m1 h1) (freshL_ok O h2 c5).1 (star_cons c3) (star_cons c4) (swst_len O hsw)
              (fun k hk => d1 k (List.mem_append_left _ hk)) (d1 i (by simp)) (d1 j (by simp)) d2
          · cases h
        · cases h
      · cases h
    · cases h
  · cases h
theorem cAsg_ok (O : OkS Γ Φ X Wx) {tg e : Expr} {pos : Pos} {m : Sm} {en : End} (hd : dis W U = true) (h : cAsg Γ o J W U tg e pos = some (m, en)) : DSE X (WE Wx) J W U (.Assign [tg] e pos) (evS Φ m) en := by
  unfold cAsg at h
  split at h
  · split at h
    · rename_i hsn
      split at h
      · rename_i z hz
        cases h
        exact cTupF_ok O hd hsn hz
      · exact cAsg1_ok O hd (.inl hsn) h
    · split at h
      · -- two at once
        rename_i x px y py k p a b k2 p2 qa qb
        split at h
        · rename_i hp
          split at h
          · rename_i i j m1 m2 hi hj h1 h2
            split at h
            · rename_i hf
              dsimp only at h
              split at h
              · rename_i hc
                cases h
                obtain ⟨c1, c2⟩ := okA_ok hc.1
                have hp' := hp
                unfold par2B at hp'
                simp only [Bool.and_eq_true, decide_eq_true_eq, Bool.not_eq_true'] at hp'
                obtain ⟨⟨⟨⟨⟨⟨⟨⟨q1, q2⟩, q3⟩, q4⟩, q5⟩, q6⟩, q7⟩, q8⟩, q9⟩ := hp'
                have hN1 : X.N[i]? = some x := by rw [O.ok.N]; exact slot_ok hi
                have hN2 : X.N[j]? = some y := by rw [O.ok.N]; exact slot_ok hj
                have em := isL0_ok hf.1
                subst em
                refine dsw (m1.rd ++ [i, j]) hd ?_
                simp only [evS]
                have e1 : (fun ρ => rO ρ (kp false (ev Φ (.tup (.cons m1 (.cons (.lst .nil) .nil))) ρ)) fun d => stO (bT (.tup (.cons (.name i) (.cons (.name j) .nil))) d ρ)) = fun ρ => rO ρ (ev Φ (.tup (.cons m1 (.cons (.lst .nil) .nil))) ρ) fun d => stO (bT (.tup (.cons (.name i) (.cons (.name j) .nil))) d ρ) := by
                  funext ρ
                  rw [kp_false]
                rw [e1]
                exact ds_parF O.ok.calm O.ok.nd hN1 hN2 hc.2 (by rw [O.ok.sc]; exact q2) (by rw [O.ok.sc]; exact q3)
                  (rex_ok.val Γ X _ O.ok a m1 h1) (freshL_ok O h2 hf.2.1).1 (star_cons q6) (star_cons q7) (par2_ok O.ok hp)
                  (fun k hk => c1 k (List.mem_append_left _ hk)) (c1 i (by simp)) (c1 j (by simp)) c2
              · cases h
            dsimp only at h
            split at h
            · rename_i hc
              cases h
              obtain ⟨c1, c2⟩ := okA_ok hc.1
              have hp' := hp
              unfold par2B at hp'
              simp only [Bool.and_eq_true, decide_eq_true_eq, Bool.not_eq_true'] at hp'
              obtain ⟨⟨⟨⟨⟨⟨⟨⟨q1, q2⟩, q3⟩, q4⟩, q5⟩, q6⟩, q7⟩, q8⟩, q9⟩ := hp'
              have hN1 : X.N[i]? = some x := by rw [O.ok.N]; exact slot_ok hi
              have hN2 : X.N[j]? = some y := by rw [O.ok.N]; exact slot_ok hj
              refine dsw ((Exs.cons m1 (.cons m2 .nil)).rd ++ [i, j]) hd ?_
              simp only [evS]
              have e1 : (fun ρ => rO ρ (kp false (ev Φ (.tup (.cons m1 (.cons m2 .nil))) ρ)) fun d => stO (bT (.tup (.cons (.name i) (.cons (.name j) .nil))) d ρ)) = fun ρ => rO ρ (ev Φ (.tup (.cons m1 (.cons m2 .nil))) ρ) fun d => stO (bT (.tup (.cons (.name i) (.cons (.name j) .nil))) d ρ) := by
                funext ρ
                rw [kp_false]
              rw [e1]
              exact ds_par O.ok.calm O.ok.nd hN1 hN2 hc.2 (by rw [O.ok.sc]; exact q2) (by rw [O.ok.sc]; exact q3)
                (das_cons (rex_ok.val Γ X _ O.ok a m1 h1) (das_cons (rex_ok.val Γ X _ O.ok b m2 h2) das_nil (star_cons q7)) (star_cons q6)) (par2_ok O.ok hp)
                (fun k hk => c1 k (List.mem_append_left _ hk)) (c1 i (by simp)) (c1 j (by simp)) c2
            · cases h
          · cases h
        · cases h
      · cases h
  · rename_i hnt
    exact cAsg1_ok O hd (.inr hnt) h
theorem nmSlot_ok (O : OkS Γ Φ X Wx) {x : Str} {i : Nat} (h : nmSlot Γ x = some i) : X.N[i]? = some x ∧ Vis X.env.scope x ∧ (x == ("__debug__" : Str)) = false ∧ (x == ("__classdict__" : Str)) = false := by
  unfold nmSlot at h
  split at h
  · cases h
  · rename_i hx
    split at h
    · rename_i hk
      refine ⟨by rw [O.ok.N]; exact slot_ok h, ?_, ?_, ?_⟩
      · unfold Vis
        rw [O.ok.sc]
        exact hk
      · have : x ≠ "__debug__" := fun z => hx (.inl z)
        simpa using this
      · have : x ≠ "__classdict__" := fun z => hx (.inr z)
        simpa using this
    · cases h
theorem cChg_ok (O : OkS Γ Φ X Wx) {x nm : Str} {e : Expr} {p apos cpos pos : Pos} {m : Sm} {en : End} (hd : dis W U = true) (h : cChg Γ o J W U x nm e apos cpos pos = some (m, en)) :
    DSE X (WE Wx) J W U (.Expr (.Call (.Attribute (.Name x p) nm apos) [e] [] cpos) pos) (evS Φ m) en := by
  unfold cChg at h
  split at h
  · rename_i h0
    split at h
    · rename_i i y hi hy
      obtain ⟨s1, s2, s3, s4⟩ := nmSlot_ok O hi
      have he := rex_ok.val Γ X (WE Wx) O.ok e y hy
      split at h
      · rename_i hw
        split at h
        · rename_i hnm
          subst hnm
          split at h
          · rename_i hk
            split at h
            · rename_i hc
              cases h
              simp only [evS]
              exact ds_app s1 s2 s3 s4 he h0.1 h0.2 hw hc.1 (fun z => by cases z) (fun _ => ⟨dis_ok hk.2.2.1, dis_ok hc.2⟩)
            · cases h
          · dsimp only at h
            split at h
            · rename_i hc
              cases h
              obtain ⟨c1, c2⟩ := okA_ok hc.1
              refine dsw y.rd hd ?_
              simp only [evS]
              exact ds_app s1 s2 s3 s4 he h0.1 h0.2 hc.2 c2 (fun _ => c1) (fun z => by cases z)
            · cases h
        · split at h
          · rename_i hnm
            subst hnm
            dsimp only at h
            split at h
            · rename_i hc
              cases h
              obtain ⟨c1, c2⟩ := okA_ok hc.1
              refine dsw y.rd hd ?_
              simp only [evS]
              exact ds_ext s1 s2 s3 s4 he h0.1 h0.2 hc.2 c2 c1
            · cases h
          · cases h
      · split at h
        · rename_i hp
          obtain ⟨hpu, rfl⟩ := hp
          dsimp only at h
          split at h
          · rename_i hc
            cases h
            obtain ⟨c1, c2⟩ := okA_ok hc.1
            refine dsw y.rd hd ?_
            simp only [evS]
            exact ds_pop s1 s2 s3 s4 he h0.1 h0.2 hc.2.1 hc.2.2 c2 c1
          · cases h
        · cases h
    · cases h
  · cases h
theorem cPut_ok (O : OkS Γ Φ X Wx) {x : Str} {ek evx : Expr} {p spos pos : Pos} {m : Sm} {en : End} (hd : dis W U = true) (h : cPut Γ J W U x ek evx = some (m, en)) :
    DSE X (WE Wx) J W U (.Assign [.Subscript (.Name x p) ek spos] evx pos) (evS Φ m) en := by
  unfold cPut at h
  split at h
  · rename_i i mk mv hi hk hv
    obtain ⟨s1, s2, s3, s4⟩ := nmSlot_ok O hi
    split at h
    · rename_i hcmp
      dsimp only at h
      split at h
      · rename_i hc
        cases h
        obtain ⟨c1, c2⟩ := okA_ok hc.1
        refine dsw (mk.rd ++ mv.rd) hd ?_
        simp only [evS]
        exact ds_put (by have := O.ok.units; omega) s1 s2 s3 s4 (rex_ok.val Γ X _ O.ok _ _ hk) (rex_ok.val Γ X _ O.ok _ _ hv) hcmp hc.2.1 hc.2.2 c2 (fun j hj => c1 j (List.mem_append_left _ hj)) (fun j hj => c1 j (List.mem_append_right _ hj))
      · cases h
    · cases h
  · cases h
theorem cFam_ok (O : OkS Γ Φ X Wx) {tg iter : Expr} {body : List Stmt} {x : Str} {ek ee : Expr} {ap1 cp1 ap2 cp2 pos : Pos} {m : Sm} {en : End} (hd : dis W U = true) (hb : famOf body = some (x, ek, ee, ap1, cp1, ap2, cp2)) (h : cFam Γ J W U tg iter x ek ee ap1 cp1 ap2 cp2 = some (m, en)) :
    DSE X (WE Wx) J W U (.For tg iter body [] pos) (evS Φ m) en := by
  unfold famOf at hb
  split at hb
  · split at hb
    · rename_i hc0
      obtain ⟨rfl, rfl⟩ := hc0
      cases hb
      unfold cFam at h
      split at h
      · rename_i k es t i mk me hi ht hs hk he
        dsimp only at h
        split at h
        · rename_i hc
          obtain ⟨c1, c2, c3, c4, c5, c6, c7, c8⟩ := hc
          cases h
          obtain ⟨d1, d2⟩ := okA_ok c1
          obtain ⟨s1, s2, s3, s4⟩ := nmSlot_ok O hs
          obtain ⟨i1, i2⟩ := ciR_ok rex_ok O.ok hi
          refine dsw (es.rd ++ (t.slots ++ (mk.rd ++ me.rd))) hd ?_
          simp only [evS]
          exact ds_fam O.hp O.ok.calm s1 s2 s3 s4 i1 i2 ((tgR_ok (Φ := Φ) (E := WE Wx) 20 Γ X O.ok).1 _ _ ht) (rex_ok.val Γ X _ O.ok _ _ hk) (rex_ok.val Γ X _ O.ok _ _ he) c2 c3 c4 c5 c6 c7
            (fun j hj => d1 j (List.mem_append_left _ hj)) (fun j hj => d1 j (List.mem_append_right _ (List.mem_append_left _ hj))) (fun j hj => d1 j (List.mem_append_right _ (List.mem_append_right _ (List.mem_append_left _ hj)))) (fun j hj => d1 j (List.mem_append_right _ (List.mem_append_right _ (List.mem_append_right _ hj)))) c8
        · cases h
      · cases h
    · cases hb
  · cases hb
theorem cInc_ok (O : OkS Γ Φ X Wx) {x : Str} {ek evx : Expr} {p spos pos : Pos} {m : Sm} {en : End} (hd : dis W U = true) (h : cInc Γ J W U x ek evx = some (m, en)) :
    DSE X (WE Wx) J W U (.Assign [.Subscript (.Name x p) ek spos] evx pos) (evS Φ m) en := by
  unfold cInc at h
  split at h
  · rename_i x2 p2 g apos ek2 c cj kpos cpos ee bpos
    split at h
    · rename_i h0
      obtain ⟨rfl, rfl, h2, h3⟩ := h0
      split at h
      · rename_i i m2 me mk hi hk2 he hk
        obtain ⟨s1, s2, s3, s4⟩ := nmSlot_ok O hi
        dsimp only at h
        split at h
        · rename_i hc
          cases h
          obtain ⟨c1, c2⟩ := okA_ok hc.1
          refine dsw (m2.rd ++ (me.rd ++ mk.rd)) hd ?_
          simp only [evS]
          exact ds_inc (by have := O.ok.units; omega) s1 s2 s3 s4 (rex_ok.val Γ X _ O.ok _ _ hk2) (rex_ok.val Γ X _ O.ok _ _ he) (rex_ok.val Γ X _ O.ok _ _ hk) h2 h3 hc.2.1 hc.2.2 c2 (fun j hj => c1 j (List.mem_append_left _ hj)) (fun j hj => c1 j (List.mem_append_right _ (List.mem_append_left _ hj))) (fun j hj => c1 j (List.mem_append_right _ (List.mem_append_right _ hj)))
        · cases h
      · cases h
    · exact cPut_ok O hd h
  · exact cPut_ok O hd h
end
end DL
/-! The data layer, 22: the look at statements is right; defs. -/
namespace DL
open PySem PySem.Spec L2

section
variable {Φ : List (List D → Res D)} {Γ : Gam} {o : Opt} {X : Cx} {Wx : WX}
theorem join_ok {J : Jt} {W U : List Nat} {a b : List Stmt} {fa fb : Env → Out} {ea eb en : End} (h : joinE ea eb = some en) (ha : DSEs X (WE Wx) J W U a fa ea) (hb : DSEs X (WE Wx) J W U b fb eb) : DSEs X (WE Wx) J W U a fa en ∧ DSEs X (WE Wx) J W U b fb en := by
  cases ea with
  | none =>
    cases eb with
    | none => cases h; exact ⟨ha, hb⟩
    | some w => cases h; exact ⟨ha w.1 w.2, hb⟩
  | some x =>
    cases eb with
    | none => cases h; exact ⟨ha, hb x.1 x.2⟩
    | some y =>
      unfold joinE at h
      dsimp only at h
      split at h
      · rename_i hc
        cases h
        obtain ⟨c1, c2, c3, c4⟩ := hc
        refine ⟨dss_post (cut x y) (dis_ok c3) ha, ?_⟩
        have := dss_post (cut y x) (dis_ok c4) hb
        rw [← c1, ← c2] at this
        exact this
      · cases h
theorem back_ok {J : Jt} {W U W' U' : List Nat} {ss : List Stmt} {f : Env → Out} {V T : List Nat} (h : DSs X (WE Wx) J W U ss f W' U') (h1 : lessA W' (cut (W', U') (V, T)) = V) (h2 : lessA U' (cut (W', U') (V, T)) = T) (hd : dis W' U' = true) : DSs X (WE Wx) J W U ss f V T := by
  have := dss_post (cut (W', U') (V, T)) (dis_ok hd) h
  rw [h1, h2] at this
  exact this
theorem cS_ok (O : OkS Γ Φ X Wx) : ∀ n : Nat,
    (∀ J W U s m en, cS n Γ o J W U s = some (m, en) → DSE X (WE Wx) J W U s (evS Φ m) en) ∧
    (∀ J W U ss m en, cSs n Γ o J W U ss = some (m, en) → DSEs X (WE Wx) J W U ss (evSs Φ m) en) ∧
    (∀ c J W U k es t body Z m en tg iter pos, cFor n c Γ o J W U k es t body Z = some (m, en) → DI X (WE Wx) tg iter (fun ρ => (evs Φ es ρ).bind k.fn) → notSet iter = true → DG X tg t.slots (bT t) → DSE X (WE Wx) J W U (.For tg iter body [] pos) (evS Φ m) en) ∧
    (∀ c J W U e body Z m en ce pos, cWhl n c Γ o J W U e body Z = some (m, en) → DT X (WE Wx) ce (tst (ev Φ e)) → DSE X (WE Wx) J W U (.While ce body [] pos) (evS Φ m) en)
  | 0 => by
    refine ⟨fun J W U s m en h => ?_, fun J W U ss m en h => ?_, fun c J W U k es t body Z m en tg iter pos h => ?_, fun c J W U e body Z m en ce pos h => ?_⟩
    · unfold cS at h; cases h
    · cases ss with
      | nil => unfold cSs at h; cases h; exact dss_nil
      | cons s ss => unfold cSs at h; cases h
    · cases c <;> (unfold cFor at h; cases h)
    · cases c <;> (unfold cWhl at h; cases h)
  | n + 1 => by
    obtain ⟨i1, i2, i3, i4⟩ := cS_ok O n
    refine ⟨fun J W U s m en h => ?_, fun J W U ss m en h => ?_, fun c => ?_, fun c => ?_⟩
    · unfold cS at h
      split at h
      · rename_i hd
        split at h
        · exact cInc_ok O hd h
        · exact cAsg_ok O hd h
        · split at h
          · exact cChg_ok O hd h
          · cases h
        · rename_i e pos hne
          split at h
          · rename_i hcmp
            split at h
            · rename_i y hy
              dsimp only at h
              split at h
              · rename_i hc
                cases h
                obtain ⟨c1, c2⟩ := okA_ok hc
                refine dsw y.rd hd ?_
                simp only [evS]
                exact ds_expr (rex_ok.val Γ X _ O.ok _ _ hy) (sw_plain hcmp) c1 c2
              · cases h
            · cases h
          · cases h
        · rename_i c a b pos
          split at h
          · rename_i y hy
            dsimp only at h
            split at h
            · rename_i hc
              split at h
              · rename_i ma ea mb eb ha hb
                split at h
                · rename_i en' hj
                  cases h
                  obtain ⟨j1, j2⟩ := join_ok hj (i2 _ _ _ _ _ _ ha) (i2 _ _ _ _ _ _ hb)
                  have ht := rex_ok.tst Γ X (WE Wx) O.ok _ _ hy
                  cases en with
                  | none =>
                    intro W' U'
                    refine dsw (y.rd.filter fun i => U.contains i) hd ?_
                    simp only [evS]
                    exact ds_if ht (dis_ok hc.2.1) (dis_ok hc.2.2) hc.1 (j1 W' U') (j2 W' U')
                  | some w =>
                    refine dsw (y.rd.filter fun i => U.contains i) hd ?_
                    simp only [evS]
                    exact ds_if ht (dis_ok hc.2.1) (dis_ok hc.2.2) hc.1 j1 j2
                · cases h
              · cases h
            · cases h
          · cases h
        · rename_i tg iter body pos
          split at h
          · rename_i x ek ee ap1 cp1 ap2 cp2 hb
            exact cFam_ok O hd hb h
          split at h
          · rename_i k es t hi ht
            obtain ⟨d1, d2⟩ := ciR_ok rex_ok O.ok hi
            have := i3 _ _ _ _ _ _ _ _ _ _ _ tg iter pos h d1 d2 ((tgR_ok (Φ := Φ) (E := WE Wx) 20 Γ X O.ok).1 _ _ ht)
            cases en with
            | none => exact fun W' U' => dsw (es.rd ++ t.slots) hd (this W' U')
            | some w => exact dsw (es.rd ++ t.slots) hd this
          · cases h
        · rename_i c body pos
          split at h
          · rename_i y hy
            have := i4 _ _ _ _ _ _ _ _ _ c pos h (rex_ok.tst Γ X (WE Wx) O.ok _ _ hy)
            cases en with
            | none => exact fun W' U' => dsw (y.rd.filter fun i => U.contains i) hd (this W' U')
            | some w => exact dsw (y.rd.filter fun i => U.contains i) hd this
          · cases h
        · rename_i e pos
          split at h
          · rename_i y hy
            dsimp only at h
            split at h
            · rename_i hc
              cases h
              obtain ⟨c1, c2⟩ := okA_ok hc
              intro W' U'
              refine dsw y.rd hd ?_
              simp only [evS]
              exact ds_ret (rex_ok.val Γ X _ O.ok _ _ hy) c1 c2
            · cases h
          · cases h
        · cases h; exact ds_pass
        · dsimp only at h
          split at h
          · rename_i hc
            cases h
            intro W' U'
            refine dsw (cut (W, U) (J.lw, J.lu)) hd ?_
            rw [hc.1, hc.2]
            exact ds_brk
          · cases h
        · dsimp only at h
          split at h
          · rename_i hc
            cases h
            intro W' U'
            refine dsw (cut (W, U) (J.lw, J.lu)) hd ?_
            rw [hc.1, hc.2]
            exact ds_cnt
          · cases h
        · rename_i x p msg j p2 cpos pos
          split at h
          · rename_i hc
            obtain ⟨c1, c2, c3⟩ := hc
            obtain ⟨e1, e2⟩ := O.ok.excs x c1
            have hdb : (x == ("__debug__" : Str)) = false := by simpa using c3
            split at h
            · rename_i hx
              cases h
              intro W' U'
              simp only [evS]
              exact ds_raise O.ok.calm O.tk (glob_ok O.ok c2) e1 e2 hdb (by unfold Jt.ok; rw [hx])
            · rename_i wu hx
              dsimp only at h
              split at h
              · rename_i hz
                cases h
                intro W' U'
                refine dsw (cut (W, U) wu) hd ?_
                simp only [evS]
                exact ds_raise O.ok.calm O.tk (glob_ok O.ok c2) e1 e2 hdb (by unfold Jt.ok; rw [hx]; exact decide_eq_true ⟨hz.1.symm, hz.2.symm⟩)
              · cases h
          · cases h
        · cases h
      · cases h
    · cases ss with
      | nil => unfold cSs at h; cases h; exact dss_nil
      | cons s ss =>
        unfold cSs at h
        split at h
        · rename_i y W' U' hy
          split at h
          · rename_i ms en' hms
            cases h
            have a := i1 _ _ _ _ _ _ hy
            have b := i2 _ _ _ _ _ _ hms
            cases en with
            | none => exact fun W2 U2 => dss_cons a (b W2 U2)
            | some w => exact dss_cons a b
          · cases h
        · rename_i y hy
          split at h
          · cases h
            have a := i1 _ _ _ _ _ _ hy
            exact fun W2 U2 => dss_cons (a W2 U2) dss_nil
          · cases h
        · cases h
    · intro J W U k es t body Z m en tg iter pos h d1 d2 d3
      cases c with
      | zero => unfold cFor at h; cases h
      | succ c =>
        unfold cFor at h
        split at h
        · rename_i hc
          obtain ⟨c1, c2⟩ := okA_ok hc.1
          have f1 : ∀ i ∈ es.rd, i ∉ W ++ U := fun i hi => c1 i (List.mem_append_left _ hi)
          have f2 : ∀ i ∈ t.slots, i ∉ W ++ U := fun i hi => c1 i (List.mem_append_right _ hi)
          split at h
          · rename_i mb hb
            cases h
            simp only [evS]
            exact ds_for O.hp O.ok.calm d1 d2 d3 f1 f2 c2 (i2 _ _ _ _ _ _ hb W U)
          · rename_i mb W' U' hb
            split at h
            · rename_i hz
              cases h
              simp only [evS]
              exact ds_for O.hp O.ok.calm d1 d2 d3 f1 f2 c2 (back_ok (i2 _ _ _ _ _ _ hb) hz.1 hz.2.1 hz.2.2)
            · have := i3 _ _ _ _ _ _ _ _ _ _ _ tg iter pos h d1 d2 d3
              cases en with
              | none => exact fun V T => dsw (cut (W, U) (W', U')) hc.2 (this V T)
              | some w => exact dsw (cut (W, U) (W', U')) hc.2 this
          · cases h
        · cases h
    · intro J W U e body Z m en ce pos h d1
      cases c with
      | zero => unfold cWhl at h; cases h
      | succ c =>
        unfold cWhl at h
        split at h
        · rename_i hc
          split at h
          · rename_i mb hb
            cases h
            simp only [evS]
            exact ds_while o.fuel O.hp d1 (dis_ok hc.1) (dis_ok hc.2.2) hc.2.1 (i2 _ _ _ _ _ _ hb W U)
          · rename_i mb W' U' hb
            split at h
            · rename_i hz
              cases h
              simp only [evS]
              exact ds_while o.fuel O.hp d1 (dis_ok hc.1) (dis_ok hc.2.2) hc.2.1 (back_ok (i2 _ _ _ _ _ _ hb) hz.1 hz.2.1 hz.2.2)
            · have := i4 _ _ _ _ _ _ _ _ _ ce pos h d1
              cases en with
              | none => exact fun V T => dsw (cut (W, U) (W', U')) hc.2.2 (this V T)
              | some w => exact dsw (cut (W, U) (W', U')) hc.2.2 this
          · cases h
        · cases h
end
end DL
/-! The data layer, 23: defs. -/
namespace DL
open PySem PySem.Spec L2

def outD : Out → Res D
  | .nx _ => .ok .non
  | .ret d => .ok d
  | .exc _ c => .exc c
  | _ => .bad
/-- what a def answers: n parameters, N names in all -/
def run (Φ : List (List D → Res D)) (m : Sms) (N : Nat) (ds : List D) : Res D := outD (evSs Φ m (ds.map some ++ List.replicate (N - ds.length) none))
/-- what is told of a def's surroundings: the callees' promises, constants, classes of exceptions -/
structure Env1 (P : Program) (w : World) (K : PySem.W.Frag) (mg : Str → Option Value) (base : Heap) (k : Nat) (Γ : Gam) (Φ : List (List D → Res D)) : Prop where
  blt : ∀ x, x ∈ Γ.free → mg x = none
  fns : ∀ j x n, Γ.fns[j]? = some (x, n) → FnD P w K mg base k x n (Φ.getD j fun _ => .bad)
  cons : ∀ x d, (x, d) ∈ Γ.cons → ∃ u v, mg x = some u ∧ RelV v u ∧ ∀ F, Rep K F d v
  excs : ∀ x, x ∈ Γ.excs → mg x = some (.ref (He.ga K x)) ∧ (He.Fa.exc x).ok K = true
  tups : ∀ x ys, (x, ys) ∈ Γ.tups → mg x = some (.ref (He.ga K x)) ∧ tupN K x ys = true
theorem ctx_ok {P : Program} {w : World} {K : PySem.W.Frag} {mg : Str → Option Value} {base : Heap} {k : Nat} {Γ : Gam} {Φ : List (List D → Res D)} {N ps : List Str} {qual : Str} {scope : Scope} {f : Addr} {cdv : Value} {A : Around} {outer : List PySem.Env} {s : Shared} {H : Hp} {E : XK}
    (S : FnScope N ps scope) (hN : Γ.N = N) (hs : Γ.sc = scope) (e : Env1 P w K mg base k Γ Φ) (hr : Room k (A.deeper (PyProof.Rows.envOfC qual scope s.heap.objs.size f cdv))) : OkS Γ Φ (cxOf (L2.CX P w) P w K mg base N qual scope f cdv A outer s H E) (fun cls d _ H => E cls d H) := by
  have tk : Takes (cxOf (L2.CX P w) P w K mg base N qual scope f cdv A outer s H E) (fun cls d _ H => E cls d H) := takes_of rfl rfl rfl (E₁ := fun e' s'' => L2.CX P w outer H s E e' s'') rfl
  refine ⟨⟨hN.symm, S.nd, hs.symm, rfl, ?_, fun _ _ => rfl, e.blt, fun j x n h => ⟨k, e.fns j x n h, hr⟩, fun σ => passAt tk σ, e.cons, e.excs, e.tups⟩, tk, passes_of (K := fun e' s'' => L2.CX P w outer H s E e' s'') rfl⟩
  have := hr.un
  show (A.deeper (PyProof.Rows.envOfC qual scope s.heap.objs.size f cdv)).units + 65 < cLine
  omega
theorem start_ok {K : PySem.W.Frag} {F H : Hp} {N : List Str} {ds : List D} {vs : List V} (s : Same F H) (r : Reps K F ds vs) : StR K [] [] F H F H (ds.map some ++ List.replicate (N.length - ds.length) none) (L2.start N vs) := by
  have hl := r.length
  refine ⟨Ext.refl s, ?_, fun i d _ _ q => ?_, fun i d h => ?_, fun i d h => ?_, fun i j d e a h => ?_⟩
  · unfold L2.start
    rw [List.length_append, List.length_append, List.length_map, List.length_map, List.length_replicate, List.length_replicate, hl]
    exact Nat.le_refl _
  · by_cases hi : i < ds.length
    · rw [List.getElem?_append_left (by rw [List.length_map]; exact hi), List.getElem?_map] at q
      cases e : ds[i]? with
      | none => rw [e] at q; cases q
      | some d' =>
        rw [e] at q
        simp only [Option.map_some, Option.some.injEq] at q
        subst q
        obtain ⟨v, e1, e2⟩ := r.get e
        refine ⟨v, ?_, e2⟩
        unfold L2.start
        rw [List.getElem?_append_left (by rw [List.length_map, hl]; exact hi), List.getElem?_map, e1]
        rfl
    · rw [List.getElem?_append_right (by rw [List.length_map]; omega), List.getElem?_replicate] at q
      split at q <;> cases q
  · rcases h with h | h <;> cases h
  · cases h
  · rcases h with h | h <;> cases h
theorem spD_len {K : PySem.W.Frag} {n : Nat} {Φ : List D → Res D} {vs : List V} {H : Hp} {Q : VK} {E : XK} (h : spD K n Φ vs H Q E) : vs.length = n := by
  obtain ⟨F, ds, s, r, hl, _⟩ := h
  rw [r.length]
  exact hl
/-- a def that the look takes -/
theorem def_fn {P : Program} {w : World} {K : PySem.W.Frag} {mg : Str → Option Value} {base : Heap} {k n : Nat} {Γ : Gam} {o : Opt} {Φ : List (List D → Res D)} {N ps : List Str} {x qual : Str} {params : Arguments} {body : List Stmt} {scope : Scope} {f : Addr} {fd : FuncData} {m : Sms} {en : End}
    (F : FunD K x qual params body scope [] [] f fd) (S : FnScope N ps scope) (hN : Γ.N = N) (hs : Γ.sc = scope) (e : Env1 P w K mg base k Γ Φ) (h : cSs n Γ o ⟨[], [], none⟩ [] [] body = some (m, en)) :
    FnOk P w K mg base (L2.CX P w) (k + 1) f fd ps (spD K ps.length (run Φ m N.length)) := by
  refine F.ok S (fun vs H Q E h => spD_len h) fun cdv A outer s H vs Q E hr hsp => ?_
  have O : OkS Γ Φ (cxOf (L2.CX P w) P w K mg base N qual scope f cdv A outer s H E) (fun cls d _ H => E cls d H) := ctx_ok S hN hs e hr
  have hS := (cS_ok O n).2.1 _ _ _ _ _ _ h
  obtain ⟨F0, ds, sm, r, hl, q⟩ := hsp
  have st := start_ok (N := N) sm r
  have fin : ∀ W' U', OutW K ⟨[], [], none⟩ W' U' F0 H (WE fun cls d _ H => E cls d H) { nx := fun _ H' => Q .non H', rt := Q } (evSs Φ m (ds.map some ++ List.replicate (N.length - ds.length) none)) := fun W' U' => by
    unfold run at q
    cases e : evSs Φ m (ds.map some ++ List.replicate (N.length - ds.length) none) with
    | nx ρ => rw [e] at q; exact fun σ F' H' s' => q .non F' H' s'.ext mk_non
    | ret d => rw [e] at q; exact fun v F' H' x1 r1 => q v F' H' x1 r1
    | brk ρ => rw [e] at q; exact q.elim
    | cnt ρ => rw [e] at q; exact q.elim
    | exc ρ c => rw [e] at q; exact fun σ H' s' => q H' s'
    | bad => rw [e] at q; exact q.elim
  cases en with
  | none => exact ⟨_, hS [] [], F0, H, F0, _, st, fin [] []⟩
  | some w' => exact ⟨_, hS, F0, H, F0, _, st, fin w'.1 w'.2⟩
theorem def_ok {P : Program} {w : World} {K : PySem.W.Frag} {mg : Str → Option Value} {base : Heap} {k n : Nat} {Γ : Gam} {o : Opt} {Φ : List (List D → Res D)} {N ps : List Str} {x qual : Str} {params : Arguments} {body : List Stmt} {scope : Scope} {f : Addr} {fd : FuncData} {m : Sms} {en : End}
    (F : FunD K x qual params body scope [] [] f fd) (hm : mg x = some (.ref f)) (hb : Binds K fd ps []) (S : FnScope N ps scope) (hN : Γ.N = N) (hs : Γ.sc = scope) (e : Env1 P w K mg base k Γ Φ) (h : cSs n Γ o ⟨[], [], none⟩ [] [] body = some (m, en)) :
    FnD P w K mg base (k + 1) x ps.length (run Φ m N.length) := ⟨f, fd, ps, hm, F.kp, hb, rfl, def_fn F S hN hs e h⟩
/-! ### the surroundings, from the head's facts -/
inductive FnsOk (P : Program) (w : World) (K : PySem.W.Frag) (mg : Str → Option Value) (base : Heap) (k : Nat) : List (Str × Nat) → List (List D → Res D) → Prop where
  | nil : FnsOk P w K mg base k [] []
  | cons {x : Str} {n : Nat} {Φ : List D → Res D} {fns : List (Str × Nat)} {Φs : List (List D → Res D)} : FnD P w K mg base k x n Φ → FnsOk P w K mg base k fns Φs → FnsOk P w K mg base k ((x, n) :: fns) (Φ :: Φs)
theorem FnsOk.get {P : Program} {w : World} {K : PySem.W.Frag} {mg : Str → Option Value} {base : Heap} {k : Nat} : ∀ {fns : List (Str × Nat)} {Φs : List (List D → Res D)}, FnsOk P w K mg base k fns Φs → ∀ j x n, fns[j]? = some (x, n) → FnD P w K mg base k x n (Φs.getD j fun _ => .bad)
  | _, _, .nil, j, x, n, h => by cases h
  | _, _, .cons h1 h2, 0, x, n, h => by cases h; exact h1
  | _, _, .cons h1 h2, j + 1, x, n, h => FnsOk.get h2 j x n h
structure Glob (K : PySem.W.Frag) (mg : Str → Option Value) (frees : List Str) (strsL : List (Str × Str)) (numsL : List (Str × Int)) (excs : List Str) (tups : List (Str × List Str)) : Prop where
  free : ∀ x, x ∈ frees → mg x = none
  str : ∀ x z, (x, z) ∈ strsL → ∃ t, mg x = some (.str z t)
  int : ∀ x i, (x, i) ∈ numsL → ∃ t, mg x = some (.int i t)
  exc : ∀ x, x ∈ excs → mg x = some (.ref (He.ga K x)) ∧ (He.Fa.exc x).ok K = true
  tup : ∀ x ys, (x, ys) ∈ tups → mg x = some (.ref (He.ga K x)) ∧ tupN K x ys = true
def consts (strsL : List (Str × Str)) (numsL : List (Str × Int)) : List (Str × D) := (strsL.map fun p => (p.1, .str p.2.cps.toList)) ++ numsL.map fun p => (p.1, .int p.2)
theorem Glob.env {P : Program} {w : World} {K : PySem.W.Frag} {mg : Str → Option Value} {base : Heap} {k : Nat} {Γ : Gam} {Φ : List (List D → Res D)} {frees : List Str} {strsL : List (Str × Str)} {numsL : List (Str × Int)} {excs : List Str} {tups : List (Str × List Str)} (g : Glob K mg frees strsL numsL excs tups) (hc : strsL.all (fun p => codes p.2) = true)
    (h1 : Γ.free = frees) (h2 : Γ.cons = consts strsL numsL) (h3 : Γ.excs = excs) (h4 : Γ.tups = tups) (hf : FnsOk P w K mg base k Γ.fns Φ) : Env1 P w K mg base k Γ Φ where
  blt := by rw [h1]; exact g.free
  fns := hf.get
  cons := fun x d h => by
    rw [h2] at h
    unfold consts at h
    rw [List.mem_append, List.mem_map, List.mem_map] at h
    rcases h with ⟨p, hp, e⟩ | ⟨p, hp, e⟩
    · cases e
      obtain ⟨t, ht⟩ := g.str p.1 p.2 hp
      refine ⟨_, .str p.2, ht, ⟨t, rfl⟩, fun F => ?_⟩
      have := List.all_eq_true.mp hc p hp
      unfold codes at this
      rw [Bool.and_eq_true, decide_eq_true_eq] at this
      exact mk_str this.1 (Nat.le_trans this.2 (by rw [PySem.sizeLine_eq]; decide))
    · cases e
      obtain ⟨t, ht⟩ := g.int p.1 p.2 hp
      exact ⟨_, .int p.2, ht, ⟨t, rfl⟩, fun F => mk_int⟩
  excs := by rw [h3]; exact g.exc
  tups := by rw [h4]; exact g.tup
/-- the law's own promise -/
theorem law_sp {K : PySem.W.Frag} {H : Hp} {a : Addr} {ns : List Int} {Φ : List D → Res D} (hS : SqL K H a (ns.map V.int)) (h : Φ [.scr ns] = .ok (.bl true)) : spD K 1 Φ [.ref a] H (fun v _ => v = .bl true) fun _ _ _ => False := by
  refine ⟨H, [.scr ns], Same.refl _, Reps.nil.cons ?_, rfl, ?_⟩
  · simp only [Rep]
    exact ⟨a, rfl, hS⟩
  · rw [h]
    exact fun v F' H' _ r => rep_bl r
end DL
/-! Common mathematics: the laws' draw. -/
namespace DL
open PySem PySem.Spec L2
def cellM : Sms := (.cons (.ite (.op DL.Op2.lt (.var 1) (.blt DL.Blt.len (.cons (.var 0) .nil))) (.cons (.ret (.op DL.Op2.ix (.var 0) (.var 1))) .nil) .nil) (.cons (.ite (.op DL.Op2.eq (.var 0) (.lst .nil)) (.cons (.ret (.lit (.int (0)))) .nil) .nil) (.cons (.ret (.op DL.Op2.add (.op DL.Op2.mul (.op DL.Op2.ix (.var 0) (.op DL.Op2.mod (.var 1) (.blt DL.Blt.len (.cons (.var 0) .nil)))) (.lit (.int (31)))) (.var 1))) .nil)))
def pickM : Sms := (.cons (.asg false (.name 3) (.op DL.Op2.mod (.op DL.Op2.mul (.op DL.Op2.add (.call 0 2 (.cons (.var 0) (.cons (.var 1) .nil))) (.op DL.Op2.mul (.lit (.int (6151))) (.op DL.Op2.add (.var 1) (.lit (.int (1)))))) (.lit (.int (40692)))) (.lit (.int (2147483399))))) (.cons (.ret (.op DL.Op2.mod (.op DL.Op2.mod (.op DL.Op2.add (.op DL.Op2.mul (.var 3) (.var 3)) (.op DL.Op2.fdiv (.var 3) (.lit (.int (31))))) (.lit (.int (2147483629)))) (.var 2))) .nil))
theorem atI_nat {ns : List Int} {k : Int} (h0 : 0 ≤ k) (h1 : k < ns.length) : ∃ c, atI ns k = some c := by
  have hk : k.toNat < ns.length := by omega
  refine ⟨ns[k.toNat], ?_⟩
  unfold atI ixN
  simp [h0, h1, List.getElem?_eq_getElem hk]
theorem cell_ok (ns : List Int) (k : Int) (hk : 0 ≤ k) : ∃ c, run [] cellM 2 [.scr ns, .int k] = .ok (.int c) := by
  by_cases h : k < ns.length
  · obtain ⟨c, hc⟩ := atI_nat hk h
    refine ⟨c, ?_⟩
    simp [run, cellM, evSs, evS, seqO, iteO, tst, ev, evs, ap2, argsC, argsN, lenR, ltR, tb, rO, getV, Op2.fn, Blt.fn, h, ixR, hc, outD]
  · cases ns with
    | nil =>
      refine ⟨0, ?_⟩
      have h2 : ¬ k < 0 := by omega
      simp [run, cellM, evSs, evS, seqO, iteO, tst, ev, evs, ap2, argsC, argsN, lenR, ltR, tb, rO, getV, Op2.fn, Blt.fn, h2, outD, eqR, plain, scrEq, cst, lstV]
    | cons n ns =>
      have hp : (0 : Int) < ((n :: ns).length : Nat) := by rw [List.length_cons]; omega
      obtain ⟨c, hc⟩ := atI_nat (ns := n :: ns) (k := k % (n :: ns).length) (Int.emod_nonneg _ (by omega)) (Int.emod_lt_of_pos _ hp)
      refine ⟨c * 31 + k, ?_⟩
      have e1 : modD (.int k) (.int (n :: ns).length) = .ok (.int (k % (n :: ns).length)) := by
        simp only [modD]
        rw [if_pos hp]
      have e2 : ixR (.scr (n :: ns)) (.int (k % (n :: ns).length)) = .ok (.int c) := by
        simp only [ixR, hc]
      have e3 : mulD (.int c) (.int 31) = .ok (.int (c * 31)) := by
        simp only [mulD]
        rw [if_pos (.inr (by decide))]
      have e4 : addD (.int (c * 31)) (.int k) = .ok (.int (c * 31 + k)) := rfl
      have h2 : ¬ k < ((n :: ns).length : Nat) := h
      have f1 : evS [] (.ite (.op DL.Op2.lt (.var 1) (.blt DL.Blt.len (.cons (.var 0) .nil))) (.cons (.ret (.op DL.Op2.ix (.var 0) (.var 1))) .nil) .nil) [some (.scr (n :: ns)), some (.int k)] = .nx [some (.scr (n :: ns)), some (.int k)] := by
        show (if decide (k < ((n :: ns).length : Nat)) = true then _ else _) = _
        rw [if_neg (by simpa using h2)]
        rfl
      have f2 : ev [] (.op DL.Op2.add (.op DL.Op2.mul (.op DL.Op2.ix (.var 0) (.op DL.Op2.mod (.var 1) (.blt DL.Blt.len (.cons (.var 0) .nil)))) (.lit (.int (31)))) (.var 1)) [some (.scr (n :: ns)), some (.int k)] = .ok (.int (c * 31 + k)) := by
        show ((((modD (.int k) (.int (n :: ns).length)).bind fun y => ixR (.scr (n :: ns)) y).bind fun x => mulD x (.int 31)).bind fun x => addD x (.int k)) = _
        rw [e1, Res.bind_ok, e2, Res.bind_ok, e3, Res.bind_ok, e4]
      have g1 : evS [] (.ite (.op DL.Op2.eq (.var 0) (.lst .nil)) (.cons (.ret (.lit (.int (0)))) .nil) .nil) [some (.scr (n :: ns)), some (.int k)] = .nx [some (.scr (n :: ns)), some (.int k)] := rfl
      show outD (evSs [] cellM [some (.scr (n :: ns)), some (.int k)]) = _
      simp only [cellM, evSs, seqO]
      rw [f1]
      dsimp only
      rw [g1]
      dsimp only
      simp only [evS, f2, rO, outD]
theorem pick_ok (ns : List Int) (k m : Int) (hk : 0 ≤ k) (hm : 0 < m) : ∃ r, run [run [] cellM 2] pickM 4 [.scr ns, .int k, .int m] = .ok (.int r) ∧ 0 ≤ r ∧ r < m := by
  obtain ⟨c, hc⟩ := cell_ok ns k hk
  refine ⟨((c + 6151 * (k + 1)) * 40692 % 2147483399 * ((c + 6151 * (k + 1)) * 40692 % 2147483399) + (c + 6151 * (k + 1)) * 40692 % 2147483399 / 31) % 2147483629 % m, ?_, Int.emod_nonneg _ (by omega), Int.emod_lt_of_pos _ hm⟩
  have hb1 : 0 ≤ (c + 6151 * (k + 1)) * 40692 % 2147483399 := Int.emod_nonneg _ (by decide)
  have hb2 : (c + 6151 * (k + 1)) * 40692 % 2147483399 < 2147483399 := Int.emod_lt_of_pos _ (by decide)
  have f1 : ev [run [] cellM 2] (.op DL.Op2.mod (.op DL.Op2.mul (.op DL.Op2.add (.call 0 2 (.cons (.var 0) (.cons (.var 1) .nil))) (.op DL.Op2.mul (.lit (.int (6151))) (.op DL.Op2.add (.var 1) (.lit (.int (1)))))) (.lit (.int (40692)))) (.lit (.int (2147483399)))) [some (.scr ns), some (.int k), some (.int m), none] = .ok (.int ((c + 6151 * (k + 1)) * 40692 % 2147483399)) := by
    simp only [ev, evs, ap2, argsC, argsN, callV, getV, cst, Op2.fn, List.getD, List.getElem?_cons_zero, List.getElem?_cons_succ, Option.getD_some, Res.bind_ok, List.length_cons, List.length_nil, hc, addD, if_true]
    simp [mulD, addD, modD, hc]
  generalize (c + 6151 * (k + 1)) * 40692 % 2147483399 = z at f1 hb1 hb2 ⊢
  have f2 : ev [run [] cellM 2] (.op DL.Op2.mod (.op DL.Op2.mod (.op DL.Op2.add (.op DL.Op2.mul (.var 3) (.var 3)) (.op DL.Op2.fdiv (.var 3) (.lit (.int (31))))) (.lit (.int (2147483629)))) (.var 2)) [some (.scr ns), some (.int k), some (.int m), some (.int z)] = .ok (.int ((z * z + z / 31) % 2147483629 % m)) := by
    have hz : (-18446744073709551616 < z ∧ z < 18446744073709551616) := by omega
    simp [ev, ap2, getV, cst, Op2.fn, mulD, fdivD, addD, modD, hz, hm]
  show outD (evSs [run [] cellM 2] pickM [some (.scr ns), some (.int k), some (.int m), none]) = _
  simp only [pickM, evSs, seqO, evS]
  rw [f1]
  simp only [kp, rO, stO, bT, bName, List.set_cons_succ, List.set_cons_zero]
  simp [f2, outD]

/-! ### what a statement writes -/
mutual
def Sm.wr : Sm → List Nat
  | .asg _ t _ => t.slots
  | .app i _ _ => [i]
  | .ext i _ => [i]
  | .put i _ _ => [i]
  | .inc i _ _ _ _ => [i]
  | .pop i _ => [i]
  | .ite _ a b => a.wr ++ b.wr
  | .for_ _ _ t b => t.slots ++ b.wr
  | .whl _ _ b => b.wr
  | .fam i _ _ t _ _ => i :: t.slots
  | _ => []
def Sms.wr : Sms → List Nat
  | .nil => []
  | .cons s ss => s.wr ++ ss.wr
end
/-- but for the slots W the same -/
def Fr (W : List Nat) (ρ : Env) (o : Out) : Prop := match o with
  | .nx ρ' => ρ'.length = ρ.length ∧ ∀ i, i ∉ W → ρ'[i]? = ρ[i]?
  | .brk ρ' => ρ'.length = ρ.length ∧ ∀ i, i ∉ W → ρ'[i]? = ρ[i]?
  | .cnt ρ' => ρ'.length = ρ.length ∧ ∀ i, i ∉ W → ρ'[i]? = ρ[i]?
  | _ => True
theorem Fr.mono {W W' : List Nat} {ρ : Env} {o : Out} (h : Fr W ρ o) (s : ∀ i ∈ W, i ∈ W') : Fr W' ρ o := by
  cases o <;> first | exact ⟨h.1, fun i hi => h.2 i fun z => hi (s i z)⟩ | trivial
theorem Fr.refl {W : List Nat} {ρ : Env} : Fr W ρ (.nx ρ) := ⟨rfl, fun _ _ => rfl⟩
theorem Fr.set {W : List Nat} {ρ : Env} {i : Nat} {x : Option D} (h : i ∈ W) : Fr W ρ (.nx (ρ.set i x)) := ⟨List.length_set, fun j hj => List.getElem?_set_ne fun (z : i = j) => hj (by rw [← z]; exact h)⟩
theorem Fr.rO {α : Type} {W : List Nat} {ρ : Env} {r : Res α} {k : α → Out} (h : ∀ a, Fr W ρ (k a)) : Fr W ρ (DL.rO ρ r k) := by
  cases r with
  | ok a => exact h a
  | exc c => trivial
  | bad => trivial
theorem Fr.after {W : List Nat} {ρ ρ1 : Env} {o : Out} (h1 : ρ1.length = ρ.length ∧ ∀ i, i ∉ W → ρ1[i]? = ρ[i]?) (h : Fr W ρ1 o) : Fr W ρ o := by
  cases o <;> first | exact ⟨h.1.trans h1.1, fun i hi => (h.2 i hi).trans (h1.2 i hi)⟩ | trivial
theorem fr_for {W : List Nat} {t : Tg} {f : Env → Out} (ht : ∀ i ∈ t.slots, i ∈ W) (hf : ∀ ρ, Fr W ρ (f ρ)) : ∀ (ds : List D) (ρ : Env), Fr W ρ (forO (bT t) f ds ρ)
  | [], ρ => Fr.refl
  | d :: ds, ρ => by
    unfold forO
    cases e1 : bT t d ρ with
    | exc c => trivial
    | bad => trivial
    | ok ρ1 =>
      obtain ⟨l1, q1⟩ := bT_out t d ρ ρ1 e1
      have g1 : ρ1.length = ρ.length ∧ ∀ i, i ∉ W → ρ1[i]? = ρ[i]? := ⟨l1, fun i hi => q1 i fun z => hi (ht i z)⟩
      have g2 := hf ρ1
      dsimp only
      cases e2 : f ρ1 with
      | nx ρ2 => rw [e2] at g2; exact Fr.after g1 (Fr.after g2 (fr_for ht hf ds ρ2))
      | cnt ρ2 => rw [e2] at g2; exact Fr.after g1 (Fr.after g2 (fr_for ht hf ds ρ2))
      | brk ρ2 => rw [e2] at g2; exact Fr.after g1 (o := .nx ρ2) g2
      | ret d => trivial
      | exc ρ2 c => trivial
      | bad => trivial
theorem fr_whl {W : List Nat} {h : Env → Res Bool} {f : Env → Out} (hf : ∀ ρ, Fr W ρ (f ρ)) : ∀ (n : Nat) (ρ : Env), Fr W ρ (whlO h f n ρ)
  | 0, ρ => trivial
  | n + 1, ρ => by
    unfold whlO
    refine Fr.rO fun b => ?_
    cases b with
    | false => exact Fr.refl
    | true =>
      rw [if_pos rfl]
      have g2 := hf ρ
      cases e2 : f ρ with
      | nx ρ2 => rw [e2] at g2; exact Fr.after g2 (fr_whl hf n ρ2)
      | cnt ρ2 => rw [e2] at g2; exact Fr.after g2 (fr_whl hf n ρ2)
      | brk ρ2 => rw [e2] at g2; exact g2
      | ret d => trivial
      | exc ρ2 c => trivial
      | bad => trivial
theorem fr_fam {W : List Nat} {i : Nat} {t : Tg} {fk fe : Env → Res D} (hi : i ∈ W) (ht : ∀ i ∈ t.slots, i ∈ W) : ∀ (ds : List D) (kvs : List (D × D)) (ρ : Env), Fr W ρ (famF i (bT t) fk fe ds kvs ρ)
  | [], kvs, ρ => Fr.set hi
  | d :: ds, kvs, ρ => by
    unfold famF
    cases e1 : bT t d ρ with
    | exc c => trivial
    | bad => trivial
    | ok ρ1 =>
      obtain ⟨l1, q1⟩ := bT_out t d ρ ρ1 e1
      refine Fr.after ⟨l1, fun i hi => q1 i fun z => hi (ht i z)⟩ ?_
      unfold famS
      refine Fr.rO fun k => ?_
      split
      · refine Fr.rO fun e => ?_
        split
        · exact fr_fam hi ht ds _ ρ1
        · trivial
      · trivial
section
variable (Φ : List (List D → Res D))
mutual
theorem evS_fr : ∀ (m : Sm) (ρ : Env), Fr m.wr ρ (evS Φ m ρ)
  | .asg k t e, ρ => by
    simp only [evS, Sm.wr]
    refine Fr.rO fun d => ?_
    cases q : bT t d ρ with
    | ok ρ' => exact bT_out t d ρ ρ' q
    | exc c => trivial
    | bad => trivial
  | .app i k e, ρ => by
    simp only [evS, Sm.wr, appO]
    split
    · exact Fr.rO fun d => by split <;> first | exact Fr.set (List.mem_singleton.mpr rfl) | trivial
    · trivial
  | .ext i e, ρ => by
    simp only [evS, Sm.wr, extO]
    split
    · refine Fr.rO fun d => ?_
      cases d with
      | lst es => dsimp only; split <;> first | exact Fr.set (List.mem_singleton.mpr rfl) | trivial
      | _ => trivial
    · trivial
  | .put i k v, ρ => by
    simp only [evS, Sm.wr, putO]
    split
    · exact Fr.rO fun d => Fr.rO fun e => by split <;> first | exact Fr.set (List.mem_singleton.mpr rfl) | trivial
    · trivial
  | .inc i c k2 e k, ρ => by
    simp only [evS, Sm.wr, incO]
    split
    · refine Fr.rO fun d => ?_
      split
      · exact Fr.rO fun d => Fr.rO fun e => Fr.rO fun f => by split <;> first | exact Fr.set (List.mem_singleton.mpr rfl) | trivial
      · trivial
    · trivial
  | .pop i k, ρ => by
    simp only [evS, Sm.wr, popO]
    split
    · exact Fr.rO fun d => by split <;> first | exact Fr.set (List.mem_singleton.mpr rfl) | trivial
    · trivial
  | .ite c a b, ρ => by
    simp only [evS, Sm.wr, iteO]
    refine Fr.rO fun x => ?_
    cases x with
    | true => rw [if_pos rfl]; exact (evSs_fr a ρ).mono fun i hi => List.mem_append_left _ hi
    | false => rw [if_neg Bool.false_ne_true]; exact (evSs_fr b ρ).mono fun i hi => List.mem_append_right _ hi
  | .for_ k es t b, ρ => by
    simp only [evS, Sm.wr]
    exact Fr.rO fun items => fr_for (fun i hi => List.mem_append_left _ hi) (fun ρ => (evSs_fr b ρ).mono fun i hi => List.mem_append_right _ hi) items ρ
  | .fam i k es t mk me, ρ => by
    simp only [evS, Sm.wr, famO]
    split
    · refine Fr.rO fun items => Fr.after ⟨List.length_set, fun j hj => List.getElem?_set_ne fun (z : i = j) => hj (by rw [← z]; exact List.mem_cons_self)⟩ (fr_fam List.mem_cons_self (fun j hj => List.mem_cons_of_mem _ hj) items [] _)
    · trivial
  | .whl n c b, ρ => by
    simp only [evS, Sm.wr]
    exact fr_whl (fun ρ => evSs_fr b ρ) n ρ
  | .ret e, ρ => by simp only [evS]; exact Fr.rO fun d => trivial
  | .exp e, ρ => by simp only [evS]; exact Fr.rO fun d => Fr.refl
  | .brk, ρ => by simp only [evS]; exact ⟨rfl, fun _ _ => rfl⟩
  | .cnt, ρ => by simp only [evS]; exact ⟨rfl, fun _ _ => rfl⟩
  | .pass, ρ => by simp only [evS]; exact Fr.refl
  | .raise c, ρ => by simp only [evS]; trivial
theorem evSs_fr : ∀ (m : Sms) (ρ : Env), Fr m.wr ρ (evSs Φ m ρ)
  | .nil, ρ => by simp only [evSs]; exact Fr.refl
  | .cons s ss, ρ => by
    simp only [evSs, seqO, Sms.wr]
    have g := (evS_fr s ρ).mono (W' := s.wr ++ ss.wr) fun i hi => List.mem_append_left _ hi
    cases e : evS Φ s ρ with
    | nx ρ1 => rw [e] at g; exact Fr.after g ((evSs_fr ss ρ1).mono fun i hi => List.mem_append_right _ hi)
    | brk ρ1 => rw [e] at g; exact g
    | cnt ρ1 => rw [e] at g; exact g
    | ret d => trivial
    | exc ρ1 c => trivial
    | bad => trivial
end
end
def isNx : Out → Bool
  | .nx _ => true
  | _ => false
theorem isNx_ok {o : Out} (h : isNx o = true) : ∃ ρ, o = .nx ρ := by cases o <;> first | exact ⟨_, rfl⟩ | cases h
/-- a loop keeps what each turn keeps -/
theorem for_inv {t : Tg} {f : Env → Out} (I : Env → Prop) : ∀ (ds : List D), (∀ d ∈ ds, ∀ ρ, I ρ → ∃ ρ1, bT t d ρ = .ok ρ1 ∧ ∃ ρ2, f ρ1 = .nx ρ2 ∧ I ρ2) → ∀ ρ, I ρ → ∃ ρ', forO (bT t) f ds ρ = .nx ρ' ∧ I ρ'
  | [], _, ρ, h => ⟨ρ, rfl, h⟩
  | d :: ds, hs, ρ, h => by
    obtain ⟨ρ1, e1, ρ2, e2, h2⟩ := hs d List.mem_cons_self ρ h
    obtain ⟨ρ', e3, h3⟩ := for_inv I ds (fun x hx => hs x (List.mem_cons_of_mem _ hx)) ρ2 h2
    refine ⟨ρ', ?_, h3⟩
    unfold forO
    rw [e1]
    dsimp only
    rw [e2]
    exact e3
end DL
/-! The bodies of the defs that the laws have in common. -/
namespace DL
open PySem PySem.Spec L2
def M__law_cell : Sms := (.cons (.ite (.op DL.Op2.lt (.var 1) (.blt DL.Blt.len (.cons (.var 0) .nil))) (.cons (.ret (.op DL.Op2.ix (.var 0) (.var 1))) .nil) .nil) (.cons (.ite (.op DL.Op2.eq (.var 0) (.lst .nil)) (.cons (.ret (.lit (.int (0)))) .nil) .nil) (.cons (.ret (.op DL.Op2.add (.op DL.Op2.mul (.op DL.Op2.ix (.var 0) (.op DL.Op2.mod (.var 1) (.blt DL.Blt.len (.cons (.var 0) .nil)))) (.lit (.int (31)))) (.var 1))) .nil)))
def D__law_cell : List D → Res D := run [] M__law_cell 2
def M__law_pick : Sms := (.cons (.asg false (.name 3) (.op DL.Op2.mod (.op DL.Op2.mul (.op DL.Op2.add (.call 0 2 (.cons (.var 0) (.cons (.var 1) .nil))) (.op DL.Op2.mul (.lit (.int (6151))) (.op DL.Op2.add (.var 1) (.lit (.int (1)))))) (.lit (.int (40692)))) (.lit (.int (2147483399))))) (.cons (.ret (.op DL.Op2.mod (.op DL.Op2.mod (.op DL.Op2.add (.op DL.Op2.mul (.var 3) (.var 3)) (.op DL.Op2.fdiv (.var 3) (.lit (.int (31))))) (.lit (.int (2147483629)))) (.var 2))) .nil))
def D__law_pick : List D → Res D := run [D__law_cell] M__law_pick 4
def M__law_table_1 : Sms := (.cons (.put 2 (.var 4) (.op DL.Op2.ix (.lit (.str [65, 66, 69, 71, 76, 78, 79, 83, 84])) (.op DL.Op2.mod (.op DL.Op2.add (.var 3) (.op DL.Op2.mul (.call 0 3 (.cons (.var 0) (.cons (.var 1) (.cons (.lit (.int (2))) .nil)))) (.call 0 3 (.cons (.var 0) (.cons (.op DL.Op2.add (.op DL.Op2.add (.var 1) (.lit (.int (1)))) (.var 3)) (.cons (.lit (.int (9))) .nil)))))) (.lit (.int (9)))))) .nil)
def M__law_table_2 : Sms := (.cons (.asg false (.name 5) (.op DL.Op2.ix (.lst (.cons (.lit (.str [110, 103])) (.cons (.lit (.str [101, 97])) (.cons (.lit (.str [111, 111])) (.cons (.lit (.str [115, 116])) (.cons (.lit (.str [108, 108])) (.cons (.lit (.str [101, 97, 110])) (.cons (.lit (.str [116, 116])) (.cons (.lit (.str [115, 103])) (.cons (.lit (.str [111, 110, 101])) .nil)))))))))) (.call 0 3 (.cons (.var 0) (.cons (.op DL.Op2.add (.op DL.Op2.add (.var 1) (.lit (.int (13)))) (.op DL.Op2.mul (.lit (.int (2))) (.var 3))) (.cons (.lit (.int (9))) .nil)))))) (.cons (.put 2 (.var 5) (.op DL.Op2.ix (.lst (.cons (.lit (.str [73])) (.cons (.lit (.str [85])) (.cons (.lit (.str [78])) (.cons (.lit (.str [83, 84])) (.cons (.lit (.str [])) (.cons (.lit (.str [69, 78])) (.cons (.lit (.str [65, 73])) .nil)))))))) (.call 0 3 (.cons (.var 0) (.cons (.op DL.Op2.add (.op DL.Op2.add (.var 1) (.lit (.int (14)))) (.op DL.Op2.mul (.lit (.int (2))) (.var 3))) (.cons (.lit (.int (7))) .nil)))))) .nil))
def M__law_table : Sms := (.cons (.asg false (.name 2) (.dic false)) (.cons (.for_ DL.ItK.enum (.cons (.lit (.str [97, 98, 101, 103, 108, 110, 111, 115, 116])) .nil) (.tup (.cons (.name 3) (.cons (.name 4) .nil))) M__law_table_1) (.cons (.for_ DL.ItK.rng1 (.cons (.call 0 3 (.cons (.var 0) (.cons (.op DL.Op2.add (.var 1) (.lit (.int (12)))) (.cons (.lit (.int (5))) .nil)))) .nil) (.name 3) M__law_table_2) (.cons (.ite (.op DL.Op2.eq (.call 0 3 (.cons (.var 0) (.cons (.op DL.Op2.add (.var 1) (.lit (.int (25)))) (.cons (.lit (.int (3))) .nil)))) (.lit (.int (0)))) (.cons (.pop 2 (.op DL.Op2.ix (.lit (.str [97, 98, 101, 103, 108, 110, 111, 115, 116])) (.call 0 3 (.cons (.var 0) (.cons (.op DL.Op2.add (.var 1) (.lit (.int (26)))) (.cons (.lit (.int (9))) .nil)))))) .nil) .nil) (.cons (.ret (.blt DL.Blt.tuple (.cons (.comp DL.ItK.val (.cons (.blt DL.Blt.sorted (.cons (.var 2) .nil)) .nil) [6] (.name 6) (.lit (.bl true)) (.tup (.cons (.var 6) (.cons (.op DL.Op2.ix (.var 2) (.var 6)) .nil)))) .nil))) .nil)))))
def D__law_table : List D → Res D := run [D__law_pick] M__law_table 7
def M_is_letters : Sms := (.cons (.ret (.and (.isi DL.Ty6.str (.var 0)) (.and (.chain DL.Op2.le DL.Op2.le (.var 1) (.blt DL.Blt.len (.cons (.var 0) .nil)) (.var 2)) (.blt DL.Blt.all (.cons (.comp DL.ItK.val (.cons (.var 0) .nil) [3] (.name 3) (.lit (.bl true)) (.op DL.Op2.inn (.var 3) (.lit (.str [97, 98, 99, 100, 101, 102, 103, 104, 105, 106, 107, 108, 109, 110, 111, 112, 113, 114, 115, 116, 117, 118, 119, 120, 121, 122])))) .nil))))) .nil)
def D_is_letters : List D → Res D := run [] M_is_letters 4
def M_is_row : Sms := (.cons (.ite (.or (.no (.isi DL.Ty6.tuple (.var 0))) (.or (.op DL.Op2.ne (.blt DL.Blt.len (.cons (.var 0) .nil)) (.lit (.int (2)))) (.no (.call 0 3 (.cons (.op DL.Op2.ix (.var 0) (.lit (.int (0)))) (.cons (.lit (.int (1))) (.cons (.lit (.int (3))) .nil))))))) (.cons (.ret (.lit (.bl false))) .nil) .nil) (.cons (.ret (.and (.isi DL.Ty6.str (.op DL.Op2.ix (.var 0) (.lit (.int (1))))) (.and (.op DL.Op2.le (.blt DL.Blt.len (.cons (.op DL.Op2.ix (.var 0) (.lit (.int (1)))) .nil)) (.lit (.int (2)))) (.blt DL.Blt.all (.cons (.comp DL.ItK.val (.cons (.op DL.Op2.ix (.var 0) (.lit (.int (1)))) .nil) [1] (.name 1) (.lit (.bl true)) (.op DL.Op2.inn (.var 1) (.op DL.Op2.add (.lit (.str [65, 69, 73, 79, 85])) (.lit (.str [66, 68, 70, 71, 75, 76, 77, 78, 80, 82, 83, 84, 86, 90]))))) .nil))))) .nil))
def D_is_row : List D → Res D := run [D_is_letters] M_is_row 2
def M_is_table : Sms := (.cons (.ite (.or (.no (.isi DL.Ty6.tuple (.var 0))) (.or (.no (.chain DL.Op2.le DL.Op2.le (.lit (.int (1))) (.blt DL.Blt.len (.cons (.var 0) .nil)) (.lit (.int (20))))) (.no (.blt DL.Blt.all (.cons (.comp DL.ItK.val (.cons (.var 0) .nil) [2] (.name 2) (.lit (.bl true)) (.call 0 1 (.cons (.var 2) .nil))) .nil))))) (.cons (.ret (.lit (.bl false))) .nil) .nil) (.cons (.asg false (.name 1) (.comp DL.ItK.val (.cons (.var 0) .nil) [2] (.name 2) (.lit (.bl true)) (.op DL.Op2.ix (.var 2) (.lit (.int (0)))))) (.cons (.ret (.op DL.Op2.eq (.var 1) (.sset (.var 1)))) .nil)))
def D_is_table : List D → Res D := run [D_is_row] M_is_table 3
def M_look_table : Sms := (.cons (.ite (.no (.call 0 1 (.cons (.var 0) .nil))) (.cons (.raise ⟨#[78, 111, 84, 97, 98, 108, 101]⟩) .nil) .nil) .nil)
def D_look_table : List D → Res D := run [D_is_table] M_look_table 1
def M_parts_of_1 : Sms := (.cons (.asg false (.name 5) (.comp DL.ItK.val (.cons (.tup (.cons (.lit (.int (3))) (.cons (.lit (.int (2))) (.cons (.lit (.int (1))) .nil)))) .nil) [6] (.name 6) (.and (.op DL.Op2.inn (.slice (.var 1) (.cons (.var 4) .nil) (.cons (.op DL.Op2.add (.var 4) (.var 6)) .nil)) (.var 2)) (.op DL.Op2.le (.op DL.Op2.add (.var 4) (.var 6)) (.blt DL.Blt.len (.cons (.var 1) .nil)))) (.var 6))) (.cons (.ite (.op DL.Op2.eq (.var 5) (.lst .nil)) (.cons (.ret (.lit .non)) .nil) .nil) (.cons (.app 3 false (.slice (.var 1) (.cons (.var 4) .nil) (.cons (.op DL.Op2.add (.var 4) (.op DL.Op2.ix (.var 5) (.lit (.int (0))))) .nil))) (.cons (.asg false (.name 4) (.op DL.Op2.add (.var 4) (.op DL.Op2.ix (.var 5) (.lit (.int (0)))))) .nil))))
def M_parts_of : Sms := (.cons (.asg false (.name 2) (.blt DL.Blt.dict (.cons (.var 0) .nil))) (.cons (.asg false (.name 3) (.lst .nil)) (.cons (.asg false (.name 4) (.lit (.int (0)))) (.cons (.whl 1000 (.op DL.Op2.lt (.var 4) (.blt DL.Blt.len (.cons (.var 1) .nil))) M_parts_of_1) (.cons (.ret (.var 3)) .nil)))))
def D_parts_of : List D → Res D := run [] M_parts_of 7
def M_sounds_of : Sms := (.cons (.asg false (.name 2) (.call 0 2 (.cons (.var 0) (.cons (.var 1) .nil)))) (.cons (.ret (.ife (.op DL.Op2.is (.var 2) (.lit .non)) (.lit .non) (.mth DL.Mth.join (.lit (.str [])) (.cons (.comp DL.ItK.val (.cons (.var 2) .nil) [3] (.name 3) (.lit (.bl true)) (.op DL.Op2.ix (.blt DL.Blt.dict (.cons (.var 0) .nil)) (.var 3))) .nil)))) .nil))
def D_sounds_of : List D → Res D := run [D_parts_of] M_sounds_of 4
def M_vowels_in : Sms := (.cons (.ret (.comp DL.ItK.enum (.cons (.var 0) .nil) [1, 2] (.tup (.cons (.name 1) (.cons (.name 2) .nil))) (.op DL.Op2.inn (.var 2) (.lit (.str [65, 69, 73, 79, 85]))) (.var 1))) .nil)
def D_vowels_in : List D → Res D := run [] M_vowels_in 3
def M_is_word_of : Sms := (.cons (.ite (.or (.no (.isi DL.Ty6.tuple (.var 1))) (.or (.op DL.Op2.ne (.blt DL.Blt.len (.cons (.var 1) .nil)) (.lit (.int (2)))) (.no (.call 1 3 (.cons (.op DL.Op2.ix (.var 1) (.lit (.int (0)))) (.cons (.lit (.int (1))) (.cons (.lit (.int (10))) .nil))))))) (.cons (.ret (.lit (.bl false))) .nil) .nil) (.cons (.ite (.or (.no (.isi DL.Ty6.int (.op DL.Op2.ix (.var 1) (.lit (.int (1)))))) (.or (.isi DL.Ty6.bool (.op DL.Op2.ix (.var 1) (.lit (.int (1))))) (.no (.chain DL.Op2.le DL.Op2.le (.lit (.int (1))) (.op DL.Op2.ix (.var 1) (.lit (.int (1)))) (.lit (.int (3))))))) (.cons (.ret (.lit (.bl false))) .nil) .nil) (.cons (.asg false (.name 2) (.call 0 2 (.cons (.var 0) (.cons (.op DL.Op2.ix (.var 1) (.lit (.int (0)))) .nil)))) (.cons (.ret (.and (.op DL.Op2.isn (.var 2) (.lit .non)) (.op DL.Op2.le (.op DL.Op2.ix (.var 1) (.lit (.int (1)))) (.blt DL.Blt.len (.cons (.call 2 1 (.cons (.var 2) .nil)) .nil))))) .nil))))
def D_is_word_of : List D → Res D := run [D_sounds_of, D_is_letters, D_vowels_in] M_is_word_of 3
def M_is_word : Sms := (.cons (.exp (.call 0 1 (.cons (.var 0) .nil))) (.cons (.ret (.call 1 2 (.cons (.var 0) (.cons (.var 1) .nil)))) .nil))
def D_is_word : List D → Res D := run [D_look_table, D_is_word_of] M_is_word 2
def M_split_up : Sms := (.cons (.exp (.call 0 1 (.cons (.var 0) .nil))) (.cons (.asg false (.name 2) (.ife (.call 1 3 (.cons (.var 1) (.cons (.lit (.int (1))) (.cons (.lit (.int (10))) .nil)))) (.call 2 2 (.cons (.var 0) (.cons (.var 1) .nil))) (.lit .non))) (.cons (.ite (.op DL.Op2.is (.var 2) (.lit .non)) (.cons (.raise ⟨#[78, 111, 87, 111, 114, 100]⟩) .nil) .nil) (.cons (.ret (.var 2)) .nil))))
def D_split_up : List D → Res D := run [D_look_table, D_is_letters, D_parts_of] M_split_up 3
def M_sounded : Sms := (.cons (.ret (.mth DL.Mth.join (.lit (.str [])) (.cons (.comp DL.ItK.val (.cons (.call 0 2 (.cons (.var 0) (.cons (.var 1) .nil))) .nil) [2] (.name 2) (.lit (.bl true)) (.op DL.Op2.ix (.blt DL.Blt.dict (.cons (.var 0) .nil)) (.var 2))) .nil))) .nil)
def D_sounded : List D → Res D := run [D_split_up] M_sounded 3
def M_can_sound : Sms := (.cons (.exp (.call 0 1 (.cons (.var 0) .nil))) (.cons (.ret (.comp DL.ItK.val (.cons (.var 0) .nil) [2, 3] (.tup (.cons (.name 2) (.cons (.name 3) .nil))) (.op DL.Op2.eq (.var 3) (.var 1)) (.var 2))) .nil))
def D_can_sound : List D → Res D := run [D_look_table] M_can_sound 4
def M__law_parts_1 : Sms := (.cons (.asg false (.name 3) (.comp DL.ItK.val (.cons (.var 0) .nil) [5] (.name 5) (.op DL.Op2.eq (.slice (.var 1) .nil (.cons (.blt DL.Blt.len (.cons (.op DL.Op2.ix (.var 5) (.lit (.int (0)))) .nil)) .nil)) (.op DL.Op2.ix (.var 5) (.lit (.int (0))))) (.op DL.Op2.ix (.var 5) (.lit (.int (0)))))) (.cons (.ite (.op DL.Op2.eq (.var 3) (.lst .nil)) (.cons (.ret (.lit .non)) .nil) .nil) (.cons (.asg false (.name 4) (.op DL.Op2.ix (.blt DL.Blt.max (.cons (.comp DL.ItK.val (.cons (.var 3) .nil) [6] (.name 6) (.lit (.bl true)) (.tup (.cons (.blt DL.Blt.len (.cons (.var 6) .nil)) (.cons (.var 6) .nil)))) .nil)) (.lit (.int (1))))) (.cons (.app 2 false (.var 4)) (.cons (.asg false (.name 1) (.slice (.var 1) (.cons (.blt DL.Blt.len (.cons (.var 4) .nil)) .nil) .nil)) .nil)))))
def M__law_parts : Sms := (.cons (.asg false (.name 2) (.lst .nil)) (.cons (.whl 1000 (.op DL.Op2.ne (.var 1) (.lit (.str []))) M__law_parts_1) (.cons (.ret (.var 2)) .nil)))
def D__law_parts : List D → Res D := run [] M__law_parts 7
def M__law_sounds : Sms := (.cons (.asg false (.name 2) (.call 0 2 (.cons (.var 0) (.cons (.var 1) .nil)))) (.cons (.ite (.op DL.Op2.is (.var 2) (.lit .non)) (.cons (.ret (.lit .non)) .nil) .nil) (.cons (.ret (.mth DL.Mth.join (.lit (.str [])) (.cons (.comp DL.ItK.val (.cons (.var 2) .nil) [3] (.name 3) (.lit (.bl true)) (.mth DL.Mth.join (.lit (.str [])) (.cons (.comp DL.ItK.val (.cons (.var 0) .nil) [4] (.name 4) (.op DL.Op2.eq (.op DL.Op2.ix (.var 4) (.lit (.int (0)))) (.var 3)) (.op DL.Op2.ix (.var 4) (.lit (.int (1))))) .nil))) .nil))) .nil)))
def D__law_sounds : List D → Res D := run [D__law_parts] M__law_sounds 5
def M__law_is_letters : Sms := (.cons (.ite (.or (.no (.isi DL.Ty6.str (.var 0))) (.no (.chain DL.Op2.le DL.Op2.le (.lit (.int (1))) (.blt DL.Blt.len (.cons (.var 0) .nil)) (.var 1)))) (.cons (.ret (.lit (.bl false))) .nil) .nil) (.cons (.ret (.op DL.Op2.eq (.comp DL.ItK.val (.cons (.var 0) .nil) [2] (.name 2) (.no (.chain DL.Op2.le DL.Op2.le (.lit (.str [97])) (.var 2) (.lit (.str [122])))) (.var 2)) (.lst .nil))) .nil))
def D__law_is_letters : List D → Res D := run [] M__law_is_letters 3
def M__law_is_word : Sms := (.cons (.ite (.or (.no (.isi DL.Ty6.tuple (.var 1))) (.or (.op DL.Op2.ne (.blt DL.Blt.len (.cons (.var 1) .nil)) (.lit (.int (2)))) (.no (.call 1 2 (.cons (.op DL.Op2.ix (.var 1) (.lit (.int (0)))) (.cons (.lit (.int (10))) .nil)))))) (.cons (.ret (.lit (.bl false))) .nil) .nil) (.cons (.ite (.or (.no (.isi DL.Ty6.int (.op DL.Op2.ix (.var 1) (.lit (.int (1)))))) (.isi DL.Ty6.bool (.op DL.Op2.ix (.var 1) (.lit (.int (1)))))) (.cons (.ret (.lit (.bl false))) .nil) .nil) (.cons (.asg false (.name 2) (.call 0 2 (.cons (.var 0) (.cons (.op DL.Op2.ix (.var 1) (.lit (.int (0)))) .nil)))) (.cons (.ret (.and (.op DL.Op2.isn (.var 2) (.lit .non)) (.chain DL.Op2.le DL.Op2.le (.lit (.int (1))) (.op DL.Op2.ix (.var 1) (.lit (.int (1)))) (.blt DL.Blt.min (.cons (.lit (.int (3))) (.cons (.blt DL.Blt.len (.cons (.comp DL.ItK.val (.cons (.var 2) .nil) [3] (.name 3) (.op DL.Op2.inn (.var 3) (.lit (.str [65, 69, 73, 79, 85]))) (.var 3)) .nil)) .nil)))))) .nil))))
def D__law_is_word : List D → Res D := run [D__law_sounds, D__law_is_letters] M__law_is_word 4
def M__law_is_table_1 : Sms := (.cons (.ite (.or (.no (.isi DL.Ty6.tuple (.var 1))) (.or (.op DL.Op2.ne (.blt DL.Blt.len (.cons (.var 1) .nil)) (.lit (.int (2)))) (.no (.call 0 2 (.cons (.op DL.Op2.ix (.var 1) (.lit (.int (0)))) (.cons (.lit (.int (3))) .nil)))))) (.cons (.ret (.lit (.bl false))) .nil) .nil) (.cons (.ite (.or (.no (.isi DL.Ty6.str (.op DL.Op2.ix (.var 1) (.lit (.int (1)))))) (.op DL.Op2.gt (.blt DL.Blt.len (.cons (.op DL.Op2.ix (.var 1) (.lit (.int (1)))) .nil)) (.lit (.int (2))))) (.cons (.ret (.lit (.bl false))) .nil) .nil) (.cons (.ite (.op DL.Op2.ne (.comp DL.ItK.val (.cons (.op DL.Op2.ix (.var 1) (.lit (.int (1)))) .nil) [3] (.name 3) (.op DL.Op2.nin (.var 3) (.lit (.str [65, 69, 73, 79, 85, 66, 68, 70, 71, 75, 76, 77, 78, 80, 82, 83, 84, 86, 90]))) (.var 3)) (.lst .nil)) (.cons (.ret (.lit (.bl false))) .nil) .nil) .nil)))
def M__law_is_table : Sms := (.cons (.ite (.or (.no (.isi DL.Ty6.tuple (.var 0))) (.no (.chain DL.Op2.le DL.Op2.le (.lit (.int (1))) (.blt DL.Blt.len (.cons (.var 0) .nil)) (.lit (.int (20)))))) (.cons (.ret (.lit (.bl false))) .nil) .nil) (.cons (.for_ DL.ItK.val (.cons (.var 0) .nil) (.name 1) M__law_is_table_1) (.cons (.ret (.op DL.Op2.eq (.comp DL.ItK.rng2 (.cons (.lit (.int (1))) (.cons (.blt DL.Blt.len (.cons (.var 0) .nil)) .nil)) [2] (.name 2) (.op DL.Op2.le (.op DL.Op2.ix (.op DL.Op2.ix (.var 0) (.var 2)) (.lit (.int (0)))) (.op DL.Op2.ix (.op DL.Op2.ix (.var 0) (.op DL.Op2.sub (.var 2) (.lit (.int (1))))) (.lit (.int (0))))) (.var 2)) (.lst .nil))) .nil)))
def D__law_is_table : List D → Res D := run [D__law_is_letters] M__law_is_table 4
def M__law_letters : Sms := (.cons (.asg false (.name 2) (.op DL.Op2.ix (.lst (.cons (.lit (.str [])) (.cons (.lit (.str [115])) (.cons (.lit (.str [115, 116])) (.cons (.lit (.str [98])) (.cons (.lit (.str [103])) (.cons (.lit (.str [108])) (.cons (.lit (.str [116, 116])) (.cons (.lit (.str [110])) (.cons (.lit (.str [110, 103, 97])) .nil)))))))))) (.call 0 3 (.cons (.var 0) (.cons (.var 1) (.cons (.lit (.int (9))) .nil)))))) (.cons (.asg false (.name 3) (.call 0 3 (.cons (.var 0) (.cons (.lit (.int (999))) (.cons (.lit (.int (7))) .nil))))) (.cons (.asg false (.name 2) (.op DL.Op2.add (.var 2) (.op DL.Op2.ix (.lst (.cons (.lit (.str [97])) (.cons (.lit (.str [101])) (.cons (.lit (.str [111])) (.cons (.lit (.str [101, 97])) (.cons (.lit (.str [111, 111])) (.cons (.lit (.str [111, 110, 101])) (.cons (.lit (.str [97, 101])) .nil)))))))) (.op DL.Op2.mod (.op DL.Op2.add (.var 3) (.call 0 3 (.cons (.var 0) (.cons (.op DL.Op2.add (.var 1) (.lit (.int (1)))) (.cons (.lit (.int (2))) .nil))))) (.lit (.int (7))))))) (.cons (.asg false (.name 2) (.op DL.Op2.add (.var 2) (.op DL.Op2.ix (.lst (.cons (.lit (.str [])) (.cons (.lit (.str [110])) (.cons (.lit (.str [110, 103])) (.cons (.lit (.str [115, 116])) (.cons (.lit (.str [108, 108])) (.cons (.lit (.str [116])) (.cons (.lit (.str [108])) .nil)))))))) (.op DL.Op2.mod (.op DL.Op2.add (.var 3) (.call 0 3 (.cons (.var 0) (.cons (.op DL.Op2.add (.var 1) (.lit (.int (2)))) (.cons (.lit (.int (2))) .nil))))) (.lit (.int (7))))))) (.cons (.ret (.op DL.Op2.add (.var 2) (.op DL.Op2.ix (.lst (.cons (.lit (.str [])) (.cons (.lit (.str [])) (.cons (.lit (.str [])) (.cons (.lit (.str [])) (.cons (.lit (.str [97])) (.cons (.lit (.str [101, 110])) (.cons (.lit (.str [111, 115, 116])) .nil)))))))) (.call 0 3 (.cons (.var 0) (.cons (.op DL.Op2.add (.var 1) (.lit (.int (3)))) (.cons (.lit (.int (7))) .nil))))))) .nil)))))
def D__law_letters : List D → Res D := run [D__law_pick] M__law_letters 4
def M__law_book_1 : Sms := (.cons (.asg false (.name 6) (.tup (.cons (.call 2 2 (.cons (.var 0) (.cons (.op DL.Op2.add (.op DL.Op2.add (.var 1) (.lit (.int (10)))) (.op DL.Op2.mul (.lit (.int (6))) (.var 5))) .nil))) (.cons (.op DL.Op2.ix (.lst (.cons (.lit (.int (1))) (.cons (.lit (.int (1))) (.cons (.lit (.int (1))) (.cons (.lit (.int (1))) (.cons (.lit (.int (2))) (.cons (.lit (.int (2))) (.cons (.lit (.int (3))) .nil)))))))) (.call 0 3 (.cons (.var 0) (.cons (.op DL.Op2.add (.op DL.Op2.add (.var 1) (.lit (.int (15)))) (.op DL.Op2.mul (.lit (.int (6))) (.var 5))) (.cons (.lit (.int (7))) .nil))))) .nil)))) (.cons (.ite (.call 1 2 (.cons (.var 2) (.cons (.var 6) .nil))) (.cons (.put 4 (.op DL.Op2.ix (.var 6) (.lit (.int (0)))) (.var 6)) .nil) .nil) .nil))
def M__law_book : Sms := (.cons (.asg false (.name 4) (.dic false)) (.cons (.for_ DL.ItK.rng1 (.cons (.call 0 3 (.cons (.var 0) (.cons (.var 1) (.cons (.op DL.Op2.add (.var 3) (.lit (.int (1)))) .nil)))) .nil) (.name 5) M__law_book_1) (.cons (.ret (.blt DL.Blt.tuple (.cons (.comp DL.ItK.val (.cons (.blt DL.Blt.sorted (.cons (.var 4) .nil)) .nil) [7] (.name 7) (.lit (.bl true)) (.op DL.Op2.ix (.var 4) (.var 7))) .nil))) .nil)))
def D__law_book : List D → Res D := run [D__law_pick, D__law_is_word, D__law_letters] M__law_book 8
def M__law_tail_1 : Sms := (.cons (.asg false (.name 6) (.op DL.Op2.sub (.var 6) (.lit (.int (1))))) (.cons (.asg false (.name 5) (.op DL.Op2.sub (.var 5) (.blt DL.Blt.int (.cons (.op DL.Op2.inn (.op DL.Op2.ix (.var 2) (.var 6)) (.lit (.str [65, 69, 73, 79, 85]))) .nil)))) .nil))
def M__law_tail : Sms := (.cons (.asg false (.name 2) (.call 0 2 (.cons (.var 0) (.cons (.op DL.Op2.ix (.var 1) (.lit (.int (0)))) .nil)))) (.cons (.asg false (.tup (.cons (.name 5) (.cons (.name 6) .nil))) (.tup (.cons (.op DL.Op2.ix (.var 1) (.lit (.int (1)))) (.cons (.blt DL.Blt.len (.cons (.var 2) .nil)) .nil)))) (.cons (.whl 1000 (.op DL.Op2.gt (.var 5) (.lit (.int (0)))) M__law_tail_1) (.cons (.asg false (.name 3) (.slice (.var 2) .nil (.cons (.var 6) .nil))) (.cons (.asg false (.name 4) (.blt DL.Blt.max (.cons (.op DL.Op2.add (.lst (.cons (.lit (.int (0))) .nil)) (.comp DL.ItK.rng1 (.cons (.blt DL.Blt.len (.cons (.var 3) .nil)) .nil) [7] (.name 7) (.op DL.Op2.inn (.op DL.Op2.ix (.var 3) (.var 7)) (.lit (.str [65, 69, 73, 79, 85]))) (.op DL.Op2.add (.var 7) (.lit (.int (1)))))) .nil))) (.cons (.ret (.tup (.cons (.slice (.var 2) (.cons (.var 6) .nil) .nil) (.cons (.slice (.var 3) (.cons (.var 4) .nil) .nil) .nil)))) .nil))))))
def D__law_tail : List D → Res D := run [D__law_sounds] M__law_tail 8
def M_look_word : Sms := (.cons (.ite (.no (.call 0 2 (.cons (.var 0) (.cons (.var 1) .nil)))) (.cons (.raise ⟨#[78, 111, 87, 111, 114, 100]⟩) .nil) .nil) .nil)
def D_look_word : List D → Res D := run [D_is_word] M_look_word 2
def M_stress_at : Sms := (.cons (.asg false (.name 2) (.call 0 1 (.cons (.var 0) .nil))) (.cons (.ret (.op DL.Op2.ix (.var 2) (.op DL.Op2.sub (.blt DL.Blt.len (.cons (.var 2) .nil)) (.var 1)))) .nil))
def D_stress_at : List D → Res D := run [D_vowels_in] M_stress_at 3
def M_tail_of : Sms := (.cons (.asg false (.name 2) (.call 0 2 (.cons (.var 0) (.cons (.op DL.Op2.ix (.var 1) (.lit (.int (0)))) .nil)))) (.cons (.ret (.slice (.var 2) (.cons (.call 1 2 (.cons (.var 2) (.cons (.op DL.Op2.ix (.var 1) (.lit (.int (1)))) .nil))) .nil) .nil)) .nil))
def D_tail_of : List D → Res D := run [D_sounds_of, D_stress_at] M_tail_of 3
def M_tail_sounds : Sms := (.cons (.exp (.call 0 2 (.cons (.var 0) (.cons (.var 1) .nil)))) (.cons (.ret (.call 1 2 (.cons (.var 0) (.cons (.var 1) .nil)))) .nil))
def D_tail_sounds : List D → Res D := run [D_look_word, D_tail_of] M_tail_sounds 2
def M_head_of_1 : Sms := (.cons (.asg false (.name 4) (.op DL.Op2.sub (.var 4) (.lit (.int (1))))) .nil)
def M_head_of : Sms := (.cons (.asg false (.name 2) (.call 0 2 (.cons (.var 0) (.cons (.op DL.Op2.ix (.var 1) (.lit (.int (0)))) .nil)))) (.cons (.asg false (.name 3) (.call 1 2 (.cons (.var 2) (.cons (.op DL.Op2.ix (.var 1) (.lit (.int (1)))) .nil)))) (.cons (.asg false (.name 4) (.var 3)) (.cons (.whl 1000 (.and (.op DL.Op2.gt (.var 4) (.lit (.int (0)))) (.op DL.Op2.nin (.op DL.Op2.sub (.var 4) (.lit (.int (1)))) (.call 2 1 (.cons (.var 2) .nil)))) M_head_of_1) (.cons (.ret (.slice (.var 2) (.cons (.var 4) .nil) (.cons (.var 3) .nil))) .nil)))))
def D_head_of : List D → Res D := run [D_sounds_of, D_stress_at, D_vowels_in] M_head_of 5
def M_head_sounds : Sms := (.cons (.exp (.call 0 2 (.cons (.var 0) (.cons (.var 1) .nil)))) (.cons (.ret (.call 1 2 (.cons (.var 0) (.cons (.var 1) .nil)))) .nil))
def D_head_sounds : List D → Res D := run [D_look_word, D_head_of] M_head_sounds 2
def M_end_of : Sms := (.cons (.asg false (.name 2) (.call 0 2 (.cons (.var 0) (.cons (.op DL.Op2.ix (.var 1) (.lit (.int (0)))) .nil)))) (.cons (.ret (.slice (.var 2) (.cons (.op DL.Op2.add (.op DL.Op2.ix (.call 1 1 (.cons (.var 2) .nil)) (.neg (.lit (.int (1))))) (.lit (.int (1)))) .nil) .nil)) .nil))
def D_end_of : List D → Res D := run [D_sounds_of, D_vowels_in] M_end_of 3
def M_vowels_of : Sms := (.cons (.asg false (.name 2) (.call 0 2 (.cons (.var 0) (.cons (.var 1) .nil)))) (.cons (.ret (.mth DL.Mth.join (.lit (.str [])) (.cons (.comp DL.ItK.val (.cons (.call 1 1 (.cons (.var 2) .nil)) .nil) [3] (.name 3) (.lit (.bl true)) (.op DL.Op2.ix (.var 2) (.var 3))) .nil))) .nil))
def D_vowels_of : List D → Res D := run [D_tail_of, D_vowels_in] M_vowels_of 4
def M_kind_of : Sms := (.cons (.ite (.op DL.Op2.eq (.call 1 2 (.cons (.var 0) (.cons (.var 1) .nil))) (.call 1 2 (.cons (.var 0) (.cons (.var 2) .nil)))) (.cons (.ret (.ife (.op DL.Op2.eq (.call 3 2 (.cons (.var 0) (.cons (.var 1) .nil))) (.call 3 2 (.cons (.var 0) (.cons (.var 2) .nil)))) (.lit (.str [114, 105, 99, 104])) (.lit (.str [102, 117, 108, 108])))) .nil) .nil) (.cons (.ite (.op DL.Op2.eq (.call 2 2 (.cons (.var 0) (.cons (.var 1) .nil))) (.call 2 2 (.cons (.var 0) (.cons (.var 2) .nil)))) (.cons (.ret (.lit (.str [118, 111, 119, 101, 108, 115]))) .nil) .nil) (.cons (.asg false (.name 3) (.call 0 2 (.cons (.var 0) (.cons (.var 1) .nil)))) (.cons (.ret (.ife (.and (.op DL.Op2.ne (.var 3) (.lit (.str []))) (.op DL.Op2.eq (.var 3) (.call 0 2 (.cons (.var 0) (.cons (.var 2) .nil))))) (.lit (.str [101, 110, 100])) (.lit (.str [110, 111, 110, 101])))) .nil))))
def D_kind_of : List D → Res D := run [D_end_of, D_tail_of, D_vowels_of, D_head_of] M_kind_of 4
def M_rhyme_kind : Sms := (.cons (.exp (.call 0 2 (.cons (.var 0) (.cons (.var 1) .nil)))) (.cons (.exp (.call 0 2 (.cons (.var 0) (.cons (.var 2) .nil)))) (.cons (.ret (.call 1 3 (.cons (.var 0) (.cons (.var 1) (.cons (.var 2) .nil))))) .nil)))
def D_rhyme_kind : List D → Res D := run [D_look_word, D_kind_of] M_rhyme_kind 3
def M_do_rhyme : Sms := (.cons (.exp (.call 0 2 (.cons (.var 0) (.cons (.var 1) .nil)))) (.cons (.exp (.call 0 2 (.cons (.var 0) (.cons (.var 2) .nil)))) (.cons (.ret (.and (.op DL.Op2.ne (.op DL.Op2.ix (.var 1) (.lit (.int (0)))) (.op DL.Op2.ix (.var 2) (.lit (.int (0))))) (.op DL.Op2.eq (.call 1 2 (.cons (.var 0) (.cons (.var 1) .nil))) (.call 1 2 (.cons (.var 0) (.cons (.var 2) .nil)))))) .nil)))
def D_do_rhyme : List D → Res D := run [D_look_word, D_tail_of] M_do_rhyme 3
def M_likest_1 : Sms := (.cons (.exp (.call 0 2 (.cons (.var 0) (.cons (.var 3) .nil)))) .nil)
def M_likest : Sms := (.cons (.exp (.call 0 2 (.cons (.var 0) (.cons (.var 1) .nil)))) (.cons (.for_ DL.ItK.val (.cons (.var 2) .nil) (.name 3) M_likest_1) (.cons (.asg false (.name 4) (.comp DL.ItK.val (.cons (.var 2) .nil) [3] (.name 3) (.op DL.Op2.ne (.op DL.Op2.ix (.var 3) (.lit (.int (0)))) (.op DL.Op2.ix (.var 1) (.lit (.int (0))))) (.var 3))) (.cons (.asg false (.name 5) (.comp DL.ItK.val (.cons (.var 4) .nil) [3] (.name 3) (.lit (.bl true)) (.mth DL.Mth.index (.lst (.cons (.lit (.str [114, 105, 99, 104])) (.cons (.lit (.str [102, 117, 108, 108])) (.cons (.lit (.str [118, 111, 119, 101, 108, 115])) (.cons (.lit (.str [101, 110, 100])) (.cons (.lit (.str [110, 111, 110, 101])) .nil)))))) (.cons (.call 1 3 (.cons (.var 0) (.cons (.var 1) (.cons (.var 3) .nil)))) .nil)))) (.cons (.ret (.comp DL.ItK.zip (.cons (.var 4) (.cons (.var 5) .nil)) [3, 6] (.tup (.cons (.name 3) (.cons (.name 6) .nil))) (.chain DL.Op2.eq DL.Op2.lt (.var 6) (.blt DL.Blt.min (.cons (.var 5) .nil)) (.mth DL.Mth.index (.lst (.cons (.lit (.str [114, 105, 99, 104])) (.cons (.lit (.str [102, 117, 108, 108])) (.cons (.lit (.str [118, 111, 119, 101, 108, 115])) (.cons (.lit (.str [101, 110, 100])) (.cons (.lit (.str [110, 111, 110, 101])) .nil)))))) (.cons (.lit (.str [110, 111, 110, 101])) .nil))) (.var 3))) .nil)))))
def D_likest : List D → Res D := run [D_look_word, D_kind_of] M_likest 7
def M_is_book : Sms := (.cons (.exp (.call 0 1 (.cons (.var 0) .nil))) (.cons (.ite (.or (.no (.isi DL.Ty6.tuple (.var 1))) (.or (.op DL.Op2.gt (.blt DL.Blt.len (.cons (.var 1) .nil)) (.lit (.int (16)))) (.no (.blt DL.Blt.all (.cons (.comp DL.ItK.val (.cons (.var 1) .nil) [3] (.name 3) (.lit (.bl true)) (.call 1 2 (.cons (.var 0) (.cons (.var 3) .nil)))) .nil))))) (.cons (.ret (.lit (.bl false))) .nil) .nil) (.cons (.asg false (.name 2) (.comp DL.ItK.val (.cons (.var 1) .nil) [3] (.name 3) (.lit (.bl true)) (.op DL.Op2.ix (.var 3) (.lit (.int (0)))))) (.cons (.ret (.op DL.Op2.eq (.var 2) (.sset (.var 2)))) .nil))))
def D_is_book : List D → Res D := run [D_look_table, D_is_word_of] M_is_book 4
def M_look_book : Sms := (.cons (.ite (.no (.call 0 2 (.cons (.var 0) (.cons (.var 1) .nil)))) (.cons (.raise ⟨#[78, 111, 66, 111, 111, 107]⟩) .nil) .nil) .nil)
def D_look_book : List D → Res D := run [D_is_book] M_look_book 2
def M_with_word : Sms := (.cons (.exp (.call 0 2 (.cons (.var 0) (.cons (.var 1) .nil)))) (.cons (.exp (.call 1 2 (.cons (.var 0) (.cons (.var 2) .nil)))) (.cons (.asg false (.name 3) (.blt DL.Blt.tuple (.cons (.blt DL.Blt.sorted (.cons (.op DL.Op2.add (.comp DL.ItK.val (.cons (.var 1) .nil) [4] (.name 4) (.op DL.Op2.ne (.op DL.Op2.ix (.var 4) (.lit (.int (0)))) (.op DL.Op2.ix (.var 2) (.lit (.int (0))))) (.var 4)) (.lst (.cons (.var 2) .nil))) .nil)) .nil))) (.cons (.exp (.call 0 2 (.cons (.var 0) (.cons (.var 3) .nil)))) (.cons (.ret (.var 3)) .nil)))))
def D_with_word : List D → Res D := run [D_look_book, D_look_word] M_with_word 5
def M_families_of : Sms := (.cons (.asg false (.name 2) (.dic false)) (.cons (.fam 2 DL.ItK.val (.cons (.var 1) .nil) (.name 3) (.call 0 2 (.cons (.var 0) (.cons (.var 3) .nil))) (.var 3)) (.cons (.ret (.var 2)) .nil)))
def D_families_of : List D → Res D := run [D_tail_of] M_families_of 4
def M_families : Sms := (.cons (.exp (.call 0 2 (.cons (.var 0) (.cons (.var 1) .nil)))) (.cons (.asg false (.name 2) (.call 1 2 (.cons (.var 0) (.cons (.var 1) .nil)))) (.cons (.ret (.comp DL.ItK.val (.cons (.blt DL.Blt.sorted (.cons (.var 2) .nil)) .nil) [3] (.name 3) (.lit (.bl true)) (.tup (.cons (.var 3) (.cons (.op DL.Op2.ix (.var 2) (.var 3)) .nil))))) .nil)))
def D_families : List D → Res D := run [D_look_book, D_families_of] M_families 4
def M_lone_words : Sms := (.cons (.exp (.call 0 2 (.cons (.var 0) (.cons (.var 1) .nil)))) (.cons (.asg false (.name 2) (.call 1 2 (.cons (.var 0) (.cons (.var 1) .nil)))) (.cons (.ret (.comp DL.ItK.val (.cons (.var 1) .nil) [3] (.name 3) (.op DL.Op2.eq (.blt DL.Blt.len (.cons (.op DL.Op2.ix (.var 2) (.call 2 2 (.cons (.var 0) (.cons (.var 3) .nil)))) .nil)) (.lit (.int (1)))) (.var 3))) .nil)))
def D_lone_words : List D → Res D := run [D_look_book, D_families_of, D_tail_of] M_lone_words 4
def M_greatest_family : Sms := (.cons (.exp (.call 0 2 (.cons (.var 0) (.cons (.var 1) .nil)))) (.cons (.asg false (.name 2) (.call 1 2 (.cons (.var 0) (.cons (.var 1) .nil)))) (.cons (.asg false (.name 3) (.blt DL.Blt.sorted (.cons (.comp DL.ItK.val (.cons (.var 2) .nil) [4] (.name 4) (.lit (.bl true)) (.tup (.cons (.op DL.Op2.sub (.lit (.int (0))) (.blt DL.Blt.len (.cons (.op DL.Op2.ix (.var 2) (.var 4)) .nil))) (.cons (.var 4) .nil)))) .nil))) (.cons (.ret (.ife (.op DL.Op2.ne (.var 3) (.lst .nil)) (.op DL.Op2.ix (.op DL.Op2.ix (.var 3) (.lit (.int (0)))) (.lit (.int (1)))) (.lit .non))) .nil))))
def D_greatest_family : List D → Res D := run [D_look_book, D_families_of] M_greatest_family 5
def M_how_many_pairs : Sms := (.cons (.exp (.call 0 2 (.cons (.var 0) (.cons (.var 1) .nil)))) (.cons (.asg false (.name 2) (.call 1 2 (.cons (.var 0) (.cons (.var 1) .nil)))) (.cons (.ret (.blt DL.Blt.sum (.cons (.comp DL.ItK.val (.cons (.var 2) .nil) [3] (.name 3) (.lit (.bl true)) (.op DL.Op2.fdiv (.op DL.Op2.mul (.blt DL.Blt.len (.cons (.op DL.Op2.ix (.var 2) (.var 3)) .nil)) (.op DL.Op2.sub (.blt DL.Blt.len (.cons (.op DL.Op2.ix (.var 2) (.var 3)) .nil)) (.lit (.int (1))))) (.lit (.int (2))))) .nil))) .nil)))
def D_how_many_pairs : List D → Res D := run [D_look_book, D_families_of] M_how_many_pairs 4
def M_all_schemes_1 : Sms := (.cons (.ext 3 (.comp DL.ItK.val (.cons (.slice (.lit (.str [65, 66, 67, 68, 69, 70, 71, 72])) .nil (.cons (.op DL.Op2.add (.lset (.var 4)) (.lit (.int (1)))) .nil)) .nil) [5] (.name 5) (.lit (.bl true)) (.op DL.Op2.add (.var 4) (.var 5)))) .nil)
def M_all_schemes_2 : Sms := (.cons (.asg false (.name 3) (.lst .nil)) (.cons (.for_ DL.ItK.val (.cons (.var 1) .nil) (.name 4) M_all_schemes_1) (.cons (.asg false (.name 1) (.var 3)) .nil)))
def M_all_schemes : Sms := (.cons (.ite (.or (.no (.isi DL.Ty6.int (.var 0))) (.or (.isi DL.Ty6.bool (.var 0)) (.no (.chain DL.Op2.le DL.Op2.le (.lit (.int (1))) (.var 0) (.lit (.int (6))))))) (.cons (.raise ⟨#[78, 111, 78, 117, 109, 98, 101, 114]⟩) .nil) .nil) (.cons (.asg false (.name 1) (.lst (.cons (.lit (.str [65])) .nil))) (.cons (.for_ DL.ItK.rng1 (.cons (.op DL.Op2.sub (.var 0) (.lit (.int (1)))) .nil) (.name 2) M_all_schemes_2) (.cons (.ret (.var 1)) .nil))))
def D_all_schemes : List D → Res D := run [] M_all_schemes 6
def M_is_scheme_1 : Sms := (.cons (.ite (.op DL.Op2.nin (.var 2) (.slice (.lit (.str [65, 66, 67, 68, 69, 70, 71, 72])) .nil (.cons (.op DL.Op2.add (.var 1) (.lit (.int (1)))) .nil))) (.cons (.ret (.lit (.bl false))) .nil) .nil) (.cons (.asg false (.name 1) (.blt DL.Blt.max (.cons (.var 1) (.cons (.op DL.Op2.add (.mth DL.Mth.index (.lit (.str [65, 66, 67, 68, 69, 70, 71, 72])) (.cons (.var 2) .nil)) (.lit (.int (1)))) .nil)))) .nil))
def M_is_scheme : Sms := (.cons (.ite (.or (.no (.isi DL.Ty6.str (.var 0))) (.no (.chain DL.Op2.le DL.Op2.le (.lit (.int (1))) (.blt DL.Blt.len (.cons (.var 0) .nil)) (.lit (.int (8)))))) (.cons (.ret (.lit (.bl false))) .nil) .nil) (.cons (.asg false (.name 1) (.lit (.int (0)))) (.cons (.for_ DL.ItK.val (.cons (.var 0) .nil) (.name 2) M_is_scheme_1) (.cons (.ret (.lit (.bl true))) .nil))))
def D_is_scheme : List D → Res D := run [] M_is_scheme 3
def M_look_scheme : Sms := (.cons (.ite (.no (.call 0 1 (.cons (.var 0) .nil))) (.cons (.raise ⟨#[78, 111, 83, 99, 104, 101, 109, 101]⟩) .nil) .nil) .nil)
def D_look_scheme : List D → Res D := run [D_is_scheme] M_look_scheme 1
def M_lone_lines : Sms := (.cons (.exp (.call 0 1 (.cons (.var 0) .nil))) (.cons (.ret (.comp DL.ItK.enum (.cons (.var 0) .nil) [1, 2] (.tup (.cons (.name 1) (.cons (.name 2) .nil))) (.op DL.Op2.eq (.mth DL.Mth.count (.var 0) (.cons (.var 2) .nil)) (.lit (.int (1)))) (.var 1))) .nil))
def D_lone_lines : List D → Res D := run [D_look_scheme] M_lone_lines 3
def M_partners_1 : Sms := (.cons (.asg false (.name 4) (.mth DL.Mth.find (.var 0) (.cons (.var 3) (.cons (.op DL.Op2.add (.var 2) (.lit (.int (1)))) .nil)))) (.cons (.app 1 false (.ife (.op DL.Op2.gt (.var 4) (.lit (.int (0)))) (.var 4) (.lit .non))) .nil))
def M_partners : Sms := (.cons (.exp (.call 0 1 (.cons (.var 0) .nil))) (.cons (.asg false (.name 1) (.lst .nil)) (.cons (.for_ DL.ItK.enum (.cons (.var 0) .nil) (.tup (.cons (.name 2) (.cons (.name 3) .nil))) M_partners_1) (.cons (.ret (.var 1)) .nil))))
def D_partners : List D → Res D := run [D_look_scheme] M_partners 5
def M_scheme_of_1 : Sms := (.cons (.ite (.op DL.Op2.nin (.var 3) (.var 1)) (.cons (.app 1 false (.var 3)) .nil) .nil) (.cons (.asg true (.name 2) (.op DL.Op2.add (.var 2) (.op DL.Op2.ix (.lit (.str [65, 66, 67, 68, 69, 70, 71, 72])) (.mth DL.Mth.index (.var 1) (.cons (.var 3) .nil))))) .nil))
def M_scheme_of : Sms := (.cons (.asg false (.name 1) (.lst .nil)) (.cons (.asg false (.name 2) (.lit (.str []))) (.cons (.for_ DL.ItK.val (.cons (.var 0) .nil) (.name 3) M_scheme_of_1) (.cons (.ret (.var 2)) .nil))))
def D_scheme_of : List D → Res D := run [] M_scheme_of 4
def M_backwards : Sms := (.cons (.exp (.call 0 1 (.cons (.var 0) .nil))) (.cons (.ret (.call 1 1 (.cons (.rev (.var 0)) .nil))) .nil))
def D_backwards : List D → Res D := run [D_look_scheme, D_scheme_of] M_backwards 1
def M_is_coarser_1 : Sms := (.cons (.ite (.op DL.Op2.ne (.op DL.Op2.ix (.var 0) (.var 2)) (.op DL.Op2.ix (.var 0) (.mth DL.Mth.index (.var 1) (.cons (.op DL.Op2.ix (.var 1) (.var 2)) .nil)))) (.cons (.ret (.lit (.bl false))) .nil) .nil) .nil)
def M_is_coarser : Sms := (.cons (.exp (.call 0 1 (.cons (.var 0) .nil))) (.cons (.exp (.call 0 1 (.cons (.var 1) .nil))) (.cons (.ite (.op DL.Op2.ne (.blt DL.Blt.len (.cons (.var 0) .nil)) (.blt DL.Blt.len (.cons (.var 1) .nil))) (.cons (.raise ⟨#[78, 111, 83, 99, 104, 101, 109, 101]⟩) .nil) .nil) (.cons (.for_ DL.ItK.rng1 (.cons (.blt DL.Blt.len (.cons (.var 0) .nil)) .nil) (.name 2) M_is_coarser_1) (.cons (.ret (.lit (.bl true))) .nil)))))
def D_is_coarser : List D → Res D := run [D_look_scheme] M_is_coarser 3
def M_how_many_schemes_1 : Sms := (.cons (.asg false (.name 2) (.op DL.Op2.add (.lst (.cons (.lit (.int (0))) .nil)) (.comp DL.ItK.rng2 (.cons (.lit (.int (1))) (.cons (.op DL.Op2.add (.var 1) (.lit (.int (1)))) .nil)) [4] (.name 4) (.lit (.bl true)) (.op DL.Op2.add (.op DL.Op2.ix (.var 2) (.op DL.Op2.sub (.var 4) (.lit (.int (1))))) (.op DL.Op2.mul (.var 4) (.op DL.Op2.ix (.var 2) (.var 4))))))) .nil)
def M_how_many_schemes : Sms := (.cons (.ite (.or (.no (.isi DL.Ty6.int (.var 0))) (.or (.isi DL.Ty6.bool (.var 0)) (.no (.chain DL.Op2.le DL.Op2.le (.lit (.int (1))) (.var 0) (.lit (.int (30))))))) (.cons (.raise ⟨#[78, 111, 78, 117, 109, 98, 101, 114]⟩) .nil) .nil) (.cons (.ite (.or (.no (.isi DL.Ty6.int (.var 1))) (.or (.isi DL.Ty6.bool (.var 1)) (.no (.chain DL.Op2.le DL.Op2.le (.lit (.int (0))) (.var 1) (.lit (.int (30))))))) (.cons (.raise ⟨#[78, 111, 78, 117, 109, 98, 101, 114]⟩) .nil) .nil) (.cons (.asg false (.name 2) (.op DL.Op2.add (.lst (.cons (.lit (.int (1))) .nil)) (.op DL.Op2.mul (.lst (.cons (.lit (.int (0))) .nil)) (.var 1)))) (.cons (.for_ DL.ItK.rng1 (.cons (.var 0) .nil) (.name 3) M_how_many_schemes_1) (.cons (.ret (.op DL.Op2.ix (.var 2) (.var 1))) .nil)))))
def D_how_many_schemes : List D → Res D := run [] M_how_many_schemes 5
def M_scheme_by_1 : Sms := (.cons (.exp (.call 2 2 (.cons (.var 0) (.cons (.var 2) .nil)))) .nil)
def M_scheme_by : Sms := (.cons (.exp (.call 0 1 (.cons (.var 0) .nil))) (.cons (.ite (.or (.no (.or (.isi DL.Ty6.list (.var 1)) (.isi DL.Ty6.tuple (.var 1)))) (.no (.chain DL.Op2.le DL.Op2.le (.lit (.int (1))) (.blt DL.Blt.len (.cons (.var 1) .nil)) (.lit (.int (8)))))) (.cons (.raise ⟨#[78, 111, 78, 117, 109, 98, 101, 114]⟩) .nil) .nil) (.cons (.for_ DL.ItK.val (.cons (.var 1) .nil) (.name 2) M_scheme_by_1) (.cons (.ret (.call 1 1 (.cons (.comp DL.ItK.val (.cons (.var 1) .nil) [2] (.name 2) (.lit (.bl true)) (.call 3 2 (.cons (.var 0) (.cons (.var 2) .nil)))) .nil))) .nil))))
def D_scheme_by : List D → Res D := run [D_look_table, D_scheme_of, D_look_word, D_tail_of] M_scheme_by 3
def M_ways_to_end : Sms := (.cons (.exp (.call 0 2 (.cons (.var 0) (.cons (.var 1) .nil)))) (.cons (.exp (.call 1 2 (.cons (.var 0) (.cons (.var 3) .nil)))) (.cons (.asg false (.name 4) (.comp DL.ItK.val (.cons (.var 1) .nil) [5] (.name 5) (.and (.op DL.Op2.nin (.var 5) (.var 2)) (.op DL.Op2.ne (.op DL.Op2.ix (.var 5) (.lit (.int (0)))) (.op DL.Op2.ix (.var 3) (.lit (.int (0)))))) (.var 5))) (.cons (.ret (.comp DL.ItK.val (.cons (.var 4) .nil) [5] (.name 5) (.op DL.Op2.eq (.call 2 2 (.cons (.var 0) (.cons (.var 5) .nil))) (.call 2 2 (.cons (.var 0) (.cons (.var 3) .nil)))) (.var 5))) .nil))))
def D_ways_to_end : List D → Res D := run [D_look_book, D_look_word, D_tail_of] M_ways_to_end 6
def M_wants_of : Sms := (.cons (.ret (.comp DL.ItK.val (.cons (.sset (.var 0)) .nil) [1] (.name 1) (.lit (.bl true)) (.mth DL.Mth.count (.var 0) (.cons (.var 1) .nil)))) .nil)
def D_wants_of : List D → Res D := run [] M_wants_of 2
def M_falling_1 : Sms := (.cons (.asg false (.name 2) (.op DL.Op2.mul (.var 2) (.op DL.Op2.sub (.var 0) (.var 3)))) .nil)
def M_falling : Sms := (.cons (.asg false (.name 2) (.lit (.int (1)))) (.cons (.for_ DL.ItK.rng1 (.cons (.var 1) .nil) (.name 3) M_falling_1) (.cons (.ret (.var 2)) .nil)))
def D_falling : List D → Res D := run [] M_falling 4
def M_may_stand_1 : Sms := (.cons (.ite (.op DL.Op2.ne (.op DL.Op2.eq (.op DL.Op2.ix (.var 1) (.var 4)) (.op DL.Op2.ix (.var 1) (.blt DL.Blt.len (.cons (.var 2) .nil)))) (.op DL.Op2.eq (.call 0 2 (.cons (.var 0) (.cons (.var 5) .nil))) (.call 0 2 (.cons (.var 0) (.cons (.var 3) .nil))))) (.cons (.ret (.lit (.bl false))) .nil) .nil) .nil)
def M_may_stand : Sms := (.cons (.ite (.op DL.Op2.inn (.var 3) (.var 2)) (.cons (.ret (.lit (.bl false))) .nil) .nil) (.cons (.for_ DL.ItK.enum (.cons (.var 2) .nil) (.tup (.cons (.name 4) (.cons (.name 5) .nil))) M_may_stand_1) (.cons (.ret (.lit (.bl true))) .nil)))
def D_may_stand : List D → Res D := run [D_tail_of] M_may_stand 6
def M_why_not_1 : Sms := (.cons (.ite (.op DL.Op2.gt (.blt DL.Blt.len (.cons (.comp DL.ItK.val (.cons (.call 3 1 (.cons (.var 2) .nil)) .nil) [6] (.name 6) (.op DL.Op2.ge (.var 6) (.var 4)) (.var 6)) .nil)) (.blt DL.Blt.len (.cons (.comp DL.ItK.val (.cons (.var 3) .nil) [7] (.name 7) (.op DL.Op2.ge (.var 7) (.var 4)) (.var 7)) .nil))) (.cons (.ret (.var 4)) .nil) .nil) .nil)
def M_why_not : Sms := (.cons (.exp (.call 0 2 (.cons (.var 0) (.cons (.var 1) .nil)))) (.cons (.exp (.call 1 1 (.cons (.var 2) .nil))) (.cons (.asg false (.name 3) (.comp DL.ItK.vals (.cons (.call 2 2 (.cons (.var 0) (.cons (.var 1) .nil))) .nil) [5] (.name 5) (.lit (.bl true)) (.blt DL.Blt.len (.cons (.var 5) .nil)))) (.cons (.for_ DL.ItK.rng2 (.cons (.lit (.int (1))) (.cons (.op DL.Op2.add (.blt DL.Blt.len (.cons (.var 2) .nil)) (.lit (.int (1)))) .nil)) (.name 4) M_why_not_1) (.cons (.ret (.lit .non)) .nil)))))
def D_why_not : List D → Res D := run [D_look_book, D_look_scheme, D_families_of, D_wants_of] M_why_not 8
def M_is_way : Sms := (.cons (.exp (.call 0 2 (.cons (.var 0) (.cons (.var 1) .nil)))) (.cons (.exp (.call 1 1 (.cons (.var 2) .nil))) (.cons (.ite (.or (.no (.isi DL.Ty6.list (.var 3))) (.op DL.Op2.ne (.blt DL.Blt.len (.cons (.var 3) .nil)) (.blt DL.Blt.len (.cons (.var 2) .nil)))) (.cons (.ret (.lit (.bl false))) .nil) .nil) (.cons (.ite (.no (.blt DL.Blt.all (.cons (.comp DL.ItK.val (.cons (.var 3) .nil) [4] (.name 4) (.lit (.bl true)) (.and (.call 3 2 (.cons (.var 0) (.cons (.var 4) .nil))) (.op DL.Op2.inn (.var 4) (.var 1)))) .nil))) (.cons (.ret (.lit (.bl false))) .nil) .nil) (.cons (.ret (.blt DL.Blt.all (.cons (.comp DL.ItK.enum (.cons (.var 3) .nil) [5, 4] (.tup (.cons (.name 5) (.cons (.name 4) .nil))) (.lit (.bl true)) (.call 2 4 (.cons (.var 0) (.cons (.var 2) (.cons (.blt DL.Blt.tuple (.cons (.slice (.var 3) .nil (.cons (.var 5) .nil)) .nil)) (.cons (.var 4) .nil)))))) .nil))) .nil)))))
def D_is_way : List D → Res D := run [D_look_book, D_look_scheme, D_may_stand, D_is_word_of] M_is_way 6
def M__law_spoilt : Sms := (.cons (.asg false (.name 3) (.op DL.Op2.mod (.var 1) (.op DL.Op2.add (.blt DL.Blt.len (.cons (.var 0) .nil)) (.lit (.int (1)))))) (.cons (.asg false (.name 4) (.op DL.Op2.ix (.var 2) (.op DL.Op2.mod (.op DL.Op2.fdiv (.var 1) (.lit (.int (1000)))) (.blt DL.Blt.len (.cons (.var 2) .nil))))) (.cons (.asg false (.name 5) (.op DL.Op2.add (.op DL.Op2.add (.var 3) (.lit (.int (1)))) (.op DL.Op2.mod (.op DL.Op2.fdiv (.var 1) (.lit (.int (7)))) (.lit (.int (9)))))) (.cons (.asg false (.name 6) (.op DL.Op2.mod (.op DL.Op2.fdiv (.var 1) (.lit (.int (100000)))) (.lit (.int (8))))) (.cons (.ite (.op DL.Op2.lt (.var 6) (.lit (.int (2)))) (.cons (.ret (.op DL.Op2.add (.op DL.Op2.add (.slice (.var 0) .nil (.cons (.var 3) .nil)) (.var 4)) (.slice (.var 0) (.cons (.var 3) .nil) .nil))) .nil) .nil) (.cons (.ite (.op DL.Op2.eq (.var 6) (.lit (.int (2)))) (.cons (.ret (.op DL.Op2.add (.slice (.var 0) .nil (.cons (.var 3) .nil)) (.slice (.var 0) (.cons (.op DL.Op2.add (.var 3) (.lit (.int (1)))) .nil) .nil))) .nil) .nil) (.cons (.ite (.op DL.Op2.lt (.var 6) (.lit (.int (5)))) (.cons (.ret (.op DL.Op2.add (.op DL.Op2.add (.slice (.var 0) .nil (.cons (.var 3) .nil)) (.var 4)) (.slice (.var 0) (.cons (.op DL.Op2.add (.var 3) (.lit (.int (1)))) .nil) .nil))) .nil) .nil) (.cons (.ite (.op DL.Op2.eq (.var 6) (.lit (.int (5)))) (.cons (.ret (.op DL.Op2.add (.slice (.var 0) .nil (.cons (.var 3) .nil)) (.slice (.var 0) (.cons (.var 5) .nil) .nil))) .nil) .nil) (.cons (.ite (.op DL.Op2.eq (.var 6) (.lit (.int (6)))) (.cons (.ret (.op DL.Op2.add (.slice (.var 0) .nil (.cons (.var 5) .nil)) (.slice (.var 0) (.cons (.var 3) .nil) .nil))) .nil) .nil) (.cons (.ret (.op DL.Op2.ix (.lst (.cons (.op DL.Op2.add (.var 0) (.lit (.str [32]))) (.cons (.op DL.Op2.add (.lit (.str [32])) (.var 0)) (.cons (.op DL.Op2.add (.slice (.var 0) (.cons (.var 3) .nil) .nil) (.slice (.var 0) .nil (.cons (.var 3) .nil))) (.cons (.lit (.str [])) (.cons (.op DL.Op2.add (.var 0) (.var 0)) .nil)))))) (.op DL.Op2.mod (.var 1) (.lit (.int (5)))))) .nil))))))))))
def D__law_spoilt : List D → Res D := run [] M__law_spoilt 7
def M_table_text : Sms := (.cons (.exp (.call 0 1 (.cons (.var 0) .nil))) (.cons (.ret (.mth DL.Mth.join (.lit (.str [])) (.cons (.comp DL.ItK.val (.cons (.var 0) .nil) [1, 2] (.tup (.cons (.name 1) (.cons (.name 2) .nil))) (.lit (.bl true)) (.ife (.op DL.Op2.ne (.var 2) (.lit (.str []))) (.op DL.Op2.add (.op DL.Op2.add (.op DL.Op2.add (.var 1) (.lit (.str [58, 32]))) (.var 2)) (.lit (.str [10]))) (.op DL.Op2.add (.var 1) (.lit (.str [58, 10]))))) .nil))) .nil))
def D_table_text : List D → Res D := run [D_look_table] M_table_text 3
def M__law_signs : Sms := (.cons (.asg false (.name 2) (.blt DL.Blt.len (.cons (.comp DL.ItK.val (.cons (.call 0 2 (.cons (.var 0) (.cons (.op DL.Op2.ix (.var 1) (.lit (.int (0)))) .nil))) .nil) [3] (.name 3) (.op DL.Op2.inn (.var 3) (.lit (.str [65, 69, 73, 79, 85]))) (.var 3)) .nil))) (.cons (.ret (.op DL.Op2.add (.op DL.Op2.add (.op DL.Op2.mul (.lit (.str [45])) (.op DL.Op2.sub (.var 2) (.op DL.Op2.ix (.var 1) (.lit (.int (1)))))) (.lit (.str [47]))) (.op DL.Op2.mul (.lit (.str [45])) (.op DL.Op2.sub (.op DL.Op2.ix (.var 1) (.lit (.int (1)))) (.lit (.int (1))))))) .nil))
def D__law_signs : List D → Res D := run [D__law_sounds] M__law_signs 4
def M__law_metre_1 : Sms := (.cons (.ite (.op DL.Op2.ne (.var 3) (.tup .nil)) (.cons (.asg false (.name 5) (.op DL.Op2.add (.op DL.Op2.mul (.var 5) (.blt DL.Blt.int (.cons (.op DL.Op2.gt (.var 6) (.lit (.int (0)))) .nil))) (.call 1 2 (.cons (.var 2) (.cons (.op DL.Op2.ix (.var 3) (.call 0 3 (.cons (.var 0) (.cons (.op DL.Op2.add (.op DL.Op2.add (.var 1) (.lit (.int (2)))) (.var 6)) (.cons (.blt DL.Blt.len (.cons (.var 3) .nil)) .nil))))) .nil))))) .nil) .nil) .nil)
def M__law_metre : Sms := (.cons (.asg false (.name 5) (.op DL.Op2.ix (.lit (.str [47, 63, 45])) (.call 0 3 (.cons (.var 0) (.cons (.var 1) (.cons (.lit (.int (3))) .nil)))))) (.cons (.for_ DL.ItK.rng1 (.cons (.call 0 3 (.cons (.var 0) (.cons (.op DL.Op2.add (.var 1) (.lit (.int (1)))) (.cons (.lit (.int (3))) .nil)))) .nil) (.name 6) M__law_metre_1) (.cons (.asg false (.name 7) (.call 0 3 (.cons (.var 0) (.cons (.op DL.Op2.add (.var 1) (.lit (.int (6)))) (.cons (.op DL.Op2.add (.blt DL.Blt.len (.cons (.var 5) .nil)) (.lit (.int (3)))) .nil))))) (.cons (.ret (.slice (.op DL.Op2.add (.op DL.Op2.add (.slice (.var 5) .nil (.cons (.var 7) .nil)) (.op DL.Op2.ix (.lit (.str [63, 47, 45, 63])) (.call 0 3 (.cons (.var 0) (.cons (.op DL.Op2.add (.var 1) (.lit (.int (7)))) (.cons (.lit (.int (4))) .nil)))))) (.slice (.var 5) (.cons (.op DL.Op2.add (.var 7) (.lit (.int (1)))) .nil) .nil)) .nil (.cons (.var 4) .nil))) .nil))))
def D__law_metre : List D → Res D := run [D__law_pick, D__law_signs] M__law_metre 8
def M_is_line_of : Sms := (.cons (.ite (.or (.no (.isi DL.Ty6.tuple (.var 1))) (.no (.chain DL.Op2.le DL.Op2.le (.lit (.int (1))) (.blt DL.Blt.len (.cons (.var 1) .nil)) (.lit (.int (6)))))) (.cons (.ret (.lit (.bl false))) .nil) .nil) (.cons (.ret (.blt DL.Blt.all (.cons (.comp DL.ItK.val (.cons (.var 1) .nil) [2] (.name 2) (.lit (.bl true)) (.call 0 2 (.cons (.var 0) (.cons (.var 2) .nil)))) .nil))) .nil))
def D_is_line_of : List D → Res D := run [D_is_word_of] M_is_line_of 3
def M_is_line : Sms := (.cons (.exp (.call 0 1 (.cons (.var 0) .nil))) (.cons (.ret (.call 1 2 (.cons (.var 0) (.cons (.var 1) .nil)))) .nil))
def D_is_line : List D → Res D := run [D_look_table, D_is_line_of] M_is_line 2
def M_look_line : Sms := (.cons (.ite (.no (.call 0 2 (.cons (.var 0) (.cons (.var 1) .nil)))) (.cons (.raise ⟨#[78, 111, 76, 105, 110, 101]⟩) .nil) .nil) .nil)
def D_look_line : List D → Res D := run [D_is_line] M_look_line 2
def M_word_beats : Sms := (.cons (.asg false (.name 2) (.blt DL.Blt.len (.cons (.call 0 1 (.cons (.call 1 2 (.cons (.var 0) (.cons (.op DL.Op2.ix (.var 1) (.lit (.int (0)))) .nil))) .nil)) .nil))) (.cons (.ret (.op DL.Op2.add (.op DL.Op2.add (.op DL.Op2.mul (.lit (.str [45])) (.op DL.Op2.sub (.var 2) (.op DL.Op2.ix (.var 1) (.lit (.int (1)))))) (.lit (.str [47]))) (.op DL.Op2.mul (.lit (.str [45])) (.op DL.Op2.sub (.op DL.Op2.ix (.var 1) (.lit (.int (1)))) (.lit (.int (1))))))) .nil))
def D_word_beats : List D → Res D := run [D_vowels_in, D_sounds_of] M_word_beats 3
def M_beats : Sms := (.cons (.exp (.call 0 2 (.cons (.var 0) (.cons (.var 1) .nil)))) (.cons (.ret (.mth DL.Mth.join (.lit (.str [])) (.cons (.comp DL.ItK.val (.cons (.var 1) .nil) [2] (.name 2) (.lit (.bl true)) (.call 1 2 (.cons (.var 0) (.cons (.var 2) .nil)))) .nil))) .nil))
def D_beats : List D → Res D := run [D_look_line, D_word_beats] M_beats 3
def M_is_metre : Sms := (.cons (.ite (.or (.no (.isi DL.Ty6.str (.var 0))) (.no (.chain DL.Op2.le DL.Op2.le (.lit (.int (1))) (.blt DL.Blt.len (.cons (.var 0) .nil)) (.lit (.int (16)))))) (.cons (.ret (.lit (.bl false))) .nil) .nil) (.cons (.ret (.blt DL.Blt.all (.cons (.comp DL.ItK.val (.cons (.var 0) .nil) [1] (.name 1) (.lit (.bl true)) (.op DL.Op2.inn (.var 1) (.op DL.Op2.add (.op DL.Op2.add (.lit (.str [47])) (.lit (.str [45]))) (.lit (.str [63]))))) .nil))) .nil))
def D_is_metre : List D → Res D := run [] M_is_metre 2
def M_look_metre : Sms := (.cons (.ite (.no (.call 0 1 (.cons (.var 0) .nil))) (.cons (.raise ⟨#[78, 111, 77, 101, 116, 114, 101]⟩) .nil) .nil) .nil)
def D_look_metre : List D → Res D := run [D_is_metre] M_look_metre 1
def M_suits : Sms := (.cons (.ret (.and (.op DL.Op2.eq (.blt DL.Blt.len (.cons (.var 0) .nil)) (.blt DL.Blt.len (.cons (.var 1) .nil))) (.blt DL.Blt.all (.cons (.comp DL.ItK.zip (.cons (.var 0) (.cons (.var 1) .nil)) [2, 3] (.tup (.cons (.name 2) (.cons (.name 3) .nil))) (.lit (.bl true)) (.or (.op DL.Op2.inn (.var 2) (.tup (.cons (.var 3) (.cons (.lit (.str [63])) .nil)))) (.op DL.Op2.eq (.var 3) (.lit (.str [63]))))) .nil)))) .nil)
def D_suits : List D → Res D := run [] M_suits 4
def M_goes : Sms := (.cons (.exp (.call 0 2 (.cons (.var 0) (.cons (.var 1) .nil)))) (.cons (.exp (.call 1 1 (.cons (.var 2) .nil))) (.cons (.ret (.call 2 2 (.cons (.mth DL.Mth.join (.lit (.str [])) (.cons (.comp DL.ItK.val (.cons (.var 1) .nil) [3] (.name 3) (.lit (.bl true)) (.call 3 2 (.cons (.var 0) (.cons (.var 3) .nil)))) .nil)) (.cons (.var 2) .nil)))) .nil)))
def D_goes : List D → Res D := run [D_look_line, D_look_metre, D_suits, D_word_beats] M_goes 4
def M__law_suits : Sms := (.cons (.ite (.op DL.Op2.ne (.blt DL.Blt.len (.cons (.var 0) .nil)) (.blt DL.Blt.len (.cons (.var 1) .nil))) (.cons (.ret (.lit (.bl false))) .nil) .nil) (.cons (.ret (.op DL.Op2.eq (.comp DL.ItK.rng1 (.cons (.blt DL.Blt.len (.cons (.var 0) .nil)) .nil) [2] (.name 2) (.and (.op DL.Op2.ne (.op DL.Op2.ix (.var 1) (.var 2)) (.lit (.str [63]))) (.op DL.Op2.ne (.op DL.Op2.ix (.var 1) (.var 2)) (.op DL.Op2.ix (.var 0) (.var 2)))) (.var 2)) (.lst .nil))) .nil))
def D__law_suits : List D → Res D := run [] M__law_suits 3
def M__law_lines_1 : Sms := (.cons (.asg false (.name 12) (.op DL.Op2.add (.var 10) (.blt DL.Blt.len (.cons (.op DL.Op2.ix (.var 3) (.var 11)) .nil)))) (.cons (.ite (.call 1 2 (.cons (.op DL.Op2.ix (.var 3) (.var 11)) (.cons (.slice (.var 2) (.cons (.var 10) .nil) (.cons (.var 12) .nil)) .nil))) (.cons (.app 7 false (.tup (.cons (.op DL.Op2.add (.var 9) (.tup (.cons (.var 8) .nil))) (.cons (.var 12) .nil)))) .nil) .nil) .nil))
def M__law_lines_2 : Sms := (.cons (.for_ DL.ItK.enum (.cons (.var 1) .nil) (.tup (.cons (.name 11) (.cons (.name 8) .nil))) M__law_lines_1) .nil)
def M__law_lines_3 : Sms := (.cons (.asg false (.name 7) (.lst .nil)) (.cons (.for_ DL.ItK.val (.cons (.var 5) .nil) (.tup (.cons (.name 9) (.cons (.name 10) .nil))) M__law_lines_2) (.cons (.asg false (.name 5) (.var 7)) (.cons (.ext 6 (.comp DL.ItK.val (.cons (.var 5) .nil) [9, 10] (.tup (.cons (.name 9) (.cons (.name 10) .nil))) (.op DL.Op2.eq (.var 10) (.blt DL.Blt.len (.cons (.var 2) .nil))) (.var 9))) .nil))))
def M__law_lines : Sms := (.cons (.asg false (.name 3) (.comp DL.ItK.val (.cons (.var 1) .nil) [8] (.name 8) (.lit (.bl true)) (.call 0 2 (.cons (.var 0) (.cons (.var 8) .nil))))) (.cons (.asg false (.tup (.cons (.name 5) (.cons (.name 6) .nil))) (.tup (.cons (.lst (.cons (.tup (.cons (.tup .nil) (.cons (.lit (.int (0))) .nil))) .nil)) (.cons (.lst .nil) .nil)))) (.cons (.for_ DL.ItK.rng1 (.cons (.lit (.int (6))) .nil) (.name 4) M__law_lines_3) (.cons (.ret (.var 6)) .nil))))
def D__law_lines : List D → Res D := run [D__law_signs, D__law_suits] M__law_lines 13
def M_look_all : Sms := (.cons (.exp (.call 0 2 (.cons (.var 0) (.cons (.var 1) .nil)))) (.cons (.exp (.call 1 1 (.cons (.var 2) .nil))) .nil))
def D_look_all : List D → Res D := run [D_look_book, D_look_metre] M_look_all 3
def M_steps_in_1 : Sms := (.cons (.asg false (.name 7) (.call 0 2 (.cons (.var 0) (.cons (.var 6) .nil)))) (.cons (.ite (.call 1 2 (.cons (.var 7) (.cons (.slice (.var 2) (.cons (.var 4) .nil) (.cons (.op DL.Op2.add (.var 4) (.blt DL.Blt.len (.cons (.var 7) .nil))) .nil)) .nil))) (.cons (.app 5 false (.tup (.cons (.var 6) (.cons (.op DL.Op2.add (.var 4) (.blt DL.Blt.len (.cons (.var 7) .nil))) .nil)))) .nil) .nil) .nil))
def M_steps_in_2 : Sms := (.cons (.asg false (.name 5) (.lst .nil)) (.cons (.for_ DL.ItK.val (.cons (.var 1) .nil) (.name 6) M_steps_in_1) (.cons (.app 3 false (.var 5)) .nil)))
def M_steps_in : Sms := (.cons (.asg false (.name 3) (.lst .nil)) (.cons (.for_ DL.ItK.rng1 (.cons (.op DL.Op2.add (.blt DL.Blt.len (.cons (.var 2) .nil)) (.lit (.int (1)))) .nil) (.name 4) M_steps_in_2) (.cons (.ret (.var 3)) .nil)))
def D_steps_in : List D → Res D := run [D_word_beats, D_suits] M_steps_in 8
def M_shortest_line_1 : Sms := (.cons (.ite (.and (.op DL.Op2.eq (.var 12) (.blt DL.Blt.len (.cons (.var 2) .nil))) (.op DL.Op2.inn (.var 3) (.tup (.cons (.lit .non) (.cons (.var 11) .nil))))) (.cons (.ret (.op DL.Op2.add (.var 9) (.tup (.cons (.var 11) .nil)))) .nil) .nil) (.cons (.ite (.op DL.Op2.nin (.var 12) (.var 6)) (.cons (.app 8 false (.tup (.cons (.op DL.Op2.add (.var 9) (.tup (.cons (.var 11) .nil))) (.cons (.var 12) .nil)))) (.cons (.app 6 false (.var 12)) .nil)) .nil) .nil))
def M_shortest_line_2 : Sms := (.cons (.for_ DL.ItK.val (.cons (.op DL.Op2.ix (.var 4) (.var 10)) .nil) (.tup (.cons (.name 11) (.cons (.name 12) .nil))) M_shortest_line_1) .nil)
def M_shortest_line_3 : Sms := (.cons (.asg false (.name 8) (.lst .nil)) (.cons (.for_ DL.ItK.val (.cons (.var 5) .nil) (.tup (.cons (.name 9) (.cons (.name 10) .nil))) M_shortest_line_2) (.cons (.asg false (.name 5) (.var 8)) .nil)))
def M_shortest_line : Sms := (.cons (.asg false (.name 4) (.call 0 3 (.cons (.var 0) (.cons (.var 1) (.cons (.var 2) .nil))))) (.cons (.asg false (.name 5) (.lst (.cons (.tup (.cons (.tup .nil) (.cons (.lit (.int (0))) .nil))) .nil))) (.cons (.asg false (.name 6) (.lst .nil)) (.cons (.for_ DL.ItK.rng1 (.cons (.lit (.int (6))) .nil) (.name 7) M_shortest_line_3) (.cons (.ret (.lit .non)) .nil)))))
def D_shortest_line : List D → Res D := run [D_steps_in] M_shortest_line 13
def M_first_line : Sms := (.cons (.exp (.call 0 3 (.cons (.var 0) (.cons (.var 1) (.cons (.var 2) .nil))))) (.cons (.ret (.call 1 4 (.cons (.var 0) (.cons (.var 1) (.cons (.var 2) (.cons (.lit .non) .nil)))))) .nil))
def D_first_line : List D → Res D := run [D_look_all, D_shortest_line] M_first_line 3
def M_count_lines_1 : Sms := (.cons (.inc 7 (0) (.var 11) (.var 9) (.var 11)) .nil)
def M_count_lines_2 : Sms := (.cons (.for_ DL.ItK.val (.cons (.op DL.Op2.ix (.var 3) (.var 8)) .nil) (.tup (.cons (.name 10) (.cons (.name 11) .nil))) M_count_lines_1) .nil)
def M_count_lines_3 : Sms := (.cons (.asg false (.name 7) (.dic false)) (.cons (.for_ DL.ItK.items (.cons (.var 4) .nil) (.tup (.cons (.name 8) (.cons (.name 9) .nil))) M_count_lines_2) (.cons (.asg false (.name 4) (.var 7)) (.cons (.asg false (.name 5) (.op DL.Op2.add (.var 5) (.mth DL.Mth.get (.var 4) (.cons (.blt DL.Blt.len (.cons (.var 2) .nil)) (.cons (.lit (.int (0))) .nil))))) .nil))))
def M_count_lines : Sms := (.cons (.exp (.call 0 3 (.cons (.var 0) (.cons (.var 1) (.cons (.var 2) .nil))))) (.cons (.asg false (.name 3) (.call 1 3 (.cons (.var 0) (.cons (.var 1) (.cons (.var 2) .nil))))) (.cons (.asg false (.name 4) (.dic1 (0) (1))) (.cons (.asg false (.name 5) (.lit (.int (0)))) (.cons (.for_ DL.ItK.rng1 (.cons (.lit (.int (6))) .nil) (.name 6) M_count_lines_3) (.cons (.ret (.var 5)) .nil))))))
def D_count_lines : List D → Res D := run [D_look_all, D_steps_in] M_count_lines 12
def M_ends_of : Sms := (.cons (.ret (.comp DL.ItK.val (.cons (.var 1) .nil) [3] (.name 3) (.op DL.Op2.isn (.call 0 4 (.cons (.var 0) (.cons (.var 1) (.cons (.var 2) (.cons (.var 3) .nil))))) (.lit .non)) (.var 3))) .nil)
def D_ends_of : List D → Res D := run [D_shortest_line] M_ends_of 4
def M_ends : Sms := (.cons (.exp (.call 0 3 (.cons (.var 0) (.cons (.var 1) (.cons (.var 2) .nil))))) (.cons (.ret (.call 1 3 (.cons (.var 0) (.cons (.var 1) (.cons (.var 2) .nil))))) .nil))
def D_ends : List D → Res D := run [D_look_all, D_ends_of] M_ends 3
def M__law_last : Sms := (.cons (.asg false (.name 2) (.comp DL.ItK.val (.cons (.var 0) .nil) [3] (.name 3) (.lit (.bl true)) (.op DL.Op2.ix (.var 3) (.neg (.lit (.int (1))))))) (.cons (.ret (.comp DL.ItK.val (.cons (.var 1) .nil) [4] (.name 4) (.op DL.Op2.inn (.var 4) (.var 2)) (.var 4))) .nil))
def D__law_last : List D → Res D := run [] M__law_last 5
def M__law_rich_book_1 : Sms := (.cons (.asg false (.name 6) (.op DL.Op2.ix (.lst (.cons (.lit (.str [97])) (.cons (.lit (.str [101])) (.cons (.lit (.str [111])) (.cons (.lit (.str [97, 110])) (.cons (.lit (.str [101, 110])) .nil)))))) (.op DL.Op2.mod (.op DL.Op2.add (.call 1 3 (.cons (.var 0) (.cons (.var 1) (.cons (.lit (.int (5))) .nil)))) (.call 1 3 (.cons (.var 0) (.cons (.op DL.Op2.add (.op DL.Op2.add (.var 1) (.lit (.int (1)))) (.var 5)) (.cons (.lit (.int (2))) .nil))))) (.lit (.int (5)))))) (.cons (.asg false (.name 7) (.op DL.Op2.add (.op DL.Op2.ix (.lst (.cons (.lit (.str [])) (.cons (.lit (.str [115])) (.cons (.lit (.str [98])) (.cons (.lit (.str [103])) (.cons (.lit (.str [108])) (.cons (.lit (.str [110])) (.cons (.lit (.str [116])) (.cons (.lit (.str [115, 97])) .nil))))))))) (.call 1 3 (.cons (.var 0) (.cons (.op DL.Op2.add (.op DL.Op2.add (.var 1) (.lit (.int (20)))) (.var 5)) (.cons (.lit (.int (8))) .nil))))) (.var 6))) (.cons (.asg false (.name 8) (.tup (.cons (.var 7) (.cons (.op DL.Op2.add (.lit (.int (1))) (.blt DL.Blt.int (.cons (.op DL.Op2.eq (.call 1 3 (.cons (.var 0) (.cons (.op DL.Op2.add (.op DL.Op2.add (.var 1) (.lit (.int (40)))) (.var 5)) (.cons (.lit (.int (6))) .nil)))) (.lit (.int (0)))) .nil))) .nil)))) (.cons (.ite (.call 0 2 (.cons (.var 2) (.cons (.var 8) .nil))) (.cons (.put 4 (.var 7) (.var 8)) .nil) .nil) .nil))))
def M__law_rich_book : Sms := (.cons (.asg false (.name 4) (.dic false)) (.cons (.for_ DL.ItK.rng1 (.cons (.var 3) .nil) (.name 5) M__law_rich_book_1) (.cons (.ret (.blt DL.Blt.tuple (.cons (.comp DL.ItK.val (.cons (.blt DL.Blt.sorted (.cons (.var 4) .nil)) .nil) [7] (.name 7) (.lit (.bl true)) (.op DL.Op2.ix (.var 4) (.var 7))) .nil))) .nil)))
def D__law_rich_book : List D → Res D := run [D__law_is_word, D__law_pick] M__law_rich_book 9
def M__law_form : Sms := (.cons (.asg false (.name 4) (.op DL.Op2.ix (.lst (.cons (.lit (.str [65])) (.cons (.lit (.str [65, 65])) (.cons (.lit (.str [65, 66])) (.cons (.lit (.str [65, 65, 66])) (.cons (.lit (.str [65, 66, 65])) (.cons (.lit (.str [65, 66, 65, 66])) (.cons (.lit (.str [65, 65, 66, 66])) (.cons (.lit (.str [65, 66, 67, 66])) (.cons (.lit (.str [65, 65, 65])) (.cons (.lit (.str [65, 66, 66, 65])) .nil))))))))))) (.call 0 3 (.cons (.var 0) (.cons (.var 1) (.cons (.lit (.int (10))) .nil)))))) (.cons (.asg false (.name 5) (.lst (.cons (.lit (.str [47])) (.cons (.lit (.str [63])) (.cons (.lit (.str [47])) (.cons (.lit (.str [63, 47])) (.cons (.lit (.str [63, 63])) (.cons (.lit (.str [45, 47])) (.cons (.lit (.str [47])) (.cons (.lit (.str [47, 63])) .nil)))))))))) (.cons (.asg false (.name 6) (.op DL.Op2.mul (.call 0 3 (.cons (.var 0) (.cons (.op DL.Op2.add (.var 1) (.lit (.int (1)))) (.cons (.lit (.int (2))) .nil)))) (.lit (.int (4))))) (.cons (.asg false (.name 7) (.comp DL.ItK.rng1 (.cons (.blt DL.Blt.len (.cons (.var 4) .nil)) .nil) [8] (.name 8) (.lit (.bl true)) (.op DL.Op2.add (.op DL.Op2.mul (.var 6) (.blt DL.Blt.int (.cons (.op DL.Op2.eq (.op DL.Op2.mod (.var 8) (.lit (.int (2)))) (.lit (.int (0)))) .nil))) (.call 0 3 (.cons (.var 0) (.cons (.op DL.Op2.add (.op DL.Op2.add (.var 1) (.lit (.int (2)))) (.var 8)) (.cons (.lit (.int (4))) .nil))))))) (.cons (.ret (.tup (.cons (.var 4) (.cons (.blt DL.Blt.tuple (.cons (.comp DL.ItK.val (.cons (.var 7) .nil) [9] (.name 9) (.lit (.bl true)) (.op DL.Op2.ix (.var 5) (.var 9))) .nil)) .nil)))) .nil)))))
def D__law_form : List D → Res D := run [D__law_pick] M__law_form 10
def M_is_form : Sms := (.cons (.ite (.or (.no (.isi DL.Ty6.tuple (.var 0))) (.or (.op DL.Op2.ne (.blt DL.Blt.len (.cons (.var 0) .nil)) (.lit (.int (2)))) (.or (.no (.call 0 1 (.cons (.op DL.Op2.ix (.var 0) (.lit (.int (0)))) .nil))) (.no (.isi DL.Ty6.tuple (.op DL.Op2.ix (.var 0) (.lit (.int (1))))))))) (.cons (.ret (.lit (.bl false))) .nil) .nil) (.cons (.ret (.and (.op DL.Op2.eq (.blt DL.Blt.len (.cons (.op DL.Op2.ix (.var 0) (.lit (.int (1)))) .nil)) (.blt DL.Blt.len (.cons (.op DL.Op2.ix (.var 0) (.lit (.int (0)))) .nil))) (.blt DL.Blt.all (.cons (.comp DL.ItK.val (.cons (.op DL.Op2.ix (.var 0) (.lit (.int (1)))) .nil) [1] (.name 1) (.lit (.bl true)) (.call 1 1 (.cons (.var 1) .nil))) .nil)))) .nil))
def D_is_form : List D → Res D := run [D_is_scheme, D_is_metre] M_is_form 2
def M_look_poem : Sms := (.cons (.exp (.call 0 1 (.cons (.var 0) .nil))) (.cons (.ite (.or (.no (.isi DL.Ty6.tuple (.var 1))) (.no (.chain DL.Op2.le DL.Op2.le (.lit (.int (1))) (.blt DL.Blt.len (.cons (.var 1) .nil)) (.lit (.int (8)))))) (.cons (.raise ⟨#[78, 111, 80, 111, 101, 109]⟩) .nil) .nil) (.cons (.ite (.no (.blt DL.Blt.all (.cons (.comp DL.ItK.val (.cons (.var 1) .nil) [2] (.name 2) (.lit (.bl true)) (.call 1 2 (.cons (.var 0) (.cons (.var 2) .nil)))) .nil))) (.cons (.raise ⟨#[78, 111, 80, 111, 101, 109]⟩) .nil) .nil) .nil)))
def D_look_poem : List D → Res D := run [D_look_table, D_is_line_of] M_look_poem 3
def M_look_form : Sms := (.cons (.ite (.no (.call 0 1 (.cons (.var 0) .nil))) (.cons (.raise ⟨#[78, 111, 70, 111, 114, 109]⟩) .nil) .nil) .nil)
def D_look_form : List D → Res D := run [D_is_form] M_look_form 1
def M_end_fault : Sms := (.cons (.asg false (.name 4) (.op DL.Op2.ix (.var 2) (.var 3))) (.cons (.asg false (.name 5) (.slice (.bi DL.B2.lz (.var 1) (.var 2)) .nil (.cons (.var 3) .nil))) (.cons (.ite (.blt DL.Blt.any (.cons (.comp DL.ItK.val (.cons (.var 5) .nil) [7, 8] (.tup (.cons (.name 7) (.cons (.name 8) .nil))) (.lit (.bl true)) (.op DL.Op2.eq (.op DL.Op2.ix (.var 8) (.lit (.int (0)))) (.op DL.Op2.ix (.var 4) (.lit (.int (0)))))) .nil)) (.cons (.ret (.lit (.str [97, 103, 97, 105, 110]))) .nil) .nil) (.cons (.asg false (.name 6) (.call 0 2 (.cons (.var 0) (.cons (.var 4) .nil)))) (.cons (.ite (.blt DL.Blt.any (.cons (.comp DL.ItK.val (.cons (.var 5) .nil) [7, 8] (.tup (.cons (.name 7) (.cons (.name 8) .nil))) (.lit (.bl true)) (.and (.op DL.Op2.eq (.var 7) (.op DL.Op2.ix (.var 1) (.var 3))) (.op DL.Op2.ne (.call 0 2 (.cons (.var 0) (.cons (.var 8) .nil))) (.var 6)))) .nil)) (.cons (.ret (.lit (.str [114, 104, 121, 109, 101]))) .nil) .nil) (.cons (.ite (.blt DL.Blt.any (.cons (.comp DL.ItK.val (.cons (.var 5) .nil) [7, 8] (.tup (.cons (.name 7) (.cons (.name 8) .nil))) (.lit (.bl true)) (.and (.op DL.Op2.ne (.var 7) (.op DL.Op2.ix (.var 1) (.var 3))) (.op DL.Op2.eq (.call 0 2 (.cons (.var 0) (.cons (.var 8) .nil))) (.var 6)))) .nil)) (.cons (.ret (.lit (.str [99, 108, 97, 115, 104]))) .nil) .nil) (.cons (.ret (.lit .non)) .nil)))))))
def D_end_fault : List D → Res D := run [D_tail_of] M_end_fault 9
def M_faults_1 : Sms := (.cons (.ite (.no (.call 3 2 (.cons (.call 4 2 (.cons (.var 0) (.cons (.var 8) .nil))) (.cons (.op DL.Op2.ix (.var 6) (.var 7)) .nil)))) (.cons (.app 4 false (.tup (.cons (.var 7) (.cons (.lit (.str [109, 101, 116, 114, 101])) .nil)))) .nil) .nil) (.cons (.asg false (.name 9) (.call 2 4 (.cons (.var 0) (.cons (.var 5) (.cons (.var 3) (.cons (.var 7) .nil)))))) (.cons (.ite (.op DL.Op2.isn (.var 9) (.lit .non)) (.cons (.app 4 false (.tup (.cons (.var 7) (.cons (.var 9) .nil)))) .nil) .nil) .nil)))
def M_faults : Sms := (.cons (.exp (.call 0 2 (.cons (.var 0) (.cons (.var 1) .nil)))) (.cons (.exp (.call 1 1 (.cons (.var 2) .nil))) (.cons (.asg false (.tup (.cons (.name 5) (.cons (.name 6) .nil))) (.var 2)) (.cons (.ite (.op DL.Op2.ne (.blt DL.Blt.len (.cons (.var 1) .nil)) (.blt DL.Blt.len (.cons (.var 5) .nil))) (.cons (.ret (.lst (.cons (.tup (.cons (.lit (.int (0))) (.cons (.lit (.str [108, 105, 110, 101, 115])) .nil))) .nil))) .nil) .nil) (.cons (.asg false (.name 3) (.comp DL.ItK.val (.cons (.var 1) .nil) [8] (.name 8) (.lit (.bl true)) (.op DL.Op2.ix (.var 8) (.neg (.lit (.int (1))))))) (.cons (.asg false (.name 4) (.lst .nil)) (.cons (.for_ DL.ItK.enum (.cons (.var 1) .nil) (.tup (.cons (.name 7) (.cons (.name 8) .nil))) M_faults_1) (.cons (.ret (.var 4)) .nil))))))))
def D_faults : List D → Res D := run [D_look_poem, D_look_form, D_end_fault, D_suits, D_beats] M_faults 10
def M_end_words : Sms := (.cons (.exp (.call 0 2 (.cons (.var 0) (.cons (.var 1) .nil)))) (.cons (.ret (.comp DL.ItK.val (.cons (.var 1) .nil) [2] (.name 2) (.lit (.bl true)) (.op DL.Op2.ix (.var 2) (.neg (.lit (.int (1))))))) .nil))
def D_end_words : List D → Res D := run [D_look_poem] M_end_words 3
def M_fits : Sms := (.cons (.ret (.op DL.Op2.eq (.call 0 3 (.cons (.var 0) (.cons (.var 1) (.cons (.var 2) .nil)))) (.lst .nil))) .nil)
def D_fits : List D → Res D := run [D_faults] M_fits 3
def M__law_suit_1 : Sms := (.cons (.asg false (.name 5) (.comp DL.ItK.val (.cons (.slice (.var 3) .nil (.cons (.var 4) .nil)) .nil) [7] (.name 7) (.lit (.bl true)) (.op DL.Op2.eq (.var 7) (.op DL.Op2.ix (.var 3) (.var 4))))) (.cons (.ite (.or (.op DL.Op2.inn (.op DL.Op2.ix (.var 2) (.var 4)) (.slice (.var 2) .nil (.cons (.var 4) .nil))) (.op DL.Op2.ne (.var 5) (.comp DL.ItK.val (.cons (.slice (.var 1) .nil (.cons (.var 4) .nil)) .nil) [8] (.name 8) (.lit (.bl true)) (.op DL.Op2.eq (.var 8) (.op DL.Op2.ix (.var 1) (.var 4)))))) (.cons (.ret (.lit (.bl false))) .nil) .nil) .nil))
def M__law_suit : Sms := (.cons (.asg false (.name 3) (.comp DL.ItK.val (.cons (.var 2) .nil) [6] (.name 6) (.lit (.bl true)) (.op DL.Op2.ix (.call 0 2 (.cons (.var 0) (.cons (.var 6) .nil))) (.lit (.int (0)))))) (.cons (.for_ DL.ItK.rng1 (.cons (.blt DL.Blt.len (.cons (.var 2) .nil)) .nil) (.name 4) M__law_suit_1) (.cons (.ret (.lit (.bl true))) .nil)))
def D__law_suit : List D → Res D := run [D__law_tail] M__law_suit 9
def M__law_rows_v2_1 : Sms := (.cons (.ext 5 (.comp DL.ItK.val (.cons (.op DL.Op2.ix (.var 2) (.var 4)) .nil) [7] (.name 7) (.call 0 3 (.cons (.var 0) (.cons (.var 1) (.cons (.op DL.Op2.add (.var 6) (.lst (.cons (.var 7) .nil))) .nil)))) (.op DL.Op2.add (.var 6) (.lst (.cons (.var 7) .nil))))) .nil)
def M__law_rows_v2_2 : Sms := (.cons (.asg false (.name 5) (.lst .nil)) (.cons (.for_ DL.ItK.val (.cons (.var 3) .nil) (.name 6) M__law_rows_v2_1) (.cons (.asg false (.name 3) (.var 5)) .nil)))
def M__law_rows_v2 : Sms := (.cons (.asg false (.name 3) (.lst (.cons (.lst .nil) .nil))) (.cons (.for_ DL.ItK.rng1 (.cons (.blt DL.Blt.len (.cons (.var 1) .nil)) .nil) (.name 4) M__law_rows_v2_2) (.cons (.ret (.var 3)) .nil)))
def D__law_rows_v2 : List D → Res D := run [D__law_suit] M__law_rows_v2 8
def M_look_both : Sms := (.cons (.exp (.call 0 2 (.cons (.var 0) (.cons (.var 1) .nil)))) (.cons (.exp (.call 1 1 (.cons (.var 2) .nil))) .nil))
def D_look_both : List D → Res D := run [D_look_book, D_look_form] M_look_both 3
def M_end_rows : Sms := (.cons (.ret (.comp DL.ItK.val (.cons (.op DL.Op2.ix (.var 2) (.lit (.int (1)))) .nil) [3] (.name 3) (.lit (.bl true)) (.call 0 3 (.cons (.var 0) (.cons (.var 1) (.cons (.var 3) .nil)))))) .nil)
def D_end_rows : List D → Res D := run [D_ends_of] M_end_rows 4
def M__law_rhyme_1 : Sms := (.cons (.asg false (.name 7) (.call 0 2 (.cons (.var 0) (.cons (.op DL.Op2.ix (.var 6) (.lit (.int (0)))) .nil)))) (.cons (.asg false (.name 8) (.blt DL.Blt.max (.cons (.comp DL.ItK.rng1 (.cons (.blt DL.Blt.len (.cons (.var 7) .nil)) .nil) [11] (.name 11) (.op DL.Op2.inn (.op DL.Op2.ix (.var 7) (.var 11)) (.lit (.str [65, 69, 73, 79, 85]))) (.var 11)) .nil))) (.cons (.app 5 false (.slice (.var 7) (.cons (.op DL.Op2.add (.var 8) (.lit (.int (1)))) .nil) .nil)) .nil)))
def M__law_rhyme : Sms := (.cons (.asg false (.name 3) (.comp DL.ItK.val (.cons (.tup (.cons (.var 1) (.cons (.var 2) .nil))) .nil) [6] (.name 6) (.lit (.bl true)) (.op DL.Op2.ix (.call 1 2 (.cons (.var 0) (.cons (.var 6) .nil))) (.lit (.int (0)))))) (.cons (.asg false (.name 4) (.comp DL.ItK.val (.cons (.var 3) .nil) [9] (.name 9) (.lit (.bl true)) (.mth DL.Mth.join (.lit (.str [])) (.cons (.comp DL.ItK.val (.cons (.var 9) .nil) [10] (.name 10) (.op DL.Op2.inn (.var 10) (.lit (.str [65, 69, 73, 79, 85]))) (.var 10)) .nil)))) (.cons (.asg false (.name 5) (.lst .nil)) (.cons (.for_ DL.ItK.val (.cons (.tup (.cons (.var 1) (.cons (.var 2) .nil))) .nil) (.name 6) M__law_rhyme_1) (.cons (.ret (.or (.op DL.Op2.eq (.op DL.Op2.ix (.var 4) (.lit (.int (0)))) (.op DL.Op2.ix (.var 4) (.lit (.int (1))))) (.chain DL.Op2.eq DL.Op2.ne (.op DL.Op2.ix (.var 5) (.lit (.int (0)))) (.op DL.Op2.ix (.var 5) (.lit (.int (1)))) (.lit (.str []))))) .nil)))))
def D__law_rhyme : List D → Res D := run [D__law_sounds, D__law_tail] M__law_rhyme 12
def M__law_nexts : Sms := (.cons (.asg false (.name 3) (.comp DL.ItK.val (.cons (.var 1) .nil) [4] (.name 4) (.op DL.Op2.nin (.var 4) (.var 2)) (.var 4))) (.cons (.ite (.op DL.Op2.eq (.var 2) (.lst .nil)) (.cons (.ret (.var 3)) .nil) .nil) (.cons (.ret (.comp DL.ItK.val (.cons (.var 3) .nil) [4] (.name 4) (.call 0 3 (.cons (.var 0) (.cons (.op DL.Op2.ix (.var 2) (.neg (.lit (.int (1))))) (.cons (.var 4) .nil)))) (.var 4))) .nil)))
def D__law_nexts : List D → Res D := run [D__law_rhyme] M__law_nexts 5
def M__law_drawn_told_1 : Sms := (.cons (.asg false (.name 7) (.call 1 3 (.cons (.var 2) (.cons (.var 3) (.cons (.var 5) .nil))))) (.cons (.ite (.op DL.Op2.ne (.var 7) (.lst .nil)) (.cons (.asg false (.name 5) (.op DL.Op2.add (.var 5) (.lst (.cons (.op DL.Op2.ix (.var 7) (.call 0 3 (.cons (.var 0) (.cons (.op DL.Op2.add (.op DL.Op2.add (.var 1) (.lit (.int (1)))) (.var 6)) (.cons (.blt DL.Blt.len (.cons (.var 7) .nil)) .nil))))) .nil)))) .nil) .nil) .nil))
def M__law_drawn_told : Sms := (.cons (.asg false (.name 5) (.lst .nil)) (.cons (.for_ DL.ItK.rng1 (.cons (.call 0 3 (.cons (.var 0) (.cons (.var 1) (.cons (.op DL.Op2.add (.var 4) (.lit (.int (1)))) .nil)))) .nil) (.name 6) M__law_drawn_told_1) (.cons (.ret (.var 5)) .nil)))
def D__law_drawn_told : List D → Res D := run [D__law_pick, D__law_nexts] M__law_drawn_told 8
def M_look_told_1 : Sms := (.cons (.ite (.op DL.Op2.eq (.call 1 3 (.cons (.var 0) (.cons (.var 3) (.cons (.var 4) .nil)))) (.lit (.str [110, 111, 110, 101]))) (.cons (.raise ⟨#[78, 111, 87, 111, 114, 100]⟩) .nil) .nil) .nil)
def M_look_told : Sms := (.cons (.exp (.call 0 2 (.cons (.var 0) (.cons (.var 1) .nil)))) (.cons (.ite (.op DL.Op2.gt (.blt DL.Blt.len (.cons (.var 1) .nil)) (.lit (.int (10)))) (.cons (.raise ⟨#[78, 111, 66, 111, 111, 107]⟩) .nil) .nil) (.cons (.ite (.or (.no (.isi DL.Ty6.list (.var 2))) (.no (.blt DL.Blt.all (.cons (.comp DL.ItK.val (.cons (.var 2) .nil) [5] (.name 5) (.lit (.bl true)) (.and (.call 2 2 (.cons (.var 0) (.cons (.var 5) .nil))) (.op DL.Op2.inn (.var 5) (.var 1)))) .nil)))) (.cons (.raise ⟨#[78, 111, 87, 111, 114, 100]⟩) .nil) .nil) (.cons (.ite (.op DL.Op2.ne (.lset (.var 2)) (.blt DL.Blt.len (.cons (.var 2) .nil))) (.cons (.raise ⟨#[78, 111, 87, 111, 114, 100]⟩) .nil) .nil) (.cons (.for_ DL.ItK.zip (.cons (.var 2) (.cons (.slice (.var 2) (.cons (.lit (.int (1))) .nil) .nil) .nil)) (.tup (.cons (.name 3) (.cons (.name 4) .nil))) M_look_told_1) .nil)))))
def D_look_told : List D → Res D := run [D_look_book, D_kind_of, D_is_word_of] M_look_told 6
def M_answers_to : Sms := (.cons (.asg false (.name 3) (.comp DL.ItK.val (.cons (.var 1) .nil) [4] (.name 4) (.op DL.Op2.nin (.var 4) (.var 2)) (.var 4))) (.cons (.ret (.ife (.op DL.Op2.eq (.var 2) (.lst .nil)) (.var 3) (.comp DL.ItK.val (.cons (.var 3) .nil) [4] (.name 4) (.op DL.Op2.ne (.call 0 3 (.cons (.var 0) (.cons (.op DL.Op2.ix (.var 2) (.neg (.lit (.int (1))))) (.cons (.var 4) .nil)))) (.lit (.str [110, 111, 110, 101]))) (.var 4)))) .nil))
def D_answers_to : List D → Res D := run [D_kind_of] M_answers_to 5
def M_answers : Sms := (.cons (.exp (.call 0 3 (.cons (.var 0) (.cons (.var 1) (.cons (.var 2) .nil))))) (.cons (.ret (.call 1 3 (.cons (.var 0) (.cons (.var 1) (.cons (.var 2) .nil))))) .nil))
def D_answers : List D → Res D := run [D_look_told, D_answers_to] M_answers 3
def M__law_deed : Sms := (.cons (.asg false (.tup (.cons (.name 6) (.cons (.name 7) .nil))) (.var 2)) (.cons (.asg false (.name 3) (.op DL.Op2.add (.blt DL.Blt.sorted (.cons (.var 7) .nil)) (.lst (.cons (.lit (.str [122, 122])) .nil)))) (.cons (.asg false (.name 4) (.op DL.Op2.ix (.lst (.cons (.lit (.str [112, 117, 116])) (.cons (.lit (.str [112, 117, 116])) (.cons (.lit (.str [112, 117, 116])) (.cons (.lit (.str [100, 114, 111, 112])) (.cons (.lit (.str [115, 101, 116, 95, 114, 111, 119])) (.cons (.lit (.str [115, 101, 116, 95, 114, 111, 119])) (.cons (.lit (.str [100, 114, 111, 112, 95, 114, 111, 119])) .nil)))))))) (.call 0 3 (.cons (.var 0) (.cons (.var 1) (.cons (.lit (.int (7))) .nil)))))) (.cons (.ite (.op DL.Op2.eq (.var 4) (.lit (.str [112, 117, 116]))) (.cons (.asg false (.name 8) (.tup (.cons (.call 1 2 (.cons (.var 0) (.cons (.op DL.Op2.add (.var 1) (.lit (.int (2)))) .nil))) (.cons (.op DL.Op2.add (.lit (.int (1))) (.blt DL.Blt.int (.cons (.op DL.Op2.eq (.call 0 3 (.cons (.var 0) (.cons (.op DL.Op2.add (.var 1) (.lit (.int (1)))) (.cons (.lit (.int (4))) .nil)))) (.lit (.int (0)))) .nil))) .nil)))) (.cons (.ret (.tup (.cons (.var 4) (.cons (.var 8) (.cons (.lit .non) .nil))))) .nil)) .nil) (.cons (.ite (.op DL.Op2.eq (.var 4) (.lit (.str [100, 114, 111, 112]))) (.cons (.ret (.tup (.cons (.var 4) (.cons (.op DL.Op2.ix (.var 3) (.call 0 3 (.cons (.var 0) (.cons (.op DL.Op2.add (.var 1) (.lit (.int (1)))) (.cons (.blt DL.Blt.len (.cons (.var 3) .nil)) .nil))))) (.cons (.lit .non) .nil))))) .nil) .nil) (.cons (.asg false (.name 5) (.op DL.Op2.ix (.op DL.Op2.add (.blt DL.Blt.sorted (.cons (.var 6) .nil)) (.lst (.cons (.lit (.str [115, 116])) (.cons (.lit (.str [110, 103])) (.cons (.lit (.str [122, 122])) .nil))))) (.call 0 3 (.cons (.var 0) (.cons (.op DL.Op2.add (.var 1) (.lit (.int (1)))) (.cons (.op DL.Op2.add (.blt DL.Blt.len (.cons (.var 6) .nil)) (.lit (.int (3)))) .nil)))))) (.cons (.ret (.tup (.cons (.var 4) (.cons (.var 5) (.cons (.op DL.Op2.ix (.lst (.cons (.lit (.str [65])) (.cons (.lit (.str [69])) (.cons (.lit (.str [79, 83])) (.cons (.lit (.str [78])) (.cons (.lit (.str [])) (.cons (.lit (.str [83, 84])) .nil))))))) (.call 0 3 (.cons (.var 0) (.cons (.op DL.Op2.add (.var 1) (.lit (.int (2)))) (.cons (.lit (.int (6))) .nil))))) .nil))))) .nil)))))))
def D__law_deed : List D → Res D := run [D__law_pick, D__law_letters] M__law_deed 9
def M__law_table_of : Sms := (.cons (.ret (.blt DL.Blt.tuple (.cons (.comp DL.ItK.val (.cons (.blt DL.Blt.sorted (.cons (.var 0) .nil)) .nil) [1] (.name 1) (.lit (.bl true)) (.tup (.cons (.var 1) (.cons (.op DL.Op2.ix (.var 0) (.var 1)) .nil)))) .nil))) .nil)
def D__law_table_of : List D → Res D := run [] M__law_table_of 2
def M__law_other : Sms := (.cons (.asg false (.name 3) (.blt DL.Blt.dict (.cons (.comp DL.ItK.val (.cons (.var 0) .nil) [4] (.name 4) (.op DL.Op2.ne (.var 4) (.var 1)) (.tup (.cons (.var 4) (.cons (.op DL.Op2.ix (.var 0) (.var 4)) .nil)))) .nil))) (.cons (.ite (.op DL.Op2.isn (.var 2) (.lit .non)) (.cons (.put 3 (.var 1) (.var 2)) .nil) .nil) (.cons (.ret (.var 3)) .nil)))
def D__law_other : List D → Res D := run [] M__law_other 5
def M__law_behind : Sms := (.cons (.asg false (.tup (.cons (.name 6) (.cons (.name 7) .nil))) (.var 0)) (.cons (.asg false (.tup (.cons (.name 8) (.cons (.name 9) (.cons (.name 10) .nil)))) (.var 1)) (.cons (.asg false (.name 2) (.call 0 1 (.cons (.var 6) .nil))) (.cons (.ite (.op DL.Op2.eq (.var 8) (.lit (.str [112, 117, 116]))) (.cons (.ite (.no (.call 2 2 (.cons (.var 2) (.cons (.var 9) .nil)))) (.cons (.ret (.tup (.cons (.var 0) (.cons (.lit (.str [110, 111, 32, 119, 111, 114, 100])) .nil)))) .nil) .nil) (.cons (.ret (.tup (.cons (.tup (.cons (.var 6) (.cons (.call 1 3 (.cons (.var 7) (.cons (.op DL.Op2.ix (.var 9) (.lit (.int (0)))) (.cons (.var 9) .nil)))) .nil))) (.cons (.op DL.Op2.inn (.op DL.Op2.ix (.var 9) (.lit (.int (0)))) (.var 7)) .nil)))) .nil)) .nil) (.cons (.ite (.op DL.Op2.eq (.var 8) (.lit (.str [100, 114, 111, 112]))) (.cons (.ite (.op DL.Op2.nin (.var 9) (.var 7)) (.cons (.ret (.tup (.cons (.var 0) (.cons (.lit (.str [110, 111, 32, 119, 111, 114, 100])) .nil)))) .nil) .nil) (.cons (.ret (.tup (.cons (.tup (.cons (.var 6) (.cons (.call 1 3 (.cons (.var 7) (.cons (.var 9) (.cons (.lit .non) .nil)))) .nil))) (.cons (.op DL.Op2.ix (.var 7) (.var 9)) .nil)))) .nil)) .nil) (.cons (.asg false (.name 3) (.call 1 3 (.cons (.var 6) (.cons (.var 9) (.cons (.ife (.op DL.Op2.eq (.var 8) (.lit (.str [115, 101, 116, 95, 114, 111, 119]))) (.var 10) (.lit .non)) .nil))))) (.cons (.ite (.or (.and (.op DL.Op2.eq (.var 8) (.lit (.str [100, 114, 111, 112, 95, 114, 111, 119]))) (.op DL.Op2.nin (.var 9) (.var 6))) (.or (.op DL.Op2.gt (.blt DL.Blt.len (.cons (.var 3) .nil)) (.lit (.int (20)))) (.op DL.Op2.eq (.var 3) (.dic false)))) (.cons (.ret (.tup (.cons (.var 0) (.cons (.lit (.str [110, 111, 32, 116, 97, 98, 108, 101])) .nil)))) .nil) .nil) (.cons (.asg false (.name 4) (.call 0 1 (.cons (.var 3) .nil))) (.cons (.ite (.op DL.Op2.ne (.comp DL.ItK.vals (.cons (.var 7) .nil) [12] (.name 12) (.no (.call 2 2 (.cons (.var 4) (.cons (.var 12) .nil)))) (.var 12)) (.lst .nil)) (.cons (.ret (.tup (.cons (.var 0) (.cons (.lit (.str [110, 111, 32, 119, 111, 114, 100])) .nil)))) .nil) .nil) (.cons (.asg false (.name 5) (.comp DL.ItK.val (.cons (.blt DL.Blt.sorted (.cons (.var 7) .nil)) .nil) [11] (.name 11) (.op DL.Op2.ne (.op DL.Op2.ix (.call 3 2 (.cons (.var 2) (.cons (.op DL.Op2.ix (.var 7) (.var 11)) .nil))) (.lit (.int (0)))) (.op DL.Op2.ix (.call 3 2 (.cons (.var 4) (.cons (.op DL.Op2.ix (.var 7) (.var 11)) .nil))) (.lit (.int (0))))) (.var 11))) (.cons (.ret (.tup (.cons (.tup (.cons (.var 3) (.cons (.var 7) .nil))) (.cons (.var 5) .nil)))) .nil)))))))))))
def D__law_behind : List D → Res D := run [D__law_table_of, D__law_other, D__law_is_word, D__law_tail] M__law_behind 13
def M__law_are_same : Sms := (.cons (.ret (.and (.op DL.Op2.eq (.var 0) (.var 1)) (.op DL.Op2.eq (.isi DL.Ty6.bool (.var 0)) (.isi DL.Ty6.bool (.var 1))))) .nil)
def D__law_are_same : List D → Res D := run [] M__law_are_same 2
end DL
/-! Common mathematics, 2: reading the small language by simp. -/
namespace DL
open PySem PySem.Spec L2
def notD : D → Res D
  | .bl b => .ok (.bl (!b))
  | _ => .bad
def andD (x : D) (r : Res D) : Res D := match x with
  | .bl b => if b = true then r else .ok (.bl false)
  | _ => .bad
def orD (x : D) (r : Res D) : Res D := match x with
  | .bl b => if b = true then .ok (.bl true) else r
  | _ => .bad
@[simp] theorem blt_len : Blt.fn .len = lenR := rfl
@[simp] theorem blt_int : Blt.fn .int = intR := rfl
@[simp] theorem blt_max : Blt.fn .max = maxZ := rfl
@[simp] theorem blt_min : Blt.fn .min = minR := rfl
@[simp] theorem blt_sum : Blt.fn .sum = sumR := rfl
@[simp] theorem blt_any : Blt.fn .any = anyR := rfl
@[simp] theorem blt_all : Blt.fn .all = allR := rfl
@[simp] theorem blt_list : Blt.fn .list = listR := rfl
@[simp] theorem blt_tuple : Blt.fn .tuple = tupleR := rfl
@[simp] theorem blt_sorted : Blt.fn .sorted = sortZ := rfl
@[simp] theorem blt_dict : Blt.fn .dict = dictR := rfl
@[simp] theorem op_add : Op2.fn .add = addD := rfl
@[simp] theorem op_sub : Op2.fn .sub = subD := rfl
@[simp] theorem op_mul : Op2.fn .mul = mulD := rfl
@[simp] theorem op_fdiv : Op2.fn .fdiv = fdivD := rfl
@[simp] theorem op_mod : Op2.fn .mod = modD := rfl
@[simp] theorem op_pow : Op2.fn .pow = powD := rfl
@[simp] theorem op_eq : Op2.fn .eq = eqR := rfl
@[simp] theorem op_ne : Op2.fn .ne = neR := rfl
@[simp] theorem op_lt : Op2.fn .lt = ltR := rfl
@[simp] theorem op_le : Op2.fn .le = leR := rfl
@[simp] theorem op_gt : Op2.fn .gt = gtR := rfl
@[simp] theorem op_ge : Op2.fn .ge = geR := rfl
@[simp] theorem op_is : Op2.fn .is = isR := rfl
@[simp] theorem op_isn : Op2.fn .isn = isnR := rfl
@[simp] theorem op_inn : Op2.fn .inn = inR := rfl
@[simp] theorem op_nin : Op2.fn .nin = ninR := rfl
@[simp] theorem op_ix : Op2.fn .ix = ixR := rfl
@[simp] theorem leR_int {i j : Int} : leR (.int i) (.int j) = .ok (.bl (decide (i ≤ j))) := rfl
@[simp] theorem ltR_int {i j : Int} : ltR (.int i) (.int j) = .ok (.bl (decide (i < j))) := rfl
@[simp] theorem gtR_int {i j : Int} : gtR (.int i) (.int j) = .ok (.bl (decide (j < i))) := rfl
@[simp] theorem geR_int {i j : Int} : geR (.int i) (.int j) = .ok (.bl (decide (j ≤ i))) := rfl
@[simp] theorem addR_int {i j : Int} : addD (.int i) (.int j) = .ok (.int (i + j)) := rfl
@[simp] theorem subR_int {i j : Int} : subD (.int i) (.int j) = .ok (.int (i - j)) := rfl
@[simp] theorem lenR_str {s : List Nat} : lenR [.str s] = .ok (.int (s.length : Nat)) := rfl
@[simp] theorem lenR_lst {s : List D} : lenR [.lst s] = .ok (.int (s.length : Nat)) := rfl
@[simp] theorem lenR_tup {s : List D} : lenR [.tup s] = .ok (.int (s.length : Nat)) := rfl
@[simp] theorem isI_str {s : List Nat} : isI .str (.str s) = .ok (.bl true) := rfl
@[simp] theorem isI_tup {s : List D} : isI .tuple (.tup s) = .ok (.bl true) := rfl
@[simp] theorem isI_int {i : Int} : isI .int (.int i) = .ok (.bl true) := rfl
@[simp] theorem isI_intb {i : Int} : isI .bool (.int i) = .ok (.bl false) := rfl
@[simp] theorem allR_bls {α : Type} {f : α → Bool} {l : List α} : allR [.lst (l.map fun x => .bl (f x))] = .ok (.bl (l.all f)) := by
  have h : blsOf (l.map fun x => D.bl (f x)) = some (l.map f) := by
    induction l with
    | nil => rfl
    | cons x l ih => simp [blsOf, ih]
  show optB ((blsOf (l.map fun x => D.bl (f x))).map fun bs => bs.all id) = _
  rw [h]
  simp [optB]
@[simp] theorem notD_bl {b : Bool} : notD (.bl b) = .ok (.bl (!b)) := rfl
@[simp] theorem andD_bl {b : Bool} {r : Res D} : andD (.bl b) r = if b = true then r else .ok (.bl false) := rfl
@[simp] theorem orD_bl {b : Bool} {r : Res D} : orD (.bl b) r = if b = true then .ok (.bl true) else r := rfl
section
variable {Φ : List (List D → Res D)} {ρ : Env}
@[simp] theorem s_run {m : Sms} {N : Nat} {ds : List D} : run Φ m N ds = outD (evSs Φ m (ds.map some ++ List.replicate (N - ds.length) none)) := rfl
@[simp] theorem s_outnx : outD (.nx ρ) = .ok .non := rfl
@[simp] theorem s_outret {d : D} : outD (.ret d) = .ok d := rfl
@[simp] theorem s_outexc {c : Str} : outD (.exc ρ c) = .exc c := rfl
@[simp] theorem s_nil : evSs Φ .nil ρ = .nx ρ := by simp only [evSs]
@[simp] theorem s_cons {s : Sm} {ss : Sms} : evSs Φ (.cons s ss) ρ = seqO (evS Φ s) (evSs Φ ss) ρ := by simp only [evSs]
@[simp] theorem s_asg {t : Tg} {e : Ex} {k : Bool} : evS Φ (.asg k t e) ρ = rO ρ (kp k (ev Φ e ρ)) fun d => stO (bT t d ρ) := by simp only [evS]
@[simp] theorem s_ite {c : Ex} {a b : Sms} : evS Φ (.ite c a b) ρ = rO ρ (tst (ev Φ c) ρ) fun x => if x = true then evSs Φ a ρ else evSs Φ b ρ := by simp only [evS, iteO]
@[simp] theorem s_ret {e : Ex} : evS Φ (.ret e) ρ = rO ρ (ev Φ e ρ) .ret := by simp only [evS]
@[simp] theorem s_exp {e : Ex} : evS Φ (.exp e) ρ = rO ρ (ev Φ e ρ) fun _ => .nx ρ := by simp only [evS]
@[simp] theorem s_raise {c : Str} : evS Φ (.raise c) ρ = .exc ρ c := by simp only [evS]
def seqK (o : Out) (k : Env → Out) : Out := match o with
  | .nx ρ => k ρ
  | o => o
@[simp] theorem seqK_nx {k : Env → Out} : seqK (.nx ρ) k = k ρ := rfl
@[simp] theorem seqK_ret {k : Env → Out} {d : D} : seqK (.ret d) k = .ret d := rfl
@[simp] theorem seqK_exc {k : Env → Out} {c : Str} : seqK (.exc ρ c) k = .exc ρ c := rfl
@[simp] theorem seqK_brk {k : Env → Out} : seqK (.brk ρ) k = .brk ρ := rfl
@[simp] theorem seqK_cnt {k : Env → Out} : seqK (.cnt ρ) k = .cnt ρ := rfl
@[simp] theorem seqK_if {k : Env → Out} {c : Prop} [Decidable c] {a b : Out} : seqK (if c then a else b) k = if c then seqK a k else seqK b k := by split <;> rfl
@[simp] theorem outD_if {c : Prop} [Decidable c] {a b : Out} : outD (if c then a else b) = if c then outD a else outD b := by split <;> rfl
@[simp] theorem rO_if {α : Type} {c : Prop} [Decidable c] {a b : Res α} {k : α → Out} : rO ρ (if c then a else b) k = if c then rO ρ a k else rO ρ b k := by split <;> rfl
@[simp] theorem s_seq {f g : Env → Out} : seqO f g ρ = seqK (f ρ) g := by unfold seqO seqK; cases f ρ <;> rfl
@[simp] theorem s_rok {α : Type} {a : α} {k : α → Out} : rO ρ (.ok a) k = k a := rfl
@[simp] theorem s_rexc {α : Type} {c : Str} {k : α → Out} : rO ρ (.exc c : Res α) k = .exc ρ c := rfl
@[simp] theorem s_stO {ρ' : Env} : stO (.ok ρ') = .nx ρ' := rfl
@[simp] theorem s_kp {r : Res D} : kp false r = r := kp_false r
@[simp] theorem s_bT {i : Nat} {d : D} : bT (.name i) d ρ = .ok (ρ.set i (some d)) := rfl
@[simp] theorem s_var {i : Nat} : ev Φ (.var i) ρ = match ρ[i]? with | some (some d) => .ok d | _ => .bad := rfl
@[simp] theorem s_lit {d : D} : ev Φ (.lit d) ρ = .ok d := by simp only [ev, cst]
@[simp] theorem s_op {o : Op2} {a b : Ex} : ev Φ (.op o a b) ρ = (ev Φ a ρ).bind fun x => (ev Φ b ρ).bind fun y => o.fn x y := by simp only [ev, ap2]
@[simp] theorem s_no {a : Ex} : ev Φ (.no a) ρ = (ev Φ a ρ).bind notD := by simp only [ev, notV]; refine congrArg _ (funext fun x => ?_); cases x <;> rfl
@[simp] theorem s_and {a b : Ex} : ev Φ (.and a b) ρ = (ev Φ a ρ).bind fun x => andD x (ev Φ b ρ) := by simp only [ev, andV]; refine congrArg _ (funext fun x => ?_); cases x with
  | bl k => cases k <;> rfl
  | _ => rfl
@[simp] theorem s_or {a b : Ex} : ev Φ (.or a b) ρ = (ev Φ a ρ).bind fun x => orD x (ev Φ b ρ) := by simp only [ev, orV]; refine congrArg _ (funext fun x => ?_); cases x with
  | bl k => cases k <;> rfl
  | _ => rfl
@[simp] theorem s_ife {c a b : Ex} : ev Φ (.ife c a b) ρ = (tst (ev Φ c) ρ).bind fun x => if x = true then ev Φ a ρ else ev Φ b ρ := by simp only [ev, ifV]
@[simp] theorem s_blt {b : Blt} {es : Exs} : ev Φ (.blt b es) ρ = (evs Φ es ρ).bind b.fn := by simp only [ev]
@[simp] theorem s_isi {T : Ty6} {a : Ex} : ev Φ (.isi T a) ρ = (ev Φ a ρ).bind (isI T) := by simp only [ev]
@[simp] theorem s_chain {o o' : Op2} {a b c : Ex} : ev Φ (.chain o o' a b c) ρ = (ev Φ a ρ).bind fun x => (ev Φ b ρ).bind fun y => (o.fn x y).bind fun z => andD z ((ev Φ c ρ).bind fun w => o'.fn y w) := by
  simp only [ev, chainV]
  refine congrArg _ (funext fun x => congrArg _ (funext fun y => congrArg _ (funext fun z => ?_)))
  cases z with
  | bl k => cases k <;> rfl
  | _ => rfl
@[simp] theorem outD_ret {r : Res D} : outD (rO ρ r .ret) = r := by cases r <;> rfl
@[simp high] theorem s_retl {e : Ex} {ss : Sms} : evSs Φ (.cons (.ret e) ss) ρ = rO ρ (ev Φ e ρ) .ret := by
  simp only [evSs, evS, seqO]
  cases ev Φ e ρ <;> rfl
@[simp] theorem wipe_nil : wipeD ρ [] = ρ := rfl
@[simp] theorem wipe_cons {v : Nat} {vs : List Nat} : wipeD ρ (v :: vs) = (wipeD ρ vs).set v none := rfl
@[simp] theorem s_sset {a : Ex} : ev Φ (.sset a) ρ = (ev Φ a ρ).bind sortSetR := by simp only [ev]
@[simp] theorem s_lset {a : Ex} : ev Φ (.lset a) ρ = (ev Φ a ρ).bind lenSetR := by simp only [ev]
@[simp] theorem s_tup {es : Exs} : ev Φ (.tup es) ρ = (evs Φ es ρ).bind fun ds => if tabB ds = true then .bad else .ok (.tup ds) := by simp only [ev, tupV]
@[simp] theorem s_lst {es : Exs} : ev Φ (.lst es) ρ = (evs Φ es ρ).bind fun ds => .ok (.lst ds) := by simp only [ev, lstV]
@[simp] theorem s_enil : evs Φ .nil ρ = .ok [] := by simp only [evs, argsN]
@[simp] theorem s_econs {e : Ex} {es : Exs} : evs Φ (.cons e es) ρ = (ev Φ e ρ).bind fun x => (evs Φ es ρ).bind fun xs => .ok (x :: xs) := by simp only [evs, argsC]
end
theorem compL_map {g : D → Env → Res Env} {ft : Env → Res Bool} {fe : Env → Res D} {ρ : Env} {B : D → Bool} {V : D → D} : ∀ {items : List D}, (∀ d ∈ items, ∃ ρ1, g d ρ = .ok ρ1 ∧ ft ρ1 = .ok (B d) ∧ (B d = true → fe ρ1 = .ok (V d))) → compL g ft fe ρ items = .ok ((items.filter B).map V)
  | [], _ => rfl
  | d :: ds, h => by
    obtain ⟨ρ1, h1, h2, h3⟩ := h d List.mem_cons_self
    have i := compL_map (items := ds) fun x hx => h x (List.mem_cons_of_mem _ hx)
    unfold compL
    rw [h1]
    show ((ft ρ1).calm.bind _) = _
    rw [h2]
    show (if B d = true then _ else _) = _
    cases hb : B d with
    | true =>
      rw [if_pos rfl, h3 hb, i, List.filter_cons_of_pos hb]
      rfl
    | false =>
      rw [if_neg Bool.false_ne_true, i, List.filter_cons_of_neg (by rw [hb]; exact Bool.false_ne_true)]
/-- a comprehension -/
theorem compV_map {fi : Env → Res (List D)} {vs : List Nat} {g : D → Env → Res Env} {ft : Env → Res Bool} {fe : Env → Res D} {ρ : Env} {items : List D} (B : D → Bool) (V : D → D) (hi : fi ρ = .ok items) (h : ∀ d ∈ items, ∃ ρ1, g d (wipeD ρ vs) = .ok ρ1 ∧ ft ρ1 = .ok (B d) ∧ (B d = true → fe ρ1 = .ok (V d))) : compV fi vs g ft fe ρ = .ok (.lst ((items.filter B).map V)) := by
  unfold compV
  rw [hi, Res.bind_ok, compL_map h]
  rfl
/-- a comprehension over the data f a of the a in l -/
theorem comp_if {α : Type} {Φ : List (List D → Res D)} {k : ItK} {es : Exs} {vs : List Nat} {tg : Tg} {t e : Ex} {ρ : Env} (l : List α) (f V : α → D) (B : α → Bool) (hi : (evs Φ es ρ).bind k.fn = .ok (l.map f))
    (h : ∀ a ∈ l, ∃ ρ1, bT tg (f a) (wipeD ρ vs) = .ok ρ1 ∧ tst (ev Φ t) ρ1 = .ok (B a) ∧ (B a = true → ev Φ e ρ1 = .ok (V a))) : ev Φ (.comp k es vs tg t e) ρ = .ok (.lst ((l.filter B).map V)) := by
  have key : compL (bT tg) (tst (ev Φ t)) (ev Φ e) (wipeD ρ vs) (l.map f) = .ok ((l.filter B).map V) := by
    clear hi
    induction l with
    | nil => rfl
    | cons a l ih =>
      obtain ⟨ρ1, h1, h2, h3⟩ := h a List.mem_cons_self
      have i := ih fun x hx => h x (List.mem_cons_of_mem _ hx)
      rw [List.map_cons]
      unfold compL
      rw [h1]
      show ((tst (ev Φ t) ρ1).calm.bind _) = _
      rw [h2]
      show (if B a = true then _ else _) = _
      cases hb : B a with
      | true =>
        rw [if_pos rfl, h3 hb, i, List.filter_cons_of_pos hb]
        rfl
      | false =>
        rw [if_neg Bool.false_ne_true, i, List.filter_cons_of_neg (by rw [hb]; exact Bool.false_ne_true)]
  simp only [ev, compV]
  rw [hi, Res.bind_ok, key]
  rfl
theorem comp_all {α : Type} {Φ : List (List D → Res D)} {k : ItK} {es : Exs} {vs : List Nat} {tg : Tg} {e : Ex} {ρ : Env} (l : List α) (f V : α → D) (hi : (evs Φ es ρ).bind k.fn = .ok (l.map f))
    (h : ∀ a ∈ l, ∃ ρ1, bT tg (f a) (wipeD ρ vs) = .ok ρ1 ∧ ev Φ e ρ1 = .ok (V a)) : ev Φ (.comp k es vs tg (.lit (.bl true)) e) ρ = .ok (.lst (l.map V)) := by
  have := comp_if (t := .lit (.bl true)) (e := e) l f V (fun _ => true) hi fun a ha => by
    obtain ⟨ρ1, h1, h2⟩ := h a ha
    exact ⟨ρ1, h1, rfl, fun _ => h2⟩
  rw [this]
  congr 2
  rw [List.filter_eq_self.mpr (fun _ _ => rfl)]
theorem blsOf_map {α : Type} (f : α → Bool) : ∀ l : List α, blsOf (l.map fun x => D.bl (f x)) = some (l.map f)
  | [] => rfl
  | x :: l => by simp [blsOf, blsOf_map f l]
def smallB (c : Nat) : Bool := decide (c ∈ [97, 98, 99, 100, 101, 102, 103, 104, 105, 106, 107, 108, 109, 110, 111, 112, 113, 114, 115, 116, 117, 118, 119, 120, 121, 122])
def lettersB (s : List Nat) (a b : Int) : Bool := decide (a ≤ (s.length : Nat)) && decide ((s.length : Nat) ≤ b) && s.all smallB
theorem signs_comp {Φ : List (List D → Res D)} {e : Ex} {ρ : Env} {s : List Nat} {vs : List Nat} {i : Nat} (B : Nat → Bool) {iter : Exs} (hi : (evs Φ iter ρ) = .ok [.str s]) (hw : ∀ c ∈ s, ev Φ e ((wipeD ρ vs).set i (some (.str [c]))) = .ok (.bl (B c))) :
    ev Φ (.comp .val iter vs (.name i) (.lit (.bl true)) e) ρ = .ok (.lst (s.map fun c => .bl (B c))) := by
  have h := compV_map (fi := fun ρ => (evs Φ iter ρ).bind ItK.val.fn) (vs := vs) (g := bT (.name i)) (ft := tst (ev Φ (.lit (.bl true)))) (fe := ev Φ e) (ρ := ρ) (items := signs s) (fun _ => true) (fun d => match d with | .str [c] => .bl (B c) | _ => .non) (by
    show (evs Φ iter ρ).bind _ = _
    rw [hi]
    rfl) fun d hd => by
    obtain ⟨c, hc, rfl⟩ := List.mem_map.mp hd
    exact ⟨_, rfl, rfl, fun _ => hw c hc⟩
  have e1 : ((signs s).filter fun _ => true) = signs s := by simp
  rw [e1] at h
  refine h.trans ?_
  unfold signs
  rw [List.map_map]
  rfl
theorem is_letters_str (s : List Nat) (a b : Int) : D_is_letters [.str s, .int a, .int b] = .ok (.bl (lettersB s a b)) := by
  have h := signs_comp (Φ := []) (e := .op .inn (.var 3) (.lit (.str [97, 98, 99, 100, 101, 102, 103, 104, 105, 106, 107, 108, 109, 110, 111, 112, 113, 114, 115, 116, 117, 118, 119, 120, 121, 122]))) (ρ := [some (.str s), some (.int a), some (.int b), none]) (s := s) (vs := [3]) (i := 3) smallB (iter := .cons (.var 0) .nil) rfl fun c hc => rfl
  have hb := blsOf_map smallB s
  simp [D_is_letters, M_is_letters, h, lettersB]
  by_cases h1 : a ≤ (s.length : Nat) <;> by_cases h2 : (s.length : Nat) ≤ b <;> simp [h1, h2]
/-! ### rows, tables -/
@[simp] theorem s_call {Φ : List (List D → Res D)} {ρ : Env} {j n : Nat} {es : Exs} : ev Φ (.call j n es) ρ = (evs Φ es ρ).bind fun ds => if ds.length = n then (Φ.getD j fun _ => .bad) ds else .bad := by
  simp only [ev, callV]
@[simp] theorem ix_tup0 {a : D} {l : List D} : ixR (.tup (a :: l)) (.int 0) = .ok a := by
  have : (0 : Int) < ((a :: l).length : Nat) := by simp
  simp [ixR, atI, ixN]
@[simp] theorem ix_tup1 {a b : D} {l : List D} : ixR (.tup (a :: b :: l)) (.int 1) = .ok b := by
  have h : (1 : Int) < ((a :: b :: l).length : Nat) := by simp only [List.length_cons]; omega
  simp only [ixR, atI, ixN]
  rw [if_pos (by decide), if_pos h]
  rfl
@[simp] theorem neR_int {i j : Int} : neR (.int i) (.int j) = .ok (.bl (decide (i ≠ j))) := by
  simp only [neR, plain, eqD]
  by_cases h : i = j <;> simp [h]
@[simp] theorem eqR_int {i j : Int} : eqR (.int i) (.int j) = .ok (.bl (decide (i = j))) := by
  simp only [eqR, plain, eqD]
  by_cases h : i = j <;> simp [h]
@[simp] theorem tst_ev {Φ : List (List D → Res D)} {ρ : Env} {e : Ex} : tst (ev Φ e) ρ = (ev Φ e ρ).bind tb := rfl
@[simp] theorem tb_bl {b : Bool} : tb (.bl b) = .ok b := rfl
def soundsL : List Nat := [65, 69, 73, 79, 85, 66, 68, 70, 71, 75, 76, 77, 78, 80, 82, 83, 84, 86, 90]
def soundB (c : Nat) : Bool := decide (c ∈ soundsL)
def rowB (l z : List Nat) : Bool := lettersB l 1 3 && decide (z.length ≤ 2) && z.all soundB
theorem is_row_pair (l z : List Nat) : D_is_row [.tup [.str l, .str z]] = .ok (.bl (rowB l z)) := by
  have h := signs_comp (Φ := [D_is_letters]) (e := .op .inn (.var 1) (.op .add (.lit (.str [65, 69, 73, 79, 85])) (.lit (.str [66, 68, 70, 71, 75, 76, 77, 78, 80, 82, 83, 84, 86, 90])))) (ρ := [some (.tup [.str l, .str z]), none]) (s := z) (vs := [1]) (i := 1) soundB (iter := .cons (.op .ix (.var 0) (.lit (.int 1))) .nil) (by simp) fun c hc => rfl
  have hl := is_letters_str l 1 3
  cases hb : lettersB l 1 3 with
  | false => rw [hb] at hl; simp [D_is_row, M_is_row, hl, rowB, hb]
  | true =>
    rw [hb] at hl
    simp [D_is_row, M_is_row, h, rowB, hl, hb]
    by_cases h2 : z.length ≤ 2
    · have h3 : ((z.length : Nat) : Int) ≤ 2 := by omega
      simp [h2, h3]
    · have h3 : ¬ ((z.length : Nat) : Int) ≤ 2 := by omega
      simp [h2, h3]
end DL
/-! Common mathematics, 3: tables. -/
namespace DL
open PySem PySem.Spec L2
abbrev Rows := List (List Nat × List Nat)
def rowsD (t : Rows) : List D := t.map fun p => .tup [.str p.1, .str p.2]
theorem plain_strs (n : Nat) (l : List (List Nat)) : (l.map D.str).all (plain n) = true := by
  rw [List.all_map, List.all_eq_true]
  intro x _
  cases n <;> rfl
theorem eqDs_strs : ∀ l m : List (List Nat), eqDs (l.map D.str) (m.map D.str) = decide (l = m)
  | [], [] => rfl
  | [], _ :: _ => rfl
  | _ :: _, [] => rfl
  | x :: l, y :: m => by
    simp only [List.map_cons, eqDs, eqD, eqDs_strs l m]
    by_cases h : x = y <;> by_cases h2 : l = m <;> simp [h, h2]
theorem eqR_strs (l m : List (List Nat)) : eqR (.lst (l.map D.str)) (.lst (m.map D.str)) = .ok (.bl (decide (l = m))) := by
  unfold eqR
  rw [if_pos ⟨show (l.map D.str).all (plain 59) = true from plain_strs _ _, show (m.map D.str).all (plain 59) = true from plain_strs _ _⟩]
  simp only [eqD, eqDs_strs]
theorem strsOf_map : ∀ l : List (List Nat), strsOf (l.map D.str) = some l
  | [] => rfl
  | x :: l => by simp [strsOf, strsOf_map l]
theorem sortSet_strs {l : List (List Nat)} (h : l.length < 4000) (h0 : l ≠ []) : sortSetR (.lst (l.map D.str)) = .ok (.lst ((isort ltN (nub l)).map D.str)) := by
  cases l with
  | nil => exact absurd rfl h0
  | cons x l =>
    have e : skOf (.lst ((x :: l).map D.str)) = some (.s (x :: l)) := by
      unfold skOf
      dsimp only
      rw [if_pos (by rw [List.length_map]; exact h)]
      show (match intsOf ((x :: l).map D.str) with | some ns => some (SK.i ns) | none => (strsOf ((x :: l).map D.str)).map SK.s) = _
      rw [strsOf_map]
      rfl
    unfold sortSetR
    rw [e]
    rfl
theorem nub_go {α : Type} [DecidableEq α] : ∀ (xs acc : List α), xs.Nodup → (∀ x ∈ xs, x ∉ acc) → xs.foldl (fun acc x => if x ∈ acc then acc else x :: acc) acc = xs.reverse ++ acc
  | [], acc, _, _ => rfl
  | x :: xs, acc, h, ha => by
    obtain ⟨h1, h2⟩ := List.nodup_cons.mp h
    rw [List.foldl_cons, if_neg (ha x List.mem_cons_self), nub_go xs (x :: acc) h2 fun y hy z => ?_]
    · simp
    · rcases List.mem_cons.mp z with e | e
      · exact h1 (e ▸ hy)
      · exact ha y (List.mem_cons_of_mem _ hy) e
/-- rising, unlike -/
abbrev Up (l : List (List Nat)) : Prop := l.Pairwise fun a b => a < b
theorem Up.nodup {l : List (List Nat)} (h : Up l) : l.Nodup := h.imp fun hab e => by subst e; exact List.lt_irrefl _ hab
theorem Up.rising {l : List (List Nat)} (h : Up l) : Rising ltN l := h.imp fun hab => by
  unfold ltN
  exact decide_eq_false (List.lt_asymm hab)
theorem Up.sorted {l : List (List Nat)} (h : Up l) : isort ltN (nub l) = l := by
  have e : nub l = l.reverse := by
    have := nub_go l [] h.nodup (by simp)
    simpa [nub] using this
  rw [e]
  exact (isort_eq swoN totN (List.reverse_perm l).symm h.rising).symm
/-- a table -/
structure TabOk (t : Rows) : Prop where
  pos : 1 ≤ t.length
  le : t.length ≤ 20
  rows : ∀ p ∈ t, rowB p.1 p.2 = true
  up : Up (t.map (·.1))
theorem rowsD_length (t : Rows) : (rowsD t).length = t.length := by simp [rowsD]
theorem is_table_ok {t : Rows} (h : TabOk t) : D_is_table [.tup (rowsD t)] = .ok (.bl true) := by
  have c1 : ev [D_is_row] (.comp .val (.cons (.var 0) .nil) [2] (.name 2) (.lit (.bl true)) (.call 0 1 (.cons (.var 2) .nil))) [some (.tup (rowsD t)), none, none] = .ok (.lst (t.map fun p => .bl (rowB p.1 p.2))) :=
    comp_all t (fun p => .tup [.str p.1, .str p.2]) _ rfl fun p hp => ⟨_, rfl, is_row_pair p.1 p.2⟩
  have c2 : ev [D_is_row] (.comp .val (.cons (.var 0) .nil) [2] (.name 2) (.lit (.bl true)) (.op .ix (.var 2) (.lit (.int 0)))) [some (.tup (rowsD t)), none, none] = .ok (.lst (t.map fun p => .str p.1)) :=
    comp_all t (fun p => .tup [.str p.1, .str p.2]) _ rfl fun p hp => ⟨_, rfl, by simp⟩
  have l1 : (1 : Int) ≤ (t.length : Nat) := by have := h.pos; omega
  have l2 : ((t.length : Nat) : Int) ≤ 20 := by have := h.le; omega
  have hne : t.map (·.1) ≠ [] := fun z => by have := h.pos; rw [List.map_eq_nil_iff] at z; rw [z] at this; simp at this
  have s1 := sortSet_strs (l := t.map (·.1)) (by rw [List.length_map]; have := h.le; omega) hne
  rw [h.up.sorted] at s1
  have ha : t.all (fun p => rowB p.1 p.2) = true := List.all_eq_true.mpr h.rows
  have e1 : (t.map fun p => D.str p.1) = (t.map (·.1)).map D.str := by simp
  simp [D_is_table, M_is_table, c1, c2, rowsD_length, l1, l2, ha, -List.map_map]
  rw [e1]
  simp [s1, eqR_strs, -List.map_map]
end DL
/-! Common mathematics, 4: a table as a dict; look_table; the parts of a text. -/
namespace DL
open PySem PySem.Spec L2
def dicT (t : Rows) : List (D × D) := t.map fun p => (.str p.1, .str p.2)
theorem pairsD_rows : ∀ t : Rows, pairsD (rowsD t) = some (dicT t)
  | [] => rfl
  | p :: t => by
    have i := pairsD_rows t
    unfold rowsD dicT at i ⊢
    rw [List.map_cons]
    simp only [pairsD, key0, if_true]
    rw [i]
    rfl
theorem tabB_rows {t : Rows} (h : t ≠ []) : tabB (rowsD t) = true := by
  cases t with
  | nil => exact absurd rfl h
  | cons p t =>
    show (true && ((t.map fun p : List Nat × List Nat => D.tup [.str p.1, .str p.2]).all txtPair)) = true
    rw [Bool.true_and, List.all_map, List.all_eq_true]
    intro x _
    rfl
theorem hasD_T (t : Rows) (k : List Nat) : hasD (dicT t) (.str k) = decide (k ∈ t.map (·.1)) := by
  unfold hasD dicT
  rw [List.any_map]
  induction t with
  | nil => rfl
  | cons p t ih =>
    rw [List.any_cons, ih]
    show ((p.1 == k) || _) = _
    by_cases h : p.1 = k
    · subst h; simp
    · have h' : ¬ k = p.1 := fun z => h z.symm
      have e : (p.1 == k) = false := by simpa using h
      rw [e, Bool.false_or]
      simp only [List.map_cons, List.mem_cons, h', false_or]
theorem merge_T : ∀ (t s : Rows), (s ++ t).Pairwise (fun a b => a.1 ≠ b.1) → mergeD (dicT s) (dicT t) = dicT (s ++ t)
  | [], s, _ => by simp [mergeD, dicT]
  | p :: t, s, h => by
    have hn : hasD (dicT s) (.str p.1) = false := by
      rw [hasD_T]
      refine decide_eq_false fun z => ?_
      obtain ⟨q, hq, e⟩ := List.mem_map.mp z
      exact (List.pairwise_append.mp h).2.2 q hq p List.mem_cons_self e
    have e : putD (dicT s) (.str p.1) (.str p.2) = dicT (s ++ [p]) := by
      unfold putD
      rw [hn, if_neg Bool.false_ne_true]
      simp [dicT]
    show mergeD (putD (dicT s) (.str p.1) (.str p.2)) (dicT t) = _
    rw [e, merge_T t (s ++ [p]) (by simpa using h)]
    simp
theorem TabOk.ne {t : Rows} (h : TabOk t) : t ≠ [] := fun z => by have := h.pos; rw [z] at this; simp at this
theorem TabOk.unlike {t : Rows} (h : TabOk t) : t.Pairwise fun a b => a.1 ≠ b.1 := by
  have := h.up.nodup
  rw [List.Nodup, List.pairwise_map] at this
  exact this
theorem dict_T {t : Rows} (h : TabOk t) : dictR [.tup (rowsD t)] = .ok (.dic false (dicT t)) := by
  simp only [dictR, tabB_rows h.ne, if_true, pairsD_rows]
  have := merge_T t [] (by simpa using h.unlike)
  simp only [List.nil_append] at this
  have e : dicT [] = [] := rfl
  rw [e] at this
  rw [this]
/-- the sounds of a part -/
def sndT (t : Rows) (k : List Nat) : Option (List Nat) := (t.find? fun p => decide (p.1 = k)).map (·.2)
theorem look_T (t : Rows) (k : List Nat) : lookD (dicT t) (.str k) = (sndT t k).map D.str := by
  unfold sndT dicT
  induction t with
  | nil => rfl
  | cons p t ih =>
    rw [List.map_cons, List.find?_cons]
    simp only [lookD, eqD]
    by_cases h : p.1 = k
    · simp [h]
    · simp [h]
      simpa using ih
theorem look_table_ok {t : Rows} (h : TabOk t) : D_look_table [.tup (rowsD t)] = .ok .non := by
  simp [D_look_table, M_look_table, is_table_ok h]
end DL
/-! Common mathematics, 5: the parts of a text. -/
namespace DL
open PySem PySem.Spec L2
/-- a piece of a list -/
theorem cut_mid {α : Type} (xs : List α) (a k : Nat) (h : a ≤ xs.length) : cutL xs (some (a : Int)) (some ((a : Int) + (k : Int))) = (xs.drop a).take k := by
  have e : ((a : Int) + (k : Int)) = ((a + k : Nat) : Int) := by omega
  unfold cutL
  rw [e, HT.sIx_nat, HT.sIx_nat, Nat.min_eq_left h]
  by_cases hk : a + k ≤ xs.length
  · rw [Nat.min_eq_left hk]
    congr 1
    omega
  · rw [Nat.min_eq_right (by omega), List.take_of_length_le (by simp), List.take_of_length_le (by rw [List.length_drop]; omega)]
theorem inR_dic {x : List Nat} {kvs : List (D × D)} : inR (.str x) (.dic false kvs) = .ok (.bl (lookD kvs (.str x)).isSome) := by
  cases x with
  | nil => rfl
  | cons c r => cases r <;> rfl
@[simp] theorem s_slice {Φ : List (List D → Res D)} {ρ : Env} {a : Ex} {l h : Exs} : ev Φ (.slice a l h) ρ = (ev Φ a ρ).bind fun x => ((evs Φ l ρ).bind partL).bind fun l => ((evs Φ h ρ).bind partL).bind fun h => slR l h x := by
  simp only [ev, apSl]
@[simp] theorem partL_nil : partL [] = .ok none := rfl
@[simp] theorem partL_one {i : Int} : partL [.int i] = .ok (some i) := rfl
@[simp] theorem slR_str {l h : Option Int} {s : List Nat} : slR l h (.str s) = .ok (.str (cutL s l h)) := rfl
@[simp] theorem slR_lst {l h : Option Int} {s : List D} : slR l h (.lst s) = .ok (.lst (cutL s l h)) := rfl
/-- the lengths of the parts that stand ahead -/
def lenAt (t : Rows) (w : List Nat) : List Nat := [3, 2, 1].filter fun k => (sndT t (w.take k)).isSome && decide (k ≤ w.length)
def partsF : Nat → Rows → List Nat → Option (List (List Nat))
  | 0, _, _ => none
  | n + 1, t, w => if w = [] then some [] else match lenAt t w with
    | [] => none
    | k :: _ => (partsF n t (w.drop k)).map (w.take k :: ·)
abbrev partsC : Ex := (.op DL.Op2.lt (.var 4) (.blt DL.Blt.len (.cons (.var 1) .nil)))
abbrev partsK : Ex := (.comp DL.ItK.val (.cons (.tup (.cons (.lit (.int (3))) (.cons (.lit (.int (2))) (.cons (.lit (.int (1))) .nil)))) .nil) [6] (.name 6) (.and (.op DL.Op2.inn (.slice (.var 1) (.cons (.var 4) .nil) (.cons (.op DL.Op2.add (.var 4) (.var 6)) .nil)) (.var 2)) (.op DL.Op2.le (.op DL.Op2.add (.var 4) (.var 6)) (.blt DL.Blt.len (.cons (.var 1) .nil)))) (.var 6))
abbrev partsB : Sms := M_parts_of_1
theorem partsK_ok (t : Rows) (w : List Nat) (a : Nat) (ha : a ≤ w.length) (x0 x3 x5 x6 : Option D) :
    ev [] partsK [x0, some (.str w), some (.dic false (dicT t)), x3, some (.int a), x5, x6] = .ok (.lst ((lenAt t (w.drop a)).map fun k => .int (k : Nat))) := by
  refine comp_if (Φ := []) [3, 2, 1] (fun k : Nat => D.int (k : Nat)) (fun k => .int (k : Nat)) (fun k => (sndT t ((w.drop a).take k)).isSome && decide (k ≤ (w.drop a).length)) rfl fun k hk => ⟨_, rfl, ?_, fun _ => rfl⟩
  simp [cut_mid w a k ha, inR_dic, look_T]
  by_cases h : k ≤ w.length - a
  · have h' : (a : Int) + k ≤ w.length := by omega
    cases hs : (sndT t (List.take k (List.drop a w))).isSome <;> simp [h, h', hs]
  · have h' : ¬ (a : Int) + k ≤ w.length := by omega
    simp [h, h']
theorem lenAt_pos {t : Rows} {w : List Nat} {k : Nat} (h : k ∈ lenAt t w) : 1 ≤ k ∧ k ≤ w.length := by
  unfold lenAt at h
  rw [List.mem_filter, Bool.and_eq_true, decide_eq_true_eq] at h
  obtain ⟨h1, _, h2⟩ := h
  refine ⟨?_, h2⟩
  simp only [List.mem_cons, List.not_mem_nil, or_false] at h1
  omega
theorem s_app {Φ : List (List D → Res D)} {ρ : Env} {i : Nat} {k : Bool} {e : Ex} : evS Φ (.app i k e) ρ = appO i (fun ρ => kp k (ev Φ e ρ)) ρ := by simp only [evS]
theorem eqR_nil {l : List Nat} : eqR (.lst (l.map fun k => D.int (k : Nat))) (.lst []) = .ok (.bl (decide (l = []))) := by
  have hp : plain 60 (.lst (l.map fun k => D.int (k : Nat))) = true := by
    show (l.map fun k => D.int (k : Nat)).all (plain 59) = true
    rw [List.all_map, List.all_eq_true]
    intro x _
    rfl
  unfold eqR
  rw [if_pos ⟨hp, rfl⟩]
  cases l <;> rfl
theorem ix_lst0 {a : D} {l : List D} : ixR (.lst (a :: l)) (.int 0) = .ok a := by
  have h : (0 : Int) < ((a :: l).length : Nat) := by simp only [List.length_cons]; omega
  simp only [ixR, atI, ixN]
  rw [if_pos (by decide), if_pos h]
  rfl
theorem parts_loop (t : Rows) (w : List Nat) (hw : w.length ≤ 16777215) (x0 x6 : Option D) : ∀ (n a : Nat) (made : List D) (x5 : Option D), a ≤ w.length → w.length - a < n → made.length ≤ a →
    match partsF n t (w.drop a) with
    | none => whlO (tst (ev [] partsC)) (evSs [] partsB) n [x0, some (.str w), some (.dic false (dicT t)), some (.lst made), some (.int a), x5, x6] = .ret .non
    | some ps => ∃ y5, whlO (tst (ev [] partsC)) (evSs [] partsB) n [x0, some (.str w), some (.dic false (dicT t)), some (.lst made), some (.int a), x5, x6] = .nx [x0, some (.str w), some (.dic false (dicT t)), some (.lst (made ++ ps.map D.str)), some (.int (w.length : Nat)), y5, x6]
  | 0, a, made, x5, ha, hn, hm => by omega
  | n + 1, a, made, x5, ha, hn, hm => by
    unfold partsF whlO
    by_cases he : w.drop a = []
    · have : w.length ≤ a := by simpa using he
      have e : a = w.length := by omega
      subst e
      rw [if_pos he]
      refine ⟨x5, ?_⟩
      simp
    · have hlt : a < w.length := by
        rcases Nat.lt_or_ge a w.length with z | z
        · exact z
        · exact absurd (List.drop_eq_nil_of_le z) he
      have hlt' : (a : Int) < w.length := by omega
      rw [if_neg he]
      have hk := partsK_ok t w a ha x0 (some (.lst made)) x5 x6
      cases hl : lenAt t (w.drop a) with
      | nil =>
        rw [hl] at hk
        dsimp only
        have e0 : eqR (.lst []) (.lst []) = .ok (.bl true) := rfl
        simp [M_parts_of_1, hk, hlt', e0, s_app]
      | cons k ks =>
        have hkp := lenAt_pos (t := t) (w := w.drop a) (k := k) (by rw [hl]; exact List.mem_cons_self)
        rw [List.length_drop] at hkp
        rw [hl] at hk
        have e0 := eqR_nil (l := k :: ks)
        simp only [List.map_cons] at e0 hk
        have ih := parts_loop t w hw x0 x6 n (a + k) (made ++ [.str ((w.drop a).take k)]) (some (.lst (.int k :: ks.map fun k => .int (k : Nat)))) (by omega) (by omega) (by rw [List.length_append]; simp; omega)
        have hml : made.length < 16777216 := by omega
        have step : evSs [] partsB [x0, some (.str w), some (.dic false (dicT t)), some (.lst made), some (.int a), x5, x6] = .nx [x0, some (.str w), some (.dic false (dicT t)), some (.lst (made ++ [.str ((w.drop a).take k)])), some (.int ((a : Int) + k)), some (.lst (.int k :: ks.map fun k => .int (k : Nat))), x6] := by
          simp [M_parts_of_1, hk, e0, s_app, appO, ix_lst0, cut_mid w a k ha, hml]
        have ec : (((a + k : Nat) : Int)) = (a : Int) + k := by omega
        rw [ec, ← List.drop_drop] at ih
        have et : tst (ev [] partsC) [x0, some (.str w), some (.dic false (dicT t)), some (.lst made), some (.int a), x5, x6] = .ok true := by simp [hlt']
        dsimp only
        rw [et]
        simp only [s_rok, if_true]
        rw [step]
        cases hq : partsF n t (((w.drop a)).drop k) with
        | none => rw [hq] at ih; simpa using ih
        | some ps =>
          rw [hq] at ih
          obtain ⟨y5, ih⟩ := ih
          exact ⟨y5, by simpa using ih⟩
@[simp] theorem s_whl {Φ : List (List D → Res D)} {ρ : Env} {n : Nat} {c : Ex} {b : Sms} : evS Φ (.whl n c b) ρ = whlO (tst (ev Φ c)) (evSs Φ b) n ρ := by simp only [evS]
def optL : Option (List (List Nat)) → D
  | none => .non
  | some ps => .lst (ps.map D.str)
theorem parts_of_ok {t : Rows} (h : TabOk t) {w : List Nat} (hw : w.length < 1000) : D_parts_of [.tup (rowsD t), .str w] = .ok (optL (partsF 1000 t w)) := by
  have lp := parts_loop t w (by omega) (some (.tup (rowsD t))) none 1000 0 [] none (Nat.zero_le _) (by omega) (Nat.zero_le _)
  rw [List.drop_zero] at lp
  have e : (((0 : Nat) : Int)) = 0 := rfl
  rw [e] at lp
  cases hq : partsF 1000 t w with
  | none =>
    rw [hq] at lp
    simp [D_parts_of, M_parts_of, dict_T h, lp, optL]
  | some ps =>
    rw [hq] at lp
    obtain ⟨y5, lp⟩ := lp
    simp [D_parts_of, M_parts_of, dict_T h, lp, optL]
end DL
/-! Common mathematics, S: comprehensions and loops read by simp. -/
namespace DL
open PySem PySem.Spec L2
@[simp] theorem calm_ok {α : Type} {a : α} : (Res.ok a).calm = .ok a := rfl
/-- a comprehension's turns -/
def compM {α : Type} (F : α → Res (Option D)) : List α → Res (List D)
  | [] => .ok []
  | a :: l => (F a).bind fun o => match o with
    | some x => (compM F l).bind fun xs => .ok (x :: xs)
    | none => compM F l
theorem compM_congr0 {α : Type} {F F' : α → Res (Option D)} : ∀ {l : List α}, (∀ a, a ∈ l → F a = F' a) → compM F l = compM F' l
  | [], _ => rfl
  | a :: l, h => by
    unfold compM
    rw [h a List.mem_cons_self, compM_congr0 fun x hx => h x (List.mem_cons_of_mem _ hx)]
theorem compM_map {α β : Type} {F : β → Res (Option D)} {f : α → β} : ∀ {l : List α}, compM F (l.map f) = compM (fun a => F (f a)) l
  | [] => rfl
  | a :: l => by simp only [List.map_cons, compM, compM_map]
theorem compM_if {α : Type} {p : α → Bool} {g : α → D} : ∀ {l : List α}, compM (fun a => if p a = true then .ok (some (g a)) else .ok none) l = .ok ((l.filter p).map g)
  | [] => rfl
  | a :: l => by
    simp only [compM, compM_if]
    cases h : p a <;> simp [h]
theorem compL_M {g : D → Env → Res Env} {ft : Env → Res Bool} {fe : Env → Res D} {ρ : Env} : ∀ ds : List D, compL g ft fe ρ ds = compM (fun d => (g d ρ).calm.bind fun ρ1 => (ft ρ1).calm.bind fun b => if b = true then (fe ρ1).calm.bind fun x => .ok (some x) else .ok none) ds
  | [] => rfl
  | d :: ds => by
    unfold compL compM
    rw [compL_M ds]
    cases (g d ρ).calm with
    | exc c => rfl
    | bad => rfl
    | ok ρ1 =>
      simp only [Res.bind_ok]
      cases (ft ρ1).calm with
      | exc c => rfl
      | bad => rfl
      | ok b =>
        simp only [Res.bind_ok]
        cases b with
        | false => rfl
        | true =>
          simp only [if_true]
          cases (fe ρ1).calm <;> rfl
theorem s_comp {Φ : List (List D → Res D)} {k : ItK} {es : Exs} {vs : List Nat} {tg : Tg} {t e : Ex} {ρ : Env} : ev Φ (.comp k es vs tg t e) ρ = ((evs Φ es ρ).bind k.fn).bind fun items => (compM (fun d => (bT tg d (wipeD ρ vs)).calm.bind fun ρ1 => ((ev Φ t ρ1).bind tb).calm.bind fun b => if b = true then (ev Φ e ρ1).calm.bind fun x => .ok (some x) else .ok none) items).bind fun ds => .ok (.lst ds) := by
  simp only [ev, compV, compL_M]
  rfl
/-! what is walked -/
@[simp] theorem it_val : ItK.fn .val = one1 itemsOf := rfl
@[simp] theorem it_rng1 : ItK.fn .rng1 = rng1 := rfl
@[simp] theorem it_rng2 : ItK.fn .rng2 = rng2 := rfl
@[simp] theorem it_enum : ItK.fn .enum = enumV := rfl
@[simp] theorem it_zip : ItK.fn .zip = zipV := rfl
@[simp] theorem one1_one {f : D → Res (List D)} {d : D} : one1 f [d] = f d := rfl
@[simp] theorem items_lst {l : List D} : itemsOf (.lst l) = .ok l := rfl
@[simp] theorem items_tup {l : List D} : itemsOf (.tup l) = .ok l := rfl
@[simp] theorem items_str {s : List Nat} : itemsOf (.str s) = .ok (s.map fun c => .str [c]) := rfl
theorem s_bTt {ts : Tgs} {d : D} {ρ : Env} : bT (.tup ts) d ρ = bTup ts.len (bTs ts) d ρ := rfl
end DL
namespace DL
abbrev Txt := List Nat
def vowB (c : Nat) : Bool := decide (c ∈ [65, 69, 73, 79, 85])
/-- numbered -/
def enumF {α : Type} (l : List α) : List (Nat × α) := (List.range l.length).zip l
/-- the places of vowels -/
def vowF (s : Txt) : List Nat := ((enumF s).filter fun a => vowB a.2).map (·.1)
theorem enumF_range (s : Txt) : enumF s = (List.range s.length).map fun i => (i, s.getD i 0) := by
  unfold enumF
  apply List.ext_getElem?
  intro i
  rw [List.getElem?_map]
  by_cases h : i < s.length
  · rw [List.getElem?_range h, (List.getElem?_zip_eq_some (z := (i, s[i]))).mpr ⟨List.getElem?_range h, List.getElem?_eq_getElem h⟩]
    simp [List.getD_eq_getElem?_getD, h]
  · rw [List.getElem?_eq_none (by simp; omega), List.getElem?_eq_none (by simp; omega)]
    rfl
theorem vowF_range (s : Txt) : vowF s = (List.range s.length).filter fun i => vowB (s.getD i 0) := by
  unfold vowF
  rw [enumF_range, List.filter_map, List.map_map]
  exact List.map_id' _
theorem vowF_app (a b : Txt) : vowF (a ++ b) = vowF a ++ (vowF b).map (a.length + ·) := by
  simp only [vowF_range]
  rw [List.length_append, List.range_add, List.filter_append, List.filter_map]
  congr 1
  · refine List.filter_congr fun i hi => ?_
    rw [List.mem_range] at hi
    simp only [List.getD_eq_getElem?_getD, List.getElem?_append_left hi]
  · congr 1
    refine List.filter_congr fun i hi => ?_
    simp only [Function.comp, List.getD_eq_getElem?_getD]
    rw [List.getElem?_append_right (by omega)]
    congr 3
    omega
theorem vowF_nil : vowF [] = [] := rfl
theorem vowF_cons (c : Nat) (s : Txt) : vowF (c :: s) = (if vowB c = true then [0] else []) ++ (vowF s).map (1 + ·) := by
  have := vowF_app [c] s
  simp only [List.singleton_append, List.length_singleton] at this
  rw [this]
  congr 1
  cases h : vowB c <;> simp [vowF_range, List.range_succ, h]
theorem vowF_len : ∀ s : Txt, (vowF s).length = s.countP vowB
  | [] => rfl
  | c :: s => by
    rw [vowF_cons, List.length_append, List.length_map, vowF_len s, List.countP_cons]
    cases h : vowB c <;> simp <;> omega
/-- parted at the k-th vowel from the end -/
theorem part_at : ∀ (s : Txt) (k : Nat), 1 ≤ k → k ≤ s.countP vowB → ∃ a v b, s = a ++ v :: b ∧ vowB v = true ∧ b.countP vowB + 1 = k
  | [], k, h1, h2 => by simp at h2; omega
  | c :: s, k, h1, h2 => by
    by_cases h : k ≤ s.countP vowB
    · obtain ⟨a, v, b, e, hv, hb⟩ := part_at s k h1 h
      exact ⟨c :: a, v, b, by rw [e]; rfl, hv, hb⟩
    · rw [List.countP_cons] at h2
      cases hc : vowB c with
      | false => rw [hc] at h2; simp at h2; omega
      | true =>
        rw [hc] at h2; simp at h2
        exact ⟨[], c, s, rfl, hc, by omega⟩
/-- the place of the stressed vowel -/
theorem vow_at {a b : Txt} {v : Nat} (hv : vowB v = true) : (vowF (a ++ v :: b))[(vowF (a ++ v :: b)).length - (b.countP vowB + 1)]? = some a.length := by
  rw [vowF_app, vowF_cons, hv]
  simp only [if_true, List.length_append, List.length_map, vowF_len, List.map_append, List.map_cons, List.map_nil, List.length_cons, List.length_nil]
  rw [List.getElem?_append_right (by rw [vowF_len]; omega), vowF_len]
  have : a.countP vowB + (0 + 1 + b.countP vowB) - (b.countP vowB + 1) - a.countP vowB = 0 := by omega
  rw [this]
  simp
theorem mem_vowF {s : Txt} {k : Nat} : k ∈ vowF s ↔ ∃ c, s[k]? = some c ∧ vowB c = true := by
  rw [vowF_range, List.mem_filter, List.mem_range]
  constructor
  · rintro ⟨h1, h2⟩
    rw [List.getD_eq_getElem?_getD, List.getElem?_eq_getElem h1, Option.getD_some] at h2
    exact ⟨s[k], List.getElem?_eq_getElem h1, h2⟩
  · rintro ⟨c, h1, h2⟩
    obtain ⟨h3, rfl⟩ := List.getElem?_eq_some_iff.mp h1
    refine ⟨h3, ?_⟩
    rw [List.getD_eq_getElem?_getD, h1, Option.getD_some]
    exact h2
/-- the sounds behind the last vowel -/
def lastRun (s : Txt) : Txt := (s.reverse.takeWhile fun c => !vowB c).reverse
theorem lastRun_nil : lastRun [] = [] := rfl
theorem lastRun_snoc (s : Txt) (c : Nat) : lastRun (s ++ [c]) = if vowB c = true then [] else lastRun s ++ [c] := by
  unfold lastRun
  rw [List.reverse_append]
  simp only [List.reverse_cons, List.reverse_nil, List.nil_append, List.singleton_append, List.takeWhile_cons]
  cases vowB c <;> simp
theorem lastRun_app (a : Txt) {b : Txt} (h : b.countP vowB = 0) : lastRun (a ++ b) = lastRun a ++ b := by
  unfold lastRun
  rw [List.reverse_append, List.takeWhile_append_of_pos, List.reverse_append, List.reverse_reverse]
  intro c hc
  rw [List.countP_eq_zero] at h
  have := h c (List.mem_reverse.mp hc)
  simpa using this
theorem lastRun_vow (a : Txt) {v : Nat} {b : Txt} (hv : vowB v = true) (h : b.countP vowB = 0) : lastRun (a ++ v :: b) = b := by
  have e : a ++ v :: b = (a ++ [v]) ++ b := by simp
  rw [e, lastRun_app _ h, lastRun_snoc, if_pos hv, List.nil_append]
theorem lastRun_free (s : Txt) : (lastRun s).countP vowB = 0 := by
  rw [List.countP_eq_zero]
  intro c hc
  unfold lastRun at hc
  have := List.all_eq_true.mp (List.all_takeWhile (l := s.reverse) (p := fun c => !vowB c)) c (List.mem_reverse.mp hc)
  simpa using this
/-- the place of the vowel that is the k-th from the end -/
def stAt (s : Txt) (k : Nat) : Nat := (vowF s).getD ((vowF s).length - k) 0
theorem stAt_part {a b : Txt} {v : Nat} (hv : vowB v = true) : stAt (a ++ v :: b) (b.countP vowB + 1) = a.length := by
  unfold stAt
  rw [List.getD_eq_getElem?_getD, vow_at hv]
  rfl
end DL
/-! Common mathematics, E: typed lists, tuples, dicts as data. -/
namespace DL
open PySem PySem.Spec L2
/-- things of a type as data: told apart, plain -/
class EmbF {α : Type} [DecidableEq α] (n : outParam Nat) (f : α → D) : Prop where
  eq : ∀ a b, eqD (f a) (f b) = decide (a = b)
  pl : ∀ a, plain n (f a) = true
instance : EmbF 0 D.str := ⟨fun a b => by simp only [eqD]; by_cases h : a = b <;> simp [h], fun _ => rfl⟩
instance : EmbF 0 D.int := ⟨fun a b => by simp only [eqD]; by_cases h : a = b <;> simp [h], fun _ => rfl⟩
instance : EmbF 0 D.bl := ⟨fun a b => by simp only [eqD]; by_cases h : a = b <;> simp [h], fun _ => rfl⟩
def lD {α : Type} (f : α → D) (l : List α) : D := .lst (l.map f)
def tD' {α : Type} (f : α → D) (l : List α) : D := .tup (l.map f)
/-- pairs -/
def pD {α β : Type} (f : α → D) (g : β → D) (p : α × β) : D := .tup [f p.1, g p.2]
/-- none, or a thing -/
def oD {α : Type} (f : α → D) : Option α → D
  | none => .non
  | some a => f a
@[simp] theorem oD_none {α : Type} {f : α → D} : oD f none = .non := rfl
@[simp] theorem oD_some {α : Type} {f : α → D} {a : α} : oD f (some a) = f a := rfl
abbrev Wd := Txt × Int
abbrev wD : Wd → D := pD .str .int
def natD (k : Nat) : D := .int (k : Int)
theorem plain_le {d : D} : ∀ {m n : Nat}, m ≤ n → plain m d = true → plain n d = true
  | m, n, h, e => by
    induction h with
    | refl => exact e
    | step _ ih => exact plain_succ _ d ih
theorem eqDs_map {α : Type} [DecidableEq α] {n : Nat} {f : α → D} [EmbF n f] : ∀ {l m : List α}, eqDs (l.map f) (m.map f) = decide (l = m)
  | [], [] => by simp [eqDs]
  | [], y :: m => by simp [eqDs]
  | x :: l, [] => by simp [eqDs]
  | x :: l, y :: m => by
    simp only [List.map_cons, eqDs, EmbF.eq, eqDs_map (l := l) (m := m)]
    by_cases h1 : x = y <;> by_cases h2 : l = m <;> simp [h1, h2]
theorem plain_map {α : Type} [DecidableEq α] {n : Nat} {f : α → D} [EmbF n f] {l : List α} {k : Nat} (h : n ≤ k) : (l.map f).all (plain k) = true := by
  rw [List.all_map, List.all_eq_true]
  exact fun x _ => plain_le h (EmbF.pl x)
instance {α : Type} [DecidableEq α] {n : Nat} {f : α → D} [EmbF n f] : EmbF (n + 1) (lD f) := ⟨fun a b => by simp only [lD, eqD, eqDs_map], fun a => plain_map (Nat.le_refl _)⟩
instance {α : Type} [DecidableEq α] {n : Nat} {f : α → D} [EmbF n f] : EmbF (n + 1) (tD' f) := ⟨fun a b => by simp only [tD', eqD, eqDs_map], fun a => plain_map (Nat.le_refl _)⟩
instance {α β : Type} [DecidableEq α] [DecidableEq β] {n m : Nat} {f : α → D} {g : β → D} [EmbF n f] [EmbF m g] : EmbF (n + m + 1) (pD f g) := ⟨fun a b => by
    obtain ⟨a1, a2⟩ := a
    obtain ⟨b1, b2⟩ := b
    simp only [pD, eqD, eqDs, EmbF.eq, Bool.and_true, Prod.mk.injEq]
    by_cases h1 : a1 = b1 <;> by_cases h2 : a2 = b2 <;> simp [h1, h2], fun a => by
    simp only [pD, plain, List.all_cons, List.all_nil, Bool.and_true, Bool.and_eq_true]
    exact ⟨plain_le (by omega) (EmbF.pl (f := f) a.1), plain_le (by omega) (EmbF.pl (f := g) a.2)⟩⟩
section
variable {α β : Type} [DecidableEq α] [DecidableEq β] {n k : Nat} {f : α → D} {g : β → D}
theorem eqR_emb [EmbF n f] {a b : α} (h : n ≤ 60) : eqR (f a) (f b) = .ok (.bl (decide (a = b))) := by
  unfold eqR
  rw [if_pos ⟨plain_le h (EmbF.pl a), plain_le h (EmbF.pl b)⟩, EmbF.eq]
theorem neR_emb [EmbF n f] {a b : α} (h : n ≤ 60) : neR (f a) (f b) = .ok (.bl (!decide (a = b))) := by
  unfold neR
  rw [if_pos ⟨plain_le h (EmbF.pl a), plain_le h (EmbF.pl b)⟩, EmbF.eq]
@[simp] theorem eqR_str {a b : Txt} : eqR (.str a) (.str b) = .ok (.bl (decide (a = b))) := eqR_emb (f := D.str) (by decide)
@[simp] theorem neR_str {a b : Txt} : neR (.str a) (.str b) = .ok (.bl (!decide (a = b))) := neR_emb (f := D.str) (by decide)
@[simp] theorem eqR_bl {a b : Bool} : eqR (.bl a) (.bl b) = .ok (.bl (decide (a = b))) := eqR_emb (f := D.bl) (by decide)
@[simp] theorem neR_bl {a b : Bool} : neR (.bl a) (.bl b) = .ok (.bl (!decide (a = b))) := neR_emb (f := D.bl) (by decide)
@[simp] theorem eqR_l [EmbF n f] {a b : List α} (h : n + 1 ≤ 60) : eqR (lD f a) (lD f b) = .ok (.bl (decide (a = b))) := eqR_emb (f := lD f) h
@[simp] theorem neR_l [EmbF n f] {a b : List α} (h : n + 1 ≤ 60) : neR (lD f a) (lD f b) = .ok (.bl (!decide (a = b))) := neR_emb (f := lD f) h
@[simp] theorem eqR_t [EmbF n f] {a b : List α} (h : n + 1 ≤ 60) : eqR (tD' f a) (tD' f b) = .ok (.bl (decide (a = b))) := eqR_emb (f := tD' f) h
@[simp] theorem neR_t [EmbF n f] {a b : List α} (h : n + 1 ≤ 60) : neR (tD' f a) (tD' f b) = .ok (.bl (!decide (a = b))) := neR_emb (f := tD' f) h
@[simp] theorem eqR_p [EmbF n f] [EmbF k g] {a b : α × β} (h : n + k + 1 ≤ 60) : eqR (pD f g a) (pD f g b) = .ok (.bl (decide (a = b))) := eqR_emb (f := pD f g) h
@[simp] theorem neR_p [EmbF n f] [EmbF k g] {a b : α × β} (h : n + k + 1 ≤ 60) : neR (pD f g a) (pD f g b) = .ok (.bl (!decide (a = b))) := neR_emb (f := pD f g) h
theorem any_emb0 [EmbF n f] {a : α} : ∀ {l : List α}, ((l.map f).any fun y => eqD y (f a)) = true ↔ a ∈ l
  | [] => by simp
  | x :: l => by
    rw [List.map_cons, List.any_cons, Bool.or_eq_true, any_emb0, EmbF.eq, decide_eq_true_eq, List.mem_cons]
    exact ⟨fun z => z.imp Eq.symm id, fun z => z.imp Eq.symm id⟩
theorem any_emb [EmbF n f] {a : α} {l : List α} [Decidable (a ∈ l)] : ((l.map f).any fun y => eqD y (f a)) = decide (a ∈ l) := by
  have h := any_emb0 (f := f) (a := a) (l := l)
  by_cases hm : a ∈ l
  · rw [decide_eq_true hm]; exact h.mpr hm
  · rw [decide_eq_false hm]
    exact Bool.eq_false_iff.mpr fun z => hm (h.mp z)
theorem in_lst {x : D} {ys : List D} (h : plain 60 x = true ∧ plain 60 (.lst ys) = true) : inB x (.lst ys) = .ok (ys.any fun y => eqD y x) := by
  cases x <;> simp only [inB] <;> rw [if_pos h]
theorem in_tup {x : D} {ys : List D} (h : plain 60 x = true ∧ plain 60 (.tup ys) = true) : inB x (.tup ys) = .ok (ys.any fun y => eqD y x) := by
  cases x <;> simp only [inB] <;> rw [if_pos h]
theorem inR_l [EmbF n f] {a : α} {l : List α} [Decidable (a ∈ l)] (h : n + 1 ≤ 60) : inR (f a) (lD f l) = .ok (.bl (decide (a ∈ l))) := by
  unfold inR lD
  rw [in_lst ⟨plain_le (by omega) (EmbF.pl a), plain_le h (EmbF.pl (f := lD f) l)⟩, any_emb]; rfl
theorem ninR_l [EmbF n f] {a : α} {l : List α} [Decidable (a ∈ l)] (h : n + 1 ≤ 60) : ninR (f a) (lD f l) = .ok (.bl (!decide (a ∈ l))) := by
  unfold ninR lD
  rw [in_lst ⟨plain_le (by omega) (EmbF.pl a), plain_le h (EmbF.pl (f := lD f) l)⟩, any_emb]; rfl
theorem inR_t [EmbF n f] {a : α} {l : List α} [Decidable (a ∈ l)] (h : n + 1 ≤ 60) : inR (f a) (tD' f l) = .ok (.bl (decide (a ∈ l))) := by
  unfold inR tD'
  rw [in_tup ⟨plain_le (by omega) (EmbF.pl a), plain_le h (EmbF.pl (f := tD' f) l)⟩, any_emb]; rfl
theorem ninR_t [EmbF n f] {a : α} {l : List α} [Decidable (a ∈ l)] (h : n + 1 ≤ 60) : ninR (f a) (tD' f l) = .ok (.bl (!decide (a ∈ l))) := by
  unfold ninR tD'
  rw [in_tup ⟨plain_le (by omega) (EmbF.pl a), plain_le h (EmbF.pl (f := tD' f) l)⟩, any_emb]; rfl
@[simp] theorem inR_ls {a : Txt} {l : List Txt} [Decidable (a ∈ l)] : inR (.str a) (lD .str l) = .ok (.bl (decide (a ∈ l))) := inR_l (f := D.str) (by decide)
@[simp] theorem ninR_ls {a : Txt} {l : List Txt} [Decidable (a ∈ l)] : ninR (.str a) (lD .str l) = .ok (.bl (!decide (a ∈ l))) := ninR_l (f := D.str) (by decide)
@[simp] theorem inR_ts {a : Txt} {l : List Txt} [Decidable (a ∈ l)] : inR (.str a) (tD' .str l) = .ok (.bl (decide (a ∈ l))) := inR_t (f := D.str) (by decide)
@[simp] theorem ninR_ts {a : Txt} {l : List Txt} [Decidable (a ∈ l)] : ninR (.str a) (tD' .str l) = .ok (.bl (!decide (a ∈ l))) := ninR_t (f := D.str) (by decide)
@[simp] theorem inR_li {a : Int} {l : List Int} [Decidable (a ∈ l)] : inR (.int a) (lD .int l) = .ok (.bl (decide (a ∈ l))) := inR_l (f := D.int) (by decide)
@[simp] theorem ninR_li {a : Int} {l : List Int} [Decidable (a ∈ l)] : ninR (.int a) (lD .int l) = .ok (.bl (!decide (a ∈ l))) := ninR_l (f := D.int) (by decide)
@[simp] theorem inR_lp [EmbF n f] [EmbF k g] {a : α × β} {l : List (α × β)} [Decidable (a ∈ l)] (h : n + k + 1 + 1 ≤ 60) : inR (pD f g a) (lD (pD f g) l) = .ok (.bl (decide (a ∈ l))) := inR_l (f := pD f g) h
@[simp] theorem ninR_lp [EmbF n f] [EmbF k g] {a : α × β} {l : List (α × β)} [Decidable (a ∈ l)] (h : n + k + 1 + 1 ≤ 60) : ninR (pD f g a) (lD (pD f g) l) = .ok (.bl (!decide (a ∈ l))) := ninR_l (f := pD f g) h
@[simp] theorem inR_tp [EmbF n f] [EmbF k g] {a : α × β} {l : List (α × β)} [Decidable (a ∈ l)] (h : n + k + 1 + 1 ≤ 60) : inR (pD f g a) (tD' (pD f g) l) = .ok (.bl (decide (a ∈ l))) := inR_t (f := pD f g) h
@[simp] theorem ninR_tp [EmbF n f] [EmbF k g] {a : α × β} {l : List (α × β)} [Decidable (a ∈ l)] (h : n + k + 1 + 1 ≤ 60) : ninR (pD f g a) (tD' (pD f g) l) = .ok (.bl (!decide (a ∈ l))) := ninR_t (f := pD f g) h
@[simp] theorem inR_ll [EmbF n f] {a : List α} {l : List (List α)} [Decidable (a ∈ l)] (h : n + 1 + 1 ≤ 60) : inR (lD f a) (lD (lD f) l) = .ok (.bl (decide (a ∈ l))) := inR_l (f := lD f) h
@[simp] theorem eqR_lnil [EmbF n f] {l : List α} (h : n + 1 ≤ 60) : eqR (lD f l) (.lst []) = .ok (.bl (decide (l = []))) := eqR_emb (f := lD f) (a := l) (b := []) h
@[simp] theorem neR_lnil [EmbF n f] {l : List α} (h : n + 1 ≤ 60) : neR (lD f l) (.lst []) = .ok (.bl (!decide (l = []))) := neR_emb (f := lD f) (a := l) (b := []) h
@[simp] theorem eqR_tnil [EmbF n f] {l : List α} (h : n + 1 ≤ 60) : eqR (tD' f l) (.tup []) = .ok (.bl (decide (l = []))) := eqR_emb (f := tD' f) (a := l) (b := []) h
@[simp] theorem neR_tnil [EmbF n f] {l : List α} (h : n + 1 ≤ 60) : neR (tD' f l) (.tup []) = .ok (.bl (!decide (l = []))) := neR_emb (f := tD' f) (a := l) (b := []) h
end
end DL
/-! Common mathematics, E2: what the operators make of typed lists. -/
namespace DL
open PySem PySem.Spec L2
/-- no pair of texts -/
class NoPair {α : Type} (f : α → D) : Prop where
  no : ∀ a, txtPair (f a) = false
instance : NoPair D.str := ⟨fun _ => rfl⟩
instance : NoPair D.int := ⟨fun _ => rfl⟩
instance : NoPair D.bl := ⟨fun _ => rfl⟩
instance : NoPair natD := ⟨fun _ => rfl⟩
instance {α : Type} {f : α → D} : NoPair (lD f) := ⟨fun _ => rfl⟩
instance {α β : Type} {f : α → D} {g : β → D} [h : NoPair g] : NoPair (pD f (lD g)) := ⟨fun a => by simp only [pD, lD]; cases f a.1 <;> rfl⟩
instance {α : Type} {f : α → D} : NoPair (pD f D.int) := ⟨fun a => by simp only [pD]; cases f a.1 <;> rfl⟩
instance {α : Type} {f : α → D} : NoPair (pD f natD) := ⟨fun a => by simp only [pD, natD]; cases f a.1 <;> rfl⟩
instance {α : Type} {f : α → D} : NoPair (pD D.int f) := ⟨fun a => rfl⟩
instance {α : Type} {f : α → D} : NoPair (pD natD f) := ⟨fun a => rfl⟩
instance {α β : Type} {f : α → D} {g : β → D} : NoPair (tD' (pD f g)) := ⟨fun a => by
  simp only [tD', pD]
  cases a with
  | nil => rfl
  | cons x l => rfl⟩
instance {α β γ : Type} {f : α → D} {g : β → D} {h : γ → D} : NoPair (pD (pD f g) h) := ⟨fun a => rfl⟩
instance {α β γ : Type} {f : α → D} {g : β → D} {h : γ → D} : NoPair (pD h (pD f g)) := ⟨fun a => by simp only [pD]; cases h a.1 <;> rfl⟩
instance {α β : Type} {f : α → D} {h : β → D} [NoPair f] : NoPair (pD (tD' f) h) := ⟨fun a => rfl⟩
instance {α β : Type} {f : α → D} {h : β → D} : NoPair (pD (lD f) h) := ⟨fun a => rfl⟩
section
variable {α β : Type} {f : α → D} {g : β → D}
theorem tabB_no [NoPair f] {l : List α} : tabB (l.map f) = false := by
  cases l with
  | nil => rfl
  | cons a l => simp only [List.map_cons, tabB, NoPair.no, Bool.false_and]
@[simp] theorem natD_def {k : Nat} : natD k = .int (k : Int) := rfl
@[simp] theorem len_l {l : List α} : lenR [lD f l] = .ok (.int (l.length : Nat)) := by simp only [lD, lenR, List.length_map]
@[simp] theorem len_t {l : List α} : lenR [tD' f l] = .ok (.int (l.length : Nat)) := by simp only [tD', lenR, List.length_map]
@[simp] theorem len_p {p : α × β} : lenR [pD f g p] = .ok (.int 2) := rfl
@[simp] theorem items_l {l : List α} : itemsOf (lD f l) = .ok (l.map f) := rfl
@[simp] theorem items_t {l : List α} : itemsOf (tD' f l) = .ok (l.map f) := rfl
@[simp] theorem seq_l {l : List α} : seqOf (lD f l) = .ok (l.map f) := rfl
@[simp] theorem seq_t {l : List α} : seqOf (tD' f l) = .ok (l.map f) := rfl
@[simp] theorem seq_s {s : Txt} : seqOf (.str s) = .ok (s.map fun c => .str [c]) := rfl
theorem enumD_map {l : List α} : enumD (l.map f) = (enumF l).map (pD natD f) := by
  unfold enumD enumF
  apply List.ext_getElem?
  intro i
  rw [List.getElem?_map, List.getElem?_map, List.length_map]
  by_cases h : i < l.length
  · rw [List.getElem?_range h, (List.getElem?_zip_eq_some (z := (i, l[i]))).mpr ⟨List.getElem?_range h, List.getElem?_eq_getElem h⟩]
    simp only [Option.map_some, pD, natD, List.getD_eq_getElem?_getD, List.getElem?_map, List.getElem?_eq_getElem h, Option.getD_some]
  · rw [List.getElem?_eq_none (by simp; omega), List.getElem?_eq_none (by simp; omega)]
    rfl
@[simp] theorem enum_l {l : List α} : enumV [lD f l] = .ok ((enumF l).map (pD natD f)) := by simp only [enumV, seq_l, Res.bind_ok, enumD_map]
@[simp] theorem enum_t {l : List α} : enumV [tD' f l] = .ok ((enumF l).map (pD natD f)) := by simp only [enumV, seq_t, Res.bind_ok, enumD_map]
@[simp] theorem enum_s {s : Txt} : enumV [.str s] = .ok ((enumF s).map (pD natD fun c => .str [c])) := by simp only [enumV, seq_s, Res.bind_ok, enumD_map]
theorem zipD_map {l : List α} {m : List β} : zipD (l.map f) (m.map g) = (l.zip m).map (pD f g) := by
  unfold zipD
  rw [List.zip_map, List.map_map]
  rfl
theorem zipOk_map (h : (∀ a, txtPair (f a) = false) ∨ ∀ b, txtPair (g b) = false) {l : List α} {m : List β} : zipOk (l.map f) (m.map g) = true := by
  unfold zipOk
  rw [List.zip_map, List.all_map, List.all_eq_true]
  intro p _
  simp only [Function.comp, Prod.map, tabB, List.all_cons, List.all_nil, Bool.and_true]
  rcases h with h | h <;> simp [h]
theorem zipV_of {x y : D} {l : List α} {m : List β} (hx : seqOf x = .ok (l.map f)) (hy : seqOf y = .ok (m.map g)) (h : (∀ a, txtPair (f a) = false) ∨ ∀ b, txtPair (g b) = false) : zipV [x, y] = .ok ((l.zip m).map (pD f g)) := by
  simp only [zipV, hx, hy, Res.bind_ok, zipOk_map h, if_true, zipD_map]
@[simp] theorem zip_ll [NoPair g] {l : List α} {m : List β} : zipV [lD f l, lD g m] = .ok ((l.zip m).map (pD f g)) := zipV_of rfl rfl (.inr NoPair.no)
@[simp] theorem zip_lt [NoPair g] {l : List α} {m : List β} : zipV [lD f l, tD' g m] = .ok ((l.zip m).map (pD f g)) := zipV_of rfl rfl (.inr NoPair.no)
@[simp] theorem zip_tl [NoPair g] {l : List α} {m : List β} : zipV [tD' f l, lD g m] = .ok ((l.zip m).map (pD f g)) := zipV_of rfl rfl (.inr NoPair.no)
@[simp] theorem zip_tt [NoPair g] {l : List α} {m : List β} : zipV [tD' f l, tD' g m] = .ok ((l.zip m).map (pD f g)) := zipV_of rfl rfl (.inr NoPair.no)
@[simp] theorem zip_sl [NoPair g] {l : Txt} {m : List β} : zipV [.str l, lD g m] = .ok ((l.zip m).map (pD (fun c => .str [c]) g)) := zipV_of (f := fun c => D.str [c]) rfl rfl (.inr NoPair.no)
@[simp] theorem zip_st [NoPair g] {l : Txt} {m : List β} : zipV [.str l, tD' g m] = .ok ((l.zip m).map (pD (fun c => .str [c]) g)) := zipV_of (f := fun c => D.str [c]) rfl rfl (.inr NoPair.no)
@[simp] theorem zip_ss {l m : Txt} : zipV [.str l, .str m] = .ok ((l.zip m).map (pD (fun c => .str [c]) fun c => .str [c])) := zipV_of (f := fun c => D.str [c]) (g := fun c => D.str [c]) rfl rfl (.inl fun _ => rfl)
@[simp] theorem tuple_l {l : List α} : tupleR [lD f l] = .ok (tD' f l) := rfl
@[simp] theorem tuple_t {l : List α} : tupleR [tD' f l] = .ok (tD' f l) := rfl
@[simp] theorem list_t {l : List α} : listR [tD' f l] = .ok (lD f l) := rfl
@[simp] theorem list_l {l : List α} : listR [lD f l] = .ok (lD f l) := rfl
/-- a datum that is there -/
def thereD (f : α → D) : Option α → Res D
  | some a => .ok (f a)
  | none => .bad
@[simp] theorem there_some {a : α} : thereD f (some a) = .ok (f a) := rfl
theorem atI_map {l : List α} {i : Int} : atI (l.map f) i = (atI l i).map f := by
  unfold atI
  rw [List.length_map]
  cases ixN l.length i with
  | none => rfl
  | some j => simp
@[simp] theorem ix_l {l : List α} {i : Int} : ixR (lD f l) (.int i) = thereD f (atI l i) := by
  simp only [lD, ixR, atI_map]
  cases atI l i <;> rfl
@[simp] theorem ix_t {l : List α} {i : Int} : ixR (tD' f l) (.int i) = thereD f (atI l i) := by
  simp only [tD', ixR, atI_map]
  cases atI l i <;> rfl
@[simp] theorem ix_s {s : Txt} {i : Int} : ixR (.str s) (.int i) = thereD (fun c => .str [c]) (atI s i) := by
  simp only [ixR]
  cases atI s i <;> rfl
@[simp] theorem ix_p0 {p : α × β} : ixR (pD f g p) (.int 0) = .ok (f p.1) := by simp [pD]
@[simp] theorem ix_p1 {p : α × β} : ixR (pD f g p) (.int 1) = .ok (g p.2) := by simp [pD]
@[simp] theorem atI_natc {l : List α} {k : Nat} : atI l (k : Int) = l[k]? := by
  unfold atI ixN
  by_cases h : k < l.length
  · have h2 : (k : Int) < (l.length : Int) := by omega
    have h3 : (0 : Int) ≤ (k : Int) := by omega
    simp [h2, h3]
  · have h2 : ¬ (k : Int) < (l.length : Int) := by omega
    have h3 : (0 : Int) ≤ (k : Int) := by omega
    simp [h2, h3, List.getElem?_eq_none (Nat.not_lt.mp h)]
@[simp] theorem atI_0 {l : List α} : atI l 0 = l[0]? := atI_natc (k := 0)
@[simp] theorem atI_last {l : List α} : atI l (-1) = l.getLast? := by
  unfold atI ixN
  cases l with
  | nil => rfl
  | cons a l =>
    have h1 : ¬ (0 : Int) ≤ -1 := by omega
    have h2 : -((a :: l).length : Int) ≤ -1 := by rw [List.length_cons]; omega
    have h3 : (-1 + ((a :: l).length : Int)).toNat = l.length := by rw [List.length_cons]; omega
    rw [if_neg h1, if_pos h2, h3, List.getLast?_eq_getElem?]
    simp
theorem cutL_map {l : List α} {lo hi : Option Int} : cutL (l.map f) lo hi = (cutL l lo hi).map f := by
  unfold cutL
  rw [List.length_map, List.map_take, List.map_drop]
@[simp] theorem sl_l {l : List α} {lo hi : Option Int} : slR lo hi (lD f l) = .ok (lD f (cutL l lo hi)) := by simp only [lD, slR, cutL_map]
@[simp] theorem sl_t [NoPair f] {l : List α} {lo hi : Option Int} : slR lo hi (tD' f l) = .ok (tD' f (cutL l lo hi)) := by
  simp only [tD', slR, cutL_map, tabB_no]
  rfl
@[simp high] theorem inR_vow {c : Nat} : inR (.str [c]) (.str [65, 69, 73, 79, 85]) = .ok (.bl (vowB c)) := rfl
@[simp high] theorem ninR_vow {c : Nat} : ninR (.str [c]) (.str [65, 69, 73, 79, 85]) = .ok (.bl (!vowB c)) := rfl
@[simp] theorem inR_ss {c : Nat} {s : Txt} : inR (.str [c]) (.str s) = .ok (.bl (decide (c ∈ s))) := rfl
@[simp] theorem ninR_ss {c : Nat} {s : Txt} : ninR (.str [c]) (.str s) = .ok (.bl (!decide (c ∈ s))) := rfl
@[simp] theorem isI_pt {p : α × β} : isI .tuple (pD f g p) = .ok (.bl true) := rfl
@[simp] theorem isI_tt {l : List α} : isI .tuple (tD' f l) = .ok (.bl true) := rfl
@[simp] theorem isI_lt {l : List α} : isI .tuple (lD f l) = .ok (.bl false) := rfl
@[simp] theorem isI_st {s : Txt} : isI .tuple (.str s) = .ok (.bl false) := rfl
@[simp] theorem isI_ll {l : List α} : isI .list (lD f l) = .ok (.bl true) := rfl
@[simp] theorem isI_tl {l : List α} : isI .list (tD' f l) = .ok (.bl false) := rfl
@[simp] theorem isI_bb {b : Bool} : isI .bool (.bl b) = .ok (.bl true) := rfl
@[simp] theorem isI_bi {b : Bool} : isI .int (.bl b) = .ok (.bl true) := rfl
@[simp] theorem bind_if {γ δ : Type} {c : Prop} [Decidable c] {a b : Res γ} {k : γ → Res δ} : (if c then a else b).bind k = if c then a.bind k else b.bind k := by split <;> rfl
@[simp] theorem calm_if {γ : Type} {c : Prop} [Decidable c] {a b : Res γ} : (if c then a else b).calm = if c then a.calm else b.calm := by split <;> rfl
@[simp] theorem okif_str {c : Prop} [Decidable c] {a b : Txt} : (if c then Res.ok (D.str a) else Res.ok (D.str b)) = .ok (.str (if c then a else b)) := by split <;> rfl
@[simp] theorem okif_int {c : Prop} [Decidable c] {a b : Int} : (if c then Res.ok (D.int a) else Res.ok (D.int b)) = .ok (.int (if c then a else b)) := by split <;> rfl
@[simp] theorem okif_bl {c : Prop} [Decidable c] {a b : Bool} : (if c then Res.ok (D.bl a) else Res.ok (D.bl b)) = .ok (.bl (if c then a else b)) := by split <;> rfl
@[simp] theorem okif_l {c : Prop} [Decidable c] {a b : List α} : (if c then Res.ok (lD f a) else Res.ok (lD f b)) = .ok (lD f (if c then a else b)) := by split <;> rfl
@[simp] theorem min_ii {a b : Int} : minR [.int a, .int b] = .ok (.int (min a b)) := by
  have : (if b < a then b else a) = min a b := by omega
  simp only [minR, this]
@[simp] theorem max_ii {a b : Int} : maxZ [.int a, .int b] = .ok (.int (max a b)) := by
  have : (if b > a then b else a) = max a b := by omega
  simp only [maxZ, maxR, this]
theorem lt1 {a b : Nat} : (([a] : Txt) < [b]) ↔ a < b := by
  rw [List.cons_lt_cons_iff]
  simp
@[simp] theorem leR_cc {a b : Nat} : leR (.str [a]) (.str [b]) = .ok (.bl (decide (a ≤ b))) := by
  simp only [leR]
  congr 2
  by_cases h : b < a
  · rw [decide_eq_true (lt1.mpr h), decide_eq_false (by omega)]; rfl
  · rw [decide_eq_false (fun z => h (lt1.mp z)), decide_eq_true (by omega)]; rfl
@[simp] theorem tabB_int {i : Int} {l : List D} : tabB (.int i :: l) = false := rfl
@[simp] theorem tabB_bl {i : Bool} {l : List D} : tabB (.bl i :: l) = false := rfl
@[simp] theorem tabB_str {i : Txt} {l : List D} : tabB (.str i :: l) = false := rfl
@[simp] theorem tabB_non {l : List D} : tabB (.non :: l) = false := rfl
@[simp] theorem tabB_l {m : List α} {l : List D} : tabB (lD f m :: l) = false := rfl
@[simp] theorem tabB_wd {p : α × Int} {l : List D} : tabB (pD f .int p :: l) = false := by
  show (txtPair (.tup [f p.1, .int p.2]) && _) = false
  cases f p.1 <;> rfl
@[simp] theorem tabB_sb {a : Txt} {b : Bool} {l : List D} : tabB (.tup [.str a, .bl b] :: l) = false := rfl
@[simp] theorem tabB_nil : tabB [] = false := rfl
@[simp] theorem is_nn : isR .non .non = .ok (.bl true) := rfl
@[simp] theorem is_ln {l : List α} : isR (lD f l) .non = .ok (.bl false) := rfl
@[simp] theorem is_tn {l : List α} : isR (tD' f l) .non = .ok (.bl false) := rfl
@[simp] theorem is_pn {p : α × β} : isR (pD f g p) .non = .ok (.bl false) := rfl
@[simp] theorem is_sn {s : Txt} : isR (.str s) .non = .ok (.bl false) := rfl
@[simp] theorem is_in {i : Int} : isR (.int i) .non = .ok (.bl false) := rfl
@[simp] theorem is_bb {a b : Bool} : isR (.bl a) (.bl b) = .ok (.bl (a == b)) := rfl
@[simp] theorem isn_nn : isnR .non .non = .ok (.bl false) := rfl
@[simp] theorem isn_ln {l : List α} : isnR (lD f l) .non = .ok (.bl true) := rfl
@[simp] theorem isn_tn {l : List α} : isnR (tD' f l) .non = .ok (.bl true) := rfl
@[simp] theorem isn_pn {p : α × β} : isnR (pD f g p) .non = .ok (.bl true) := rfl
@[simp] theorem isn_sn {s : Txt} : isnR (.str s) .non = .ok (.bl true) := rfl
@[simp] theorem isn_in {i : Int} : isnR (.int i) .non = .ok (.bl true) := rfl
@[simp] theorem isn_bb {a b : Bool} : isnR (.bl a) (.bl b) = .ok (.bl (!(a == b))) := rfl
@[simp] theorem rev_l {l : List α} : revR (lD f l) = .ok (lD f l.reverse) := by simp only [lD, revR, List.map_reverse]
@[simp] theorem rev_t [NoPair f] {l : List α} : revR (tD' f l) = .ok (tD' f l.reverse) := by
  have h : tabB (l.map f).reverse = false := by rw [← List.map_reverse]; exact tabB_no
  simp only [tD', revR, h, List.map_reverse]
  rfl
@[simp] theorem rev_s {s : Txt} : revR (.str s) = .ok (.str s.reverse) := rfl
theorem add_l {a b : List α} (h : a.length + b.length ≤ 16777216) : addD (lD f a) (lD f b) = .ok (lD f (a ++ b)) := by
  simp only [lD, addD, List.length_map, if_pos h, List.map_append]
theorem add_t [NoPair f] {a b : List α} (h : a.length + b.length ≤ 16777216) : addD (tD' f a) (tD' f b) = .ok (tD' f (a ++ b)) := by
  have h2 : tabB (a.map f ++ b.map f) = false := by rw [← List.map_append]; exact tabB_no
  simp only [tD', addD, List.length_map, if_pos (And.intro h h2), List.map_append]
theorem add_s {a b : Txt} (h : a.length + b.length ≤ 16777216) : addD (.str a) (.str b) = .ok (.str (a ++ b)) := by
  simp only [addD, if_pos h]
@[simp] theorem sum_l {l : List Int} : sumR [lD .int l] = .ok (.int l.sum) := by
  show optI ((intsOf (l.map D.int)).map List.sum) = _
  rw [intsOf_map]; rfl
theorem blsOf_l : ∀ l : List Bool, blsOf (l.map D.bl) = some l
  | [] => rfl
  | x :: l => by simp [blsOf, blsOf_l l]
@[simp] theorem all_l {l : List Bool} : allR [lD .bl l] = .ok (.bl (l.all id)) := by
  show optB ((blsOf (l.map D.bl)).map fun bs => bs.all id) = _
  rw [blsOf_l]; rfl
@[simp] theorem any_l {l : List Bool} : anyR [lD .bl l] = .ok (.bl (l.any id)) := by
  show optB ((blsOf (l.map D.bl)).map fun bs => bs.any id) = _
  rw [blsOf_l]; rfl
theorem join_l {a : Txt} {l : List Txt} (h : (l.map (·.length)).sum + l.length * a.length ≤ 16777216) : joinS (.str a) [lD .str l] = .ok (.str (TL.joinL a l)) := by
  simp only [lD, joinS, joinD, strsOf_map, if_pos h]
theorem joinL_nil : ∀ l : List Txt, TL.joinL [] l = l.flatten
  | [] => rfl
  | [x] => by simp [TL.joinL]
  | x :: y :: l => by
    have i := joinL_nil (y :: l)
    simp only [TL.joinL, List.flatten_cons, List.append_nil] at i ⊢
    rw [i]
    rfl
theorem join_0 {l : List Txt} (h : l.flatten.length ≤ 16777216) : joinS (.str []) [lD .str l] = .ok (.str l.flatten) := by
  rw [join_l (by simpa [List.length_flatten] using h), joinL_nil]
/-! comprehensions as typed lists -/
def getB : D → Bool
  | .bl b => b
  | _ => false
def isBl : D → Bool
  | .bl _ => true
  | _ => false
@[simp] theorem getB_bl {b : Bool} : getB (.bl b) = b := rfl
@[simp] theorem isBl_bl {b : Bool} : isBl (.bl b) = true := rfl
@[simp] theorem filt_true {α : Type} {l : List α} : l.filter (fun _ => true) = l := by simp
/-- a comprehension: its test, its value -/
def compD {α : Type} (B V : α → Res D) (l : List α) : Res D := (compM (fun a => ((B a).bind tb).calm.bind fun b => if b = true then (V a).calm.bind fun x => .ok (some x) else .ok none) l).bind fun ds => .ok (.lst ds)
@[simp] theorem compD_map {α γ : Type} {B V : γ → Res D} {h : α → γ} {l : List α} : compD B V (l.map h) = compD (fun a => B (h a)) (fun a => V (h a)) l := by unfold compD; rw [compM_map]
@[simp] theorem compD_ok {α : Type} {B V : α → Res D} {p v : α → D} {l : List α} (h1 : ∀ a, a ∈ l → B a = .ok (p a)) (h0 : ∀ a, a ∈ l → isBl (p a) = true) (h2 : ∀ a, a ∈ l → getB (p a) = true → V a = .ok (v a)) : compD B V l = .ok (.lst ((l.filter fun a => getB (p a)).map v)) := by
  have key : ∀ a ∈ l, (((B a).bind tb).calm.bind fun b => if b = true then (V a).calm.bind fun x => .ok (some x) else .ok none) = if getB (p a) = true then .ok (some (v a)) else .ok none := fun a ha => by
    rw [h1 a ha, Res.bind_ok]
    have i := h0 a ha
    have k := h2 a ha
    cases e : p a with
    | bl b =>
      rw [e] at k
      cases b with
      | true => rw [k rfl]; rfl
      | false => rfl
    | _ => rw [e] at i; cases i
  unfold compD
  rw [compM_congr0 key, compM_if]
  rfl
theorem comp_flt {α : Type} {B V : α → Res D} {l : List α} (h : ∀ d ∈ l, B d = .ok (.bl false)) : compD B V l = .ok (.lst []) := by
  rw [compD_ok (p := fun _ => .bl false) (v := fun _ => .non) h (fun _ _ => rfl) (fun _ _ z => by cases z)]
  simp
theorem compD_nil {α : Type} {B V : α → Res D} : compD B V [] = .ok (.lst []) := rfl
section
variable {α β γ δ : Type} {l : List β}
@[simp] theorem lst_str {h : β → Txt} : D.lst (l.map fun a => .str (h a)) = lD .str (l.map h) := by simp [lD]
@[simp] theorem lst_int {h : β → Int} : D.lst (l.map fun a => .int (h a)) = lD .int (l.map h) := by simp [lD]
@[simp] theorem lst_bl {h : β → Bool} : D.lst (l.map fun a => .bl (h a)) = lD .bl (l.map h) := by simp [lD]
@[simp] theorem lst_l {g : γ → D} {h : β → List γ} : D.lst (l.map fun a => lD g (h a)) = lD (lD g) (l.map h) := by simp only [lD, List.map_map]; rfl
@[simp] theorem lst_t {g : γ → D} {h : β → List γ} : D.lst (l.map fun a => tD' g (h a)) = lD (tD' g) (l.map h) := by simp only [lD, List.map_map]; rfl
@[simp] theorem lst_p {g : γ → D} {g' : δ → D} {h : β → γ × δ} : D.lst (l.map fun a => pD g g' (h a)) = lD (pD g g') (l.map h) := by simp only [lD, List.map_map]; rfl
end
end
@[simp] theorem s_compD {Φ : List (List D → Res D)} {k : ItK} {es : Exs} {vs : List Nat} {tg : Tg} {t e : Ex} {ρ : Env} : ev Φ (.comp k es vs tg t e) ρ = ((evs Φ es ρ).bind k.fn).bind fun items => compD (fun d => (bT tg d (wipeD ρ vs)).calm.bind fun ρ1 => ev Φ t ρ1) (fun d => (bT tg d (wipeD ρ vs)).calm.bind fun ρ1 => ev Φ e ρ1) items := by
  rw [s_comp]
  refine congrArg _ (funext fun items => ?_)
  unfold compD
  congr 1
  congr 1
  funext d
  dsimp only
  generalize bT tg d (wipeD ρ vs) = r
  cases r <;> rfl
@[simp] theorem bTup_cons {n : Nat} {t : Tg} {ts : Tgs} {ds : List D} {ρ : Env} : bTup n (bTs (.cons t ts)) (.tup ds) ρ = if ds.length = n then bCons (bT t) (bTs ts) ds ρ else .bad := rfl
@[simp] theorem bT_p {α β : Type} {f : α → D} {g : β → D} {p : α × β} {t u : Tg} {ρ : Env} : bT (.tup (.cons t (.cons u .nil))) (pD f g p) ρ = (bT t (f p.1) ρ).bind fun ρ1 => (bT u (g p.2) ρ1).bind .ok := by
  simp only [pD]
  rfl
@[simp] theorem s_mth {Φ : List (List D → Res D)} {m : Mth} {o : Ex} {es : Exs} {ρ : Env} : ev Φ (.mth m o es) ρ = (ev Φ o ρ).bind fun x => if m.ty x = true then (evs Φ es ρ).bind (m.fn x) else .bad := by simp only [ev, mthV]
@[simp] theorem mth_join : Mth.fn .join = joinS := rfl
@[simp] theorem mth_joinT {s : Txt} : Mth.ty .join (.str s) = true := rfl
@[simp] theorem mth_count : Mth.fn .count = cntS := rfl
@[simp] theorem mth_countT {s : Txt} : Mth.ty .count (.str s) = true := rfl
@[simp] theorem mth_find : Mth.fn .find = fndS := rfl
@[simp] theorem mth_findT {s : Txt} : Mth.ty .find (.str s) = true := rfl
@[simp] theorem mth_index : Mth.fn .index = idxA := rfl
@[simp] theorem mth_indexT {s : Txt} : Mth.ty .index (.str s) = true := rfl
@[simp] theorem mth_indexL {α : Type} {f : α → D} {l : List α} : Mth.ty .index (lD f l) = true := rfl
@[simp] theorem bT_2 {x y : D} {t u : Tg} {ρ : Env} : bT (.tup (.cons t (.cons u .nil))) (.tup [x, y]) ρ = (bT t x ρ).bind fun ρ1 => (bT u y ρ1).bind .ok := rfl
@[simp] theorem lst1_str {x : Txt} : D.lst [D.str x] = lD .str [x] := rfl
@[simp] theorem lst2_str {x y : Txt} : D.lst [D.str x, D.str y] = lD .str [x, y] := rfl
@[simp] theorem s_rev {Φ : List (List D → Res D)} {a : Ex} {ρ : Env} : ev Φ (.rev a) ρ = (ev Φ a ρ).bind revR := by simp only [ev]
@[simp] theorem s_neg {Φ : List (List D → Res D)} {a : Ex} {ρ : Env} : ev Φ (.neg a) ρ = (ev Φ a ρ).bind negR := by simp only [ev]
@[simp] theorem neg_int {i : Int} : negR (.int i) = .ok (.int (-i)) := rfl
@[simp] theorem s_dic {Φ : List (List D → Res D)} {t : Bool} {ρ : Env} : ev Φ (.dic t) ρ = .ok (.dic t []) := by simp only [ev, newD]
end DL
/-! Common mathematics, W: sounds and words. -/
namespace DL
open PySem PySem.Spec L2
abbrev tblD (t : Rows) : D := .tup (rowsD t)
theorem rowsD_p (t : Rows) : rowsD t = t.map (pD .str .str) := rfl
@[simp] theorem compD_rows {B V : D → Res D} {t : Rows} : compD B V (rowsD t) = compD (fun p => B (pD .str .str p)) (fun p => V (pD .str .str p)) t := by rw [rowsD_p, compD_map]
theorem vowels_in_ok (s : Txt) : D_vowels_in [.str s] = .ok (lD natD (vowF s)) := by
  simp +contextual -implicitDefEqProofs [-Prod.forall, D_vowels_in, M_vowels_in]
  simp [lD, vowF, natD]
theorem lD_nat (l : List Nat) : lD natD l = lD .int (l.map fun k : Nat => (k : Int)) := by simp [lD, natD]
/-- the sounds of a part that is there -/
def sndG (t : Rows) (p : Txt) : Txt := (sndT t p).getD []
def sndF (t : Rows) (w : Txt) : Option Txt := (partsF 1000 t w).map fun ps => (ps.map (sndG t)).flatten
theorem parts_in {t : Rows} : ∀ (n : Nat) (w : Txt) (ps : List Txt), partsF n t w = some ps → ps.flatten = w ∧ ∀ p ∈ ps, sndT t p = some (sndG t p) ∧ 1 ≤ p.length
  | 0, w, ps, h => by cases h
  | n + 1, w, ps, h => by
    unfold partsF at h
    split at h
    · rename_i e
      cases h
      exact ⟨by simp [e], by simp⟩
    · split at h
      · cases h
      · rename_i k ks e
        obtain ⟨qs, hq, rfl⟩ := Option.map_eq_some_iff.mp h
        obtain ⟨h1, h2⟩ := parts_in n _ qs hq
        have hk : k ∈ lenAt t w := by rw [e]; exact List.mem_cons_self
        obtain ⟨k1, k2⟩ := lenAt_pos hk
        refine ⟨by rw [List.flatten_cons, h1, List.take_append_drop], fun p hp => ?_⟩
        rcases List.mem_cons.mp hp with rfl | hp
        · unfold lenAt at hk
          rw [List.mem_filter, Bool.and_eq_true] at hk
          obtain ⟨z, hz⟩ := Option.isSome_iff_exists.mp hk.2.1
          refine ⟨by unfold sndG; rw [hz]; rfl, by rw [List.length_take]; omega⟩
        · exact h2 p hp
theorem sndT_row {t : Rows} {p z : Txt} (h : sndT t p = some z) : (p, z) ∈ t := by
  unfold sndT at h
  obtain ⟨q, hq, rfl⟩ := Option.map_eq_some_iff.mp h
  have : q.1 = p := by simpa using List.find?_some hq
  rw [← this]
  exact List.mem_of_find?_eq_some hq
theorem flat_le {k : Nat} : ∀ (l : List Txt), (∀ x ∈ l, x.length ≤ k) → l.flatten.length ≤ k * l.length
  | [], _ => by simp
  | x :: l, h => by
    have := flat_le l fun y hy => h y (List.mem_cons_of_mem _ hy)
    have := h x List.mem_cons_self
    rw [List.flatten_cons, List.length_append, List.length_cons, Nat.mul_add]
    omega
theorem flat_ge : ∀ (l : List Txt), (∀ x ∈ l, 1 ≤ x.length) → l.length ≤ l.flatten.length
  | [], _ => by simp
  | x :: l, h => by
    have := flat_ge l fun y hy => h y (List.mem_cons_of_mem _ hy)
    have := h x List.mem_cons_self
    rw [List.flatten_cons, List.length_append, List.length_cons]
    omega
theorem snd_len {t : Rows} (h : TabOk t) {w s : Txt} (e : sndF t w = some s) : s.length ≤ 2 * w.length := by
  unfold sndF at e
  obtain ⟨ps, hp, rfl⟩ := Option.map_eq_some_iff.mp e
  obtain ⟨h1, h2⟩ := parts_in _ _ _ hp
  have h3 := flat_ge ps fun p hp => (h2 p hp).2
  rw [h1] at h3
  have h4 := flat_le (k := 2) (ps.map (sndG t)) fun x hx => by
    obtain ⟨p, hp, rfl⟩ := List.mem_map.mp hx
    have := h.rows _ (sndT_row (h2 p hp).1)
    unfold rowB at this
    rw [Bool.and_eq_true, Bool.and_eq_true, decide_eq_true_eq] at this
    exact this.1.2
  rw [List.length_map] at h4
  omega
theorem optL_eq (o : Option (List Txt)) : optL o = oD (lD .str) o := by cases o <;> rfl
@[simp] theorem ix_dicT {t : Rows} {p : Txt} : ixR (.dic false (dicT t)) (.str p) = thereD .str (sndT t p) := by
  simp only [ixR, keyOk, key0, if_true, look_T]
  cases sndT t p <;> rfl
theorem sounds_of_ok {t : Rows} (h : TabOk t) {w : Txt} (hw : w.length < 1000) : D_sounds_of [tblD t, .str w] = .ok (oD .str (sndF t w)) := by
  have hs : ∀ s, sndF t w = some s → s.length ≤ 2 * w.length := fun s => snd_len h
  unfold sndF at hs ⊢
  cases hp : partsF 1000 t w with
  | none => simp +contextual -implicitDefEqProofs [-Prod.forall, D_sounds_of, M_sounds_of, parts_of_ok h hw, hp, optL]
  | some ps =>
    obtain ⟨h1, h2⟩ := parts_in _ _ _ hp
    have h3 : ∀ p ∈ ps, sndT t p = some (sndG t p) := fun p hp => (h2 p hp).1
    have e : D.lst (ps.map D.str) = lD .str ps := rfl
    have hl := hs (ps.map (sndG t)).flatten (by rw [hp]; rfl)
    have e2 := join_0 (l := ps.map (sndG t)) (by omega)
    simp +contextual -implicitDefEqProofs [-Prod.forall, D_sounds_of, M_sounds_of, parts_of_ok h hw, hp, optL, e, dict_T h, h3, e2]
def stressB (s : Option Txt) (i : Int) : Bool := match s with
  | none => false
  | some s => decide (i ≤ ((vowF s).length : Nat))
def wordB (t : Rows) (w : Wd) : Bool := lettersB w.1 1 10 && (decide (1 ≤ w.2) && decide (w.2 ≤ 3)) && stressB (sndF t w.1) w.2
@[simp] theorem is_letters_s {s : Txt} {a b : Int} : D_is_letters [.str s, .int a, .int b] = .ok (.bl (lettersB s a b)) := is_letters_str s a b
theorem lettersB_len {s : Txt} {a b : Int} (h : lettersB s a b = true) : ((s.length : Nat) : Int) ≤ b := by
  unfold lettersB at h
  rw [Bool.and_eq_true, Bool.and_eq_true, decide_eq_true_eq, decide_eq_true_eq] at h
  exact h.1.2
theorem is_word_of_ok {t : Rows} (h : TabOk t) (w : Wd) : D_is_word_of [tblD t, wD w] = .ok (.bl (wordB t w)) := by
  have hl : lettersB w.1 1 10 = true → w.1.length < 1000 := fun z => by have := lettersB_len z; omega
  unfold wordB stressB
  cases hs : sndF t w.1 with
  | none =>
    simp +contextual -implicitDefEqProofs [-Prod.forall, D_is_word_of, M_is_word_of, sounds_of_ok h, hl, hs]
  | some s =>
    simp +contextual -implicitDefEqProofs [-Prod.forall, D_is_word_of, M_is_word_of, sounds_of_ok h, hl, hs, vowels_in_ok]
    cases h1 : lettersB w.1 1 10 <;> by_cases h2 : 1 ≤ w.2 <;> by_cases h3 : w.2 ≤ 3 <;> simp [h2, h3] <;> omega
theorem is_word_ok {t : Rows} (h : TabOk t) (w : Wd) : D_is_word [tblD t, wD w] = .ok (.bl (wordB t w)) := by
  simp +contextual -implicitDefEqProofs [-Prod.forall, D_is_word, M_is_word, look_table_ok h, is_word_of_ok h]
theorem look_word_ok {t : Rows} (h : TabOk t) {w : Wd} (hw : wordB t w = true) : D_look_word [tblD t, wD w] = .ok .non := by
  simp +contextual -implicitDefEqProofs [-Prod.forall, D_look_word, M_look_word, is_word_ok h, hw]
theorem split_up_ok {t : Rows} (h : TabOk t) {w : Txt} (hl : lettersB w 1 10 = true) {ps : List Txt} (hp : partsF 1000 t w = some ps) : D_split_up [tblD t, .str w] = .ok (lD .str ps) := by
  have := lettersB_len hl
  simp +contextual -implicitDefEqProofs [-Prod.forall, D_split_up, M_split_up, look_table_ok h, hl, parts_of_ok h (w := w) (by omega), hp, optL_eq]
theorem sounded_ok {t : Rows} (h : TabOk t) {w : Txt} (hl : lettersB w 1 10 = true) {s : Txt} (hs : sndF t w = some s) : D_sounded [tblD t, .str w] = .ok (.str s) := by
  have hlen := snd_len h hs
  have := lettersB_len hl
  unfold sndF at hs
  obtain ⟨ps, hp, rfl⟩ := Option.map_eq_some_iff.mp hs
  have h3 : ∀ p ∈ ps, sndT t p = some (sndG t p) := fun p hq => ((parts_in _ _ _ hp).2 p hq).1
  have e2 := join_0 (l := ps.map (sndG t)) (by omega)
  simp +contextual -implicitDefEqProofs [-Prod.forall, D_sounded, M_sounded, split_up_ok h hl hp, dict_T h, h3, e2]
theorem can_sound_ok {t : Rows} (h : TabOk t) (s : Txt) : D_can_sound [tblD t, .str s] = .ok (lD .str ((t.filter fun p => decide (p.2 = s)).map (·.1))) := by
  simp +contextual -implicitDefEqProofs [-Prod.forall, D_can_sound, M_can_sound, look_table_ok h]
end DL
/-! Common mathematics, R: tails, heads, kinds of rhymes. -/
namespace DL
open PySem PySem.Spec L2
theorem cutL_from {α : Type} {xs : List α} {n : Nat} : cutL xs (some (n : Int)) none = xs.drop n := by
  unfold cutL
  rw [HT.sIx_nat]
  show ((xs.drop (min n xs.length)).take (xs.length - min n xs.length)) = _
  by_cases h : n ≤ xs.length
  · rw [Nat.min_eq_left h, List.take_of_length_le (by rw [List.length_drop]; omega)]
  · rw [Nat.min_eq_right (by omega), List.drop_eq_nil_of_le (Nat.le_refl _), List.drop_eq_nil_of_le (by omega)]
    simp
theorem cutL_to {α : Type} {xs : List α} {n : Nat} : cutL xs none (some (n : Int)) = xs.take n := by
  unfold cutL
  rw [HT.sIx_nat]
  show ((xs.drop 0).take (min n xs.length - 0)) = _
  rw [List.drop_zero, Nat.sub_zero]
  by_cases h : n ≤ xs.length
  · rw [Nat.min_eq_left h]
  · rw [Nat.min_eq_right (by omega), List.take_of_length_le (Nat.le_refl _), List.take_of_length_le (by omega)]
theorem cutL_ab {α : Type} {xs : List α} {a b : Nat} (h : b ≤ xs.length) : cutL xs (some (a : Int)) (some (b : Int)) = (xs.take b).drop a := by
  unfold cutL
  rw [HT.sIx_nat, HT.sIx_nat, Nat.min_eq_left h, List.drop_take]
  by_cases ha : a ≤ xs.length
  · rw [Nat.min_eq_left ha]
  · rw [Nat.min_eq_right (by omega), List.drop_eq_nil_of_le (Nat.le_refl _), List.drop_eq_nil_of_le (by omega)]
    simp
def sgnAt (s : Txt) (k : Nat) : Nat := s.getD k 0
def sndW (t : Rows) (w : Wd) : Txt := (sndF t w.1).getD []
def tailF (t : Rows) (w : Wd) : Txt := (sndW t w).drop (stAt (sndW t w) w.2.toNat)
def headF (t : Rows) (w : Wd) : Txt := lastRun ((sndW t w).take (stAt (sndW t w) w.2.toNat))
def vowelsF (t : Rows) (w : Wd) : Txt := (tailF t w).filter vowB
def endF (t : Rows) (w : Wd) : Txt := lastRun (sndW t w)
/-- a word, parted at the stressed vowel -/
theorem word_parts {t : Rows} {w : Wd} (h : wordB t w = true) : ∃ (a : Txt) (v : Nat) (b : Txt), sndF t w.1 = some (a ++ v :: b) ∧ sndW t w = a ++ v :: b ∧ vowB v = true ∧ w.2 = ((b.countP vowB + 1 : Nat) : Int) ∧ lettersB w.1 1 10 = true ∧ w.2 ≤ 3 ∧ tailF t w = v :: b ∧ headF t w = lastRun a := by
  unfold wordB stressB at h
  cases hs : sndF t w.1 with
  | none => rw [hs] at h; simp at h
  | some s =>
    rw [hs] at h
    simp only [Bool.and_eq_true, decide_eq_true_eq, vowF_len] at h
    obtain ⟨⟨h1, h2, h3⟩, h4⟩ := h
    obtain ⟨a, v, b, e, hv, hb⟩ := part_at s w.2.toNat (by omega) (by omega)
    have e2 : sndW t w = a ++ v :: b := by unfold sndW; rw [hs, e]; rfl
    have e3 : stAt (sndW t w) w.2.toNat = a.length := by rw [e2, ← hb]; exact stAt_part hv
    refine ⟨a, v, b, by rw [e], e2, hv, by omega, h1, h3, ?_, ?_⟩
    · unfold tailF
      rw [e3, e2, List.drop_left]
    · unfold headF
      rw [e3, e2, List.take_left]
section
variable {t : Rows} (h : TabOk t)
include h
theorem snd_word {w : Wd} (hw : wordB t w = true) : D_sounds_of [tblD t, .str w.1] = .ok (.str (sndW t w)) ∧ (sndW t w).length ≤ 20 := by
  obtain ⟨a, v, b, e1, e2, hv, hk, hl, _⟩ := word_parts hw
  have := lettersB_len hl
  have hlen := snd_len h e1
  rw [sounds_of_ok h (by omega), e1, e2]
  exact ⟨rfl, by omega⟩
theorem stress_at_ok {w : Wd} (hw : wordB t w = true) : D_stress_at [.str (sndW t w), .int w.2] = .ok (.int (stAt (sndW t w) w.2.toNat : Nat)) := by
  obtain ⟨a, v, b, e1, e2, hv, hk, hl, _⟩ := word_parts hw
  have e3 := vow_at (a := a) (b := b) hv
  have e4 : stAt (a ++ v :: b) (b.countP vowB + 1) = a.length := stAt_part hv
  have e5 : (((vowF (a ++ v :: b)).length : Nat) : Int) - ((b.countP vowB + 1 : Nat) : Int) = (((vowF (a ++ v :: b)).length - (b.countP vowB + 1) : Nat) : Int) := by
    rw [vowF_len, List.countP_append, List.countP_cons, hv]
    simp
  rw [hk, e2]
  rw [show ((b.countP vowB + 1 : Nat) : Int).toNat = b.countP vowB + 1 from rfl, e4]
  simp only [D_stress_at, M_stress_at, vowels_in_ok, s_run]
  simp [vowels_in_ok]
  rw [show (((vowF (a ++ v :: b)).length : Nat) : Int) - (((b.countP vowB : Nat) : Int) + 1) = (((vowF (a ++ v :: b)).length - (b.countP vowB + 1) : Nat) : Int) from e5, atI_natc, e3]
  rfl
theorem tail_of_ok {w : Wd} (hw : wordB t w = true) : D_tail_of [tblD t, wD w] = .ok (.str (tailF t w)) := by
  simp +contextual -implicitDefEqProofs [-Prod.forall, D_tail_of, M_tail_of, (snd_word h hw).1, stress_at_ok h hw, cutL_from, tailF]
theorem tail_sounds_ok {w : Wd} (hw : wordB t w = true) : D_tail_sounds [tblD t, wD w] = .ok (.str (tailF t w)) := by
  simp +contextual -implicitDefEqProofs [-Prod.forall, D_tail_sounds, M_tail_sounds, look_word_ok h hw, tail_of_ok h hw]
theorem end_of_ok {w : Wd} (hw : wordB t w = true) : D_end_of [tblD t, wD w] = .ok (.str (endF t w)) := by
  obtain ⟨a, v, b, e1, e2, hv, hk, hl, _⟩ := word_parts hw
  -- the last vowel
  obtain ⟨a', v', b', e3, hv', hb'⟩ := part_at (sndW t w) 1 (by omega) (by rw [e2, List.countP_append, List.countP_cons, hv]; simp; omega)
  have e4 := vow_at (a := a') (b := b') hv'
  have hb0 : b'.countP vowB = 0 := by omega
  rw [hb0] at e4
  have e5 : (vowF (sndW t w)).getLast? = some a'.length := by rw [e3, List.getLast?_eq_getElem?]; exact e4
  have e6 : endF t w = b' := by unfold endF; rw [e3]; exact lastRun_vow a' hv' hb0
  have e7 : cutL (sndW t w) (some ((a'.length : Int) + 1)) none = b' := by
    have := cutL_from (xs := sndW t w) (n := a'.length + 1)
    rw [show ((a'.length : Int) + 1) = ((a'.length + 1 : Nat) : Int) from rfl, this, e3]
    simp
  simp +contextual -implicitDefEqProofs [-Prod.forall, D_end_of, M_end_of, (snd_word h hw).1, vowels_in_ok, e5, e7, e6]
theorem vowels_of_ok {w : Wd} (hw : wordB t w = true) : D_vowels_of [tblD t, wD w] = .ok (.str (vowelsF t w)) := by
  have hlen := (snd_word h hw).2
  have e : ∀ k ∈ vowF (tailF t w), (tailF t w)[k]? = some (sgnAt (tailF t w) k) := fun k hk => by
    obtain ⟨c, hc, _⟩ := mem_vowF.mp hk
    unfold sgnAt
    rw [List.getD_eq_getElem?_getD, hc]; rfl
  have e2 : ((vowF (tailF t w)).map fun k => [sgnAt (tailF t w) k]).flatten = vowelsF t w := by
    unfold vowelsF sgnAt
    generalize tailF t w = s
    rw [vowF_range]
    have : s = (List.range s.length).map fun i => s.getD i 0 := by
      apply List.ext_getElem?
      intro i
      by_cases h : i < s.length
      · simp [h, List.getD_eq_getElem?_getD]
      · simp [h, List.getElem?_eq_none (Nat.not_lt.mp h)]
    conv => rhs; rw [this]
    rw [List.filter_map, ← List.flatMap_def]
    generalize (List.range s.length) = L
    induction L with
    | nil => rfl
    | cons i L ih =>
      simp only [List.filter_cons, Function.comp]
      split
      · simp only [List.flatMap_cons, List.map_cons, ih]; rfl
      · exact ih
  have e3 : (vowelsF t w).length ≤ 20 := by
    unfold vowelsF tailF
    have := List.length_filter_le vowB ((sndW t w).drop (stAt (sndW t w) w.2.toNat))
    rw [List.length_drop] at this
    omega
  have e4 := join_0 (l := (vowF (tailF t w)).map fun k => [sgnAt (tailF t w) k]) (by rw [e2]; omega)
  rw [e2] at e4
  simp +contextual -implicitDefEqProofs [-Prod.forall, D_vowels_of, M_vowels_of, tail_of_ok h hw, vowels_in_ok, e, e4]
omit h in
theorem head_loop {s : Txt} {at_ : Nat} (x0 x1 x3 : Option D) : ∀ (n f : Nat), f < n → f ≤ at_ → at_ ≤ s.length → lastRun (s.take at_) = lastRun (s.take f) ++ (s.take at_).drop f →
    ∃ f' : Nat, f' ≤ at_ ∧ whlO (tst (ev [D_sounds_of, D_stress_at, D_vowels_in] (.and (.op DL.Op2.gt (.var 4) (.lit (.int (0)))) (.op DL.Op2.nin (.op DL.Op2.sub (.var 4) (.lit (.int (1)))) (.call 2 1 (.cons (.var 2) .nil)))))) (evSs [D_sounds_of, D_stress_at, D_vowels_in] M_head_of_1) n [x0, x1, some (.str s), x3, some (.int (f : Int))] = .nx [x0, x1, some (.str s), x3, some (.int (f' : Int))] ∧ lastRun (s.take at_) = (s.take at_).drop f'
  | 0, f, h1, h2, h3, h4 => by omega
  | n + 1, 0, h1, h2, h3, h4 => by
    refine ⟨0, Nat.zero_le _, ?_, ?_⟩
    · unfold whlO
      simp
    · simpa [lastRun_nil] using h4
  | n + 1, f + 1, h1, h2, h3, h4 => by
    have hf : f < s.length := by omega
    have e1 : s.take (f + 1) = s.take f ++ [s[f]] := by rw [List.take_succ, List.getElem?_eq_getElem hf]; rfl
    have e2 : (s.take at_).drop f = s[f] :: (s.take at_).drop (f + 1) := by
      rw [List.drop_eq_getElem_cons (by rw [List.length_take]; omega)]
      simp
    rw [e1, lastRun_snoc] at h4
    have e3 : ((f + 1 : Nat) : Int) - 1 = (f : Int) := by omega
    have e4 : (0 : Int) < ((f + 1 : Nat) : Int) := by omega
    have e5 : ninR (.int (f : Int)) (lD natD (vowF s)) = .ok (.bl (!vowB s[f])) := by
      rw [lD_nat, ninR_li]
      congr 3
      have : (f : Int) ∈ (vowF s).map (fun k : Nat => (k : Int)) ↔ vowB s[f] = true := by
        rw [List.mem_map]
        constructor
        · rintro ⟨k, hk, e⟩
          have : k = f := by omega
          subst this
          obtain ⟨c, hc, hv⟩ := mem_vowF.mp hk
          rw [List.getElem?_eq_getElem hf] at hc
          cases hc
          exact hv
        · intro hv
          exact ⟨f, mem_vowF.mpr ⟨_, List.getElem?_eq_getElem hf, hv⟩, rfl⟩
      cases hv : vowB s[f] with
      | true => exact decide_eq_true (this.mpr hv)
      | false => exact decide_eq_false fun z => by rw [this.mp z] at hv; cases hv
    cases hv : vowB s[f] with
    | true =>
      refine ⟨f + 1, h2, ?_, ?_⟩
      · unfold whlO
        simp only [hv, Bool.not_true] at e5
        simp [e3, e4, e5, vowels_in_ok]
      · rw [hv, if_pos rfl, List.nil_append] at h4
        exact h4
    | false =>
      rw [hv, if_neg Bool.false_ne_true] at h4
      obtain ⟨f', g1, g2, g3⟩ := head_loop (s := s) (at_ := at_) x0 x1 x3 n f (by omega) (by omega) h3 (by rw [h4, e2]; simp)
      refine ⟨f', g1, ?_, g3⟩
      unfold whlO
      simp only [hv, Bool.not_false] at e5
      have c : tst (ev [D_sounds_of, D_stress_at, D_vowels_in] (.and (.op DL.Op2.gt (.var 4) (.lit (.int (0)))) (.op DL.Op2.nin (.op DL.Op2.sub (.var 4) (.lit (.int (1)))) (.call 2 1 (.cons (.var 2) .nil))))) [x0, x1, some (.str s), x3, some (.int ((f + 1 : Nat) : Int))] = .ok true := by
        simp [e3, e4, e5, vowels_in_ok]
      have b : evSs [D_sounds_of, D_stress_at, D_vowels_in] M_head_of_1 [x0, x1, some (.str s), x3, some (.int ((f + 1 : Nat) : Int))] = .nx [x0, x1, some (.str s), x3, some (.int (f : Int))] := by
        simp +contextual -implicitDefEqProofs [-Prod.forall, M_head_of_1, e3]
      rw [c]
      simp only [s_rok, if_true]
      rw [b]
      exact g2
theorem stAt_le {w : Wd} (hw : wordB t w = true) : stAt (sndW t w) w.2.toNat < (sndW t w).length := by
  obtain ⟨a, v, b, e1, e2, hv, hk, hl, _⟩ := word_parts hw
  rw [hk, e2]
  have := stAt_part (a := a) (b := b) hv
  show stAt (a ++ v :: b) (b.countP vowB + 1) < _
  rw [this]
  simp
theorem head_of_ok {w : Wd} (hw : wordB t w = true) : D_head_of [tblD t, wD w] = .ok (.str (headF t w)) := by
  have hl := (snd_word h hw).2
  have ha := stAt_le h hw
  obtain ⟨f', g1, g2, g3⟩ := head_loop (s := sndW t w) (at_ := stAt (sndW t w) w.2.toNat) (some (tblD t)) (some (wD w)) (some (.int (stAt (sndW t w) w.2.toNat : Nat))) 1000 (stAt (sndW t w) w.2.toNat) (by omega) (Nat.le_refl _) (by omega) (by
    rw [List.drop_eq_nil_of_le (by rw [List.length_take]; omega), List.append_nil])
  have e := cutL_ab (xs := sndW t w) (a := f') (b := stAt (sndW t w) w.2.toNat) (by omega)
  simp +contextual -implicitDefEqProofs [-Prod.forall, D_head_of, M_head_of, (snd_word h hw).1, stress_at_ok h hw, g2, e, ← g3, headF]
theorem head_sounds_ok {w : Wd} (hw : wordB t w = true) : D_head_sounds [tblD t, wD w] = .ok (.str (headF t w)) := by
  simp +contextual -implicitDefEqProofs [-Prod.forall, D_head_sounds, M_head_sounds, look_word_ok h hw, head_of_ok h hw]
/-- how two words rhyme -/
def kindF (t : Rows) (u w : Wd) : Txt :=
  if tailF t u = tailF t w then (if headF t u = headF t w then [114, 105, 99, 104] else [102, 117, 108, 108])
  else if vowelsF t u = vowelsF t w then [118, 111, 119, 101, 108, 115]
  else if endF t u ≠ [] ∧ endF t u = endF t w then [101, 110, 100] else [110, 111, 110, 101]
theorem kind_of_ok {u w : Wd} (hu : wordB t u = true) (hw : wordB t w = true) : D_kind_of [tblD t, wD u, wD w] = .ok (.str (kindF t u w)) := by
  unfold kindF
  simp +contextual -implicitDefEqProofs [-Prod.forall, D_kind_of, M_kind_of, tail_of_ok h hu, tail_of_ok h hw, head_of_ok h hu, head_of_ok h hw, vowels_of_ok h hu, vowels_of_ok h hw, end_of_ok h hu, end_of_ok h hw]
theorem rhyme_kind_ok {u w : Wd} (hu : wordB t u = true) (hw : wordB t w = true) : D_rhyme_kind [tblD t, wD u, wD w] = .ok (.str (kindF t u w)) := by
  simp +contextual -implicitDefEqProofs [-Prod.forall, D_rhyme_kind, M_rhyme_kind, look_word_ok h hu, look_word_ok h hw, kind_of_ok h hu hw]
theorem do_rhyme_ok {u w : Wd} (hu : wordB t u = true) (hw : wordB t w = true) : D_do_rhyme [tblD t, wD u, wD w] = .ok (.bl (!decide (u.1 = w.1) && decide (tailF t u = tailF t w))) := by
  simp +contextual -implicitDefEqProofs [-Prod.forall, D_do_rhyme, M_do_rhyme, look_word_ok h hu, look_word_ok h hw, tail_of_ok h hu, tail_of_ok h hw]
end
end DL
/-! Common mathematics, D: typed dicts; loops by what is done so far. -/
namespace DL
open PySem PySem.Spec L2
section
variable {κ ν : Type} [DecidableEq κ]
def hasA (l : List (κ × ν)) (k : κ) : Bool := l.any fun p => decide (p.1 = k)
def getA (l : List (κ × ν)) (k : κ) : Option ν := (l.find? fun p => decide (p.1 = k)).map (·.2)
def putA (l : List (κ × ν)) (k : κ) (v : ν) : List (κ × ν) := if hasA l k = true then l.map (fun p => if p.1 = k then (p.1, v) else p) else l ++ [(k, v)]
def dropA (l : List (κ × ν)) (k : κ) : List (κ × ν) := l.filter fun p => !decide (p.1 = k)
/-- a dict whose keys are ints, texts -/
def dcD (f : κ → D) (g : ν → D) (l : List (κ × ν)) : D := .dic false (l.map fun p => (f p.1, g p.2))
/-- a dict whose keys are tuples -/
def dtD (f : κ → D) (g : ν → D) (l : List (κ × ν)) : D := .dic true (l.map fun p => (f p.1, g p.2))
variable {n : Nat} {f : κ → D} {g : ν → D} [em : EmbF n f]
include em
theorem hasD_A {l : List (κ × ν)} {k : κ} : hasD (l.map fun p => (f p.1, g p.2)) (f k) = hasA l k := by
  unfold hasD hasA
  rw [List.any_map]
  congr 1
  funext p
  exact EmbF.eq (f := f) _ _
theorem lookD_A {l : List (κ × ν)} {k : κ} : lookD (l.map fun p => (f p.1, g p.2)) (f k) = (getA l k).map g := by
  unfold getA
  induction l with
  | nil => rfl
  | cons p l ih =>
    rw [List.map_cons, List.find?_cons]
    simp only [lookD, EmbF.eq]
    by_cases h : p.1 = k
    · simp [h]
    · simp [h]
      simpa using ih
theorem putD_A {l : List (κ × ν)} {k : κ} {v : ν} : putD (l.map fun p => (f p.1, g p.2)) (f k) (g v) = (putA l k v).map fun p => (f p.1, g p.2) := by
  unfold putD putA
  rw [hasD_A]
  split
  · rw [List.map_map, List.map_map]
    refine List.map_congr_left fun p _ => ?_
    simp only [Function.comp, EmbF.eq, decide_eq_true_eq]
    split <;> rfl
  · rw [List.map_append]; rfl
theorem dropD_A {l : List (κ × ν)} {k : κ} : dropD (l.map fun p => (f p.1, g p.2)) (f k) = (dropA l k).map fun p => (f p.1, g p.2) := by
  unfold dropD dropA
  rw [List.filter_map]
  congr 1
  refine List.filter_congr fun p _ => ?_
  simp only [Function.comp, EmbF.eq]
end
/-- a store in a dict -/
def put1 (x k v : D) : Res D := match x with
  | .dic t kvs => if keyOk t k = true ∧ kvs.length < 16777216 then .ok (.dic t (putD kvs k v)) else .bad
  | _ => .bad
def isDic : D → Bool
  | .dic _ _ => true
  | _ => false
def pop1 (x k : D) : Res D := match x with
  | .dic false kvs => if key0 k = true ∧ (lookD kvs k).isSome = true then .ok (.dic false (dropD kvs k)) else .bad
  | _ => .bad
def isDic0 : D → Bool
  | .dic false _ => true
  | _ => false
def app1 (x d : D) : Res D := match x with
  | .lst ds => if ds.length < 16777216 then .ok (.lst (ds ++ [d])) else .bad
  | _ => .bad
def ext1 (x d : D) : Res D := match x, d with
  | .lst ds, .lst es => if ds.length + es.length ≤ 16777216 then .ok (.lst (ds ++ es)) else .bad
  | _, _ => .bad
section
variable {Φ : List (List D → Res D)} {ρ : Env}
@[simp] theorem s_put {i : Nat} {k v : Ex} : evS Φ (.put i k v) ρ = match ρ[i]? with | some (some x) => if isDic x = true then rO ρ (ev Φ v ρ) fun v => rO ρ (ev Φ k ρ) fun k => rO ρ (put1 x k v) fun y => .nx (ρ.set i (some y)) else .bad | _ => .bad := by
  simp only [evS, putO]
  cases ρ[i]? with
  | none => rfl
  | some o =>
    cases o with
    | none => rfl
    | some x =>
      cases x with
      | dic t kvs =>
        simp only [isDic, if_true]
        refine congrArg _ (funext fun v => congrArg _ (funext fun k => ?_))
        simp only [put1]
        split <;> rfl
      | _ => rfl
@[simp] theorem s_pop {i : Nat} {k : Ex} : evS Φ (.pop i k) ρ = match ρ[i]? with | some (some x) => if isDic0 x = true then rO ρ (ev Φ k ρ) fun k => rO ρ (pop1 x k) fun y => .nx (ρ.set i (some y)) else .bad | _ => .bad := by
  simp only [evS, popO]
  cases ρ[i]? with
  | none => rfl
  | some o =>
    cases o with
    | none => rfl
    | some x =>
      cases x with
      | dic t kvs =>
        cases t with
        | false =>
          simp only [isDic0, if_true]
          refine congrArg _ (funext fun k => ?_)
          simp only [pop1]
          split <;> rfl
        | true => rfl
      | _ => rfl
@[simp] theorem s_app1 {i : Nat} {k : Bool} {e : Ex} : evS Φ (.app i k e) ρ = match ρ[i]? with | some (some x) => if isLst x = true then rO ρ (kp k (ev Φ e ρ)) fun d => rO ρ (app1 x d) fun y => .nx (ρ.set i (some y)) else .bad | _ => .bad := by
  simp only [evS, appO]
  cases ρ[i]? with
  | none => rfl
  | some o =>
    cases o with
    | none => rfl
    | some x =>
      cases x with
      | lst ds =>
        simp only [isLst, if_true]
        refine congrArg _ (funext fun d => ?_)
        simp only [app1]
        split <;> rfl
      | _ => rfl
@[simp] theorem s_ext1 {i : Nat} {e : Ex} : evS Φ (.ext i e) ρ = match ρ[i]? with | some (some x) => if isLst x = true then rO ρ (ev Φ e ρ) fun d => rO ρ (ext1 x d) fun y => .nx (ρ.set i (some y)) else .bad | _ => .bad := by
  simp only [evS, extO]
  cases ρ[i]? with
  | none => rfl
  | some o =>
    cases o with
    | none => rfl
    | some x =>
      cases x with
      | lst ds =>
        simp only [isLst, if_true]
        refine congrArg _ (funext fun d => ?_)
        cases d with
        | lst es => simp only [ext1]; split <;> rfl
        | _ => rfl
      | _ => rfl
@[simp] theorem s_for {k : ItK} {es : Exs} {t : Tg} {b : Sms} : evS Φ (.for_ k es t b) ρ = rO ρ ((evs Φ es ρ).bind k.fn) fun items => forO (bT t) (evSs Φ b) items ρ := by simp only [evS]
end
section
variable {κ ν α : Type} [DecidableEq κ] {n : Nat} {f : κ → D} {g : ν → D} {h : α → D}
@[simp] theorem isDic_c {l : List (κ × ν)} : isDic (dcD f g l) = true := rfl
@[simp] theorem isDic_t {l : List (κ × ν)} : isDic (dtD f g l) = true := rfl
@[simp] theorem isDic0_c {l : List (κ × ν)} : isDic0 (dcD f g l) = true := rfl
@[simp] theorem isLst_l {l : List α} : isLst (lD h l) = true := rfl
@[simp] theorem isLst_0 {l : List D} : isLst (.lst l) = true := rfl
theorem put1_c [EmbF n f] {l : List (κ × ν)} {k : κ} {v : ν} (hk : key0 (f k) = true) (hl : l.length < 16777216) : put1 (dcD f g l) (f k) (g v) = .ok (dcD f g (putA l k v)) := by
  simp only [put1, dcD, keyOk, hk, List.length_map, hl, and_self, if_true, putD_A]
theorem put1_t [EmbF n f] {l : List (κ × ν)} {k : κ} {v : ν} (hk : key1 (f k) = true) (hl : l.length < 16777216) : put1 (dtD f g l) (f k) (g v) = .ok (dtD f g (putA l k v)) := by
  simp only [put1, dtD, keyOk, hk, List.length_map, hl, and_self, if_true, putD_A]
theorem pop1_c [EmbF n f] {l : List (κ × ν)} {k : κ} (hk : key0 (f k) = true) (hl : (getA l k).isSome = true) : pop1 (dcD f g l) (f k) = .ok (dcD f g (dropA l k)) := by
  simp only [pop1, dcD, hk, lookD_A, Option.isSome_map, hl, and_self, if_true, dropD_A]
theorem ix_c [EmbF n f] {l : List (κ × ν)} {k : κ} (hk : key0 (f k) = true) : ixR (dcD f g l) (f k) = thereD g (getA l k) := by
  simp only [ixR, dcD, keyOk, hk, if_true, lookD_A]
  cases getA l k <;> rfl
theorem in_c [EmbF n f] {l : List (κ × ν)} {k : κ} (hk : key0 (f k) = true) : inR (f k) (dcD f g l) = .ok (.bl (getA l k).isSome) := by
  have e : inB (f k) (dcD f g l) = .ok (getA l k).isSome := by
    unfold dcD
    have : ∀ (x : D) (kvs : List (D × D)), key0 x = true → inB x (.dic false kvs) = .ok (lookD kvs x).isSome := by
      intro x kvs hx
      cases x with
      | str s =>
        cases s with
        | nil => simp only [inB, keyOk, key0, if_true]
        | cons c r => cases r <;> simp only [inB, keyOk, key0, if_true]
      | int i => simp only [inB, keyOk, key0, if_true]
      | _ => cases hx
    rw [this _ _ hk, lookD_A, Option.isSome_map]
  unfold inR
  rw [e]; rfl
theorem nin_c [EmbF n f] {l : List (κ × ν)} {k : κ} (hk : key0 (f k) = true) : ninR (f k) (dcD f g l) = .ok (.bl (!(getA l k).isSome)) := by
  have := in_c (g := g) (l := l) hk
  unfold inR at this
  unfold ninR
  cases e : inB (f k) (dcD f g l) with
  | ok b => rw [e] at this; simp only [Res.bind_ok, Res.ok.injEq, D.bl.injEq] at this ⊢; rw [this]
  | exc c => rw [e] at this; cases this
  | bad => rw [e] at this; cases this
@[simp] theorem items_c {l : List (κ × ν)} : itemsOf (dcD f g l) = .ok (l.map fun p => f p.1) := by simp [itemsOf, dcD]
@[simp] theorem items_d {l : List (κ × ν)} : itemsOf (dtD f g l) = .ok (l.map fun p => f p.1) := by simp [itemsOf, dtD]
theorem app1_l {l : List α} {a : α} (hl : l.length < 16777216) : app1 (lD h l) (h a) = .ok (lD h (l ++ [a])) := by
  simp only [app1, lD, List.length_map, hl, if_true, List.map_append]; rfl
theorem ext1_l {l m : List α} (hl : l.length + m.length ≤ 16777216) : ext1 (lD h l) (lD h m) = .ok (lD h (l ++ m)) := by
  simp only [ext1, lD, List.length_map, hl, if_true, List.map_append]
end
/-! loops -/
theorem for_pre {α : Type} {t : Tg} {f : Env → Out} {e : α → D} (I : List α → Env → Prop) : ∀ (post pre : List α), (∀ p a q, pre ++ post = p ++ a :: q → ∀ ρ, I p ρ → ∃ ρ1, bT t (e a) ρ = .ok ρ1 ∧ ∃ ρ2, f ρ1 = .nx ρ2 ∧ I (p ++ [a]) ρ2) → ∀ ρ, I pre ρ → ∃ ρ', forO (bT t) f (post.map e) ρ = .nx ρ' ∧ I (pre ++ post) ρ'
  | [], pre, _, ρ, h => ⟨ρ, rfl, by simpa using h⟩
  | a :: post, pre, hs, ρ, h => by
    obtain ⟨ρ1, e1, ρ2, e2, h2⟩ := hs pre a post rfl ρ h
    obtain ⟨ρ', e3, h3⟩ := for_pre I post (pre ++ [a]) (fun p a' q w => hs p a' q (by simpa using w)) ρ2 h2
    refine ⟨ρ', ?_, by simpa using h3⟩
    rw [List.map_cons]
    unfold forO
    rw [e1]
    dsimp only
    rw [e2]
    exact e3
theorem for_all {α : Type} {t : Tg} {f : Env → Out} {e : α → D} (I : List α → Env → Prop) (l : List α) (ρ : Env) (h0 : I [] ρ) (h : ∀ p a q, l = p ++ a :: q → ∀ ρ, I p ρ → ∃ ρ1, bT t (e a) ρ = .ok ρ1 ∧ ∃ ρ2, f ρ1 = .nx ρ2 ∧ I (p ++ [a]) ρ2) : ∃ ρ', forO (bT t) f (l.map e) ρ = .nx ρ' ∧ I l ρ' :=
  for_pre I l [] (by simpa using h) ρ h0
end DL
/-! Common mathematics, L: the laws' drawn tables and books. -/
namespace DL
open PySem PySem.Spec L2
/-! displays of texts, of ints -/
def litS : Exs → Option (List Txt)
  | .nil => some []
  | .cons (.lit (.str s)) es => (litS es).map (s :: ·)
  | .cons _ _ => none
def litI : Exs → Option (List Int)
  | .nil => some []
  | .cons (.lit (.int s)) es => (litI es).map (s :: ·)
  | .cons _ _ => none
theorem litS_ok {Φ : List (List D → Res D)} {ρ : Env} : ∀ {es : Exs} {l : List Txt}, litS es = some l → evs Φ es ρ = .ok (l.map .str)
  | .nil, l, h => by cases h; simp
  | .cons e es, l, h => by
    cases e <;> first
      | (simp only [litS] at h; cases h; done)
      | (rename_i d
         cases d <;> first
           | (simp only [litS] at h; cases h; done)
           | (simp only [litS] at h
              obtain ⟨r, hr, rfl⟩ := Option.map_eq_some_iff.mp h
              simp [litS_ok hr]))
theorem litI_ok {Φ : List (List D → Res D)} {ρ : Env} : ∀ {es : Exs} {l : List Int}, litI es = some l → evs Φ es ρ = .ok (l.map .int)
  | .nil, l, h => by cases h; simp
  | .cons e es, l, h => by
    cases e <;> first
      | (simp only [litI] at h; cases h; done)
      | (rename_i d
         cases d <;> first
           | (simp only [litI] at h; cases h; done)
           | (simp only [litI] at h
              obtain ⟨r, hr, rfl⟩ := Option.map_eq_some_iff.mp h
              simp [litI_ok hr]))
@[simp high] theorem s_lstS {Φ : List (List D → Res D)} {ρ : Env} {s : Txt} {es : Exs} : ev Φ (.lst (.cons (.lit (.str s)) es)) ρ = match litS es with | some l => .ok (lD .str (s :: l)) | none => (evs Φ (.cons (.lit (.str s)) es) ρ).bind fun ds => .ok (.lst ds) := by
  cases h : litS es with
  | none => simp only [s_lst]
  | some l =>
    have : litS (.cons (.lit (.str s)) es) = some (s :: l) := by simp only [litS, h, Option.map_some]
    rw [s_lst, litS_ok this]; rfl
@[simp high] theorem s_lstI {Φ : List (List D → Res D)} {ρ : Env} {s : Int} {es : Exs} : ev Φ (.lst (.cons (.lit (.int s)) es)) ρ = match litI es with | some l => .ok (lD .int (s :: l)) | none => (evs Φ (.cons (.lit (.int s)) es) ρ).bind fun ds => .ok (.lst ds) := by
  cases h : litI es with
  | none => simp only [s_lst]
  | some l =>
    have : litI (.cons (.lit (.int s)) es) = some (s :: l) := by simp only [litI, h, Option.map_some]
    rw [s_lst, litI_ok this]; rfl
@[simp] theorem tup_wD {s : Txt} {i : Int} : D.tup [.str s, .int i] = wD (s, i) := rfl
@[simp] theorem tup_ss {s z : Txt} : D.tup [.str s, .str z] = pD .str .str (s, z) := rfl
@[simp] theorem tup_is {s : Txt} {i : Int} : D.tup [.int i, .str s] = pD .int .str (i, s) := rfl
/-! the draw -/
theorem pick_ex (ns : List Int) (k m : Int) : ∃ r, 0 ≤ k → 0 < m → D__law_pick [.scr ns, .int k, .int m] = .ok (.int r) ∧ 0 ≤ r ∧ r < m := by
  by_cases h : 0 ≤ k ∧ 0 < m
  · obtain ⟨r, hr⟩ := pick_ok ns k m h.1 h.2
    exact ⟨r, fun _ _ => hr⟩
  · exact ⟨0, fun h1 h2 => absurd ⟨h1, h2⟩ h⟩
noncomputable def pickF (ns : List Int) (k m : Int) : Int := Classical.choose (pick_ex ns k m)
@[simp] theorem pick_eq {ns : List Int} {k m : Int} (h1 : 0 ≤ k) (h2 : 0 < m) : D__law_pick [.scr ns, .int k, .int m] = .ok (.int (pickF ns k m)) := (Classical.choose_spec (pick_ex ns k m) h1 h2).1
@[simp] theorem pick_eqN {ns : List Int} {k : Int} {m : Nat} (h1 : 0 ≤ k) (h2 : 0 < m) : D__law_pick [.scr ns, .int k, .int (m : Int)] = .ok (.int (pickF ns k (m : Int))) := pick_eq h1 (by omega)
theorem pick_lo {ns : List Int} {k m : Int} (h1 : 0 ≤ k) (h2 : 0 < m) : 0 ≤ pickF ns k m := (Classical.choose_spec (pick_ex ns k m) h1 h2).2.1
theorem pick_hi {ns : List Int} {k m : Int} (h1 : 0 ≤ k) (h2 : 0 < m) : pickF ns k m < m := (Classical.choose_spec (pick_ex ns k m) h1 h2).2.2
/-- what is drawn out of a list -/
theorem atI_in {α : Type} {l : List α} {r : Int} (h1 : 0 ≤ r) (h2 : r < l.length) : ∃ a, atI l r = some a ∧ a ∈ l := by
  have hk : r.toNat < l.length := by omega
  have e : r = (r.toNat : Int) := by omega
  refine ⟨l[r.toNat], ?_, List.getElem_mem hk⟩
  have := atI_natc (l := l) (k := r.toNat)
  rw [← e] at this
  rw [this]
  simp [hk]
theorem rng1_ok {n : Int} (h1 : 0 ≤ n) (h2 : n ≤ 16777216) : rng1 [.int n] = .ok ((List.range n.toNat).map natD) := by
  simp only [rng1]
  rw [if_pos ⟨h2, by omega⟩]
  congr 1
  unfold intsD
  refine List.map_congr_left fun i _ => ?_
  simp [natD]
theorem flat_rep (c : Nat) : ∀ n : Nat, (List.replicate n [c]).flatten = List.replicate n c
  | 0 => rfl
  | n + 1 => by rw [List.replicate_succ, List.flatten_cons, flat_rep c n]; rfl
theorem mul_s1 {c : Nat} {k : Int} (h1 : -16777216 ≤ k) (h2 : k ≤ 16777216) : mulD (.str [c]) (.int k) = .ok (.str (List.replicate k.toNat c)) := by
  simp only [mulD]
  rw [if_pos ⟨h1, h2, by simp; omega⟩, flat_rep]
theorem rng1_nat {n : Nat} (h : n ≤ 16777216) : rng1 [.int (n : Int)] = .ok ((List.range n).map natD) := by
  have := rng1_ok (n := (n : Int)) (by omega) (by omega)
  simpa using this
/-- the same, its membership kept as it is -/
def rngN (n : Nat) : List Nat := List.range n
theorem rng1_N {n : Nat} (h : n ≤ 16777216) : rng1 [.int (n : Int)] = .ok ((rngN n).map natD) := rng1_nat h
theorem mem_rngN {n k : Nat} : k ∈ rngN n ↔ k < n := List.mem_range
theorem at_sgn {s : Txt} {k : Nat} (h : k < s.length) : s[k]? = some (sgnAt s k) := by
  unfold sgnAt
  rw [List.getD_eq_getElem?_getD, List.getElem?_eq_getElem h]; rfl
/-! drawn letters -/
theorem law_letters_ok (ns : List Int) (k : Int) (hk : 0 ≤ k) : ∃ w : Txt, D__law_letters [.scr ns, .int k] = .ok (.str w) ∧ w.length ≤ 12 ∧ w.all smallB = true := by
  obtain ⟨a, ha, ma⟩ := atI_in (l := ([[], [115], [115, 116], [98], [103], [108], [116, 116], [110], [110, 103, 97]] : List Txt)) (r := pickF ns k 9) (pick_lo hk (by decide)) (pick_hi hk (by decide))
  obtain ⟨b, hb, mb⟩ := atI_in (l := ([[97], [101], [111], [101, 97], [111, 111], [111, 110, 101], [97, 101]] : List Txt)) (r := (pickF ns 999 7 + pickF ns (k + 1) 2) % 7) (by omega) (by simp; omega)
  obtain ⟨c, hc, mc⟩ := atI_in (l := ([[], [110], [110, 103], [115, 116], [108, 108], [116], [108]] : List Txt)) (r := (pickF ns 999 7 + pickF ns (k + 2) 2) % 7) (by omega) (by simp; omega)
  obtain ⟨d, hd, md⟩ := atI_in (l := ([[], [], [], [], [97], [101, 110], [111, 115, 116]] : List Txt)) (r := pickF ns (k + 3) 7) (pick_lo (by omega) (by decide)) (pick_hi (by omega) (by decide))
  have fa : a.length ≤ 3 ∧ a.all smallB = true := by
    have : ∀ x ∈ ([[], [115], [115, 116], [98], [103], [108], [116, 116], [110], [110, 103, 97]] : List Txt), x.length ≤ 3 ∧ x.all smallB = true := by decide
    exact this a ma
  have fb : b.length ≤ 3 ∧ b.all smallB = true := by
    have : ∀ x ∈ ([[97], [101], [111], [101, 97], [111, 111], [111, 110, 101], [97, 101]] : List Txt), x.length ≤ 3 ∧ x.all smallB = true := by decide
    exact this b mb
  have fc : c.length ≤ 3 ∧ c.all smallB = true := by
    have : ∀ x ∈ ([[], [110], [110, 103], [115, 116], [108, 108], [116], [108]] : List Txt), x.length ≤ 3 ∧ x.all smallB = true := by decide
    exact this c mc
  have fd : d.length ≤ 3 ∧ d.all smallB = true := by
    have : ∀ x ∈ ([[], [], [], [], [97], [101, 110], [111, 115, 116]] : List Txt), x.length ≤ 3 ∧ x.all smallB = true := by decide
    exact this d md
  have k1 : 0 ≤ k + 1 := by omega
  have k2 : 0 ≤ k + 2 := by omega
  have k3 : 0 ≤ k + 3 := by omega
  have a1 := add_s (a := a) (b := b) (by omega)
  have a2 := add_s (a := a ++ b) (b := c) (by rw [List.length_append]; omega)
  have a3 := add_s (a := a ++ b ++ c) (b := d) (by simp only [List.length_append]; omega)
  have m7 : ∀ i : Int, modD (.int i) (.int 7) = .ok (.int (i % 7)) := fun i => by simp [modD]
  refine ⟨a ++ b ++ c ++ d, ?_, by simp only [List.length_append]; omega, by simp [List.all_append, fa.2, fb.2, fc.2, fd.2]⟩
  simp +contextual -implicitDefEqProofs [-Prod.forall, D__law_letters, M__law_letters, hk, k1, k2, k3, litS, ha, hb, hc, hd, m7, a1, a2, a3, -List.append_assoc]
/-! what the law says of words -/
theorem smallB_iff (c : Nat) : smallB c = (decide (97 ≤ c) && decide (c ≤ 122)) := by
  unfold smallB
  by_cases h1 : 97 ≤ c <;> by_cases h2 : c ≤ 122
  · have : c = 97 ∨ c = 98 ∨ c = 99 ∨ c = 100 ∨ c = 101 ∨ c = 102 ∨ c = 103 ∨ c = 104 ∨ c = 105 ∨ c = 106 ∨ c = 107 ∨ c = 108 ∨ c = 109 ∨ c = 110 ∨ c = 111 ∨ c = 112 ∨ c = 113 ∨ c = 114 ∨ c = 115 ∨ c = 116 ∨ c = 117 ∨ c = 118 ∨ c = 119 ∨ c = 120 ∨ c = 121 ∨ c = 122 := by omega
    simp [h1, h2]
    omega
  all_goals simp [h1, h2]; omega
theorem law_is_letters_ok (s : Txt) (m : Int) : D__law_is_letters [.str s, .int m] = .ok (.bl (lettersB s 1 m)) := by
  have e' : decide (∀ a ∈ s, 97 ≤ a ∧ a ≤ 122) = s.all smallB := by
    by_cases h : s.all smallB = true
    · rw [h]
      refine decide_eq_true fun a ha => ?_
      have := List.all_eq_true.mp h a ha
      rw [smallB_iff] at this
      simpa using this
    · rw [Bool.eq_false_iff.mpr h]
      refine decide_eq_false fun z => h (List.all_eq_true.mpr fun a ha => ?_)
      rw [smallB_iff]
      simpa using z a ha
  unfold lettersB
  simp +contextual -implicitDefEqProofs [-Prod.forall, D__law_is_letters, M__law_is_letters]
  rw [e']
  by_cases h1 : ((s.length : Nat) : Int) < 1 <;> by_cases h2 : m < ((s.length : Nat) : Int) <;> simp [h1, h2] <;> omega
/-! the greatest of pairs -/
open PySem.W (dataLt alike alikeAll keyToks keyToksAll)
theorem dl_eq (i j : Int) (p q : Txt) : dataLt (toPy (pD .int .str (i, p))) (toPy (pD .int .str (j, q))) = (decide ((1 : Int) < 1) || (!decide ((1 : Int) < 1) && (decide (i < j) || (!decide (j < i) && PyProof.Rows.lexLt PyProof.Rows.itemOrd [Sum.inl 1, Sum.inr (S0 p).cps.toList, Sum.inl 0] [Sum.inl 1, Sum.inr (S0 q).cps.toList, Sum.inl 0])))) := rfl
theorem dl_lt {i j : Int} {p q : Txt} (h : i < j) : dataLt (toPy (pD .int .str (i, p))) (toPy (pD .int .str (j, q))) = true := by
  rw [dl_eq, decide_eq_true h]; rfl
theorem dl_gt {i j : Int} {p q : Txt} (h : j < i) : dataLt (toPy (pD .int .str (i, p))) (toPy (pD .int .str (j, q))) = false := by
  rw [dl_eq, decide_eq_true h, decide_eq_false (show ¬ i < j by omega)]; rfl
theorem maxF_pairs {m : Int × Txt} : ∀ (l : List (Int × Txt)) (x : Int × Txt), m ∈ x :: l → (∀ y ∈ x :: l, y.1 < m.1 ∨ y = m) → maxF (pD .int .str x) (l.map (pD .int .str)) = pD .int .str m
  | [], x, hm, h => by
    rw [List.mem_singleton] at hm
    subst hm; rfl
  | y :: l, x, hm, h => by
    show maxF (if dataLt (toPy (pD .int .str x)) (toPy (pD .int .str y)) = true then pD .int .str y else pD .int .str x) (l.map (pD .int .str)) = _
    have hx := h x List.mem_cons_self
    have hy := h y (List.mem_cons_of_mem _ List.mem_cons_self)
    have hl : ∀ z ∈ l, z.1 < m.1 ∨ z = m := fun z hz => h z (List.mem_cons_of_mem _ (List.mem_cons_of_mem _ hz))
    have go : ∀ z : Int × Txt, (z = x ∨ z = y) → (m = z ∨ m ∈ l) → maxF (pD .int .str z) (l.map (pD .int .str)) = pD .int .str m := fun z hz hmz => by
      refine maxF_pairs l z (List.mem_cons.mpr hmz) fun w hw => ?_
      rcases List.mem_cons.mp hw with rfl | hw
      · rcases hz with rfl | rfl
        · exact hx
        · exact hy
      · exact hl w hw
    rcases hx with hx | rfl
    · rcases hy with hy | rfl
      · have hml : m ∈ l := by
          rcases List.mem_cons.mp hm with rfl | hm
          · omega
          · rcases List.mem_cons.mp hm with rfl | hm
            · omega
            · exact hm
        split
        · exact go y (.inr rfl) (.inr hml)
        · exact go x (.inl rfl) (.inr hml)
      · have e := dl_lt (p := x.2) (q := y.2) hx
        rw [if_pos e]
        exact go y (.inr rfl) (.inl rfl)
    · rcases hy with hy | hy
      · have e := dl_gt (p := x.2) (q := y.2) hy
        rw [if_neg (by rw [e]; exact Bool.false_ne_true)]
        exact go x (.inl rfl) (.inl rfl)
      · subst hy
        split
        · exact go y (.inr rfl) (.inl rfl)
        · exact go y (.inl rfl) (.inl rfl)
theorem max_pairs {l : List (Int × Txt)} {m : Int × Txt} (hm : m ∈ l) (h : ∀ y ∈ l, y.1 < m.1 ∨ y = m) : maxZ [lD (pD .int .str) l] = .ok (pD .int .str m) := by
  cases l with
  | nil => cases hm
  | cons x l =>
    have e1 : maxR [lD (pD .int .str) (x :: l)] = .bad := rfl
    have e2 : alikeB ((x :: l).map (pD .int .str)) = true := by
      unfold alikeB
      rw [List.all_eq_true]
      intro d hd
      obtain ⟨y, _, rfl⟩ := List.mem_map.mp hd
      simp only [Bool.and_eq_true, List.all_eq_true]
      refine ⟨⟨fun d hd => ?_, rfl⟩, rfl⟩
      obtain ⟨z, _, rfl⟩ := List.mem_map.mp hd
      rfl
    unfold maxZ
    rw [e1]
    show maxT [.lst (pD .int .str x :: l.map (pD .int .str))] = _
    simp only [maxT]
    rw [if_pos (show alikeB (pD .int .str x :: l.map (pD .int .str)) = true from e2), maxF_pairs l x hm h]
/-- the rows that stand ahead -/
def aheadF (t : Rows) (w : Txt) : List Txt := (t.filter fun p => decide (w.take p.1.length = p.1)).map (·.1)
theorem sndT_some {t : Rows} {p : Txt} : (sndT t p).isSome = true ↔ p ∈ t.map (·.1) := by
  unfold sndT
  rw [Option.isSome_map, List.find?_isSome, List.mem_map]
  constructor
  · rintro ⟨x, h1, h2⟩; exact ⟨x, h1, of_decide_eq_true h2⟩
  · rintro ⟨x, h1, h2⟩; exact ⟨x, h1, decide_eq_true h2⟩
theorem row_len {t : Rows} (h : TabOk t) {p : Txt × Txt} (hp : p ∈ t) : 1 ≤ p.1.length ∧ p.1.length ≤ 3 := by
  have := h.rows p hp
  unfold rowB lettersB at this
  simp only [Bool.and_eq_true, decide_eq_true_eq] at this
  omega
theorem ahead_mem {t : Rows} (h : TabOk t) {w p : Txt} : p ∈ aheadF t w ↔ p.length ∈ lenAt t w ∧ p = w.take p.length := by
  unfold aheadF lenAt
  simp only [List.mem_map, List.mem_filter, decide_eq_true_eq, Bool.and_eq_true]
  constructor
  · rintro ⟨r, ⟨h1, h2⟩, rfl⟩
    have hl := row_len h h1
    have hw : r.1.length ≤ w.length := by
      have := congrArg List.length h2
      rw [List.length_take] at this
      omega
    refine ⟨⟨?_, ?_, hw⟩, h2.symm⟩
    · have : r.1.length = 3 ∨ r.1.length = 2 ∨ r.1.length = 1 := by omega
      simpa using this
    · rw [h2]
      exact sndT_some.mpr (List.mem_map_of_mem h1)
  · rintro ⟨⟨h1, h2, h3⟩, h4⟩
    rw [← h4] at h2
    obtain ⟨r, hr, e⟩ := List.mem_map.mp (sndT_some.mp h2)
    subst e
    exact ⟨r, ⟨hr, h4.symm⟩, rfl⟩
/-- the longest of them -/
theorem ahead_best {t : Rows} (h : TabOk t) {w : Txt} {k : Nat} {ks : List Nat} (e : lenAt t w = k :: ks) : w.take k ∈ aheadF t w ∧ ∀ q ∈ aheadF t w, q.length < k ∨ q = w.take k := by
  have hk : k ∈ lenAt t w := by rw [e]; exact List.mem_cons_self
  obtain ⟨k1, k2⟩ := lenAt_pos hk
  have hlen : (w.take k).length = k := by rw [List.length_take]; omega
  refine ⟨(ahead_mem h).mpr ⟨by rw [hlen]; exact hk, by rw [hlen]⟩, fun q hq => ?_⟩
  obtain ⟨h1, h2⟩ := (ahead_mem h).mp hq
  have hs : (lenAt t w).Pairwise (fun a b => b < a) := by
    unfold lenAt
    exact List.Pairwise.filter _ (by decide)
  rw [e] at hs h1
  rcases List.mem_cons.mp h1 with h1 | h1
  · right; rw [h2, h1]
  · left; exact (List.pairwise_cons.mp hs).1 _ h1
theorem ahead_nil {t : Rows} (h : TabOk t) {w : Txt} (e : lenAt t w = []) : aheadF t w = [] := by
  rw [List.eq_nil_iff_forall_not_mem]
  intro p hp
  have := ((ahead_mem h).mp hp).1
  rw [e] at this
  cases this
abbrev lawPartsC : Ex := (.op DL.Op2.ne (.var 1) (.lit (.str [])))
theorem law_parts_loop {t : Rows} (h : TabOk t) (x5 x6 : Option D) : ∀ (n : Nat) (w : Txt) (made : List Txt) (x3 x4 : Option D), w.length < n → n ≤ 1000 → made.length + n ≤ 1000 →
    match partsF n t w with
    | none => whlO (tst (ev [] lawPartsC)) (evSs [] M__law_parts_1) n [some (tblD t), some (.str w), some (lD .str made), x3, x4, x5, x6] = .ret .non
    | some ps => ∃ y1 y3 y4, whlO (tst (ev [] lawPartsC)) (evSs [] M__law_parts_1) n [some (tblD t), some (.str w), some (lD .str made), x3, x4, x5, x6] = .nx [some (tblD t), y1, some (lD .str (made ++ ps)), y3, y4, x5, x6]
  | 0, w, made, x3, x4, hw, hn, hm => by omega
  | n + 1, w, made, x3, x4, hw, hn, hm => by
    unfold partsF whlO
    by_cases he : w = []
    · rw [if_pos he]
      subst he
      refine ⟨some (.str []), x3, x4, ?_⟩
      simp
    · rw [if_neg he]
      have c : tst (ev [] lawPartsC) [some (tblD t), some (.str w), some (lD .str made), x3, x4, x5, x6] = .ok true := by simp [he]
      rw [c]
      simp only [s_rok, if_true]
      have k1 : ev [] (.comp DL.ItK.val (.cons (.var 0) .nil) [5] (.name 5) (.op DL.Op2.eq (.slice (.var 1) .nil (.cons (.blt DL.Blt.len (.cons (.op DL.Op2.ix (.var 5) (.lit (.int (0)))) .nil)) .nil)) (.op DL.Op2.ix (.var 5) (.lit (.int (0))))) (.op DL.Op2.ix (.var 5) (.lit (.int (0))))) [some (tblD t), some (.str w), some (lD .str made), x3, x4, x5, x6] = .ok (lD .str (aheadF t w)) := by
        simp +contextual -implicitDefEqProofs [-Prod.forall, cutL_to, aheadF]
      cases hl : lenAt t w with
      | nil =>
        rw [ahead_nil h hl] at k1
        dsimp only
        simp +contextual -implicitDefEqProofs [-Prod.forall, M__law_parts_1, k1]
      | cons k ks =>
        obtain ⟨b1, b2⟩ := ahead_best h hl
        have hk := lenAt_pos (t := t) (w := w) (k := k) (by rw [hl]; exact List.mem_cons_self)
        have hne : aheadF t w ≠ [] := fun z => by rw [z] at b1; cases b1
        have hmx := max_pairs (l := (aheadF t w).map fun p => ((p.length : Int), p)) (m := ((k : Int), w.take k)) (List.mem_map.mpr ⟨_, b1, by rw [List.length_take, Nat.min_eq_left hk.2]⟩) fun y hy => by
          obtain ⟨q, hq, rfl⟩ := List.mem_map.mp hy
          rcases b2 q hq with z | z
          · left; show (q.length : Int) < k; omega
          · right; subst z; rw [List.length_take, Nat.min_eq_left hk.2]
        have hmade : made.length < 16777216 := by omega
        have ha := app1_l (h := D.str) (a := w.take k) hmade
        have hkl : ((min k w.length : Nat) : Int) = (k : Int) := by omega
        have step : evSs [] M__law_parts_1 [some (tblD t), some (.str w), some (lD .str made), x3, x4, x5, x6] = .nx [some (tblD t), some (.str (w.drop k)), some (lD .str (made ++ [w.take k])), some (lD .str (aheadF t w)), some (.str (w.take k)), x5, x6] := by
          simp +contextual -implicitDefEqProofs [-Prod.forall, M__law_parts_1, k1, hne, hmx, ha, hkl, cutL_from]
        have ih := law_parts_loop h x5 x6 n (w.drop k) (made ++ [w.take k]) (some (lD .str (aheadF t w))) (some (.str (w.take k))) (by rw [List.length_drop]; omega) (by omega) (by rw [List.length_append]; simp; omega)
        rw [step]
        dsimp only
        cases hq : partsF n t (w.drop k) with
        | none => rw [hq] at ih; simpa using ih
        | some ps =>
          rw [hq] at ih
          obtain ⟨y1, y3, y4, ih⟩ := ih
          exact ⟨y1, y3, y4, by simpa using ih⟩
theorem law_parts_ok {t : Rows} (h : TabOk t) {w : Txt} (hw : w.length < 1000) : D__law_parts [tblD t, .str w] = .ok (oD (lD .str) (partsF 1000 t w)) := by
  have lp := law_parts_loop h none none 1000 w [] none none hw (Nat.le_refl _) (by simp)
  have e : D.lst [] = lD .str [] := rfl
  cases hq : partsF 1000 t w with
  | none =>
    rw [hq] at lp
    simp +contextual -implicitDefEqProofs [-Prod.forall, D__law_parts, M__law_parts, e, lp]
  | some ps =>
    rw [hq] at lp
    obtain ⟨y1, y3, y4, lp⟩ := lp
    simp +contextual -implicitDefEqProofs [-Prod.forall, D__law_parts, M__law_parts, e, lp]
theorem rows_at : ∀ {t : Rows} {p z : Txt}, t.Pairwise (fun a b => a.1 ≠ b.1) → sndT t p = some z → (t.filter fun a => decide (a.1 = p)).map (fun a => a.2) = [z]
  | [], p, z, _, h => by cases h
  | r :: t, p, z, u, h => by
    obtain ⟨u1, u2⟩ := List.pairwise_cons.mp u
    unfold sndT at h
    rw [List.find?_cons] at h
    by_cases e : r.1 = p
    · rw [decide_eq_true e] at h
      simp only [Option.map_some, Option.some.injEq] at h
      subst h
      have : t.filter (fun a => decide (a.1 = p)) = [] := by
        rw [List.filter_eq_nil_iff]
        intro a ha hz
        exact u1 a ha (e.trans (of_decide_eq_true hz).symm)
      rw [List.filter_cons_of_pos (by simpa using e), this]
      rfl
    · rw [decide_eq_false e] at h
      rw [List.filter_cons_of_neg (by simpa using e)]
      exact rows_at u2 h
theorem snd_row {t : Rows} (h : TabOk t) {p z : Txt} (e : sndT t p = some z) : z.length ≤ 2 := by
  have := h.rows _ (sndT_row e)
  unfold rowB at this
  rw [Bool.and_eq_true, Bool.and_eq_true, decide_eq_true_eq] at this
  exact this.1.2
theorem law_sounds_ok {t : Rows} (h : TabOk t) {w : Txt} (hw : w.length < 1000) : D__law_sounds [tblD t, .str w] = .ok (oD .str (sndF t w)) := by
  have hs : ∀ s, sndF t w = some s → s.length ≤ 2 * w.length := fun s => snd_len h
  unfold sndF at hs ⊢
  cases hp : partsF 1000 t w with
  | none => simp +contextual -implicitDefEqProofs [-Prod.forall, D__law_sounds, M__law_sounds, law_parts_ok h hw, hp]
  | some ps =>
    obtain ⟨h1, h2⟩ := parts_in _ _ _ hp
    have h3 : ∀ p ∈ ps, sndT t p = some (sndG t p) := fun p hp => (h2 p hp).1
    have hl := hs (ps.map (sndG t)).flatten (by rw [hp]; rfl)
    have e2 := join_0 (l := ps.map (sndG t)) (by omega)
    have e3 : ∀ p ∈ ps, joinS (.str []) [lD .str ((t.filter fun a => decide (a.1 = p)).map fun a => a.2)] = .ok (.str (sndG t p)) := fun p hp => by
      rw [rows_at h.unlike (h3 p hp)]
      have := snd_row h (h3 p hp)
      exact (join_0 (l := [sndG t p]) (by simp; omega)).trans (by simp)
    simp +contextual -implicitDefEqProofs [-Prod.forall, D__law_sounds, M__law_sounds, law_parts_ok h hw, hp, e2, e3]
theorem law_is_word_ok {t : Rows} (h : TabOk t) {w : Wd} (hw : w.1.length < 1000) : D__law_is_word [tblD t, wD w] = .ok (.bl (wordB t w)) := by
  unfold wordB stressB
  cases hs : sndF t w.1 with
  | none =>
    simp +contextual -implicitDefEqProofs [-Prod.forall, D__law_is_word, M__law_is_word, law_sounds_ok h, law_is_letters_ok, hw, hs]
  | some s =>
    simp +contextual -implicitDefEqProofs [-Prod.forall, D__law_is_word, M__law_is_word, law_sounds_ok h, law_is_letters_ok, hw, hs]
    have e : (s.filter fun a => vowB a).length = (vowF s).length := by rw [vowF_len, List.countP_eq_length_filter]
    rw [e]
    by_cases h1 : w.2 ≤ 3 <;> by_cases h2 : w.2 ≤ ((vowF s).length : Nat) <;> cases lettersB w.1 1 10 <;> by_cases h3 : 1 ≤ w.2 <;> simp [h1, h2, h3] <;> omega
end DL
/-! Common mathematics, K: drawn books and tables. -/
namespace DL
open PySem PySem.Spec L2
section
variable {κ ν : Type} [DecidableEq κ]
def keysNd (l : List (κ × ν)) : Prop := (l.map (·.1)).Nodup
theorem getA_mem {l : List (κ × ν)} {k : κ} {v : ν} (h : getA l k = some v) : (k, v) ∈ l := by
  unfold getA at h
  obtain ⟨q, hq, rfl⟩ := Option.map_eq_some_iff.mp h
  have : q.1 = k := by simpa using List.find?_some hq
  rw [← this]
  exact List.mem_of_find?_eq_some hq
theorem getA_some {l : List (κ × ν)} {k : κ} (h : k ∈ l.map (·.1)) : ∃ v, getA l k = some v := by
  obtain ⟨p, hp, rfl⟩ := List.mem_map.mp h
  have : (l.find? fun q => decide (q.1 = p.1)).isSome = true := List.find?_isSome.mpr ⟨p, hp, by simp⟩
  obtain ⟨q, hq⟩ := Option.isSome_iff_exists.mp this
  exact ⟨q.2, by unfold getA; rw [hq]; rfl⟩
theorem hasA_iff {l : List (κ × ν)} {k : κ} : hasA l k = true ↔ k ∈ l.map (·.1) := by
  unfold hasA
  rw [List.any_eq_true, List.mem_map]
  exact ⟨fun ⟨p, h1, h2⟩ => ⟨p, h1, of_decide_eq_true h2⟩, fun ⟨p, h1, h2⟩ => ⟨p, h1, decide_eq_true h2⟩⟩
theorem putA_keys (l : List (κ × ν)) (k : κ) (v : ν) : (putA l k v).map (·.1) = if k ∈ l.map (·.1) then l.map (·.1) else l.map (·.1) ++ [k] := by
  unfold putA
  by_cases h : hasA l k = true
  · rw [if_pos h, if_pos (hasA_iff.mp h), List.map_map]
    refine List.map_congr_left fun p _ => ?_
    simp only [Function.comp]
    split <;> rfl
  · rw [if_neg h, if_neg fun z => h (hasA_iff.mpr z), List.map_append]
    rfl
theorem putA_nd {l : List (κ × ν)} {k : κ} {v : ν} (h : keysNd l) : keysNd (putA l k v) := by
  unfold keysNd at h ⊢
  rw [putA_keys]
  split
  · exact h
  · rename_i hn
    rw [List.nodup_append]
    exact ⟨h, by simp, fun a ha b hb e => hn (by rw [List.mem_singleton] at hb; rw [← hb, ← e]; exact ha)⟩
theorem putA_len (l : List (κ × ν)) (k : κ) (v : ν) : (putA l k v).length ≤ l.length + 1 ∧ l.length ≤ (putA l k v).length := by
  unfold putA
  split
  · simp
  · simp
theorem putA_mem {l : List (κ × ν)} {k : κ} {v : ν} {p : κ × ν} (h : p ∈ putA l k v) : p = (k, v) ∨ p ∈ l := by
  unfold putA at h
  split at h
  · obtain ⟨q, hq, rfl⟩ := List.mem_map.mp h
    split
    · rename_i e; left; rw [e]
    · exact .inr hq
  · rcases List.mem_append.mp h with h | h
    · exact .inr h
    · exact .inl (List.mem_singleton.mp h)
theorem getA_put (l : List (κ × ν)) (k : κ) (v : ν) (j : κ) : getA (putA l k v) j = if j = k then some v else getA l j := by
  unfold putA
  by_cases h : hasA l k = true
  · rw [if_pos h]
    induction l with
    | nil => cases h
    | cons p l ih =>
      unfold getA at ih ⊢
      rw [List.map_cons, List.find?_cons, List.find?_cons]
      by_cases hp : p.1 = k
      · rw [if_pos hp]
        by_cases hj : j = k
        · subst hj; simp [hp]
        · have h1 : ¬ p.1 = j := fun z => hj (by rw [← z, hp])
          rw [if_neg hj]
          simp only [h1, decide_false]
          clear ih
          congr 1
          clear h
          induction l with
          | nil => rfl
          | cons q l ih2 =>
            rw [List.map_cons, List.find?_cons, List.find?_cons]
            by_cases hq : q.1 = k
            · have h2 : ¬ q.1 = j := fun z => hj (by rw [← z, hq])
              rw [if_pos hq]
              simp only [h2, decide_false]
              exact ih2
            · rw [if_neg hq]
              by_cases h3 : q.1 = j
              · simp [h3]
              · simp only [h3, decide_false]; exact ih2
      · rw [if_neg hp]
        by_cases h1 : p.1 = j
        · have : ¬ j = k := fun z => hp (by rw [h1, z])
          simp [h1, this]
        · have h' : hasA l k = true := by
            rw [hasA_iff] at h ⊢
            rcases List.mem_cons.mp h with z | z
            · exact absurd z.symm hp
            · exact z
          have := ih h'
          simp only [h1, decide_false]
          exact this
  · rw [if_neg h]
    unfold getA
    rw [List.find?_append]
    by_cases hj : j = k
    · subst hj
      have : l.find? (fun p => decide (p.1 = j)) = none := by
        rw [List.find?_eq_none]
        intro p hp z
        exact h (hasA_iff.mpr (List.mem_map.mpr ⟨p, hp, of_decide_eq_true z⟩))
      rw [this]; simp
    · have : ¬ k = j := fun z => hj z.symm
      simp [hj, this]
theorem getA_of {l : List (κ × ν)} (h : keysNd l) {p : κ × ν} (hp : p ∈ l) : getA l p.1 = some p.2 := by
  obtain ⟨v, hv⟩ := getA_some (List.mem_map_of_mem (f := (·.1)) hp)
  have hm := getA_mem hv
  have : p = (p.1, v) := by
    unfold keysNd at h
    rw [List.Nodup, List.pairwise_map] at h
    exact Classical.byContradiction fun ne => by
      have key : ∀ (l : List (κ × ν)), l.Pairwise (fun a b => a.1 ≠ b.1) → ∀ a ∈ l, ∀ b ∈ l, a.1 = b.1 → a = b := by
        intro l
        induction l with
        | nil => intro _ a ha; cases ha
        | cons x l ih =>
          intro hu a ha b hb e
          obtain ⟨u1, u2⟩ := List.pairwise_cons.mp hu
          rcases List.mem_cons.mp ha with ha | ha <;> rcases List.mem_cons.mp hb with hb | hb
          · rw [ha, hb]
          · exact absurd (ha ▸ e) (u1 _ hb)
          · exact absurd (hb ▸ e.symm) (u1 _ ha)
          · exact ih u2 a ha b hb e
      exact ne (key l h _ hp _ hm rfl)
  rw [hv, this]
end
theorem up_of {l : List Txt} (h : Rising ltN l) (n : l.Nodup) : Up l := by
  have hn : l.Pairwise (· ≠ ·) := n
  refine (List.pairwise_and_iff.mpr ⟨h, hn⟩).imp fun {a b} z => ?_
  obtain ⟨z1, z2⟩ := z
  by_cases q : a < b
  · exact q
  · exact absurd (totN a b (by unfold ltN; exact decide_eq_false q) z1) z2
theorem up_sorted {ks : List Txt} (h : ks.Nodup) : Up (isort ltN ks) ∧ (isort ltN ks).Perm ks :=
  ⟨up_of (isort_rising swoN ks) ((isort_perm ks).nodup_iff.mpr h), isort_perm ks⟩
theorem sortZ_c {ν : Type} {g : ν → D} {l : List (Txt × ν)} (h : l.length < 64) : sortZ [dcD .str g l] = .ok (lD .str (isort ltN (l.map (·.1)))) := by
  have e : strsOf ((l.map fun p => (D.str p.1, g p.2)).map (·.1)) = some (l.map (·.1)) := by
    rw [List.map_map]
    have : (l.map ((fun p : D × D => p.1) ∘ fun p : Txt × ν => (D.str p.1, g p.2))) = (l.map (·.1)).map D.str := by rw [List.map_map]; rfl
    rw [this, strsOf_map]
  simp only [dcD, sortZ, e, List.length_map, if_pos h]
  rfl
/-- a book -/
structure BookOk (t : Rows) (b : List Wd) : Prop where
  le : b.length ≤ 16
  words : ∀ w ∈ b, wordB t w = true
  up : Up (b.map (·.1))
abbrev bookD (b : List Wd) : D := tD' wD b
/-- words by their letters -/
structure ByL (t : Rows) (l : List (Txt × Wd)) : Prop where
  nd : keysNd l
  own : ∀ p ∈ l, p.2.1 = p.1 ∧ wordB t p.2 = true
/-- the words of a dict, by rising letters -/
def wordsOf (l : List (Txt × Wd)) : List Wd := (isort ltN (l.map (·.1))).map fun k => (getA l k).getD ([], 0)
theorem wordsOf_ok {t : Rows} {l : List (Txt × Wd)} (h : ByL t l) : (wordsOf l).map (·.1) = isort ltN (l.map (·.1)) ∧ (∀ w, w ∈ wordsOf l ↔ (w.1, w) ∈ l) ∧ (∀ w ∈ wordsOf l, wordB t w = true) ∧ Up ((wordsOf l).map (·.1)) ∧ (wordsOf l).length = l.length := by
  obtain ⟨u1, u2⟩ := up_sorted h.nd
  have hk : ∀ k ∈ isort ltN (l.map (·.1)), ∃ w : Wd, getA l k = some w ∧ w.1 = k ∧ wordB t w = true := fun k hk => by
    obtain ⟨w, hw⟩ := getA_some (u2.mem_iff.mp hk)
    have := h.own _ (getA_mem hw)
    exact ⟨w, hw, this.1, this.2⟩
  have e1 : (wordsOf l).map (·.1) = isort ltN (l.map (·.1)) := by
    unfold wordsOf
    rw [List.map_map]
    conv => rhs; rw [← List.map_id (isort ltN (l.map (·.1)))]
    refine List.map_congr_left fun k hk' => ?_
    obtain ⟨w, h1, h2, _⟩ := hk k hk'
    simp only [Function.comp, h1, Option.getD_some, h2, id]
  have e2 : ∀ w, w ∈ wordsOf l ↔ (w.1, w) ∈ l := fun w => by
    unfold wordsOf
    rw [List.mem_map]
    constructor
    · rintro ⟨k, hk', rfl⟩
      obtain ⟨w, h1, h2, _⟩ := hk k hk'
      rw [h1, Option.getD_some, h2]
      exact getA_mem h1
    · intro hm
      have := getA_of h.nd hm
      exact ⟨w.1, u2.mem_iff.mpr (List.mem_map.mpr ⟨_, hm, rfl⟩), by rw [this]; rfl⟩
  refine ⟨e1, e2, fun w hw => (h.own _ ((e2 w).mp hw)).2, by rw [e1]; exact u1, ?_⟩
  unfold wordsOf
  rw [List.length_map, u2.length_eq, List.length_map]
theorem ByL.put {t : Rows} {l : List (Txt × Wd)} (h : ByL t l) {w : Wd} (hw : wordB t w = true) : ByL t (putA l w.1 w) :=
  ⟨putA_nd h.nd, fun p hp => by
    rcases putA_mem hp with rfl | hp
    · exact ⟨rfl, hw⟩
    · exact h.own p hp⟩
theorem ByL.nil {t : Rows} : ByL t [] := ⟨List.nodup_nil, by simp⟩
theorem words_eval {t : Rows} {l : List (Txt × Wd)} (h : ByL t l) : ∀ k ∈ isort ltN (l.map (·.1)), ixR (dcD .str wD l) (.str k) = .ok (wD ((getA l k).getD ([], 0))) := fun k hk => by
  obtain ⟨w, hw⟩ := getA_some ((up_sorted h.nd).2.mem_iff.mp hk)
  have := ix_c (f := D.str) (g := wD) (l := l) (k := k) rfl
  rw [this, hw]; rfl
theorem dcD_nil : D.dic false [] = dcD .str wD [] := rfl
theorem law_book_ok {t : Rows} (h : TabOk t) (ns : List Int) {a m : Int} (ha : 0 ≤ a) (hm : 0 ≤ m) (hm2 : m ≤ 16) : ∃ b : List Wd, D__law_book [.scr ns, .int a, tblD t, .int m] = .ok (bookD b) ∧ BookOk t b ∧ (b.length : Int) ≤ m := by
  have p0 : 0 ≤ pickF ns a (m + 1) := pick_lo ha (by omega)
  have p1 : pickF ns a (m + 1) < m + 1 := pick_hi ha (by omega)
  let I : List Nat → Env → Prop := fun pre ρ => ∃ l x5 x6, ρ = [some (.scr ns), some (.int a), some (tblD t), some (.int m), some (dcD .str wD l), x5, x6, none] ∧ ByL t l ∧ l.length ≤ pre.length
  obtain ⟨ρ', e1, l, x5, x6, rfl, g1, g2⟩ := for_all (t := .name 5) (f := evSs [D__law_pick, D__law_is_word, D__law_letters] M__law_book_1) (e := natD) I (List.range (pickF ns a (m + 1)).toNat) [some (.scr ns), some (.int a), some (tblD t), some (.int m), some (.dic false []), none, none, none] ⟨[], none, none, rfl, ByL.nil, Nat.le_refl _⟩ (by
    rintro pre k post hl ρ ⟨l, x5, x6, rfl, i1, i2⟩
    refine ⟨_, rfl, ?_⟩
    obtain ⟨w, w1, w2, w3⟩ := law_letters_ok ns (a + 10 + 6 * (k : Int)) (by omega)
    obtain ⟨j, j1, j2⟩ := atI_in (l := ([1, 1, 1, 1, 2, 2, 3] : List Int)) (r := pickF ns (a + 15 + 6 * (k : Int)) 7) (pick_lo (by omega) (by decide)) (pick_hi (by omega) (by decide))
    have hk1 : 0 ≤ a + 15 + 6 * (k : Int) := by omega
    have hw : w.length < 1000 := by omega
    have hlen : pre.length ≤ 16 := by
      have := congrArg List.length hl
      rw [List.length_range, List.length_append] at this
      omega
    have mul6 : mulD (.int 6) (.int (k : Int)) = .ok (.int (6 * (k : Int))) := by simp [mulD]
    have iw := law_is_word_ok h (w := (w, j)) hw
    have pt := put1_c (f := D.str) (g := wD) (l := l) (k := w) (v := (w, j)) rfl (by omega)
    cases hb : wordB t (w, j) with
    | false =>
      refine ⟨[some (.scr ns), some (.int a), some (tblD t), some (.int m), some (dcD .str wD l), some (natD k), some (wD (w, j)), none], ?_, l, _, _, rfl, i1, by simp; omega⟩
      rw [hb] at iw
      simp +contextual -implicitDefEqProofs [-Prod.forall, M__law_book_1, mul6, w1, litI, hk1, j1, iw]
    | true =>
      refine ⟨[some (.scr ns), some (.int a), some (tblD t), some (.int m), some (dcD .str wD (putA l w (w, j))), some (natD k), some (wD (w, j)), none], ?_, _, _, _, rfl, i1.put hb, ?_⟩
      · rw [hb] at iw
        simp +contextual -implicitDefEqProofs [-Prod.forall, M__law_book_1, mul6, w1, litI, hk1, j1, iw, pt]
      · have := putA_len l w (w, j)
        rw [List.length_append, List.length_singleton]
        omega)
  rw [List.length_range] at g2
  obtain ⟨q1, q2, q3, q4, q5⟩ := wordsOf_ok g1
  refine ⟨wordsOf l, ?_, ⟨by omega, q3, q4⟩, by omega⟩
  have sz := sortZ_c (g := wD) (l := l) (by omega)
  have ev := words_eval g1
  have r1 := rng1_ok (n := pickF ns a (m + 1)) p0 (by omega)
  have hm1 : 0 < m + 1 := by omega
  simp +contextual -implicitDefEqProofs [-Prod.forall, D__law_book, M__law_book, ha, hm1, r1, e1, sz, ev]
  rfl
theorem law_rich_book_ok2 {t : Rows} (h : TabOk t) (ns : List Int) {a m : Int} (ha : 0 ≤ a) (hm : 0 ≤ m) (hm2 : m ≤ 16) : ∃ b : List Wd, D__law_rich_book [.scr ns, .int a, tblD t, .int m] = .ok (bookD b) ∧ BookOk t b ∧ (b.length : Int) ≤ m ∧ ∀ w ∈ b, w.1.length ≤ 4 ∧ w.2 ≤ 2 := by
  let I : List Nat → Env → Prop := fun pre ρ => ∃ l x5 x6 x7 x8, ρ = [some (.scr ns), some (.int a), some (tblD t), some (.int m), some (dcD .str wD l), x5, x6, x7, x8] ∧ ByL t l ∧ l.length ≤ pre.length ∧ ∀ p ∈ l, p.2.1.length ≤ 4 ∧ p.2.2 ≤ 2
  obtain ⟨ρ', e1, l, x5, x6, x7, x8, rfl, g1, g2, g3⟩ := for_all (t := .name 5) (f := evSs [D__law_is_word, D__law_pick] M__law_rich_book_1) (e := natD) I (List.range m.toNat) [some (.scr ns), some (.int a), some (tblD t), some (.int m), some (.dic false []), none, none, none, none] ⟨[], none, none, none, none, rfl, ByL.nil, Nat.le_refl _, fun _ z => nomatch z⟩ (by
    rintro pre k post hl ρ ⟨l, x5, x6, x7, x8, rfl, i1, i2, i3⟩
    refine ⟨_, rfl, ?_⟩
    obtain ⟨v, v1, v2⟩ := atI_in (l := ([[97], [101], [111], [97, 110], [101, 110]] : List Txt)) (r := (pickF ns a 5 + pickF ns (a + 1 + (k : Int)) 2) % 5) (by omega) (by simp; omega)
    obtain ⟨u, u1, u2⟩ := atI_in (l := ([[], [115], [98], [103], [108], [110], [116], [115, 97]] : List Txt)) (r := pickF ns (a + 20 + (k : Int)) 8) (pick_lo (by omega) (by decide)) (pick_hi (by omega) (by decide))
    have fv : v.length ≤ 2 := by
      have : ∀ x ∈ ([[97], [101], [111], [97, 110], [101, 110]] : List Txt), x.length ≤ 2 := by decide
      exact this v v2
    have fu : u.length ≤ 2 := by
      have : ∀ x ∈ ([[], [115], [98], [103], [108], [110], [116], [115, 97]] : List Txt), x.length ≤ 2 := by decide
      exact this u u2
    have k1 : 0 ≤ a + 1 + (k : Int) := by omega
    have k2 : 0 ≤ a + 20 + (k : Int) := by omega
    have k3 : 0 ≤ a + 40 + (k : Int) := by omega
    have hlen : pre.length ≤ 16 := by
      have := congrArg List.length hl
      rw [List.length_range, List.length_append] at this
      omega
    have m5 : ∀ i : Int, modD (.int i) (.int 5) = .ok (.int (i % 5)) := fun i => by simp [modD]
    have ad := add_s (a := u) (b := v) (by omega)
    have hw : (u ++ v).length < 1000 := by rw [List.length_append]; omega
    have ib : ∀ b : Bool, intR [.bl b] = .ok (.int (if b = true then 1 else 0)) := fun b => by cases b <;> rfl
    have iw := law_is_word_ok h (w := (u ++ v, 1 + if pickF ns (a + 40 + (k : Int)) 6 = 0 then 1 else 0)) hw
    have pt := put1_c (f := D.str) (g := wD) (l := l) (k := u ++ v) (v := (u ++ v, 1 + if pickF ns (a + 40 + (k : Int)) 6 = 0 then 1 else 0)) rfl (by omega)
    cases hb : wordB t (u ++ v, 1 + if pickF ns (a + 40 + (k : Int)) 6 = 0 then 1 else 0) with
    | false =>
      refine ⟨[some (.scr ns), some (.int a), some (tblD t), some (.int m), some (dcD .str wD l), some (natD k), some (.str v), some (.str (u ++ v)), some (wD (u ++ v, 1 + if pickF ns (a + 40 + (k : Int)) 6 = 0 then 1 else 0))], ?_, l, _, _, _, _, rfl, i1, by simp; omega, i3⟩
      rw [hb] at iw
      simp +contextual -implicitDefEqProofs [-Prod.forall, M__law_rich_book_1, ha, k1, k2, k3, litS, u1, v1, m5, ad, ib, iw]
    | true =>
      refine ⟨[some (.scr ns), some (.int a), some (tblD t), some (.int m), some (dcD .str wD (putA l (u ++ v) (u ++ v, 1 + if pickF ns (a + 40 + (k : Int)) 6 = 0 then 1 else 0))), some (natD k), some (.str v), some (.str (u ++ v)), some (wD (u ++ v, 1 + if pickF ns (a + 40 + (k : Int)) 6 = 0 then 1 else 0))], ?_, _, _, _, _, _, rfl, i1.put hb, ?_, fun p hp => ?_⟩
      · rw [hb] at iw
        simp +contextual -implicitDefEqProofs [-Prod.forall, M__law_rich_book_1, ha, k1, k2, k3, litS, u1, v1, m5, ad, ib, iw, pt]
      · have := putA_len l (u ++ v) (u ++ v, 1 + if pickF ns (a + 40 + (k : Int)) 6 = 0 then (1 : Int) else 0)
        rw [List.length_append, List.length_singleton]
        omega
      · rcases putA_mem hp with rfl | hp
        · refine ⟨by rw [List.length_append]; omega, ?_⟩
          show (1 + if pickF ns (a + 40 + (k : Int)) 6 = 0 then (1 : Int) else 0) ≤ 2
          split <;> omega
        · exact i3 p hp)
  rw [List.length_range] at g2
  obtain ⟨q1, q2, q3, q4, q5⟩ := wordsOf_ok g1
  refine ⟨wordsOf l, ?_, ⟨by omega, q3, q4⟩, by omega, fun w hw => g3 _ ((q2 w).mp hw)⟩
  have sz := sortZ_c (g := wD) (l := l) (by omega)
  have ev := words_eval g1
  have r1 := rng1_ok (n := m) hm (by omega)
  simp +contextual -implicitDefEqProofs [-Prod.forall, D__law_rich_book, M__law_rich_book, r1, e1, sz, ev]
  rfl
theorem law_rich_book_ok {t : Rows} (h : TabOk t) (ns : List Int) {a m : Int} (ha : 0 ≤ a) (hm : 0 ≤ m) (hm2 : m ≤ 16) : ∃ b : List Wd, D__law_rich_book [.scr ns, .int a, tblD t, .int m] = .ok (bookD b) ∧ BookOk t b ∧ (b.length : Int) ≤ m := by
  obtain ⟨b, h1, h2, h3, _⟩ := law_rich_book_ok2 h ns ha hm hm2
  exact ⟨b, h1, h2, h3⟩
end DL
/-! Common mathematics, T: drawn tables. -/
namespace DL
open PySem PySem.Spec L2
def oneL : Txt := [97, 98, 101, 103, 108, 110, 111, 115, 116]
def coupL : List Txt := [[110, 103], [101, 97], [111, 111], [115, 116], [108, 108], [101, 97, 110], [116, 116], [115, 103], [111, 110, 101]]
def namesL : List Txt := oneL.map (fun c => [c]) ++ coupL
/-- rows of a drawn table -/
structure GoodR (l : Rows) : Prop where
  nd : keysNd l
  rows : ∀ p ∈ l, rowB p.1 p.2 = true ∧ p.1 ∈ namesL ∧ p.2.length ≤ p.1.length
theorem GoodR.put {l : Rows} (h : GoodR l) {k z : Txt} (h1 : rowB k z = true) (h2 : k ∈ namesL ∧ z.length ≤ k.length) : GoodR (putA l k z) :=
  ⟨putA_nd h.nd, fun p hp => by
    rcases putA_mem hp with rfl | hp
    · exact ⟨h1, h2⟩
    · exact h.rows p hp⟩
theorem dropA_mem {l : Rows} {k : Txt} {p : Txt × Txt} : p ∈ dropA l k ↔ p ∈ l ∧ p.1 ≠ k := by
  unfold dropA
  rw [List.mem_filter]
  simp
theorem GoodR.drop {l : Rows} (h : GoodR l) {k : Txt} : GoodR (dropA l k) := by
  refine ⟨?_, fun p hp => h.rows p (dropA_mem.mp hp).1⟩
  have := h.nd
  unfold keysNd dropA at *
  exact List.Nodup.sublist (List.Sublist.map _ List.filter_sublist) this
/-- a drawn table -/
structure TabDr (t : Rows) : Prop where
  ok : TabOk t
  names : ∀ p ∈ t, p.1 ∈ namesL
  len : ∀ p ∈ t, p.2.length ≤ p.1.length
  few : t.length ≤ 13
def rowsOf (l : Rows) : Rows := (isort ltN (l.map (·.1))).map fun k => (k, (getA l k).getD [])
theorem rowsOf_ok {l : Rows} (h : GoodR l) (h1 : l ≠ []) (h2 : l.length ≤ 13) : TabDr (rowsOf l) := by
  obtain ⟨u1, u2⟩ := up_sorted h.nd
  have hm : ∀ p ∈ rowsOf l, p ∈ l := fun p hp => by
    unfold rowsOf at hp
    obtain ⟨k, hk, rfl⟩ := List.mem_map.mp hp
    obtain ⟨z, hz⟩ := getA_some (u2.mem_iff.mp hk)
    rw [hz]
    exact getA_mem hz
  have e1 : (rowsOf l).map (·.1) = isort ltN (l.map (·.1)) := by
    unfold rowsOf
    rw [List.map_map]
    exact List.map_id' _
  have e2 : (rowsOf l).length = l.length := by
    unfold rowsOf
    rw [List.length_map, u2.length_eq, List.length_map]
  refine ⟨⟨?_, by omega, fun p hp => (h.rows p (hm p hp)).1, by rw [e1]; exact u1⟩, fun p hp => (h.rows p (hm p hp)).2.1, fun p hp => (h.rows p (hm p hp)).2.2, by omega⟩
  rw [e2]
  exact List.length_pos_iff.mpr h1
theorem law_table_ok (ns : List Int) {a : Int} (ha : 0 ≤ a) : ∃ t : Rows, D__law_table [.scr ns, .int a] = .ok (tblD t) ∧ TabDr t := by
  let I : List (Nat × Nat) → Env → Prop := fun pre ρ => ∃ l x3 x4, ρ = [some (.scr ns), some (.int a), some (dcD .str .str l), x3, x4, none, none] ∧ GoodR l ∧ l.length ≤ pre.length ∧ ∀ q ∈ pre, [q.2] ∈ l.map (·.1)
  obtain ⟨ρ1, e1, l1, x3, x4, rfl, g1, g2, g3⟩ := for_all (t := .tup (.cons (.name 3) (.cons (.name 4) .nil))) (f := evSs [D__law_pick] M__law_table_1) (e := pD natD fun c => .str [c]) I (enumF oneL) [some (.scr ns), some (.int a), some (.dic false []), none, none, none, none] ⟨[], none, none, rfl, ⟨List.nodup_nil, by simp⟩, Nat.le_refl _, by simp⟩ (by
    rintro pre ⟨k, c⟩ post hl ρ ⟨l, x3, x4, rfl, i1, i2, i3⟩
    refine ⟨_, by simp; rfl, ?_⟩
    have hc : (k, c) ∈ enumF oneL := by rw [hl]; simp
    have hlen : pre.length ≤ 9 := by
      have := congrArg List.length hl
      rw [show (enumF oneL).length = 9 from rfl, List.length_append] at this
      omega
    have p1 := pick_lo (ns := ns) (k := a) (m := 2) ha (by decide)
    have p1' := pick_hi (ns := ns) (k := a) (m := 2) ha (by decide)
    have p2 := pick_lo (ns := ns) (k := a + 1 + (k : Int)) (m := 9) (by omega) (by decide)
    have p2' := pick_hi (ns := ns) (k := a + 1 + (k : Int)) (m := 9) (by omega) (by decide)
    obtain ⟨v, v1, v2⟩ := atI_in (l := ([65, 66, 69, 71, 76, 78, 79, 83, 84] : Txt)) (r := ((k : Int) + pickF ns a 2 * pickF ns (a + 1 + (k : Int)) 9) % 9) (by omega) (by simp; omega)
    have k1 : 0 ≤ a + 1 + (k : Int) := by omega
    have m9 : ∀ i : Int, modD (.int i) (.int 9) = .ok (.int (i % 9)) := fun i => by simp [modD]
    have ml : mulD (.int (pickF ns a 2)) (.int (pickF ns (a + 1 + (k : Int)) 9)) = .ok (.int (pickF ns a 2 * pickF ns (a + 1 + (k : Int)) 9)) := by
      simp only [mulD]
      rw [if_pos (.inl (by omega))]
    have pt := put1_c (f := D.str) (g := D.str) (l := l) (k := [c]) (v := [v]) rfl (by omega)
    have rw1 : rowB [c] [v] = true ∧ [c] ∈ namesL ∧ ([v] : Txt).length ≤ ([c] : Txt).length := by
      have h1 : ∀ x ∈ enumF oneL, ∀ v ∈ ([65, 66, 69, 71, 76, 78, 79, 83, 84] : Txt), rowB [x.2] [v] = true ∧ [x.2] ∈ namesL ∧ ([v] : Txt).length ≤ ([x.2] : Txt).length := by decide +kernel
      exact h1 _ hc v v2
    refine ⟨[some (.scr ns), some (.int a), some (dcD .str .str (putA l [c] [v])), some (natD k), some (.str [c]), none, none], ?_, _, _, _, rfl, i1.put rw1.1 rw1.2, ?_, ?_⟩
    · simp +contextual -implicitDefEqProofs [-Prod.forall, M__law_table_1, ha, k1, m9, ml, v1, pt]
    · have := putA_len l [c] [v]
      rw [List.length_append, List.length_singleton]
      omega
    · intro q hq
      rw [putA_keys]
      rcases List.mem_append.mp hq with hq | hq
      · have := i3 q hq
        split
        · exact this
        · exact List.mem_append_left _ this
      · rw [List.mem_singleton] at hq
        subst hq
        split
        · assumption
        · exact List.mem_append_right _ (List.mem_singleton.mpr rfl))
  have p0 : 0 ≤ pickF ns (a + 12) 5 := pick_lo (by omega) (by decide)
  have p1 : pickF ns (a + 12) 5 < 5 := pick_hi (by omega) (by decide)
  let J : List Nat → Env → Prop := fun pre ρ => ∃ l x3 x4 x5, ρ = [some (.scr ns), some (.int a), some (dcD .str .str l), x3, x4, x5, none] ∧ GoodR l ∧ l.length ≤ 9 + pre.length ∧ ∀ q ∈ enumF oneL, [q.2] ∈ l.map (·.1)
  obtain ⟨ρ2, e2, l2, y3, y4, y5, rfl, f1, f2, f3⟩ := for_all (t := .name 3) (f := evSs [D__law_pick] M__law_table_2) (e := natD) J (List.range (pickF ns (a + 12) 5).toNat) [some (.scr ns), some (.int a), some (dcD .str .str l1), x3, x4, none, none] ⟨l1, _, _, _, rfl, g1, by have z : (enumF oneL).length = 9 := rfl; rw [z] at g2; simpa using g2, g3⟩ (by
    rintro pre k post hl ρ ⟨l, x3, x4, x5, rfl, i1, i2, i3⟩
    refine ⟨_, rfl, ?_⟩
    have hlen : pre.length ≤ 5 := by
      have := congrArg List.length hl
      rw [List.length_range, List.length_append] at this
      omega
    obtain ⟨u, u1, u2⟩ := atI_in (l := coupL) (r := pickF ns (a + 13 + 2 * (k : Int)) 9) (pick_lo (by omega) (by decide)) (pick_hi (by omega) (by decide))
    obtain ⟨v, v1, v2⟩ := atI_in (l := ([[73], [85], [78], [83, 84], [], [69, 78], [65, 73]] : List Txt)) (r := pickF ns (a + 14 + 2 * (k : Int)) 7) (pick_lo (by omega) (by decide)) (pick_hi (by omega) (by decide))
    have k1 : 0 ≤ a + 13 + 2 * (k : Int) := by omega
    have k2 : 0 ≤ a + 14 + 2 * (k : Int) := by omega
    have m2 : mulD (.int 2) (.int (k : Int)) = .ok (.int (2 * (k : Int))) := by simp [mulD]
    have pt := put1_c (f := D.str) (g := D.str) (l := l) (k := u) (v := v) rfl (by omega)
    have rw1 : rowB u v = true ∧ u ∈ namesL ∧ v.length ≤ u.length := by
      have h1 : ∀ x ∈ coupL, ∀ v ∈ ([[73], [85], [78], [83, 84], [], [69, 78], [65, 73]] : List Txt), rowB x v = true ∧ x ∈ namesL ∧ v.length ≤ x.length := by decide +kernel
      exact h1 _ u2 v v2
    unfold coupL at u1
    refine ⟨[some (.scr ns), some (.int a), some (dcD .str .str (putA l u v)), some (natD k), x4, some (.str u), none], ?_, _, _, _, _, rfl, i1.put rw1.1 rw1.2, ?_, ?_⟩
    · simp +contextual -implicitDefEqProofs [-Prod.forall, M__law_table_2, k1, k2, m2, litS, u1, v1, pt]
    · have := putA_len l u v
      rw [List.length_append, List.length_singleton]
      omega
    · intro q hq
      rw [putA_keys]
      have := i3 q hq
      split
      · exact this
      · exact List.mem_append_left _ this)
  rw [List.length_range] at f2
  have r1 := rng1_ok (n := pickF ns (a + 12) 5) p0 (by omega)
  have k12 : 0 ≤ a + 12 := by omega
  have k25 : 0 ≤ a + 25 := by omega
  have k26 : 0 ≤ a + 26 := by omega
  have dn : D.dic false [] = dcD .str .str ([] : Rows) := rfl
  have fin : ∀ l : Rows, GoodR l → l.length ≤ 13 → ∀ k ∈ isort ltN (l.map (·.1)), ixR (dcD .str .str l) (.str k) = .ok (.str ((getA l k).getD [])) := fun l hg _ k hk => by
    obtain ⟨w, hw⟩ := getA_some ((up_sorted hg.nd).2.mem_iff.mp hk)
    have := ix_c (f := D.str) (g := D.str) (l := l) (k := k) rfl
    rw [this, hw]; rfl
  by_cases hp : pickF ns (a + 25) 3 = 0
  · obtain ⟨u, u1, u2⟩ := atI_in (l := oneL) (r := pickF ns (a + 26) 9) (pick_lo (by omega) (by decide)) (pick_hi (by omega) (by decide))
    have hu : [u] ∈ l2.map (·.1) := by
      have : ∀ u ∈ oneL, ∃ q ∈ enumF oneL, q.2 = u := by decide
      obtain ⟨q, hq, rfl⟩ := this u u2
      exact f3 q hq
    obtain ⟨z, hz⟩ := getA_some hu
    have pp := pop1_c (f := D.str) (g := D.str) (l := l2) (k := [u]) rfl (by rw [hz]; rfl)
    have hne : dropA l2 [u] ≠ [] := by
      have h1 := f3 (0, 97) (by decide)
      have h2 := f3 (1, 98) (by decide)
      obtain ⟨p, hp1, hp2⟩ := List.mem_map.mp h1
      obtain ⟨q, hq1, hq2⟩ := List.mem_map.mp h2
      by_cases hu' : ([u] : Txt) = [97]
      · refine List.ne_nil_of_mem (dropA_mem.mpr ⟨hq1, ?_⟩)
        rw [hq2, hu']; decide
      · refine List.ne_nil_of_mem (dropA_mem.mpr ⟨hp1, ?_⟩)
        rw [hp2]; exact fun z => hu' z.symm
    have hln : (dropA l2 [u]).length ≤ 13 := by
      have : (dropA l2 [u]).length ≤ l2.length := by unfold dropA; exact List.length_filter_le _ _
      omega
    refine ⟨rowsOf (dropA l2 [u]), ?_, rowsOf_ok f1.drop hne hln⟩
    have sz := sortZ_c (g := D.str) (l := dropA l2 [u]) (by omega)
    have ev := fin _ f1.drop hln
    unfold oneL at u1 e1
    simp +contextual -implicitDefEqProofs [-Prod.forall, D__law_table, M__law_table, k12, k25, k26, r1, e1, e2, hp, u1, pp, sz, ev]
    rfl
  · have hne : l2 ≠ [] := by
      have h1 := f3 (0, 97) (by decide)
      intro z
      rw [z] at h1
      cases h1
    refine ⟨rowsOf l2, ?_, rowsOf_ok f1 hne (by omega)⟩
    have sz := sortZ_c (g := D.str) (l := l2) (by omega)
    have ev := fin _ f1 (by omega)
    unfold oneL at e1
    simp +contextual -implicitDefEqProofs [-Prod.forall, D__law_table, M__law_table, k12, k25, k26, r1, e1, e2, hp, sz, ev]
    rfl
end DL
namespace DL
/-! Lines that go by metres: plain mathematics. -/
def fitB (c d : Nat) : Bool := decide (c = d) || decide (c = 63) || decide (d = 63)
def suitsF (made metre : Txt) : Bool := decide (made.length = metre.length) && (made.zip metre).all fun p => fitB p.1 p.2
theorem suitsF_nil : suitsF [] [] = true := rfl
theorem suitsF_app {a b c d : Txt} (h : a.length = c.length) : suitsF (a ++ b) (c ++ d) = (suitsF a c && suitsF b d) := by
  unfold suitsF
  rw [List.zip_append h, List.all_append, List.length_append, List.length_append, h]
  by_cases hb : b.length = d.length
  · simp [hb, h]
  · have : ¬ c.length + b.length = c.length + d.length := by omega
    simp [hb, this]
section
variable {α : Type} [DecidableEq α] (sg : α → Txt) (m : Txt) (b : List α)
def goesAt (i : Nat) (w : α) : Bool := suitsF (sg w) ((m.drop i).take (sg w).length)
def walkF : Nat → List α → Option Nat
  | i, [] => some i
  | i, w :: ws => if goesAt sg m i w = true then walkF (i + (sg w).length) ws else none
def beatsF (ws : List α) : Txt := (ws.map sg).flatten
theorem goesAt_le {i : Nat} {w : α} (hw : sg w ≠ []) (h : goesAt sg m i w = true) : i + (sg w).length ≤ m.length := by
  unfold goesAt suitsF at h
  rw [Bool.and_eq_true, decide_eq_true_eq, List.length_take, List.length_drop] at h
  have : 0 < (sg w).length := List.length_pos_iff.mpr hw
  omega
theorem walk_suits (hs : ∀ w, w ∈ b → sg w ≠ []) : ∀ (ws : List α), (∀ w ∈ ws, w ∈ b) → ∀ (i : Nat), i ≤ m.length → (walkF sg m i ws = some m.length ↔ suitsF (beatsF sg ws) (m.drop i) = true)
  | [], _, i, hi => by
    simp only [walkF, beatsF, List.map_nil, List.flatten_nil, Option.some.injEq]
    constructor
    · intro h; subst h; simp [suitsF]
    · intro h
      unfold suitsF at h
      rw [Bool.and_eq_true, decide_eq_true_eq, List.length_drop] at h
      simp at h
      omega
  | w :: ws, hb, i, hi => by
    have hw := hs w (hb w List.mem_cons_self)
    simp only [walkF, beatsF, List.map_cons, List.flatten_cons]
    by_cases h : goesAt sg m i w = true
    · rw [if_pos h]
      have hle := goesAt_le sg m hw h
      rw [walk_suits hs ws (fun x hx => hb x (List.mem_cons_of_mem _ hx)) _ hle]
      have e : m.drop i = (m.drop i).take (sg w).length ++ m.drop (i + (sg w).length) := by
        rw [← List.drop_drop, List.take_append_drop]
      rw [e, suitsF_app (by rw [List.length_take, List.length_drop]; omega)]
      unfold goesAt at h
      rw [h, Bool.true_and]
      rfl
    · rw [if_neg h]
      constructor
      · intro z; cases z
      · intro z
        exfalso
        apply h
        have hl : (sg w).length ≤ (m.drop i).length := by
          unfold suitsF at z
          rw [Bool.and_eq_true, decide_eq_true_eq, List.length_append] at z
          omega
        have e : m.drop i = (m.drop i).take (sg w).length ++ (m.drop i).drop (sg w).length := (List.take_append_drop ..).symm
        rw [e, suitsF_app (by rw [List.length_take]; omega), Bool.and_eq_true] at z
        exact z.1
def stepsF (p : Nat) : List (α × Nat) := (b.filter fun w => goesAt sg m p w).map fun w => (w, p + (sg w).length)
def rowsM : Nat → List (List α × Nat)
  | 0 => [([], 0)]
  | n + 1 => (rowsM n).flatMap fun r => (stepsF sg m b r.2).map fun s => (r.1 ++ [s.1], s.2)
/-- all rows of n words -/
def seqs : Nat → List (List α)
  | 0 => [[]]
  | n + 1 => (seqs n).flatMap fun l => b.map fun w => l ++ [w]
theorem walk_snoc : ∀ (ws : List α) (i : Nat) (w : α), walkF sg m i (ws ++ [w]) = (walkF sg m i ws).bind fun j => if goesAt sg m j w = true then some (j + (sg w).length) else none
  | [], i, w => by simp [walkF]
  | x :: ws, i, w => by
    simp only [List.cons_append, walkF]
    split
    · exact walk_snoc ws _ w
    · rfl
theorem rows_seqs : ∀ n, rowsM sg m b n = (seqs b n).filterMap fun ws => (walkF sg m 0 ws).map fun j => (ws, j)
  | 0 => by simp [rowsM, seqs, walkF]
  | n + 1 => by
    simp only [rowsM, seqs, rows_seqs n]
    generalize seqs b n = L
    induction L with
    | nil => rfl
    | cons ws L ih =>
      rw [List.flatMap_cons, List.filterMap_append, ← ih, List.filterMap_cons]
      cases h : walkF sg m 0 ws with
      | none =>
        simp only [Option.map_none]
        have : (b.map fun w => ws ++ [w]).filterMap (fun ws => (walkF sg m 0 ws).map fun j => (ws, j)) = [] := by
          rw [List.filterMap_map, List.filterMap_eq_nil_iff]
          intro w _
          simp only [Function.comp, walk_snoc, h, Option.bind_none, Option.map_none]
        rw [this, List.nil_append]
      | some j =>
        simp only [Option.map_some, List.flatMap_cons]
        congr 1
        unfold stepsF
        rw [List.filterMap_map, List.map_map]
        clear ih
        induction b with
        | nil => rfl
        | cons w b ihb =>
          rw [List.filter_cons, List.filterMap_cons]
          simp only [Function.comp, walk_snoc, h, Option.bind_some]
          by_cases g : goesAt sg m j w = true
          · rw [if_pos g, if_pos g]
            simp only [Option.map_some, List.map_cons, Function.comp]
            congr 1
          · rw [if_neg g, if_neg g]
            simp only [Option.map_none]
            simpa [Function.comp, walk_snoc, h] using ihb
/-- all lines that go, short ones first -/
def linesN (n : Nat) : List (List α) := (seqs b n).filter fun ws => suitsF (beatsF sg ws) m
def linesM : List (List α) := [1, 2, 3, 4, 5, 6].flatMap fun n => linesN sg m b n
theorem seqs_mem : ∀ (n : Nat) (ws : List α), ws ∈ seqs b n ↔ ws.length = n ∧ ∀ w ∈ ws, w ∈ b
  | 0, ws => by
    simp only [seqs, List.mem_singleton]
    constructor
    · intro h; subst h; simp
    · intro h; exact List.eq_nil_of_length_eq_zero h.1
  | n + 1, ws => by
    simp only [seqs, List.mem_flatMap, List.mem_map]
    constructor
    · rintro ⟨l, hl, w, hw, rfl⟩
      obtain ⟨h1, h2⟩ := (seqs_mem n l).mp hl
      refine ⟨by simp [h1], fun x hx => ?_⟩
      rw [List.mem_append, List.mem_singleton] at hx
      rcases hx with hx | rfl
      · exact h2 x hx
      · exact hw
    · rintro ⟨h1, h2⟩
      have hne : ws ≠ [] := fun z => by rw [z] at h1; simp at h1
      refine ⟨ws.dropLast, (seqs_mem n _).mpr ⟨by rw [List.length_dropLast, h1]; rfl, fun x hx => h2 x (List.dropLast_subset _ hx)⟩, ws.getLast hne, h2 _ (List.getLast_mem hne), List.dropLast_concat_getLast hne⟩
theorem rows_lines (hs : ∀ w, w ∈ b → sg w ≠ []) (n : Nat) : (rowsM sg m b n).filter (fun r => decide (r.2 = m.length)) = (linesN sg m b n).map fun ws => (ws, m.length) := by
  rw [rows_seqs]
  unfold linesN
  have hm : ∀ ws ∈ seqs b n, ∀ w ∈ ws, w ∈ b := fun ws h => ((seqs_mem b n ws).mp h).2
  generalize seqs b n = L at hm
  induction L with
  | nil => rfl
  | cons ws L ih =>
    have ih := ih fun x hx => hm x (List.mem_cons_of_mem _ hx)
    have k := walk_suits sg m b hs ws (hm ws List.mem_cons_self) 0 (Nat.zero_le _)
    rw [List.drop_zero] at k
    rw [List.filterMap_cons, List.filter_cons]
    by_cases g : suitsF (beatsF sg ws) m = true
    · rw [if_pos g, k.mpr g]
      simp only [Option.map_some, List.filter_cons, decide_true, if_true, List.map_cons]
      rw [ih]
    · rw [if_neg g, ← ih]
      cases h : walkF sg m 0 ws with
      | none => rfl
      | some j =>
        have hj : j ≠ m.length := fun z => by subst z; exact g (k.mp h)
        simp [List.filter_cons, hj]
/-! counting -/
def rowsPhi (φ : Nat → Int) (l : List (List α × Nat)) : Int := (l.map fun r => φ r.2).sum
theorem rowsPhi_step (φ : Nat → Int) (n : Nat) : rowsPhi φ (rowsM sg m b (n + 1)) = rowsPhi (fun p => ((stepsF sg m b p).map fun s => φ s.2).sum) (rowsM sg m b n) := by
  simp only [rowsM, rowsPhi]
  generalize rowsM sg m b n = L
  induction L with
  | nil => rfl
  | cons r L ih => rw [List.flatMap_cons, List.map_append, List.sum_append, ih, List.map_cons, List.sum_cons, List.map_map]; rfl
/-- a dict of numbers -/
def phiD (φ : Nat → Int) (h : List (Nat × Int)) : Int := (h.map fun p => p.2 * φ p.1).sum
def getI (h : List (Nat × Int)) (k : Nat) : Int := ((h.find? fun p => decide (p.1 = k)).map (·.2)).getD 0
def putI (h : List (Nat × Int)) (k : Nat) (v : Int) : List (Nat × Int) := if (h.any fun p => decide (p.1 = k)) = true then h.map (fun p => if p.1 = k then (p.1, v) else p) else h ++ [(k, v)]
def addI (h : List (Nat × Int)) (k : Nat) (e : Int) : List (Nat × Int) := putI h k (getI h k + e)
def keysU (h : List (Nat × Int)) : Prop := (h.map (·.1)).Nodup
theorem getI_none {h : List (Nat × Int)} {k : Nat} (hn : (h.any fun p => decide (p.1 = k)) = false) : getI h k = 0 := by
  unfold getI
  rw [List.find?_eq_none.mpr]
  · rfl
  · intro p hp z
    have := List.any_eq_false.mp hn p hp
    exact this z
theorem putI_keys {h : List (Nat × Int)} {k : Nat} {v : Int} (u : keysU h) : keysU (putI h k v) := by
  unfold putI keysU
  split
  · rw [List.map_map]
    have : ((fun p : Nat × Int => p.1) ∘ fun p : Nat × Int => if p.1 = k then (p.1, v) else p) = fun p => p.1 := by
      funext p
      simp only [Function.comp]
      split <;> rfl
    rw [this]; exact u
  · rename_i hn
    rw [List.map_append, List.nodup_append]
    refine ⟨u, by simp, fun x hx y hy e => ?_⟩
    simp only [List.map_cons, List.map_nil, List.mem_singleton] at hy
    obtain ⟨p, hp, e2⟩ := List.mem_map.mp hx
    apply hn
    rw [List.any_eq_true]
    exact ⟨p, hp, by simpa using (e2.trans e).trans hy⟩
theorem map_put {φ : Nat → Int} {k : Nat} {v : Int} : ∀ {h : List (Nat × Int)}, keysU h → (h.any fun p => decide (p.1 = k)) = true → phiD φ (h.map fun p => if p.1 = k then (p.1, v) else p) = phiD φ h + (v - getI h k) * φ k
  | [], _, h => by simp at h
  | p :: h, u, ha => by
    unfold keysU at u
    rw [List.map_cons, List.nodup_cons] at u
    by_cases hp : p.1 = k
    · have hn : ∀ q ∈ h, q.1 ≠ k := fun q hq z => u.1 (List.mem_map.mpr ⟨q, hq, z.trans hp.symm⟩)
      have e1 : h.map (fun p => if p.1 = k then (p.1, v) else p) = h := by
        rw [List.map_congr_left (g := id) fun q hq => by rw [if_neg (hn q hq)]; rfl, List.map_id]
      have e2 : getI (p :: h) k = p.2 := by simp [getI, hp]
      rw [List.map_cons, e1, e2]
      simp only [phiD, List.map_cons, List.sum_cons, hp, if_true]
      rw [Int.sub_mul]
      omega
    · have ha' : (h.any fun p => decide (p.1 = k)) = true := by
        rw [List.any_cons] at ha
        simpa [hp] using ha
      have ih := map_put (φ := φ) (v := v) u.2 ha'
      have e2 : getI (p :: h) k = getI h k := by simp [getI, hp]
      rw [List.map_cons, e2, if_neg hp]
      simp only [phiD, List.map_cons, List.sum_cons] at ih ⊢
      rw [ih]
      omega
theorem phi_add {φ : Nat → Int} {h : List (Nat × Int)} {k : Nat} {e : Int} (u : keysU h) : phiD φ (addI h k e) = phiD φ h + e * φ k := by
  unfold addI putI
  split
  · rename_i ha
    rw [map_put u ha]
    congr 2
    omega
  · rename_i ha
    rw [getI_none (Bool.eq_false_iff.mpr ha)]
    simp [phiD, List.sum_append]
theorem add_keys {h : List (Nat × Int)} {k : Nat} {e : Int} (u : keysU h) : keysU (addI h k e) := putI_keys u
theorem get_phi : ∀ {h : List (Nat × Int)} (k : Nat), keysU h → getI h k = phiD (fun p => if p = k then 1 else 0) h
  | [], k, _ => rfl
  | p :: h, k, u => by
    unfold keysU at u
    rw [List.map_cons, List.nodup_cons] at u
    have ih := get_phi (h := h) k u.2
    by_cases hp : p.1 = k
    · have hn : getI h k = 0 := getI_none (by
        rw [List.any_eq_false]
        intro q hq z
        exact u.1 (List.mem_map.mpr ⟨q, hq, (of_decide_eq_true z).trans hp.symm⟩))
      rw [hn] at ih
      simp only [phiD, List.map_cons, List.sum_cons, hp, if_true] at ih ⊢
      rw [← ih]
      simp [getI, hp]
    · simp only [phiD, List.map_cons, List.sum_cons, hp, if_false] at ih ⊢
      rw [← ih]
      simp [getI, hp]
/-- what the loops of count_lines make of a dict -/
def stepD (h : List (Nat × Int)) : List (Nat × Int) := h.foldl (fun later p => (stepsF sg m b p.1).foldl (fun later s => addI later s.2 p.2) later) []
theorem fold_in {φ : Nat → Int} {e : Int} : ∀ (ss : List (α × Nat)) (h : List (Nat × Int)), keysU h → keysU (ss.foldl (fun later s => addI later s.2 e) h) ∧ phiD φ (ss.foldl (fun later s => addI later s.2 e) h) = phiD φ h + e * (ss.map fun s => φ s.2).sum
  | [], h, u => ⟨u, by simp⟩
  | s :: ss, h, u => by
    obtain ⟨h1, h2⟩ := fold_in (φ := φ) (e := e) ss (addI h s.2 e) (add_keys u)
    rw [List.foldl_cons]
    refine ⟨h1, ?_⟩
    rw [h2, phi_add u, List.map_cons, List.sum_cons, Int.mul_add]
    omega
theorem fold_out {φ : Nat → Int} : ∀ (l h : List (Nat × Int)), keysU h → keysU (l.foldl (fun later p => (stepsF sg m b p.1).foldl (fun later s => addI later s.2 p.2) later) h) ∧ phiD φ (l.foldl (fun later p => (stepsF sg m b p.1).foldl (fun later s => addI later s.2 p.2) later) h) = phiD φ h + phiD (fun p => ((stepsF sg m b p).map fun s => φ s.2).sum) l
  | [], h, u => ⟨u, by simp [phiD]⟩
  | p :: l, h, u => by
    obtain ⟨g1, g2⟩ := fold_in (φ := φ) (e := p.2) (stepsF sg m b p.1) h u
    obtain ⟨h1, h2⟩ := fold_out (φ := φ) l _ g1
    rw [List.foldl_cons]
    refine ⟨h1, ?_⟩
    rw [h2, g2]
    simp only [phiD, List.map_cons, List.sum_cons]
    omega
def herD : Nat → List (Nat × Int)
  | 0 => [(0, 1)]
  | n + 1 => stepD sg m b (herD n)
theorem her_ok : ∀ n, keysU (herD sg m b n) ∧ ∀ φ, phiD φ (herD sg m b n) = rowsPhi φ (rowsM sg m b n)
  | 0 => ⟨by simp [keysU, herD], fun φ => by simp [phiD, herD, rowsPhi, rowsM]⟩
  | n + 1 => by
    obtain ⟨u, h⟩ := her_ok n
    refine ⟨(fold_out sg m b (φ := fun _ => 0) (herD sg m b n) [] (by simp [keysU])).1, fun φ => ?_⟩
    have := (fold_out sg m b (φ := φ) (herD sg m b n) [] (by simp [keysU])).2
    show phiD φ (stepD sg m b (herD sg m b n)) = _
    unfold stepD
    rw [this, h, rowsPhi_step]
    simp [phiD]
theorem phi_count (l : List (List α × Nat)) (j : Nat) : rowsPhi (fun p => if p = j then 1 else 0) l = ((l.filter fun r => decide (r.2 = j)).length : Nat) := by
  unfold rowsPhi
  induction l with
  | nil => rfl
  | cons r l ih =>
    rw [List.map_cons, List.sum_cons, ih, List.filter_cons]
    by_cases h : r.2 = j
    · simp [h]; omega
    · simp [h]
theorem her_get (hs : ∀ w, w ∈ b → sg w ≠ []) (n : Nat) : getI (herD sg m b n) m.length = ((linesN sg m b n).length : Nat) := by
  obtain ⟨u, h⟩ := her_ok sg m b n
  rw [get_phi _ u, h, phi_count, rows_lines sg m b hs, List.length_map]
end
end DL
/-! Common mathematics, Me: lines, beats, metres. -/
namespace DL
open PySem PySem.Spec L2
/-- a sign for each vowel -/
def sgF (t : Rows) (w : Wd) : Txt := List.replicate ((vowF (sndW t w)).length - w.2.toNat) 45 ++ 47 :: List.replicate (w.2.toNat - 1) 45
theorem sgF_ne (t : Rows) (w : Wd) : sgF t w ≠ [] := by unfold sgF; simp
theorem sgF_signs (t : Rows) (w : Wd) : ∀ c ∈ sgF t w, c = 45 ∨ c = 47 := by
  intro c hc
  unfold sgF at hc
  rcases List.mem_append.mp hc with h | h
  · exact .inl (List.mem_replicate.mp h).2
  · rcases List.mem_cons.mp h with h | h
    · exact .inr h
    · exact .inl (List.mem_replicate.mp h).2
section
variable {t : Rows} (h : TabOk t)
include h
theorem word_nums {w : Wd} (hw : wordB t w = true) : 1 ≤ w.2 ∧ w.2 ≤ 3 ∧ w.2 ≤ ((vowF (sndW t w)).length : Nat) ∧ (vowF (sndW t w)).length ≤ 20 := by
  obtain ⟨a, v, b, e1, e2, hv, hk, hl, h3, _⟩ := word_parts hw
  have := (snd_word h hw).2
  refine ⟨by omega, h3, ?_, ?_⟩
  · rw [e2, vowF_len, List.countP_append, List.countP_cons, hv, hk]; simp; omega
  · rw [vowF_len]
    exact Nat.le_trans List.countP_le_length this
theorem sgF_len {w : Wd} (hw : wordB t w = true) : (sgF t w).length = (vowF (sndW t w)).length ∧ (sgF t w).length ≤ 20 := by
  obtain ⟨h1, h2, h3, h4⟩ := word_nums h hw
  unfold sgF
  rw [List.length_append, List.length_cons, List.length_replicate, List.length_replicate]
  omega
theorem signs_eval {w : Wd} (hw : wordB t w = true) : ((mulD (.str [45]) (.int (((vowF (sndW t w)).length : Nat) - w.2))).bind fun x => addD x (.str [47])).bind (fun x => (mulD (.str [45]) (.int (w.2 - 1))).bind fun y => addD x y) = .ok (.str (sgF t w)) := by
  obtain ⟨h1, h2, h3, h4⟩ := word_nums h hw
  rw [mul_s1 (by omega) (by omega), mul_s1 (by omega) (by omega)]
  simp only [Res.bind_ok]
  rw [add_s (by simp; omega), Res.bind_ok, add_s (by simp; omega)]
  have e1 : ((((vowF (sndW t w)).length : Nat) : Int) - w.2).toNat = (vowF (sndW t w)).length - w.2.toNat := by omega
  have e2 : (w.2 - 1).toNat = w.2.toNat - 1 := by omega
  rw [e1, e2]
  unfold sgF
  simp
theorem word_beats_ok {w : Wd} (hw : wordB t w = true) : D_word_beats [tblD t, wD w] = .ok (.str (sgF t w)) := by
  have e := signs_eval h hw
  simp +contextual -implicitDefEqProofs [-Prod.forall, D_word_beats, M_word_beats, (snd_word h hw).1, vowels_in_ok, e]
theorem law_snd_word {w : Wd} (hw : wordB t w = true) : D__law_sounds [tblD t, .str w.1] = .ok (.str (sndW t w)) := by
  obtain ⟨a, v, b, e1, e2, hv, hk, hl, _⟩ := word_parts hw
  have := lettersB_len hl
  rw [law_sounds_ok h (by omega), e1, e2]
  rfl
theorem law_signs_ok {w : Wd} (hw : wordB t w = true) : D__law_signs [tblD t, wD w] = .ok (.str (sgF t w)) := by
  have e := signs_eval h hw
  have e2 : ((sndW t w).filter fun a => vowB a).length = (vowF (sndW t w)).length := by rw [vowF_len, List.countP_eq_length_filter]
  simp +contextual -implicitDefEqProofs [-Prod.forall, D__law_signs, M__law_signs, law_snd_word h hw, e2, e]
/-- a line -/
def lineB (t : Rows) (l : List Wd) : Bool := decide (1 ≤ l.length) && decide (l.length ≤ 6) && l.all (wordB t)
theorem is_line_of_ok (l : List Wd) : D_is_line_of [tblD t, tD' wD l] = .ok (.bl (lineB t l)) := by
  unfold lineB
  simp +contextual -implicitDefEqProofs [-Prod.forall, D_is_line_of, M_is_line_of, is_word_of_ok h]
  by_cases h1 : 1 ≤ l.length <;> by_cases h2 : l.length ≤ 6 <;> simp [h1, h2]
  all_goals omega
theorem is_line_ok (l : List Wd) : D_is_line [tblD t, tD' wD l] = .ok (.bl (lineB t l)) := by
  simp +contextual -implicitDefEqProofs [-Prod.forall, D_is_line, M_is_line, look_table_ok h, is_line_of_ok h]
theorem look_line_ok {l : List Wd} (hl : lineB t l = true) : D_look_line [tblD t, tD' wD l] = .ok .non := by
  simp +contextual -implicitDefEqProofs [-Prod.forall, D_look_line, M_look_line, is_line_ok h, hl]
omit h in
theorem lineB_ok {l : List Wd} : lineB t l = true ↔ 1 ≤ l.length ∧ l.length ≤ 6 ∧ ∀ w ∈ l, wordB t w = true := by
  unfold lineB
  simp only [Bool.and_eq_true, decide_eq_true_eq, List.all_eq_true]
  constructor
  · rintro ⟨⟨a, b⟩, c⟩; exact ⟨a, b, c⟩
  · rintro ⟨a, b, c⟩; exact ⟨⟨a, b⟩, c⟩
theorem beatsF_len : ∀ {l : List Wd}, (∀ w ∈ l, wordB t w = true) → (beatsF (sgF t) l).length ≤ 20 * l.length
  | [], _ => by simp [beatsF]
  | w :: l, hl => by
    have i := beatsF_len (l := l) fun x hx => hl x (List.mem_cons_of_mem _ hx)
    have := (sgF_len h (hl w List.mem_cons_self)).2
    unfold beatsF at i ⊢
    rw [List.map_cons, List.flatten_cons, List.length_append, List.length_cons]
    omega
theorem beats_ok {l : List Wd} (hl : lineB t l = true) : D_beats [tblD t, tD' wD l] = .ok (.str (beatsF (sgF t) l)) := by
  obtain ⟨h1, h2, h3⟩ := lineB_ok.mp hl
  have hn := beatsF_len h h3
  have e := join_0 (l := l.map (sgF t)) (by unfold beatsF at hn; omega)
  have e2 : ∀ w ∈ l, D_word_beats [tblD t, wD w] = .ok (.str (sgF t w)) := fun w hw => word_beats_ok h (h3 w hw)
  simp +contextual -implicitDefEqProofs [-Prod.forall, D_beats, M_beats, look_line_ok h hl, e, e2, beatsF]
end
/-- a metre -/
def metreC (c : Nat) : Bool := decide (c ∈ [47, 45, 63])
def metreB (m : Txt) : Bool := decide (1 ≤ m.length) && decide (m.length ≤ 16) && m.all metreC
@[simp high] theorem inR_metre {c : Nat} : inR (.str [c]) (.str [47, 45, 63]) = .ok (.bl (metreC c)) := rfl
theorem is_metre_ok (m : Txt) : D_is_metre [.str m] = .ok (.bl (metreB m)) := by
  have a1 := add_s (a := [47]) (b := [45]) (by decide)
  have a2 := add_s (a := [47, 45]) (b := [63]) (by decide)
  simp only [List.cons_append, List.nil_append] at a1 a2
  unfold metreB
  simp +contextual -implicitDefEqProofs [-Prod.forall, D_is_metre, M_is_metre, a1, a2]
  by_cases h1 : 1 ≤ m.length <;> by_cases h2 : m.length ≤ 16 <;> simp [h1, h2]
  all_goals omega
theorem look_metre_ok {m : Txt} (hm : metreB m = true) : D_look_metre [.str m] = .ok .non := by
  simp +contextual -implicitDefEqProofs [-Prod.forall, D_look_metre, M_look_metre, is_metre_ok, hm]
@[simp] theorem inR_pss {a : Txt} {p : Txt × Txt} : inR (.str a) (pD .str .str p) = .ok (.bl (decide (a = p.1) || decide (a = p.2))) := by
  have e : inR (.str a) (.tup [.str p.1, .str p.2]) = _ := inR_ts (a := a) (l := [p.1, p.2])
  show inR (.str a) (.tup [.str p.1, .str p.2]) = _
  rw [e]
  congr 2
  by_cases h1 : a = p.1 <;> by_cases h2 : a = p.2 <;> simp [h1, h2]
theorem suits_ok (a b : Txt) : D_suits [.str a, .str b] = .ok (.bl (suitsF a b)) := by
  unfold suitsF fitB
  simp +contextual -implicitDefEqProofs [-Prod.forall, D_suits, M_suits]
  by_cases h1 : a.length = b.length
  · simp [h1, Bool.or_assoc]
  · have h2 : ¬ ((a.length : Nat) : Int) = ((b.length : Nat) : Int) := by omega
    simp [h1, h2]
theorem goes_ok {t : Rows} (h : TabOk t) {l : List Wd} (hl : lineB t l = true) {m : Txt} (hm : metreB m = true) : D_goes [tblD t, tD' wD l, .str m] = .ok (.bl (suitsF (beatsF (sgF t) l) m)) := by
  obtain ⟨h1, h2, h3⟩ := lineB_ok.mp hl
  have hn := beatsF_len h h3
  have e := join_0 (l := l.map (sgF t)) (by unfold beatsF at hn; omega)
  have e2 : ∀ w ∈ l, D_word_beats [tblD t, wD w] = .ok (.str (sgF t w)) := fun w hw => word_beats_ok h (h3 w hw)
  simp +contextual -implicitDefEqProofs [-Prod.forall, D_goes, M_goes, look_line_ok h hl, look_metre_ok hm, e, e2, suits_ok, beatsF]
theorem law_suits_ok {a b : Txt} (ha : a.length ≤ 1000) (h63 : ∀ c ∈ a, c ≠ 63) : D__law_suits [.str a, .str b] = .ok (.bl (suitsF a b)) := by
  by_cases h1 : a.length = b.length
  · have ea : ∀ k, k ∈ rngN a.length → a[k]? = some (sgnAt a k) := fun k hk => at_sgn (mem_rngN.mp hk)
    have eb : ∀ k, k ∈ rngN a.length → b[k]? = some (sgnAt b k) := fun k hk => at_sgn (by have := mem_rngN.mp hk; omega)
    have r := rng1_N (n := a.length) (by omega)
    have h2 : ((a.length : Nat) : Int) = ((b.length : Nat) : Int) := by omega
    have fin : decide (∀ k, k ∈ rngN a.length → ¬ sgnAt b k = 63 → sgnAt b k = sgnAt a k) = suitsF a b := by
      unfold suitsF fitB
      rw [decide_eq_true h1, Bool.true_and]
      have key : ∀ k, k < a.length → (a.zip b)[k]? = some (sgnAt a k, sgnAt b k) := fun k hk => List.getElem?_zip_eq_some.mpr ⟨at_sgn hk, at_sgn (by omega)⟩
      by_cases hz : (a.zip b).all (fun p => decide (p.1 = p.2) || decide (p.1 = 63) || decide (p.2 = 63)) = true
      · rw [hz]
        refine decide_eq_true fun k hk hn => ?_
        have hk := mem_rngN.mp hk
        have := List.all_eq_true.mp hz _ (List.mem_of_getElem? (key k hk))
        have h6 := h63 _ (List.mem_of_getElem? (at_sgn hk))
        simp only [Bool.or_eq_true, decide_eq_true_eq] at this
        rcases this with (z | z) | z
        · exact z.symm
        · exact absurd z h6
        · exact absurd z hn
      · rw [Bool.eq_false_iff.mpr hz]
        refine decide_eq_false fun e => hz (List.all_eq_true.mpr fun p hp => ?_)
        obtain ⟨k, hk, e1⟩ := List.mem_iff_getElem.mp hp
        have hk' : k < a.length := by rw [List.length_zip] at hk; omega
        have e2 := key k hk'
        rw [List.getElem?_eq_getElem hk, e1] at e2
        cases e2
        simp only [Bool.or_eq_true, decide_eq_true_eq]
        by_cases z : sgnAt b k = 63
        · exact .inr z
        · exact .inl (.inl (e k (mem_rngN.mpr hk') z).symm)
    simp +contextual -implicitDefEqProofs (maxDischargeDepth := 6) [-Prod.forall, D__law_suits, M__law_suits, ← h2, r, ea, eb]
    exact fin
  · have h2 : ¬ ((a.length : Nat) : Int) = ((b.length : Nat) : Int) := by omega
    unfold suitsF
    simp +contextual -implicitDefEqProofs [-Prod.forall, D__law_suits, M__law_suits, h1, h2]
theorem cutL_mem' {α : Type} {xs : List α} {lo hi : Option Int} {x : α} (h : x ∈ cutL xs lo hi) : x ∈ xs := cutL_mem h
theorem metreC_sign {c : Nat} (h : c = 45 ∨ c = 47) : metreC c = true := by rcases h with rfl | rfl <;> decide
theorem law_metre_ok {t : Rows} (h : TabOk t) {b : List Wd} (hb : BookOk t b) (ns : List Int) {a m : Int} (ha : 0 ≤ a) (hm : 1 ≤ m) (hm2 : m ≤ 16) : ∃ z : Txt, D__law_metre [.scr ns, .int a, tblD t, bookD b, .int m] = .ok (.str z) ∧ metreB z = true ∧ (z.length : Int) ≤ m := by
  obtain ⟨c0, c1, c2⟩ := atI_in (l := ([47, 63, 45] : Txt)) (r := pickF ns a 3) (pick_lo ha (by decide)) (pick_hi ha (by decide))
  have g0 : metreC c0 = true := by
    have : ∀ c ∈ ([47, 63, 45] : Txt), metreC c = true := by decide
    exact this c0 c2
  let I : List Nat → Env → Prop := fun pre ρ => ∃ z x6, ρ = [some (.scr ns), some (.int a), some (tblD t), some (bookD b), some (.int m), some (.str z), x6, none] ∧ z.all metreC = true ∧ z.length ≤ 1 + 20 * pre.length
  obtain ⟨ρ', e1, z, x6, rfl, g1, g2⟩ := for_all (t := .name 6) (f := evSs [D__law_pick, D__law_signs] M__law_metre_1) (e := natD) I (List.range (pickF ns (a + 1) 3).toNat) [some (.scr ns), some (.int a), some (tblD t), some (bookD b), some (.int m), some (.str [c0]), none, none] ⟨[c0], none, rfl, by simp [g0], by simp⟩ (by
    rintro pre k post hl ρ ⟨z, x6, rfl, i1, i2⟩
    refine ⟨_, rfl, ?_⟩
    have hlen : pre.length ≤ 3 := by
      have := congrArg List.length hl
      have p2 := pick_hi (ns := ns) (k := a + 1) (m := 3) (by omega) (by decide)
      rw [List.length_range, List.length_append] at this
      omega
    by_cases hbn : b = []
    · subst hbn
      refine ⟨_, ?_, z, some (natD k), rfl, i1, by simp; omega⟩
      simp +contextual -implicitDefEqProofs [-Prod.forall, M__law_metre_1]
    · have hb0 : (0 : Int) < ((b.length : Nat) : Int) := by have := List.length_pos_iff.mpr hbn; omega
      have hk2 : 0 ≤ a + 2 + (k : Int) := by omega
      obtain ⟨w, w1, w2⟩ := atI_in (l := b) (r := pickF ns (a + 2 + (k : Int)) (b.length : Nat)) (pick_lo hk2 hb0) (pick_hi hk2 hb0)
      have hw := hb.words w w2
      have sl := (sgF_len h hw).2
      have ib : ∀ c : Bool, intR [.bl c] = .ok (.int (if c = true then 1 else 0)) := fun c => by cases c <;> rfl
      have sg := sgF_signs t w
      by_cases hk : k = 0
      · subst hk
        refine ⟨[some (.scr ns), some (.int a), some (tblD t), some (bookD b), some (.int m), some (.str (sgF t w)), some (natD 0), none], ?_, _, _, rfl, List.all_eq_true.mpr fun c hc => metreC_sign (sg c hc), by rw [List.length_append, List.length_singleton]; omega⟩
        have mu : mulD (.str z) (.int 0) = .ok (.str []) := by simp [mulD]
        have ad := add_s (a := []) (b := sgF t w) (by simp; omega)
        simp only [List.nil_append] at ad
        have hk2' : 0 ≤ a + 2 := by omega
        simp only [Int.add_zero, show ((0 : Nat) : Int) = 0 from rfl] at w1
        simp +contextual -implicitDefEqProofs [-Prod.forall, M__law_metre_1, hbn, ib, mu, hb0, List.length_pos_iff.mpr hbn, hk2', w1, law_signs_ok h hw, ad]
      · refine ⟨[some (.scr ns), some (.int a), some (tblD t), some (bookD b), some (.int m), some (.str (z ++ sgF t w)), some (natD k), none], ?_, _, _, rfl, ?_, by rw [List.length_append, List.length_append, List.length_singleton]; omega⟩
        · have mu : mulD (.str z) (.int 1) = .ok (.str z) := by
            simp only [mulD]
            rw [if_pos ⟨by decide, by decide, by simp; omega⟩]
            simp
          have ad := add_s (a := z) (b := sgF t w) (by omega)
          have hk3 : (0 : Int) < (k : Int) := by omega
          simp +contextual -implicitDefEqProofs [-Prod.forall, M__law_metre_1, hbn, ib, mu, hb0, List.length_pos_iff.mpr hbn, hk2, w1, law_signs_ok h hw, ad, hk, Nat.pos_of_ne_zero hk]
        · rw [List.all_append, i1, Bool.true_and]
          exact List.all_eq_true.mpr fun c hc => metreC_sign (sg c hc))
  have p1 := pick_lo (ns := ns) (k := a + 1) (m := 3) (by omega) (by decide)
  have p2 := pick_hi (ns := ns) (k := a + 1) (m := 3) (by omega) (by decide)
  have k1 : 0 ≤ a + 1 := by omega
  have k6 : 0 ≤ a + 6 := by omega
  have k7 : 0 ≤ a + 7 := by omega
  rw [List.length_range] at g2
  have r1 := rng1_ok (n := pickF ns (a + 1) 3) p1 (by omega)
  have zl : (0 : Int) < ((z.length : Nat) : Int) + 3 := by omega
  obtain ⟨s, s1⟩ : ∃ s : Nat, pickF ns (a + 6) (((z.length : Nat) : Int) + 3) = (s : Int) := ⟨(pickF ns (a + 6) (((z.length : Nat) : Int) + 3)).toNat, by have := pick_lo (ns := ns) k6 zl; omega⟩
  obtain ⟨c, q1, q2⟩ := atI_in (l := ([63, 47, 45, 63] : Txt)) (r := pickF ns (a + 7) 4) (pick_lo k7 (by decide)) (pick_hi k7 (by decide))
  have gc : metreC c = true := by
    have : ∀ c ∈ ([63, 47, 45, 63] : Txt), metreC c = true := by decide
    exact this c q2
  have tl : (z.take s).length ≤ z.length := by rw [List.length_take]; omega
  have dl : (z.drop (s + 1)).length ≤ z.length := by rw [List.length_drop]; omega
  have ad1 := add_s (a := z.take s) (b := [c]) (by simp; omega)
  have ad2 := add_s (a := z.take s ++ [c]) (b := z.drop (s + 1)) (by rw [List.length_append, List.length_singleton]; omega)
  have em : m = ((m.toNat : Nat) : Int) := by omega
  have e2 : cutL z (some ((s : Int) + 1)) none = z.drop (s + 1) := by have := cutL_from (xs := z) (n := s + 1); simpa using this
  refine ⟨(z.take s ++ [c] ++ z.drop (s + 1)).take m.toNat, ?_, ?_, ?_⟩
  · have c3 := cutL_to (xs := z.take s ++ [c] ++ z.drop (s + 1)) (n := m.toNat)
    rw [← em] at c3
    simp only [List.append_assoc] at c3 ad2
    simp +contextual -implicitDefEqProofs [-Prod.forall, D__law_metre, M__law_metre, ha, c1, k1, k6, k7, r1, e1, zl, s1, q1, cutL_to, e2, ad1, ad2]
    simpa using c3
  · unfold metreB
    rw [Bool.and_eq_true, Bool.and_eq_true, decide_eq_true_eq, decide_eq_true_eq]
    refine ⟨⟨?_, ?_⟩, List.all_eq_true.mpr fun x hx => ?_⟩
    · simp only [List.length_take, List.length_append, List.length_singleton]; omega
    · simp only [List.length_take]; omega
    · have hx := List.mem_of_mem_take hx
      rcases List.mem_append.mp hx with hx | hx
      · rcases List.mem_append.mp hx with hx | hx
        · exact List.all_eq_true.mp g1 x (List.mem_of_mem_take hx)
        · rw [List.mem_singleton.mp hx]; exact gc
      · exact List.all_eq_true.mp g1 x (List.mem_of_mem_drop hx)
  · rw [List.length_take]; omega
end DL
namespace DL
/-! Schemes: plain mathematics. -/
section
variable {α : Type} [DecidableEq α]
def seeF (seen : List α) (k : α) : List α := if k ∈ seen then seen else seen ++ [k]
def schG : List α → List α → Txt
  | _, [] => []
  | seen, k :: r => (65 + (seeF seen k).idxOf k) :: schG (seeF seen k) r
def schF (keys : List α) : Txt := schG [] keys
def firstsG : List α → List α → List α
  | seen, [] => seen
  | seen, k :: r => firstsG (seeF seen k) r
theorem seeF_mem {seen : List α} {k : α} : k ∈ seeF seen k := by
  unfold seeF
  split
  · assumption
  · simp
theorem seeF_pre (seen : List α) (k : α) : ∃ r, seeF seen k = seen ++ r := by
  unfold seeF
  split
  · exact ⟨[], by simp⟩
  · exact ⟨[k], rfl⟩
theorem firstsG_pre : ∀ (keys seen : List α), ∃ r, firstsG seen keys = seen ++ r
  | [], seen => ⟨[], by simp [firstsG]⟩
  | k :: keys, seen => by
    obtain ⟨r1, e1⟩ := seeF_pre seen k
    obtain ⟨r2, e2⟩ := firstsG_pre keys (seeF seen k)
    exact ⟨r1 ++ r2, by rw [firstsG, e2, e1, List.append_assoc]⟩
theorem idx_pre {s r : List α} {k : α} (h : k ∈ s) : (s ++ r).idxOf k = s.idxOf k := by
  induction s with
  | nil => cases h
  | cons x s ih =>
    rw [List.cons_append, List.idxOf_cons, List.idxOf_cons]
    by_cases hx : x = k
    · simp [hx]
    · have : k ∈ s := by
        rcases List.mem_cons.mp h with z | z
        · exact absurd z.symm hx
        · exact z
      rw [ih this]
theorem schG_map : ∀ (keys seen : List α), schG seen keys = keys.map fun k => 65 + (firstsG seen keys).idxOf k
  | [], seen => rfl
  | k :: keys, seen => by
    rw [schG, schG_map keys (seeF seen k), List.map_cons]
    congr 1
    obtain ⟨r, e⟩ := firstsG_pre keys (seeF seen k)
    rw [firstsG, e, idx_pre seeF_mem]
theorem firstsG_mem : ∀ (keys seen : List α), ∀ k ∈ keys, k ∈ firstsG seen keys
  | [], _, k, h => by cases h
  | x :: keys, seen, k, h => by
    rcases List.mem_cons.mp h with rfl | h
    · obtain ⟨r, e⟩ := firstsG_pre keys (seeF seen k)
      rw [firstsG, e]
      exact List.mem_append_left _ seeF_mem
    · exact firstsG_mem keys _ k h
theorem schF_len (keys : List α) : (schF keys).length = keys.length := by
  unfold schF; rw [schG_map, List.length_map]
theorem idx_inj {S : List α} {a b : α} (ha : a ∈ S) (h : S.idxOf a = S.idxOf b) : a = b := by
  have h1 : S.idxOf a < S.length := List.idxOf_lt_length_of_mem ha
  have h2 : S.idxOf b < S.length := by rw [← h]; exact h1
  have e1 := List.getElem_idxOf h1
  have e2 := List.getElem_idxOf h2
  rw [← e1, ← e2]
  congr 1
/-- one letter just if one key -/
theorem schF_rel (keys : List α) (i j : Nat) (hi : i < keys.length) (hj : j < keys.length) : (schF keys)[i]? = (schF keys)[j]? ↔ keys[i]? = keys[j]? := by
  unfold schF
  rw [schG_map, List.getElem?_map, List.getElem?_map, List.getElem?_eq_getElem hi, List.getElem?_eq_getElem hj]
  simp only [Option.map_some, Option.some.injEq]
  constructor
  · intro h
    exact idx_inj (firstsG_mem keys [] _ (List.getElem_mem hi)) (by omega)
  · intro h; rw [h]
end
theorem idx_pair {α β : Type} [DecidableEq α] [DecidableEq β] : ∀ (sp : List (α × β)) (a : α) (b : β), (∀ p ∈ sp, p.1 = a ↔ p.2 = b) → (sp.map (·.1)).idxOf a = (sp.map (·.2)).idxOf b
  | [], _, _, _ => rfl
  | p :: sp, a, b, h => by
    rw [List.map_cons, List.map_cons, List.idxOf_cons, List.idxOf_cons, idx_pair sp a b fun q hq => h q (List.mem_cons_of_mem _ hq)]
    have := h p List.mem_cons_self
    by_cases h1 : p.1 = a
    · have h2 := this.mp h1
      simp [h1, h2]
    · have h2 : ¬ p.2 = b := fun z => h1 (this.mpr z)
      have e1 : (p.1 == a) = false := by simpa using h1
      have e2 : (p.2 == b) = false := by simpa using h2
      rw [e1, e2]
theorem schG_pair {α β : Type} [DecidableEq α] [DecidableEq β] : ∀ (ps sp : List (α × β)), (∀ p ∈ sp ++ ps, ∀ q ∈ ps, p.1 = q.1 ↔ p.2 = q.2) → schG (sp.map (·.1)) (ps.map (·.1)) = schG (sp.map (·.2)) (ps.map (·.2))
  | [], sp, _ => rfl
  | q :: ps, sp, h => by
    have hq : ∀ p ∈ sp, p.1 = q.1 ↔ p.2 = q.2 := fun p hp => h p (List.mem_append_left _ hp) q List.mem_cons_self
    have hm : q.1 ∈ sp.map (·.1) ↔ q.2 ∈ sp.map (·.2) := by
      rw [List.mem_map, List.mem_map]
      exact ⟨fun ⟨p, h1, h2⟩ => ⟨p, h1, (hq p h1).mp h2⟩, fun ⟨p, h1, h2⟩ => ⟨p, h1, (hq p h1).mpr h2⟩⟩
    rw [List.map_cons, List.map_cons, schG, schG]
    by_cases hc : q.1 ∈ sp.map (·.1)
    · have hc2 := hm.mp hc
      have e1 : seeF (sp.map (·.1)) q.1 = sp.map (·.1) := if_pos hc
      have e2 : seeF (sp.map (·.2)) q.2 = sp.map (·.2) := if_pos hc2
      rw [e1, e2, idx_pair sp q.1 q.2 hq, schG_pair ps sp fun p hp r hr => h p (by
        rcases List.mem_append.mp hp with z | z
        · exact List.mem_append_left _ z
        · exact List.mem_append_right _ (List.mem_cons_of_mem _ z)) r (List.mem_cons_of_mem _ hr)]
    · have hc2 : ¬ q.2 ∈ sp.map (·.2) := fun z => hc (hm.mpr z)
      have e1 : seeF (sp.map (·.1)) q.1 = (sp ++ [q]).map (·.1) := by rw [List.map_append]; exact if_neg hc
      have e2 : seeF (sp.map (·.2)) q.2 = (sp ++ [q]).map (·.2) := by rw [List.map_append]; exact if_neg hc2
      rw [e1, e2, idx_pair (sp ++ [q]) q.1 q.2 (fun p hp => by
        rcases List.mem_append.mp hp with z | z
        · exact hq p z
        · rw [List.mem_singleton.mp z]; simp), schG_pair ps (sp ++ [q]) fun p hp r hr => h p (by simpa using hp) r (List.mem_cons_of_mem _ hr)]
/-- the same lines have one letter: the same scheme -/
theorem schF_same {α β : Type} [DecidableEq α] [DecidableEq β] {l : List α} {m : List β} (hl : l.length = m.length) (h : ∀ i j, i < l.length → j < l.length → (l[i]? = l[j]? ↔ m[i]? = m[j]?)) : schF l = schF m := by
  have e := schG_pair (l.zip m) [] (fun p hp q hq => by
    rw [List.nil_append] at hp
    obtain ⟨i, hi, e1⟩ := List.mem_iff_getElem.mp hp
    obtain ⟨j, hj, e2⟩ := List.mem_iff_getElem.mp hq
    rw [List.length_zip] at hi hj
    have := h i j (by omega) (by omega)
    rw [List.getElem?_eq_getElem (by omega), List.getElem?_eq_getElem (by omega), List.getElem?_eq_getElem (by omega), List.getElem?_eq_getElem (by omega)] at this
    simp only [Option.some.injEq] at this
    rw [← e1, ← e2]
    simpa using this)
  have z1 : (l.zip m).map (·.1) = l := List.map_fst_zip (by omega)
  have z2 : (l.zip m).map (·.2) = m := List.map_snd_zip (by omega)
  rw [z1, z2] at e
  exact e
/-- whether a text is a scheme, k letters known -/
def isSchF : Nat → Txt → Bool
  | _, [] => true
  | k, c :: r => decide (65 ≤ c) && decide (c < 65 + (k + 1)) && decide (c < 73) && isSchF (max k (c - 64)) r
def schemeB (s : Txt) : Bool := decide (1 ≤ s.length) && decide (s.length ≤ 8) && isSchF 0 s
def grF (k : Nat) : Txt := (List.range k).map fun i => 65 + i
theorem grF_mem {k c : Nat} : c ∈ grF k ↔ 65 ≤ c ∧ c < 65 + k := by
  unfold grF
  rw [List.mem_map]
  constructor
  · rintro ⟨i, h, rfl⟩; have := List.mem_range.mp h; omega
  · rintro ⟨h1, h2⟩; exact ⟨c - 65, List.mem_range.mpr (by omega), by omega⟩
theorem grF_succ (k : Nat) : grF (k + 1) = grF k ++ [65 + k] := by
  unfold grF; rw [List.range_succ, List.map_append]; rfl
theorem grF_idx : ∀ {k c : Nat}, 65 ≤ c → c < 65 + k → (grF k).idxOf c = c - 65
  | 0, c, h1, h2 => by omega
  | k + 1, c, h1, h2 => by
    rw [grF_succ]
    by_cases h : c < 65 + k
    · rw [idx_pre (grF_mem.mpr ⟨h1, h⟩), grF_idx h1 h]
    · have hc : c = 65 + k := by omega
      subst hc
      have hn : 65 + k ∉ grF k := fun z => by have := grF_mem.mp z; omega
      rw [List.idxOf_append, if_neg hn]
      simp [grF]
theorem schG_self : ∀ (s : Txt) (k : Nat), isSchF k s = true → schG (grF k) s = s
  | [], _, _ => rfl
  | c :: r, k, h => by
    unfold isSchF at h
    simp only [Bool.and_eq_true, decide_eq_true_eq] at h
    obtain ⟨⟨⟨h1, h2⟩, h3⟩, h4⟩ := h
    rw [schG]
    by_cases hc : c < 65 + k
    · have e1 : seeF (grF k) c = grF k := if_pos (grF_mem.mpr ⟨h1, hc⟩)
      have e2 : max k (c - 64) = k := by omega
      rw [e2] at h4
      rw [e1, grF_idx h1 hc, schG_self r k h4]
      congr 1
      omega
    · have hc' : c = 65 + k := by omega
      subst hc'
      have e1 : seeF (grF k) (65 + k) = grF (k + 1) := by
        rw [grF_succ]
        exact if_neg fun z => by have := grF_mem.mp z; omega
      have e2 : max k (65 + k - 64) = k + 1 := by omega
      rw [e2] at h4
      rw [e1, grF_idx h1 (by omega), schG_self r (k + 1) h4]
      congr 1
      omega
theorem schF_self {s : Txt} (h : schemeB s = true) : schF s = s := by
  unfold schemeB at h
  rw [Bool.and_eq_true] at h
  exact schG_self s 0 h.2
/-- what is made is a scheme -/
theorem schG_ok {α : Type} [DecidableEq α] : ∀ (keys seen : List α), (firstsG seen keys).length ≤ 8 → isSchF seen.length (schG seen keys) = true
  | [], _, _ => rfl
  | k :: keys, seen, h => by
    have i := schG_ok keys (seeF seen k) h
    obtain ⟨r, e⟩ := firstsG_pre keys (seeF seen k)
    rw [firstsG, e, List.length_append] at h
    have hlt : (seeF seen k).idxOf k < (seeF seen k).length := List.idxOf_lt_length_of_mem seeF_mem
    have hs : (seeF seen k).length ≤ seen.length + 1 := by unfold seeF; split <;> simp
    have hm : max seen.length (65 + (seeF seen k).idxOf k - 64) = (seeF seen k).length := by
      unfold seeF at hlt hs ⊢
      by_cases hc : k ∈ seen
      · rw [if_pos hc] at hlt ⊢
        omega
      · rw [if_neg hc] at hlt ⊢
        rw [List.idxOf_append, if_neg hc, List.length_append]
        simp
        omega
    rw [schG, isSchF, hm, i]
    have h1 : 65 ≤ 65 + (seeF seen k).idxOf k := by omega
    have h2 : 65 + (seeF seen k).idxOf k < 65 + (seen.length + 1) := by omega
    have h3 : 65 + (seeF seen k).idxOf k < 73 := by omega
    simp only [h1, h2, h3, decide_true, Bool.and_self]
theorem firstsG_len {α : Type} [DecidableEq α] : ∀ (keys seen : List α), (firstsG seen keys).length ≤ seen.length + keys.length
  | [], _ => by simp [firstsG]
  | k :: keys, seen => by
    have i := firstsG_len keys (seeF seen k)
    have hs : (seeF seen k).length ≤ seen.length + 1 := by unfold seeF; split <;> simp
    rw [firstsG, List.length_cons]
    omega
theorem schF_scheme {α : Type} [DecidableEq α] {keys : List α} (h1 : 1 ≤ keys.length) (h2 : keys.length ≤ 8) : schemeB (schF keys) = true := by
  unfold schemeB
  rw [schF_len, decide_eq_true h1, decide_eq_true h2, Bool.true_and, Bool.true_and]
  have := firstsG_len keys []
  exact schG_ok keys [] (by simp at this; omega)
/-- the sign at a place -/
def chA (s : Txt) (i : Nat) : Nat := s.getD i 0
theorem chA_at {s : Txt} {i : Nat} (h : i < s.length) : s[i]? = some (chA s i) := by
  unfold chA; rw [List.getD_eq_getElem?_getD, List.getElem?_eq_getElem h]; rfl
/-- coarser -/
def coarB (one other : Txt) : Bool := (List.range one.length).all fun i => decide (one[i]? = one[other.idxOf (chA other i)]?)
theorem coarB_iff {one other : Txt} (h : one.length = other.length) : coarB one other = true ↔ ∀ i j, i < one.length → j < one.length → other[i]? = other[j]? → one[i]? = one[j]? := by
  unfold coarB chA
  rw [List.all_eq_true]
  have key : ∀ i, i < one.length → other.idxOf (other.getD i 0) < one.length ∧ other[other.idxOf (other.getD i 0)]? = other[i]? := fun i hi => by
    have hi' : i < other.length := by omega
    have e : other.getD i 0 = other[i] := by rw [List.getD_eq_getElem?_getD, List.getElem?_eq_getElem hi']; rfl
    rw [e]
    have hl : other.idxOf other[i] < other.length := List.idxOf_lt_length_of_mem (List.getElem_mem hi')
    refine ⟨by omega, ?_⟩
    rw [List.getElem?_eq_getElem hl, List.getElem_idxOf hl, List.getElem?_eq_getElem hi']
  constructor
  · intro ha i j hi hj e
    have a1 := of_decide_eq_true (ha i (List.mem_range.mpr hi))
    have a2 := of_decide_eq_true (ha j (List.mem_range.mpr hj))
    have : other.getD i 0 = other.getD j 0 := by rw [List.getD_eq_getElem?_getD, List.getD_eq_getElem?_getD, e]
    rw [a1, a2, this]
  · intro ha i hi
    have hi := List.mem_range.mp hi
    obtain ⟨k1, k2⟩ := key i hi
    exact decide_eq_true (ha i _ hi k1 k2.symm)
end DL
namespace DL
/-! Coarser schemes: plain mathematics. -/
theorem coar_refl (a : Txt) : coarB a a = true := (coarB_iff rfl).mpr fun i j _ _ h => h
theorem coar_trans {a b c : Txt} (h1 : a.length = b.length) (h2 : b.length = c.length) (x : coarB a b = true) (y : coarB b c = true) : coarB a c = true := by
  rw [coarB_iff h1] at x
  rw [coarB_iff h2] at y
  exact (coarB_iff (h1.trans h2)).mpr fun i j hi hj e => x i j hi hj (y i j (by omega) (by omega) e)
theorem coar_anti {a b : Txt} (h1 : a.length = b.length) (ha : schemeB a = true) (hb : schemeB b = true) (x : coarB a b = true) (y : coarB b a = true) : a = b := by
  rw [coarB_iff h1] at x
  rw [coarB_iff h1.symm] at y
  rw [← schF_self ha, ← schF_self hb]
  exact schF_same h1 fun i j hi hj => ⟨y i j (by omega) (by omega), x i j hi hj⟩
theorem coar_one (n : Nat) (c : Nat) {b : Txt} (h : n = b.length) : coarB (List.replicate n c) b = true := by
  refine (coarB_iff (by simpa using h)).mpr fun i j hi hj _ => ?_
  rw [List.length_replicate] at hi hj
  simp [hi, hj]
theorem coar_all {a b : Txt} (h : a.length = b.length) (hb : ∀ i j, i < b.length → j < b.length → b[i]? = b[j]? → i = j) : coarB a b = true :=
  (coarB_iff h).mpr fun i j hi hj e => by rw [hb i j (by omega) (by omega) e]
/-- turned about -/
theorem rev_at {α : Type} {s : List α} {i : Nat} (h : i < s.length) : s.reverse[i]? = s[s.length - 1 - i]? := List.getElem?_reverse h
theorem schF_rev_rel (s : Txt) (i j : Nat) (hi : i < s.length) (hj : j < s.length) : (schF s.reverse)[i]? = (schF s.reverse)[j]? ↔ s[s.length - 1 - i]? = s[s.length - 1 - j]? := by
  rw [schF_rel _ _ _ (by simpa using hi) (by simpa using hj), rev_at hi, rev_at hj]
theorem coar_rev {a b : Txt} (h : a.length = b.length) : coarB (schF a.reverse) (schF b.reverse) = coarB a b := by
  have key : coarB (schF a.reverse) (schF b.reverse) = true ↔ coarB a b = true := by
    rw [coarB_iff h, coarB_iff (by rw [schF_len, schF_len]; simpa using h)]
    rw [schF_len, List.length_reverse]
    constructor
    · intro x i j hi hj e
      have := x (a.length - 1 - i) (a.length - 1 - j) (by omega) (by omega)
      rw [schF_rev_rel _ _ _ (by omega) (by omega), schF_rev_rel _ _ _ (by omega) (by omega)] at this
      have e1 : a.length - 1 - (a.length - 1 - i) = i := by omega
      have e2 : a.length - 1 - (a.length - 1 - j) = j := by omega
      have e3 : b.length - 1 - (a.length - 1 - i) = i := by omega
      have e4 : b.length - 1 - (a.length - 1 - j) = j := by omega
      rw [e1, e2, e3, e4] at this
      exact this e
    · intro x i j hi hj e
      rw [schF_rev_rel _ _ _ (by omega) (by omega)] at e ⊢
      refine x _ _ (by omega) (by omega) ?_
      rw [h]; exact e
  cases h1 : coarB a b with
  | true => exact key.mpr h1
  | false => exact Bool.eq_false_iff.mpr fun z => by rw [key.mp z] at h1; cases h1
theorem nodup_sub_len {α : Type} [DecidableEq α] : ∀ {l m : List α}, l.Nodup → (∀ x ∈ l, x ∈ m) → l.length ≤ m.length
  | [], m, _, _ => Nat.zero_le _
  | x :: l, m, h, hs => by
    obtain ⟨h1, h2⟩ := List.nodup_cons.mp h
    have hx := hs x List.mem_cons_self
    have := nodup_sub_len (l := l) (m := m.erase x) h2 fun y hy => (List.mem_erase_of_ne (fun e => h1 (by rw [← e]; exact hy))).mpr (hs y (List.mem_cons_of_mem _ hy))
    rw [List.length_erase_of_mem hx] at this
    have hp := List.length_pos_of_mem hx
    rw [List.length_cons]
    omega
/-- no more letters -/
theorem coar_letters {a b : Txt} (h : a.length = b.length) (x : coarB a b = true) {la lb : List Nat} (na : la.Nodup) (ha : ∀ c ∈ la, c ∈ a) (hb : ∀ c ∈ b, c ∈ lb) : la.length ≤ lb.length := by
  rw [coarB_iff h] at x
  have := nodup_sub_len (l := la) (m := lb.map fun c => chA a (b.idxOf c)) na fun c hc => by
    obtain ⟨i, hi, e⟩ := List.mem_iff_getElem.mp (ha c hc)
    have hib : i < b.length := by omega
    rw [List.mem_map]
    refine ⟨b[i], hb _ (List.getElem_mem hib), ?_⟩
    have hlt : b.idxOf b[i] < b.length := List.idxOf_lt_length_of_mem (List.getElem_mem hib)
    have e1 : b[b.idxOf b[i]]? = b[i]? := by rw [List.getElem?_eq_getElem hlt, List.getElem_idxOf hlt, List.getElem?_eq_getElem hib]
    have e2 := x _ _ (by omega) hi e1
    rw [chA_at (by omega), List.getElem?_eq_getElem hi, e] at e2
    exact Option.some.inj e2
  rw [List.length_map] at this
  exact this
/-- a scheme by keys, turned about -/
theorem schF_rev {α : Type} [DecidableEq α] (l : List α) : schF (schF l).reverse = schF l.reverse := by
  refine schF_same (by rw [List.length_reverse, List.length_reverse, schF_len]) fun i j hi hj => ?_
  rw [List.length_reverse, schF_len] at hi hj
  have h1 : i < (schF l).length := by rw [schF_len]; exact hi
  have h2 : j < (schF l).length := by rw [schF_len]; exact hj
  rw [rev_at h1, rev_at h2, rev_at hi, rev_at hj, schF_len]
  exact schF_rel l _ _ (by omega) (by omega)
theorem schF_row {α : Type} [DecidableEq α] (l : List α) {k : Nat} (hk : k < l.length) : (schF l).map (fun c => decide (c = chA (schF l) k)) = l.map fun x => decide (x = l[k]) := by
  apply List.ext_getElem?
  intro i
  rw [List.getElem?_map, List.getElem?_map]
  by_cases hi : i < l.length
  · have h1 : i < (schF l).length := by rw [schF_len]; exact hi
    have h2 : k < (schF l).length := by rw [schF_len]; exact hk
    have r := schF_rel l i k hi hk
    rw [chA_at h1, chA_at h2, List.getElem?_eq_getElem hi, List.getElem?_eq_getElem hk] at r
    simp only [Option.some.injEq] at r
    rw [chA_at h1, List.getElem?_eq_getElem hi]
    simp only [Option.map_some]
    congr 1
    by_cases hz : l[i] = l[k]
    · rw [decide_eq_true hz, decide_eq_true (r.mpr hz)]
    · rw [decide_eq_false hz, decide_eq_false fun z => hz (r.mp z)]
  · rw [List.getElem?_eq_none (by rw [schF_len]; omega), List.getElem?_eq_none (by omega)]
    rfl
end DL
/-! Common mathematics, Sc: schemes. -/
namespace DL
open PySem PySem.Spec L2
def greatL : Txt := [65, 66, 67, 68, 69, 70, 71, 72]
instance : EmbF 0 (fun c : Nat => D.str [c]) := ⟨fun a b => by simp only [eqD]; by_cases h : a = b <;> simp [h], fun _ => rfl⟩
theorem great_take (n c : Nat) : c ∈ greatL.take n ↔ 65 ≤ c ∧ c < 65 + n ∧ c < 73 := by
  have e : greatL = grF 8 := rfl
  by_cases h : n ≤ 8
  · have : greatL.take n = grF n := by
      have : n = 0 ∨ n = 1 ∨ n = 2 ∨ n = 3 ∨ n = 4 ∨ n = 5 ∨ n = 6 ∨ n = 7 ∨ n = 8 := by omega
      rcases this with rfl | rfl | rfl | rfl | rfl | rfl | rfl | rfl | rfl <;> rfl
    rw [this, grF_mem]
    omega
  · rw [List.take_of_length_le (by show 8 ≤ n; omega), e, grF_mem]
    omega
theorem great_idx {c : Nat} (h1 : 65 ≤ c) (h2 : c < 73) : idxA (.str greatL) [.str [c]] = .ok (.int ((c - 65 : Nat) : Int)) := by
  have : c = 65 ∨ c = 66 ∨ c = 67 ∨ c = 68 ∨ c = 69 ∨ c = 70 ∨ c = 71 ∨ c = 72 := by omega
  rcases this with rfl | rfl | rfl | rfl | rfl | rfl | rfl | rfl <;> rfl
theorem great_at {j : Nat} (h : j < 8) : greatL[j]? = some (65 + j) := by
  have : j = 0 ∨ j = 1 ∨ j = 2 ∨ j = 3 ∨ j = 4 ∨ j = 5 ∨ j = 6 ∨ j = 7 := by omega
  rcases this with rfl | rfl | rfl | rfl | rfl | rfl | rfl | rfl <;> rfl
theorem cutL_great {k : Nat} : cutL greatL none (some ((k : Int) + 1)) = greatL.take (k + 1) := cutL_to (xs := greatL) (n := k + 1)
theorem is_scheme_loop (x0 : Option D) : ∀ (r : Txt) (k : Nat) (x2 : Option D), k ≤ 8 →
    if isSchF k r = true then ∃ k' y2, forO (bT (.name 2)) (evSs [] M_is_scheme_1) (r.map fun c => .str [c]) [x0, some (.int (k : Int)), x2] = .nx [x0, some (.int (k' : Int)), y2]
    else forO (bT (.name 2)) (evSs [] M_is_scheme_1) (r.map fun c => .str [c]) [x0, some (.int (k : Int)), x2] = .ret (.bl false)
  | [], k, x2, hk => by
    rw [if_pos (show isSchF k [] = true from by simp [isSchF])]
    exact ⟨k, x2, rfl⟩
  | c :: r, k, x2, hk => by
    have hg := great_take (k + 1) c
    have hcut := cutL_great (k := k)
    unfold greatL at hg hcut
    rw [List.map_cons]
    unfold forO
    by_cases hc : 65 ≤ c ∧ c < 65 + (k + 1) ∧ c < 73
    · have hidx := great_idx hc.1 hc.2.2
      unfold greatL at hidx
      have e1 : isSchF k (c :: r) = isSchF (max k (c - 64)) r := by
        rw [isSchF, decide_eq_true hc.1, decide_eq_true hc.2.1, decide_eq_true hc.2.2]
        simp
      have em : max (k : Int) (((c - 65 : Nat) : Int) + 1) = ((max k (c - 64) : Nat) : Int) := by omega
      have step : evSs [] M_is_scheme_1 [x0, some (.int (k : Int)), some (.str [c])] = .nx [x0, some (.int ((max k (c - 64) : Nat) : Int)), some (.str [c])] := by
        have hm := hg.mpr hc
        simp +contextual -implicitDefEqProofs [-Prod.forall, M_is_scheme_1, hcut, -List.take_succ_cons, hm, hidx, em, -List.mem_cons]
      have ih := is_scheme_loop x0 r (max k (c - 64)) (some (.str [c])) (by omega)
      rw [e1]
      simp only [s_bT, List.set_cons_succ, List.set_cons_zero]
      rw [step]
      exact ih
    · have hm : ¬ c ∈ ([65, 66, 67, 68, 69, 70, 71, 72] : Txt).take (k + 1) := fun z => hc (hg.mp z)
      have e1 : isSchF k (c :: r) = false := by
        rw [isSchF]
        by_cases h1 : 65 ≤ c
        · by_cases h2 : c < 65 + (k + 1)
          · rw [decide_eq_false fun h3 => hc ⟨h1, h2, h3⟩]; simp
          · rw [decide_eq_false h2]; simp
        · rw [decide_eq_false h1]; simp
      have step : evSs [] M_is_scheme_1 [x0, some (.int (k : Int)), some (.str [c])] = .ret (.bl false) := by
        simp +contextual -implicitDefEqProofs [-Prod.forall, M_is_scheme_1, hcut, -List.take_succ_cons, hm, -List.mem_cons]
      rw [e1, if_neg Bool.false_ne_true]
      simp only [s_bT, List.set_cons_succ, List.set_cons_zero]
      rw [step]
theorem is_scheme_ok (s : Txt) : D_is_scheme [.str s] = .ok (.bl (schemeB s)) := by
  have lp := is_scheme_loop (some (.str s)) s 0 none (by omega)
  unfold schemeB
  cases h : isSchF 0 s with
  | true =>
    rw [h, if_pos rfl] at lp
    obtain ⟨k', y2, lp⟩ := lp
    simp only [show ((0 : Nat) : Int) = 0 from rfl] at lp
    simp +contextual -implicitDefEqProofs [-Prod.forall, D_is_scheme, M_is_scheme, lp]
    by_cases h1 : 1 ≤ s.length <;> by_cases h2 : s.length ≤ 8 <;> simp [h1, h2] <;> omega
  | false =>
    rw [h, if_neg Bool.false_ne_true] at lp
    simp only [show ((0 : Nat) : Int) = 0 from rfl] at lp
    simp +contextual -implicitDefEqProofs [-Prod.forall, D_is_scheme, M_is_scheme, lp]
theorem look_scheme_ok {s : Txt} (h : schemeB s = true) : D_look_scheme [.str s] = .ok .non := by
  simp [D_look_scheme, M_look_scheme, is_scheme_ok, h]
theorem idx_emb {α : Type} [DecidableEq α] {n : Nat} {e : α → D} [em : EmbF n e] {a : α} : ∀ {l : List α}, a ∈ l → (l.map e).findIdx? (fun z => eqD z (e a)) = some (l.idxOf a)
  | [], h => by cases h
  | x :: l, h => by
    rw [List.map_cons, List.findIdx?_cons, List.idxOf_cons, EmbF.eq (f := e)]
    by_cases hx : x = a
    · simp [hx]
    · have hl : a ∈ l := by
        rcases List.mem_cons.mp h with z | z
        · exact absurd z.symm hx
        · exact z
      have e1 : (x == a) = false := by simpa using hx
      rw [decide_eq_false hx, idx_emb hl, e1]
      rfl
theorem idxA_l {α : Type} [DecidableEq α] {n : Nat} {e : α → D} [EmbF n e] {a : α} {l : List α} (h : a ∈ l) (hn : n + 1 ≤ 60) : idxA (lD e l) [e a] = .ok (.int ((l.idxOf a : Nat) : Int)) := by
  have h1 : (l.map e).all (plain 60) = true := plain_map (by omega)
  have h2 : plain 60 (e a) = true := plain_le (by omega) (EmbF.pl a)
  show idxL (.lst (l.map e)) [e a] = _
  simp only [idxL, h1, h2, and_self, if_true, idx_emb h]
@[simp] theorem kp_str {s : Txt} : kp true (.ok (.str s)) = .ok (.str s) := rfl
theorem scheme_loop {α : Type} [DecidableEq α] {n : Nat} {e : α → D} [EmbF n e] (hn : n + 1 ≤ 60) (x0 : Option D) : ∀ (r : List α) (seen : List α) (made : Txt) (x3 : Option D), (firstsG seen r).length ≤ 8 → made.length + r.length ≤ 1000 →
    ∃ seen' y3, forO (bT (.name 3)) (evSs [] M_scheme_of_1) (r.map e) [x0, some (lD e seen), some (.str made), x3] = .nx [x0, some (lD e seen'), some (.str (made ++ schG seen r)), y3]
  | [], seen, made, x3, h1, h2 => ⟨seen, x3, by simp [forO, schG]⟩
  | c :: r, seen, made, x3, h1, h2 => by
    obtain ⟨z, hz⟩ := firstsG_pre r (seeF seen c)
    have hl : (seeF seen c).length ≤ 8 := by
      rw [firstsG, hz, List.length_append] at h1
      omega
    have hm : c ∈ seeF seen c := seeF_mem
    have hi : (seeF seen c).idxOf c < 8 := Nat.lt_of_lt_of_le (List.idxOf_lt_length_of_mem hm) hl
    have g := great_at hi
    unfold greatL at g
    have nin := ninR_l (f := e) (a := c) (l := seen) hn
    have ix := idxA_l (e := e) hm hn
    rw [List.length_cons] at h2
    have ad := add_s (a := made) (b := [65 + (seeF seen c).idxOf c]) (by simp; omega)
    have ap : seen.length < 16777216 := by
      have : seen.length ≤ (seeF seen c).length := by unfold seeF; split <;> simp
      omega
    have ap1 := app1_l (h := e) (a := c) ap
    obtain ⟨seen', y3, ih⟩ := scheme_loop (e := e) hn x0 r (seeF seen c) (made ++ [65 + (seeF seen c).idxOf c]) (some (e c)) (by rw [firstsG] at h1; exact h1) (by rw [List.length_append]; simp; omega)
    refine ⟨seen', y3, ?_⟩
    have step : evSs [] M_scheme_of_1 [x0, some (lD e seen), some (.str made), some (e c)] = .nx [x0, some (lD e (seeF seen c)), some (.str (made ++ [65 + (seeF seen c).idxOf c])), some (e c)] := by
      by_cases hc : c ∈ seen
      · have e1 : seeF seen c = seen := if_pos hc
        rw [e1] at ix g ad ⊢
        simp [M_scheme_of_1, nin, hc, ix, g, ad]
      · have e1 : seeF seen c = seen ++ [c] := if_neg hc
        rw [e1] at ix g ad ⊢
        simp [M_scheme_of_1, nin, hc, ix, g, ad, ap1, -List.append_assoc, -List.idxOf_append]
    rw [List.map_cons]
    unfold forO
    simp only [s_bT, List.set_cons_succ, List.set_cons_zero]
    rw [step]
    dsimp only
    rw [ih, schG]
    simp
theorem scheme_of_ok {α : Type} [DecidableEq α] {n : Nat} {e : α → D} [EmbF n e] (hn : n + 1 ≤ 60) {x : D} {keys : List α} (hx : itemsOf x = .ok (keys.map e)) (hk : keys.length ≤ 8) : D_scheme_of [x] = .ok (.str (schF keys)) := by
  have h0 := firstsG_len keys []
  obtain ⟨seen', y3, lp⟩ := scheme_loop (e := e) hn (some x) keys [] [] none (by simp at h0; omega) (by simp; omega)
  have e0 : lD e [] = .lst [] := rfl
  rw [e0] at lp
  simp [D_scheme_of, M_scheme_of, hx, lp, schF]
theorem backwards_ok {s : Txt} (h : schemeB s = true) : D_backwards [.str s] = .ok (.str (schF s.reverse)) := by
  have h8 : s.length ≤ 8 := by unfold schemeB at h; simp only [Bool.and_eq_true, decide_eq_true_eq] at h; exact h.1.2
  have so := scheme_of_ok (e := fun c : Nat => D.str [c]) (by decide) (x := .str s.reverse) (keys := s.reverse) rfl (by rw [List.length_reverse]; exact h8)
  simp [D_backwards, M_backwards, look_scheme_ok h, so]
theorem head_places : ∀ (s : Txt) (c off : Nat), c ∈ s → ((List.range' off (s.length + 1)).filter fun i => s[i - off]? == some c).head? = some (off + s.idxOf c)
  | [], c, off, h => by cases h
  | x :: s, c, off, h => by
    rw [List.length_cons, List.range'_succ, List.filter_cons, List.idxOf_cons]
    by_cases hx : x = c
    · subst hx; simp
    · have hs : c ∈ s := by
        rcases List.mem_cons.mp h with z | z
        · exact absurd z.symm hx
        · exact z
      have e1 : (x == c) = false := by simpa using hx
      have e2 : ((x :: s)[off - off]? == some c) = false := by simp [hx]
      rw [e2, if_neg Bool.false_ne_true, e1]
      have ih := head_places s c (off + 1) hs
      have e3 : ((List.range' (off + 1) (s.length + 1)).filter fun i => (x :: s)[i - off]? == some c) = ((List.range' (off + 1) (s.length + 1)).filter fun i => s[i - (off + 1)]? == some c) := by
        refine List.filter_congr fun i hi => ?_
        have := (List.mem_range'_1.mp hi).1
        have e4 : i - off = (i - (off + 1)) + 1 := by omega
        rw [e4, List.getElem?_cons_succ]
      rw [e3, ih]
      simp only [cond_false, Option.some.injEq]
      omega
theorem idxA_s {s : Txt} {c : Nat} (h : c ∈ s) : idxA (.str s) [.str [c]] = .ok (.int ((s.idxOf c : Nat) : Int)) := by
  have hp := head_places s c 0 h
  show first? (places s c 0) = _
  unfold places
  simp only [Nat.sub_zero, Nat.zero_add] at hp ⊢
  cases e : (List.range' 0 (s.length + 1)).filter (fun i => s[i]? == some c) with
  | nil => rw [e] at hp; cases hp
  | cons a l =>
    rw [e] at hp
    simp only [List.head?_cons, Option.some.injEq] at hp
    subst hp; rfl
theorem schemeB_le {s : Txt} (h : schemeB s = true) : 1 ≤ s.length ∧ s.length ≤ 8 := by
  unfold schemeB at h
  simp only [Bool.and_eq_true, decide_eq_true_eq] at h
  exact h.1
theorem coarser_loop {a b : Txt} (hl : a.length = b.length) : ∀ (L : List Nat) (x2 : Option D), (∀ i ∈ L, i < a.length) → ((L.all fun i => decide (a[i]? = a[b.idxOf (chA b i)]?)) = true → ∃ y2, forO (bT (.name 2)) (evSs [D_look_scheme] M_is_coarser_1) (L.map natD) [some (.str a), some (.str b), x2] = .nx [some (.str a), some (.str b), y2]) ∧
      ((L.all fun i => decide (a[i]? = a[b.idxOf (chA b i)]?)) = false → forO (bT (.name 2)) (evSs [D_look_scheme] M_is_coarser_1) (L.map natD) [some (.str a), some (.str b), x2] = .ret (.bl false))
  | [], x2, _ => ⟨fun _ => ⟨x2, rfl⟩, fun z => by cases z⟩
  | i :: L, x2, hL => by
    have hi := hL i List.mem_cons_self
    have ih := coarser_loop hl L (some (natD i)) fun j hj => hL j (List.mem_cons_of_mem _ hj)
    have hib : i < b.length := by omega
    have hm : chA b i ∈ b := List.mem_of_getElem? (chA_at hib)
    have hj : b.idxOf (chA b i) < a.length := by have := List.idxOf_lt_length_of_mem hm; omega
    have a1 := chA_at hi
    have a2 := chA_at hj
    have b1 := chA_at hib
    have ixb := idxA_s hm
    have step : evSs [D_look_scheme] M_is_coarser_1 [some (.str a), some (.str b), some (natD i)] = if chA a i = chA a (b.idxOf (chA b i)) then .nx [some (.str a), some (.str b), some (natD i)] else .ret (.bl false) := by
      simp [M_is_coarser_1, a1, a2, b1, ixb]
    rw [List.map_cons, List.all_cons]
    unfold forO
    simp only [s_bT, List.set_cons_succ, List.set_cons_zero]
    rw [step]
    by_cases he : chA a i = chA a (b.idxOf (chA b i))
    · rw [if_pos he]
      dsimp only
      have e1 : a[i]? = a[b.idxOf (chA b i)]? := by rw [a1, a2, he]
      rw [decide_eq_true e1, Bool.true_and]
      exact ih
    · rw [if_neg he]
      have e1 : ¬ a[i]? = a[b.idxOf (chA b i)]? := fun w => he (by rw [a1, a2] at w; exact Option.some.inj w)
      rw [decide_eq_false e1, Bool.false_and]
      exact ⟨fun z => (by cases z), fun _ => rfl⟩
theorem is_coarser_ok {a b : Txt} (ha : schemeB a = true) (hb : schemeB b = true) (hl : a.length = b.length) : D_is_coarser [.str a, .str b] = .ok (.bl (coarB a b)) := by
  have h8 := (schemeB_le ha).2
  have hl2 : ((b.length : Nat) : Int) = ((a.length : Nat) : Int) := by omega
  have r := rng1_ok (n := (a.length : Int)) (by omega) (by omega)
  simp only [Int.toNat_natCast] at r
  obtain ⟨l1, l2⟩ := coarser_loop hl (List.range a.length) none fun i hi => List.mem_range.mp hi
  cases hc : coarB a b with
  | true =>
    obtain ⟨y2, l0⟩ := l1 hc
    simp [D_is_coarser, M_is_coarser, look_scheme_ok ha, look_scheme_ok hb, hl2, r, l0]
  | false =>
    have l0 := l2 hc
    simp [D_is_coarser, M_is_coarser, look_scheme_ok ha, look_scheme_ok hb, hl2, r, l0]
theorem scheme_by_ok {t : Rows} (h : TabOk t) {x : D} {ws : List Wd} (hx : itemsOf x = .ok (ws.map wD)) (hi : x = tD' wD ws ∨ x = lD wD ws) (hw : ∀ w ∈ ws, wordB t w = true) (h1 : 1 ≤ ws.length) (h8 : ws.length ≤ 8) : D_scheme_by [tblD t, x] = .ok (.str (schF (ws.map (tailF t)))) := by
  have l1 : ¬ ((ws.length : Nat) : Int) < 1 := by omega
  have l2 : ¬ (8 : Int) < ((ws.length : Nat) : Int) := by omega
  let I : List Wd → Env → Prop := fun _ ρ => ∃ x2, ρ = [some (tblD t), some x, x2]
  obtain ⟨ρ', e1, y2, rfl⟩ := for_all (t := .name 2) (f := evSs [D_look_table, D_scheme_of, D_look_word, D_tail_of] M_scheme_by_1) (e := wD) I ws [some (tblD t), some x, none] ⟨none, rfl⟩ (by
    rintro pre w post hl ρ ⟨x2, rfl⟩
    refine ⟨_, rfl, _, ?_, some (wD w), rfl⟩
    have := look_word_ok h (hw w (by rw [hl]; simp))
    simp [M_scheme_by_1, this])
  have tl : ∀ w ∈ ws, D_tail_of [tblD t, wD w] = .ok (.str (tailF t w)) := fun w hm => tail_of_ok h (hw w hm)
  have so := scheme_of_ok (e := D.str) (by decide) (x := lD .str (ws.map (tailF t))) (keys := ws.map (tailF t)) rfl (by rw [List.length_map]; exact h8)
  rcases hi with rfl | rfl
  · simp +contextual -implicitDefEqProofs [-Prod.forall, D_scheme_by, M_scheme_by, look_table_ok h, e1, tl, so, l1, l2, h1, h8]
  · simp +contextual -implicitDefEqProofs [-Prod.forall, D_scheme_by, M_scheme_by, look_table_ok h, e1, tl, so, l1, l2, h1, h8]
end DL
/-! Common mathematics, F: poems and their faults. -/
namespace DL
open PySem PySem.Spec L2
@[simp] theorem s_un {Φ : List (List D → Res D)} {u : U1} {a : Ex} {ρ : Env} : ev Φ (.un u a) ρ = (ev Φ a ρ).bind u.fn := by simp only [ev]
@[simp] theorem s_bi {Φ : List (List D → Res D)} {u : B2} {a b : Ex} {ρ : Env} : ev Φ (.bi u a b) ρ = (ev Φ a ρ).bind fun x => (ev Φ b ρ).bind fun y => u.fn [x, y] := by
  simp only [ev, argsC, argsN]
  cases ev Φ a ρ <;> simp
  cases ev Φ b ρ <;> simp
@[simp] theorem b2_lz : B2.fn .lz = lzR := rfl
@[simp] theorem u1_mxv : U1.fn .mxv = maxvR := rfl
theorem lz_sl {α : Type} {g : α → D} [NoPair g] {s : Txt} {m : List α} : lzR [.str s, lD g m] = .ok (lD (pD (fun c => .str [c]) g) (s.zip m)) := by
  simp only [lzR, zip_sl, Res.bind_ok]; rfl
abbrev lnD : List Wd → D := tD' wD
abbrev poemD : List (List Wd) → D := tD' lnD
abbrev formD : Txt × List Txt → D := pD .str (tD' .str)
theorem suitsF_refl (a : Txt) : suitsF a a = true := by
  unfold suitsF
  rw [Bool.and_eq_true]
  refine ⟨decide_eq_true rfl, List.all_eq_true.mpr fun p hp => ?_⟩
  have : p.1 = p.2 := by
    obtain ⟨i, hi, e⟩ := List.mem_iff_getElem.mp hp
    rw [List.getElem_zip] at e
    rw [← e]
  simp [fitB, this]
/-! drawn tables: no more sounds than letters -/
theorem flat_map_le {t : Rows} (h : ∀ p ∈ t, p.2.length ≤ p.1.length) : ∀ (ps : List Txt), (∀ p ∈ ps, sndT t p = some (sndG t p)) → (ps.map (sndG t)).flatten.length ≤ ps.flatten.length
  | [], _ => by simp
  | p :: ps, hp => by
    have i := flat_map_le h ps fun q hq => hp q (List.mem_cons_of_mem _ hq)
    have := h _ (sndT_row (hp p List.mem_cons_self))
    simp only [List.map_cons, List.flatten_cons, List.length_append] at i ⊢
    simp only at this
    omega
theorem snd_few {t : Rows} (h : ∀ p ∈ t, p.2.length ≤ p.1.length) {w s : Txt} (e : sndF t w = some s) : s.length ≤ w.length := by
  unfold sndF at e
  obtain ⟨ps, hp, rfl⟩ := Option.map_eq_some_iff.mp e
  obtain ⟨h1, h2⟩ := parts_in _ _ _ hp
  have := flat_map_le h ps fun p hp => (h2 p hp).1
  rw [h1] at this
  exact this
theorem sgF_few {t : Rows} (dr : TabDr t) {w : Wd} (hw : wordB t w = true) : (sgF t w).length ≤ w.1.length := by
  obtain ⟨a, v, b, e, e2, _⟩ := word_parts hw
  have h1 := snd_few dr.len e
  rw [(sgF_len dr.ok hw).1, vowF_len, e2]
  exact Nat.le_trans List.countP_le_length h1
theorem beatsF_few {t : Rows} (dr : TabDr t) {k : Nat} : ∀ {l : List Wd}, (∀ w ∈ l, wordB t w = true ∧ w.1.length ≤ k) → (beatsF (sgF t) l).length ≤ k * l.length
  | [], _ => by simp [beatsF]
  | w :: l, hl => by
    have i := beatsF_few dr (l := l) fun x hx => hl x (List.mem_cons_of_mem _ hx)
    obtain ⟨h1, h2⟩ := hl w List.mem_cons_self
    have := sgF_few dr h1
    unfold beatsF at i ⊢
    rw [List.map_cons, List.flatten_cons, List.length_append, List.length_cons, Nat.mul_add]
    omega
theorem beatsF_pos {t : Rows} {l : List Wd} (hl : l ≠ []) : 1 ≤ (beatsF (sgF t) l).length := by
  cases l with
  | nil => exact absurd rfl hl
  | cons w l =>
    unfold beatsF
    rw [List.map_cons, List.flatten_cons, List.length_append]
    have := List.length_pos_iff.mpr (sgF_ne t w)
    omega
theorem beatsF_signs {t : Rows} {l : List Wd} : ∀ c ∈ beatsF (sgF t) l, c = 45 ∨ c = 47 := fun c hc => by
  unfold beatsF at hc
  obtain ⟨s, hs, hc⟩ := List.mem_flatten.mp hc
  obtain ⟨w, hw, rfl⟩ := List.mem_map.mp hs
  exact sgF_signs t w c hc
theorem beats_metre {t : Rows} (dr : TabDr t) {l : List Wd} (h1 : l ≠ []) (h3 : l.length ≤ 4) (hl : ∀ w ∈ l, wordB t w = true ∧ w.1.length ≤ 4) : metreB (beatsF (sgF t) l) = true := by
  unfold metreB
  have := beatsF_few dr hl
  have := beatsF_pos (t := t) h1
  rw [Bool.and_eq_true, Bool.and_eq_true, decide_eq_true_eq, decide_eq_true_eq]
  exact ⟨⟨by omega, by omega⟩, List.all_eq_true.mpr fun c hc => metreC_sign (beatsF_signs c hc)⟩
/-! poems -/
def poemB (t : Rows) (p : List (List Wd)) : Bool := (decide (1 ≤ p.length) && decide (p.length ≤ 8)) && p.all (lineB t)
def formB (f : Txt × List Txt) : Bool := schemeB f.1 && (decide (f.2.length = f.1.length) && f.2.all metreB)
def lastW (l : List Wd) : Wd := l.getLast?.getD ([], 0)
theorem poemB_lines {t : Rows} {p : List (List Wd)} (hp : poemB t p = true) : ∀ x ∈ p, lineB t x = true := by
  unfold poemB at hp
  rw [Bool.and_eq_true] at hp
  exact List.all_eq_true.mp hp.2
theorem last_mem {t : Rows} {x : List Wd} (h : lineB t x = true) : x.getLast? = some (lastW x) := by
  have := (lineB_ok.mp h).1
  unfold lastW
  cases e : x.getLast? with
  | none => rw [List.getLast?_eq_none_iff] at e; subst e; simp at this
  | some w => rfl
theorem last_ok {t : Rows} {x : List Wd} (h : lineB t x = true) : thereD wD x.getLast? = .ok (wD (lastW x)) := by rw [last_mem h]; rfl
theorem last_word {t : Rows} {x : List Wd} (h : lineB t x = true) : wordB t (lastW x) = true := (lineB_ok.mp h).2.2 _ (List.mem_of_getLast? (last_mem h))
section
variable {t : Rows} (h : TabOk t)
include h
theorem look_poem_ok {p : List (List Wd)} (hp : poemB t p = true) : D_look_poem [tblD t, poemD p] = .ok .non := by
  unfold poemB at hp
  rw [Bool.and_eq_true, Bool.and_eq_true, decide_eq_true_eq, decide_eq_true_eq] at hp
  obtain ⟨⟨h1, h2⟩, h3⟩ := hp
  have h1' : (1 : Int) ≤ (p.length : Int) := by omega
  have h2' : (p.length : Int) ≤ 8 := by omega
  have e := is_line_of_ok h
  have h3' : ∀ x ∈ p, lineB t x = true := List.all_eq_true.mp h3
  simp +contextual -implicitDefEqProofs [-Prod.forall, D_look_poem, M_look_poem, look_table_ok h, h1', h2', e, h3']
theorem end_words_ok {p : List (List Wd)} (hp : poemB t p = true) : D_end_words [tblD t, poemD p] = .ok (lD wD (p.map lastW)) := by
  have lk := look_poem_ok h hp
  have h5 := fun x hx => last_ok (poemB_lines hp x hx)
  simp +contextual -implicitDefEqProofs [-Prod.forall, D_end_words, M_end_words, lk, h5]
end
def againT : Txt := [97, 103, 97, 105, 110]
def rhymeT : Txt := [114, 104, 121, 109, 101]
def clashT : Txt := [99, 108, 97, 115, 104]
def metreT : Txt := [109, 101, 116, 114, 101]
def linesT : Txt := [108, 105, 110, 101, 115]
/-- what is wrong with the end of line n: c its letter, w its word, ahead what stands ahead -/
def faultF (t : Rows) (ahead : List (Nat × Wd)) (c : Nat) (w : Wd) : Option Txt :=
  if (ahead.any fun p => decide (p.2.1 = w.1)) = true then some againT
  else if (ahead.any fun p => decide (p.1 = c) && !decide (tailF t p.2 = tailF t w)) = true then some rhymeT
  else if (ahead.any fun p => !decide (p.1 = c) && decide (tailF t p.2 = tailF t w)) = true then some clashT
  else none
section
variable {t : Rows} (h : TabOk t)
include h
theorem end_fault_ok {s : Txt} {row : List Wd} (hr : ∀ w ∈ row, wordB t w = true) {n : Nat} {w : Wd} (hw : row[n]? = some w) {c : Nat} (hc : s[n]? = some c) :
    D_end_fault [tblD t, .str s, lD wD row, .int (n : Int)] = .ok (oD .str (faultF t ((s.zip row).take n) c w)) := by
  have lz := lz_sl (s := s) (m := row)  (g := wD)
  have ct := cutL_to (xs := s.zip row) (n := n)
  have ww := hr w (List.mem_of_getElem? hw)
  have tw := tail_of_ok h ww
  have ta : ∀ p ∈ (s.zip row).take n, D_tail_of [tblD t, wD p.2] = .ok (.str (tailF t p.2)) := fun p hp => tail_of_ok h (hr _ (List.of_mem_zip (List.mem_of_mem_take hp)).2)
  unfold faultF againT rhymeT clashT
  generalize hz : (s.zip row).take n = ahead at *
  cases h1 : ahead.any fun p => decide (p.2.1 = w.1) with
  | true => 
    simp +contextual -implicitDefEqProofs [-Prod.forall, D_end_fault, M_end_fault, lz, ct, hw, hc, tw, ta, h1]
    done
  | false =>
    cases h2 : ahead.any fun p => decide (p.1 = c) && !decide (tailF t p.2 = tailF t w) with
    | true =>
      simp +contextual -implicitDefEqProofs [-Prod.forall, D_end_fault, M_end_fault, lz, ct, hw, hc, tw, ta, h1, h2]
      done
    | false => 
      cases h3 : ahead.any fun p => !decide (p.1 = c) && decide (tailF t p.2 = tailF t w) with
      | true =>
        simp +contextual -implicitDefEqProofs [-Prod.forall, D_end_fault, M_end_fault, lz, ct, hw, hc, tw, ta, h1, h2, h3]
        done
      | false => 
        simp +contextual -implicitDefEqProofs [-Prod.forall, D_end_fault, M_end_fault, lz, ct, hw, hc, tw, ta, h1, h2, h3]
        done
end
def isFormE (f : Txt × List Txt) : Bool := schemeB f.1 && decide (f.2.length = f.1.length) && f.2.all metreB
theorem formB_iff {f : Txt × List Txt} : formB f = true ↔ schemeB f.1 = true ∧ f.2.length = f.1.length ∧ ∀ m ∈ f.2, metreB m = true := by
  unfold formB
  rw [Bool.and_eq_true, Bool.and_eq_true, decide_eq_true_eq, List.all_eq_true]
theorem is_form_ok (f : Txt × List Txt) : D_is_form [formD f] = .ok (.bl (formB f)) := by
  unfold formB
  cases h1 : schemeB f.1 with
  | false => simp +contextual -implicitDefEqProofs [-Prod.forall, D_is_form, M_is_form, is_scheme_ok, h1]
  | true =>
    by_cases h2 : f.2.length = f.1.length
    · have h3 : (((f.2.length : Nat) : Int) = ((f.1.length : Nat) : Int)) := by omega
      simp +contextual -implicitDefEqProofs [-Prod.forall, D_is_form, M_is_form, is_scheme_ok, h1, is_metre_ok, h2, h3, List.all_map]
      done
    · have h3 : ¬ ((f.2.length : Nat) : Int) = ((f.1.length : Nat) : Int) := by omega
      simp +contextual -implicitDefEqProofs [-Prod.forall, D_is_form, M_is_form, is_scheme_ok, h1, is_metre_ok, h2]
      exact fun z => absurd z h3
theorem look_form_ok {f : Txt × List Txt} (hf : formB f = true) : D_look_form [formD f] = .ok .non := by
  simp +contextual -implicitDefEqProofs [-Prod.forall, D_look_form, M_look_form, is_form_ok, hf]
/-- what is wrong with line k -/
def lineFa (t : Rows) (row : List Wd) (f : Txt × List Txt) (k : Nat) (l : List Wd) : List (Int × Txt) :=
  (if suitsF (beatsF (sgF t) l) (f.2.getD k []) = true then [] else [((k : Int), metreT)]) ++
  (match faultF t ((f.1.zip row).take k) (f.1.getD k 0) (row.getD k ([], 0)) with
    | none => []
    | some z => [((k : Int), z)])
theorem lineFa_len (t : Rows) (row : List Wd) (f : Txt × List Txt) (k : Nat) (l : List Wd) : (lineFa t row f k l).length ≤ 2 := by
  unfold lineFa
  rw [List.length_append]
  split <;> split <;> simp
def faultsF (t : Rows) (p : List (List Wd)) (f : Txt × List Txt) : List (Int × Txt) := (enumF p).flatMap fun q => lineFa t (p.map lastW) f q.1 q.2
theorem enumF_at {α : Type} {l : List α} {q : Nat × α} (h : q ∈ enumF l) : l[q.1]? = some q.2 := by
  unfold enumF at h
  obtain ⟨i, hi, e⟩ := List.mem_iff_getElem.mp h
  rw [List.length_zip, List.length_range, Nat.min_self] at hi
  rw [List.getElem_zip, List.getElem_range] at e
  subst e
  exact List.getElem?_eq_getElem hi
theorem enumF_len {α : Type} (l : List α) : (enumF l).length = l.length := by unfold enumF; rw [List.length_zip, List.length_range, Nat.min_self]
theorem flatMap_len {α β : Type} {f : α → List β} {k : Nat} : ∀ (l : List α), (∀ a ∈ l, (f a).length ≤ k) → (l.flatMap f).length ≤ k * l.length
  | [], _ => by simp
  | a :: l, h => by
    have i := flatMap_len l fun x hx => h x (List.mem_cons_of_mem _ hx)
    have := h a List.mem_cons_self
    rw [List.flatMap_cons, List.length_append, List.length_cons, Nat.mul_add]
    omega
section
variable {t : Rows} (h : TabOk t)
include h
theorem faults_ok {p : List (List Wd)} {f : Txt × List Txt} (hp : poemB t p = true) (hf : formB f = true) :
    D_faults [tblD t, poemD p, formD f] = .ok (lD (pD .int .str) (if p.length = f.1.length then faultsF t p f else [(0, linesT)])) := by
  have lk := look_poem_ok h hp
  have lf := look_form_ok hf
  by_cases hl : p.length = f.1.length
  · rw [if_pos hl]
    obtain ⟨f1, f2, f3⟩ := formB_iff.mp hf
    have lines := poemB_lines hp
    have p8 : p.length ≤ 8 := by rw [hl]; exact (schemeB_le f1).2
    have h5 := fun x hx => last_ok (lines x hx)
    have rw_ : ∀ w ∈ p.map lastW, wordB t w = true := fun w hw => by
      obtain ⟨x, hx, rfl⟩ := List.mem_map.mp hw
      exact last_word (lines x hx)
    let I : List (Nat × List Wd) → Env → Prop := fun pre ρ => ∃ x7 x8 x9, ρ = [some (tblD t), some (poemD p), some (formD f), some (lD wD (p.map lastW)), some (lD (pD .int .str) (pre.flatMap fun q => lineFa t (p.map lastW) f q.1 q.2)), some (.str f.1), some (tD' .str f.2), x7, x8, x9]
    obtain ⟨ρ', e1, x7, x8, x9, rfl⟩ := for_all (t := .tup (.cons (.name 7) (.cons (.name 8) .nil))) (f := evSs [D_look_poem, D_look_form, D_end_fault, D_suits, D_beats] M_faults_1) (e := pD natD lnD) I (enumF p) [some (tblD t), some (poemD p), some (formD f), some (lD wD (p.map lastW)), some (.lst []), some (.str f.1), some (tD' .str f.2), none, none, none] ⟨none, none, none, rfl⟩ (by
      rintro pre ⟨k, l⟩ post hl' ρ ⟨x7, x8, x9, rfl⟩
      refine ⟨_, by simp; rfl, ?_⟩
      have hm : (k, l) ∈ enumF p := by rw [hl']; simp
      have at_ := enumF_at hm
      simp only at at_
      have hk : k < p.length := (List.getElem?_eq_some_iff.mp at_).1
      have hll := lines l (List.mem_of_getElem? at_)
      have bt := beats_ok h hll
      obtain ⟨m, hm2⟩ : ∃ m, f.2[k]? = some m := ⟨_, List.getElem?_eq_getElem (by omega)⟩
      obtain ⟨c, hc⟩ : ∃ c, f.1[k]? = some c := ⟨_, List.getElem?_eq_getElem (by omega)⟩
      have hrow : (p.map lastW)[k]? = some (lastW l) := by rw [List.getElem?_map, at_]; rfl
      have ef := end_fault_ok h (s := f.1) rw_ hrow hc
      have plen : pre.length ≤ 8 := by
        have := congrArg List.length hl'
        rw [enumF_len, List.length_append] at this
        omega
      have fl : (pre.flatMap fun q => lineFa t (p.map lastW) f q.1 q.2).length ≤ 2 * pre.length := flatMap_len pre fun q _ => lineFa_len ..
      generalize hacc : (pre.flatMap fun q => lineFa t (p.map lastW) f q.1 q.2) = acc at fl
      have a1 := app1_l (h := pD .int .str) (l := acc) (a := ((k : Int), metreT)) (by omega)
      have nx : ((pre ++ [(k, l)]).flatMap fun q => lineFa t (p.map lastW) f q.1 q.2) = acc ++ lineFa t (p.map lastW) f k l := by
        rw [List.flatMap_append, hacc]; simp
      have e1 : f.2.getD k [] = m := by rw [List.getD_eq_getElem?_getD, hm2]; rfl
      have e2 : f.1.getD k 0 = c := by rw [List.getD_eq_getElem?_getD, hc]; rfl
      have e3 : (p.map lastW).getD k ([], 0) = lastW l := by rw [List.getD_eq_getElem?_getD, hrow]; rfl
      have nl : lineFa t (p.map lastW) f k l = (if suitsF (beatsF (sgF t) l) m = true then [] else [((k : Int), metreT)]) ++ (match faultF t ((f.1.zip (p.map lastW)).take k) c (lastW l) with | none => [] | some z => [((k : Int), z)]) := by unfold lineFa; rw [e1, e2, e3]
      generalize faultF t ((f.1.zip (p.map lastW)).take k) c (lastW l) = o at ef nl
      have a2 := fun z => app1_l (h := pD .int .str) (l := acc) (a := ((k : Int), z)) (by omega)
      have a3 := fun z => app1_l (h := pD .int .str) (l := acc ++ [((k : Int), metreT)]) (a := ((k : Int), z)) (by simp; omega)
      unfold metreT at a1 a3 nl
      refine ⟨[some (tblD t), some (poemD p), some (formD f), some (lD wD (p.map lastW)), some (lD (pD .int .str) (acc ++ lineFa t (p.map lastW) f k l)), some (.str f.1), some (tD' .str f.2), some (natD k), some (lnD l), some (oD .str o)], ?_, _, _, _, by rw [nx]⟩
      cases hs : suitsF (beatsF (sgF t) l) m with
      | true =>
        rw [hs] at nl
        cases o with
        | none => 
          simp +contextual -implicitDefEqProofs [-Prod.forall, M_faults_1, bt, hm2, suits_ok, hs, ef, nl]
          done
        | some z =>
          simp +contextual -implicitDefEqProofs [-Prod.forall, M_faults_1, bt, hm2, suits_ok, hs, ef, nl, a2]
          done
      | false =>
        rw [hs] at nl
        cases o with
        | none => 
          simp +contextual -implicitDefEqProofs [-Prod.forall, M_faults_1, bt, hm2, suits_ok, hs, ef, nl, a1]
          done
        | some z => 
          simp +contextual -implicitDefEqProofs [-Prod.forall, M_faults_1, bt, hm2, suits_ok, hs, ef, nl, a1, a3]
          done)
    have hl2 : ¬ ¬ ((p.length : Nat) : Int) = ((f.1.length : Nat) : Int) := by omega
    simp +contextual -implicitDefEqProofs [-Prod.forall, D_faults, M_faults, lk, lf, hl, h5, e1]
    rfl
  · rw [if_neg hl]
    have hl2 : ¬ ((p.length : Nat) : Int) = ((f.1.length : Nat) : Int) := by omega
    simp +contextual -implicitDefEqProofs [-Prod.forall, D_faults, M_faults, lk, lf, hl, hl2]
    rfl
end
theorem nodup_rev {α : Type} {l : List α} : l.reverse.Nodup ↔ l.Nodup := by
  unfold List.Nodup
  rw [List.pairwise_reverse]
  exact ⟨fun h => h.imp fun h => h.symm, fun h => h.imp fun h => h.symm⟩
theorem nodup_inj {α β : Type} {f : α → β} : ∀ {l : List α}, (l.map f).Nodup → ∀ u ∈ l, ∀ w ∈ l, f u = f w → u = w
  | [], _, u, hu, _, _, _ => by cases hu
  | x :: l, h, u, hu, w, hw, e => by
    rw [List.map_cons, List.nodup_cons] at h
    rcases List.mem_cons.mp hu with e1 | hu'
    · rcases List.mem_cons.mp hw with e2 | hw'
      · rw [e1, e2]
      · exact absurd (by rw [← e1, e]; exact List.mem_map.mpr ⟨w, hw', rfl⟩) h.1
    · rcases List.mem_cons.mp hw with e2 | hw'
      · exact absurd (by rw [← e2, ← e]; exact List.mem_map.mpr ⟨u, hu', rfl⟩) h.1
      · exact nodup_inj h.2 u hu' w hw' e
theorem BookOk.inj {t : Rows} {b : List Wd} (h : BookOk t b) : ∀ u ∈ b, ∀ w ∈ b, u.1 = w.1 → u = w := nodup_inj (f := Prod.fst) h.up.nodup
end DL
namespace DL
open PySem PySem.Spec L2
def M_law_k83_1 : Sms := (.cons (.asg false (.name 9) (.comp DL.ItK.rng1 (.cons (.op DL.Op2.add (.lit (.int (1))) (.call 6 3 (.cons (.var 0) (.cons (.op DL.Op2.add (.lit (.int (61))) (.var 4)) (.cons (.lit (.int (3))) .nil))))) .nil) [10] (.name 10) (.lit (.bl true)) (.call 6 3 (.cons (.var 0) (.cons (.op DL.Op2.add (.op DL.Op2.add (.lit (.int (70))) (.op DL.Op2.mul (.lit (.int (4))) (.var 4))) (.var 10)) (.cons (.blt DL.Blt.len (.cons (.var 2) .nil)) .nil)))))) (.cons (.asg false (.name 3) (.op DL.Op2.add (.var 3) (.tup (.cons (.blt DL.Blt.tuple (.cons (.comp DL.ItK.val (.cons (.var 9) .nil) [12] (.name 12) (.lit (.bl true)) (.op DL.Op2.ix (.var 2) (.var 12))) .nil)) .nil)))) .nil))
def M_law_k83 : Sms := (.cons (.asg false (.name 1) (.call 0 2 (.cons (.var 0) (.cons (.lit (.int (10))) .nil)))) (.cons (.asg false (.name 2) (.call 1 4 (.cons (.var 0) (.cons (.lit (.int (100))) (.cons (.var 1) (.cons (.lit (.int (9))) .nil)))))) (.cons (.ite (.op DL.Op2.eq (.var 2) (.tup .nil)) (.cons (.ret (.lit (.bl true))) .nil) .nil) (.cons (.asg false (.name 3) (.tup .nil)) (.cons (.for_ DL.ItK.rng1 (.cons (.op DL.Op2.add (.lit (.int (1))) (.call 6 3 (.cons (.var 0) (.cons (.lit (.int (60))) (.cons (.lit (.int (4))) .nil))))) .nil) (.name 4) M_law_k83_1) (.cons (.asg false (.name 5) (.call 2 2 (.cons (.var 1) (.cons (.var 3) .nil)))) (.cons (.asg false (.name 6) (.call 3 2 (.cons (.var 1) (.cons (.var 5) .nil)))) (.cons (.asg false (.name 7) (.tup (.cons (.var 6) (.cons (.blt DL.Blt.tuple (.cons (.comp DL.ItK.val (.cons (.var 3) .nil) [11] (.name 11) (.lit (.bl true)) (.call 7 2 (.cons (.var 1) (.cons (.var 11) .nil)))) .nil)) .nil)))) (.cons (.asg false (.name 8) (.call 4 3 (.cons (.var 1) (.cons (.var 3) (.cons (.var 7) .nil))))) (.cons (.ite (.op DL.Op2.ne (.var 8) (.comp DL.ItK.rng1 (.cons (.blt DL.Blt.len (.cons (.var 5) .nil)) .nil) [4] (.name 4) (.op DL.Op2.inn (.op DL.Op2.ix (.var 5) (.var 4)) (.slice (.var 5) .nil (.cons (.var 4) .nil))) (.tup (.cons (.var 4) (.cons (.lit (.str [97, 103, 97, 105, 110])) .nil))))) (.cons (.ret (.lit (.bl false))) .nil) .nil) (.cons (.ite (.op DL.Op2.ne (.call 5 3 (.cons (.var 1) (.cons (.var 3) (.cons (.var 7) .nil)))) (.op DL.Op2.eq (.var 8) (.lst .nil))) (.cons (.ret (.lit (.bl false))) .nil) .nil) (.cons (.ret (.op DL.Op2.eq (.call 5 3 (.cons (.var 1) (.cons (.rev (.var 3)) (.cons (.tup (.cons (.call 8 1 (.cons (.var 6) .nil)) (.cons (.rev (.op DL.Op2.ix (.var 7) (.lit (.int (1))))) .nil))) .nil)))) (.op DL.Op2.eq (.var 8) (.lst .nil)))) .nil))))))))))))
def D_law_k83 : List D → Res D := run [D__law_table, D__law_rich_book, D_end_words, D_scheme_by, D_faults, D_fits, D__law_pick, D_beats, D_backwards] M_law_k83 13
end DL
namespace Hd
open PySem PySem.Spec PyProof.Rows L2
def topS (i : Nat) : Stmt := PySem.Challenge.pw_verseends_k83_whole_poems_by_schemes.main.body.getD i (.Pass ⟨0, 0, 0, 0⟩)
abbrev s_is_letters : Stmt := topS 16
abbrev s_is_row : Stmt := topS 17
abbrev s_is_table : Stmt := topS 18
abbrev s_look_table : Stmt := topS 19
abbrev s_parts_of : Stmt := topS 20
abbrev s_sounds_of : Stmt := topS 21
abbrev s_vowels_in : Stmt := topS 22
abbrev s_is_word_of : Stmt := topS 23
abbrev s_is_word : Stmt := topS 24
abbrev s_look_word : Stmt := topS 25
abbrev s_stress_at : Stmt := topS 27
abbrev s_tail_of : Stmt := topS 28
abbrev s_is_line_of : Stmt := topS 35
abbrev s_is_line : Stmt := topS 36
abbrev s_look_line : Stmt := topS 37
abbrev s_is_metre : Stmt := topS 38
abbrev s_word_beats : Stmt := topS 39
abbrev s_beats : Stmt := topS 40
abbrev s_suits : Stmt := topS 41
abbrev s_is_scheme : Stmt := topS 45
abbrev s_look_scheme : Stmt := topS 46
abbrev s_scheme_of : Stmt := topS 47
abbrev s_scheme_by : Stmt := topS 48
abbrev s_backwards : Stmt := topS 49
abbrev s_look_poem : Stmt := topS 52
abbrev s_is_form : Stmt := topS 53
abbrev s_look_form : Stmt := topS 54
abbrev s_end_words : Stmt := topS 55
abbrev s_end_fault : Stmt := topS 56
abbrev s_faults : Stmt := topS 57
abbrev s_fits : Stmt := topS 58
abbrev s__law_cell : Stmt := topS 60
abbrev s__law_pick : Stmt := topS 61
abbrev s__law_table : Stmt := topS 62
abbrev s__law_parts : Stmt := topS 63
abbrev s__law_sounds : Stmt := topS 64
abbrev s__law_is_letters : Stmt := topS 65
abbrev s__law_is_word : Stmt := topS 66
abbrev s__law_letters : Stmt := topS 67
abbrev s__law_book : Stmt := topS 68
abbrev s__law_rich_book : Stmt := topS 69
abbrev s_law : Stmt := topS 70
def fn : List He.DefD :=
  [⟨("is_letters", none), "is_letters", "is_letters", defArgs s_is_letters, defBody s_is_letters, defScope s_is_letters, [], []⟩,
   ⟨("is_row", none), "is_row", "is_row", defArgs s_is_row, defBody s_is_row, defScope s_is_row, [], []⟩,
   ⟨("is_table", none), "is_table", "is_table", defArgs s_is_table, defBody s_is_table, defScope s_is_table, [], []⟩,
   ⟨("look_table", none), "look_table", "look_table", defArgs s_look_table, defBody s_look_table, defScope s_look_table, [], []⟩,
   ⟨("parts_of", none), "parts_of", "parts_of", defArgs s_parts_of, defBody s_parts_of, defScope s_parts_of, [], []⟩,
   ⟨("sounds_of", none), "sounds_of", "sounds_of", defArgs s_sounds_of, defBody s_sounds_of, defScope s_sounds_of, [], []⟩,
   ⟨("vowels_in", none), "vowels_in", "vowels_in", defArgs s_vowels_in, defBody s_vowels_in, defScope s_vowels_in, [], []⟩,
   ⟨("is_word_of", none), "is_word_of", "is_word_of", defArgs s_is_word_of, defBody s_is_word_of, defScope s_is_word_of, [], []⟩,
   ⟨("is_word", none), "is_word", "is_word", defArgs s_is_word, defBody s_is_word, defScope s_is_word, [], []⟩,
   ⟨("look_word", none), "look_word", "look_word", defArgs s_look_word, defBody s_look_word, defScope s_look_word, [], []⟩,
   ⟨("stress_at", none), "stress_at", "stress_at", defArgs s_stress_at, defBody s_stress_at, defScope s_stress_at, [], []⟩,
   ⟨("tail_of", none), "tail_of", "tail_of", defArgs s_tail_of, defBody s_tail_of, defScope s_tail_of, [], []⟩,
   ⟨("is_line_of", none), "is_line_of", "is_line_of", defArgs s_is_line_of, defBody s_is_line_of, defScope s_is_line_of, [], []⟩,
   ⟨("is_line", none), "is_line", "is_line", defArgs s_is_line, defBody s_is_line, defScope s_is_line, [], []⟩,
   ⟨("look_line", none), "look_line", "look_line", defArgs s_look_line, defBody s_look_line, defScope s_look_line, [], []⟩,
   ⟨("is_metre", none), "is_metre", "is_metre", defArgs s_is_metre, defBody s_is_metre, defScope s_is_metre, [], []⟩,
   ⟨("word_beats", none), "word_beats", "word_beats", defArgs s_word_beats, defBody s_word_beats, defScope s_word_beats, [], []⟩,
   ⟨("beats", none), "beats", "beats", defArgs s_beats, defBody s_beats, defScope s_beats, [], []⟩,
   ⟨("suits", none), "suits", "suits", defArgs s_suits, defBody s_suits, defScope s_suits, [], []⟩,
   ⟨("is_scheme", none), "is_scheme", "is_scheme", defArgs s_is_scheme, defBody s_is_scheme, defScope s_is_scheme, [], []⟩] ++
  [⟨("look_scheme", none), "look_scheme", "look_scheme", defArgs s_look_scheme, defBody s_look_scheme, defScope s_look_scheme, [], []⟩,
   ⟨("scheme_of", none), "scheme_of", "scheme_of", defArgs s_scheme_of, defBody s_scheme_of, defScope s_scheme_of, [], []⟩,
   ⟨("scheme_by", none), "scheme_by", "scheme_by", defArgs s_scheme_by, defBody s_scheme_by, defScope s_scheme_by, [], []⟩,
   ⟨("backwards", none), "backwards", "backwards", defArgs s_backwards, defBody s_backwards, defScope s_backwards, [], []⟩,
   ⟨("look_poem", none), "look_poem", "look_poem", defArgs s_look_poem, defBody s_look_poem, defScope s_look_poem, [], []⟩,
   ⟨("is_form", none), "is_form", "is_form", defArgs s_is_form, defBody s_is_form, defScope s_is_form, [], []⟩,
   ⟨("look_form", none), "look_form", "look_form", defArgs s_look_form, defBody s_look_form, defScope s_look_form, [], []⟩,
   ⟨("end_words", none), "end_words", "end_words", defArgs s_end_words, defBody s_end_words, defScope s_end_words, [], []⟩,
   ⟨("end_fault", none), "end_fault", "end_fault", defArgs s_end_fault, defBody s_end_fault, defScope s_end_fault, [], []⟩,
   ⟨("faults", none), "faults", "faults", defArgs s_faults, defBody s_faults, defScope s_faults, [], []⟩,
   ⟨("fits", none), "fits", "fits", defArgs s_fits, defBody s_fits, defScope s_fits, [], []⟩,
   ⟨("_law_cell", none), "_law_cell", "_law_cell", defArgs s__law_cell, defBody s__law_cell, defScope s__law_cell, [], []⟩,
   ⟨("_law_pick", none), "_law_pick", "_law_pick", defArgs s__law_pick, defBody s__law_pick, defScope s__law_pick, [], []⟩,
   ⟨("_law_table", none), "_law_table", "_law_table", defArgs s__law_table, defBody s__law_table, defScope s__law_table, [], []⟩,
   ⟨("_law_parts", none), "_law_parts", "_law_parts", defArgs s__law_parts, defBody s__law_parts, defScope s__law_parts, [], []⟩,
   ⟨("_law_sounds", none), "_law_sounds", "_law_sounds", defArgs s__law_sounds, defBody s__law_sounds, defScope s__law_sounds, [], []⟩,
   ⟨("_law_is_letters", none), "_law_is_letters", "_law_is_letters", defArgs s__law_is_letters, defBody s__law_is_letters, defScope s__law_is_letters, [], []⟩,
   ⟨("_law_is_word", none), "_law_is_word", "_law_is_word", defArgs s__law_is_word, defBody s__law_is_word, defScope s__law_is_word, [], []⟩,
   ⟨("_law_letters", none), "_law_letters", "_law_letters", defArgs s__law_letters, defBody s__law_letters, defScope s__law_letters, [], []⟩,
   ⟨("_law_book", none), "_law_book", "_law_book", defArgs s__law_book, defBody s__law_book, defScope s__law_book, [], []⟩] ++
  [⟨("_law_rich_book", none), "_law_rich_book", "_law_rich_book", defArgs s__law_rich_book, defBody s__law_rich_book, defScope s__law_rich_book, [], []⟩,
   ⟨("law", none), "law", "law", defArgs s_law, defBody s_law, defScope s_law, [], []⟩]
def frees : List Str := (["ValueError", "dict", "all", "len", "any", "enumerate", "range", "tuple", "isinstance", "str", "sorted", "bool", "max", "list", "set", "int", "zip", "min"] : List Str)
def globs : List Str := (["VerseError", "NoTable", "NoWord", "NoScheme", "NoNumber", "NoLine", "NoPoem", "NoForm", "is_letters", "is_row", "is_table", "look_table", "parts_of", "sounds_of", "vowels_in", "is_word_of", "is_word", "look_word", "stress_at", "tail_of", "is_line_of", "is_line", "look_line", "is_metre", "word_beats", "beats", "suits", "is_scheme", "look_scheme", "scheme_of"] : List Str) ++ (["scheme_by", "backwards", "look_poem", "is_form", "look_form", "end_words", "end_fault", "faults", "fits", "_law_cell", "_law_pick", "_law_table", "_law_parts", "_law_sounds", "_law_is_letters", "_law_is_word", "_law_letters", "_law_book", "_law_rich_book", "law"] : List Str)
def excs : List Str := (["VerseError", "NoTable", "NoWord", "NoScheme", "NoNumber", "NoLine", "NoPoem", "NoForm"] : List Str)
def strsL : List (Str × Str) := [("SMALL", "abcdefghijklmnopqrstuvwxyz"), ("VOWELS", "AEIOU"), ("OTHERS", "BDFGKLMNPRSTVZ"), ("STRESSED", "/"), ("PLAIN", "-"), ("EITHER", "?"), ("GREAT", "ABCDEFGH")]
def numsL : List (Str × Int) := [("MOST_ROWS", 20), ("LONGEST", 10), ("FARTHEST", 3), ("MOST_IN_LINE", 6), ("LONGEST_METRE", 16), ("MOST_LINES_schemes", 8), ("MOST_LINES_poems", 8)]
def rest : List He.Fa :=
  [.exm "VerseError" "VerseError" true, .exm "NoTable" "VerseError" true, .exm "NoWord" "VerseError" true, .exm "NoScheme" "VerseError" true, .exm "NoNumber" "VerseError" true, .exm "NoLine" "VerseError" true, .exm "NoPoem" "VerseError" true, .exm "NoForm" "VerseError" true]
def fa : List He.Fa := frees.map He.Fa.free ++ (globs.map He.Fa.glo ++ (excs.map He.Fa.exc ++ (strsL.map (fun p => He.Fa.str p.1 p.2) ++ (numsL.map (fun p => He.Fa.int p.1 p.2) ++ rest))))
def tups : List (Str × List Str) := []
def ex (K : PySem.W.Frag) : Bool := tups.all fun p => DL.tupN K p.1 p.2
def loose : List Str := (["VerseError", "NoTable", "NoWord", "NoScheme", "NoNumber", "NoLine", "NoPoem", "NoForm", "SMALL", "VOWELS", "OTHERS", "MOST_ROWS", "LONGEST", "FARTHEST", "is_letters", "is_row", "is_table", "look_table", "parts_of", "sounds_of", "vowels_in", "is_word_of", "is_word", "look_word", "stress_at", "tail_of", "MOST_IN_LINE", "LONGEST_METRE", "STRESSED", "PLAIN"] : List Str) ++ (["EITHER", "is_line_of", "is_line", "look_line", "is_metre", "word_beats", "beats", "suits", "GREAT", "MOST_LINES_schemes", "is_scheme", "look_scheme", "scheme_of", "scheme_by", "backwards", "MOST_LINES_poems", "look_poem", "is_form", "look_form", "end_words", "end_fault", "faults", "fits", "_law_cell", "_law_pick", "_law_table", "_law_parts", "_law_sounds", "_law_is_letters", "_law_is_word"] : List Str) ++ (["_law_letters", "_law_book", "_law_rich_book"] : List Str)
abbrev R : PySem.W.OpenRow := PySem.W.OpenLaw.row PySem.Challenge.rw_verseends_k83_whole_poems_by_schemes
abbrev hk : PySem.W.Hook := He.hookX 5 fa fn [] [] ex
def ob (s : PySem.W.SharedT) : He.AlX := He.obsX 5 fa fn [] [] ex (HandSHeadRun.getT s)
theorem ob_eq (s : PySem.W.SharedT) : ob s = hk.obs s.abs := He.obsX_eq (HandSHeadRun.getT_eq s)
theorem run (w : World) : HandSHeadRun.RunEq R (PySem.W.view R.prog [70]) hk ob 6000 loose w := by
  intro os
  kernel_rfl
end Hd
namespace Wk
open PySem PySem.Spec L2 DL
abbrev g__law_cell : Gam := ⟨(["_law_script", "_law_k"] : List Str), defScope Hd.s__law_cell, [], consts Hd.strsL Hd.numsL, Hd.frees, false, (defScope Hd.s__law_cell).names, Hd.excs, Hd.tups⟩
abbrev o__law_cell : Opt := ⟨[], [], [], 1000⟩
abbrev g__law_pick : Gam := ⟨(["_law_script", "_law_k", "_law_many", "_law_drawn"] : List Str), defScope Hd.s__law_pick, [("_law_cell", 2)], consts Hd.strsL Hd.numsL, Hd.frees, false, (defScope Hd.s__law_pick).names, Hd.excs, Hd.tups⟩
abbrev o__law_pick : Opt := ⟨[], [], [], 1000⟩
abbrev g__law_table : Gam := ⟨(["_law_script", "_law_at", "_law_made", "_law_k", "_law_letter", "_law_some", "_law_letters_here"] : List Str), defScope Hd.s__law_table, [("_law_pick", 3)], consts Hd.strsL Hd.numsL, Hd.frees, false, (defScope Hd.s__law_table).names, Hd.excs, Hd.tups⟩
abbrev o__law_table : Opt := ⟨[], [2], [], 1000⟩
abbrev g__law_parts : Gam := ⟨(["_law_table_here", "_law_word", "_law_made", "_law_some", "_law_best", "_law_row", "_law_part"] : List Str), defScope Hd.s__law_parts, [], consts Hd.strsL Hd.numsL, Hd.frees, false, (defScope Hd.s__law_parts).names, Hd.excs, Hd.tups⟩
abbrev o__law_parts : Opt := ⟨[2], [], [], 1000⟩
abbrev g__law_sounds : Gam := ⟨(["_law_table_here", "_law_letters_here", "_law_some", "_law_part", "_law_row"] : List Str), defScope Hd.s__law_sounds, [("_law_parts", 2)], consts Hd.strsL Hd.numsL, Hd.frees, false, (defScope Hd.s__law_sounds).names, Hd.excs, Hd.tups⟩
abbrev o__law_sounds : Opt := ⟨[], [], [], 1000⟩
abbrev g__law_is_letters : Gam := ⟨(["_law_thing", "_law_most", "_law_sign"] : List Str), defScope Hd.s__law_is_letters, [], consts Hd.strsL Hd.numsL, Hd.frees, false, (defScope Hd.s__law_is_letters).names, Hd.excs, Hd.tups⟩
abbrev o__law_is_letters : Opt := ⟨[], [], [], 1000⟩
abbrev g__law_is_word : Gam := ⟨(["_law_table_here", "_law_thing", "_law_made", "_law_sign"] : List Str), defScope Hd.s__law_is_word, [("_law_sounds", 2), ("_law_is_letters", 2)], consts Hd.strsL Hd.numsL, Hd.frees, false, (defScope Hd.s__law_is_word).names, Hd.excs, Hd.tups⟩
abbrev o__law_is_word : Opt := ⟨[], [], [], 1000⟩
abbrev g__law_rich_book : Gam := ⟨(["_law_script", "_law_at", "_law_table_here", "_law_most", "_law_made", "_law_k", "_law_rime", "_law_letters_here", "_law_word"] : List Str), defScope Hd.s__law_rich_book, [("_law_is_word", 2), ("_law_pick", 3)], consts Hd.strsL Hd.numsL, Hd.frees, false, (defScope Hd.s__law_rich_book).names, Hd.excs, Hd.tups⟩
abbrev o__law_rich_book : Opt := ⟨[], [4], [], 1000⟩
abbrev g_is_letters : Gam := ⟨(["thing", "least", "most", "sign"] : List Str), defScope Hd.s_is_letters, [], consts Hd.strsL Hd.numsL, Hd.frees, false, (defScope Hd.s_is_letters).names, Hd.excs, Hd.tups⟩
abbrev o_is_letters : Opt := ⟨[], [], [], 1000⟩
abbrev g_is_row : Gam := ⟨(["thing", "sign"] : List Str), defScope Hd.s_is_row, [("is_letters", 3)], consts Hd.strsL Hd.numsL, Hd.frees, false, (defScope Hd.s_is_row).names, Hd.excs, Hd.tups⟩
abbrev o_is_row : Opt := ⟨[], [], [], 1000⟩
abbrev g_is_table : Gam := ⟨(["thing", "some", "row"] : List Str), defScope Hd.s_is_table, [("is_row", 1)], consts Hd.strsL Hd.numsL, Hd.frees, false, (defScope Hd.s_is_table).names, Hd.excs, Hd.tups⟩
abbrev o_is_table : Opt := ⟨[], [], [], 1000⟩
abbrev g_look_table : Gam := ⟨(["table"] : List Str), defScope Hd.s_look_table, [("is_table", 1)], consts Hd.strsL Hd.numsL, Hd.frees, false, (defScope Hd.s_look_table).names, Hd.excs, Hd.tups⟩
abbrev o_look_table : Opt := ⟨[], [], [], 1000⟩
abbrev g_parts_of : Gam := ⟨(["table", "word", "book", "made", "at", "some", "long"] : List Str), defScope Hd.s_parts_of, [], consts Hd.strsL Hd.numsL, Hd.frees, false, (defScope Hd.s_parts_of).names, Hd.excs, Hd.tups⟩
abbrev o_parts_of : Opt := ⟨[3], [], [], 1000⟩
abbrev g_sounds_of : Gam := ⟨(["table", "word", "some", "part"] : List Str), defScope Hd.s_sounds_of, [("parts_of", 2)], consts Hd.strsL Hd.numsL, Hd.frees, false, (defScope Hd.s_sounds_of).names, Hd.excs, Hd.tups⟩
abbrev o_sounds_of : Opt := ⟨[], [], [], 1000⟩
abbrev g_vowels_in : Gam := ⟨(["some", "place", "sign"] : List Str), defScope Hd.s_vowels_in, [], consts Hd.strsL Hd.numsL, Hd.frees, false, (defScope Hd.s_vowels_in).names, Hd.excs, Hd.tups⟩
abbrev o_vowels_in : Opt := ⟨[], [], [], 1000⟩
abbrev g_is_word_of : Gam := ⟨(["table", "thing", "made"] : List Str), defScope Hd.s_is_word_of, [("sounds_of", 2), ("is_letters", 3), ("vowels_in", 1)], consts Hd.strsL Hd.numsL, Hd.frees, false, (defScope Hd.s_is_word_of).names, Hd.excs, Hd.tups⟩
abbrev o_is_word_of : Opt := ⟨[], [], [], 1000⟩
abbrev g_is_line_of : Gam := ⟨(["table", "thing", "word"] : List Str), defScope Hd.s_is_line_of, [("is_word_of", 2)], consts Hd.strsL Hd.numsL, Hd.frees, false, (defScope Hd.s_is_line_of).names, Hd.excs, Hd.tups⟩
abbrev o_is_line_of : Opt := ⟨[], [], [], 1000⟩
abbrev g_look_poem : Gam := ⟨(["table", "poem", "line"] : List Str), defScope Hd.s_look_poem, [("look_table", 1), ("is_line_of", 2)], consts Hd.strsL Hd.numsL, Hd.frees, false, (defScope Hd.s_look_poem).names, Hd.excs, Hd.tups⟩
abbrev o_look_poem : Opt := ⟨[], [], [], 1000⟩
abbrev g_end_words : Gam := ⟨(["table", "poem", "line"] : List Str), defScope Hd.s_end_words, [("look_poem", 2)], consts Hd.strsL Hd.numsL, Hd.frees, false, (defScope Hd.s_end_words).names, Hd.excs, Hd.tups⟩
abbrev o_end_words : Opt := ⟨[], [], [], 1000⟩
abbrev g_scheme_of : Gam := ⟨(["keys", "seen", "made", "key"] : List Str), defScope Hd.s_scheme_of, [], consts Hd.strsL Hd.numsL, Hd.frees, false, (defScope Hd.s_scheme_of).names, Hd.excs, Hd.tups⟩
abbrev o_scheme_of : Opt := ⟨[1], [], [], 1000⟩
abbrev g_is_word : Gam := ⟨(["table", "thing"] : List Str), defScope Hd.s_is_word, [("look_table", 1), ("is_word_of", 2)], consts Hd.strsL Hd.numsL, Hd.frees, false, (defScope Hd.s_is_word).names, Hd.excs, Hd.tups⟩
abbrev o_is_word : Opt := ⟨[], [], [], 1000⟩
abbrev g_look_word : Gam := ⟨(["table", "word"] : List Str), defScope Hd.s_look_word, [("is_word", 2)], consts Hd.strsL Hd.numsL, Hd.frees, false, (defScope Hd.s_look_word).names, Hd.excs, Hd.tups⟩
abbrev o_look_word : Opt := ⟨[], [], [], 1000⟩
abbrev g_stress_at : Gam := ⟨(["made", "stress", "some"] : List Str), defScope Hd.s_stress_at, [("vowels_in", 1)], consts Hd.strsL Hd.numsL, Hd.frees, false, (defScope Hd.s_stress_at).names, Hd.excs, Hd.tups⟩
abbrev o_stress_at : Opt := ⟨[], [], [], 1000⟩
abbrev g_tail_of : Gam := ⟨(["table", "word", "made"] : List Str), defScope Hd.s_tail_of, [("sounds_of", 2), ("stress_at", 2)], consts Hd.strsL Hd.numsL, Hd.frees, false, (defScope Hd.s_tail_of).names, Hd.excs, Hd.tups⟩
abbrev o_tail_of : Opt := ⟨[], [], [], 1000⟩
abbrev g_scheme_by : Gam := ⟨(["table", "words", "word"] : List Str), defScope Hd.s_scheme_by, [("look_table", 1), ("scheme_of", 1), ("look_word", 2), ("tail_of", 2)], consts Hd.strsL Hd.numsL, Hd.frees, false, (defScope Hd.s_scheme_by).names, Hd.excs, Hd.tups⟩
abbrev o_scheme_by : Opt := ⟨[], [], [], 1000⟩
abbrev g_is_scheme : Gam := ⟨(["thing", "known", "sign"] : List Str), defScope Hd.s_is_scheme, [], consts Hd.strsL Hd.numsL, Hd.frees, false, (defScope Hd.s_is_scheme).names, Hd.excs, Hd.tups⟩
abbrev o_is_scheme : Opt := ⟨[], [], [], 1000⟩
abbrev g_is_metre : Gam := ⟨(["thing", "sign"] : List Str), defScope Hd.s_is_metre, [], consts Hd.strsL Hd.numsL, Hd.frees, false, (defScope Hd.s_is_metre).names, Hd.excs, Hd.tups⟩
abbrev o_is_metre : Opt := ⟨[], [], [], 1000⟩
abbrev g_is_form : Gam := ⟨(["thing", "metre"] : List Str), defScope Hd.s_is_form, [("is_scheme", 1), ("is_metre", 1)], consts Hd.strsL Hd.numsL, Hd.frees, false, (defScope Hd.s_is_form).names, Hd.excs, Hd.tups⟩
abbrev o_is_form : Opt := ⟨[], [], [], 1000⟩
abbrev g_look_form : Gam := ⟨(["form"] : List Str), defScope Hd.s_look_form, [("is_form", 1)], consts Hd.strsL Hd.numsL, Hd.frees, false, (defScope Hd.s_look_form).names, Hd.excs, Hd.tups⟩
abbrev o_look_form : Opt := ⟨[], [], [], 1000⟩
abbrev g_end_fault : Gam := ⟨(["table", "scheme", "rows", "number", "word", "ahead", "tail", "sign", "one"] : List Str), defScope Hd.s_end_fault, [("tail_of", 2)], consts Hd.strsL Hd.numsL, Hd.frees, false, (defScope Hd.s_end_fault).names, Hd.excs, Hd.tups⟩
abbrev o_end_fault : Opt := ⟨[], [], [], 1000⟩
abbrev g_suits : Gam := ⟨(["made", "metre", "one", "here"] : List Str), defScope Hd.s_suits, [], consts Hd.strsL Hd.numsL, Hd.frees, false, (defScope Hd.s_suits).names, Hd.excs, Hd.tups⟩
abbrev o_suits : Opt := ⟨[], [], [], 1000⟩
abbrev g_is_line : Gam := ⟨(["table", "thing"] : List Str), defScope Hd.s_is_line, [("look_table", 1), ("is_line_of", 2)], consts Hd.strsL Hd.numsL, Hd.frees, false, (defScope Hd.s_is_line).names, Hd.excs, Hd.tups⟩
abbrev o_is_line : Opt := ⟨[], [], [], 1000⟩
abbrev g_look_line : Gam := ⟨(["table", "line"] : List Str), defScope Hd.s_look_line, [("is_line", 2)], consts Hd.strsL Hd.numsL, Hd.frees, false, (defScope Hd.s_look_line).names, Hd.excs, Hd.tups⟩
abbrev o_look_line : Opt := ⟨[], [], [], 1000⟩
abbrev g_word_beats : Gam := ⟨(["table", "word", "many"] : List Str), defScope Hd.s_word_beats, [("vowels_in", 1), ("sounds_of", 2)], consts Hd.strsL Hd.numsL, Hd.frees, false, (defScope Hd.s_word_beats).names, Hd.excs, Hd.tups⟩
abbrev o_word_beats : Opt := ⟨[], [], [], 1000⟩
abbrev g_beats : Gam := ⟨(["table", "line", "word"] : List Str), defScope Hd.s_beats, [("look_line", 2), ("word_beats", 2)], consts Hd.strsL Hd.numsL, Hd.frees, false, (defScope Hd.s_beats).names, Hd.excs, Hd.tups⟩
abbrev o_beats : Opt := ⟨[], [], [], 1000⟩
abbrev g_faults : Gam := ⟨(["table", "poem", "form", "rows", "made", "scheme", "metres", "number", "line", "word"] : List Str), defScope Hd.s_faults, [("look_poem", 2), ("look_form", 1), ("end_fault", 4), ("suits", 2), ("beats", 2)], consts Hd.strsL Hd.numsL, Hd.frees, false, (defScope Hd.s_faults).names, Hd.excs, Hd.tups⟩
abbrev o_faults : Opt := ⟨[4], [], [], 1000⟩
abbrev g_fits : Gam := ⟨(["table", "poem", "form"] : List Str), defScope Hd.s_fits, [("faults", 3)], consts Hd.strsL Hd.numsL, Hd.frees, false, (defScope Hd.s_fits).names, Hd.excs, Hd.tups⟩
abbrev o_fits : Opt := ⟨[], [], [], 1000⟩
abbrev g_look_scheme : Gam := ⟨(["scheme"] : List Str), defScope Hd.s_look_scheme, [("is_scheme", 1)], consts Hd.strsL Hd.numsL, Hd.frees, false, (defScope Hd.s_look_scheme).names, Hd.excs, Hd.tups⟩
abbrev o_look_scheme : Opt := ⟨[], [], [], 1000⟩
abbrev g_backwards : Gam := ⟨(["scheme"] : List Str), defScope Hd.s_backwards, [("look_scheme", 1), ("scheme_of", 1)], consts Hd.strsL Hd.numsL, Hd.frees, false, (defScope Hd.s_backwards).names, Hd.excs, Hd.tups⟩
abbrev o_backwards : Opt := ⟨[], [], [], 1000⟩
abbrev g_law : Gam := ⟨(["_law_script", "_law_table_here", "_law_book_here", "_law_poem", "_law_k", "_law_row", "_law_scheme", "_law_form", "_law_some", "_law_places", "_law_j", "_law_line", "_law_at"] : List Str), defScope Hd.s_law, [("_law_table", 2), ("_law_rich_book", 4), ("end_words", 2), ("scheme_by", 2), ("faults", 3), ("fits", 3), ("_law_pick", 3), ("beats", 2), ("backwards", 1)], consts Hd.strsL Hd.numsL, Hd.frees, false, (defScope Hd.s_law).names, Hd.excs, Hd.tups⟩
abbrev o_law : Opt := ⟨[], [], [], 1000⟩
theorem c__law_cell : cSs 60 g__law_cell o__law_cell ⟨[], [], none⟩ [] [] (defBody Hd.s__law_cell) = some (M__law_cell, none) := by kernel_rfl
abbrev den__law_cell : List D → Res D := D__law_cell
theorem c__law_pick : cSs 60 g__law_pick o__law_pick ⟨[], [], none⟩ [] [] (defBody Hd.s__law_pick) = some (M__law_pick, none) := by kernel_rfl
abbrev den__law_pick : List D → Res D := D__law_pick
theorem c__law_table : cSs 60 g__law_table o__law_table ⟨[], [], none⟩ [] [] (defBody Hd.s__law_table) = some (M__law_table, none) := by kernel_rfl
abbrev den__law_table : List D → Res D := D__law_table
theorem c__law_parts : cSs 60 g__law_parts o__law_parts ⟨[], [], none⟩ [] [] (defBody Hd.s__law_parts) = some (M__law_parts, none) := by kernel_rfl
abbrev den__law_parts : List D → Res D := D__law_parts
theorem c__law_sounds : cSs 60 g__law_sounds o__law_sounds ⟨[], [], none⟩ [] [] (defBody Hd.s__law_sounds) = some (M__law_sounds, none) := by kernel_rfl
abbrev den__law_sounds : List D → Res D := D__law_sounds
theorem c__law_is_letters : cSs 60 g__law_is_letters o__law_is_letters ⟨[], [], none⟩ [] [] (defBody Hd.s__law_is_letters) = some (M__law_is_letters, none) := by kernel_rfl
abbrev den__law_is_letters : List D → Res D := D__law_is_letters
theorem c__law_is_word : cSs 60 g__law_is_word o__law_is_word ⟨[], [], none⟩ [] [] (defBody Hd.s__law_is_word) = some (M__law_is_word, none) := by kernel_rfl
abbrev den__law_is_word : List D → Res D := D__law_is_word
theorem c__law_rich_book : cSs 60 g__law_rich_book o__law_rich_book ⟨[], [], none⟩ [] [] (defBody Hd.s__law_rich_book) = some (M__law_rich_book, none) := by kernel_rfl
abbrev den__law_rich_book : List D → Res D := D__law_rich_book
theorem c_is_letters : cSs 60 g_is_letters o_is_letters ⟨[], [], none⟩ [] [] (defBody Hd.s_is_letters) = some (M_is_letters, none) := by kernel_rfl
abbrev den_is_letters : List D → Res D := D_is_letters
theorem c_is_row : cSs 60 g_is_row o_is_row ⟨[], [], none⟩ [] [] (defBody Hd.s_is_row) = some (M_is_row, none) := by kernel_rfl
abbrev den_is_row : List D → Res D := D_is_row
theorem c_is_table : cSs 60 g_is_table o_is_table ⟨[], [], none⟩ [] [] (defBody Hd.s_is_table) = some (M_is_table, none) := by kernel_rfl
abbrev den_is_table : List D → Res D := D_is_table
theorem c_look_table : cSs 60 g_look_table o_look_table ⟨[], [], none⟩ [] [] (defBody Hd.s_look_table) = some (M_look_table, (some ([], []))) := by kernel_rfl
abbrev den_look_table : List D → Res D := D_look_table
theorem c_parts_of : cSs 60 g_parts_of o_parts_of ⟨[], [], none⟩ [] [] (defBody Hd.s_parts_of) = some (M_parts_of, none) := by kernel_rfl
abbrev den_parts_of : List D → Res D := D_parts_of
theorem c_sounds_of : cSs 60 g_sounds_of o_sounds_of ⟨[], [], none⟩ [] [] (defBody Hd.s_sounds_of) = some (M_sounds_of, none) := by kernel_rfl
abbrev den_sounds_of : List D → Res D := D_sounds_of
theorem c_vowels_in : cSs 60 g_vowels_in o_vowels_in ⟨[], [], none⟩ [] [] (defBody Hd.s_vowels_in) = some (M_vowels_in, none) := by kernel_rfl
abbrev den_vowels_in : List D → Res D := D_vowels_in
theorem c_is_word_of : cSs 60 g_is_word_of o_is_word_of ⟨[], [], none⟩ [] [] (defBody Hd.s_is_word_of) = some (M_is_word_of, none) := by kernel_rfl
abbrev den_is_word_of : List D → Res D := D_is_word_of
theorem c_is_line_of : cSs 60 g_is_line_of o_is_line_of ⟨[], [], none⟩ [] [] (defBody Hd.s_is_line_of) = some (M_is_line_of, none) := by kernel_rfl
abbrev den_is_line_of : List D → Res D := D_is_line_of
theorem c_look_poem : cSs 60 g_look_poem o_look_poem ⟨[], [], none⟩ [] [] (defBody Hd.s_look_poem) = some (M_look_poem, (some ([], []))) := by kernel_rfl
abbrev den_look_poem : List D → Res D := D_look_poem
theorem c_end_words : cSs 60 g_end_words o_end_words ⟨[], [], none⟩ [] [] (defBody Hd.s_end_words) = some (M_end_words, none) := by kernel_rfl
abbrev den_end_words : List D → Res D := D_end_words
theorem c_scheme_of : cSs 60 g_scheme_of o_scheme_of ⟨[], [], none⟩ [] [] (defBody Hd.s_scheme_of) = some (M_scheme_of, none) := by kernel_rfl
abbrev den_scheme_of : List D → Res D := D_scheme_of
theorem c_is_word : cSs 60 g_is_word o_is_word ⟨[], [], none⟩ [] [] (defBody Hd.s_is_word) = some (M_is_word, none) := by kernel_rfl
abbrev den_is_word : List D → Res D := D_is_word
theorem c_look_word : cSs 60 g_look_word o_look_word ⟨[], [], none⟩ [] [] (defBody Hd.s_look_word) = some (M_look_word, (some ([], []))) := by kernel_rfl
abbrev den_look_word : List D → Res D := D_look_word
theorem c_stress_at : cSs 60 g_stress_at o_stress_at ⟨[], [], none⟩ [] [] (defBody Hd.s_stress_at) = some (M_stress_at, none) := by kernel_rfl
abbrev den_stress_at : List D → Res D := D_stress_at
theorem c_tail_of : cSs 60 g_tail_of o_tail_of ⟨[], [], none⟩ [] [] (defBody Hd.s_tail_of) = some (M_tail_of, none) := by kernel_rfl
abbrev den_tail_of : List D → Res D := D_tail_of
theorem c_scheme_by : cSs 60 g_scheme_by o_scheme_by ⟨[], [], none⟩ [] [] (defBody Hd.s_scheme_by) = some (M_scheme_by, none) := by kernel_rfl
abbrev den_scheme_by : List D → Res D := D_scheme_by
theorem c_is_scheme : cSs 60 g_is_scheme o_is_scheme ⟨[], [], none⟩ [] [] (defBody Hd.s_is_scheme) = some (M_is_scheme, none) := by kernel_rfl
abbrev den_is_scheme : List D → Res D := D_is_scheme
theorem c_is_metre : cSs 60 g_is_metre o_is_metre ⟨[], [], none⟩ [] [] (defBody Hd.s_is_metre) = some (M_is_metre, none) := by kernel_rfl
abbrev den_is_metre : List D → Res D := D_is_metre
theorem c_is_form : cSs 60 g_is_form o_is_form ⟨[], [], none⟩ [] [] (defBody Hd.s_is_form) = some (M_is_form, none) := by kernel_rfl
abbrev den_is_form : List D → Res D := D_is_form
theorem c_look_form : cSs 60 g_look_form o_look_form ⟨[], [], none⟩ [] [] (defBody Hd.s_look_form) = some (M_look_form, (some ([], []))) := by kernel_rfl
abbrev den_look_form : List D → Res D := D_look_form
theorem c_end_fault : cSs 60 g_end_fault o_end_fault ⟨[], [], none⟩ [] [] (defBody Hd.s_end_fault) = some (M_end_fault, none) := by kernel_rfl
abbrev den_end_fault : List D → Res D := D_end_fault
theorem c_suits : cSs 60 g_suits o_suits ⟨[], [], none⟩ [] [] (defBody Hd.s_suits) = some (M_suits, none) := by kernel_rfl
abbrev den_suits : List D → Res D := D_suits
theorem c_is_line : cSs 60 g_is_line o_is_line ⟨[], [], none⟩ [] [] (defBody Hd.s_is_line) = some (M_is_line, none) := by kernel_rfl
abbrev den_is_line : List D → Res D := D_is_line
theorem c_look_line : cSs 60 g_look_line o_look_line ⟨[], [], none⟩ [] [] (defBody Hd.s_look_line) = some (M_look_line, (some ([], []))) := by kernel_rfl
abbrev den_look_line : List D → Res D := D_look_line
theorem c_word_beats : cSs 60 g_word_beats o_word_beats ⟨[], [], none⟩ [] [] (defBody Hd.s_word_beats) = some (M_word_beats, none) := by kernel_rfl
abbrev den_word_beats : List D → Res D := D_word_beats
theorem c_beats : cSs 60 g_beats o_beats ⟨[], [], none⟩ [] [] (defBody Hd.s_beats) = some (M_beats, none) := by kernel_rfl
abbrev den_beats : List D → Res D := D_beats
theorem c_faults : cSs 60 g_faults o_faults ⟨[], [], none⟩ [] [] (defBody Hd.s_faults) = some (M_faults, none) := by kernel_rfl
abbrev den_faults : List D → Res D := D_faults
theorem c_fits : cSs 60 g_fits o_fits ⟨[], [], none⟩ [] [] (defBody Hd.s_fits) = some (M_fits, none) := by kernel_rfl
abbrev den_fits : List D → Res D := D_fits
theorem c_look_scheme : cSs 60 g_look_scheme o_look_scheme ⟨[], [], none⟩ [] [] (defBody Hd.s_look_scheme) = some (M_look_scheme, (some ([], []))) := by kernel_rfl
abbrev den_look_scheme : List D → Res D := D_look_scheme
theorem c_backwards : cSs 60 g_backwards o_backwards ⟨[], [], none⟩ [] [] (defBody Hd.s_backwards) = some (M_backwards, none) := by kernel_rfl
abbrev den_backwards : List D → Res D := D_backwards
theorem c_law : cSs 60 g_law o_law ⟨[], [], none⟩ [] [] (defBody Hd.s_law) = some (M_law_k83, none) := by kernel_rfl
abbrev den_law : List D → Res D := D_law_k83
section
variable {P : Program} {w : World} {K : PySem.W.Frag} {mg : Str → Option Value} {base : Heap} (c : He.SaysD Hd.fa Hd.fn K) (gl : Glob K mg Hd.frees Hd.strsL Hd.numsL Hd.excs Hd.tups) (gm : ∀ x, x ∈ Hd.globs → mg x = some (.ref (He.ga K x)))
include c gl gm
theorem fd__law_cell : FnD P w K mg base 1 "_law_cell" 2 den__law_cell := by
  obtain ⟨fd, F⟩ := c.def_ 31 (d := ⟨("_law_cell", none), "_law_cell", "_law_cell", defArgs Hd.s__law_cell, defBody Hd.s__law_cell, defScope Hd.s__law_cell, [], []⟩) rfl
  exact def_ok (k := 0) (ps := (["_law_script", "_law_k"] : List Str)) F (gm _ (by decide +kernel)) (FunD.bindsN F fun _ _ _ _ _ _ us hl => match us, hl with | [_, _], _ => rfl) (C8.fnScope_by (by kernel_rfl)) rfl rfl (gl.env (by kernel_rfl) rfl rfl rfl rfl .nil) c__law_cell
theorem fd__law_pick : FnD P w K mg base 2 "_law_pick" 3 den__law_pick := by
  obtain ⟨fd, F⟩ := c.def_ 32 (d := ⟨("_law_pick", none), "_law_pick", "_law_pick", defArgs Hd.s__law_pick, defBody Hd.s__law_pick, defScope Hd.s__law_pick, [], []⟩) rfl
  exact def_ok (k := 1) (ps := (["_law_script", "_law_k", "_law_many"] : List Str)) F (gm _ (by decide +kernel)) (FunD.bindsN F fun _ _ _ _ _ _ us hl => match us, hl with | [_, _, _], _ => rfl) (C8.fnScope_by (by kernel_rfl)) rfl rfl (gl.env (by kernel_rfl) rfl rfl rfl rfl (.cons ((fd__law_cell c gl gm).mono (by decide)) .nil)) c__law_pick
theorem fd__law_table : FnD P w K mg base 3 "_law_table" 2 den__law_table := by
  obtain ⟨fd, F⟩ := c.def_ 33 (d := ⟨("_law_table", none), "_law_table", "_law_table", defArgs Hd.s__law_table, defBody Hd.s__law_table, defScope Hd.s__law_table, [], []⟩) rfl
  exact def_ok (k := 2) (ps := (["_law_script", "_law_at"] : List Str)) F (gm _ (by decide +kernel)) (FunD.bindsN F fun _ _ _ _ _ _ us hl => match us, hl with | [_, _], _ => rfl) (C8.fnScope_by (by kernel_rfl)) rfl rfl (gl.env (by kernel_rfl) rfl rfl rfl rfl (.cons ((fd__law_pick c gl gm).mono (by decide)) .nil)) c__law_table
theorem fd__law_parts : FnD P w K mg base 1 "_law_parts" 2 den__law_parts := by
  obtain ⟨fd, F⟩ := c.def_ 34 (d := ⟨("_law_parts", none), "_law_parts", "_law_parts", defArgs Hd.s__law_parts, defBody Hd.s__law_parts, defScope Hd.s__law_parts, [], []⟩) rfl
  exact def_ok (k := 0) (ps := (["_law_table_here", "_law_word"] : List Str)) F (gm _ (by decide +kernel)) (FunD.bindsN F fun _ _ _ _ _ _ us hl => match us, hl with | [_, _], _ => rfl) (C8.fnScope_by (by kernel_rfl)) rfl rfl (gl.env (by kernel_rfl) rfl rfl rfl rfl .nil) c__law_parts
theorem fd__law_sounds : FnD P w K mg base 2 "_law_sounds" 2 den__law_sounds := by
  obtain ⟨fd, F⟩ := c.def_ 35 (d := ⟨("_law_sounds", none), "_law_sounds", "_law_sounds", defArgs Hd.s__law_sounds, defBody Hd.s__law_sounds, defScope Hd.s__law_sounds, [], []⟩) rfl
  exact def_ok (k := 1) (ps := (["_law_table_here", "_law_letters_here"] : List Str)) F (gm _ (by decide +kernel)) (FunD.bindsN F fun _ _ _ _ _ _ us hl => match us, hl with | [_, _], _ => rfl) (C8.fnScope_by (by kernel_rfl)) rfl rfl (gl.env (by kernel_rfl) rfl rfl rfl rfl (.cons ((fd__law_parts c gl gm).mono (by decide)) .nil)) c__law_sounds
theorem fd__law_is_letters : FnD P w K mg base 1 "_law_is_letters" 2 den__law_is_letters := by
  obtain ⟨fd, F⟩ := c.def_ 36 (d := ⟨("_law_is_letters", none), "_law_is_letters", "_law_is_letters", defArgs Hd.s__law_is_letters, defBody Hd.s__law_is_letters, defScope Hd.s__law_is_letters, [], []⟩) rfl
  exact def_ok (k := 0) (ps := (["_law_thing", "_law_most"] : List Str)) F (gm _ (by decide +kernel)) (FunD.bindsN F fun _ _ _ _ _ _ us hl => match us, hl with | [_, _], _ => rfl) (C8.fnScope_by (by kernel_rfl)) rfl rfl (gl.env (by kernel_rfl) rfl rfl rfl rfl .nil) c__law_is_letters
theorem fd__law_is_word : FnD P w K mg base 3 "_law_is_word" 2 den__law_is_word := by
  obtain ⟨fd, F⟩ := c.def_ 37 (d := ⟨("_law_is_word", none), "_law_is_word", "_law_is_word", defArgs Hd.s__law_is_word, defBody Hd.s__law_is_word, defScope Hd.s__law_is_word, [], []⟩) rfl
  exact def_ok (k := 2) (ps := (["_law_table_here", "_law_thing"] : List Str)) F (gm _ (by decide +kernel)) (FunD.bindsN F fun _ _ _ _ _ _ us hl => match us, hl with | [_, _], _ => rfl) (C8.fnScope_by (by kernel_rfl)) rfl rfl (gl.env (by kernel_rfl) rfl rfl rfl rfl (.cons ((fd__law_sounds c gl gm).mono (by decide)) (.cons ((fd__law_is_letters c gl gm).mono (by decide)) .nil))) c__law_is_word
theorem fd__law_rich_book : FnD P w K mg base 4 "_law_rich_book" 4 den__law_rich_book := by
  obtain ⟨fd, F⟩ := c.def_ 40 (d := ⟨("_law_rich_book", none), "_law_rich_book", "_law_rich_book", defArgs Hd.s__law_rich_book, defBody Hd.s__law_rich_book, defScope Hd.s__law_rich_book, [], []⟩) rfl
  exact def_ok (k := 3) (ps := (["_law_script", "_law_at", "_law_table_here", "_law_most"] : List Str)) F (gm _ (by decide +kernel)) (FunD.bindsN F fun _ _ _ _ _ _ us hl => match us, hl with | [_, _, _, _], _ => rfl) (C8.fnScope_by (by kernel_rfl)) rfl rfl (gl.env (by kernel_rfl) rfl rfl rfl rfl (.cons ((fd__law_is_word c gl gm).mono (by decide)) (.cons ((fd__law_pick c gl gm).mono (by decide)) .nil))) c__law_rich_book
theorem fd_is_letters : FnD P w K mg base 1 "is_letters" 3 den_is_letters := by
  obtain ⟨fd, F⟩ := c.def_ 0 (d := ⟨("is_letters", none), "is_letters", "is_letters", defArgs Hd.s_is_letters, defBody Hd.s_is_letters, defScope Hd.s_is_letters, [], []⟩) rfl
  exact def_ok (k := 0) (ps := (["thing", "least", "most"] : List Str)) F (gm _ (by decide +kernel)) (FunD.bindsN F fun _ _ _ _ _ _ us hl => match us, hl with | [_, _, _], _ => rfl) (C8.fnScope_by (by kernel_rfl)) rfl rfl (gl.env (by kernel_rfl) rfl rfl rfl rfl .nil) c_is_letters
theorem fd_is_row : FnD P w K mg base 2 "is_row" 1 den_is_row := by
  obtain ⟨fd, F⟩ := c.def_ 1 (d := ⟨("is_row", none), "is_row", "is_row", defArgs Hd.s_is_row, defBody Hd.s_is_row, defScope Hd.s_is_row, [], []⟩) rfl
  exact def_ok (k := 1) (ps := (["thing"] : List Str)) F (gm _ (by decide +kernel)) (FunD.bindsN F fun _ _ _ _ _ _ us hl => match us, hl with | [_], _ => rfl) (C8.fnScope_by (by kernel_rfl)) rfl rfl (gl.env (by kernel_rfl) rfl rfl rfl rfl (.cons ((fd_is_letters c gl gm).mono (by decide)) .nil)) c_is_row
theorem fd_is_table : FnD P w K mg base 3 "is_table" 1 den_is_table := by
  obtain ⟨fd, F⟩ := c.def_ 2 (d := ⟨("is_table", none), "is_table", "is_table", defArgs Hd.s_is_table, defBody Hd.s_is_table, defScope Hd.s_is_table, [], []⟩) rfl
  exact def_ok (k := 2) (ps := (["thing"] : List Str)) F (gm _ (by decide +kernel)) (FunD.bindsN F fun _ _ _ _ _ _ us hl => match us, hl with | [_], _ => rfl) (C8.fnScope_by (by kernel_rfl)) rfl rfl (gl.env (by kernel_rfl) rfl rfl rfl rfl (.cons ((fd_is_row c gl gm).mono (by decide)) .nil)) c_is_table
theorem fd_look_table : FnD P w K mg base 4 "look_table" 1 den_look_table := by
  obtain ⟨fd, F⟩ := c.def_ 3 (d := ⟨("look_table", none), "look_table", "look_table", defArgs Hd.s_look_table, defBody Hd.s_look_table, defScope Hd.s_look_table, [], []⟩) rfl
  exact def_ok (k := 3) (ps := (["table"] : List Str)) F (gm _ (by decide +kernel)) (FunD.bindsN F fun _ _ _ _ _ _ us hl => match us, hl with | [_], _ => rfl) (C8.fnScope_by (by kernel_rfl)) rfl rfl (gl.env (by kernel_rfl) rfl rfl rfl rfl (.cons ((fd_is_table c gl gm).mono (by decide)) .nil)) c_look_table
theorem fd_parts_of : FnD P w K mg base 1 "parts_of" 2 den_parts_of := by
  obtain ⟨fd, F⟩ := c.def_ 4 (d := ⟨("parts_of", none), "parts_of", "parts_of", defArgs Hd.s_parts_of, defBody Hd.s_parts_of, defScope Hd.s_parts_of, [], []⟩) rfl
  exact def_ok (k := 0) (ps := (["table", "word"] : List Str)) F (gm _ (by decide +kernel)) (FunD.bindsN F fun _ _ _ _ _ _ us hl => match us, hl with | [_, _], _ => rfl) (C8.fnScope_by (by kernel_rfl)) rfl rfl (gl.env (by kernel_rfl) rfl rfl rfl rfl .nil) c_parts_of
theorem fd_sounds_of : FnD P w K mg base 2 "sounds_of" 2 den_sounds_of := by
  obtain ⟨fd, F⟩ := c.def_ 5 (d := ⟨("sounds_of", none), "sounds_of", "sounds_of", defArgs Hd.s_sounds_of, defBody Hd.s_sounds_of, defScope Hd.s_sounds_of, [], []⟩) rfl
  exact def_ok (k := 1) (ps := (["table", "word"] : List Str)) F (gm _ (by decide +kernel)) (FunD.bindsN F fun _ _ _ _ _ _ us hl => match us, hl with | [_, _], _ => rfl) (C8.fnScope_by (by kernel_rfl)) rfl rfl (gl.env (by kernel_rfl) rfl rfl rfl rfl (.cons ((fd_parts_of c gl gm).mono (by decide)) .nil)) c_sounds_of
theorem fd_vowels_in : FnD P w K mg base 1 "vowels_in" 1 den_vowels_in := by
  obtain ⟨fd, F⟩ := c.def_ 6 (d := ⟨("vowels_in", none), "vowels_in", "vowels_in", defArgs Hd.s_vowels_in, defBody Hd.s_vowels_in, defScope Hd.s_vowels_in, [], []⟩) rfl
  exact def_ok (k := 0) (ps := (["some"] : List Str)) F (gm _ (by decide +kernel)) (FunD.bindsN F fun _ _ _ _ _ _ us hl => match us, hl with | [_], _ => rfl) (C8.fnScope_by (by kernel_rfl)) rfl rfl (gl.env (by kernel_rfl) rfl rfl rfl rfl .nil) c_vowels_in
theorem fd_is_word_of : FnD P w K mg base 3 "is_word_of" 2 den_is_word_of := by
  obtain ⟨fd, F⟩ := c.def_ 7 (d := ⟨("is_word_of", none), "is_word_of", "is_word_of", defArgs Hd.s_is_word_of, defBody Hd.s_is_word_of, defScope Hd.s_is_word_of, [], []⟩) rfl
  exact def_ok (k := 2) (ps := (["table", "thing"] : List Str)) F (gm _ (by decide +kernel)) (FunD.bindsN F fun _ _ _ _ _ _ us hl => match us, hl with | [_, _], _ => rfl) (C8.fnScope_by (by kernel_rfl)) rfl rfl (gl.env (by kernel_rfl) rfl rfl rfl rfl (.cons ((fd_sounds_of c gl gm).mono (by decide)) (.cons ((fd_is_letters c gl gm).mono (by decide)) (.cons ((fd_vowels_in c gl gm).mono (by decide)) .nil)))) c_is_word_of
theorem fd_is_line_of : FnD P w K mg base 4 "is_line_of" 2 den_is_line_of := by
  obtain ⟨fd, F⟩ := c.def_ 12 (d := ⟨("is_line_of", none), "is_line_of", "is_line_of", defArgs Hd.s_is_line_of, defBody Hd.s_is_line_of, defScope Hd.s_is_line_of, [], []⟩) rfl
  exact def_ok (k := 3) (ps := (["table", "thing"] : List Str)) F (gm _ (by decide +kernel)) (FunD.bindsN F fun _ _ _ _ _ _ us hl => match us, hl with | [_, _], _ => rfl) (C8.fnScope_by (by kernel_rfl)) rfl rfl (gl.env (by kernel_rfl) rfl rfl rfl rfl (.cons ((fd_is_word_of c gl gm).mono (by decide)) .nil)) c_is_line_of
theorem fd_look_poem : FnD P w K mg base 5 "look_poem" 2 den_look_poem := by
  obtain ⟨fd, F⟩ := c.def_ 24 (d := ⟨("look_poem", none), "look_poem", "look_poem", defArgs Hd.s_look_poem, defBody Hd.s_look_poem, defScope Hd.s_look_poem, [], []⟩) rfl
  exact def_ok (k := 4) (ps := (["table", "poem"] : List Str)) F (gm _ (by decide +kernel)) (FunD.bindsN F fun _ _ _ _ _ _ us hl => match us, hl with | [_, _], _ => rfl) (C8.fnScope_by (by kernel_rfl)) rfl rfl (gl.env (by kernel_rfl) rfl rfl rfl rfl (.cons ((fd_look_table c gl gm).mono (by decide)) (.cons ((fd_is_line_of c gl gm).mono (by decide)) .nil))) c_look_poem
theorem fd_end_words : FnD P w K mg base 6 "end_words" 2 den_end_words := by
  obtain ⟨fd, F⟩ := c.def_ 27 (d := ⟨("end_words", none), "end_words", "end_words", defArgs Hd.s_end_words, defBody Hd.s_end_words, defScope Hd.s_end_words, [], []⟩) rfl
  exact def_ok (k := 5) (ps := (["table", "poem"] : List Str)) F (gm _ (by decide +kernel)) (FunD.bindsN F fun _ _ _ _ _ _ us hl => match us, hl with | [_, _], _ => rfl) (C8.fnScope_by (by kernel_rfl)) rfl rfl (gl.env (by kernel_rfl) rfl rfl rfl rfl (.cons ((fd_look_poem c gl gm).mono (by decide)) .nil)) c_end_words
theorem fd_scheme_of : FnD P w K mg base 1 "scheme_of" 1 den_scheme_of := by
  obtain ⟨fd, F⟩ := c.def_ 21 (d := ⟨("scheme_of", none), "scheme_of", "scheme_of", defArgs Hd.s_scheme_of, defBody Hd.s_scheme_of, defScope Hd.s_scheme_of, [], []⟩) rfl
  exact def_ok (k := 0) (ps := (["keys"] : List Str)) F (gm _ (by decide +kernel)) (FunD.bindsN F fun _ _ _ _ _ _ us hl => match us, hl with | [_], _ => rfl) (C8.fnScope_by (by kernel_rfl)) rfl rfl (gl.env (by kernel_rfl) rfl rfl rfl rfl .nil) c_scheme_of
theorem fd_is_word : FnD P w K mg base 5 "is_word" 2 den_is_word := by
  obtain ⟨fd, F⟩ := c.def_ 8 (d := ⟨("is_word", none), "is_word", "is_word", defArgs Hd.s_is_word, defBody Hd.s_is_word, defScope Hd.s_is_word, [], []⟩) rfl
  exact def_ok (k := 4) (ps := (["table", "thing"] : List Str)) F (gm _ (by decide +kernel)) (FunD.bindsN F fun _ _ _ _ _ _ us hl => match us, hl with | [_, _], _ => rfl) (C8.fnScope_by (by kernel_rfl)) rfl rfl (gl.env (by kernel_rfl) rfl rfl rfl rfl (.cons ((fd_look_table c gl gm).mono (by decide)) (.cons ((fd_is_word_of c gl gm).mono (by decide)) .nil))) c_is_word
theorem fd_look_word : FnD P w K mg base 6 "look_word" 2 den_look_word := by
  obtain ⟨fd, F⟩ := c.def_ 9 (d := ⟨("look_word", none), "look_word", "look_word", defArgs Hd.s_look_word, defBody Hd.s_look_word, defScope Hd.s_look_word, [], []⟩) rfl
  exact def_ok (k := 5) (ps := (["table", "word"] : List Str)) F (gm _ (by decide +kernel)) (FunD.bindsN F fun _ _ _ _ _ _ us hl => match us, hl with | [_, _], _ => rfl) (C8.fnScope_by (by kernel_rfl)) rfl rfl (gl.env (by kernel_rfl) rfl rfl rfl rfl (.cons ((fd_is_word c gl gm).mono (by decide)) .nil)) c_look_word
theorem fd_stress_at : FnD P w K mg base 2 "stress_at" 2 den_stress_at := by
  obtain ⟨fd, F⟩ := c.def_ 10 (d := ⟨("stress_at", none), "stress_at", "stress_at", defArgs Hd.s_stress_at, defBody Hd.s_stress_at, defScope Hd.s_stress_at, [], []⟩) rfl
  exact def_ok (k := 1) (ps := (["made", "stress"] : List Str)) F (gm _ (by decide +kernel)) (FunD.bindsN F fun _ _ _ _ _ _ us hl => match us, hl with | [_, _], _ => rfl) (C8.fnScope_by (by kernel_rfl)) rfl rfl (gl.env (by kernel_rfl) rfl rfl rfl rfl (.cons ((fd_vowels_in c gl gm).mono (by decide)) .nil)) c_stress_at
theorem fd_tail_of : FnD P w K mg base 3 "tail_of" 2 den_tail_of := by
  obtain ⟨fd, F⟩ := c.def_ 11 (d := ⟨("tail_of", none), "tail_of", "tail_of", defArgs Hd.s_tail_of, defBody Hd.s_tail_of, defScope Hd.s_tail_of, [], []⟩) rfl
  exact def_ok (k := 2) (ps := (["table", "word"] : List Str)) F (gm _ (by decide +kernel)) (FunD.bindsN F fun _ _ _ _ _ _ us hl => match us, hl with | [_, _], _ => rfl) (C8.fnScope_by (by kernel_rfl)) rfl rfl (gl.env (by kernel_rfl) rfl rfl rfl rfl (.cons ((fd_sounds_of c gl gm).mono (by decide)) (.cons ((fd_stress_at c gl gm).mono (by decide)) .nil))) c_tail_of
theorem fd_scheme_by : FnD P w K mg base 7 "scheme_by" 2 den_scheme_by := by
  obtain ⟨fd, F⟩ := c.def_ 22 (d := ⟨("scheme_by", none), "scheme_by", "scheme_by", defArgs Hd.s_scheme_by, defBody Hd.s_scheme_by, defScope Hd.s_scheme_by, [], []⟩) rfl
  exact def_ok (k := 6) (ps := (["table", "words"] : List Str)) F (gm _ (by decide +kernel)) (FunD.bindsN F fun _ _ _ _ _ _ us hl => match us, hl with | [_, _], _ => rfl) (C8.fnScope_by (by kernel_rfl)) rfl rfl (gl.env (by kernel_rfl) rfl rfl rfl rfl (.cons ((fd_look_table c gl gm).mono (by decide)) (.cons ((fd_scheme_of c gl gm).mono (by decide)) (.cons ((fd_look_word c gl gm).mono (by decide)) (.cons ((fd_tail_of c gl gm).mono (by decide)) .nil))))) c_scheme_by
theorem fd_is_scheme : FnD P w K mg base 1 "is_scheme" 1 den_is_scheme := by
  obtain ⟨fd, F⟩ := c.def_ 19 (d := ⟨("is_scheme", none), "is_scheme", "is_scheme", defArgs Hd.s_is_scheme, defBody Hd.s_is_scheme, defScope Hd.s_is_scheme, [], []⟩) rfl
  exact def_ok (k := 0) (ps := (["thing"] : List Str)) F (gm _ (by decide +kernel)) (FunD.bindsN F fun _ _ _ _ _ _ us hl => match us, hl with | [_], _ => rfl) (C8.fnScope_by (by kernel_rfl)) rfl rfl (gl.env (by kernel_rfl) rfl rfl rfl rfl .nil) c_is_scheme
theorem fd_is_metre : FnD P w K mg base 1 "is_metre" 1 den_is_metre := by
  obtain ⟨fd, F⟩ := c.def_ 15 (d := ⟨("is_metre", none), "is_metre", "is_metre", defArgs Hd.s_is_metre, defBody Hd.s_is_metre, defScope Hd.s_is_metre, [], []⟩) rfl
  exact def_ok (k := 0) (ps := (["thing"] : List Str)) F (gm _ (by decide +kernel)) (FunD.bindsN F fun _ _ _ _ _ _ us hl => match us, hl with | [_], _ => rfl) (C8.fnScope_by (by kernel_rfl)) rfl rfl (gl.env (by kernel_rfl) rfl rfl rfl rfl .nil) c_is_metre
theorem fd_is_form : FnD P w K mg base 2 "is_form" 1 den_is_form := by
  obtain ⟨fd, F⟩ := c.def_ 25 (d := ⟨("is_form", none), "is_form", "is_form", defArgs Hd.s_is_form, defBody Hd.s_is_form, defScope Hd.s_is_form, [], []⟩) rfl
  exact def_ok (k := 1) (ps := (["thing"] : List Str)) F (gm _ (by decide +kernel)) (FunD.bindsN F fun _ _ _ _ _ _ us hl => match us, hl with | [_], _ => rfl) (C8.fnScope_by (by kernel_rfl)) rfl rfl (gl.env (by kernel_rfl) rfl rfl rfl rfl (.cons ((fd_is_scheme c gl gm).mono (by decide)) (.cons ((fd_is_metre c gl gm).mono (by decide)) .nil))) c_is_form
theorem fd_look_form : FnD P w K mg base 3 "look_form" 1 den_look_form := by
  obtain ⟨fd, F⟩ := c.def_ 26 (d := ⟨("look_form", none), "look_form", "look_form", defArgs Hd.s_look_form, defBody Hd.s_look_form, defScope Hd.s_look_form, [], []⟩) rfl
  exact def_ok (k := 2) (ps := (["form"] : List Str)) F (gm _ (by decide +kernel)) (FunD.bindsN F fun _ _ _ _ _ _ us hl => match us, hl with | [_], _ => rfl) (C8.fnScope_by (by kernel_rfl)) rfl rfl (gl.env (by kernel_rfl) rfl rfl rfl rfl (.cons ((fd_is_form c gl gm).mono (by decide)) .nil)) c_look_form
theorem fd_end_fault : FnD P w K mg base 4 "end_fault" 4 den_end_fault := by
  obtain ⟨fd, F⟩ := c.def_ 28 (d := ⟨("end_fault", none), "end_fault", "end_fault", defArgs Hd.s_end_fault, defBody Hd.s_end_fault, defScope Hd.s_end_fault, [], []⟩) rfl
  exact def_ok (k := 3) (ps := (["table", "scheme", "rows", "number"] : List Str)) F (gm _ (by decide +kernel)) (FunD.bindsN F fun _ _ _ _ _ _ us hl => match us, hl with | [_, _, _, _], _ => rfl) (C8.fnScope_by (by kernel_rfl)) rfl rfl (gl.env (by kernel_rfl) rfl rfl rfl rfl (.cons ((fd_tail_of c gl gm).mono (by decide)) .nil)) c_end_fault
theorem fd_suits : FnD P w K mg base 1 "suits" 2 den_suits := by
  obtain ⟨fd, F⟩ := c.def_ 18 (d := ⟨("suits", none), "suits", "suits", defArgs Hd.s_suits, defBody Hd.s_suits, defScope Hd.s_suits, [], []⟩) rfl
  exact def_ok (k := 0) (ps := (["made", "metre"] : List Str)) F (gm _ (by decide +kernel)) (FunD.bindsN F fun _ _ _ _ _ _ us hl => match us, hl with | [_, _], _ => rfl) (C8.fnScope_by (by kernel_rfl)) rfl rfl (gl.env (by kernel_rfl) rfl rfl rfl rfl .nil) c_suits
theorem fd_is_line : FnD P w K mg base 5 "is_line" 2 den_is_line := by
  obtain ⟨fd, F⟩ := c.def_ 13 (d := ⟨("is_line", none), "is_line", "is_line", defArgs Hd.s_is_line, defBody Hd.s_is_line, defScope Hd.s_is_line, [], []⟩) rfl
  exact def_ok (k := 4) (ps := (["table", "thing"] : List Str)) F (gm _ (by decide +kernel)) (FunD.bindsN F fun _ _ _ _ _ _ us hl => match us, hl with | [_, _], _ => rfl) (C8.fnScope_by (by kernel_rfl)) rfl rfl (gl.env (by kernel_rfl) rfl rfl rfl rfl (.cons ((fd_look_table c gl gm).mono (by decide)) (.cons ((fd_is_line_of c gl gm).mono (by decide)) .nil))) c_is_line
theorem fd_look_line : FnD P w K mg base 6 "look_line" 2 den_look_line := by
  obtain ⟨fd, F⟩ := c.def_ 14 (d := ⟨("look_line", none), "look_line", "look_line", defArgs Hd.s_look_line, defBody Hd.s_look_line, defScope Hd.s_look_line, [], []⟩) rfl
  exact def_ok (k := 5) (ps := (["table", "line"] : List Str)) F (gm _ (by decide +kernel)) (FunD.bindsN F fun _ _ _ _ _ _ us hl => match us, hl with | [_, _], _ => rfl) (C8.fnScope_by (by kernel_rfl)) rfl rfl (gl.env (by kernel_rfl) rfl rfl rfl rfl (.cons ((fd_is_line c gl gm).mono (by decide)) .nil)) c_look_line
theorem fd_word_beats : FnD P w K mg base 3 "word_beats" 2 den_word_beats := by
  obtain ⟨fd, F⟩ := c.def_ 16 (d := ⟨("word_beats", none), "word_beats", "word_beats", defArgs Hd.s_word_beats, defBody Hd.s_word_beats, defScope Hd.s_word_beats, [], []⟩) rfl
  exact def_ok (k := 2) (ps := (["table", "word"] : List Str)) F (gm _ (by decide +kernel)) (FunD.bindsN F fun _ _ _ _ _ _ us hl => match us, hl with | [_, _], _ => rfl) (C8.fnScope_by (by kernel_rfl)) rfl rfl (gl.env (by kernel_rfl) rfl rfl rfl rfl (.cons ((fd_vowels_in c gl gm).mono (by decide)) (.cons ((fd_sounds_of c gl gm).mono (by decide)) .nil))) c_word_beats
theorem fd_beats : FnD P w K mg base 7 "beats" 2 den_beats := by
  obtain ⟨fd, F⟩ := c.def_ 17 (d := ⟨("beats", none), "beats", "beats", defArgs Hd.s_beats, defBody Hd.s_beats, defScope Hd.s_beats, [], []⟩) rfl
  exact def_ok (k := 6) (ps := (["table", "line"] : List Str)) F (gm _ (by decide +kernel)) (FunD.bindsN F fun _ _ _ _ _ _ us hl => match us, hl with | [_, _], _ => rfl) (C8.fnScope_by (by kernel_rfl)) rfl rfl (gl.env (by kernel_rfl) rfl rfl rfl rfl (.cons ((fd_look_line c gl gm).mono (by decide)) (.cons ((fd_word_beats c gl gm).mono (by decide)) .nil))) c_beats
theorem fd_faults : FnD P w K mg base 8 "faults" 3 den_faults := by
  obtain ⟨fd, F⟩ := c.def_ 29 (d := ⟨("faults", none), "faults", "faults", defArgs Hd.s_faults, defBody Hd.s_faults, defScope Hd.s_faults, [], []⟩) rfl
  exact def_ok (k := 7) (ps := (["table", "poem", "form"] : List Str)) F (gm _ (by decide +kernel)) (FunD.bindsN F fun _ _ _ _ _ _ us hl => match us, hl with | [_, _, _], _ => rfl) (C8.fnScope_by (by kernel_rfl)) rfl rfl (gl.env (by kernel_rfl) rfl rfl rfl rfl (.cons ((fd_look_poem c gl gm).mono (by decide)) (.cons ((fd_look_form c gl gm).mono (by decide)) (.cons ((fd_end_fault c gl gm).mono (by decide)) (.cons ((fd_suits c gl gm).mono (by decide)) (.cons ((fd_beats c gl gm).mono (by decide)) .nil)))))) c_faults
theorem fd_fits : FnD P w K mg base 9 "fits" 3 den_fits := by
  obtain ⟨fd, F⟩ := c.def_ 30 (d := ⟨("fits", none), "fits", "fits", defArgs Hd.s_fits, defBody Hd.s_fits, defScope Hd.s_fits, [], []⟩) rfl
  exact def_ok (k := 8) (ps := (["table", "poem", "form"] : List Str)) F (gm _ (by decide +kernel)) (FunD.bindsN F fun _ _ _ _ _ _ us hl => match us, hl with | [_, _, _], _ => rfl) (C8.fnScope_by (by kernel_rfl)) rfl rfl (gl.env (by kernel_rfl) rfl rfl rfl rfl (.cons ((fd_faults c gl gm).mono (by decide)) .nil)) c_fits
theorem fd_look_scheme : FnD P w K mg base 2 "look_scheme" 1 den_look_scheme := by
  obtain ⟨fd, F⟩ := c.def_ 20 (d := ⟨("look_scheme", none), "look_scheme", "look_scheme", defArgs Hd.s_look_scheme, defBody Hd.s_look_scheme, defScope Hd.s_look_scheme, [], []⟩) rfl
  exact def_ok (k := 1) (ps := (["scheme"] : List Str)) F (gm _ (by decide +kernel)) (FunD.bindsN F fun _ _ _ _ _ _ us hl => match us, hl with | [_], _ => rfl) (C8.fnScope_by (by kernel_rfl)) rfl rfl (gl.env (by kernel_rfl) rfl rfl rfl rfl (.cons ((fd_is_scheme c gl gm).mono (by decide)) .nil)) c_look_scheme
theorem fd_backwards : FnD P w K mg base 3 "backwards" 1 den_backwards := by
  obtain ⟨fd, F⟩ := c.def_ 23 (d := ⟨("backwards", none), "backwards", "backwards", defArgs Hd.s_backwards, defBody Hd.s_backwards, defScope Hd.s_backwards, [], []⟩) rfl
  exact def_ok (k := 2) (ps := (["scheme"] : List Str)) F (gm _ (by decide +kernel)) (FunD.bindsN F fun _ _ _ _ _ _ us hl => match us, hl with | [_], _ => rfl) (C8.fnScope_by (by kernel_rfl)) rfl rfl (gl.env (by kernel_rfl) rfl rfl rfl rfl (.cons ((fd_look_scheme c gl gm).mono (by decide)) (.cons ((fd_scheme_of c gl gm).mono (by decide)) .nil))) c_backwards
end
theorem glob_of {K : PySem.W.Frag} {h : Heap} {mg : Str → Option Value} (X : K.In h) (G : h.Ns mainGlobals mg) (c : He.SaysD Hd.fa Hd.fn K) (hex : Hd.ex K = true) : Glob K mg Hd.frees Hd.strsL Hd.numsL Hd.excs Hd.tups ∧ ∀ x, x ∈ Hd.globs → mg x = some (.ref (He.ga K x)) := by
  have m1 : ∀ x, x ∈ Hd.frees → He.Fa.free x ∈ Hd.fa := fun x hx => List.mem_append_left _ (List.mem_map_of_mem hx)
  have m2 : ∀ x, x ∈ Hd.globs → He.Fa.glo x ∈ Hd.fa := fun x hx => List.mem_append_right _ (List.mem_append_left _ (List.mem_map_of_mem hx))
  have m3 : ∀ x, x ∈ Hd.excs → He.Fa.exc x ∈ Hd.fa := fun x hx => List.mem_append_right _ (List.mem_append_right _ (List.mem_append_left _ (List.mem_map_of_mem hx)))
  have m4 : ∀ x z, (x, z) ∈ Hd.strsL → He.Fa.str x z ∈ Hd.fa := fun x z hx => List.mem_append_right _ (List.mem_append_right _ (List.mem_append_right _ (List.mem_append_left _ (List.mem_map_of_mem (f := fun p : Str × Str => He.Fa.str p.1 p.2) hx))))
  have m5 : ∀ x i, (x, i) ∈ Hd.numsL → He.Fa.int x i ∈ Hd.fa := fun x i hx => List.mem_append_right _ (List.mem_append_right _ (List.mem_append_right _ (List.mem_append_right _ (List.mem_append_left _ (List.mem_map_of_mem (f := fun p : Str × Int => He.Fa.int p.1 p.2) hx)))))
  have ge : ∀ x, x ∈ Hd.excs → x ∈ Hd.globs := by decide +kernel
  have gt : ∀ p, p ∈ Hd.tups → p.1 ∈ Hd.globs := by decide +kernel
  exact ⟨⟨fun x hx => He.free_ok X G (c.facts (m1 x hx)), fun x z hx => He.str_ok X G (c.facts (m4 x z hx)), fun x i hx => He.int_ok X G (c.facts (m5 x i hx)), fun x hx => ⟨He.glo_ok X G (c.facts (m2 x (ge x hx))), c.facts (m3 x hx)⟩, fun x ys hx => ⟨He.glo_ok X G (c.facts (m2 x (gt _ hx))), List.all_eq_true.mp hex _ hx⟩⟩, fun x hx => He.glo_ok X G (c.facts (m2 x hx))⟩
theorem fn_law {P : Program} {w : World} {K : PySem.W.Frag} {h : Heap} {mg : Str → Option Value} {f : Addr} (X : K.In h) (G : h.Ns mainGlobals mg) (hfa : mg ("law" : Str) = some (.ref f)) (c : He.SaysD Hd.fa Hd.fn K) (hex : Hd.ex K = true) :
    ∃ fd : FuncData, (∀ (s : Shared) (v : Value), BindsTo s fd ⟨[v], []⟩ [("_law_script", v)]) ∧ ∀ base : Heap, K.In base → base.Ns mainGlobals mg → FnOk P w K mg base (L2.CX P w) 10 f fd ["_law_script"] (spD K 1 den_law) := by
  obtain ⟨gl, gm⟩ := glob_of X G c hex
  obtain ⟨fd, F⟩ := c.def_ 41 (d := ⟨("law", none), "law", "law", defArgs Hd.s_law, defBody Hd.s_law, defScope Hd.s_law, [], []⟩) rfl
  have e := hfa.symm.trans (gm "law" (by decide +kernel))
  cases e
  have b := FunD.bindsA (ps := ["_law_script"]) F fun _ _ _ _ _ _ us hl => match us, hl with | [_], _ => rfl
  exact ⟨fd, fun s v => b s [v] rfl, fun base _ _ => def_fn (k := 9) (ps := ["_law_script"]) F (C8.fnScope_by (by kernel_rfl)) rfl rfl (gl.env (by kernel_rfl) rfl rfl rfl rfl (.cons ((fd__law_table c gl gm).mono (by decide)) (.cons ((fd__law_rich_book c gl gm).mono (by decide)) (.cons ((fd_end_words c gl gm).mono (by decide)) (.cons ((fd_scheme_by c gl gm).mono (by decide)) (.cons ((fd_faults c gl gm).mono (by decide)) (.cons ((fd_fits c gl gm).mono (by decide)) (.cons ((fd__law_pick c gl gm).mono (by decide)) (.cons ((fd_beats c gl gm).mono (by decide)) (.cons ((fd_backwards c gl gm).mono (by decide)) .nil)))))))))) c_law⟩
end Wk
namespace DL
open PySem PySem.Spec L2
@[simp] theorem tabB_tw {l : List Wd} {r : List D} : tabB (tD' wD l :: r) = false := by
  show (txtPair (tD' wD l) && _) = false
  rw [NoPair.no (f := tD' wD)]; rfl
@[simp] theorem tup_ln {l : List Wd} : D.tup [tD' wD l] = poemD [l] := rfl
@[simp] theorem tup_fm {s : Txt} {m : List Txt} : D.tup [.str s, tD' .str m] = formD (s, m) := rfl
/-- by the scheme of the ends nothing but again is wrong -/
theorem fault_scheme {t : Rows} {row : List Wd} {s : Txt} (hs : s = schF (row.map (tailF t))) {k : Nat} (hk : k < row.length) :
    faultF t ((s.zip row).take k) (s.getD k 0) (row.getD k ([], 0)) = if ((row.take k).any fun x => decide (x.1 = (row.getD k ([], 0)).1)) = true then some againT else none := by
  have sl : s.length = row.length := by rw [hs, schF_len, List.length_map]
  have ek : row.getD k ([], 0) = row[k] := by rw [List.getD_eq_getElem?_getD, List.getElem?_eq_getElem hk]; rfl
  have esk : s.getD k 0 = s[k] := by rw [List.getD_eq_getElem?_getD, List.getElem?_eq_getElem (by omega)]; rfl
  have mem : ∀ p ∈ (s.zip row).take k, (p.1 = s[k] ↔ tailF t p.2 = tailF t row[k]) := fun p hp => by
    obtain ⟨i, hi, e⟩ := List.mem_iff_getElem.mp hp
    rw [List.length_take, List.length_zip] at hi
    rw [List.getElem_take, List.getElem_zip] at e
    subst e
    have r := schF_rel (row.map (tailF t)) i k (by rw [List.length_map]; omega) (by rw [List.length_map]; exact hk)
    rw [← hs, List.getElem?_eq_getElem (by omega), List.getElem?_eq_getElem (by omega), List.getElem?_map, List.getElem?_map, List.getElem?_eq_getElem (by omega), List.getElem?_eq_getElem hk] at r
    simpa using r
  unfold faultF
  rw [ek, esk]
  have h1 : (((s.zip row).take k).any fun p => decide (p.2.1 = row[k].1)) = ((row.take k).any fun x => decide (x.1 = row[k].1)) := by
    have tz : (s.zip row).take k = (s.take k).zip (row.take k) := by simp only [List.zip, List.take_zipWith]
    rw [tz, List.any_eq, List.any_eq]
    congr 1
    apply propext
    constructor
    · rintro ⟨p, hp, e⟩; exact ⟨p.2, (List.of_mem_zip hp).2, e⟩
    · rintro ⟨x, hx, e⟩
      obtain ⟨i, hi, rfl⟩ := List.mem_iff_getElem.mp hx
      rw [List.length_take] at hi
      refine ⟨((s.take k)[i]'(by rw [List.length_take]; omega), (row.take k)[i]), ?_, e⟩
      exact List.mem_iff_getElem.mpr ⟨i, by rw [List.length_zip, List.length_take, List.length_take]; omega, List.getElem_zip ..⟩
  have h2 : (((s.zip row).take k).any fun p => decide (p.1 = s[k]) && !decide (tailF t p.2 = tailF t row[k])) = false := by
    rw [List.any_eq_false]
    intro p hp
    have := mem p hp
    by_cases z : p.1 = s[k]
    · simp [z, this.mp z]
    · simp [z]
  have h3 : (((s.zip row).take k).any fun p => !decide (p.1 = s[k]) && decide (tailF t p.2 = tailF t row[k])) = false := by
    rw [List.any_eq_false]
    intro p hp
    have := mem p hp
    by_cases z : p.1 = s[k]
    · simp [z]
    · have z2 : ¬ tailF t p.2 = tailF t row[k] := fun q => z (this.mpr q)
      simp [z2]
  rw [h1, h2, h3]
  simp only [Bool.false_eq_true, if_false]
/-- the lines whose last word was there -/
def agains (row : List Wd) : List (Int × Txt) := ((rngN row.length).filter fun k => (row.take k).any fun x => decide (x.1 = (row.getD k ([], 0)).1)).map fun k : Nat => ((k : Int), againT)
theorem flatMap_enum {α β : Type} (f : Nat → List β) (g : Nat × α → List β) : ∀ (l : List α), (∀ q ∈ enumF l, g q = f q.1) → (enumF l).flatMap g = (rngN l.length).flatMap f := fun l h => by
  have e : (enumF l).flatMap g = (enumF l).flatMap fun q => f q.1 := by
    rw [List.flatMap_def, List.flatMap_def, List.map_congr_left h]
  rw [e]
  have e2 : (enumF l).map (·.1) = rngN l.length := by
    unfold enumF rngN
    exact List.map_fst_zip (by rw [List.length_range]; exact Nat.le_refl _)
  rw [← e2, List.flatMap_map]
theorem flatMap_filt {β : Type} {p : Nat → Bool} {f : Nat → β} : ∀ l : List Nat, (l.flatMap fun k => if p k = true then [f k] else []) = (l.filter p).map f
  | [] => rfl
  | k :: l => by
    rw [List.flatMap_cons, flatMap_filt l]
    cases h : p k <;> simp [h]
theorem faults_scheme {t : Rows} {p : List (List Wd)} {ms : List Txt} (hm : ms = p.map (beatsF (sgF t))) : faultsF t p (schF ((p.map lastW).map (tailF t)), ms) = agains (p.map lastW) := by
  unfold faultsF agains
  rw [flatMap_enum (fun k : Nat => if ((p.map lastW).take k).any (fun x => decide (x.1 = ((p.map lastW).getD k ([], 0)).1)) = true then [((k : Int), againT)] else []) _ p fun q hq => ?_, flatMap_filt, List.length_map]
  have at_ := enumF_at hq
  have hk : q.1 < p.length := (List.getElem?_eq_some_iff.mp at_).1
  unfold lineFa
  rw [fault_scheme rfl (by rw [List.length_map]; exact hk)]
  have e1 : ms.getD q.1 [] = beatsF (sgF t) q.2 := by rw [hm, List.getD_eq_getElem?_getD, List.getElem?_map, at_]; rfl
  rw [e1, suitsF_refl, if_pos rfl, List.nil_append]
  generalize (((p.map lastW).take q.1).any fun x => decide (x.1 = ((p.map lastW).getD q.1 ([], 0)).1)) = c
  cases c <;> rfl
theorem agains_nil {row : List Wd} : agains row = [] ↔ (row.map (·.1)).Nodup := by
  unfold agains
  rw [List.map_eq_nil_iff, List.filter_eq_nil_iff]
  constructor
  · intro h
    unfold List.Nodup
    rw [List.pairwise_iff_getElem]
    intro i j hi hj hij
    rw [List.length_map] at hi hj
    have := h j (mem_rngN.mpr hj)
    rw [Bool.not_eq_true, List.any_eq_false] at this
    intro e
    rw [List.getElem_map, List.getElem_map] at e
    have hm : row[i] ∈ row.take j := List.mem_iff_getElem.mpr ⟨i, by rw [List.length_take]; omega, List.getElem_take ..⟩
    have := this _ hm
    rw [List.getD_eq_getElem?_getD, List.getElem?_eq_getElem hj] at this
    simp [e] at this
  · intro h k hk
    rw [mem_rngN] at hk
    rw [Bool.not_eq_true, List.any_eq_false]
    intro x hx
    obtain ⟨i, hi, rfl⟩ := List.mem_iff_getElem.mp hx
    rw [List.length_take] at hi
    rw [List.getElem_take, List.getD_eq_getElem?_getD, List.getElem?_eq_getElem hk]
    unfold List.Nodup at h
    rw [List.pairwise_iff_getElem] at h
    have := h i k (by rw [List.length_map]; omega) (by rw [List.length_map]; exact hk) (by omega)
    rw [List.getElem_map, List.getElem_map] at this
    simpa using this
/-- a poem of words of a book -/
structure Poem83 (b : List Wd) (p : List (List Wd)) : Prop where
  few : p.length ≤ 4
  lines : ∀ l ∈ p, 1 ≤ l.length ∧ l.length ≤ 3 ∧ ∀ w ∈ l, w ∈ b
theorem law_true (ns : List Int) (hl : ns.length ≤ 63) : D_law_k83 [.scr ns] = .ok (.bl true) := by
  obtain ⟨t, ht, dr⟩ := law_table_ok ns (a := 10) (by decide)
  have h := dr.ok
  obtain ⟨b, hb, bo, bl, bs⟩ := law_rich_book_ok2 h ns (a := 100) (m := 9) (by decide) (by decide) (by decide)
  by_cases bn : b = []
  · subst bn
    simp +contextual -implicitDefEqProofs [-Prod.forall, D_law_k83, M_law_k83, ht, hb]
    done
  have b1 : 0 < b.length := List.length_pos_iff.mpr bn
  obtain ⟨n, hn⟩ : ∃ n : Nat, 1 + pickF ns 60 4 = (n : Int) := ⟨(1 + pickF ns 60 4).toNat, by have := pick_lo (ns := ns) (k := 60) (m := 4) (by decide) (by decide); omega⟩
  have n4 : 1 ≤ n ∧ n ≤ 4 := by
    have := pick_lo (ns := ns) (k := 60) (m := 4) (by decide) (by decide)
    have := pick_hi (ns := ns) (k := 60) (m := 4) (by decide) (by decide)
    omega
  have r0 := rng1_N (n := n) (by omega)
  let I : List Nat → Env → Prop := fun pre ρ => ∃ p x4 x9, ρ = [some (.scr ns), some (tblD t), some (bookD b), some (poemD p), x4, none, none, none, none, x9, none, none, none] ∧ Poem83 b p ∧ p.length = pre.length
  obtain ⟨ρ', e1, p, x4, x9, rfl, hp, pl⟩ := for_all (t := .name 4) (f := evSs [D__law_table, D__law_rich_book, D_end_words, D_scheme_by, D_faults, D_fits, D__law_pick, D_beats, D_backwards] M_law_k83_1) (e := natD) I (rngN n) [some (.scr ns), some (tblD t), some (bookD b), some (.tup []), none, none, none, none, none, none, none, none, none] ⟨[], none, none, rfl, ⟨by simp, by simp⟩, rfl⟩ (by
    rintro pre k post hl' ρ ⟨p, x4, x9, rfl, hp, pl⟩
    refine ⟨_, rfl, ?_⟩
    have plen : pre.length < 4 := by
      have := congrArg List.length hl'
      rw [show (rngN n).length = n from List.length_range, List.length_append, List.length_cons] at this
      omega
    obtain ⟨m, hm⟩ : ∃ m : Nat, 1 + pickF ns (61 + (k : Int)) 3 = (m : Int) := ⟨(1 + pickF ns (61 + (k : Int)) 3).toNat, by have := pick_lo (ns := ns) (k := 61 + (k : Int)) (m := 3) (by omega) (by decide); omega⟩
    have m3 : 1 ≤ m ∧ m ≤ 3 := by
      have := pick_lo (ns := ns) (k := 61 + (k : Int)) (m := 3) (by omega) (by decide)
      have := pick_hi (ns := ns) (k := 61 + (k : Int)) (m := 3) (by omega) (by decide)
      omega
    have r1 := rng1_N (n := m) (by omega)
    have k1 : 0 ≤ 61 + (k : Int) := by omega
    have k2 : ∀ j : Nat, 0 ≤ 70 + 4 * (k : Int) + (j : Int) := fun j => by omega
    have m4 : mulD (.int 4) (.int (k : Int)) = .ok (.int (4 * (k : Int))) := by simp [mulD]
    obtain ⟨ws, hws⟩ := Classical.axiomOfChoice (fun j : Nat => atI_in (l := b) (r := pickF ns (70 + 4 * (k : Int) + (j : Int)) (b.length : Int)) (pick_lo (k2 j) (by omega)) (pick_hi (k2 j) (by omega)))
    have hw1 : ∀ j : Nat, atI b (pickF ns (70 + 4 * (k : Int) + (j : Int)) (b.length : Int)) = some (ws j) := fun j => (hws j).1
    have ad := add_t (f := lnD) (a := p) (b := [(rngN m).map ws]) (by simp; omega)
    refine ⟨[some (.scr ns), some (tblD t), some (bookD b), some (poemD (p ++ [(rngN m).map ws])), some (natD k), none, none, none, none, some (lD .int ((rngN m).map fun j : Nat => pickF ns (70 + 4 * (k : Int) + (j : Int)) (b.length : Int))), none, none, none], ?_, p ++ [(rngN m).map ws], _, _, rfl, ⟨by rw [List.length_append]; simp; omega, fun l hl => ?_⟩, by rw [List.length_append, List.length_append, pl]; rfl⟩
    · simp +contextual -implicitDefEqProofs [-Prod.forall, M_law_k83_1, k1, k2, hm, r1, m4, b1, hw1, ad]
      done
    · rcases List.mem_append.mp hl with hl | hl
      · exact hp.lines l hl
      · rw [List.mem_singleton.mp hl, List.length_map]
        refine ⟨by rw [show (rngN m).length = m from List.length_range]; exact m3.1, by rw [show (rngN m).length = m from List.length_range]; exact m3.2, fun w hw => ?_⟩
        obtain ⟨j, _, rfl⟩ := List.mem_map.mp hw
        exact (hws j).2)
  rw [show (rngN n).length = n from List.length_range] at pl
  have wl : ∀ l ∈ p, lineB t l = true := fun l hl => by
    obtain ⟨h1, h2, h3⟩ := hp.lines l hl
    exact lineB_ok.mpr ⟨h1, by omega, fun w hw => bo.words w (h3 w hw)⟩
  have pb : poemB t p = true := by
    unfold poemB
    rw [Bool.and_eq_true, Bool.and_eq_true, decide_eq_true_eq, decide_eq_true_eq]
    exact ⟨⟨by omega, by omega⟩, List.all_eq_true.mpr wl⟩
  have pbr : poemB t p.reverse = true := by
    unfold poemB
    rw [Bool.and_eq_true, Bool.and_eq_true, decide_eq_true_eq, decide_eq_true_eq, List.length_reverse]
    exact ⟨⟨by omega, by omega⟩, List.all_eq_true.mpr fun l hl => wl l (List.mem_reverse.mp hl)⟩
  have ew := end_words_ok h pb
  have roww : ∀ w ∈ p.map lastW, wordB t w = true := fun w hw => by
    obtain ⟨x, hx, rfl⟩ := List.mem_map.mp hw
    exact last_word (wl x hx)
  have sb := scheme_by_ok h (x := lD wD (p.map lastW)) (ws := p.map lastW) rfl (.inr rfl) roww (by rw [List.length_map]; omega) (by rw [List.length_map]; omega)
  have bt : ∀ l ∈ p, D_beats [tblD t, tD' wD l] = .ok (.str (beatsF (sgF t) l)) := fun l hl => beats_ok h (wl l hl)
  have mb : ∀ m ∈ p.map (beatsF (sgF t)), metreB m = true := fun m hm => by
    obtain ⟨l, hl, rfl⟩ := List.mem_map.mp hm
    obtain ⟨h1, h2, h3⟩ := hp.lines l hl
    exact beats_metre dr (by intro z; subst z; simp at h1) (by omega) fun w hw => ⟨bo.words w (h3 w hw), (bs w (h3 w hw)).1⟩
  have sv := schF_scheme (keys := (p.map lastW).map (tailF t)) (by simp; omega) (by simp; omega)
  have bk := backwards_ok sv
  rw [schF_rev] at bk
  have svr := schF_scheme (keys := ((p.map lastW).map (tailF t)).reverse) (by simp; omega) (by simp; omega)
  have ff := faults_scheme (t := t) (p := p) (ms := p.map (beatsF (sgF t))) rfl
  have ffr := faults_scheme (t := t) (p := p.reverse) (ms := p.reverse.map (beatsF (sgF t))) rfl
  rw [List.map_reverse, List.map_reverse, List.map_reverse] at ffr
  have fo : formB (schF ((p.map lastW).map (tailF t)), p.map (beatsF (sgF t))) = true := formB_iff.mpr ⟨sv, by simp only [schF_len, List.length_map], mb⟩
  have fo2 : formB (schF ((p.map lastW).map (tailF t)).reverse, (p.map (beatsF (sgF t))).reverse) = true := formB_iff.mpr ⟨svr, by simp only [schF_len, List.length_map, List.length_reverse], fun m hm => mb m (List.mem_reverse.mp hm)⟩
  have f1 := faults_ok h pb fo
  have f2 := faults_ok h pbr fo2
  rw [if_pos (by simp only [schF_len, List.length_map]), ff] at f1
  rw [if_pos (by simp only [schF_len, List.length_map, List.length_reverse]), ffr] at f2
  -- the letters tell a word of the book
  have lt := bo.inj
  have rowb : ∀ w ∈ p.map lastW, w ∈ b := fun w hw => by
    obtain ⟨x, hx, rfl⟩ := List.mem_map.mp hw
    exact (hp.lines x hx).2.2 _ (List.mem_of_getLast? (last_mem (wl x hx)))
  have rk : ∀ k ∈ rngN (p.map lastW).length, (p.map lastW)[k]? = some ((p.map lastW).getD k ([], 0)) := fun k hk => by
    rw [mem_rngN] at hk
    rw [List.getD_eq_getElem?_getD, List.getElem?_eq_getElem hk]; rfl
  have ct : ∀ k : Nat, cutL (p.map lastW) none (some (k : Int)) = (p.map lastW).take k := fun k => cutL_to
  have r2 := rng1_N (n := (p.map lastW).length) (by simp; omega)
  have ag : agains (p.map lastW) = (((rngN (p.map lastW).length).filter fun k => decide ((p.map lastW).getD k ([], 0) ∈ (p.map lastW).take k)).map fun k : Nat => ((k : Int), againT)) := by
    unfold agains
    congr 1
    refine List.filter_congr fun k hk => ?_
    rw [mem_rngN] at hk
    rw [List.any_eq]
    congr 1
    apply propext
    have ek : (p.map lastW).getD k ([], 0) = (p.map lastW)[k] := by rw [List.getD_eq_getElem?_getD, List.getElem?_eq_getElem hk]; rfl
    rw [ek]
    constructor
    · rintro ⟨x, hx, e⟩
      have := lt x (rowb x (List.mem_of_mem_take hx)) _ (rowb _ (List.getElem_mem hk)) (of_decide_eq_true e)
      rw [← this]; exact hx
    · intro hx; exact ⟨_, hx, decide_eq_true rfl⟩
  generalize hrow : p.map lastW = row at *
  generalize hms : p.map (beatsF (sgF t)) = ms at *
  generalize hsc : schF (row.map (tailF t)) = sc at *
  obtain ⟨rA, hrA⟩ : ∃ f : Nat → Wd, ∀ k, row.getD k ([], 0) = f k := ⟨_, fun _ => rfl⟩
  simp only [hrA] at rk ag
  clear hrA
  have g1 : D_fits [tblD t, poemD p, formD (sc, ms)] = .ok (.bl (decide (agains row = []))) := by
    simp +contextual -implicitDefEqProofs [-Prod.forall, D_fits, M_fits, f1]
  have g2 : D_fits [tblD t, poemD p.reverse, formD (schF (row.map (tailF t)).reverse, ms.reverse)] = .ok (.bl (decide (agains row = []))) := by
    have e : (agains row.reverse = []) ↔ (agains row = []) := by
      rw [agains_nil, agains_nil, List.map_reverse, nodup_rev]
    simp +contextual -implicitDefEqProofs [-Prod.forall, D_fits, M_fits, f2, e]
  simp +contextual -implicitDefEqProofs [-Prod.forall, D_law_k83, M_law_k83, ht, hb, bn, hn, r0, e1, ew, sb, bt, hms, f1, g1, g2, bk, rk, ct, r2, ag]
  exact fun _ _ _ => rfl
end DL

namespace Wk
theorem law_true (ns : List Int) (hl : ns.length ≤ 63) : den_law [.scr ns] = .ok (.bl true) := DL.law_true ns hl
end Wk
open PySem PySem.W PySem.Calls PyProof.Rows
theorem PySem.Challenge.cw_verseends_k83_whole_poems_by_schemes_holds : PySem.Challenge.rw_verseends_k83_whole_poems_by_schemes.Holds := by
  w_on; o_law
  refine HandSHeadRun.head_any (r := OpenLaw.row PySem.Challenge.rw_verseends_k83_whole_poems_by_schemes) (q := view (OpenLaw.row PySem.Challenge.rw_verseends_k83_whole_poems_by_schemes).prog [70]) (H := Hd.hk) (ob := Hd.ob) (M := 6000) (loose := Hd.loose) (d := HandSHeadRun.topDef (OpenLaw.row PySem.Challenge.rw_verseends_k83_whole_poems_by_schemes).prog 70) (kwd := []) Hd.ob_eq
    (by kernel_rfl) (fun s => by kernel_rfl) Hd.run (by kernel_rfl) (by kernel_rfl) (by kernel_rfl) (by rfl) (by first | assumption | decide +kernel) (by decide +kernel) ⟨rfl, rfl, rfl, rfl, rfl, by decide +kernel⟩ ?hw ?hc
  case hw => w_witness2
  case hc =>
    refine LamX.walk_ofTsE (l := PySem.Challenge.rw_verseends_k83_whole_poems_by_schemes) (n := 63) (k := 10) (x := "_law_script") (CX := fun w => L2.CX (PySem.Challenge.rw_verseends_k83_whole_poems_by_schemes).prog w) rfl (by decide) (by kernel_rfl) ⟨rfl, by decide, by decide⟩ ?F ?X
    · intro w mg fa h Y G hmg0
      obtain ⟨K, KX, c⟩ := Y
      have hmg : mg ("law" : PySem.Str) = some (.ref fa) := by
        have e : (HandSHeadRun.topDef (OpenLaw.row PySem.Challenge.rw_verseends_k83_whole_poems_by_schemes).prog 70).name = ("law" : PySem.Str) := by kernel_rfl
        rw [← e]
        exact hmg0
      obtain ⟨fd, hb, hF⟩ := Wk.fn_law (P := (PySem.Challenge.rw_verseends_k83_whole_poems_by_schemes).prog) (w := w) KX G hmg c.t.d c.more
      have none_in : ∀ {p : Addr × Addr} {R : Prop}, p ∈ ([] : List (Addr × Addr)) → R := fun z => (List.not_mem_nil z).elim
      exact ⟨K, KX, fd, [], DL.spD K 1 Wk.den_law, fun _ z => none_in z, fun _ z => none_in z, fun _ z => none_in z, hb, fun H a ns hl _ _ hS => DL.law_sp hS (Wk.law_true ns hl), fun b kb nb _ => hF b kb nb⟩
    · exact fun _ H s e s' z => by
        obtain ⟨_, _, _, _, _, _, _, _, _, _, _, _, z⟩ := z
        exact z.elim

