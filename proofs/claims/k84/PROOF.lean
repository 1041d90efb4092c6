import PyProof.Rows.All
import HandS.ForMost
import HandS.ForExc
import HandS.CallSlots
import HandS.IsInst
import HandS.TupAny
import HandS.TupMul
import HandS.TupLe
import HandS.SortInts
import HandS.TupSets
import HandS.Deep
import HandS.Style
import HandS.Zip
import HandS.Conv
import HandS.Flow
import KE.GoesEnum
import HandS.ExcIs
import KE.KRevSl
import KE.KDictDisplayH
import HandS.FStr
import HandS.Text
import PySem.Challenge.RW_chairline_k84_whole_texts
set_option Elab.async false
set_option linter.all false
set_option maxRecDepth 100000
set_option maxHeartbeats 8000000
/-! The data layer: values as plain data, owned lists, what an expression tells of them. -/
namespace DL
open PySem PySem.Spec PyProof.Rows L2

/-! ### data -/
inductive D where
  | non | bl (b : Bool) | int (i : Int) | str (x : Str) | tup (l : List D) | lst (l : List D) | ty (n : String)
  /-- a class or a def of the module by its name; true: an error that was caught, by its class's name -/
  | nam (b : Bool) (c : Str)
  /-- the script -/
  | scr (ns : List Int)
  /-- a dict whose keys are tuples of ints -/
  | dic (ks : List (List Int)) (ds : List D)

/-- an error of the class at C that was caught, kept at a -/
def CaO (C a : Addr) : HO := .ext fun h => ∃ (oe : Obj) (vs : Array Value), h.get? a = some oe ∧ Zc (.ref C) none oe ∧ oe.data = .fields vs

def keyI (k : List Int) : List Key := k.map .inl
mutual
inductive RepD (K : PySem.W.Frag) (F : Hp) : V → D → Prop where
  | non : RepD K F .non .non
  | bl (b : Bool) : RepD K F (.bl b) (.bl b)
  | int (i : Int) : RepD K F (.int i) (.int i)
  | str (x : Str) : RepD K F (.str x) (.str x)
  | ty (n : String) : RepD K F (.ty n) (.ty n)
  | glob {C : Addr} {c : Str} : PySem.W.nsIn K mainGlobals c = some (some (.ref C)) → RepD K F (.ref C) (.nam false c)
  | exn {a C : Addr} {c : Str} : PySem.W.nsIn K mainGlobals c = some (some (.ref C)) → F a = some (CaO C a) → RepD K F (.ref a) (.nam true c)
  | scr {a : Addr} {ns : List Int} : SqL K F a (ns.map V.int) → RepD K F (.ref a) (.scr ns)
  | tup {a : Addr} {vs : List V} {ds : List D} : F a = some (.tup vs) → RepDs K F vs ds → RepD K F (.ref a) (.tup ds)
  | dic {a : Addr} {kvs : List (List Key × V)} {ks : List (List Int)} {ds : List D} : F a = some (.dT kvs) → kvs.map (·.1) = ks.map keyI → RepDs K F (kvs.map (·.2)) ds → RepD K F (.ref a) (.dic ks ds)
  | lst {a : Addr} {vs : List V} {ds : List D} : Rd F a (.lst vs) → RepDs K F vs ds → RepD K F (.ref a) (.lst ds)
inductive RepDs (K : PySem.W.Frag) (F : Hp) : List V → List D → Prop where
  | nil : RepDs K F [] []
  | cons {v : V} {d : D} {vs : List V} {ds : List D} : RepD K F v d → RepDs K F vs ds → RepDs K F (v :: vs) (d :: ds)
end

theorem sameL {H H' : Hp} {a : Addr} {u : HO} (e : Same H H') (h : Rd H a u) : Rd H' a u := by
  rcases h with h | ⟨o, h⟩
  · exact .inl (e _ _ h)
  · exact .inr ⟨o, e _ _ h⟩
theorem sameT {K : PySem.W.Frag} {H H' : Hp} {a : Addr} {xs : List V} (e : Same H H') (h : SqT K H a xs) : SqT K H' a xs := by
  rcases h with (h | ⟨o, h⟩) | h
  · exact .inl (.inl (e _ _ h))
  · exact .inl (.inr ⟨o, e _ _ h⟩)
  · exact .inr h

mutual
theorem RepD.mono {K : PySem.W.Frag} {F F' : Hp} (e : Same F F') : ∀ {v : V} {d : D}, RepD K F v d → RepD K F' v d
  | _, _, .non => .non
  | _, _, .bl b => .bl b
  | _, _, .int i => .int i
  | _, _, .str x => .str x
  | _, _, .ty n => .ty n
  | _, _, .glob h => .glob h
  | _, _, .exn h q => .exn h (e _ _ q)
  | _, _, .scr h => .scr (e.seq h)
  | _, _, .tup h r => .tup (e _ _ h) (RepDs.mono e r)
  | _, _, .dic h k r => .dic (e _ _ h) k (RepDs.mono e r)
  | _, _, .lst h r => .lst (sameL e h) (RepDs.mono e r)
theorem RepDs.mono {K : PySem.W.Frag} {F F' : Hp} (e : Same F F') : ∀ {vs : List V} {ds : List D}, RepDs K F vs ds → RepDs K F' vs ds
  | _, _, .nil => .nil
  | _, _, .cons h r => .cons (RepD.mono e h) (RepDs.mono e r)
end
section
variable {K : PySem.W.Frag} {F : Hp}
theorem RepDs.length : ∀ {vs : List V} {ds : List D}, RepDs K F vs ds → vs.length = ds.length
  | _, _, .nil => rfl
  | _, _, .cons _ r => by rw [List.length_cons, List.length_cons, RepDs.length r]
theorem RepDs.get : ∀ {vs : List V} {ds : List D} {i : Nat} {d : D}, RepDs K F vs ds → ds[i]? = some d → ∃ v, vs[i]? = some v ∧ RepD K F v d
  | _, _, _, _, .nil, e => by simp at e
  | _, _, 0, _, .cons h _, e => by simp at e; subst e; exact ⟨_, rfl, h⟩
  | _, _, i + 1, _, .cons _ r, e => by
    obtain ⟨v, h1, h2⟩ := RepDs.get (i := i) r (by simpa using e)
    exact ⟨v, by simpa using h1, h2⟩
theorem RepDs.getv : ∀ {vs : List V} {ds : List D} {i : Nat} {v : V}, RepDs K F vs ds → vs[i]? = some v → ∃ d, ds[i]? = some d ∧ RepD K F v d
  | _, _, _, _, .nil, e => by simp at e
  | _, _, 0, _, .cons h _, e => by simp at e; subst e; exact ⟨_, rfl, h⟩
  | _, _, i + 1, _, .cons _ r, e => by
    obtain ⟨v, h1, h2⟩ := RepDs.getv (i := i) r (by simpa using e)
    exact ⟨v, by simpa using h1, h2⟩
theorem RepDs.append : ∀ {vs us : List V} {ds es : List D}, RepDs K F vs ds → RepDs K F us es → RepDs K F (vs ++ us) (ds ++ es)
  | _, _, _, _, .nil, r => r
  | _, _, _, _, .cons h t, r => .cons h (RepDs.append t r)
theorem RepDs.take : ∀ {vs : List V} {ds : List D} (n : Nat), RepDs K F vs ds → RepDs K F (vs.take n) (ds.take n)
  | _, _, 0, _ => .nil
  | _, _, _ + 1, .nil => .nil
  | _, _, n + 1, .cons h r => .cons h (RepDs.take n r)
theorem RepDs.drop : ∀ {vs : List V} {ds : List D} (n : Nat), RepDs K F vs ds → RepDs K F (vs.drop n) (ds.drop n)
  | _, _, 0, r => r
  | _, _, _ + 1, .nil => .nil
  | _, _, n + 1, .cons _ r => RepDs.drop n r
theorem RepDs.set {v : V} {d : D} (h : RepD K F v d) : ∀ {vs : List V} {ds : List D} (n : Nat), RepDs K F vs ds → RepDs K F (vs.set n v) (ds.set n d)
  | _, _, _, .nil => .nil
  | _, _, 0, .cons _ r => .cons h r
  | _, _, n + 1, .cons q r => .cons q (RepDs.set h n r)
theorem RepDs.reverse : ∀ {vs : List V} {ds : List D}, RepDs K F vs ds → RepDs K F vs.reverse ds.reverse
  | _, _, .nil => .nil
  | _, _, .cons h r => by
    rw [List.reverse_cons, List.reverse_cons]
    exact (RepDs.reverse r).append (.cons h .nil)
theorem RepDs.of_ints : ∀ ns : List Int, RepDs K F (ns.map V.int) (ns.map D.int)
  | [] => .nil
  | n :: r => .cons (.int n) (RepDs.of_ints r)
theorem RepDs.ints : ∀ {vs : List V} {ns : List Int}, RepDs K F vs (ns.map D.int) → vs = ns.map V.int
  | _, [], .nil => rfl
  | _, n :: r, .cons (.int _) t => by rw [List.map_cons, ← RepDs.ints t]
end

/-! ### what a name may hold: data for good, or a list of its own -/
inductive W where
  | v (d : D)
  /-- a list that nobody else holds; true: handed in by the caller, who gets it back -/
  | l (b : Bool) (ds : List D)
  /-- a dict that nobody else holds -/
  | m (ks : List (List Int)) (ds : List D)

abbrev Fp := Addr → Prop
def RepW (K : PySem.W.Frag) (F H : Hp) (v : V) (w : W) (p : Fp) : Prop := match w with
  | .v d => (∀ a, ¬ p a) ∧ RepD K F v d
  | .l _ ds => ∃ a vs, v = .ref a ∧ (∀ b, p b ↔ b = a) ∧ H a = some (.lst vs) ∧ F a = none ∧ RepDs K F vs ds
  | .m ks ds => ∃ a kvs, v = .ref a ∧ (∀ b, p b ↔ b = a) ∧ H a = some (.dT kvs) ∧ F a = none ∧ kvs.map (·.1) = ks.map keyI ∧ RepDs K F (kvs.map (·.2)) ds

theorem RepW.there {K : PySem.W.Frag} {F H : Hp} {v : V} {w : W} {p : Fp} (h : RepW K F H v w p) {a : Addr} (q : p a) : (∃ o, H a = some o) ∧ F a = none := by
  cases w with
  | v d => exact absurd q (h.1 a)
  | l b ds =>
    obtain ⟨c, vs, _, hp, hc, hf, _⟩ := h
    obtain rfl := (hp a).mp q
    exact ⟨⟨_, hc⟩, hf⟩
  | m ks ds =>
    obtain ⟨c, vs, _, hp, hc, hf, _⟩ := h
    obtain rfl := (hp a).mp q
    exact ⟨⟨_, hc⟩, hf⟩
theorem RepW.frame {K : PySem.W.Frag} {F F' H H' : Hp} {v : V} {w : W} {p : Fp} (h : RepW K F H v w p) (e : Same F F') (k : ∀ a o, p a → H a = some o → H' a = some o) (n : ∀ a, p a → F' a = none) : RepW K F' H' v w p := by
  cases w with
  | v d => exact ⟨h.1, h.2.mono e⟩
  | l b ds =>
    obtain ⟨c, vs, rfl, hp, hc, hf, r⟩ := h
    have pc := (hp c).mpr rfl
    exact ⟨c, vs, rfl, hp, k c _ pc hc, n c pc, r.mono e⟩
  | m ks ds =>
    obtain ⟨c, vs, rfl, hp, hc, hf, hk, r⟩ := h
    have pc := (hp c).mpr rfl
    exact ⟨c, vs, rfl, hp, k c _ pc hc, n c pc, hk, r.mono e⟩

abbrev DEnv := List (Option W)
inductive U where
  | w (w : W)
  /-- what the i-th name holds -/
  | b (i : Nat)
def RepU (K : PySem.W.Frag) (F H : Hp) (σ : L2.St) (v : V) (u : U) (p : Fp) : Prop := match u with
  | .w w => RepW K F H v w p
  | .b i => (∀ a, ¬ p a) ∧ σ[i]? = some (some v)

structure Sit (K : PySem.W.Frag) (F : Hp) (σ : L2.St) (H : Hp) (env : DEnv) (own : Nat → Fp) : Prop where
  ex : Same F H
  len : env.length = σ.length
  rep : ∀ i w, env[i]? = some (some w) → ∃ v, σ[i]? = some (some v) ∧ RepW K F H v w (own i)
  emp : ∀ i a, own i a → ∃ w, env[i]? = some (some w)
  dis : ∀ i j a, own i a → own j a → i = j
def all (own : Nat → Fp) : Fp := fun a => ∃ i, own i a

structure Step (F H : Hp) (fp : Fp) (F' H' : Hp) (fp' : Fp) : Prop where
  ex : Same F F'
  keep : ∀ a o, H a = some o → ¬ fp a → H' a = some o
  new : ∀ a, fp' a → fp a ∨ H a = none
  frz : ∀ a o, F' a = some o → F a = none → fp a ∨ H a = none

section
variable {F H F1 H1 F2 H2 : Hp} {fp fp1 fp2 : Fp}
theorem Step.refl : Step F H fp F H fp := ⟨Same.refl _, fun _ _ h _ => h, fun _ h => .inl h, fun _ _ h h' => by rw [h] at h'; cases h'⟩
theorem Step.gone (s : Step F H fp F1 H1 fp1) {a : Addr} (h : H1 a = none) : fp a ∨ H a = none := by
  by_cases q : fp a
  · exact .inl q
  · cases e : H a with
    | none => exact .inr rfl
    | some o => rw [s.keep a o e q] at h; cases h
theorem Step.trans (s : Step F H fp F1 H1 fp1) (t : Step F1 H1 fp1 F2 H2 fp2) : Step F H fp F2 H2 fp2 where
  ex := s.ex.trans t.ex
  keep := fun a o h n => t.keep a o (s.keep a o h n) fun q => by
    rcases s.new a q with z | z
    · exact n z
    · rw [h] at z; cases z
  new := fun a h => by
    rcases t.new a h with z | z
    · exact s.new a z
    · exact s.gone z
  frz := fun a o h n => by
    cases e : F1 a with
    | some u => exact s.frz a u e n
    | none =>
      rcases t.frz a o h e with z | z
      · exact s.new a z
      · exact s.gone z
/-- more that is owned, untouched -/
theorem Step.more (s : Step F H fp F1 H1 fp1) (p : Fp) : Step F H (fun a => fp a ∨ p a) F1 H1 (fun a => fp1 a ∨ p a) where
  ex := s.ex
  keep := fun a o h n => s.keep a o h fun q => n (.inl q)
  new := fun a h => by
    rcases h with h | h
    · rcases s.new a h with z | z
      · exact .inl (.inl z)
      · exact .inr z
    · exact .inl (.inr h)
  frz := fun a o h n => by
    rcases s.frz a o h n with z | z
    · exact .inl (.inl z)
    · exact .inr z
theorem Step.sub (s : Step F H fp F1 H1 fp1) (h : ∀ a, fp2 a → fp1 a) : Step F H fp F1 H1 fp2 := ⟨s.ex, s.keep, fun a q => s.new a (h a q), s.frz⟩
theorem Step.sup (s : Step F H fp F1 H1 fp1) (h : ∀ a, fp a → fp2 a) : Step F H fp2 F1 H1 fp1 :=
  ⟨s.ex, fun a o q n => s.keep a o q fun z => n (h a z), fun a q => (s.new a q).imp_left (h a), fun a o q n => (s.frz a o q n).imp_left (h a)⟩
end

section
variable {K : PySem.W.Frag} {F H F1 H1 : Hp} {σ : L2.St} {env : DEnv} {own : Nat → Fp}
theorem Sit.there (S : Sit K F σ H env own) {a : Addr} (q : all own a) : (∃ o, H a = some o) ∧ F a = none := by
  obtain ⟨i, h⟩ := q
  obtain ⟨w, e⟩ := S.emp i a h
  obtain ⟨v, _, r⟩ := S.rep i w e
  exact r.there h
/-- something owned elsewhere persists -/
theorem RepW.stepW {v : V} {w : W} {p fp fp1 : Fp} (r : RepW K F H v w p) (d : ∀ a, p a → ¬ fp a) (s : Step F H fp F1 H1 fp1) : RepW K F1 H1 v w p ∧ ∀ a, p a → ¬ fp1 a := by
  refine ⟨r.frame s.ex (fun a o q e => s.keep a o e (d a q)) fun a q => ?_, fun a q z => ?_⟩
  · obtain ⟨⟨o, e⟩, hf⟩ := r.there q
    cases z : F1 a with
    | none => rfl
    | some u =>
      rcases s.frz a u z hf with y | y
      · exact absurd y (d a q)
      · rw [e] at y; cases y
  · obtain ⟨⟨o, e⟩, hf⟩ := r.there q
    rcases s.new a z with y | y
    · exact d a q y
    · rw [e] at y; cases y
theorem RepU.stepU {v : V} {u : U} {p fp fp1 : Fp} (r : RepU K F H σ v u p) (d : ∀ a, p a → ¬ fp a) (s : Step F H fp F1 H1 fp1) : RepU K F1 H1 σ v u p ∧ ∀ a, p a → ¬ fp1 a := by
  cases u with
  | w w => exact RepW.stepW r d s
  | b i => exact ⟨r, fun a q => absurd q (r.1 a)⟩

/-- the data of what was told -/
def datW : W → D
  | .v d => d
  | .l _ ds => .lst ds
  | .m ks ds => .dic ks ds
def dat (env : DEnv) : U → Option D
  | .w w => some (datW w)
  | .b i => match env[i]? with
    | some (some w) => some (datW w)
    | _ => none
/-- what may be read as data just now -/
def View (K : PySem.W.Frag) (F H : Hp) (v : V) (d : D) : Prop := match d with
  | .lst ds => ∃ a vs, v = .ref a ∧ Rd H a (.lst vs) ∧ RepDs K F vs ds
  | .dic ks ds => ∃ a kvs, v = .ref a ∧ H a = some (.dT kvs) ∧ kvs.map (·.1) = ks.map keyI ∧ RepDs K F (kvs.map (·.2)) ds
  | d => RepD K F v d
theorem View.of {v : V} {d : D} (e : Same F H) (r : RepD K F v d) : View K F H v d := by
  cases r with
  | lst h q => exact ⟨_, _, rfl, sameL e h, q⟩
  | dic h k q => exact ⟨_, _, rfl, e _ _ h, k, q⟩
  | _ => first | exact .non | exact .bl _ | exact .int _ | exact .str _ | exact .ty _ | (rename_i h; exact .glob h) | (rename_i h q; exact .exn h q) | (rename_i h; exact .scr h) | (rename_i h q; exact .tup h q)
theorem View.mono {v : V} {d : D} (h : View K F H v d) (e : Same F F1) (k : Same H H1) : View K F1 H1 v d := by
  cases d with
  | lst ds => obtain ⟨a, vs, rfl, q, r⟩ := h; exact ⟨a, vs, rfl, sameL k q, r.mono e⟩
  | dic ks ds => obtain ⟨a, vs, rfl, q, hk, r⟩ := h; exact ⟨a, vs, rfl, k _ _ q, hk, r.mono e⟩
  | _ => exact RepD.mono e h
theorem RepW.view {v : V} {w : W} {p : Fp} (e : Same F H) (r : RepW K F H v w p) : View K F H v (datW w) := by
  cases w with
  | v d => exact View.of e r.2
  | l b ds =>
    obtain ⟨a, vs, rfl, _, hc, _, q⟩ := r
    exact ⟨a, vs, rfl, .inl hc, q⟩
  | m ks ds =>
    obtain ⟨a, vs, rfl, _, hc, _, hk, q⟩ := r
    exact ⟨a, vs, rfl, hc, hk, q⟩
theorem RepU.view {v : V} {u : U} {p : Fp} {d : D} (S : Sit K F σ H env own) (r : RepU K F H σ v u p) (h : dat env u = some d) : View K F H v d := by
  cases u with
  | w w =>
    have e : datW w = d := Option.some.inj h
    subst e
    exact RepW.view S.ex r
  | b i =>
    have h : (match env[i]? with | some (some w) => some (datW w) | _ => none) = some d := h
    split at h
    · rename_i w hw
      obtain ⟨v', e1, r'⟩ := S.rep i w hw
      have e : datW w = d := Option.some.inj h
      subst e
      have e2 : v' = v := by
        rw [r.2] at e1
        injection e1 with e1
        injection e1 with e1
        exact e1.symm
      subst e2
      exact RepW.view S.ex r'
    · cases h
end
end DL

namespace DL
open PySem PySem.Spec PyProof.Rows L2

/-! ### what a run tells -/
inductive R (α : Type) where
  | ok (a : α) (env : DEnv)
  | raise (c : Str) (env : DEnv)
  | stuck
abbrev M (α : Type) := DEnv → R α
def R.bind {α β : Type} (r : R α) (k : α → DEnv → R β) : R β := match r with
  | .ok a e => k a e
  | .raise c e => .raise c e
  | .stuck => .stuck
@[simp] theorem R.bind_ok {α β : Type} (a : α) (e : DEnv) (k : α → DEnv → R β) : (R.ok a e).bind k = k a e := Eq.trans rfl rfl
@[simp] theorem R.bind_raise {α β : Type} (c : Str) (e : DEnv) (k : α → DEnv → R β) : (R.raise c e).bind k = .raise c e := Eq.trans rfl rfl
@[simp] theorem R.bind_stuck {α β : Type} (k : α → DEnv → R β) : (R.stuck).bind k = .stuck := Eq.trans rfl rfl

structure OutR (K : PySem.W.Frag) (F H : Hp) (own : Nat → Fp) (σ' : L2.St) (env' : DEnv) (F' H' : Hp) (own' : Nat → Fp) : Prop where
  S : Sit K F' σ' H' env' own'
  s : Step F H (all own) F' H' (all own')
structure Out (K : PySem.W.Frag) (F H : Hp) (own : Nat → Fp) (σ' : L2.St) (u : U) (v : V) (env' : DEnv) (F' H' : Hp) (own' : Nat → Fp) (p : Fp) : Prop where
  S : Sit K F' σ' H' env' own'
  r : RepU K F' H' σ' v u p
  d : ∀ a, p a → ¬ all own' a
  s : Step F H (all own) F' H' (fun a => all own' a ∨ p a)
structure Out2 (K : PySem.W.Frag) (F H : Hp) (own : Nat → Fp) (σ' : L2.St) (u1 u2 : U) (v1 v2 : V) (env' : DEnv) (F' H' : Hp) (own' : Nat → Fp) (p1 p2 : Fp) : Prop where
  S : Sit K F' σ' H' env' own'
  r1 : RepU K F' H' σ' v1 u1 p1
  r2 : RepU K F' H' σ' v2 u2 p2
  d1 : ∀ a, p1 a → ¬ all own' a
  d2 : ∀ a, p2 a → ¬ all own' a
  d12 : ∀ a, p1 a → ¬ p2 a
  s : Step F H (all own) F' H' (fun a => (all own' a ∨ p2 a) ∨ p1 a)

/-- no other slots were stored to -/
def Only (is : List Nat) (σ σ' : L2.St) : Prop := σ'.length = σ.length ∧ ∀ j : Nat, j ∉ is → σ'[j]? = σ[j]?
theorem Only.refl {is : List Nat} {σ : L2.St} : Only is σ σ := ⟨rfl, fun _ _ => rfl⟩
theorem Only.trans {is js : List Nat} {σ σ1 σ2 : L2.St} (a : Only is σ σ1) (b : Only js σ1 σ2) : Only (is ++ js) σ σ2 :=
  ⟨b.1.trans a.1, fun j h => (b.2 j fun z => h (List.mem_append_right _ z)).trans (a.2 j fun z => h (List.mem_append_left _ z))⟩
theorem Only.sub {is js : List Nat} {σ σ' : L2.St} (a : Only is σ σ') (h : ∀ i ∈ is, i ∈ js) : Only js σ σ' := ⟨a.1, fun j n => a.2 j fun z => n (h j z)⟩
theorem Only.left {is : List Nat} (js : List Nat) {σ σ' : L2.St} (a : Only is σ σ') : Only (is ++ js) σ σ' := a.sub fun _ h => List.mem_append_left _ h
theorem Only.right {js : List Nat} (is : List Nat) {σ σ' : L2.St} (a : Only js σ σ') : Only (is ++ js) σ σ' := a.sub fun _ h => List.mem_append_right _ h
theorem Only.set {i : Nat} {σ : L2.St} {v : Option V} : Only [i] σ (σ.set i v) := ⟨List.length_set, fun j hj => List.getElem?_set_ne fun z => hj (by simp [z])⟩
theorem Only.join {is : List Nat} {σ σ1 σ2 : L2.St} (a : Only is σ σ1) (b : Only is σ1 σ2) : Only is σ σ2 := (a.trans b).sub fun i h => (List.mem_append.mp h).elim id id
section
variable (K : PySem.W.Frag) (mg : Str → Option Value) (Wx : WX)
/-- the reading of an expression that tells f -/
def tOf (f : M U) : TE := fun σ H Q => ∃ F env own, Sit K F σ H env own ∧ match f env with
  | .ok u env' => ∀ v F' H' own' p, Out K F H own σ u v env' F' H' own' p → Q v H'
  | .raise c env' => ∀ C F' H' own', mg c = some (.ref C) → OutR K F H own σ env' F' H' own' → Wx (.ref C) none σ H'
  | .stuck => False
/-- of a test -/
def ttOf (f : M Bool) : TT := fun σ H Q => ∃ F env own, Sit K F σ H env own ∧ match f env with
  | .ok b env' => ∀ F' H' own', OutR K F H own σ env' F' H' own' → Q b H'
  | .raise c env' => ∀ C F' H' own', mg c = some (.ref C) → OutR K F H own σ env' F' H' own' → Wx (.ref C) none σ H'
  | .stuck => False
/-- how a statement ends -/
inductive Fl where
  | next | brk | cont | ret (u : U)
def sOf (is : List Nat) (f : M Fl) : TS := fun E σ H => ∃ F env own, Sit K F σ H env own ∧ match f env with
  | .ok .next env' => ∀ σ' F' H' own', Only is σ σ' → OutR K F H own σ' env' F' H' own' → E.nx σ' H'
  | .ok .brk env' => ∀ σ' F' H' own', Only is σ σ' → OutR K F H own σ' env' F' H' own' → E.bk σ' H'
  | .ok .cont env' => ∀ σ' F' H' own', Only is σ σ' → OutR K F H own σ' env' F' H' own' → E.ct σ' H'
  | .ok (.ret u) env' => ∀ v σ' F' H' own' p, Only is σ σ' → Out K F H own σ' u v env' F' H' own' p → E.rt v H'
  | .raise c env' => ∀ C σ' F' H' own', Only is σ σ' → mg c = some (.ref C) → OutR K F H own σ' env' F' H' own' → Wx (.ref C) none σ' H'
  | .stuck => False
end

abbrev EvS (X : Cx) (Wx : WX) (e : Expr) (f : M U) : Prop := PE X e (tOf X.K X.mg Wx f)
abbrev TtS (X : Cx) (Wx : WX) (e : Expr) (f : M Bool) : Prop := PT X e (ttOf X.K X.mg Wx f)
abbrev StS (X : Cx) (Wx : WX) (st : Stmt) (is : List Nat) (f : M Fl) : Prop := PS X st (sOf X.K X.mg Wx is f)
abbrev SsS (X : Cx) (Wx : WX) (st : List Stmt) (is : List Nat) (f : M Fl) : Prop := PSs X st (sOf X.K X.mg Wx is f)

theorem PE.imp {X : Cx} {e : Expr} {t t' : TE} (h : PE X e t) (i : ∀ σ H Q, t' σ H Q → t σ H Q) : PE X e t' := ⟨fun pins s σ H Q I q => h.run pins s σ H Q I (i σ H Q q)⟩
theorem PT.imp {X : Cx} {e : Expr} {t t' : TT} (h : PT X e t) (i : ∀ σ H Q, t' σ H Q → t σ H Q) : PT X e t' := ⟨fun pins s σ H Q I q => h.run pins s σ H Q I (i σ H Q q)⟩
theorem PW.imp {X : Cx} {e : Expr} {t t' : TT} (h : PW X e t) (i : ∀ σ H Q, t' σ H Q → t σ H Q) : PW X e t' := ⟨fun wh pins s σ H Q I q => h.run wh pins s σ H Q I (i σ H Q q)⟩
theorem PS.imp {X : Cx} {e : Stmt} {t t' : TS} (h : PS X e t) (i : ∀ D σ H, t' D σ H → t D σ H) : PS X e t' := ⟨fun pins s σ H D I q => h.run pins s σ H D I (i D σ H q)⟩
theorem PSs.imp {X : Cx} {e : List Stmt} {t t' : TS} (h : PSs X e t) (i : ∀ D σ H, t' D σ H → t D σ H) : PSs X e t' := ⟨fun pins s σ H D I q => h.run pins s σ H D I (i D σ H q)⟩

section
variable {K : PySem.W.Frag} {mg : Str → Option Value} {Wx : WX} {F H F1 H1 F2 H2 : Hp} {σ σ1 σ2 : L2.St} {env env1 env2 : DEnv} {own own1 own2 : Nat → Fp}

theorem OutR.refl (S : Sit K F σ H env own) : OutR K F H own σ env F H own := ⟨S, Step.refl⟩
theorem OutR.trans (a : OutR K F H own σ1 env1 F1 H1 own1) (b : OutR K F1 H1 own1 σ2 env2 F2 H2 own2) : OutR K F H own σ2 env2 F2 H2 own2 := ⟨b.S, a.s.trans b.s⟩
theorem OutR.out {u : U} {v : V} {p : Fp} (a : OutR K F H own σ1 env1 F1 H1 own1) (b : Out K F1 H1 own1 σ2 u v env2 F2 H2 own2 p) : Out K F H own σ2 u v env2 F2 H2 own2 p := ⟨b.S, b.r, b.d, a.s.trans b.s⟩
/-- what was told is dropped -/
theorem Out.drop {u : U} {v : V} {p : Fp} (b : Out K F H own σ2 u v env2 F2 H2 own2 p) : OutR K F H own σ2 env2 F2 H2 own2 := ⟨b.S, b.s.sub fun _ h => .inl h⟩
/-- then something is run, what was told stays -/
theorem Out.then {u : U} {v : V} {p : Fp} (a : Out K F H own σ u v env1 F1 H1 own1 p) (b : OutR K F1 H1 own1 σ env2 F2 H2 own2) : Out K F H own σ u v env2 F2 H2 own2 p := by
  obtain ⟨r, d⟩ := a.r.stepU a.d b.s
  exact ⟨b.S, r, d, a.s.trans (b.s.more p)⟩
theorem Out.out2 {u1 u2 : U} {v1 v2 : V} {p1 p2 : Fp} (a : Out K F H own σ u1 v1 env1 F1 H1 own1 p1) (b : Out K F1 H1 own1 σ u2 v2 env2 F2 H2 own2 p2) : Out2 K F H own σ u1 u2 v1 v2 env2 F2 H2 own2 p1 p2 := by
  obtain ⟨r, d⟩ := a.r.stepU a.d b.s
  exact ⟨b.S, r, b.r, fun a q z => d a q (.inl z), b.d, fun a q z => d a q (.inr z), a.s.trans (b.s.more p1)⟩
theorem Out2.drop {u1 u2 : U} {v1 v2 : V} {p1 p2 : Fp} (a : Out2 K F H own σ u1 u2 v1 v2 env1 F1 H1 own1 p1 p2) : OutR K F H own σ env1 F1 H1 own1 := ⟨a.S, a.s.sub fun _ h => .inl (.inl h)⟩
theorem Out2.fst {u1 u2 : U} {v1 v2 : V} {p1 p2 : Fp} (a : Out2 K F H own σ u1 u2 v1 v2 env1 F1 H1 own1 p1 p2) : Out K F H own σ u1 v1 env1 F1 H1 own1 p1 := ⟨a.S, a.r1, a.d1, a.s.sub fun _ h => h.imp_left .inl⟩
theorem Out2.snd {u1 u2 : U} {v1 v2 : V} {p1 p2 : Fp} (a : Out2 K F H own σ u1 u2 v1 v2 env1 F1 H1 own1 p1 p2) : Out K F H own σ u2 v2 env1 F1 H1 own1 p2 := ⟨a.S, a.r2, a.d2, a.s.sub fun _ h => .inl h⟩

/-- run fa at a state, then go on -/
theorem tOf_use {fa : M U} {Q : VK} (S : Sit K F σ H env own)
    (hok : ∀ u env1, fa env = .ok u env1 → ∀ v F1 H1 own1 p, Out K F H own σ u v env1 F1 H1 own1 p → Q v H1)
    (hr : ∀ c env1, fa env = .raise c env1 → ∀ C F1 H1 own1, mg c = some (.ref C) → OutR K F H own σ env1 F1 H1 own1 → Wx (.ref C) none σ H1)
    (hs : fa env ≠ .stuck) : tOf K mg Wx fa σ H Q := by
  refine ⟨F, env, own, S, ?_⟩
  cases e : fa env with
  | ok u env1 => exact hok u env1 e
  | raise c env1 => exact hr c env1 e
  | stuck => exact hs e
theorem ttOf_use {fa : M Bool} {Q : Bool → Hp → Prop} (S : Sit K F σ H env own)
    (hok : ∀ b env1, fa env = .ok b env1 → ∀ F1 H1 own1, OutR K F H own σ env1 F1 H1 own1 → Q b H1)
    (hr : ∀ c env1, fa env = .raise c env1 → ∀ C F1 H1 own1, mg c = some (.ref C) → OutR K F H own σ env1 F1 H1 own1 → Wx (.ref C) none σ H1)
    (hs : fa env ≠ .stuck) : ttOf K mg Wx fa σ H Q := by
  refine ⟨F, env, own, S, ?_⟩
  cases e : fa env with
  | ok u env1 => exact hok u env1 e
  | raise c env1 => exact hr c env1 e
  | stuck => exact hs e

/-- something then k: run fa, then what k says is left -/
theorem tOf_bind {β : Type} {fa : M U} {k : U → M β} {P : R β → Hp → Hp → (Nat → Fp) → Prop} {Q : VK} (S : Sit K F σ H env own) (h : P ((fa env).bind k) F H own)
    (hp : ∀ c env', P (.raise c env') F H own → ∀ C F1 H1 own1, mg c = some (.ref C) → OutR K F H own σ env' F1 H1 own1 → Wx (.ref C) none σ H1) (hn : ¬ P .stuck F H own)
    (hok : ∀ u env1, fa env = .ok u env1 → P (k u env1) F H own → ∀ v F1 H1 own1 p, Out K F H own σ u v env1 F1 H1 own1 p → Q v H1) : tOf K mg Wx fa σ H Q := by
  refine tOf_use S (fun u env1 e => hok u env1 e (by rw [e] at h; exact h)) (fun c env1 e => hp c env1 (by rw [e] at h; exact h)) (fun e => hn (by rw [e] at h; exact h))
end
end DL

namespace DL
open PySem PySem.Spec PyProof.Rows L2

/-! ### lists of expressions -/
def RepUs (K : PySem.W.Frag) (F H : Hp) (σ : L2.St) : List V → List U → Fp → Prop
  | [], [], p => ∀ a, ¬ p a
  | v :: vs, u :: us, p => ∃ p1 p2 : Fp, (∀ a, p a ↔ p1 a ∨ p2 a) ∧ (∀ a, p1 a → ¬ p2 a) ∧ RepU K F H σ v u p1 ∧ RepUs K F H σ vs us p2
  | _, _, _ => False
structure OutL (K : PySem.W.Frag) (F H : Hp) (own : Nat → Fp) (σ' : L2.St) (us : List U) (vs : List V) (env' : DEnv) (F' H' : Hp) (own' : Nat → Fp) (p : Fp) : Prop where
  S : Sit K F' σ' H' env' own'
  r : RepUs K F' H' σ' vs us p
  d : ∀ a, p a → ¬ all own' a
  s : Step F H (all own) F' H' (fun a => all own' a ∨ p a)
def aOf (K : PySem.W.Frag) (mg : Str → Option Value) (Wx : WX) (f : M (List U)) : TA := fun σ H Q => ∃ F env own, Sit K F σ H env own ∧ match f env with
  | .ok us env' => ∀ vs F' H' own' p, OutL K F H own σ us vs env' F' H' own' p → Q vs H'
  | .raise c env' => ∀ C F' H' own', mg c = some (.ref C) → OutR K F H own σ env' F' H' own' → Wx (.ref C) none σ H'
  | .stuck => False
def evs : List (M U) → M (List U)
  | [], env => .ok [] env
  | f :: fs, env => (f env).bind fun u e1 => (evs fs e1).bind fun us e2 => .ok (u :: us) e2
abbrev EaS (X : Cx) (Wx : WX) (es : List Expr) (fs : List (M U)) : Prop := PA X es (aOf X.K X.mg Wx (evs fs))
theorem PA.imp {X : Cx} {e : List Expr} {t t' : TA} (h : PA X e t) (i : ∀ σ H Q, t' σ H Q → t σ H Q) : PA X e t' := ⟨fun pos pins s σ H Q I q => h.run pos pins s σ H Q I (i σ H Q q)⟩

section
variable {K : PySem.W.Frag} {mg : Str → Option Value} {Wx : WX} {F H F1 H1 F2 H2 : Hp} {σ σ1 σ2 : L2.St} {env env1 env2 : DEnv} {own own1 own2 : Nat → Fp}
theorem RepUs.stepU : ∀ {vs : List V} {us : List U} {p fp fp1 : Fp}, RepUs K F H σ vs us p → (∀ a, p a → ¬ fp a) → Step F H fp F1 H1 fp1 → RepUs K F1 H1 σ vs us p ∧ ∀ a, p a → ¬ fp1 a
  | [], [], p, fp, fp1, r, d, s => ⟨r, fun a q => absurd q (r a)⟩
  | v :: vs, u :: us, p, fp, fp1, r, d, s => by
    obtain ⟨p1, p2, hp, hd, r1, r2⟩ := r
    obtain ⟨a1, b1⟩ := RepU.stepU r1 (fun a q => d a ((hp a).mpr (.inl q))) s
    obtain ⟨a2, b2⟩ := RepUs.stepU r2 (fun a q => d a ((hp a).mpr (.inr q))) s
    refine ⟨⟨p1, p2, hp, hd, a1, a2⟩, fun a q => ?_⟩
    rcases (hp a).mp q with z | z
    · exact b1 a z
    · exact b2 a z
  | [], _ :: _, _, _, _, r, _, _ => r.elim
  | _ :: _, [], _, _, _, r, _, _ => r.elim
theorem RepUs.length : ∀ {vs : List V} {us : List U} {p : Fp}, RepUs K F H σ vs us p → vs.length = us.length
  | [], [], _, _ => rfl
  | v :: vs, u :: us, _, r => by
    obtain ⟨_, _, _, _, _, r2⟩ := r
    rw [List.length_cons, List.length_cons, RepUs.length r2]
  | [], _ :: _, _, r => r.elim
  | _ :: _, [], _, r => r.elim
theorem OutL.nil (S : Sit K F σ H env own) : OutL K F H own σ [] [] env F H own (fun _ => False) := ⟨S, fun _ h => h, fun _ h => h.elim, Step.refl.sub fun _ h => h.elim id False.elim⟩
theorem Out.cons {u : U} {v : V} {us : List U} {vs : List V} {p p2 : Fp} (a : Out K F H own σ u v env1 F1 H1 own1 p) (b : OutL K F1 H1 own1 σ us vs env2 F2 H2 own2 p2) : OutL K F H own σ (u :: us) (v :: vs) env2 F2 H2 own2 (fun a => p a ∨ p2 a) := by
  obtain ⟨r, d⟩ := a.r.stepU a.d b.s
  refine ⟨b.S, ⟨p, p2, fun _ => Iff.rfl, fun a q z => d a q (.inr z), r, b.r⟩, fun a q z => ?_, (a.s.trans (b.s.more p)).sub fun a q => ?_⟩
  · rcases q with q | q
    · exact d a q (.inl z)
    · exact b.d a q z
  · rcases q with q | q | q
    · exact .inl (.inl q)
    · exact .inr q
    · exact .inl (.inr q)
theorem OutL.drop {us : List U} {vs : List V} {p : Fp} (b : OutL K F H own σ2 us vs env2 F2 H2 own2 p) : OutR K F H own σ2 env2 F2 H2 own2 := ⟨b.S, b.s.sub fun _ h => .inl h⟩
theorem OutL.one {u : U} {vs : List V} {p : Fp} (b : OutL K F H own σ2 [u] vs env2 F2 H2 own2 p) : ∃ v, vs = [v] ∧ Out K F H own σ2 u v env2 F2 H2 own2 p := by
  obtain ⟨S, r, d, s⟩ := b
  match vs, r with
  | [v], ⟨p1, p2, hp, hd, r1, r2⟩ =>
    have e : ∀ a, p a ↔ p1 a := fun a => (hp a).trans ⟨fun z => z.elim id fun y => absurd y (r2 a), .inl⟩
    have e' : p = p1 := funext fun a => propext (e a)
    subst e'
    exact ⟨v, rfl, S, r1, d, s⟩
  | _ :: _ :: _, ⟨_, _, _, _, _, r2⟩ => exact r2.elim
end

section
variable {X : Cx} {Wx : WX} {e : Expr} {es : List Expr} {f : M U} {fs : List (M U)} {pos : Pos}
theorem ea_nil : EaS X Wx [] [] := PA.imp pa_nil fun σ H Q h => by
  obtain ⟨F, env, own, S, h⟩ := h
  exact h [] F H own _ (OutL.nil S)
theorem ea_cons (ha : EvS X Wx e f) (hr : EaS X Wx es fs) (hs : starEach (e :: es) X.env = (false, eval e X.env) :: starEach es X.env := by rfl) : EaS X Wx (e :: es) (f :: fs) := PA.imp (pa_cons ha hr hs) fun σ H Q h => by
  obtain ⟨F, env, own, S, h⟩ := h
  unfold evs at h
  refine tOf_use S (fun u env1 e1 v F1 H1 own1 p O1 => ?_) (fun c env1 e1 C F1 H1 own1 => ?_) (fun e1 => ?_)
  · rw [e1, R.bind_ok] at h
    refine ⟨F1, env1, own1, O1.S, ?_⟩
    cases e2 : evs fs env1 with
    | ok us env2 =>
      rw [e2] at h
      exact fun vs F2 H2 own2 p2 O2 => h _ _ _ _ _ (O1.cons O2)
    | raise c env2 =>
      rw [e2] at h
      exact fun C F2 H2 own2 hm O2 => h C F2 H2 own2 hm (O1.drop.trans O2)
    | stuck =>
      rw [e2] at h
      exact h
  · rw [e1] at h
    exact h C F1 H1 own1
  · rw [e1] at h
    exact h
end

/-! ### pure operations on data -/
structure Grow (F H F' H' : Hp) (p : Fp) : Prop where
  exF : Same F F'
  exH : Same H H'
  sub : Same F' H'
  fr : ∀ a o, F' a = some o → F a = none → H a = none
  np : ∀ a, p a → H a = none
section
variable {K : PySem.W.Frag} {F H F1 H1 F2 H2 : Hp} {σ : L2.St} {env env1 : DEnv} {own own1 : Nat → Fp} {p : Fp}
theorem Grow.refl (e : Same F H) : Grow F H F H (fun _ => False) := ⟨Same.refl _, Same.refl _, e, fun a o h n => (by rw [h] at n; cases n), fun _ h => h.elim⟩
/-- a new thing, for good -/
theorem Grow.data {q : Addr} {o : HO} (e : Same F H) (hq : H q = none) : Grow F H (upd F q o) (upd H q o) (fun _ => False) where
  exF := fun a u h => by
    have : a ≠ q := fun z => by subst z; rw [e _ _ h] at hq; cases hq
    rw [upd_ne this]; exact h
  exH := fun a u h => by rw [upd_ne (ne_of_none h hq)]; exact h
  sub := fun a u h => by
    by_cases z : a = q
    · subst z; rw [upd_same] at h ⊢; exact h
    · rw [upd_ne z] at h ⊢; exact e _ _ h
  fr := fun a u h n => by
    by_cases z : a = q
    · subst z; exact hq
    · rw [upd_ne z, n] at h; cases h
  np := fun _ h => h.elim
/-- a new thing, of its own -/
theorem Grow.ofOwn {q : Addr} {o : HO} (e : Same F H) (hq : H q = none) : Grow F H F (upd H q o) (fun a => a = q) where
  exF := Same.refl _
  exH := fun a u h => by rw [upd_ne (ne_of_none h hq)]; exact h
  sub := fun a u h => by rw [upd_ne (ne_of_none (e _ _ h) hq)]; exact e _ _ h
  fr := fun a u h n => by rw [h] at n; cases n
  np := fun a h => by rw [h]; exact hq
theorem Grow.sit (g : Grow F H F1 H1 p) (S : Sit K F σ H env own) : Sit K F1 σ H1 env own where
  ex := g.sub
  len := S.len
  rep := fun i w h => by
    obtain ⟨v, e, r⟩ := S.rep i w h
    refine ⟨v, e, r.frame g.exF (fun a o _ q => g.exH a o q) fun a q => ?_⟩
    obtain ⟨⟨o, e1⟩, e2⟩ := r.there q
    cases z : F1 a with
    | none => rfl
    | some u => rw [g.fr a u z e2] at e1; cases e1
  emp := S.emp
  dis := S.dis
theorem Grow.step (g : Grow F H F1 H1 p) (own : Nat → Fp) : Step F H (all own) F1 H1 (fun a => all own a ∨ p a) where
  ex := g.exF
  keep := fun a o h _ => g.exH a o h
  new := fun a h => h.imp_right (g.np a)
  frz := fun a o h n => .inr (g.fr a o h n)
theorem Grow.out {v : V} {w : W} (g : Grow F1 H1 F2 H2 p) (O : OutR K F H own σ env1 F1 H1 own1) (r : RepW K F2 H2 v w p) : Out K F H own σ (.w w) v env1 F2 H2 own1 p := by
  refine ⟨g.sit O.S, r, fun a q z => ?_, O.s.trans (g.step own1)⟩
  obtain ⟨⟨o, e⟩, _⟩ := O.S.there z
  rw [g.np a q] at e
  cases e
end

def datL (env : DEnv) : List U → Option (List D)
  | [] => some []
  | u :: us => match dat env u, datL env us with
    | some d, some ds => some (d :: ds)
    | _, _ => none
inductive Views (K : PySem.W.Frag) (F H : Hp) : List V → List D → Prop where
  | nil : Views K F H [] []
  | cons {v : V} {d : D} {vs : List V} {ds : List D} : View K F H v d → Views K F H vs ds → Views K F H (v :: vs) (d :: ds)
theorem RepUs.views {K : PySem.W.Frag} {F H : Hp} {σ : L2.St} {env : DEnv} {own : Nat → Fp} (S : Sit K F σ H env own) : ∀ {vs : List V} {us : List U} {p : Fp} {ds : List D}, RepUs K F H σ vs us p → datL env us = some ds → Views K F H vs ds
  | [], [], p, ds, r, h => by cases h; exact .nil
  | v :: vs, u :: us, p, ds, r, h => by
    obtain ⟨p1, p2, _, _, r1, r2⟩ := r
    have h : (match dat env u, datL env us with | some d, some ds => some (d :: ds) | _, _ => none) = some ds := h
    split at h
    · rename_i d ds' h1 h2
      cases h
      exact .cons (RepU.view S r1 h1) (RepUs.views S r2 h2)
    · cases h
  | [], _ :: _, _, _, r, _ => r.elim
  | _ :: _, [], _, _, r, _ => r.elim
theorem Views.one {K : PySem.W.Frag} {F H : Hp} {vs : List V} {d : D} (h : Views K F H vs [d]) : ∃ v, vs = [v] ∧ View K F H v d := by
  cases h with
  | cons a b => cases b; exact ⟨_, rfl, a⟩
theorem Views.two {K : PySem.W.Frag} {F H : Hp} {vs : List V} {d e : D} (h : Views K F H vs [d, e]) : ∃ v u, vs = [v, u] ∧ View K F H v d ∧ View K F H u e := by
  cases h with
  | cons a b =>
    obtain ⟨u, rfl, q⟩ := b.one
    exact ⟨_, _, rfl, a, q⟩

/-- what a reading of an operation on values tells, by data -/
def CaD (K : PySem.W.Frag) (r : List V → Hp → VK → Prop) (g : List D → Option W) : Prop :=
  ∀ (F H : Hp) (vs : List V) (ds : List D) (w : W) (Q : VK), Same F H → Views K F H vs ds → g ds = some w → (∀ v F' H' p, Grow F H F' H' p → RepW K F' H' v w p → Q v H') → r vs H Q
def opN (g : List D → Option W) (fs : List (M U)) : M U := fun env => (evs fs env).bind fun us e1 => match datL e1 us with
  | some ds => match g ds with
    | some w => .ok (.w w) e1
    | none => .stuck
  | none => .stuck
/-- as one reads arguments, then does -/
theorem aOf_op {K : PySem.W.Frag} {mg : Str → Option Value} {Wx : WX} {r : List V → Hp → VK → Prop} {g : List D → Option W} {fs : List (M U)} {σ : L2.St} {H : Hp} {Q : VK} (c : CaD K r g) (h : tOf K mg Wx (opN g fs) σ H Q) :
    aOf K mg Wx (evs fs) σ H fun vs H1 => r vs H1 Q := by
  obtain ⟨F, env, own, S, h⟩ := h
  refine ⟨F, env, own, S, ?_⟩
  unfold opN at h
  cases e : evs fs env with
  | stuck => rw [e] at h; exact h
  | raise c env1 => rw [e] at h; exact h
  | ok us env1 =>
    rw [e, R.bind_ok] at h
    intro vs F1 H1 own1 p O
    cases e1 : datL env1 us with
    | none => rw [e1] at h; exact h.elim
    | some ds =>
      rw [e1] at h
      dsimp only at h
      cases e2 : g ds with
      | none => rw [e2] at h; exact h.elim
      | some w =>
        rw [e2] at h
        exact c F1 H1 vs ds w Q O.S.ex (RepUs.views O.S O.r e1) e2 fun v F' H' p' gr rw' => h v F' H' own1 p' (gr.out O.drop rw')
section
variable {K : PySem.W.Frag} {mg : Str → Option Value} {Wx : WX} {fa fb fc : M U} {σ : L2.St} {H : Hp}
theorem aOf_1 {Q : List V → Hp → Prop} (h : aOf K mg Wx (evs [fa]) σ H Q) : tOf K mg Wx fa σ H fun x H1 => Q [x] H1 := by
  obtain ⟨F, env, own, S, h⟩ := h
  unfold evs at h
  refine tOf_use S (fun u env1 e1 v F1 H1 own1 p O1 => ?_) (fun c env1 e1 C F1 H1 own1 => ?_) (fun e1 => ?_)
  · rw [e1] at h
    refine h _ _ _ _ _ (O1.cons (OutL.nil O1.S))
  · rw [e1] at h
    exact h C F1 H1 own1
  · rw [e1] at h
    exact h
theorem aOf_cons {fs : List (M U)} {Q : List V → Hp → Prop} (h : aOf K mg Wx (evs (fa :: fs)) σ H Q) : tOf K mg Wx fa σ H fun x H1 => aOf K mg Wx (evs fs) σ H1 fun xs H2 => Q (x :: xs) H2 := by
  obtain ⟨F, env, own, S, h⟩ := h
  unfold evs at h
  refine tOf_use S (fun u env1 e1 v F1 H1 own1 p O1 => ?_) (fun c env1 e1 C F1 H1 own1 => ?_) (fun e1 => ?_)
  · rw [e1, R.bind_ok] at h
    refine ⟨F1, env1, own1, O1.S, ?_⟩
    cases e2 : evs fs env1 with
    | ok us env2 =>
      rw [e2] at h
      exact fun vs F2 H2 own2 p2 O2 => h _ _ _ _ _ (O1.cons O2)
    | raise c env2 =>
      rw [e2] at h
      exact fun C F2 H2 own2 hm O2 => h C F2 H2 own2 hm (O1.drop.trans O2)
    | stuck =>
      rw [e2] at h
      exact h
  · rw [e1] at h
    exact h C F1 H1 own1
  · rw [e1] at h
    exact h
theorem tOf_mono {Q Q' : VK} (h : tOf K mg Wx fa σ H Q) (i : ∀ v H, Q v H → Q' v H) : tOf K mg Wx fa σ H Q' := by
  obtain ⟨F, env, own, S, h⟩ := h
  refine ⟨F, env, own, S, ?_⟩
  cases e : fa env with
  | ok u env1 => rw [e] at h; exact fun v F1 H1 own1 p O => i _ _ (h v F1 H1 own1 p O)
  | raise c env1 => rw [e] at h; exact h
  | stuck => rw [e] at h; exact h
theorem aOf_2 {Q : List V → Hp → Prop} (h : aOf K mg Wx (evs [fa, fb]) σ H Q) : tOf K mg Wx fa σ H fun x H1 => tOf K mg Wx fb σ H1 fun y H2 => Q [x, y] H2 :=
  tOf_mono (aOf_cons h) fun _ _ q => aOf_1 q
theorem aOf_3 {Q : List V → Hp → Prop} (h : aOf K mg Wx (evs [fa, fb, fc]) σ H Q) : tOf K mg Wx fa σ H fun x H1 => tOf K mg Wx fb σ H1 fun y H2 => tOf K mg Wx fc σ H2 fun z H3 => Q [x, y, z] H3 :=
  tOf_mono (aOf_cons h) fun _ _ q => aOf_2 q
end

section
variable {X : Cx} {Wx : WX} {a b c : Expr} {fa fb fc : M U} {pos p : Pos} {es : List Expr} {e : Expr} {fs : List (M U)} {g : List D → Option W}
def r2 (r : R2) : List V → Hp → VK → Prop := fun vs H Q => ∃ x y, vs = [x, y] ∧ r x y H Q
def r1 (r : V → Hp → VK → Prop) : List V → Hp → VK → Prop := fun vs H Q => ∃ x, vs = [x] ∧ r x H Q
theorem r2_two {r : R2} {x y : V} {H : Hp} {Q : VK} (h : r2 r [x, y] H Q) : r x y H Q := by
  obtain ⟨_, _, e, h⟩ := h; cases e; exact h
theorem r1_one {r : V → Hp → VK → Prop} {x : V} {H : Hp} {Q : VK} (h : r1 r [x] H Q) : r x H Q := by
  obtain ⟨_, e, h⟩ := h; cases e; exact h
theorem e_bin {op : Operator} {r : R2} (ho : OpR X (binaryOp op) r) (cd : CaD X.K (r2 r) g) (ha : EvS X Wx a fa) (hb : EvS X Wx b fb) : EvS X Wx (.BinOp a op b pos) (opN g [fa, fb]) :=
  PE.imp (pe_op ho ha hb) fun σ H Q h => tOf_mono (aOf_2 (aOf_op cd h)) fun _ _ q => tOf_mono q fun _ _ z => r2_two z
theorem e_un {op : UnaryOp} {r : V → Hp → VK → Prop} (ho : UnR X (unaryOp op) r) (cd : CaD X.K (r1 r) g) (ha : EvS X Wx a fa) : EvS X Wx (.UnaryOp op a pos) (opN g [fa]) :=
  PE.imp (pe_un ho ha) fun σ H Q h => tOf_mono (aOf_1 (aOf_op cd h)) fun _ _ q => r1_one q
theorem e_cmp {op : CmpOp} {r : R2} (ho : OpR X (compareOp op) r) (cd : CaD X.K (r2 r) g) (ha : EvS X Wx a fa) (hb : EvS X Wx b fb) (hm : behindInMarks op b = false) : EvS X Wx (.Compare a [op] [b] pos) (opN g [fa, fb]) :=
  PE.imp (pe_cmpR ho ha hb hm) fun σ H Q h => tOf_mono (aOf_2 (aOf_op cd h)) fun _ _ q => tOf_mono q fun _ _ z => r2_two z
theorem e_ix {r : R2} (ho : IxR X r) (cd : CaD X.K (r2 r) g) (ha : EvS X Wx a fa) (hb : EvS X Wx b fb) (hs : PlainIx b) : EvS X Wx (.Subscript a b pos) (opN g [fa, fb]) :=
  PE.imp (pe_ix ho ha hb hs) fun σ H Q h => tOf_mono (aOf_2 (aOf_op cd h)) fun _ _ q => tOf_mono q fun _ _ z => r2_two z
theorem e_callB {id : String} {x : Str} {r : List V → Hp → VK → Prop} (hc : CallR X (.builtin id) r) (cd : CaD X.K r g) (hg : Gl X x) (hm : X.mg x = none) (hv : bootBuiltins x = some (.builtin id)) (ha : EaS X Wx (e :: es) fs) (hn : x ≠ "__name__" := by decide) (hdb : (x == ("__debug__" : Str)) = false := by decide)
    (he : starEach (e :: es) X.env = (false, eval e X.env) :: starEach es X.env := by rfl) (hpl : (backTo pos (starEach es X.env)).any (·.1) = false := by rfl) : EvS X Wx (.Call (.Name x p) (e :: es) [] pos) (opN g fs) :=
  PE.imp (pe_callB hc hg hm hv ha hn hdb he hpl) fun σ H Q h => aOf_op cd h
theorem e_callTy {T : String} {x : Str} {r : List V → Hp → VK → Prop} (hc : CallR X (.type T) r) (cd : CaD X.K r g) (hg : Gl X x) (hm : X.mg x = none) (hv : bootBuiltins x = some (.type T)) (ha : EaS X Wx (e :: es) fs) (hn : x ≠ "__name__" := by decide) (hdb : (x == ("__debug__" : Str)) = false := by decide)
    (he : starEach (e :: es) X.env = (false, eval e X.env) :: starEach es X.env := by rfl) (hpl : (backTo pos (starEach es X.env)).any (·.1) = false := by rfl) : EvS X Wx (.Call (.Name x p) (e :: es) [] pos) (opN g fs) :=
  PE.imp (pe_callTy hc hg hm hv ha hn hdb he hpl) fun σ H Q h => aOf_op cd h
end
end DL

namespace DL
open PySem PySem.Spec PyProof.Rows L2

theorem sz {n : Nat} (h : n ≤ 1000000) : n ≤ sizeLine := Nat.le_trans h (by decide)
theorem szl {n : Nat} (h : n < 1000000) : n < sizeLine := Nat.lt_of_lt_of_le h (by decide)

section
variable {K : PySem.W.Frag} {F H : Hp}
theorem View.int {v : V} {i : Int} (h : View K F H v (.int i)) : v = .int i := by
  cases (show RepD K F v (.int i) from h); rfl
theorem View.bl {v : V} {b : Bool} (h : View K F H v (.bl b)) : v = .bl b := by
  cases (show RepD K F v (.bl b) from h); rfl
theorem View.str {v : V} {x : Str} (h : View K F H v (.str x)) : v = .str x := by
  cases (show RepD K F v (.str x) from h); rfl
theorem View.non {v : V} (h : View K F H v .non) : v = .non := by
  cases (show RepD K F v .non from h); rfl
theorem View.tup {v : V} {ds : List D} (e : Same F H) (h : View K F H v (.tup ds)) : ∃ a vs, v = .ref a ∧ F a = some (.tup vs) ∧ SqT K H a vs ∧ RepDs K F vs ds := by
  cases (show RepD K F v (.tup ds) from h) with
  | tup q r => exact ⟨_, _, rfl, q, SqT.of (e _ _ q), r⟩
theorem View.scr {v : V} {ns : List Int} (e : Same F H) (h : View K F H v (.scr ns)) : ∃ a, v = .ref a ∧ SqL K H a (ns.map V.int) := by
  cases (show RepD K F v (.scr ns) from h) with
  | scr q => exact ⟨_, rfl, e.seq q⟩
theorem View.lst {v : V} {ds : List D} (h : View K F H v (.lst ds)) : ∃ a vs, v = .ref a ∧ Rd H a (.lst vs) ∧ RepDs K F vs ds := h
/-- what comes of an operation: data that is no object, or a new object -/
theorem RepW.ofInt {F' H' : Hp} (i : Int) : RepW K F' H' (.int i) (.v (.int i)) (fun _ => False) := ⟨fun _ h => h, .int i⟩
theorem RepW.ofBl {F' H' : Hp} (b : Bool) : RepW K F' H' (.bl b) (.v (.bl b)) (fun _ => False) := ⟨fun _ h => h, .bl b⟩
theorem RepW.ofStr {F' H' : Hp} (x : Str) : RepW K F' H' (.str x) (.v (.str x)) (fun _ => False) := ⟨fun _ h => h, .str x⟩
theorem RepW.ofNon {F' H' : Hp} : RepW K F' H' .non (.v .non) (fun _ => False) := ⟨fun _ h => h, .non⟩
theorem RepW.ofRep {F' H' : Hp} {v : V} {d : D} (h : RepD K F' v d) : RepW K F' H' v (.v d) (fun _ => False) := ⟨fun _ h => h, h⟩
variable {Q : VK}
theorem fin_int {i : Int} (e : Same F H) (q : ∀ v F' H' p, Grow F H F' H' p → RepW K F' H' v (.v (.int i)) p → Q v H') : Q (.int i) H := q _ _ _ _ (Grow.refl e) (RepW.ofInt i)
theorem fin_bl {i : Bool} (e : Same F H) (q : ∀ v F' H' p, Grow F H F' H' p → RepW K F' H' v (.v (.bl i)) p → Q v H') : Q (.bl i) H := q _ _ _ _ (Grow.refl e) (RepW.ofBl i)
theorem fin_str {i : Str} (e : Same F H) (q : ∀ v F' H' p, Grow F H F' H' p → RepW K F' H' v (.v (.str i)) p → Q v H') : Q (.str i) H := q _ _ _ _ (Grow.refl e) (RepW.ofStr i)
theorem fin_rep {v : V} {d : D} (e : Same F H) (r : RepD K F v d) (q : ∀ v F' H' p, Grow F H F' H' p → RepW K F' H' v (.v d) p → Q v H') : Q v H := q _ _ _ _ (Grow.refl e) (RepW.ofRep r)
theorem same_upd {q : Addr} {o : HO} (hq : F q = none) : Same F (upd F q o) := fun a u h => by
  rw [upd_ne (ne_of_none h hq)]; exact h
theorem sub_none (e : Same F H) {q : Addr} (hq : H q = none) : F q = none := e.free hq
theorem fin_tup {vs : List V} {ds : List D} (e : Same F H) (r : RepDs K F vs ds) (q : ∀ v F' H' p, Grow F H F' H' p → RepW K F' H' v (.v (.tup ds)) p → Q v H') : ∀ p, H p = none → Q (.ref p) (upd H p (.tup vs)) := fun p hp =>
  q _ _ _ _ (Grow.data e hp) (RepW.ofRep (.tup upd_same (r.mono (same_upd (sub_none e hp)))))
theorem fin_lst {vs : List V} {ds : List D} (e : Same F H) (r : RepDs K F vs ds) (q : ∀ v F' H' p, Grow F H F' H' p → RepW K F' H' v (.l false ds) p → Q v H') : ∀ p, H p = none → Q (.ref p) (upd H p (.lst vs)) := fun p hp =>
  q _ _ _ _ (Grow.ofOwn e hp) ⟨p, vs, rfl, fun _ => Iff.rfl, upd_same, sub_none e hp, r⟩
end

/-! ### arithmetic -/
def gAdd : List D → Option W
  | [.int i, .int j] => some (.v (.int (i + j)))
  | [.str x, .str y] => if x.length + y.length ≤ 1000000 then some (.v (.str (x ++ y))) else none
  | [.tup xs, .tup ys] => if xs.length + ys.length ≤ 1000000 then some (.v (.tup (xs ++ ys))) else none
  | [.lst xs, .lst ys] => if xs.length + ys.length ≤ 1000000 then some (.l false (xs ++ ys)) else none
  | _ => none
def gSub : List D → Option W
  | [.int i, .int j] => some (.v (.int (i - j)))
  | _ => none
def gMul : List D → Option W
  | [.int i, .int j] => if i.natAbs < 2 ^ 64 ∨ j.natAbs < 2 ^ 64 then some (.v (.int (i * j))) else none
  | [.lst xs, .int k] => if 0 ≤ k ∧ k ≤ 1000 ∧ xs.length ≤ 1000 then some (.l false (List.replicate k.toNat xs).flatten) else none
  | [.tup xs, .int k] => if 1 ≤ k ∧ k ≤ 1000 ∧ xs.length ≤ 1000 ∧ xs ≠ [] then some (.v (.tup (List.replicate k.toNat xs).flatten)) else none
  | _ => none
def gDiv : List D → Option W
  | [.int i, .int j] => if 0 < j ∧ j < 1073741824 then some (.v (.int (i / j))) else none
  | _ => none
def gMod : List D → Option W
  | [.int i, .int j] => if 0 < j then some (.v (.int (i % j))) else none
  | _ => none
def gPow : List D → Option W
  | [.int i, .int j] => if 0 ≤ j ∧ j ≤ 1000 ∧ i.natAbs < 2 ^ 64 then some (.v (.int (i ^ j.toNat))) else none
  | _ => none
def gNeg : List D → Option W
  | [.int i] => some (.v (.int (-i)))
  | _ => none

/-- list + list, of what may be read -/
def rCatR : R2 := fun x y H Q => ∃ l b xs zs, x = .ref l ∧ y = .ref b ∧ Rd H l (.lst xs) ∧ Rd H b (.lst zs) ∧ xs.length + zs.length ≤ sizeLine ∧ ∀ p, H p = none → Q (.ref p) (upd H p (.lst (xs ++ zs)))
section
variable {X : Cx}
theorem op_catR : OpR X (binaryOp .Add) rCatR := by
  intro pins s σ H x y v u Q I rx ry h
  obtain ⟨l, b, xs, zs, rfl, rfl, hH, hB, hz, q⟩ := h
  cases rx
  cases ry
  obtain ⟨z, its, n, r, e⟩ := hH.ok I.hok
  obtain ⟨z2, its2, n2, r2, e2⟩ := hB.ok I.hok
  have hl := r.length
  have hl2 := r2.length
  refine PySem.P.add_list e e2 ?_ (by rw [List.size_toArray, List.size_toArray]; omega)
  have ea : its.toArray ++ its2.toArray = (its ++ its2).toArray := by simp
  rw [ea]
  exact ⟨.ref _, _, I.lnew (t' := s.toks) (r.append r2) (by rw [List.length_append]; omega), rfl, q _ I.fresh⟩
def rAddA (K : PySem.W.Frag) : R2 := fun x y H Q => (rI0 fun i j => .int (i + j)) x y H Q ∨ (fun x y H Q => (fun x y H Q => ∃ i j, x = .str i ∧ y = .str j ∧ i.length + j.length ≤ sizeLine ∧ Q (.str (i ++ j)) H) x y H Q ∨ (fun x y H Q => rCatA K x y H Q ∨ rCatR x y H Q) x y H Q) x y H Q
theorem op_addA : OpR X (binaryOp .Add) (rAddA X.K) := op_add.or (op_add_str.or (op_catA.or op_catR))
end
theorem cd_add {K : PySem.W.Frag} : CaD K (r2 (rAddA K)) gAdd := by
  intro F H vs ds w Q e vw hg q
  unfold gAdd at hg
  split at hg
  · rename_i i j
    obtain ⟨x, y, rfl, hx, hy⟩ := vw.two
    cases hg
    exact ⟨x, y, rfl, .inl ⟨i, j, hx.int, hy.int, fin_int e q⟩⟩
  · rename_i i j
    obtain ⟨x, y, rfl, hx, hy⟩ := vw.two
    split at hg
    · rename_i hl
      cases hg
      exact ⟨x, y, rfl, .inr (.inl ⟨i, j, hx.str, hy.str, sz hl, fin_str e q⟩)⟩
    · cases hg
  · rename_i xs ys
    obtain ⟨x, y, rfl, hx, hy⟩ := vw.two
    split at hg
    · rename_i hl
      cases hg
      obtain ⟨a, vs, rfl, f1, h1, r1⟩ := hx.tup e
      obtain ⟨b, us, rfl, f2, h2, r2⟩ := hy.tup e
      have el1 := r1.length
      have el2 := r2.length
      refine ⟨_, _, rfl, .inr (.inr (.inl ⟨a, b, vs, us, rfl, rfl, h1, h2, by rw [el1, el2]; exact sz hl, fun z => ?_, fun z1 z2 => ?_, fun _ _ => fin_tup e (r1.append r2) q⟩))⟩
      · subst z
        cases r1
        exact fin_rep e (.tup f2 r2) q
      · subst z2
        cases r2
        rw [List.append_nil] at q
        exact fin_rep e (.tup f1 r1) q
    · cases hg
  · rename_i xs ys
    obtain ⟨x, y, rfl, hx, hy⟩ := vw.two
    split at hg
    · rename_i hl
      cases hg
      obtain ⟨a, vs, rfl, h1, r1⟩ := hx.lst
      obtain ⟨b, us, rfl, h2, r2⟩ := hy.lst
      refine ⟨_, _, rfl, .inr (.inr (.inr ⟨a, b, vs, us, rfl, rfl, h1, h2, by rw [r1.length, r2.length]; exact sz hl, fin_lst e (r1.append r2) q⟩))⟩
    · cases hg
  · cases hg
theorem cd_sub {K : PySem.W.Frag} : CaD K (r2 (rI0 fun i j => .int (i - j))) gSub := by
  intro F H vs ds w Q e vw hg q
  unfold gSub at hg
  split at hg
  · rename_i i j
    obtain ⟨x, y, rfl, hx, hy⟩ := vw.two
    cases hg
    exact ⟨x, y, rfl, i, j, hx.int, hy.int, fin_int e q⟩
  · cases hg
theorem cd_div {K : PySem.W.Frag} : CaD K (r2 (rI CDiv fun i j => .int (i / j))) gDiv := by
  intro F H vs ds w Q e vw hg q
  unfold gDiv at hg
  split at hg
  · rename_i i j
    obtain ⟨x, y, rfl, hx, hy⟩ := vw.two
    split at hg
    · rename_i hc
      cases hg
      exact ⟨x, y, rfl, i, j, hx.int, hy.int, hc, fin_int e q⟩
    · cases hg
  · cases hg
theorem cd_mod {K : PySem.W.Frag} : CaD K (r2 (rI (fun _ j => 0 < j) fun i j => .int (i % j))) gMod := by
  intro F H vs ds w Q e vw hg q
  unfold gMod at hg
  split at hg
  · rename_i i j
    obtain ⟨x, y, rfl, hx, hy⟩ := vw.two
    split at hg
    · rename_i hc
      cases hg
      exact ⟨x, y, rfl, i, j, hx.int, hy.int, hc, fin_int e q⟩
    · cases hg
  · cases hg
theorem cd_pow {K : PySem.W.Frag} : CaD K (r2 (rI CPow fun i j => .int (i ^ j.toNat))) gPow := by
  intro F H vs ds w Q e vw hg q
  unfold gPow at hg
  split at hg
  · rename_i i j
    obtain ⟨x, y, rfl, hx, hy⟩ := vw.two
    split at hg
    · rename_i hc
      cases hg
      exact ⟨x, y, rfl, i, j, hx.int, hy.int, ⟨hc.1, by omega, hc.2.2⟩, fin_int e q⟩
    · cases hg
  · cases hg
theorem cd_neg {K : PySem.W.Frag} : CaD K (r1 (rU fun i => .int (-i))) gNeg := by
  intro F H vs ds w Q e vw hg q
  unfold gNeg at hg
  split at hg
  · rename_i i
    obtain ⟨x, rfl, hx⟩ := vw.one
    cases hg
    exact ⟨x, rfl, i, hx.int, fin_int e q⟩
  · cases hg

/-! ### times -/
theorem RepDs.rep {K : PySem.W.Frag} {F : Hp} {vs : List V} {ds : List D} (r : RepDs K F vs ds) : ∀ n : Nat, RepDs K F (List.replicate n vs).flatten (List.replicate n ds).flatten
  | 0 => .nil
  | n + 1 => by
    rw [List.replicate_succ, List.flatten_cons, List.replicate_succ, List.flatten_cons]
    exact r.append (r.rep n)
/-! ### comparisons of ints -/
def gCmp (f : Int → Int → Bool) : List D → Option W
  | [.int i, .int j] => some (.v (.bl (f i j)))
  | _ => none
theorem cd_cmp {K : PySem.W.Frag} {f : Int → Int → Bool} : CaD K (r2 (rI0 fun i j => .bl (f i j))) (gCmp f) := by
  intro F H vs ds w Q e vw hg q
  unfold gCmp at hg
  split at hg
  · rename_i i j
    obtain ⟨x, y, rfl, hx, hy⟩ := vw.two
    cases hg
    exact ⟨x, y, rfl, i, j, hx.int, hy.int, fin_bl e q⟩
  · cases hg
abbrev gLt := gCmp fun i j => decide (i < j)
abbrev gLe := gCmp fun i j => decide (i ≤ j)
abbrev gGt := gCmp fun i j => decide (j < i)
abbrev gGe := gCmp fun i j => decide (j ≤ i)

/-! ### == and != of data -/
mutual
def toPy : D → PyData
  | .non => .none
  | .bl b => .bool b
  | .int i => .int i
  | .str x => .str x
  | .tup l => .tuple (toPys l)
  | .lst l => .list (toPys l)
  | .nam _ _ => .none
  | .ty _ => .none
  | .scr ns => .list (ns.map PyData.int)
  | .dic _ _ => .none
def toPys : List D → List PyData
  | [] => []
  | d :: ds => toPy d :: toPys ds
end
/-- data through and through, nested no deeper than n -/
def fine : Nat → D → Bool
  | 0, _ => false
  | n + 1, .tup l => l.all (fine n)
  | n + 1, .lst l => l.all (fine n)
  | _ + 1, .nam _ _ => false
  | _ + 1, .ty _ => false
  | _ + 1, .dic _ _ => false
  | n + 1, .scr _ => decide (1 ≤ n)
  | _ + 1, .str x => PyData.strOk x
  | _ + 1, _ => true
theorem toPys_map : ∀ l : List D, toPys l = l.map toPy
  | [] => rfl
  | d :: ds => by rw [toPys, toPys_map ds]; rfl
theorem canLayAll_of {l : List PyData} (h : ∀ d ∈ l, d.canLay0 = true) : PyData.canLayAll0 l = true := by
  induction l with
  | nil => rfl
  | cons a r ih =>
    rw [PyData.canLayAll0, h a List.mem_cons_self, ih fun d m => h d (List.mem_cons_of_mem _ m)]
    rfl
theorem depthAll_of {l : List PyData} {n : Nat} (h : ∀ d ∈ l, d.depth ≤ n) : PyData.depthAll l ≤ n := by
  induction l with
  | nil => exact Nat.zero_le _
  | cons a r ih =>
    rw [PyData.depthAll]
    exact Nat.max_le.mpr ⟨h a List.mem_cons_self, ih fun d m => h d (List.mem_cons_of_mem _ m)⟩
theorem fine_lay : ∀ (n : Nat) (d : D), fine n d = true → (toPy d).canLay0 = true ∧ (toPy d).depth ≤ n
  | 0, _, h => by cases h
  | n + 1, .non, _ => ⟨rfl, by simp [toPy, PyData.depth]⟩
  | n + 1, .bl b, _ => ⟨rfl, by simp [toPy, PyData.depth]⟩
  | n + 1, .int i, _ => ⟨rfl, by simp [toPy, PyData.depth]⟩
  | n + 1, .str x, h => ⟨h, by simp [toPy, PyData.depth]⟩
  | n + 1, .nam _ _, h => by cases h
  | n + 1, .ty x, h => by cases h
  | n + 1, .dic _ _, h => by cases h
  | 1, .scr ns, h => by cases h
  | n + 2, .scr ns, h => by
    rw [toPy]
    refine ⟨canLayAll_of fun d m => ?_, ?_⟩
    · obtain ⟨x, _, rfl⟩ := List.mem_map.mp m; rfl
    · rw [PyData.depth]
      have := depthAll_of (l := ns.map PyData.int) (n := 1) fun d m => by
        obtain ⟨x, _, rfl⟩ := List.mem_map.mp m; simp [PyData.depth]
      omega
  | n + 1, .tup l, h => by
    have h : l.all (fine n) = true := h
    rw [List.all_eq_true] at h
    rw [toPy, toPys_map]
    have key : ∀ d ∈ l.map toPy, d.canLay0 = true ∧ d.depth ≤ n := fun d m => by
      obtain ⟨x, hx, rfl⟩ := List.mem_map.mp m
      exact fine_lay n x (h x hx)
    exact ⟨canLayAll_of fun d m => (key d m).1, by rw [PyData.depth]; have := depthAll_of fun d m => (key d m).2; omega⟩
  | n + 1, .lst l, h => by
    have h : l.all (fine n) = true := h
    rw [List.all_eq_true] at h
    rw [toPy, toPys_map]
    have key : ∀ d ∈ l.map toPy, d.canLay0 = true ∧ d.depth ≤ n := fun d m => by
      obtain ⟨x, hx, rfl⟩ := List.mem_map.mp m
      exact fine_lay n x (h x hx)
    exact ⟨canLayAll_of fun d m => (key d m).1, by rw [PyData.depth]; have := depthAll_of fun d m => (key d m).2; omega⟩
theorem fine_shaped {d : D} (h : fine 60 d = true) : SeqAt.shaped (toPy d) = true := by
  obtain ⟨h1, h2⟩ := fine_lay 60 d h
  unfold SeqAt.shaped
  rw [h1, decide_eq_true (show (toPy d).depth ≤ 64 by omega)]
  rfl
theorem dp_ints {K : PySem.W.Frag} {H : Hp} : ∀ ns : List Int, DpAll K H (ns.map V.int) (ns.map PyData.int)
  | [] => .nil
  | n :: r => .cons (.int n) (dp_ints r)
mutual
theorem RepD.dp {K : PySem.W.Frag} {F H : Hp} (e : Same F H) : ∀ {n : Nat} {v : V} {d : D}, RepD K F v d → fine n d = true → Dp K H v (toPy d)
  | _, _, _, .non, _ => .non
  | _, _, _, .bl b, _ => .bl b
  | _, _, _, .int i, _ => .int i
  | _, _, _, .str x, _ => .str x
  | 0, _, _, .ty n, h => by cases h
  | 0, _, _, .dic _ _ _, h => by cases h
  | n + 1, _, _, .dic _ _ _, h => by cases h
  | n + 1, _, _, .ty _, h => by cases h
  | 0, _, _, .glob _, h => by cases h
  | n + 1, _, _, .glob _, h => by cases h
  | 0, _, _, .exn _ _, h => by cases h
  | n + 1, _, _, .exn _ _, h => by cases h
  | _, _, _, .scr q, _ => .lst (e.seq q) (dp_ints _)
  | 0, _, _, .tup q r, h => by cases h
  | 0, _, _, .lst q r, h => by cases h
  | n + 1, _, _, .tup q r, h => .tup (SqT.of (e _ _ q)) (RepDs.dp e r (by have h : List.all _ (fine n) = true := h; rw [List.all_eq_true] at h; exact h))
  | n + 1, _, _, .lst q r, h => .lst (.inl (sameL e q)) (RepDs.dp e r (by have h : List.all _ (fine n) = true := h; rw [List.all_eq_true] at h; exact h))
theorem RepDs.dp {K : PySem.W.Frag} {F H : Hp} (e : Same F H) : ∀ {n : Nat} {vs : List V} {ds : List D}, RepDs K F vs ds → (∀ d ∈ ds, fine n d = true) → DpAll K H vs (toPys ds)
  | _, _, _, .nil, _ => .nil
  | _, _, _, .cons h r, a => .cons (RepD.dp e h (a _ List.mem_cons_self)) (RepDs.dp e r fun d m => a d (List.mem_cons_of_mem _ m))
end
theorem View.dp {K : PySem.W.Frag} {F H : Hp} {n : Nat} {v : V} {d : D} (e : Same F H) (h : View K F H v d) (hf : fine n d = true) : Dp K H v (toPy d) := by
  cases d with
  | lst ds =>
    obtain ⟨a, vs, rfl, q, r⟩ := h
    cases n with
    | zero => cases hf
    | succ n =>
      exact .lst (.inl q) (RepDs.dp e r (by have hf : ds.all (fine n) = true := hf; rw [List.all_eq_true] at hf; exact hf))
  | dic ks ds => cases n <;> cases hf
  | _ => exact RepD.dp e h hf
def deq (a b : D) : Bool := PyData.eqv (toPy a) (toPy b)
def gEq : List D → Option W
  | [a, b] => if fine 60 a && fine 60 b then some (.v (.bl (deq a b))) else none
  | _ => none
def gNe : List D → Option W
  | [a, b] => if fine 60 a && fine 60 b then some (.v (.bl (!deq a b))) else none
  | _ => none
theorem cd_eq {K : PySem.W.Frag} : CaD K (r2 (rEqD K)) gEq := by
  intro F H vs ds w Q e vw hg q
  unfold gEq at hg
  split at hg
  · rename_i a b
    obtain ⟨x, y, rfl, hx, hy⟩ := vw.two
    split at hg
    · rename_i hf
      cases hg
      obtain ⟨h1, h2⟩ := Bool.and_eq_true_iff.mp hf
      exact ⟨x, y, rfl, toPy a, toPy b, hx.dp e h1, hy.dp e h2, fine_shaped h1, fine_shaped h2, fin_bl e q⟩
    · cases hg
  · cases hg
theorem cd_ne {K : PySem.W.Frag} : CaD K (r2 (rNeD K)) gNe := by
  intro F H vs ds w Q e vw hg q
  unfold gNe at hg
  split at hg
  · rename_i a b
    obtain ⟨x, y, rfl, hx, hy⟩ := vw.two
    split at hg
    · rename_i hf
      cases hg
      obtain ⟨h1, h2⟩ := Bool.and_eq_true_iff.mp hf
      exact ⟨x, y, rfl, toPy a, toPy b, hx.dp e h1, hy.dp e h2, fine_shaped h1, fine_shaped h2, fin_bl e q⟩
    · cases hg
  · cases hg
end DL

namespace DL
open PySem PySem.Spec PyProof.Rows L2

/-! ### times -/
section
variable {X : Cx}
/-- list * int, of what may be read -/
def rRepR : R2 := fun x y H Q => ∃ l k xs, x = .ref l ∧ y = .int k ∧ Rd H l (.lst xs) ∧ -(2 ^ 63) ≤ k ∧ k < 2 ^ 63 ∧ xs.length * k.toNat ≤ sizeLine ∧
  ∀ p, H p = none → Q (.ref p) (upd H p (.lst (List.replicate k.toNat xs).flatten))
theorem op_repR : OpR X (binaryOp .Mult) rRepR := by
  intro pins s σ H x y v u Q I rx ry h
  obtain ⟨l, k, xs, rfl, rfl, hH, h1, h2, hz, q⟩ := h
  cases rx
  obtain ⟨t, rfl⟩ := ry
  obtain ⟨z, its, n, r, e⟩ := hH.ok I.hok
  have hl := r.length
  have hlen : its.toArray.size * k.toNat ≤ sizeLine := by rw [List.size_toArray, ← hl]; exact hz
  have hcap : ¬ its.toArray.size * k.toNat > (2 ^ 63 - 1) / 8 := by
    have : (sizeLine : Nat) ≤ (2 ^ 63 - 1) / 8 := by decide
    omega
  have hfit : ¬ (!Builtin.List.listFitsIndex k) = true := by
    rw [fitsIndex_both h1 h2]
    exact Bool.false_ne_true
  have hlong : ¬ Builtin.List.listTooLong (its.toArray.size * k.toNat) = true := by
    rw [notLongL hlen]
    exact Bool.false_ne_true
  have hnew : List.foldl (fun x1 x2 => x1 ++ x2) #[] (List.replicate (if its.toArray.isEmpty = true then 0 else k.toNat) its.toArray) = (List.replicate k.toNat its).flatten.toArray := by
    have f0 : ∀ m : Nat, List.foldl (fun x1 x2 => x1 ++ x2) #[] (List.replicate m its.toArray) = (List.replicate m its).flatten.toArray := fun m => by
      have := foldl_rep its m []
      rw [List.nil_append] at this
      exact this
    rw [f0]
    cases its with
    | nil => simp
    | cons a r' => rw [if_neg (by simp)]
  refine wpAny_binaryOp_repeat_ref (T := "list") (U := "int") (by decide) ⟨_, e, rfl⟩ (fun s' => typeIs_int s' k t) noFill_list_mul F.fills_int_mul F.slot_int_rmul repeat_list F.slot_int_index.lookup
    (call_meets F.slot_int_rmul (typeIs_int s k t) F.entry_int_rmul (F.args_int_rmul_2 _ _) (int___rmul___int_list k t l its.toArray n)
      ⟨e, rfl, ⟨_, e, rfl⟩, call_meets F.slot_list_mul ⟨_, e, rfl⟩ F.entry_list_mul (F.args_list_mul_2 _ _) (AutoListH.list___mul___list_int_3 l its.toArray n k t hfit hcap hlong) ⟨e, ?_⟩⟩)
  rw [hnew]
  exact ⟨.ref _, _, I.lnew (t' := s.toks) (r.rep k.toNat) (by rw [PyProof.Rows.lm_len_rep_flat, Nat.mul_comm]; exact hz), rfl, q _ I.fresh⟩
/-- tuple * 1 is the tuple itself -/
theorem tuple_mul1 (l : Addr) (items : Array Value) (n : Nat) (dd : Option Addr) (sl : Array (Option Value)) (u : Tok) :
    Meets (Builtin.«tuple.__mul__» ⟨[.ref l, .int 1 u], []⟩) (fun _ R s => s.heap.get? l = some { cls := .type "tuple", dict := dd, data := .seq items n, slots := sl } ∧ R (.ok (.ret (Value.ref l))) s) :=
  .of_wp fun prog w A R s h => by
    obtain ⟨hp, g, d, tk, os⟩ := s
    obtain ⟨hl, h⟩ := h
    have f1 := AutoSeq1.idx_int
    wp_walk using wpAny_loadPart' hl
    repeat (first
      | (refine wpAny_ite_false (by decide) ?_; wp_walk using wpAny_loadPart' hl)
      | (refine wpAny_ite_true (decide_eq_true (by simp)) ?_; wp_walk using wpAny_loadPart' hl))
    exact ⟨_, rfl, h⟩
def rRepT1 (K : PySem.W.Frag) : R2 := fun x y H Q => ∃ l xs, x = .ref l ∧ y = .int 1 ∧ SqT K H l xs ∧ Q (.ref l) H
theorem op_repT1 : OpR X (binaryOp .Mult) (rRepT1 X.K) := by
  intro pins s σ H x y v u Q I rx ry h
  obtain ⟨l, xs, rfl, rfl, hT, q⟩ := h
  cases rx
  obtain ⟨t, rfl⟩ := ry
  obtain ⟨its, r, ⟨⟨cls, dd, data, sl⟩, ho, hc, n, hd⟩, hs⟩ := I.tuple hT
  simp only at hc hd
  subst hc hd
  refine wpAny_binaryOp_repeat_ref (T := "tuple") (U := "int") (by decide) ⟨_, ho, rfl⟩ (fun s' => typeIs_int s' 1 t) noFill_tuple_mul F.fills_int_mul F.slot_int_rmul repeat_tuple F.slot_int_index.lookup
    (call_meets F.slot_int_rmul (typeIs_int s 1 t) F.entry_int_rmul (F.args_int_rmul_2 _ _) (int_rmul_tuple 1 t l its.toArray n dd sl)
      ⟨ho, rfl, ⟨_, ho, rfl⟩, call_meets F.slot_tuple_mul ⟨_, ho, rfl⟩ F.entry_tuple_mul (F.args_tuple_mul_2 _ _) (tuple_mul1 l its.toArray n dd sl t) ⟨ho, ?_⟩⟩)
  exact ⟨.ref l, H, I, rfl, q⟩
def rMulA (K : PySem.W.Frag) : R2 := fun x y H Q => (rI CMul fun i j => .int (i * j)) x y H Q ∨ (fun x y H Q => rRepR x y H Q ∨ (fun x y H Q => rRepT K x y H Q ∨ rRepT1 K x y H Q) x y H Q) x y H Q
theorem op_mulA : OpR X (binaryOp .Mult) (rMulA X.K) := op_mul.or (op_repR.or (op_repT.or op_repT1))
end
theorem cd_mul {K : PySem.W.Frag} : CaD K (r2 (rMulA K)) gMul := by
  intro F H vs ds w Q e vw hg q
  unfold gMul at hg
  split at hg
  · rename_i i j
    obtain ⟨x, y, rfl, hx, hy⟩ := vw.two
    split at hg
    · rename_i hc
      cases hg
      refine ⟨x, y, rfl, .inl ⟨i, j, hx.int, hy.int, ?_, fin_int e q⟩⟩
      rcases hc with h | h
      · exact .inl ⟨by omega, by omega⟩
      · exact .inr ⟨by omega, by omega⟩
    · cases hg
  · rename_i xs k
    obtain ⟨x, y, rfl, hx, hy⟩ := vw.two
    split at hg
    · rename_i hc
      cases hg
      obtain ⟨a, vs, rfl, h1, r1⟩ := hx.lst
      obtain rfl := hy.int
      have el := r1.length
      by_cases hk : -(2 ^ 63) ≤ k
      · refine ⟨_, _, rfl, .inr (.inl ⟨a, k, vs, rfl, rfl, h1, hk, by omega, ?_, fin_lst e (r1.rep _) q⟩)⟩
        have : vs.length * k.toNat ≤ 1000 * 1000 := Nat.mul_le_mul (by omega) (by omega)
        exact sz (by omega)
      · exfalso
        omega
    · cases hg
  · rename_i xs k
    obtain ⟨x, y, rfl, hx, hy⟩ := vw.two
    split at hg
    · rename_i hc
      cases hg
      obtain ⟨a, vs, rfl, f1, h1, r1⟩ := hx.tup e
      obtain rfl := hy.int
      have el := r1.length
      by_cases hk : k = 1
      · subst hk
        refine ⟨_, _, rfl, .inr (.inr (.inr ⟨a, vs, rfl, rfl, h1, ?_⟩))⟩
        have e1 : (List.replicate (1 : Int).toNat xs).flatten = xs := by
          show (List.replicate 1 xs).flatten = xs
          simp
        rw [e1] at q
        exact fin_rep e (.tup f1 r1) q
      · refine ⟨_, _, rfl, .inr (.inr (.inl ⟨a, k, vs, rfl, rfl, h1, fun z => ?_, by omega, by omega, by omega, fin_tup e (r1.rep _) q⟩))⟩
        subst z
        cases r1
        exact hc.2.2.2 rfl
    · cases hg
  · cases hg

/-! ### items -/
def gIx : List D → Option W
  | [.lst ds, .int i] => (atI ds i).map .v
  | [.tup ds, .int i] => (atI ds i).map .v
  | [.scr ns, .int i] => (atI ns i).map fun n => .v (.int n)
  | [.str x, .int i] => if x.length ≤ 1000000 then (atI x.cps.toList i).map fun c => .v (.str ⟨#[c]⟩) else none
  | _ => none
theorem atI_rep {K : PySem.W.Frag} {F : Hp} {vs : List V} {ds : List D} {i : Int} {d : D} (r : RepDs K F vs ds) (h : atI ds i = some d) : ∃ v, atI vs i = some v ∧ RepD K F v d := by
  unfold atI at h ⊢
  rw [r.length]
  cases e : ixN ds.length i with
  | none => rw [e] at h; cases h
  | some j =>
    rw [e] at h
    exact r.get h
theorem cd_ix {K : PySem.W.Frag} : CaD K (r2 (rIx K)) gIx := by
  intro F H vs ds w Q e vw hg q
  unfold gIx at hg
  split at hg
  · rename_i xs i
    obtain ⟨x, y, rfl, hx, hy⟩ := vw.two
    obtain ⟨d, h1, rfl⟩ := Option.map_eq_some_iff.mp hg
    obtain ⟨a, us, rfl, h2, r⟩ := hx.lst
    obtain ⟨v, h3, r3⟩ := atI_rep r h1
    exact ⟨_, _, rfl, .inl ⟨a, us, i, v, rfl, hy.int, .inl h2, h3, fin_rep e r3 q⟩⟩
  · rename_i xs i
    obtain ⟨x, y, rfl, hx, hy⟩ := vw.two
    obtain ⟨d, h1, rfl⟩ := Option.map_eq_some_iff.mp hg
    obtain ⟨a, us, rfl, _, h2, r⟩ := hx.tup e
    obtain ⟨v, h3, r3⟩ := atI_rep r h1
    exact ⟨_, _, rfl, .inr (.inl ⟨a, us, i, v, rfl, hy.int, h2, h3, fin_rep e r3 q⟩)⟩
  · rename_i ns i
    obtain ⟨x, y, rfl, hx, hy⟩ := vw.two
    obtain ⟨n, h1, rfl⟩ := Option.map_eq_some_iff.mp hg
    obtain ⟨a, rfl, h2⟩ := hx.scr e
    refine ⟨_, _, rfl, .inl ⟨a, _, i, .int n, rfl, hy.int, h2, ?_, fin_int e q⟩⟩
    unfold atI at h1 ⊢
    rw [List.length_map]
    cases e1 : ixN ns.length i with
    | none => rw [e1] at h1; cases h1
    | some j =>
      rw [e1] at h1
      have h1 : ns[j]? = some n := h1
      show (ns.map V.int)[j]? = some (.int n)
      rw [List.getElem?_map, h1]; rfl
  · rename_i z i
    obtain ⟨x, y, rfl, hx, hy⟩ := vw.two
    split at hg
    · rename_i hl
      obtain ⟨c, h1, rfl⟩ := Option.map_eq_some_iff.mp hg
      exact ⟨_, _, rfl, .inr (.inr ⟨z, i, c, hx.str, hy.int, sz hl, h1, fin_str e q⟩)⟩
    · cases hg
  · cases hg

/-! ### slices -/
def cutA {α : Type} (xs : List α) (lo hi : Option Int) : List α := (xs.drop (HT.sIx xs.length 0 lo)).take (HT.sIx xs.length xs.length hi - HT.sIx xs.length 0 lo)
theorem RepDs.cut {K : PySem.W.Frag} {F : Hp} {vs : List V} {ds : List D} (r : RepDs K F vs ds) (lo hi : Option Int) : RepDs K F (cutV vs lo hi) (cutA ds lo hi) := by
  unfold cutV cutA
  rw [r.length]
  exact (r.drop _).take _
def rSlAll (K : PySem.W.Frag) : V → Option Int → Option Int → Hp → VK → Prop := fun x lo hi H Q => rSlL K x lo hi H Q ∨ rSlA K x lo hi H Q
theorem sl_all {X : Cx} : SlR X (rSlAll X.K) := sl_list.or sl_tupA
def gSl (lo hi : Option Int) : D → Option W
  | .lst ds => some (.l false (cutA ds lo hi))
  | .tup ds => some (.v (.tup (cutA ds lo hi)))
  | _ => none
theorem sl_sem {K : PySem.W.Frag} {F H : Hp} {x : V} {d : D} {lo hi : Option Int} {w : W} {Q : VK} (e : Same F H) (hx : View K F H x d) (hg : gSl lo hi d = some w) (q : ∀ v F' H' p, Grow F H F' H' p → RepW K F' H' v w p → Q v H') : rSlAll K x lo hi H Q := by
  cases d with
  | lst ds =>
    cases hg
    obtain ⟨a, us, rfl, h2, r⟩ := hx.lst
    exact .inl ⟨a, us, rfl, .inl h2, fin_lst e (r.cut lo hi) q⟩
  | tup ds =>
    cases hg
    obtain ⟨a, us, rfl, f1, h2, r⟩ := hx.tup e
    refine .inr ⟨a, us, rfl, h2, fun z => ?_, fun _ => fin_tup e (r.cut lo hi) q⟩
    have e1 : cutA ds lo hi = ds := by
      unfold cutA
      rw [r.length] at z
      rw [z.1, z.2]
      simp
    rw [e1] at q
    exact fin_rep e (.tup f1 r) q
  | _ => cases hg
def gSlB : List D → Option W
  | [d, .int i, .int j] => gSl (some i) (some j) d
  | _ => none
def gSlL : List D → Option W
  | [d, .int i] => gSl (some i) none d
  | _ => none
def gSlH : List D → Option W
  | [d, .int i] => gSl none (some i) d
  | _ => none
section
variable {X : Cx} {Wx : WX} {a lo hi : Expr} {fa fl fh : M U} {pos p2 : Pos}
def rB (K : PySem.W.Frag) : List V → Hp → VK → Prop := fun vs H Q => ∃ x i j, vs = [x, .int i, .int j] ∧ rSlAll K x (some i) (some j) H Q
def rL (K : PySem.W.Frag) : List V → Hp → VK → Prop := fun vs H Q => ∃ x i, vs = [x, .int i] ∧ rSlAll K x (some i) none H Q
def rH (K : PySem.W.Frag) : List V → Hp → VK → Prop := fun vs H Q => ∃ x i, vs = [x, .int i] ∧ rSlAll K x none (some i) H Q
theorem cd_slB {K : PySem.W.Frag} : CaD K (rB K) gSlB := by
  intro F H vs ds w Q e vw hg q
  unfold gSlB at hg
  split at hg
  · rename_i d i j
    cases vw with
    | cons h1 h2 =>
      obtain ⟨x, y, rfl, hx, hy⟩ := h2.two
      obtain rfl := hx.int
      obtain rfl := hy.int
      exact ⟨_, i, j, rfl, sl_sem e h1 hg q⟩
  · cases hg
theorem cd_slL {K : PySem.W.Frag} : CaD K (rL K) gSlL := by
  intro F H vs ds w Q e vw hg q
  unfold gSlL at hg
  split at hg
  · rename_i d i
    obtain ⟨x, y, rfl, hx, hy⟩ := vw.two
    obtain rfl := hy.int
    exact ⟨_, i, rfl, sl_sem e hx hg q⟩
  · cases hg
theorem cd_slH {K : PySem.W.Frag} : CaD K (rH K) gSlH := by
  intro F H vs ds w Q e vw hg q
  unfold gSlH at hg
  split at hg
  · rename_i d i
    obtain ⟨x, y, rfl, hx, hy⟩ := vw.two
    obtain rfl := hy.int
    exact ⟨_, i, rfl, sl_sem e hx hg q⟩
  · cases hg
theorem e_slL (ha : EvS X Wx a fa) (hl : EvS X Wx lo fl) : EvS X Wx (.Subscript a (.Slice (some lo) none none p2) pos) (opN gSlL [fa, fl]) :=
  PE.imp (pe_slice sl_all ha (po_some hl) po_none) fun σ H Q h => tOf_mono (aOf_2 (aOf_op cd_slL h)) fun _ _ q => tOf_mono q fun _ _ z => by
    obtain ⟨x, i, e, z⟩ := z
    cases e
    exact ⟨i, rfl, z⟩
theorem e_slH (ha : EvS X Wx a fa) (hl : EvS X Wx hi fh) : EvS X Wx (.Subscript a (.Slice none (some hi) none p2) pos) (opN gSlH [fa, fh]) :=
  PE.imp (pe_slice sl_all ha po_none (po_some hl)) fun σ H Q h => tOf_mono (aOf_2 (aOf_op cd_slH h)) fun _ _ q => tOf_mono q fun _ _ z => by
    obtain ⟨x, i, e, z⟩ := z
    cases e
    exact ⟨i, rfl, z⟩
def intOnly (f : M U) : M U := fun env => (f env).bind fun u e => match u with
  | .w (.v (.int _)) => .ok u e
  | _ => .stuck
theorem tOf_int {K : PySem.W.Frag} {mg : Str → Option Value} {f : M U} {σ : L2.St} {H : Hp} {Q : VK} (h : tOf K mg Wx (intOnly f) σ H Q) : tOf K mg Wx f σ H fun v H1 => ∃ i, v = .int i ∧ Q (.int i) H1 := by
  obtain ⟨F, env, own, S, h⟩ := h
  unfold intOnly at h
  refine tOf_use S (fun u env1 e1 v F1 H1 own1 p O1 => ?_) (fun c env1 e1 C F1 H1 own1 => ?_) (fun e1 => ?_)
  · rw [e1, R.bind_ok] at h
    split at h
    · rename_i r u' e' heq
      split at heq
      · rename_i i
        cases heq
        obtain ⟨_, hr⟩ := O1.r
        cases hr
        exact ⟨i, rfl, h _ _ _ _ _ O1⟩
      · cases heq
    · rename_i heq
      split at heq <;> cases heq
    · exact h.elim
  · rw [e1] at h
    exact h C F1 H1 own1
  · rw [e1] at h
    exact h
theorem e_slB (ha : EvS X Wx a fa) (hl : EvS X Wx lo fl) (hh : EvS X Wx hi fh) : EvS X Wx (.Subscript a (.Slice (some lo) (some hi) none p2) pos) (opN gSlB [fa, intOnly fl, fh]) :=
  PE.imp (pe_slice sl_all ha (po_some hl) (po_some hh)) fun σ H Q h => tOf_mono (aOf_cons (aOf_op cd_slB h)) fun _ _ q => tOf_mono (tOf_int (aOf_cons q)) fun v _ q => by
    obtain ⟨i, rfl, q⟩ := q
    refine ⟨i, rfl, tOf_mono (aOf_1 q) fun _ _ z => ?_⟩
    obtain ⟨x, i', j, e, z⟩ := z
    cases e
    exact ⟨j, rfl, z⟩
end

/-! ### names, constants -/
def eVar (i : Nat) : M U := fun env => match env[i]? with
  | some (some (.v d)) => .ok (.w (.v d)) env
  | some (some (.l _ _)) => .ok (.b i) env
  | some (some (.m _ _)) => .ok (.b i) env
  | _ => .stuck
def eD (d : D) : M U := fun env => .ok (.w (.v d)) env
section
variable {X : Cx} {Wx : WX} {pos : Pos}
theorem tOf_here {K : PySem.W.Frag} {mg : Str → Option Value} {F : Hp} {env : DEnv} {own : Nat → Fp} {σ : L2.St} {H : Hp} {w : W} {v : V} {Q : VK} {P : V → Hp → Prop} (S : Sit K F σ H env own) (r : RepW K F H v w (fun _ => False)) (h : ∀ v F' H' own' p, Out K F H own σ (.w w) v env F' H' own' p → Q v H') : Q v H :=
  h v F H own _ ⟨S, r, fun _ z => z.elim, Step.refl.sub fun _ z => z.elim id False.elim⟩
theorem e_var (i : Nat) {x : Str} (hN : X.N[i]? = some x := by rfl) (hv : Vis X.env.scope x := by first | exact Or.inl rfl | exact Or.inr (Or.inl rfl) | exact Or.inr (Or.inr rfl)) (hd : (x == ("__debug__" : Str)) = false := by decide)
    (hcd : (x == ("__classdict__" : Str)) = false := by decide) : EvS X Wx (.Name x pos) (eVar i) := PE.imp (pe_var hN hv hd hcd) fun σ H Q h => by
  obtain ⟨F, env, own, S, h⟩ := h
  unfold eVar at h
  split at h
  · rename_i u env' heq
    split at heq
    · rename_i d hw
      cases heq
      obtain ⟨v, hs, r⟩ := S.rep i _ hw
      exact ⟨v, hs, h v F H own (fun _ => False) ⟨S, ⟨fun _ z => z, r.2⟩, fun _ z => z.elim, Step.refl.sub fun _ z => z.elim id False.elim⟩⟩
    · rename_i b ds hw
      cases heq
      obtain ⟨v, hs, r⟩ := S.rep i _ hw
      exact ⟨v, hs, h v F H own (fun _ => False) ⟨S, ⟨fun _ z => z, hs⟩, fun _ z => z.elim, Step.refl.sub fun _ z => z.elim id False.elim⟩⟩
    · rename_i b ds hw
      cases heq
      obtain ⟨v, hs, r⟩ := S.rep i _ hw
      exact ⟨v, hs, h v F H own (fun _ => False) ⟨S, ⟨fun _ z => z, hs⟩, fun _ z => z.elim, Step.refl.sub fun _ z => z.elim id False.elim⟩⟩
    · cases heq
  · rename_i heq
    split at heq <;> cases heq
  · exact h.elim
theorem e_const {e : Expr} {v : V} {d : D} (he : PE X e (tC v)) (r : ∀ F, RepD X.K F v d) : EvS X Wx e (eD d) := PE.imp he fun σ H Q h => by
  obtain ⟨F, env, own, S, h⟩ := h
  exact h v F H own (fun _ => False) ⟨S, ⟨fun _ z => z, r F⟩, fun _ z => z.elim, Step.refl.sub fun _ z => z.elim id False.elim⟩
theorem e_int {i : Int} {j : Nat} : EvS X Wx (.Constant (.int i) j pos) (eD (.int i)) := e_const pe_int fun _ => .int i
theorem e_bl {i : Bool} {j : Nat} : EvS X Wx (.Constant (.bool i) j pos) (eD (.bl i)) := e_const pe_bl fun _ => .bl i
theorem e_non {j : Nat} : EvS X Wx (.Constant .none j pos) (eD .non) := e_const pe_non fun _ => .non
theorem e_str {x : Str} {j : Nat} : EvS X Wx (.Constant (.str x) j pos) (eD (.str x)) := e_const pe_str fun _ => .str x
theorem e_glob {x : Str} {v : V} {d : D} {u : Value} (hg : Gl X x) (hm : X.mg x = some u) (r : RelV v u) (rd : ∀ F, RepD X.K F v d) (hd : (x == ("__debug__" : Str)) = false := by decide) : EvS X Wx (.Name x pos) (eD d) := e_const (pe_glob hg hm r hd) rd
theorem e_bltn {x : Str} {v : V} {d : D} {u : Value} (hg : Gl X x) (hm : X.mg x = none) (hv : bootBuiltins x = some u) (r : RelV v u) (rd : ∀ F, RepD X.K F v d) (hn : x ≠ "__name__" := by decide) (hd : (x == ("__debug__" : Str)) = false := by decide) : EvS X Wx (.Name x pos) (eD d) := e_const (pe_bltn hg hm hv r hn hd) rd
end
end DL

namespace DL
open PySem PySem.Spec PyProof.Rows L2

/-! ### for good -/
def frz1 (env : DEnv) : U → Option (D × DEnv)
  | .w w => some (datW w, env)
  | .b i => match env[i]? with
    | some (some (.v d)) => some (d, env)
    | some (some (.l false ds)) => some (.lst ds, env.set i (some (.v (.lst ds))))
    | some (some (.m ks ds)) => some (.dic ks ds, env.set i (some (.v (.dic ks ds))))
    | _ => none
def frzs (env : DEnv) : List U → Option (List D × DEnv)
  | [] => some ([], env)
  | u :: us => match frz1 env u with
    | some (d, e1) => match frzs e1 us with
      | some (ds, e2) => some (d :: ds, e2)
      | none => none
    | none => none
section
variable {K : PySem.W.Frag} {F H F1 H1 : Hp} {σ : L2.St} {env env' : DEnv} {own own1 : Nat → Fp} {p : Fp}
theorem Sit.noF (S : Sit K F σ H env own) {a : Addr} {i : Nat} (h : own i a) : F a = none := (S.there ⟨i, h⟩).2
/-- a list of nobody's name is let stand for good -/
theorem Sit.frzT (S : Sit K F σ H env own) {a : Addr} {ho : HO} (hH : H a = some ho) (hF : F a = none) (d : ¬ all own a) : Sit K (upd F a ho) σ H env own where
  ex := fun x o h => by
    by_cases z : x = a
    · subst z; rw [upd_same] at h; rw [hH]; exact h
    · rw [upd_ne z] at h; exact S.ex x o h
  len := S.len
  rep := fun i w h => by
    obtain ⟨v, e, r⟩ := S.rep i w h
    refine ⟨v, e, r.frame (same_upd hF) (fun _ _ _ q => q) fun x q => ?_⟩
    have ne : x ≠ a := fun z => d ⟨i, z ▸ q⟩
    rw [upd_ne ne]
    exact S.noF q
  emp := S.emp
  dis := S.dis
theorem frz1_ok {v : V} {u : U} {d : D} (S : Sit K F σ H env own) (r : RepU K F H σ v u p) (dj : ∀ a, p a → ¬ all own a) (h : frz1 env u = some (d, env')) :
    ∃ F' own', Sit K F' σ H env' own' ∧ RepD K F' v d ∧ Step F H (fun a => all own a ∨ p a) F' H (all own') := by
  have refl : Step F H (fun a => all own a ∨ p a) F H (all own) := Step.refl.sub fun _ z => .inl z
  cases u with
  | w w =>
    cases h
    cases w with
    | v d => exact ⟨F, own, S, r.2, refl⟩
    | l b ds =>
      obtain ⟨a, vs, rfl, hp, hH, hF, rr⟩ := r
      have pa := (hp a).mpr rfl
      refine ⟨upd F a (.lst vs), own, S.frzT hH hF (dj a pa), .lst (.inl upd_same) (rr.mono (same_upd hF)), same_upd hF, fun _ _ h _ => h, fun _ z => .inl (.inl z), fun x o h n => ?_⟩
      by_cases z : x = a
      · subst z; exact .inl (.inr pa)
      · rw [upd_ne z, n] at h; cases h
    | m ks ds =>
      obtain ⟨a, vs, rfl, hp, hH, hF, hk, rr⟩ := r
      have pa := (hp a).mpr rfl
      refine ⟨upd F a (.dT vs), own, S.frzT hH hF (dj a pa), .dic upd_same hk (rr.mono (same_upd hF)), same_upd hF, fun _ _ h _ => h, fun _ z => .inl (.inl z), fun x o h n => ?_⟩
      by_cases z : x = a
      · subst z; exact .inl (.inr pa)
      · rw [upd_ne z, n] at h; cases h
  | b i =>
    have h : (match env[i]? with | some (some (.v d)) => some (d, env) | some (some (.l false ds)) => some (.lst ds, env.set i (some (.v (.lst ds)))) | some (some (.m ks ds)) => some (.dic ks ds, env.set i (some (.v (.dic ks ds)))) | _ => none) = some (d, env') := h
    split at h
    · rename_i d' hw
      cases h
      obtain ⟨v', e1, r'⟩ := S.rep i _ hw
      have e2 : v' = v := by
        rw [r.2] at e1
        injection e1 with e1
        injection e1 with e1
        exact e1.symm
      subst e2
      exact ⟨F, own, S, r'.2, refl⟩
    · rename_i ds hw
      cases h
      obtain ⟨v', e1, r'⟩ := S.rep i _ hw
      have e2 : v' = v := by
        rw [r.2] at e1
        injection e1 with e1
        injection e1 with e1
        exact e1.symm
      subst e2
      obtain ⟨a, vs, rfl, hp, hH, hF, rr⟩ := r'
      have pa := (hp a).mpr rfl
      have hi : i < env.length := (List.getElem?_eq_some_iff.mp hw).1
      refine ⟨upd F a (.lst vs), fun j x => j ≠ i ∧ own j x, ⟨fun x o h => ?_, by rw [List.length_set]; exact S.len, fun j w h => ?_, fun j x h => ?_, fun j k x h1 h2 => S.dis j k x h1.2 h2.2⟩, .lst (.inl upd_same) (rr.mono (same_upd hF)), same_upd hF, fun _ _ h _ => h, fun x z => ?_, fun x o h n => ?_⟩
      · by_cases z : x = a
        · subst z; rw [upd_same] at h; rw [hH]; exact h
        · rw [upd_ne z] at h; exact S.ex x o h
      · by_cases z : j = i
        · subst z
          rw [List.getElem?_set_self hi] at h
          cases h
          exact ⟨.ref a, r.2, fun x y => y.1 rfl, .lst (.inl upd_same) (rr.mono (same_upd hF))⟩
        · rw [List.getElem?_set_ne (Ne.symm z)] at h
          obtain ⟨v, e, r2⟩ := S.rep j w h
          refine ⟨v, e, ?_⟩
          have e3 : (fun x => j ≠ i ∧ own j x) = own j := funext fun x => propext ⟨fun y => y.2, fun y => ⟨z, y⟩⟩
          show RepW K _ H v w (fun x => j ≠ i ∧ own j x)
          rw [e3]
          refine r2.frame (same_upd hF) (fun _ _ _ q => q) fun x q => ?_
          have ne : x ≠ a := fun y => z (S.dis j i x q ((hp x).mpr y))
          rw [upd_ne ne]
          exact S.noF q
      · obtain ⟨w, e⟩ := S.emp j x h.2
        exact ⟨w, by rw [List.getElem?_set_ne (Ne.symm h.1)]; exact e⟩
      · obtain ⟨j, _, y⟩ := z
        exact .inl (.inl ⟨j, y⟩)
      · by_cases z : x = a
        · subst z; exact .inl (.inl ⟨i, pa⟩)
        · rw [upd_ne z, n] at h; cases h
    · rename_i ks ds hw
      cases h
      obtain ⟨v', e1, r'⟩ := S.rep i _ hw
      have e2 : v' = v := by
        rw [r.2] at e1
        injection e1 with e1
        injection e1 with e1
        exact e1.symm
      subst e2
      obtain ⟨a, vs, rfl, hp, hH, hF, hk, rr⟩ := r'
      have pa := (hp a).mpr rfl
      have hi : i < env.length := (List.getElem?_eq_some_iff.mp hw).1
      refine ⟨upd F a (.dT vs), fun j x => j ≠ i ∧ own j x, ⟨fun x o h => ?_, by rw [List.length_set]; exact S.len, fun j w h => ?_, fun j x h => ?_, fun j k x h1 h2 => S.dis j k x h1.2 h2.2⟩, .dic upd_same hk (rr.mono (same_upd hF)), same_upd hF, fun _ _ h _ => h, fun x z => ?_, fun x o h n => ?_⟩
      · by_cases z : x = a
        · subst z; rw [upd_same] at h; rw [hH]; exact h
        · rw [upd_ne z] at h; exact S.ex x o h
      · by_cases z : j = i
        · subst z
          rw [List.getElem?_set_self hi] at h
          cases h
          exact ⟨.ref a, r.2, fun x y => y.1 rfl, .dic upd_same hk (rr.mono (same_upd hF))⟩
        · rw [List.getElem?_set_ne (Ne.symm z)] at h
          obtain ⟨v, e, r2⟩ := S.rep j w h
          refine ⟨v, e, ?_⟩
          have e3 : (fun x => j ≠ i ∧ own j x) = own j := funext fun x => propext ⟨fun y => y.2, fun y => ⟨z, y⟩⟩
          show RepW K _ H v w (fun x => j ≠ i ∧ own j x)
          rw [e3]
          refine r2.frame (same_upd hF) (fun _ _ _ q => q) fun x q => ?_
          have ne : x ≠ a := fun y => z (S.dis j i x q ((hp x).mpr y))
          rw [upd_ne ne]
          exact S.noF q
      · obtain ⟨w, e⟩ := S.emp j x h.2
        exact ⟨w, by rw [List.getElem?_set_ne (Ne.symm h.1)]; exact e⟩
      · obtain ⟨j, _, y⟩ := z
        exact .inl (.inl ⟨j, y⟩)
      · by_cases z : x = a
        · subst z; exact .inl (.inl ⟨i, pa⟩)
        · rw [upd_ne z, n] at h; cases h
    · cases h
theorem frzs_ok : ∀ {us : List U} {vs : List V} {ds : List D} {F : Hp} {env env' : DEnv} {own : Nat → Fp} {p : Fp}, Sit K F σ H env own → RepUs K F H σ vs us p → (∀ a, p a → ¬ all own a) → frzs env us = some (ds, env') →
    ∃ F' own', Sit K F' σ H env' own' ∧ RepDs K F' vs ds ∧ Step F H (fun a => all own a ∨ p a) F' H (all own')
  | [], [], ds, F, env, env', own, p, S, r, dj, h => by
    cases h
    exact ⟨F, own, S, .nil, Step.refl.sub fun _ z => .inl z⟩
  | u :: us, v :: vs, ds, F, env, env', own, p, S, r, dj, h => by
    obtain ⟨p1, p2, hp, hd, r1, r2⟩ := r
    have h : (match frz1 env u with | some (d, e1) => (match frzs e1 us with | some (ds, e2) => some (d :: ds, e2) | none => none) | none => none) = some (ds, env') := h
    split at h
    · rename_i d e1 h1
      split at h
      · rename_i ds2 e2 h2
        cases h
        obtain ⟨F1, own1, S1, rd1, s1⟩ := frz1_ok S r1 (fun a q => dj a ((hp a).mpr (.inl q))) h1
        obtain ⟨r2', dj2⟩ := RepUs.stepU r2 (fun a q z => by
          rcases z with z | z
          · exact dj a ((hp a).mpr (.inr q)) z
          · exact hd a z q) s1
        obtain ⟨F2, own2, S2, rd2, s2⟩ := frzs_ok S1 r2' dj2 h2
        refine ⟨F2, own2, S2, .cons (rd1.mono s2.ex) rd2, ((s1.more p2).trans s2).sup fun a z => ?_⟩
        rcases z with (z | z) | z
        · exact .inl z
        · exact .inr ((hp a).mpr (.inl z))
        · exact .inr ((hp a).mpr (.inr z))
      · cases h
    · cases h
  | [], _ :: _, _, _, _, _, _, _, _, r, _, _ => r.elim
  | _ :: _, [], _, _, _, _, _, _, _, r, _, _ => r.elim
theorem OutL.frz {F2 : Hp} {us : List U} {vs : List V} {ds : List D} (O : OutL K F H own σ us vs env F1 H1 own1 p) (h : frzs env us = some (ds, env')) : ∃ F2 own2, RepDs K F2 vs ds ∧ OutR K F H own σ env' F2 H1 own2 := by
  obtain ⟨F2, own2, S2, r2, s2⟩ := frzs_ok O.S O.r O.d h
  exact ⟨F2, own2, r2, S2, O.s.trans s2⟩
theorem Out.frz {u : U} {v : V} {d : D} (O : Out K F H own σ u v env F1 H1 own1 p) (h : frz1 env u = some (d, env')) : ∃ F2 own2, RepD K F2 v d ∧ OutR K F H own σ env' F2 H1 own2 := by
  obtain ⟨F2, own2, S2, r2, s2⟩ := frz1_ok O.S O.r O.d h
  exact ⟨F2, own2, r2, S2, O.s.trans s2⟩
end

/-! ### displays -/
def dTup (fs : List (M U)) : M U := fun env => (evs fs env).bind fun us e1 => match frzs e1 us with
  | some (ds, e2) => if ds.length ≤ 1000000 then .ok (.w (.v (.tup ds))) e2 else .stuck
  | none => .stuck
def dLst (fs : List (M U)) : M U := fun env => (evs fs env).bind fun us e1 => match frzs e1 us with
  | some (ds, e2) => if ds.length ≤ 1000000 then .ok (.w (.l false ds)) e2 else .stuck
  | none => .stuck
section
variable {X : Cx} {Wx : WX} {es : List Expr} {fs : List (M U)} {pos : Pos}
theorem e_tup {k : Nat} (ha : EaS X Wx es fs) : EvS X Wx (.Tuple es k pos) (dTup fs) := PE.imp (pe_tup ha) fun σ H Q h => by
  obtain ⟨F, env, own, S, h⟩ := h
  refine ⟨F, env, own, S, ?_⟩
  unfold dTup at h
  cases e : evs fs env with
  | stuck => rw [e] at h; exact h
  | raise c env1 => rw [e] at h; exact h
  | ok us env1 =>
    rw [e, R.bind_ok] at h
    intro vs F1 H1 own1 p O
    cases e1 : frzs env1 us with
    | none => rw [e1] at h; exact h.elim
    | some pr =>
      obtain ⟨ds, e2⟩ := pr
      rw [e1] at h
      dsimp only at h
      obtain ⟨F2, own2, r2, O2⟩ := O.frz (F2 := F) e1
      by_cases hl : ds.length ≤ 1000000
      · rw [if_pos hl] at h
        refine ⟨by rw [r2.length]; exact sz hl, fun q hq => ?_⟩
        have g : Grow F2 H1 (upd F2 q (.tup vs)) (upd H1 q (.tup vs)) _ := Grow.data O2.S.ex hq
        exact h _ _ _ _ _ (g.out O2 (RepW.ofRep (.tup (upd_same) (r2.mono (same_upd (sub_none O2.S.ex hq))))))
      · rw [if_neg hl] at h; exact h.elim
theorem e_lst (ha : EaS X Wx es fs) : EvS X Wx (.List es pos) (dLst fs) := PE.imp (pe_lst ha) fun σ H Q h => by
  obtain ⟨F, env, own, S, h⟩ := h
  refine ⟨F, env, own, S, ?_⟩
  unfold dLst at h
  cases e : evs fs env with
  | stuck => rw [e] at h; exact h
  | raise c env1 => rw [e] at h; exact h
  | ok us env1 =>
    rw [e, R.bind_ok] at h
    intro vs F1 H1 own1 p O
    cases e1 : frzs env1 us with
    | none => rw [e1] at h; exact h.elim
    | some pr =>
      obtain ⟨ds, e2⟩ := pr
      rw [e1] at h
      dsimp only at h
      obtain ⟨F2, own2, r2, O2⟩ := O.frz (F2 := F) e1
      by_cases hl : ds.length ≤ 1000000
      · rw [if_pos hl] at h
        refine ⟨by rw [r2.length]; exact sz hl, fun q hq => ?_⟩
        have g : Grow F2 H1 F2 (upd H1 q (.lst vs)) _ := Grow.ofOwn O2.S.ex hq
        exact h _ _ _ _ _ (g.out O2 ⟨q, vs, rfl, fun _ => Iff.rfl, upd_same, sub_none O2.S.ex hq, r2⟩)
      · rw [if_neg hl] at h; exact h.elim
end

/-! ### tests -/
def tst (f : M U) : M Bool := fun env => (f env).bind fun u e1 => match dat e1 u with
  | some (.bl b) => .ok b e1
  | _ => .stuck
section
variable {K : PySem.W.Frag} {mg : Str → Option Value} {Wx : WX} {f : M U} {σ : L2.St} {H : Hp}
theorem tOf_tst {Q : Bool → Hp → Prop} (h : ttOf K mg Wx (tst f) σ H Q) : tOf K mg Wx f σ H fun x H1 => ∃ c, x = .bl c ∧ Q c H1 := by
  obtain ⟨F, env, own, S, h⟩ := h
  unfold tst at h
  refine tOf_use S (fun u env1 e1 v F1 H1 own1 p O1 => ?_) (fun c env1 e1 C F1 H1 own1 => ?_) (fun e1 => ?_)
  · rw [e1, R.bind_ok] at h
    cases e2 : dat env1 u with
    | none => rw [e2] at h; exact h.elim
    | some d =>
      rw [e2] at h
      have vw := RepU.view O1.S O1.r e2
      cases d with
      | bl b => exact ⟨b, vw.bl, h _ _ _ O1.drop⟩
      | _ => exact h.elim
  · rw [e1] at h
    exact h C F1 H1 own1
  · rw [e1] at h
    exact h
end
section
variable {X : Cx} {Wx : WX} {a b e : Expr} {fa fb : M U} {ta tb : M Bool} {pos : Pos} {g : List D → Option W} {rest : List Expr}
theorem t_val (h : EvS X Wx e fa) (he : ∀ whole, isTrue e X.env whole = (do let v ← whole; standAt e.pos; holding [v] (truthy v)) := by intro _; rfl) : TtS X Wx e (tst fa) := PT.imp (pt_val h he) fun σ H Q q => tOf_tst q
theorem t_cmp {op : CmpOp} {r : R2} (ho : OpR X (compareOp op) r) (cd : CaD X.K (r2 r) g) (ha : EvS X Wx a fa) (hb : EvS X Wx b fb) (hm : behindInMarks op b = false) : TtS X Wx (.Compare a [op] [b] pos) (tst (opN g [fa, fb])) :=
  PT.imp (pt_cmpR ho ha hb hm) fun σ H Q h => tOf_mono (aOf_2 (aOf_op cd (tOf_tst h))) fun _ _ q => tOf_mono q fun _ _ z => r2_two z
theorem ttOf_bind {K : PySem.W.Frag} {mg : Str → Option Value} {β : Type} {f : M Bool} {σ : L2.St} {H F : Hp} {env : DEnv} {own : Nat → Fp} {Q : Bool → Hp → Prop} (S : Sit K F σ H env own)
    (hok : ∀ b env1, f env = .ok b env1 → ∀ F1 H1 own1, OutR K F H own σ env1 F1 H1 own1 → Q b H1)
    (hr : ∀ c env1, f env = .raise c env1 → ∀ C F1 H1 own1, mg c = some (.ref C) → OutR K F H own σ env1 F1 H1 own1 → Wx (.ref C) none σ H1)
    (hs : f env ≠ .stuck) : ttOf K mg Wx f σ H Q := ttOf_use S hok hr hs
def tAndD (t u : M Bool) : M Bool := fun env => (t env).bind fun b e1 => if b then u e1 else .ok false e1
def tOrD (t u : M Bool) : M Bool := fun env => (t env).bind fun b e1 => if b then .ok true e1 else u e1
def tNotD (t : M Bool) : M Bool := fun env => (t env).bind fun b e1 => .ok (!b) e1
abbrev TwS (X : Cx) (Wx : WX) (e : Expr) (f : M Bool) : Prop := PW X e (ttOf X.K X.mg Wx f)
theorem w_and1 (ha : TtS X Wx a ta) : TwS X Wx (.BoolOp .And [a] pos) ta := pw_and1 ha
theorem w_or1 (ha : TtS X Wx a ta) : TwS X Wx (.BoolOp .Or [a] pos) ta := pw_or1 ha
theorem w_and (ha : TtS X Wx a ta) (hb : TwS X Wx (.BoolOp .And (b :: rest) pos) tb) : TwS X Wx (.BoolOp .And (a :: b :: rest) pos) (tAndD ta tb) := PW.imp (pw_and ha hb) fun σ H Q h => by
  obtain ⟨F, env, own, S, h⟩ := h
  unfold tAndD at h
  refine ttOf_use S (fun c env1 e1 F1 H1 own1 O1 => ?_) (fun c env1 e1 C F1 H1 own1 => ?_) (fun e1 => ?_)
  · rw [e1, R.bind_ok] at h
    cases c with
    | true =>
      rw [if_pos rfl] at h
      show ttOf _ _ _ _ _ _ _
      refine ⟨F1, env1, own1, O1.S, ?_⟩
      cases e2 : tb env1 with
      | ok u env2 => rw [e2] at h; exact fun F2 H2 own2 O2 => h _ _ _ (O1.trans O2)
      | raise c env2 => rw [e2] at h; exact fun C F2 H2 own2 hm O2 => h C F2 H2 own2 hm (O1.trans O2)
      | stuck => rw [e2] at h; exact h
    | false =>
      rw [if_neg Bool.false_ne_true] at h
      exact h F1 H1 own1 O1
  · rw [e1] at h
    exact h C F1 H1 own1
  · rw [e1] at h
    exact h
theorem w_or (ha : TtS X Wx a ta) (hb : TwS X Wx (.BoolOp .Or (b :: rest) pos) tb) : TwS X Wx (.BoolOp .Or (a :: b :: rest) pos) (tOrD ta tb) := PW.imp (pw_or ha hb) fun σ H Q h => by
  obtain ⟨F, env, own, S, h⟩ := h
  unfold tOrD at h
  refine ttOf_use S (fun c env1 e1 F1 H1 own1 O1 => ?_) (fun c env1 e1 C F1 H1 own1 => ?_) (fun e1 => ?_)
  · rw [e1, R.bind_ok] at h
    cases c with
    | false =>
      rw [if_neg Bool.false_ne_true] at h
      show ttOf _ _ _ _ _ _ _
      refine ⟨F1, env1, own1, O1.S, ?_⟩
      cases e2 : tb env1 with
      | ok u env2 => rw [e2] at h; exact fun F2 H2 own2 O2 => h _ _ _ (O1.trans O2)
      | raise c env2 => rw [e2] at h; exact fun C F2 H2 own2 hm O2 => h C F2 H2 own2 hm (O1.trans O2)
      | stuck => rw [e2] at h; exact h
    | true =>
      rw [if_pos rfl] at h
      exact h F1 H1 own1 O1
  · rw [e1] at h
    exact h C F1 H1 own1
  · rw [e1] at h
    exact h
theorem t_w (h : TwS X Wx a ta) : TtS X Wx a ta := PW.pt h
theorem t_not (ha : TtS X Wx a ta) : TtS X Wx (.UnaryOp .Not a pos) (tNotD ta) := PT.imp (pt_not ha) fun σ H Q h => by
  obtain ⟨F, env, own, S, h⟩ := h
  unfold tNotD at h
  refine ttOf_use S (fun c env1 e1 F1 H1 own1 O1 => ?_) (fun c env1 e1 C F1 H1 own1 => ?_) (fun e1 => ?_)
  · rw [e1, R.bind_ok] at h
    exact h F1 H1 own1 O1
  · rw [e1] at h
    exact h C F1 H1 own1
  · rw [e1] at h
    exact h
/-! as values -/
def vAnd (fa fb : M U) : M U := fun env => (fa env).bind fun u e1 => match dat e1 u with
  | some (.bl b) => if b then fb e1 else .ok (.w (.v (.bl false))) e1
  | _ => .stuck
def vOr (fa fb : M U) : M U := fun env => (fa env).bind fun u e1 => match dat e1 u with
  | some (.bl b) => if b then .ok (.w (.v (.bl true))) e1 else fb e1
  | _ => .stuck
def gNot : List D → Option W
  | [.bl b] => some (.v (.bl (!b)))
  | _ => none
theorem tOf_after {K : PySem.W.Frag} {mg : Str → Option Value} {fb : M U} {σ : L2.St} {F H F1 H1 : Hp} {env1 : DEnv} {own own1 : Nat → Fp} {Q : VK} (O1 : OutR K F H own σ env1 F1 H1 own1)
    (h : match fb env1 with
      | .ok u env' => ∀ v F' H' own' p, Out K F H own σ u v env' F' H' own' p → Q v H'
      | .raise c env' => ∀ C F' H' own', mg c = some (.ref C) → OutR K F H own σ env' F' H' own' → Wx (.ref C) none σ H'
      | .stuck => False) : tOf K mg Wx fb σ H1 Q := by
  refine ⟨F1, env1, own1, O1.S, ?_⟩
  cases e2 : fb env1 with
  | ok u env2 => rw [e2] at h; exact fun v F2 H2 own2 p O2 => h _ _ _ _ _ (O1.out O2)
  | raise c env2 => rw [e2] at h; exact fun C F2 H2 own2 hm O2 => h C F2 H2 own2 hm (O1.trans O2)
  | stuck => rw [e2] at h; exact h
theorem e_one {op : BoolOp} (h : EvS X Wx a fa) : EvS X Wx (.BoolOp op [a] pos) fa := pe_one h
theorem e_and (ha : EvS X Wx a fa) (hb : EvS X Wx (.BoolOp .And (b :: rest) pos) fb) : EvS X Wx (.BoolOp .And (a :: b :: rest) pos) (vAnd fa fb) := PE.imp (pe_and ha hb) fun σ H Q h => by
  obtain ⟨F, env, own, S, h⟩ := h
  unfold vAnd at h
  refine tOf_use S (fun u env1 e1 v F1 H1 own1 p O1 => ?_) (fun c env1 e1 C F1 H1 own1 => ?_) (fun e1 => ?_)
  · rw [e1, R.bind_ok] at h
    cases e2 : dat env1 u with
    | none => rw [e2] at h; exact h.elim
    | some d =>
      rw [e2] at h
      have vw := RepU.view O1.S O1.r e2
      cases d with
      | bl b =>
        refine ⟨b, vw.bl, ?_⟩
        cases b with
        | true => exact tOf_after O1.drop h
        | false => exact h _ _ _ _ _ ((Grow.refl O1.S.ex).out O1.drop (RepW.ofBl false))
      | _ => exact h.elim
  · rw [e1] at h
    exact h C F1 H1 own1
  · rw [e1] at h
    exact h
theorem e_or (ha : EvS X Wx a fa) (hb : EvS X Wx (.BoolOp .Or (b :: rest) pos) fb) : EvS X Wx (.BoolOp .Or (a :: b :: rest) pos) (vOr fa fb) := PE.imp (pe_or ha hb) fun σ H Q h => by
  obtain ⟨F, env, own, S, h⟩ := h
  unfold vOr at h
  refine tOf_use S (fun u env1 e1 v F1 H1 own1 p O1 => ?_) (fun c env1 e1 C F1 H1 own1 => ?_) (fun e1 => ?_)
  · rw [e1, R.bind_ok] at h
    cases e2 : dat env1 u with
    | none => rw [e2] at h; exact h.elim
    | some d =>
      rw [e2] at h
      have vw := RepU.view O1.S O1.r e2
      cases d with
      | bl b =>
        refine ⟨b, vw.bl, ?_⟩
        cases b with
        | false => exact tOf_after O1.drop h
        | true => exact h _ _ _ _ _ ((Grow.refl O1.S.ex).out O1.drop (RepW.ofBl true))
      | _ => exact h.elim
  · rw [e1] at h
    exact h C F1 H1 own1
  · rw [e1] at h
    exact h
theorem e_not (ha : EvS X Wx a fa) : EvS X Wx (.UnaryOp .Not a pos) (opN gNot [fa]) := PE.imp (pe_not ha) fun σ H Q h => by
  have cd : CaD X.K (fun vs H Q => ∃ c, vs = [.bl c] ∧ Q (.bl (!c)) H) gNot := by
    intro F H vs ds w Q e vw hg q
    unfold gNot at hg
    split at hg
    · rename_i b
      obtain ⟨x, rfl, hx⟩ := vw.one
      cases hg
      exact ⟨b, by rw [hx.bl], fin_bl e q⟩
    · cases hg
  exact tOf_mono (aOf_1 (aOf_op cd h)) fun x _ q => by
    obtain ⟨c, e, q⟩ := q
    cases e
    exact ⟨c, rfl, q⟩
def eIf (t : M Bool) (fa fb : M U) : M U := fun env => (t env).bind fun b e1 => if b then fa e1 else fb e1
theorem e_if {c : Expr} (hc : TtS X Wx c ta) (ha : EvS X Wx a fa) (hb : EvS X Wx b fb) : EvS X Wx (.IfExp c a b pos) (eIf ta fa fb) := PE.imp (pe_ifExp hc ha hb) fun σ H Q h => by
  obtain ⟨F, env, own, S, h⟩ := h
  unfold eIf at h
  refine ttOf_use S (fun c env1 e1 F1 H1 own1 O1 => ?_) (fun c env1 e1 C F1 H1 own1 => ?_) (fun e1 => ?_)
  · rw [e1, R.bind_ok] at h
    cases c with
    | true => exact tOf_after O1 h
    | false => exact tOf_after O1 h
  · rw [e1] at h
    exact h C F1 H1 own1
  · rw [e1] at h
    exact h
end
end DL

namespace DL
open PySem PySem.Spec PyProof.Rows L2

/-! ### lists of ints, of truths -/
def intOf : D → Option Int
  | .int i => some i
  | _ => none
def intsOf : List D → Option (List Int)
  | [] => some []
  | .int i :: ds => (intsOf ds).map (i :: ·)
  | _ :: _ => none
def blsOf : List D → Option (List Bool)
  | [] => some []
  | .bl i :: ds => (blsOf ds).map (i :: ·)
  | _ :: _ => none
theorem intsOf_eq : ∀ {ds : List D} {ns : List Int}, intsOf ds = some ns → ds = ns.map D.int
  | [], _, h => by cases h; rfl
  | .int i :: ds, _, h => by
    obtain ⟨ms, h1, rfl⟩ := Option.map_eq_some_iff.mp h
    rw [intsOf_eq h1]; rfl
  | .non :: _, _, h => by cases h
  | .bl _ :: _, _, h => by cases h
  | .str _ :: _, _, h => by cases h
  | .tup _ :: _, _, h => by cases h
  | .lst _ :: _, _, h => by cases h
  | .nam _ _ :: _, _, h => by cases h
  | .ty _ :: _, _, h => by cases h
  | .scr _ :: _, _, h => by cases h
  | .dic _ _ :: _, _, h => by cases h
theorem blsOf_eq : ∀ {ds : List D} {ns : List Bool}, blsOf ds = some ns → ds = ns.map D.bl
  | [], _, h => by cases h; rfl
  | .bl i :: ds, _, h => by
    obtain ⟨ms, h1, rfl⟩ := Option.map_eq_some_iff.mp h
    rw [blsOf_eq h1]; rfl
  | .non :: _, _, h => by cases h
  | .int _ :: _, _, h => by cases h
  | .str _ :: _, _, h => by cases h
  | .tup _ :: _, _, h => by cases h
  | .lst _ :: _, _, h => by cases h
  | .nam _ _ :: _, _, h => by cases h
  | .ty _ :: _, _, h => by cases h
  | .scr _ :: _, _, h => by cases h
  | .dic _ _ :: _, _, h => by cases h
@[simp] theorem intsOf_map (ns : List Int) : intsOf (ns.map D.int) = some ns := by
  induction ns with
  | nil => rfl
  | cons n r ih => rw [List.map_cons]; show (intsOf (r.map D.int)).map _ = _; rw [ih]; rfl
@[simp] theorem blsOf_map (ns : List Bool) : blsOf (ns.map D.bl) = some ns := by
  induction ns with
  | nil => rfl
  | cons n r ih => rw [List.map_cons]; show (blsOf (r.map D.bl)).map _ = _; rw [ih]; rfl
theorem RepDs.bls {K : PySem.W.Frag} {F : Hp} : ∀ {vs : List V} {ns : List Bool}, RepDs K F vs (ns.map D.bl) → vs = ns.map V.bl
  | _, [], .nil => rfl
  | _, n :: r, .cons (.bl _) t => by rw [List.map_cons, ← RepDs.bls t]

/-! ### len, list, tuple -/
def gLen : List D → Option W
  | [.lst ds] => some (.v (.int ds.length))
  | [.tup ds] => some (.v (.int ds.length))
  | [.scr ns] => some (.v (.int ns.length))
  | [.str x] => if x.length ≤ 1000000 then some (.v (.int x.length)) else none
  | _ => none
theorem CallR.or {X : Cx} {f : Value} {r r' : List V → Hp → VK → Prop} (h : CallR X f r) (h' : CallR X f r') : CallR X f (fun vs H Q => r vs H Q ∨ r' vs H Q) := by
  intro pins s σ H xs us Q I rx q
  rcases q with q | q
  · exact h pins s σ H xs us Q I rx q
  · exact h' pins s σ H xs us Q I rx q
section
variable {X : Cx} {K : PySem.W.Frag}
def rLenA (K : PySem.W.Frag) : List V → Hp → VK → Prop := fun vs H Q => (∃ p ys, vs = [.ref p] ∧ (SqL K H p ys ∨ SqT K H p ys) ∧ Q (.int ys.length) H) ∨ (∃ z, vs = [.str z] ∧ z.length ≤ sizeLine ∧ Q (.int z.length) H)
theorem call_lenA : CallR X (.builtin "len") (rLenA X.K) := CallR.or call_len_seq call_len_str
theorem cd_len : CaD K (rLenA K) gLen := by
  intro F H vs ds w Q e vw hg q
  unfold gLen at hg
  split at hg
  · obtain ⟨x, rfl, hx⟩ := vw.one
    cases hg
    obtain ⟨a, us, rfl, h2, r⟩ := hx.lst
    exact .inl ⟨a, us, rfl, .inl (.inl h2), by rw [r.length]; exact fin_int e q⟩
  · obtain ⟨x, rfl, hx⟩ := vw.one
    cases hg
    obtain ⟨a, us, rfl, _, h2, r⟩ := hx.tup e
    exact .inl ⟨a, us, rfl, .inr h2, by rw [r.length]; exact fin_int e q⟩
  · rename_i ns
    obtain ⟨x, rfl, hx⟩ := vw.one
    cases hg
    obtain ⟨a, rfl, h2⟩ := hx.scr e
    exact .inl ⟨a, _, rfl, .inl h2, by rw [List.length_map]; exact fin_int e q⟩
  · rename_i z
    obtain ⟨x, rfl, hx⟩ := vw.one
    split at hg
    · rename_i hl
      cases hg
      exact .inr ⟨z, by rw [hx.str], sz hl, fin_int e q⟩
    · cases hg
  · cases hg
def gList : List D → Option W
  | [.lst ds] => some (.l false ds)
  | [.tup ds] => some (.l false ds)
  | [.scr ns] => some (.l false (ns.map D.int))
  | _ => none
theorem cd_list : CaD K (fun xs H Q => ∃ p ys, xs = [.ref p] ∧ (SqL K H p ys ∨ SqT K H p ys) ∧ ∀ l, H l = none → Q (.ref l) (upd H l (.lst ys))) gList := by
  intro F H vs ds w Q e vw hg q
  unfold gList at hg
  split at hg
  · obtain ⟨x, rfl, hx⟩ := vw.one
    cases hg
    obtain ⟨a, us, rfl, h2, r⟩ := hx.lst
    exact ⟨a, us, rfl, .inl (.inl h2), fin_lst e r q⟩
  · obtain ⟨x, rfl, hx⟩ := vw.one
    cases hg
    obtain ⟨a, us, rfl, _, h2, r⟩ := hx.tup e
    exact ⟨a, us, rfl, .inr h2, fin_lst e r q⟩
  · obtain ⟨x, rfl, hx⟩ := vw.one
    cases hg
    obtain ⟨a, rfl, h2⟩ := hx.scr e
    exact ⟨a, _, rfl, .inl h2, fin_lst e (RepDs.of_ints _) q⟩
  · cases hg
def gTuple : List D → Option W
  | [.lst ds] => some (.v (.tup ds))
  | [.tup ds] => some (.v (.tup ds))
  | _ => none
theorem cd_tuple : CaD K (fun xs H Q => ∃ p ys, xs = [.ref p] ∧ ((SqL K H p ys ∧ ∀ l, H l = none → Q (.ref l) (upd H l (.tup ys))) ∨ (SqT K H p ys ∧ Q (.ref p) H))) gTuple := by
  intro F H vs ds w Q e vw hg q
  unfold gTuple at hg
  split at hg
  · obtain ⟨x, rfl, hx⟩ := vw.one
    cases hg
    obtain ⟨a, us, rfl, h2, r⟩ := hx.lst
    exact ⟨a, us, rfl, .inl ⟨.inl h2, fin_tup e r q⟩⟩
  · obtain ⟨x, rfl, hx⟩ := vw.one
    cases hg
    obtain ⟨a, us, rfl, f1, h2, r⟩ := hx.tup e
    exact ⟨a, us, rfl, .inr ⟨h2, fin_rep e (.tup f1 r) q⟩⟩
  · cases hg
end

/-! ### sum, min, max, all, any -/
section
variable {prog : Program} {w : World} {A : Around} {E : Value → Shared → Prop} {s : Shared} {l : Addr}
theorem sum_intTup {xs : Array (Int × Tok)} {Q : Value → Shared → Prop} (hh : A.handled = none) (hl : s.heap.IsTuple l (intItems xs))
    (h : ∀ h' tk t', (∀ b o, s.heap.get? b = some o → h'.get? b = some o) → Q (.int (preSum (numAt xs) xs.size) t') { s with heap := h', toks := tk }) :
    wpAny (model prog w) A (call (.builtin "sum") [.ref l]) Q E s := by
  have hlt : l < s.heap.objs.size := by obtain ⟨_, e, _⟩ := hl; exact Heap.lt_size e
  refine call_sum_walkG (wpAny_pyIter_tuple hl ?_)
  refine ⟨_, [s.heap.objs.size, l], [s.heap.objs.size], _, _, _, numAt xs, rfl, Walks.tuple (A := A.in1) hh _ l (Nat.ne_of_lt hlt) (intItems xs), ⟨⟨_, Heap.get?_push_size _ rfl, rfl, rfl⟩, hl.push _⟩, fun b hb => ?_, (fun _ _ => intItems_at), fun h' tk t' hk => ?_⟩
  · show b < (s.heap.push _).objs.size
    rw [Heap.size_push]
    rcases List.mem_cons.mp hb with rfl | hb
    · exact Nat.lt_succ_self _
    · rcases List.mem_cons.mp hb with rfl | hb
      · exact Nat.lt_succ_of_lt hlt
      · cases hb
  · have hold : ∀ d o, s.heap.get? d = some o → h'.get? d = some o := fun d o e => by
      refine hk d o (fun hm => ?_) (Heap.get?_push_of_some _ e)
      rcases List.mem_cons.mp hm with e1 | hm
      · have := Heap.lt_size e; rw [e1] at this; exact Nat.lt_irrefl _ this
      · cases hm
    have := h h' tk t' hold
    simpa [intItems] using this
theorem sum_rawT {its : List Value} {ns : List Int} {Q : Value → Shared → Prop} (hh : A.handled = none) (hl : s.heap.IsTuple l its.toArray) (hi : IntsAre its ns)
    (h : ∀ h' tk t', (∀ b o, s.heap.get? b = some o → h'.get? b = some o) → Q (.int ns.sum t') { s with heap := h', toks := tk }) : wpAny (model prog w) A (call (.builtin "sum") [.ref l]) Q E s := by
  obtain ⟨xs, e⟩ := hi.allInts.items
  have hn : numsOf (intItems xs).toList = ns := by rw [← e]; exact hi.numsOf
  rw [nums_intItems] at hn
  rw [e] at hl
  refine sum_intTup hh hl fun h' tk t' hk => ?_
  have := h h' tk t' hk
  rw [preSum_eq, List.take_of_length_le (by simp), hn]; exact this
end
section
variable {X : Cx} {K : PySem.W.Frag}
def rSumT (K : PySem.W.Frag) : List V → Hp → VK → Prop := fun vs H Q => ∃ (a : Addr) (ns : List Int), vs = [V.ref a] ∧ SqT K H a (ns.map V.int) ∧ Q (.int ns.sum) H
theorem cr_sumT (hc : X.calm = true) : CallR X (.builtin "sum") (rSumT X.K) := by
  intro pins s σ H vs us Q I r h
  obtain ⟨a, ns, rfl, hs, q⟩ := h
  obtain ⟨its, rv, hl, _⟩ := I.tuple hs
  rw [Vals.ref1 r]
  exact sum_rawT (I.ok.hd hc) hl rv.ints fun h' tk t' hk => ⟨.int _, H, I.kept hk, ⟨_, rfl⟩, q⟩
def rSumA (K : PySem.W.Frag) : List V → Hp → VK → Prop := fun vs H Q => rSum K vs H Q ∨ rSumT K vs H Q
theorem cr_sumA (hc : X.calm = true) : CallR X (.builtin "sum") (rSumA X.K) := CallR.or (cr_sum hc) (cr_sumT hc)
def gSum : List D → Option W
  | [.lst ds] => (intsOf ds).map fun ns => .v (.int ns.sum)
  | [.tup ds] => (intsOf ds).map fun ns => .v (.int ns.sum)
  | _ => none
theorem cd_sum : CaD K (rSumA K) gSum := by
  intro F H vs ds w Q e vw hg q
  unfold gSum at hg
  split at hg
  · obtain ⟨x, rfl, hx⟩ := vw.one
    obtain ⟨ns, h1, rfl⟩ := Option.map_eq_some_iff.mp hg
    obtain ⟨a, us, rfl, h2, r⟩ := hx.lst
    rw [intsOf_eq h1] at r
    have := r.ints
    subst this
    exact .inl ⟨a, ns, rfl, .inl h2, fin_int e q⟩
  · obtain ⟨x, rfl, hx⟩ := vw.one
    obtain ⟨ns, h1, rfl⟩ := Option.map_eq_some_iff.mp hg
    obtain ⟨a, us, rfl, _, h2, r⟩ := hx.tup e
    rw [intsOf_eq h1] at r
    have := r.ints
    subst this
    exact .inr ⟨a, ns, rfl, h2, fin_int e q⟩
  · cases hg
def gAll : List D → Option W
  | [.lst ds] => (blsOf ds).map fun ns => .v (.bl (ns.all id))
  | _ => none
def gAny : List D → Option W
  | [.lst ds] => (blsOf ds).map fun ns => .v (.bl (ns.any id))
  | _ => none
theorem cd_all : CaD K (rAll K) gAll := by
  intro F H vs ds w Q e vw hg q
  unfold gAll at hg
  split at hg
  · obtain ⟨x, rfl, hx⟩ := vw.one
    obtain ⟨ns, h1, rfl⟩ := Option.map_eq_some_iff.mp hg
    obtain ⟨a, us, rfl, h2, r⟩ := hx.lst
    rw [blsOf_eq h1] at r
    have := r.bls
    subst this
    exact ⟨a, ns, rfl, .inl h2, fin_bl e q⟩
  · cases hg
theorem cd_any : CaD K (rAny K) gAny := by
  intro F H vs ds w Q e vw hg q
  unfold gAny at hg
  split at hg
  · obtain ⟨x, rfl, hx⟩ := vw.one
    obtain ⟨ns, h1, rfl⟩ := Option.map_eq_some_iff.mp hg
    obtain ⟨a, us, rfl, h2, r⟩ := hx.lst
    rw [blsOf_eq h1] at r
    have := r.bls
    subst this
    exact ⟨a, ns, rfl, .inl h2, fin_bl e q⟩
  · cases hg
/-! min and max of two, of three, of a list -/
def imax : List Int → Int
  | [] => 0
  | [x] => x
  | x :: y :: r => let m := imax (y :: r); if m > x then m else x
def imin : List Int → Int
  | [] => 0
  | [x] => x
  | x :: y :: r => let m := imin (y :: r); if m < x then m else x
theorem imax_spec : ∀ (x : Int) (r : List Int), imax (x :: r) ∈ x :: r ∧ ∀ y ∈ x :: r, y ≤ imax (x :: r)
  | x, [] => ⟨by simp [imax], fun y h => by simp at h; subst h; simp [imax]⟩
  | x, y :: r => by
    obtain ⟨h1, h2⟩ := imax_spec y r
    have e : imax (x :: y :: r) = if imax (y :: r) > x then imax (y :: r) else x := rfl
    by_cases c : imax (y :: r) > x
    · rw [e, if_pos c]
      refine ⟨List.mem_cons_of_mem _ h1, fun z hz => ?_⟩
      rcases List.mem_cons.mp hz with rfl | hz
      · omega
      · exact h2 z hz
    · rw [e, if_neg c]
      refine ⟨List.mem_cons_self, fun z hz => ?_⟩
      rcases List.mem_cons.mp hz with rfl | hz
      · omega
      · have := h2 z hz; omega
theorem imin_spec : ∀ (x : Int) (r : List Int), imin (x :: r) ∈ x :: r ∧ ∀ y ∈ x :: r, imin (x :: r) ≤ y
  | x, [] => ⟨by simp [imin], fun y h => by simp at h; subst h; simp [imin]⟩
  | x, y :: r => by
    obtain ⟨h1, h2⟩ := imin_spec y r
    have e : imin (x :: y :: r) = if imin (y :: r) < x then imin (y :: r) else x := rfl
    by_cases c : imin (y :: r) < x
    · rw [e, if_pos c]
      refine ⟨List.mem_cons_of_mem _ h1, fun z hz => ?_⟩
      rcases List.mem_cons.mp hz with rfl | hz
      · omega
      · exact h2 z hz
    · rw [e, if_neg c]
      refine ⟨List.mem_cons_self, fun z hz => ?_⟩
      rcases List.mem_cons.mp hz with rfl | hz
      · omega
      · have := h2 z hz; omega
def gMax : List D → Option W
  | [.int i, .int j] => some (.v (.int (if j > i then j else i)))
  | [.lst ds] => match intsOf ds with
    | some (n :: ns) => some (.v (.int (imax (n :: ns))))
    | _ => none
  | _ => none
def gMin : List D → Option W
  | [.int i, .int j] => some (.v (.int (if j < i then j else i)))
  | [.int i, .int j, .int k] => some (.v (.int (if j < i then (if k < j then k else j) else (if k < i then k else i))))
  | [.lst ds] => match intsOf ds with
    | some (n :: ns) => some (.v (.int (imin (n :: ns))))
    | _ => none
  | _ => none
def rMaxA (K : PySem.W.Frag) : List V → Hp → VK → Prop := fun vs H Q => (∃ i j, vs = [.int i, .int j] ∧ Q (.int (if j > i then j else i)) H) ∨ rMax K vs H Q
theorem call_maxA (hc : X.calm = true) : CallR X (.builtin "max") (rMaxA X.K) := CallR.or (call_max2 hc) (cr_max hc)
def rMin3 : List V → Hp → VK → Prop := fun vs H Q => ∃ i j k, vs = [.int i, .int j, .int k] ∧ Q (.int (if j < i then (if k < j then k else j) else (if k < i then k else i))) H
theorem call_min3 (hc : X.calm = true) : CallR X (.builtin "min") rMin3 := by
  intro pins s σ H xs us Q I r h
  obtain ⟨i, j, k, rfl, q⟩ := h
  cases r with
  | cons r1 r => cases r with
    | cons r2 r => cases r with
      | cons r3 r =>
        cases r
        obtain ⟨t, rfl⟩ := r1
        obtain ⟨t2, rfl⟩ := r2
        obtain ⟨t3, rfl⟩ := r3
        refine min_three_ints (I.ok.hd hc) fun h' tk hk => ?_
        refine ⟨.int _, H, I.kept hk, ?_, q⟩
        by_cases c1 : j < i
        · by_cases c2 : k < j
          · exact ⟨t3, by rw [if_pos c1, if_pos c2, if_pos c1, if_pos c2]⟩
          · exact ⟨t2, by rw [if_pos c1, if_neg c2, if_pos c1, if_neg c2]⟩
        · by_cases c2 : k < i
          · exact ⟨t3, by rw [if_neg c1, if_pos c2, if_neg c1, if_pos c2]⟩
          · exact ⟨t, by rw [if_neg c1, if_neg c2, if_neg c1, if_neg c2]⟩
def rMinA (K : PySem.W.Frag) : List V → Hp → VK → Prop := fun vs H Q => (fun vs H Q => (∃ i j, vs = [.int i, .int j] ∧ Q (.int (if j < i then j else i)) H) ∨ rMin K vs H Q) vs H Q ∨ rMin3 vs H Q
theorem call_minA (hc : X.calm = true) : CallR X (.builtin "min") (rMinA X.K) := CallR.or (CallR.or (call_min2 hc) (cr_min hc)) (call_min3 hc)
theorem cd_max : CaD K (rMaxA K) gMax := by
  intro F H vs ds w Q e vw hg q
  unfold gMax at hg
  split at hg
  · rename_i i j
    obtain ⟨x, y, rfl, hx, hy⟩ := vw.two
    cases hg
    exact .inl ⟨i, j, by rw [hx.int, hy.int], fin_int e q⟩
  · obtain ⟨x, rfl, hx⟩ := vw.one
    split at hg
    · rename_i n ns h1
      cases hg
      obtain ⟨a, us, rfl, h2, r⟩ := hx.lst
      rw [intsOf_eq h1] at r
      have := r.ints
      subst this
      refine .inr ⟨a, n :: ns, rfl, .inl h2, by simp, fun m hm hx => ?_⟩
      obtain ⟨s1, s2⟩ := imax_spec n ns
      have em : m = imax (n :: ns) := Int.le_antisymm (s2 m hm) (hx _ s1)
      rw [em]
      exact fin_int e q
    · cases hg
  · cases hg
theorem cd_min : CaD K (rMinA K) gMin := by
  intro F H vs ds w Q e vw hg q
  unfold gMin at hg
  split at hg
  · rename_i i j
    obtain ⟨x, y, rfl, hx, hy⟩ := vw.two
    cases hg
    exact .inl (.inl ⟨i, j, by rw [hx.int, hy.int], fin_int e q⟩)
  · rename_i i j k
    cases vw with
    | cons h1 h2 =>
      obtain ⟨x, y, rfl, hx, hy⟩ := h2.two
      cases hg
      exact .inr ⟨i, j, k, by rw [h1.int, hx.int, hy.int], fin_int e q⟩
  · obtain ⟨x, rfl, hx⟩ := vw.one
    split at hg
    · rename_i n ns h1
      cases hg
      obtain ⟨a, us, rfl, h2, r⟩ := hx.lst
      rw [intsOf_eq h1] at r
      have := r.ints
      subst this
      refine .inl (.inr ⟨a, n :: ns, rfl, .inl h2, by simp, fun m hm hx => ?_⟩)
      obtain ⟨s1, s2⟩ := imin_spec n ns
      have em : m = imin (n :: ns) := Int.le_antisymm (hx _ s1) (s2 m hm)
      rw [em]
      exact fin_int e q
    · cases hg
  · cases hg
end

/-! ### sorted, of ints -/
def insI (x : Int) : List Int → List Int
  | [] => [x]
  | y :: r => if x ≤ y then x :: y :: r else y :: insI x r
def sortI : List Int → List Int
  | [] => []
  | x :: r => insI x (sortI r)
theorem insI_perm (x : Int) : ∀ l : List Int, (insI x l).Perm (x :: l)
  | [] => List.Perm.refl _
  | y :: r => by
    unfold insI
    by_cases c : x ≤ y
    · rw [if_pos c]
    · rw [if_neg c]
      exact ((insI_perm x r).cons y).trans (List.Perm.swap x y r)
theorem sortI_perm : ∀ l : List Int, (sortI l).Perm l
  | [] => List.Perm.refl _
  | x :: r => (insI_perm x (sortI r)).trans ((sortI_perm r).cons x)
theorem insI_sorted (x : Int) : ∀ l : List Int, l.Pairwise (· ≤ ·) → (insI x l).Pairwise (· ≤ ·)
  | [], _ => List.pairwise_singleton _ _
  | y :: r, h => by
    obtain ⟨h1, h2⟩ := List.pairwise_cons.mp h
    unfold insI
    by_cases c : x ≤ y
    · rw [if_pos c]
      refine List.pairwise_cons.mpr ⟨fun z hz => ?_, h⟩
      rcases List.mem_cons.mp hz with rfl | hz
      · exact c
      · have := h1 z hz; omega
    · rw [if_neg c]
      refine List.pairwise_cons.mpr ⟨fun z hz => ?_, insI_sorted x r h2⟩
      rcases List.mem_cons.mp ((insI_perm x r).mem_iff.mp hz) with rfl | hz
      · omega
      · exact h1 z hz
theorem sortI_sorted : ∀ l : List Int, (sortI l).Pairwise (· ≤ ·)
  | [] => List.Pairwise.nil
  | x :: r => insI_sorted x _ (sortI_sorted r)
theorem sorted_uniq : ∀ {l m : List Int}, l.Pairwise (· ≤ ·) → m.Pairwise (· ≤ ·) → l.Perm m → l = m := fun h1 h2 p => p.eq_of_pairwise (fun a b _ _ x y => Int.le_antisymm x y) h1 h2
def gSortI : List D → Option W
  | [.lst ds] => (intsOf ds).map fun ns => .l false ((sortI ns).map D.int)
  | _ => none
theorem cd_sortI {K : PySem.W.Frag} : CaD K (rSortedI K) gSortI := by
  intro F H vs ds w Q e vw hg q
  unfold gSortI at hg
  split at hg
  · obtain ⟨x, rfl, hx⟩ := vw.one
    obtain ⟨ns, h1, rfl⟩ := Option.map_eq_some_iff.mp hg
    obtain ⟨a, us, rfl, h2, r⟩ := hx.lst
    rw [intsOf_eq h1] at r
    have := r.ints
    subst this
    refine ⟨a, ns, rfl, .inl h2, fun ns' p hp hs hn => ?_⟩
    have en : ns' = sortI ns := sorted_uniq hs (sortI_sorted ns) (hp.trans (sortI_perm ns).symm)
    subst en
    exact fin_lst e (RepDs.of_ints _) q p hn
  · cases hg

/-! ### is -/
def isNonD : D → Bool
  | .non => true
  | _ => false
def gIs : List D → Option W
  | [.bl a, .bl b] => some (.v (.bl (decide (a = b))))
  | [d, .non] => some (.v (.bl (isNonD d)))
  | _ => none
def gIsNot : List D → Option W
  | [.bl a, .bl b] => some (.v (.bl (!decide (a = b))))
  | [d, .non] => some (.v (.bl (!isNonD d)))
  | _ => none
section
variable {X : Cx} {K : PySem.W.Frag}
def rIsA : R2 := fun x y H Q => rIsB x y H Q ∨ (y = .non ∧ Q (.bl (decide (x = .non))) H)
def rIsNotA : R2 := fun x y H Q => rNotB x y H Q ∨ (y = .non ∧ Q (.bl (!decide (x = .non))) H)
theorem op_isA : OpR X (compareOp .Is) rIsA := op_isBl.or op_isN
theorem op_isNotA : OpR X (compareOp .IsNot) rIsNotA := op_notBl.or op_notN
theorem View.isNon {F H : Hp} {v : V} {d : D} (h : View K F H v d) : decide (v = .non) = isNonD d := by
  cases d with
  | lst ds => obtain ⟨a, _, rfl, _⟩ := h; rfl
  | dic ks ds => obtain ⟨a, _, rfl, _⟩ := h; rfl
  | non => rw [View.non h]; rfl
  | bl b => rw [View.bl h]; rfl
  | int i => rw [View.int h]; rfl
  | str x => rw [View.str h]; rfl
  | tup l => cases (show RepD K F v (.tup l) from h); rfl
  | nam a c => cases (show RepD K F v (.nam a c) from h) <;> rfl
  | ty n => cases (show RepD K F v (.ty n) from h); rfl
  | scr n => cases (show RepD K F v (.scr n) from h); rfl
theorem cd_is : CaD K (r2 rIsA) gIs := by
  intro F H vs ds w Q e vw hg q
  unfold gIs at hg
  split at hg
  · rename_i a b
    obtain ⟨x, y, rfl, hx, hy⟩ := vw.two
    cases hg
    exact ⟨_, _, rfl, .inl ⟨a, b, hx.bl, hy.bl, fin_bl e q⟩⟩
  · rename_i d
    obtain ⟨x, y, rfl, hx, hy⟩ := vw.two
    cases hg
    refine ⟨_, _, rfl, .inr ⟨hy.non, ?_⟩⟩
    rw [hx.isNon]
    exact fin_bl e q
  · cases hg
theorem cd_isNot : CaD K (r2 rIsNotA) gIsNot := by
  intro F H vs ds w Q e vw hg q
  unfold gIsNot at hg
  split at hg
  · rename_i a b
    obtain ⟨x, y, rfl, hx, hy⟩ := vw.two
    cases hg
    exact ⟨_, _, rfl, .inl ⟨a, b, hx.bl, hy.bl, fin_bl e q⟩⟩
  · rename_i d
    obtain ⟨x, y, rfl, hx, hy⟩ := vw.two
    cases hg
    refine ⟨_, _, rfl, .inr ⟨hy.non, ?_⟩⟩
    rw [hx.isNon]
    exact fin_bl e q
  · cases hg
end

/-! ### in, not in -/
def flatD : D → Bool
  | .non => true
  | .bl _ => true
  | .int _ => true
  | .str _ => true
  | _ => false
/-- what may be asked to be among the items of a list (of any data), of a tuple (of flat things) -/
def memD (x : D) : D → Option Bool
  | .lst ds => if fine 60 x && fine 60 (.lst ds) then some (ds.any fun z => deq z x) else none
  | .tup ds => if flatD x && ds.all flatD then some (ds.any fun z => deq z x) else none
  | _ => none
def gIn : List D → Option W
  | [x, c] => (memD x c).map fun b => .v (.bl b)
  | _ => none
def gNotIn : List D → Option W
  | [x, c] => (memD x c).map fun b => .v (.bl (!b))
  | _ => none
theorem flat_rep {K : PySem.W.Frag} {F : Hp} {v : V} {d : D} (h : RepD K F v d) (hf : flatD d = true) : flatV v = true := by
  cases h <;> first | rfl | cases hf
theorem eqV_rep {K : PySem.W.Frag} {F : Hp} {v u : V} {d e : D} (h : RepD K F v d) (hu : RepD K F u e) (hf : flatD d = true) (hg : flatD e = true) : eqV v u = deq d e := by
  cases h <;> (first | (exact absurd (show false = true from hf) Bool.false_ne_true) | (cases hu <;> first | rfl | cases hg))
theorem inV_rep {K : PySem.W.Frag} {F : Hp} {x : V} {d : D} (hx : RepD K F x d) (hf : flatD d = true) : ∀ {vs : List V} {ds : List D}, RepDs K F vs ds → ds.all flatD = true → inV x vs = (ds.any fun z => deq z d) ∧ vs.all flatV = true
  | _, _, .nil, _ => ⟨rfl, rfl⟩
  | _, _, .cons h r, a => by
    rw [List.all_cons, Bool.and_eq_true] at a
    obtain ⟨h1, h2⟩ := inV_rep hx hf r a.2
    unfold inV at h1 ⊢
    rw [List.any_cons, List.any_cons, h1, eqV_rep h hx a.1 hf, List.all_cons, h2, flat_rep h a.1]
    exact ⟨rfl, rfl⟩
theorem View.rep_flat {K : PySem.W.Frag} {F H : Hp} {v : V} {d : D} (h : View K F H v d) (hf : flatD d = true) : RepD K F v d := by
  cases d <;> first | exact h | cases hf
def rInA (K : PySem.W.Frag) : R2 := fun x y H Q => rIn K false x y H Q ∨ rInD K x y H Q
def rNotInA (K : PySem.W.Frag) : R2 := fun x y H Q => rIn K true x y H Q ∨ rNotInD K x y H Q
theorem op_inA {X : Cx} (hu : X.A.units + 65 < cLine) : OpR X (compareOp .In) (rInA X.K) := op_in_seq.or (op_inD hu)
theorem op_notInA {X : Cx} (hu : X.A.units + 65 < cLine) : OpR X (compareOp .NotIn) (rNotInA X.K) := op_notIn_seq.or (op_notInD hu)
theorem any_toPys (d : D) : ∀ ds : List D, ((toPys ds).any fun z => PyData.eqv z (toPy d)) = ds.any fun z => deq z d
  | [] => rfl
  | x :: r => by rw [toPys, List.any_cons, List.any_cons, any_toPys d r]; rfl
theorem cd_in {K : PySem.W.Frag} : CaD K (r2 (rInA K)) gIn := by
  intro F H vs ds w Q e vw hg q
  unfold gIn at hg
  split at hg
  · rename_i d c
    obtain ⟨x, y, rfl, hx, hy⟩ := vw.two
    obtain ⟨b, h1, rfl⟩ := Option.map_eq_some_iff.mp hg
    unfold memD at h1
    split at h1
    · rename_i ds
      split at h1
      · rename_i hf
        cases h1
        obtain ⟨f1, f2⟩ := Bool.and_eq_true_iff.mp hf
        have hd := hy.dp e f2
        refine ⟨_, _, rfl, .inr ⟨toPy d, toPys ds, hx.dp e f1, hd, fine_shaped f1, fine_shaped f2, ?_⟩⟩
        rw [any_toPys]
        exact fin_bl e q
      · cases h1
    · rename_i ds
      split at h1
      · rename_i hf
        cases h1
        obtain ⟨f1, f2⟩ := Bool.and_eq_true_iff.mp hf
        obtain ⟨a, us, rfl, _, h2, r⟩ := hy.tup e
        have rx := hx.rep_flat f1
        obtain ⟨g1, g2⟩ := inV_rep rx f1 r f2
        refine ⟨_, _, rfl, .inl ⟨a, us, rfl, .inr h2, flat_rep rx f1, g2, ?_⟩⟩
        rw [if_neg Bool.false_ne_true, g1]
        exact fin_bl e q
      · cases h1
    · cases h1
  · cases hg
theorem cd_notIn {K : PySem.W.Frag} : CaD K (r2 (rNotInA K)) gNotIn := by
  intro F H vs ds w Q e vw hg q
  unfold gNotIn at hg
  split at hg
  · rename_i d c
    obtain ⟨x, y, rfl, hx, hy⟩ := vw.two
    obtain ⟨b, h1, rfl⟩ := Option.map_eq_some_iff.mp hg
    unfold memD at h1
    split at h1
    · rename_i ds
      split at h1
      · rename_i hf
        cases h1
        obtain ⟨f1, f2⟩ := Bool.and_eq_true_iff.mp hf
        have hd := hy.dp e f2
        refine ⟨_, _, rfl, .inr ⟨toPy d, toPys ds, hx.dp e f1, hd, fine_shaped f1, fine_shaped f2, ?_⟩⟩
        rw [any_toPys]
        exact fin_bl e q
      · cases h1
    · rename_i ds
      split at h1
      · rename_i hf
        cases h1
        obtain ⟨f1, f2⟩ := Bool.and_eq_true_iff.mp hf
        obtain ⟨a, us, rfl, _, h2, r⟩ := hy.tup e
        have rx := hx.rep_flat f1
        obtain ⟨g1, g2⟩ := inV_rep rx f1 r f2
        refine ⟨_, _, rfl, .inl ⟨a, us, rfl, .inr h2, flat_rep rx f1, g2, ?_⟩⟩
        rw [if_pos rfl, g1]
        exact fin_bl e q
      · cases h1
    · cases h1
  · cases hg

/-! ### isinstance -/
def tyName : D → String
  | .non => "NoneType"
  | .bl _ => "bool"
  | .int _ => "int"
  | .str _ => "str"
  | .tup _ => "tuple"
  | .lst _ => "list"
  | _ => ""
def isTy (d : D) (u : String) : Option Bool := match d with
  | .non => if u = "int" ∨ u = "bool" ∨ u = "str" ∨ u = "tuple" ∨ u = "list" ∨ u = "dict" then some false else none
  | .bl _ => if u = "int" ∨ u = "bool" then some true else if u = "str" ∨ u = "tuple" ∨ u = "list" ∨ u = "dict" then some false else none
  | .int _ => if u = "int" then some true else if u = "bool" ∨ u = "str" ∨ u = "tuple" ∨ u = "list" ∨ u = "dict" then some false else none
  | .str _ => if u = "str" then some true else if u = "bool" ∨ u = "int" ∨ u = "tuple" ∨ u = "list" ∨ u = "dict" then some false else none
  | .tup _ => if u = "tuple" then some true else if u = "bool" ∨ u = "int" ∨ u = "str" ∨ u = "list" ∨ u = "dict" then some false else none
  | .lst _ => if u = "list" then some true else if u = "bool" ∨ u = "int" ∨ u = "str" ∨ u = "tuple" ∨ u = "dict" then some false else none
  | _ => none
def gIsi : List D → Option W
  | [d, .ty u] => (isTy d u).map fun b => .v (.bl b)
  | _ => none
theorem kit_all (K : PySem.W.Frag) : ∀ t ∈ ["NoneType", "bool", "int", "str", "tuple", "list"], ∀ u ∈ ["bool", "int", "str", "tuple", "list", "dict"], PySem.W.kitOne K (.type t) (.type u) = some (t == u || (t == "bool" && u == "int")) := by
  intro t ht u hu
  simp only [List.mem_cons, List.mem_nil_iff, or_false] at ht hu
  rcases ht with rfl | rfl | rfl | rfl | rfl | rfl <;> rcases hu with rfl | rfl | rfl | rfl | rfl | rfl <;> rfl
end DL

namespace DL
open PySem PySem.Spec PyProof.Rows L2

section
variable {K : PySem.W.Frag} {F H : Hp}
theorem tyx_list {a : Addr} {vs : List V} (h : Rd H a (.lst vs)) : TyX K H (.ref a) (.type "list") := by
  rcases h with h | ⟨o, h⟩
  · exact .base (.lst h)
  · exact .base (.frz h)
theorem tyx_tuple {a : Addr} {vs : List V} (h : SqT K H a vs) : TyX K H (.ref a) (.type "tuple") := by
  rcases h with (h | ⟨o, h⟩) | ⟨o, its, n, h, c, _⟩
  · exact .base (.tup h)
  · exact .fTuple h
  · exact .kTuple h c
theorem View.ty {v : V} {d : D} (e : Same F H) (h : View K F H v d) {u : String} {b : Bool} (hb : isTy d u = some b) : ∃ t, TyX K H v (.type t) ∧ PySem.W.kitOne K (.type t) (.type u) = some b := by
  have key : ∀ t ∈ ["NoneType", "bool", "int", "str", "tuple", "list"], ∀ u ∈ ["bool", "int", "str", "tuple", "list", "dict"], PySem.W.kitOne K (.type t) (.type u) = some (t == u || (t == "bool" && u == "int")) := kit_all K
  cases d with
  | non =>
    refine ⟨"NoneType", ?_, ?_⟩
    · rw [h.non]; exact .base .non
    · unfold isTy at hb
      dsimp only at hb
      split at hb
      · rename_i hu
        cases hb
        rcases hu with rfl | rfl | rfl | rfl | rfl | rfl <;> exact key _ (by decide) _ (by decide)
      · cases hb
  | bl x =>
    refine ⟨"bool", ?_, ?_⟩
    · rw [h.bl]; exact .base (.bl x)
    · unfold isTy at hb
      dsimp only at hb
      split at hb
      · rename_i hu
        cases hb
        rcases hu with rfl | rfl <;> exact key _ (by decide) _ (by decide)
      · split at hb
        · rename_i hu
          cases hb
          rcases hu with rfl | rfl | rfl | rfl <;> exact key _ (by decide) _ (by decide)
        · cases hb
  | int x =>
    refine ⟨"int", ?_, ?_⟩
    · rw [h.int]; exact .base (.int x)
    · unfold isTy at hb
      dsimp only at hb
      split at hb
      · rename_i hu
        cases hb
        subst hu
        exact key _ (by decide) _ (by decide)
      · split at hb
        · rename_i hu
          cases hb
          rcases hu with rfl | rfl | rfl | rfl | rfl <;> exact key _ (by decide) _ (by decide)
        · cases hb
  | str x =>
    refine ⟨"str", ?_, ?_⟩
    · rw [h.str]; exact .base (.str x)
    · unfold isTy at hb
      dsimp only at hb
      split at hb
      · rename_i hu
        cases hb
        subst hu
        exact key _ (by decide) _ (by decide)
      · split at hb
        · rename_i hu
          cases hb
          rcases hu with rfl | rfl | rfl | rfl | rfl <;> exact key _ (by decide) _ (by decide)
        · cases hb
  | tup x =>
    refine ⟨"tuple", ?_, ?_⟩
    · obtain ⟨a, vs, rfl, _, q, _⟩ := h.tup e
      exact tyx_tuple q
    · unfold isTy at hb
      dsimp only at hb
      split at hb
      · rename_i hu
        cases hb
        subst hu
        exact key _ (by decide) _ (by decide)
      · split at hb
        · rename_i hu
          cases hb
          rcases hu with rfl | rfl | rfl | rfl | rfl <;> exact key _ (by decide) _ (by decide)
        · cases hb
  | lst x =>
    refine ⟨"list", ?_, ?_⟩
    · obtain ⟨a, vs, rfl, q, _⟩ := h.lst
      exact tyx_list q
    · unfold isTy at hb
      dsimp only at hb
      split at hb
      · rename_i hu
        cases hb
        subst hu
        exact key _ (by decide) _ (by decide)
      · split at hb
        · rename_i hu
          cases hb
          rcases hu with rfl | rfl | rfl | rfl | rfl <;> exact key _ (by decide) _ (by decide)
        · cases hb
  | nam x c => cases hb
  | dic ks ds => cases hb
  | ty x => cases hb
  | scr x => cases hb
theorem cd_isi : CaD K (rIsi K) gIsi := by
  intro F H vs ds w Q e vw hg q
  unfold gIsi at hg
  split at hg
  · rename_i d u
    obtain ⟨x, y, rfl, hx, hy⟩ := vw.two
    obtain ⟨b, h1, rfl⟩ := Option.map_eq_some_iff.mp hg
    obtain ⟨t, h2, h3⟩ := hx.ty e h1
    cases (show RepD K F y (.ty u) from hy)
    exact ⟨x, .ty u, .type t, .type u, b, rfl, .ty u, h2, h3, fin_bl e q⟩
  · cases hg
end

/-! ### a op b op' c -/
def vChain (g g' : List D → Option W) (fa fb fc : M U) : M U := fun env => (fa env).bind fun u1 e1 => (fb e1).bind fun u2 e2 => match dat e2 u1, dat e2 u2 with
  | some d1, some d2 => match g [d1, d2] with
    | some (.v (.bl k)) => if k then (fc e2).bind fun u3 e3 => (match dat e3 u2, dat e3 u3 with
        | some d2, some d3 => (match g' [d2, d3] with
          | some w => .ok (.w w) e3
          | none => .stuck)
        | _, _ => .stuck) else .ok (.w (.v (.bl false))) e2
    | _ => .stuck
  | _, _ => .stuck
section
variable {X : Cx} {Wx : WX} {a b c : Expr} {fa fb fc : M U} {pos : Pos} {g g' : List D → Option W}
theorem chain_sem {K : PySem.W.Frag} {mg : Str → Option Value} {r r' : R2} {σ : L2.St} {H : Hp} {Q : VK} (cd : CaD K (r2 r) g) (cd' : CaD K (r2 r') g') (h : tOf K mg Wx (vChain g g' fa fb fc) σ H Q) :
    tChain r r' (tOf K mg Wx fa) (tOf K mg Wx fb) (tOf K mg Wx fc) σ H Q := by
  obtain ⟨F, env, own, S, h⟩ := h
  unfold vChain at h
  refine tOf_use S (fun u1 env1 e1 v1 F1 H1 own1 p1 O1 => ?_) (fun c env1 e1 C F1 H1 own1 => ?_) (fun e1 => ?_)
  · rw [e1, R.bind_ok] at h
    refine tOf_use O1.S (fun u2 env2 e2 v2 F2 H2 own2 p2 O2 => ?_) (fun c env2 e2 C F2 H2 own2 hm O2 => ?_) (fun e2 => ?_)
    · rw [e2, R.bind_ok] at h
      have OO := O1.out2 O2
      cases e3 : dat env2 u1 with
      | none => rw [e3] at h; exact h.elim
      | some d1 =>
        cases e4 : dat env2 u2 with
        | none => rw [e3, e4] at h; exact h.elim
        | some d2 =>
          rw [e3, e4] at h
          dsimp only at h
          cases e5 : g [d1, d2] with
          | none => rw [e5] at h; exact h.elim
          | some w =>
            rw [e5] at h
            cases w with
            | l _ _ => exact h.elim
            | m _ _ => exact h.elim
            | v d =>
              cases d with
              | bl k =>
                dsimp only at h
                refine r2_two (cd F2 H2 [v1, v2] [d1, d2] _ _ OO.S.ex (.cons (RepU.view OO.S OO.r1 e3) (.cons (RepU.view OO.S OO.r2 e4) .nil)) e5 fun v F' H' p gr rw' => ?_)
                obtain ⟨hp, rr⟩ := rw'
                cases rr
                refine ⟨k, rfl, ?_⟩
                have O3 : Out K F H own σ u2 v2 env2 F' H' own2 p2 := by
                  have O2' := OO.snd
                  refine ⟨gr.sit OO.S, ?_, O2'.d, ?_⟩
                  · have st := (gr.step own2).sub (fp2 := all own2) fun _ z => .inl z
                    exact (RepU.stepU O2'.r O2'.d st).1
                  · have st := (gr.step own2).sub (fp2 := all own2) fun _ z => .inl z
                    exact O2'.s.trans (st.more p2)
                cases k with
                | false =>
                  rw [if_neg Bool.false_ne_true] at h ⊢
                  exact h _ _ _ _ _ (gr.out OO.drop ⟨hp, .bl false⟩)
                | true =>
                  rw [if_pos rfl] at h ⊢
                  refine tOf_use O3.S (fun u3 env3 e6 v3 F3 H3 own3 p3 O4 => ?_) (fun c env3 e6 C F3 H3 own3 hm O4 => ?_) (fun e6 => ?_)
                  · rw [e6, R.bind_ok] at h
                    have O5 := O3.out2 O4
                    cases e7 : dat env3 u2 with
                    | none => rw [e7] at h; exact h.elim
                    | some d2' =>
                      cases e8 : dat env3 u3 with
                      | none => rw [e7, e8] at h; exact h.elim
                      | some d3 =>
                        rw [e7, e8] at h
                        dsimp only at h
                        cases e9 : g' [d2', d3] with
                        | none => rw [e9] at h; exact h.elim
                        | some w =>
                          rw [e9] at h
                          refine r2_two (cd' F3 H3 [v2, v3] [d2', d3] _ _ O5.S.ex (.cons (RepU.view O5.S O5.r1 e7) (.cons (RepU.view O5.S O5.r2 e8) .nil)) e9 fun v F'' H'' p gr' rw'' => ?_)
                          exact h _ _ _ _ _ (gr'.out O5.drop rw'')
                  · rw [e6] at h
                    exact h C F3 H3 own3 hm (O3.drop.trans O4)
                  · rw [e6] at h
                    exact h
              | _ => exact h.elim
    · rw [e2] at h
      exact h C F2 H2 own2 hm (O1.drop.trans O2)
    · rw [e2] at h
      exact h
  · rw [e1] at h
    exact h C F1 H1 own1
  · rw [e1] at h
    exact h
theorem e_chain {op op' : CmpOp} {r r' : R2} (ho : OpR X (compareOp op) r) (ho' : OpR X (compareOp op') r') (cd : CaD X.K (r2 r) g) (cd' : CaD X.K (r2 r') g') (ha : EvS X Wx a fa) (hb : EvS X Wx b fb) (hc : EvS X Wx c fc)
    (hm : lastMarks [op, op'] [b, c] = false := by with_unfolding_all rfl) : EvS X Wx (.Compare a [op, op'] [b, c] pos) (vChain g g' fa fb fc) :=
  PE.imp (pe_chain ho ho' ha hb hc hm) fun σ H Q h => chain_sem cd cd' h
theorem t_chain {op op' : CmpOp} {r r' : R2} (ho : OpR X (compareOp op) r) (ho' : OpR X (compareOp op') r') (cd : CaD X.K (r2 r) g) (cd' : CaD X.K (r2 r') g') (ha : EvS X Wx a fa) (hb : EvS X Wx b fb) (hc : EvS X Wx c fc)
    (hm : lastMarks [op, op'] [b, c] = false := by with_unfolding_all rfl) : TtS X Wx (.Compare a [op, op'] [b, c] pos) (tst (vChain g g' fa fb fc)) :=
  PT.imp (pt_chain ho ho' ha hb hc hm) fun σ H Q h => chain_sem cd cd' (tOf_tst h)
end
end DL

namespace DL
open PySem PySem.Spec PyProof.Rows L2

/-! ### what a def tells -/
inductive RF where
  | ok (w : W) (ws : List W)
  | raise (c : Str) (ws : List W)
  | stuck
abbrev ASit (K : PySem.W.Frag) (F H : Hp) (vs : List V) (ws : List W) (own : Nat → Fp) : Prop := Sit K F (vs.map some) H (ws.map some) own
structure OutF (K : PySem.W.Frag) (F H : Hp) (own : Nat → Fp) (vs : List V) (ws : List W) (w : W) (v : V) (F' H' : Hp) (own' : Nat → Fp) (p : Fp) : Prop where
  S : ASit K F' H' vs ws own'
  r : RepW K F' H' v w p
  d : ∀ a, p a → ¬ all own' a
  s : Step F H (all own) F' H' (fun a => all own' a ∨ p a)
def spOf (K : PySem.W.Frag) (mg : Str → Option Value) (n : Nat) (g : List W → RF) : Sp := fun vs H Q E => vs.length = n ∧ ∃ F ws own, ASit K F H vs ws own ∧ match g ws with
  | .ok w ws' => ∀ v F' H' own' p, OutF K F H own vs ws' w v F' H' own' p → Q v H'
  | .raise c ws' => ∀ C F' H' own', mg c = some (.ref C) → ASit K F' H' vs ws' own' → Step F H (all own) F' H' (all own') → E (.ref C) none H'
  | .stuck => False
abbrev FnS (P : Program) (w : World) (K : PySem.W.Frag) (mg : Str → Option Value) (base : Heap) (k : Nat) (f : Addr) (fd : FuncData) (ps : List Str) (g : List W → RF) : Prop :=
  FnOk P w K mg base (L2.CX P w) k f fd ps (spOf K mg ps.length g)
/-- a def that is known to tell g tells whatever g tells where it isn't stuck -/
theorem FnS.weak {P : Program} {w : World} {K : PySem.W.Frag} {mg : Str → Option Value} {base : Heap} {k : Nat} {f : Addr} {fd : FuncData} {ps : List Str} {g g' : List W → RF} (h : FnS P w K mg base k f fd ps g) (e : ∀ ws, g' ws ≠ .stuck → g ws = g' ws) :
    FnS P w K mg base k f fd ps g' := FnOk.imp h fun vs H Q E q => by
  obtain ⟨hl, F, ws, own, S, q⟩ := q
  refine ⟨hl, F, ws, own, S, ?_⟩
  by_cases hs : g' ws = .stuck
  · rw [hs] at q; exact q.elim
  · rw [e ws hs]; exact q

/-! ### handing in arguments -/
def frzM : List (Option Nat) → DEnv → List U → Option (List (Option D) × DEnv)
  | [], env, [] => some ([], env)
  | none :: ms, env, u :: us => match frz1 env u with
    | some (d, e1) => match frzM ms e1 us with
      | some (l, e2) => some (some d :: l, e2)
      | none => none
    | none => none
  | some i :: ms, env, .b j :: us => if i = j then (match frzM ms env us with
      | some (l, e2) => some (none :: l, e2)
      | none => none) else none
  | _, _, _ => none
def takeW (env : DEnv) : List (Option Nat) → List (Option D) → Option (List W)
  | [], [] => some []
  | none :: ms, some d :: l => match takeW env ms l with
    | some ws => some (.v d :: ws)
    | none => none
  | some i :: ms, none :: l => match env[i]? with
    | some (some (.l _ ds)) => (match takeW env ms l with
      | some ws => some (.l true ds :: ws)
      | none => none)
    | _ => none
  | _, _ => none
def putW : List (Option Nat) → List W → DEnv → Option DEnv
  | [], [], env => some env
  | none :: ms, _ :: ws, env => putW ms ws env
  | some i :: ms, .l _ ds :: ws, env => match env[i]? with
    | some (some (.l b _)) => putW ms ws (env.set i (some (.l b ds)))
    | _ => none
  | _, _, _ => none
def callF (g : List W → RF) (ms : List (Option Nat)) (fs : List (M U)) : M U := fun env => (evs fs env).bind fun us e1 => match frzM ms e1 us with
  | some (l, e2) => match takeW e2 ms l with
    | some ws => match g ws with
      | .ok w ws' => (match putW ms ws' e2 with
        | some e3 => .ok (.w w) e3
        | none => .stuck)
      | .raise c ws' => (match putW ms ws' e2 with
        | some e3 => .raise c e3
        | none => .stuck)
      | .stuck => .stuck
    | none => .stuck
  | none => .stuck

section
variable {K : PySem.W.Frag} {H : Hp} {σ : L2.St}
/-- how the handed in things lie behind the freezing -/
inductive Hand (K : PySem.W.Frag) (F : Hp) (σ : L2.St) : List (Option Nat) → List V → List (Option D) → Prop where
  | nil : Hand K F σ [] [] []
  | dat {ms : List (Option Nat)} {vs : List V} {l : List (Option D)} {v : V} {d : D} : RepD K F v d → Hand K F σ ms vs l → Hand K F σ (none :: ms) (v :: vs) (some d :: l)
  | bor {ms : List (Option Nat)} {vs : List V} {l : List (Option D)} {v : V} {i : Nat} : σ[i]? = some (some v) → Hand K F σ ms vs l → Hand K F σ (some i :: ms) (v :: vs) (none :: l)
theorem Hand.mono {F F' : Hp} (e : Same F F') : ∀ {ms : List (Option Nat)} {vs : List V} {l : List (Option D)}, Hand K F σ ms vs l → Hand K F' σ ms vs l
  | _, _, _, .nil => .nil
  | _, _, _, .dat r h => .dat (r.mono e) (h.mono e)
  | _, _, _, .bor r h => .bor r (h.mono e)
theorem Hand.len {F : Hp} : ∀ {ms : List (Option Nat)} {vs : List V} {l : List (Option D)}, Hand K F σ ms vs l → ms.length = vs.length
  | _, _, _, .nil => rfl
  | _, _, _, .dat _ h => by rw [List.length_cons, List.length_cons, h.len]
  | _, _, _, .bor _ h => by rw [List.length_cons, List.length_cons, h.len]
theorem Hand.slot {F : Hp} : ∀ {ms : List (Option Nat)} {vs : List V} {l : List (Option D)} {j i : Nat}, Hand K F σ ms vs l → ms[j]? = some (some i) → ∃ v, vs[j]? = some v ∧ σ[i]? = some (some v)
  | _, _, _, j, _, .nil, e => by simp at e
  | _, _, _, 0, _, .dat _ h, e => by simp at e
  | _, _, _, j + 1, _, .dat _ h, e => by
    obtain ⟨v, h1, h2⟩ := Hand.slot (j := j) h (by simpa using e)
    exact ⟨v, by simpa using h1, h2⟩
  | _, _, _, 0, _, .bor r h, e => by simp at e; subst e; exact ⟨_, rfl, r⟩
  | _, _, _, j + 1, _, .bor _ h, e => by
    obtain ⟨v, h1, h2⟩ := Hand.slot (j := j) h (by simpa using e)
    exact ⟨v, by simpa using h1, h2⟩
theorem frzM_ok : ∀ {ms : List (Option Nat)} {us : List U} {vs : List V} {l : List (Option D)} {F : Hp} {env env' : DEnv} {own : Nat → Fp} {p : Fp}, Sit K F σ H env own → RepUs K F H σ vs us p → (∀ a, p a → ¬ all own a) → frzM ms env us = some (l, env') →
    ∃ F' own', Sit K F' σ H env' own' ∧ Hand K F' σ ms vs l ∧ Step F H (fun a => all own a ∨ p a) F' H (all own')
  | [], [], [], l, F, env, env', own, p, S, r, dj, h => by
    cases h
    exact ⟨F, own, S, .nil, Step.refl.sub fun _ z => .inl z⟩
  | none :: ms, u :: us, v :: vs, l, F, env, env', own, p, S, r, dj, h => by
    obtain ⟨p1, p2, hp, hd, r1, r2⟩ := r
    have h : (match frz1 env u with | some (d, e1) => (match frzM ms e1 us with | some (l, e2) => some (some d :: l, e2) | none => none) | none => none) = some (l, env') := h
    split at h
    · rename_i d e1 h1
      split at h
      · rename_i l2 e2 h2
        cases h
        obtain ⟨F1, own1, S1, rd1, s1⟩ := frz1_ok S r1 (fun a q => dj a ((hp a).mpr (.inl q))) h1
        obtain ⟨r2', dj2⟩ := RepUs.stepU r2 (fun a q z => by
          rcases z with z | z
          · exact dj a ((hp a).mpr (.inr q)) z
          · exact hd a z q) s1
        obtain ⟨F2, own2, S2, rd2, s2⟩ := frzM_ok S1 r2' dj2 h2
        refine ⟨F2, own2, S2, .dat (rd1.mono s2.ex) rd2, ((s1.more p2).trans s2).sup fun a z => ?_⟩
        rcases z with (z | z) | z
        · exact .inl z
        · exact .inr ((hp a).mpr (.inl z))
        · exact .inr ((hp a).mpr (.inr z))
      · cases h
    · cases h
  | some i :: ms, .b j :: us, v :: vs, l, F, env, env', own, p, S, r, dj, h => by
    obtain ⟨p1, p2, hp, hd, r1, r2⟩ := r
    replace h : (if i = j then (match frzM ms env us with | some (l, e2) => some (none :: l, e2) | none => none) else none) = some (l, env') := h
    by_cases hij : i = j
    · rw [if_pos hij] at h
      subst hij
      split at h
      · rename_i l2 e2 h2
        cases h
        obtain ⟨F2, own2, S2, rd2, s2⟩ := frzM_ok S r2 (fun a q => dj a ((hp a).mpr (.inr q))) h2
        refine ⟨F2, own2, S2, .bor r1.2 rd2, s2.sup fun a z => z.imp_right fun y => (hp a).mpr (.inr y)⟩
      · cases h
    · rw [if_neg hij] at h; cases h
  | some _ :: _, .w _ :: _, _, _, _, _, _, _, _, _, _, _, h => by cases h
  | [], _ :: _, _, _, _, _, _, _, _, _, _, _, h => by cases h
  | none :: _, [], _, _, _, _, _, _, _, _, _, _, h => by cases h
  | some _ :: _, [], _, _, _, _, _, _, _, _, _, _, h => by cases h
  | [], [], _ :: _, _, _, _, _, _, _, _, r, _, _ => r.elim
  | none :: _, _ :: _, [], _, _, _, _, _, _, _, r, _, _ => r.elim
  | some _ :: _, .b _ :: _, [], _, _, _, _, _, _, _, r, _, _ => r.elim
/-- what is taken -/
theorem takeW_ok {F : Hp} {env : DEnv} {own : Nat → Fp} (S : Sit K F σ H env own) : ∀ {ms : List (Option Nat)} {vs : List V} {l : List (Option D)} {ws : List W}, Hand K F σ ms vs l → takeW env ms l = some ws →
    ws.length = vs.length ∧ ∀ (j : Nat) (w : W), ws[j]? = some w → ∃ v, vs[j]? = some v ∧ ((ms[j]? = some none ∧ ∃ d, w = .v d ∧ RepD K F v d) ∨ ∃ i ds, ms[j]? = some (some i) ∧ w = .l true ds ∧ RepW K F H v w (own i) ∧ ∃ w', env[i]? = some (some w'))
  | _, _, _, _, .nil, h => by
    cases h
    exact ⟨rfl, fun j w e => by simp at e⟩
  | _, _, _, ws, .dat (ms := ms) (vs := vs) (l := l) (v := v) (d := d) r hh, h => by
    have h : (match takeW env ms l with | some ws => some (W.v d :: ws) | none => none) = some ws := h
    split at h
    · rename_i ws2 h2
      cases h
      obtain ⟨hl, hj⟩ := takeW_ok S hh h2
      refine ⟨by rw [List.length_cons, List.length_cons, hl], fun j w e => ?_⟩
      cases j with
      | zero =>
        simp at e
        subst e
        exact ⟨v, rfl, .inl ⟨rfl, d, rfl, r⟩⟩
      | succ j => exact hj j w (by simpa using e)
    · cases h
  | _, _, _, ws, .bor (ms := ms) (vs := vs) (l := l) (v := v) (i := i) r hh, h => by
    have h : (match env[i]? with | some (some (.l _ ds)) => (match takeW env ms l with | some ws => some (W.l true ds :: ws) | none => none) | _ => none) = some ws := h
    split at h
    · rename_i b ds hw
      split at h
      · rename_i ws2 h2
        cases h
        obtain ⟨hl, hj⟩ := takeW_ok S hh h2
        refine ⟨by rw [List.length_cons, List.length_cons, hl], fun j w e => ?_⟩
        cases j with
        | zero =>
          simp at e
          subst e
          obtain ⟨v', e1, r'⟩ := S.rep i _ hw
          rw [r] at e1
          cases e1
          exact ⟨v, rfl, .inr ⟨i, ds, rfl, rfl, r', _, hw⟩⟩
        | succ j => exact hj j w (by simpa using e)
      · cases h
    · cases h
/-- what is put back -/
theorem putW_ok : ∀ {ms : List (Option Nat)} {ws : List W} {env env' : DEnv}, (ms.filterMap id).Nodup → putW ms ws env = some env' →
    env'.length = env.length ∧ (∀ i, (∀ j : Nat, ms[j]? ≠ some (some i)) → env'[i]? = env[i]?) ∧ ∀ (j i : Nat), ms[j]? = some (some i) → ∃ b b' ds, ws[j]? = some (.l b' ds) ∧ env'[i]? = some (some (.l b ds))
  | [], [], env, env', nd, h => by
    cases h
    exact ⟨rfl, fun _ _ => rfl, fun j i e => by simp at e⟩
  | none :: ms, w :: ws, env, env', nd, h => by
    obtain ⟨h1, h2, h3⟩ := putW_ok (ms := ms) (ws := ws) (env := env) (env' := env') (by simpa using nd) h
    refine ⟨h1, fun i hi => h2 i fun j e => hi (j + 1) (by simpa using e), fun j i e => ?_⟩
    cases j with
    | zero => simp at e
    | succ j =>
      obtain ⟨b, b', ds, e1, e2⟩ := h3 j i (by simpa using e)
      exact ⟨b, b', ds, by simpa using e1, e2⟩
  | some i :: ms, .l b0 ds :: ws, env, env', nd, h => by
    have h : (match env[i]? with | some (some (.l b _)) => putW ms ws (env.set i (some (.l b ds))) | _ => none) = some env' := h
    have nd' : i ∉ ms.filterMap id ∧ (ms.filterMap id).Nodup := by
      have : (i :: ms.filterMap id).Nodup := by simpa using nd
      exact List.nodup_cons.mp this
    split at h
    · rename_i b ds0 hw
      obtain ⟨h1, h2, h3⟩ := putW_ok nd'.2 h
      have hi : i < env.length := (List.getElem?_eq_some_iff.mp hw).1
      have no : ∀ j : Nat, ms[j]? ≠ some (some i) := fun j e => nd'.1 (List.mem_filterMap.mpr ⟨some i, List.mem_of_getElem? e, rfl⟩)
      refine ⟨by rw [h1, List.length_set], fun k hk => ?_, fun j k e => ?_⟩
      · have ne : k ≠ i := fun z => hk 0 (by simp [z])
        rw [h2 k fun j e => hk (j + 1) (by simpa using e), List.getElem?_set_ne (Ne.symm ne)]
      · cases j with
        | zero =>
          simp at e
          subst e
          refine ⟨b, b0, ds, rfl, ?_⟩
          rw [h2 i no, List.getElem?_set_self hi]
        | succ j =>
          obtain ⟨b1, b', ds', e1, e2⟩ := h3 j k (by simpa using e)
          exact ⟨b1, b', ds', by simpa using e1, e2⟩
    · cases h
  | some _ :: _, .v _ :: _, _, _, _, h => by cases h
  | [], _ :: _, _, _, _, h => by cases h
  | none :: _, [], _, _, _, h => by cases h
  | some _ :: _, [], _, _, _, h => by cases h
theorem ms_inj : ∀ {ms : List (Option Nat)} {j k i : Nat}, (ms.filterMap id).Nodup → ms[j]? = some (some i) → ms[k]? = some (some i) → j = k
  | [], j, k, i, _, e, _ => by simp at e
  | none :: ms, 0, _, i, _, e, _ => by simp at e
  | none :: ms, j + 1, 0, i, _, _, e => by simp at e
  | none :: ms, j + 1, k + 1, i, nd, e1, e2 => by
    have q := ms_inj (ms := ms) (j := j) (k := k) (i := i) (by simpa using nd) (by simpa using e1) (by simpa using e2)
    omega
  | some x :: ms, 0, 0, i, _, _, _ => rfl
  | some x :: ms, 0, k + 1, i, nd, e1, e2 => by
    have : (x :: ms.filterMap id).Nodup := by simpa using nd
    simp at e1
    subst e1
    have hm : x ∈ ms.filterMap id := List.mem_filterMap.mpr ⟨some x, List.mem_of_getElem? (i := k) (by simpa using e2), rfl⟩
    exact absurd hm (List.nodup_cons.mp this).1
  | some x :: ms, j + 1, 0, i, nd, e1, e2 => by
    have : (x :: ms.filterMap id).Nodup := by simpa using nd
    simp at e2
    subst e2
    have hm : x ∈ ms.filterMap id := List.mem_filterMap.mpr ⟨some x, List.mem_of_getElem? (i := j) (by simpa using e1), rfl⟩
    exact absurd hm (List.nodup_cons.mp this).1
  | some x :: ms, j + 1, k + 1, i, nd, e1, e2 => by
    have : (x :: ms.filterMap id).Nodup := by simpa using nd
    have q := ms_inj (ms := ms) (j := j) (k := k) (i := i) (List.nodup_cons.mp this).2 (by simpa using e1) (by simpa using e2)
    omega
theorem get_map_some {α : Type} {l : List α} {i : Nat} {x : α} (h : (l.map some)[i]? = some (some x)) : l[i]? = some x := by
  rw [List.getElem?_map] at h
  cases e : l[i]? with
  | none => rw [e] at h; cases h
  | some y => rw [e] at h; cases h; rfl
theorem get_some_map {α : Type} {l : List α} {i : Nat} {x : α} (h : l[i]? = some x) : (l.map some)[i]? = some (some x) := by
  rw [List.getElem?_map, h]; rfl

/-- what the callee is handed -/
def ownA (ms : List (Option Nat)) (own : Nat → Fp) : Nat → Fp := fun j a => ∃ i, ms[j]? = some (some i) ∧ own i a
/-- what the caller has behind the call -/
def ownC (ms : List (Option Nat)) (own ownA' : Nat → Fp) : Nat → Fp := fun i a => (∃ j : Nat, ms[j]? = some (some i) ∧ ownA' j a) ∨ ((∀ j : Nat, ms[j]? ≠ some (some i)) ∧ own i a)
theorem ownA_sub {ms : List (Option Nat)} {own : Nat → Fp} {a : Addr} (h : all (ownA ms own) a) : all own a := by
  obtain ⟨j, i, _, h⟩ := h
  exact ⟨i, h⟩
theorem sit_in {F : Hp} {env : DEnv} {own : Nat → Fp} {ms : List (Option Nat)} {vs : List V} {l : List (Option D)} {ws : List W} (nd : (ms.filterMap id).Nodup) (S : Sit K F σ H env own) (hh : Hand K F σ ms vs l) (ht : takeW env ms l = some ws) : ASit K F H vs ws (ownA ms own) := by
  obtain ⟨hl, hj⟩ := takeW_ok S hh ht
  refine ⟨S.ex, by rw [List.length_map, List.length_map, hl], fun j w e => ?_, fun j a h => ?_, fun j k a h1 h2 => ?_⟩
  · obtain ⟨v, e1, h⟩ := hj j w (get_map_some e)
    refine ⟨v, get_some_map e1, ?_⟩
    rcases h with ⟨hn, d, rfl, r⟩ | ⟨i, ds, hm, rfl, r, _⟩
    · refine ⟨fun a z => ?_, r⟩
      obtain ⟨i, e2, _⟩ := z
      rw [hn] at e2
      cases e2
    · have e3 : ownA ms own j = own i := funext fun a => propext ⟨fun ⟨i', e4, z⟩ => by rw [hm] at e4; cases e4; exact z, fun z => ⟨i, hm, z⟩⟩
      rw [e3]
      exact r
  · obtain ⟨i, e, _⟩ := h
    have hjl : j < ws.length := by rw [hl, ← hh.len]; exact (List.getElem?_eq_some_iff.mp e).1
    exact ⟨ws[j], get_some_map (List.getElem?_eq_getElem hjl)⟩
  · obtain ⟨i, e1, z1⟩ := h1
    obtain ⟨i', e2, z2⟩ := h2
    have := S.dis i i' a z1 z2
    subst this
    exact ms_inj nd e1 e2
theorem sit_out {F H1 F3 H3 : Hp} {env env3 : DEnv} {own ownA' : Nat → Fp} {ms : List (Option Nat)} {vs : List V} {l : List (Option D)} {ws' : List W} {fpx : Fp} (nd : (ms.filterMap id).Nodup) (S : Sit K F σ H1 env own) (hh : Hand K F σ ms vs l)
    (S' : ASit K F3 H3 vs ws' ownA') (s : Step F H1 (all (ownA ms own)) F3 H3 fpx) (hx : ∀ a, all ownA' a → fpx a) (hp : putW ms ws' env = some env3) :
    Sit K F3 σ H3 env3 (ownC ms own ownA') ∧ Step F H1 (all own) F3 H3 (fun a => all (ownC ms own ownA') a ∨ fpx a) := by
  obtain ⟨p1, p2, p3⟩ := putW_ok nd hp
  have keyN : ∀ i a, (∀ j : Nat, ms[j]? ≠ some (some i)) → own i a → ¬ all (ownA ms own) a := fun i a hn hi z => by
    obtain ⟨j, i', e, z⟩ := z
    have := S.dis i i' a hi z
    subst this
    exact hn j e
  refine ⟨⟨S'.ex, by rw [p1]; exact S.len, fun i w e => ?_, fun i a h => ?_, fun i k a h1 h2 => ?_⟩, s.ex, fun a o h n => s.keep a o h fun z => n (ownA_sub z), fun a h => ?_, fun a o h n => (s.frz a o h n).imp_left ownA_sub⟩
  · by_cases hb : ∃ j : Nat, ms[j]? = some (some i)
    · obtain ⟨j, hj⟩ := hb
      obtain ⟨b, b', ds, e1, e2⟩ := p3 j i hj
      rw [e] at e2
      cases e2
      obtain ⟨v, hv, r⟩ := S'.rep j _ (get_some_map e1)
      obtain ⟨v', hv', hs⟩ := hh.slot hj
      have ev := get_map_some hv
      rw [hv'] at ev
      cases ev
      refine ⟨_, hs, ?_⟩
      have e3 : ownC ms own ownA' i = ownA' j := funext fun a => propext ⟨fun z => by
        rcases z with ⟨j', e4, z⟩ | ⟨z, _⟩
        · rw [ms_inj nd hj e4]; exact z
        · exact absurd hj (z j), fun z => .inl ⟨j, hj, z⟩⟩
      rw [e3]
      exact r
    · have hn : ∀ j : Nat, ms[j]? ≠ some (some i) := fun j z => hb ⟨j, z⟩
      rw [p2 i hn] at e
      obtain ⟨v, hv, r⟩ := S.rep i w e
      refine ⟨v, hv, ?_⟩
      have e3 : ownC ms own ownA' i = own i := funext fun a => propext ⟨fun z => by
        rcases z with ⟨j', e4, z⟩ | ⟨_, z⟩
        · exact absurd e4 (hn j')
        · exact z, fun z => .inr ⟨hn, z⟩⟩
      rw [e3]
      exact (RepW.stepW r (fun a q => keyN i a hn q) s).1
  · rcases h with ⟨j, e, z⟩ | ⟨hn, z⟩
    · obtain ⟨b, b', ds, e1, e2⟩ := p3 j i e
      exact ⟨_, e2⟩
    · obtain ⟨w, e⟩ := S.emp i a z
      exact ⟨w, by rw [p2 i hn]; exact e⟩
  · have mix : ∀ {i k : Nat} {j : Nat}, ms[j]? = some (some i) → ownA' j a → (∀ j : Nat, ms[j]? ≠ some (some k)) → own k a → False := fun {i k j} e z hn y => by
      rcases s.new a (hx a ⟨j, z⟩) with q | q
      · exact keyN k a hn y q
      · obtain ⟨⟨o, e⟩, _⟩ := S.there ⟨k, y⟩
        rw [q] at e
        cases e
    rcases h1 with ⟨j, e1, z1⟩ | ⟨n1, z1⟩ <;> rcases h2 with ⟨j', e2, z2⟩ | ⟨n2, z2⟩
    · have := S'.dis j j' a z1 z2
      subst this
      rw [e1] at e2
      cases e2
      rfl
    · exact (mix e1 z1 n2 z2).elim
    · exact (mix e2 z2 n1 z1).elim
    · exact S.dis i k a z1 z2
  · rcases h with ⟨i, z⟩ | z
    · rcases z with ⟨j, e, z⟩ | ⟨_, z⟩
      · exact (s.new a (hx a ⟨j, z⟩)).imp_left ownA_sub
      · exact .inl ⟨i, z⟩
    · exact (s.new a z).imp_left ownA_sub
end

section
variable {X : Cx} {Wx : WX} {k : Nat} {f : Addr} {fd : FuncData} {ps : List Str} {g : List W → RF} {x : Str} {p pos : Pos} {e : Expr} {es : List Expr} {fs : List (M U)} {ms : List (Option Nat)}
theorem call_sem {K : PySem.W.Frag} {mg : Str → Option Value} {n : Nat} {σ : L2.St} {H : Hp} {Q : VK} (nd : (ms.filterMap id).Nodup) (hn : ms.length = n) (h : tOf K mg Wx (callF g ms fs) σ H Q) :
    aOf K mg Wx (evs fs) σ H fun vs H1 => spOf K mg n g (vs ++ []) H1 Q (fun c d H' => Wx c d σ H') := by
  obtain ⟨F, env, own, S, h⟩ := h
  refine ⟨F, env, own, S, ?_⟩
  unfold callF at h
  cases e : evs fs env with
  | stuck => rw [e] at h; exact h
  | raise c env1 => rw [e] at h; exact h
  | ok us env1 =>
    rw [e, R.bind_ok] at h
    intro vs F1 H1 own1 q O
    rw [List.append_nil]
    cases e1 : frzM ms env1 us with
    | none => rw [e1] at h; exact h.elim
    | some pr =>
      obtain ⟨l, e2⟩ := pr
      rw [e1] at h
      dsimp only at h
      cases e3 : takeW e2 ms l with
      | none => rw [e3] at h; exact h.elim
      | some ws =>
        rw [e3] at h
        dsimp only at h
        obtain ⟨F2, own2, S2, hh, s2⟩ := frzM_ok O.S O.r O.d e1
        have s02 := O.s.trans s2
        refine ⟨by rw [← hh.len]; exact hn, F2, ws, ownA ms own2, sit_in nd S2 hh e3, ?_⟩
        cases e4 : g ws with
        | stuck => rw [e4] at h; exact h
        | ok w ws' =>
          rw [e4] at h
          dsimp only at h
          intro v F3 H3 ownA' pw O3
          cases e5 : putW ms ws' e2 with
          | none => rw [e5] at h; exact h.elim
          | some env3 =>
            rw [e5] at h
            obtain ⟨S4, s4⟩ := sit_out nd S2 hh O3.S O3.s (fun a z => .inl z) e5
            refine h v F3 H3 (ownC ms own2 ownA') pw ⟨S4, O3.r, fun a z y => ?_, (s02.trans s4).sub fun a z => z.imp_right .inr⟩
            obtain ⟨i, y⟩ := y
            rcases y with ⟨j, _, y⟩ | ⟨hnn, y⟩
            · exact O3.d a z ⟨j, y⟩
            · rcases O3.s.new a (.inr z) with q | q
              · obtain ⟨j, i', e6, q⟩ := q
                have := S2.dis i i' a y q
                subst this
                exact hnn j e6
              · obtain ⟨⟨o, e6⟩, _⟩ := S2.there ⟨i, y⟩
                rw [q] at e6
                cases e6
        | raise c ws' =>
          rw [e4] at h
          dsimp only at h
          intro C F3 H3 ownA' hm S3 s3
          cases e5 : putW ms ws' e2 with
          | none => rw [e5] at h; exact h.elim
          | some env3 =>
            rw [e5] at h
            obtain ⟨S4, s4⟩ := sit_out nd S2 hh S3 s3 (fun a z => z) e5
            exact h C F3 H3 (ownC ms own2 ownA') hm ⟨S4, (s02.trans s4).sub fun a z => .inl z⟩
theorem e_call (G : FnS X.prog X.w X.K X.mg X.base k f fd ps g) (tk : Takes X Wx) (hr : Room k X.A) (hg : Gl X x) (hm : X.mg x = some (.ref f)) (hk : PySem.W.keepIn X.K (.ref f) = true) (hb : Binds X.K fd ps []) (ha : EaS X Wx (e :: es) fs)
    (nd : (ms.filterMap id).Nodup) (hn : ms.length = ps.length) (hdb : (x == ("__debug__" : Str)) = false := by decide) (he : starEach (e :: es) X.env = (false, eval e X.env) :: starEach es X.env := by rfl) (hpl : (backTo pos (starEach es X.env)).any (·.1) = false := by rfl) :
    EvS X Wx (.Call (.Name x p) (e :: es) [] pos) (callF g ms fs) :=
  PE.imp (pe_callSD (E := fun σ c d H' => Wx c d σ H') G hr hg hm hk hb .nil (fun σ => passAt tk σ) ha hdb he hpl) fun σ H Q h => call_sem nd hn h
end
end DL

/-! enumerate(tuple) -/
namespace PySem
set_option maxHeartbeats 1000000 in
theorem dl_enum_newB {v : Value} {o : Obj} {H : Heap → Prop} (B : Begins v o H) :
    Meets (Builtin.«enumerate.__new__» ⟨[.type "enumerate", v], []⟩) (fun _ R s => H s.heap ∧
      R (.ok (.ret (.ref (s.heap.push o).objs.size))) { s with heap := (s.heap.push o).push { cls := .type "enumerate", data := .fields #[.none, .bool false, .ref s.heap.objs.size, rawInt 0, .none, .none] } }) :=
  .of_wp fun prog w A R s h => by
    obtain ⟨hp, g, d, tk, os⟩ := s; obtain ⟨h1, h⟩ := h
    have hsub := sub_enumerate
    have q1 : ∀ {A' : Around} {E : Value → Shared → Prop} {Q : Value → Shared → Prop}, Q (.ref hp.objs.size) ⟨hp.push o, g, d, tk, os⟩ → wpAny (model prog w) A' (pyIter v) Q E ⟨hp, g, d, tk, os⟩ :=
      fun q => B.iter prog w _ _ ⟨hp, g, d, tk, os⟩ _ h1 q
    wp_walk using q1
    refine wpAny_stack_any fun st => wpAny_pure ?_
    split
    · rename_i c _ _ _ _ _
      cases (c == Value.type "enumerate")
      · wp_walk using q1
        exact ⟨_, rfl, h⟩
      · wp_walk using q1
        exact ⟨_, rfl, h⟩
    · wp_walk using q1
      exact ⟨_, rfl, h⟩
section
variable {prog : Program} {w : World} {A : Around} {E : Value → Shared → Prop} {s : Shared}
theorem dl_enum_begins {v : Value} {o : Obj} {H : Heap → Prop} {Q : Value → Shared → Prop} (B : Begins v o H) (h1 : H s.heap)
    (h : ∀ h', IsEnum h' (s.heap.objs.size + 1) s.heap.objs.size 0 .none → h'.get? s.heap.objs.size = some o → h'.objs.size = s.heap.objs.size + 2 →
      (∀ b o, s.heap.get? b = some o → h'.get? b = some o) → Q (.ref (s.heap.objs.size + 1)) { s with heap := h' }) :
    wpAny (model prog w) A (call (.type "enumerate") [v]) Q E s := by
  refine callType_new F.called_enumerate (by decide) (F.typeCall_enumerate_1 _) (F.newCall_enumerate_1 _) (fun obj => F.args_object_init_2 obj _) F.entry_enumerate_new
    (dl_enum_newB B) ⟨h1, ?_⟩
  have hz : (s.heap.push o).objs.size = s.heap.objs.size + 1 := Heap.size_push ..
  show _ ∧ _
  rw [hz]
  have he : IsEnum ((s.heap.push o).push { cls := .type "enumerate", data := .fields #[.none, .bool false, .ref s.heap.objs.size, rawInt 0, .none, .none] }) (s.heap.objs.size + 1) s.heap.objs.size 0 .none := by
    have := Heap.get?_push_size (s.heap.push o) (o := { cls := .type "enumerate", data := .fields #[.none, .bool false, .ref s.heap.objs.size, rawInt 0, .none, .none] }) rfl
    rw [hz] at this; exact this
  refine ⟨⟨_, he, rfl⟩, h _ he (Heap.get?_push_of_some _ (Heap.get?_push_size _ B.free)) (by rw [Heap.size_push, hz]) fun b o x => Heap.get?_push_of_some _ (Heap.get?_push_of_some _ x)⟩
end
end PySem
namespace DL
open PySem PySem.Spec PyProof.Rows L2
def IteT (K : PySem.W.Frag) (a : Addr) : It :=
  ⟨fun i H => ∃ (xs : List V) (x : V), SqT K H a xs ∧ xs[i]? = some x, fun i H v H' => ∃ T x, v = .ref T ∧ H T = none ∧ H' = upd H T (.tup [.int (i : Nat), x]) ∧ ∀ xs, SqT K H a xs → xs[i]? = some x, fun i H => ∃ xs : List V, SqT K H a xs ∧ xs.length = i⟩
theorem turn_enumT {P : Program} {w : World} {K : PySem.W.Frag} {elts : List Expr} {kk : Nat} {tpos : Pos} (a e it : Addr) (items : Array Value) :
    Turn P w K (.Tuple elts kk tpos) (IteT K a) [e, it] e (fun i h => (∃ old, IsEnum h e it ((i : Nat) : Int) old) ∧ h.IsTupleIter it a i ∧ e ≠ it ∧ a ≠ it ∧ e ≠ a) where
  mem := by simp
  obj := fun i h st b hb => by
    obtain ⟨⟨old, he⟩, ⟨o, ho, hc, hd⟩, _⟩ := st
    have e' : b = e ∨ b = it := by simpa using hb
    rcases e' with z | z
    · rw [z]; exact ⟨_, he, fun v q => nomatch q⟩
    · rw [z]; exact ⟨o, ho, fun v q => by rw [hd] at q; cases q⟩
  keep := fun i h h' st k => let ⟨⟨old, he⟩, hi, hne⟩ := st; ⟨⟨old, k e (by simp) _ he⟩, hi.at fun o q => k it (by simp) o q, hne⟩
  item := by
    intro X hP hw hK hc i pins s σ H E I hf st hg
    subst hP hw hK
    obtain ⟨⟨old, he⟩, hit, hne, hne2, hne3⟩ := st
    obtain ⟨xs, x, hq, hx⟩ := hg
    obtain ⟨its, rv, p, hz⟩ := I.tuple hq
    obtain ⟨u, hu, ru⟩ := rv.get hx
    have hel : e < s.heap.objs.size := Heap.lt_size he
    have hil : it < s.heap.objs.size := by obtain ⟨_, q, _⟩ := hit; exact Heap.lt_size q
    have hi : i < its.toArray.size := by
      rw [List.size_toArray]
      exact (List.getElem?_eq_some_iff.mp hu).1
    refine wpAny_pyNext_enum_itemD (Draws.tuple (A := X.A.in1) (I.ok.hd hc) it a hne2 its.toArray) he ⟨hit, p⟩ hi hne (by simp [hne, hne3]) fun u' h' tk hu' ho hst' hT hsz hk => ?_
    have eu : u' = u := by
      have : its.toArray[i]? = some u' := hu'
      have q : its[i]? = some u' := by simpa using this
      rw [hu] at q
      exact (Option.some.inj q).symm
    subst eu
    refine ⟨_, rfl, wpAny_letOwnedTupleGo_enum (s := { s with heap := h', toks := tk + 1 }) ho fun h'' he' sb => ?_⟩
    have hT2 : h''.get? s.heap.objs.size = some { cls := .type "tuple", data := .seq #[.int i tk, u'] } := (sb.2 _ (Nat.ne_of_gt hel)).trans hT
    have new : ObjOk X.prog X.w (upd H s.heap.objs.size (.tup [.int (i : Nat), x])) h'' s.heap.objs.size (.tup [.int (i : Nat), x]) :=
      ⟨by show 2 ≤ sizeLine; decide, [.int i tk, u'], .cons ⟨_, rfl⟩ (.cons ru .nil), ⟨_, hT2, rfl, _, rfl⟩⟩
    have I1 : Inv X pins σ (upd H s.heap.objs.size (.tup [.int (i : Nat), x])) { s with heap := h'', toks := tk + 1 } :=
      I.turnedNew (ch := [e, it]) (fun b ob hb q => (sb.2 b (fun z => hb (by simp [z]))).trans (hk b ob (fun z => hb (by simp [z])) (fun z => hb (by simp [z])) q)) hf (Nat.le_refl _) new
    refine ⟨.ref s.heap.objs.size, _, I1, rfl, ⟨_, x, rfl, I.hok.fresh (Nat.le_refl _), rfl, fun ys hy => by rw [I.tuple_inj hy hq]; exact hx⟩, ⟨⟨u', ?_⟩, hst'.1.at fun o q => (sb.2 it (Ne.symm hne)).trans q, hne, hne2, hne3⟩, fun b hb => ?_⟩
    · have e1 : ((i + 1 : Nat) : Int) = (i : Int) + 1 := by omega
      rw [e1]; exact he'
    · have hb' : b < s.heap.objs.size := by
        have e' : b = e ∨ b = it := by simpa using hb
        rcases e' with z | z
        · rw [z]; exact hel
        · rw [z]; exact hil
      rw [upd_ne (Nat.ne_of_lt hb')]
      exact (hf b hb).1
  done := by
    intro X hP hw hK hc i pins s σ H E I hf st hg
    subst hP hw hK
    obtain ⟨⟨old, he⟩, hit, hne, hne2, hne3⟩ := st
    obtain ⟨xs, hq, hx⟩ := hg
    obtain ⟨its, rv, p, hz⟩ := I.tuple hq
    obtain ⟨f0, f1, f2, f3, f4, f5⟩ := hf it (by simp)
    have hl := rv.length
    have hst : s.heap.IsTupleIter it a its.toArray.size ∧ s.heap.IsTuple a its.toArray := by
      rw [List.size_toArray, ← hl, hx]
      exact ⟨hit, p⟩
    exact wpAny_pyNext_enum_endD (Draws.tuple (A := X.A.in1) (I.ok.hd hc) it a hne2 its.toArray) he hst fun h' eb => ⟨rfl, I.turned (t' := s.toks) (fun b o hb q => eb b o hb q) f0 f1 f3 f4 f5⟩
  self := fun A i s Q E st h => let ⟨⟨_, he⟩, _⟩ := st; wpAny_pyIter_enum he h
/-- enumerate of a list or a tuple -/
def iEnumA (K : PySem.W.Frag) (ta : TA) : TI := fun σ H R => ta σ H fun vs H1 => ∃ a xs, vs = [.ref a] ∧ ((SqL K H1 a xs ∧ R (Ite K a) H1) ∨ (SqT K H1 a xs ∧ R (IteT K a) H1))
theorem pi_enumA {X : Cx} {e : Expr} {ta : TA} {p pos tpos : Pos} {elts : List Expr} {kk : Nat} (hg : Gl X "enumerate") (hm : X.mg "enumerate" = none) (ha : PA X [e] ta) (hs : starEach [e] X.env = [(false, eval e X.env)] := by rfl) :
    PI X (.Tuple elts kk tpos) (.Call (.Name "enumerate" p) [e] [] pos) (iEnumA X.K ta) := by
  refine ⟨fun pins s σ H R I h => ?_⟩
  refine Call_ (ld_blt I hg hm boot_enumerate (PyProof.Rows.callWith_type1 (thn (ha.run pos pins s σ H _ I h) fun us s1 ⟨vs, H1, I1, r1, q1⟩ => ?_) hs rfl))
  obtain ⟨a, xs, ex, q⟩ := q1
  subst ex
  cases r1 with
  | cons r rr =>
    cases rr
    cases r
    rcases q with ⟨hq, q⟩ | ⟨hq, q⟩
    · obtain ⟨its, rv, p', hz⟩ := I1.list hq
      refine call_enumerate_list p'.isList fun h' he hit hsz hk => wpAny_pyIter_enum he ?_
      have I2 : Inv X pins σ H1 { s1 with heap := h' } := I1.kept (t' := s1.toks) hk
      refine ⟨s1.heap.objs.size + 1, [s1.heap.objs.size + 1, s1.heap.objs.size], _, _, H1, rfl, I2, turn_enum a (s1.heap.objs.size + 1) s1.heap.objs.size, ⟨⟨.none, he⟩, hit, Nat.succ_ne_self _⟩, fun b hb => ?_, q⟩
      have e' : b = s1.heap.objs.size + 1 ∨ b = s1.heap.objs.size := by simpa using hb
      have hle : s1.heap.objs.size ≤ b := by
        rcases e' with z | z
        · rw [z]; exact Nat.le_add_right _ _
        · rw [z]; exact Nat.le_refl _
      exact I1.fpOk hle (I1.hok.fresh hle)
    · obtain ⟨its, rv, p', hz⟩ := I1.tuple hq
      have hal : a < s1.heap.objs.size := by obtain ⟨_, e, _⟩ := p'; exact Heap.lt_size e
      refine dl_enum_begins (begins_tuple a its.toArray) p' fun h' he hit hsz hk => wpAny_pyIter_enum he ?_
      have I2 : Inv X pins σ H1 { s1 with heap := h' } := I1.kept (t' := s1.toks) hk
      refine ⟨s1.heap.objs.size + 1, [s1.heap.objs.size + 1, s1.heap.objs.size], _, _, H1, rfl, I2, turn_enumT a (s1.heap.objs.size + 1) s1.heap.objs.size its.toArray, ⟨⟨.none, he⟩, ⟨_, hit, rfl, rfl⟩, Nat.succ_ne_self _, Nat.ne_of_lt hal, Nat.ne_of_gt (Nat.lt_succ_of_lt hal)⟩, fun b hb => ?_, q⟩
      have e' : b = s1.heap.objs.size + 1 ∨ b = s1.heap.objs.size := by simpa using hb
      have hle : s1.heap.objs.size ≤ b := by
        rcases e' with z | z
        · rw [z]; exact Nat.le_add_right _ _
        · rw [z]; exact Nat.le_refl _
      exact I1.fpOk hle (I1.hok.fresh hle)
/-- a list or a tuple walked -/
def iSeq (K : PySem.W.Frag) (tl : TE) : TI := fun σ H R => tl σ H fun x H1 => ∃ a xs, x = .ref a ∧ ((SqL K H1 a xs ∧ R (Itl K a) H1) ∨ (SqT K H1 a xs ∧ R (Itt K a) H1))
theorem pi_seq {X : Cx} {tg l : Expr} {tl : TE} (hl : PE X l tl) : PI X tg l (iSeq X.K tl) := by
  refine ⟨fun pins s σ H R I h => ?_⟩
  refine thn (hl.run pins s σ H _ I h) fun v s1 ⟨x, H1, I1, r1, q1⟩ => ?_
  obtain ⟨a, xs, e, q⟩ := q1
  subst e
  cases r1
  rcases q with ⟨hq, q⟩ | ⟨hq, q⟩
  · obtain ⟨its, rv, p, hz⟩ := I1.list hq
    refine wpAny_pyIter_list p.isList ?_
    refine ⟨s1.heap.objs.size, [s1.heap.objs.size], _, _, H1, rfl, I1.kept (t' := s1.toks) fun b o e => Heap.get?_push_of_some _ e, turn_list a _, ⟨_, Heap.get?_push_size _ rfl, rfl, rfl⟩, fun b hb => ?_, q⟩
    have e : b = s1.heap.objs.size := by simpa using hb
    subst e
    exact I1.fpOk (Nat.le_refl _) (I1.hok.fresh (Nat.le_refl _))
  · obtain ⟨its, rv, p, hz⟩ := I1.tuple hq
    refine wpAny_pyIter_tuple (show s1.heap.IsTuple a its.toArray from p) ?_
    refine ⟨s1.heap.objs.size, [s1.heap.objs.size], _, _, H1, rfl, I1.kept (t' := s1.toks) fun b o e => Heap.get?_push_of_some _ e, turn_tuple a _, ⟨_, Heap.get?_push_size _ rfl, rfl, rfl⟩, fun b hb => ?_, q⟩
    have e : b = s1.heap.objs.size := by simpa using hb
    subst e
    exact I1.fpOk (Nat.le_refl _) (I1.hok.fresh (Nat.le_refl _))
end DL

namespace DL
open PySem PySem.Spec PyProof.Rows L2

/-! ### names stored -/
def ownU (env : DEnv) : U → Option (W × DEnv)
  | .w (.v d) => some (.v d, env)
  | .w (.l _ ds) => some (.l false ds, env)
  | .w (.m ks ds) => some (.m ks ds, env)
  | .b i => match frz1 env (.b i) with
    | some (d, e) => some (.v d, e)
    | none => none
def setS (i : Nat) (w : W) (env : DEnv) : Option DEnv := match env[i]? with
  | some (some (.l true _)) => none
  | some _ => some (env.set i (some w))
  | none => none
section
variable {K : PySem.W.Frag} {F H F1 H1 : Hp} {σ σ1 : L2.St} {env env1 env' : DEnv} {own own1 : Nat → Fp} {p : Fp}
theorem ownU_ok {u : U} {v : V} {w : W} (O : Out K F H own σ u v env1 F1 H1 own1 p) (h : ownU env1 u = some (w, env')) : ∃ F2 own2 p2, Out K F H own σ (.w w) v env' F2 H1 own2 p2 := by
  cases u with
  | w x =>
    cases x with
    | v d => cases h; exact ⟨F1, own1, p, O⟩
    | l b ds =>
      cases h
      exact ⟨F1, own1, p, O.S, O.r, O.d, O.s⟩
    | m ks ds => cases h; exact ⟨F1, own1, p, O⟩
  | b i =>
    have h : (match frz1 env1 (.b i) with | some (d, e) => some (W.v d, e) | none => none) = some (w, env') := h
    split at h
    · rename_i d e he
      cases h
      obtain ⟨F2, own2, r2, O2⟩ := O.frz he
      exact ⟨F2, own2, _, (Grow.refl O2.S.ex).out O2 (RepW.ofRep r2)⟩
    · cases h
theorem setS_ok {i : Nat} {v : V} {w : W} (S : Sit K F σ H env own) (r : RepW K F H v w p) (d : ∀ a, p a → ¬ all own a) (h : setS i w env = some env') : ∃ own', Sit K F (σ.set i (some v)) H env' own' ∧ ∀ a, all own' a → all own a ∨ p a := by
  have hi : i < env.length ∧ env' = env.set i (some w) := by
    unfold setS at h
    split at h
    · cases h
    · rename_i x hx
      cases h
      exact ⟨(List.getElem?_eq_some_iff.mp hx).1, rfl⟩
    · cases h
  obtain ⟨hi, rfl⟩ := hi
  have hσ : i < σ.length := by rw [← S.len]; exact hi
  refine ⟨fun j a => (j = i ∧ p a) ∨ (j ≠ i ∧ own j a), ⟨S.ex, by rw [List.length_set, List.length_set]; exact S.len, fun j w' e => ?_, fun j a z => ?_, fun j k a z1 z2 => ?_⟩, fun a z => ?_⟩
  · by_cases hj : j = i
    · subst hj
      rw [List.getElem?_set_self hi] at e
      cases e
      refine ⟨v, List.getElem?_set_self hσ, ?_⟩
      have e2 : (fun a => (j = j ∧ p a) ∨ (j ≠ j ∧ own j a)) = p := funext fun a => propext ⟨fun z => z.elim (fun y => y.2) fun y => absurd rfl y.1, fun z => .inl ⟨rfl, z⟩⟩
      show RepW K F H v w (fun a => (j = j ∧ p a) ∨ (j ≠ j ∧ own j a))
      rw [e2]
      exact r
    · rw [List.getElem?_set_ne (Ne.symm hj)] at e
      obtain ⟨v', e1, r'⟩ := S.rep j w' e
      refine ⟨v', by rw [List.getElem?_set_ne (Ne.symm hj)]; exact e1, ?_⟩
      have e2 : (fun a => (j = i ∧ p a) ∨ (j ≠ i ∧ own j a)) = own j := funext fun a => propext ⟨fun z => z.elim (fun y => absurd y.1 hj) fun y => y.2, fun z => .inr ⟨hj, z⟩⟩
      show RepW K F H v' w' (fun a => (j = i ∧ p a) ∨ (j ≠ i ∧ own j a))
      rw [e2]
      exact r'
  · rcases z with ⟨rfl, _⟩ | ⟨hj, z⟩
    · exact ⟨w, List.getElem?_set_self hi⟩
    · obtain ⟨w', e⟩ := S.emp j a z
      exact ⟨w', by rw [List.getElem?_set_ne (Ne.symm hj)]; exact e⟩
  · rcases z1 with ⟨h1, y1⟩ | ⟨h1, y1⟩ <;> rcases z2 with ⟨h2, y2⟩ | ⟨h2, y2⟩
    · rw [h1, h2]
    · exact absurd ⟨k, y2⟩ (d a y1)
    · exact absurd ⟨j, y1⟩ (d a y2)
    · exact S.dis j k a y1 y2
  · obtain ⟨j, z⟩ := z
    rcases z with ⟨_, z⟩ | ⟨_, z⟩
    · exact .inr z
    · exact .inl ⟨j, z⟩
theorem Out.set {i : Nat} {v : V} {w : W} (O : Out K F H own σ (.w w) v env1 F1 H1 own1 p) (h : setS i w env1 = some env') : ∃ own', OutR K F H own (σ.set i (some v)) env' F1 H1 own' := by
  obtain ⟨own', S', hs⟩ := setS_ok O.S O.r O.d h
  exact ⟨own', S', O.s.sub fun a z => hs a z⟩
end

/-! ### targets -/
abbrev MT := D → DEnv → Option DEnv
abbrev MTs := List D → DEnv → Option DEnv
def gOf (K : PySem.W.Frag) (is : List Nat) (m : MT) : TG := fun v σ H Q => ∃ F env own d, Sit K F σ H env own ∧ RepD K F v d ∧ match m d env with
  | some env' => ∀ σ' F' H' own', Only is σ σ' → OutR K F H own σ' env' F' H' own' → Q σ' H'
  | none => False
def gsOf (K : PySem.W.Frag) (is : List Nat) (m : MTs) : TGs := fun vs σ H Q => ∃ F env own ds, Sit K F σ H env own ∧ RepDs K F vs ds ∧ match m ds env with
  | some env' => ∀ σ' F' H' own', Only is σ σ' → OutR K F H own σ' env' F' H' own' → Q σ' H'
  | none => False
abbrev TgS (X : Cx) (tg : Expr) (is : List Nat) (m : MT) : Prop := PG X tg (gOf X.K is m)
abbrev TgsS (X : Cx) (tgs : List Expr) (is : List Nat) (m : MTs) : Prop := PGs X tgs (gsOf X.K is m)
theorem PG.imp {X : Cx} {e : Expr} {t t' : TG} (h : PG X e t) (i : ∀ v σ H Q, t' v σ H Q → t v σ H Q) : PG X e t' := ⟨fun pins s σ H v u Q I r q => h.run pins s σ H v u Q I r (i v σ H Q q)⟩
theorem PGs.imp {X : Cx} {e : List Expr} {t t' : TGs} (h : PGs X e t) (i : ∀ v σ H Q, t' v σ H Q → t v σ H Q) : PGs X e t' := ⟨fun pins s σ H v u Q I r q => h.run pins s σ H v u Q I r (i v σ H Q q)⟩
def mName (i : Nat) : MT := fun d env => setS i (.v d) env
def mNil : MTs := fun ds env => match ds with
  | [] => some env
  | _ => none
def mCons (m : MT) (ms : MTs) : MTs := fun ds env => match ds with
  | d :: r => (m d env).bind fun e => ms r e
  | [] => none
def mTup (ms : MTs) (n : Nat) : MT := fun d env => match d with
  | .tup ds => if ds.length = n then ms ds env else none
  | _ => none
section
variable {X : Cx} {pos : Pos}
theorem g_name {i : Nat} {x : Str} (hN : X.N.Nodup) (hi : X.N[i]? = some x) (hx : Loc X.env.scope x) (hf : X.fn x = true ∨ X.env.scope.names.lookup x = some .local := by first | exact .inl rfl | exact .inr rfl | assumption) : TgS X (.Name x pos) [i] (mName i) := PG.imp (pg_name hN hi hx hf) fun v σ H Q h => by
  obtain ⟨F, env, own, d, S, r, h⟩ := h
  unfold mName at h
  cases e : setS i (.v d) env with
  | none => rw [e] at h; exact h.elim
  | some env' =>
    rw [e] at h
    obtain ⟨own', O⟩ := ((Grow.refl S.ex).out (OutR.refl S) (RepW.ofRep r)).set e
    exact h _ _ _ _ ⟨List.length_set, fun j hj => List.getElem?_set_ne fun z => hj (by simp [z])⟩ O
theorem gs_nil : TgsS X [] [] mNil := PGs.imp pgs_nil fun vs σ H Q h => by
  obtain ⟨F, env, own, ds, S, r, h⟩ := h
  unfold mNil at h
  cases r with
  | nil => exact ⟨rfl, h _ _ _ _ Only.refl (OutR.refl S)⟩
  | cons _ _ => exact h.elim
theorem gs_cons {e : Expr} {es : List Expr} {is js : List Nat} {m : MT} {ms : MTs} (h1 : TgS X e is m) (h2 : TgsS X es js ms) (hs : (assignEach (e :: es) X.env).map (·.2) = assign e X.env :: (assignEach es X.env).map (·.2) := by rfl) : TgsS X (e :: es) (is ++ js) (mCons m ms) := PGs.imp (pgs_cons h1 h2 hs) fun vs σ H Q h => by
  obtain ⟨F, env, own, ds, S, r, h⟩ := h
  unfold mCons at h
  cases r with
  | nil => exact h.elim
  | cons rd rs =>
    rename_i v d vs ds
    dsimp only at h
    refine ⟨v, vs, rfl, F, env, own, d, S, rd, ?_⟩
    cases e1 : m d env with
    | none => rw [e1] at h; exact h
    | some env1 =>
      rw [e1, Option.bind_some] at h
      intro σ1 F1 H1 own1 y1 O1
      refine ⟨F1, env1, own1, ds, O1.S, rs.mono O1.s.ex, ?_⟩
      cases e2 : ms ds env1 with
      | none => rw [e2] at h; exact h
      | some env2 =>
        rw [e2] at h
        exact fun σ2 F2 H2 own2 y2 O2 => h _ _ _ _ (y1.trans y2) (O1.trans O2)
theorem g_tup {es : List Expr} {k n : Nat} {is : List Nat} {ms : MTs} (hc : X.calm = true) (h : TgsS X es is ms) (hn : (assignEach es X.env).length = n := by rfl) (hst : (assignEach es X.env).findIdx? (·.1) = none := by rfl) : TgS X (.Tuple es k pos) is (mTup ms n) := PG.imp (pg_tup hc h hn hst) fun v σ H Q h => by
  obtain ⟨F, env, own, d, S, r, h⟩ := h
  unfold mTup at h
  cases r with
  | tup q rs =>
    rename_i a vs ds
    dsimp only at h
    by_cases hl : ds.length = n
    · rw [if_pos hl] at h
      exact ⟨a, vs, rfl, SqT.of (S.ex _ _ q), by rw [rs.length]; exact hl, F, env, own, ds, S, rs, h⟩
    · rw [if_neg hl] at h; exact h.elim
  | _ => exact h.elim
end

/-! ### what is walked -/
structure Feeds (K : PySem.W.Frag) (J : It) (F0 : Hp) (ds : List D) : Prop where
  go : ∀ F H i, Same F0 F → Same F H → i < ds.length → J.go i H
  yld : ∀ F H i x H' d, Same F0 F → Same F H → ds[i]? = some d → J.yld i H x H' → ∃ F', Grow F H F' H' (fun _ => False) ∧ RepD K F' x d
  stop : ∀ F H, Same F0 F → Same F H → J.stop ds.length H
def iOf (K : PySem.W.Frag) (mg : Str → Option Value) (Wx : WX) (f : M (List D)) : TI := fun σ H R => ∃ F env own, Sit K F σ H env own ∧ match f env with
  | .ok ds env' => ∀ J F' H' own', OutR K F H own σ env' F' H' own' → Feeds K J F' ds → R J H'
  | .raise c env' => ∀ C F' H' own', mg c = some (.ref C) → OutR K F H own σ env' F' H' own' → Wx (.ref C) none σ H'
  | .stuck => False
abbrev ItS (X : Cx) (Wx : WX) (tg e : Expr) (f : M (List D)) : Prop := PI X tg e (iOf X.K X.mg Wx f)
theorem PI.imp {X : Cx} {tg e : Expr} {t t' : TI} (h : PI X tg e t) (i : ∀ σ H R, t' σ H R → t σ H R) : PI X tg e t' := ⟨fun pins s σ H R I q => h.run pins s σ H R I (i σ H R q)⟩
def seqOf : D → Option (List D)
  | .lst ds => some ds
  | .tup ds => some ds
  | _ => none
def iterSeq (f : M U) : M (List D) := fun env => (f env).bind fun u e1 => match frz1 e1 u with
  | some (d, e2) => (match seqOf d with
    | some ds => .ok ds e2
    | none => .stuck)
  | none => .stuck
def pairs0 (ds : List D) : List D := (ds.zipIdx).map fun p => .tup [.int (p.2 : Nat), p.1]
def iterEnum (f : M U) : M (List D) := fun env => (iterSeq f env).bind fun ds e => .ok (pairs0 ds) e
def rangeD (lo hi : Int) : List D := (List.range (hi - lo).toNat).map fun i => .int (lo + (i : Nat))
def iterR1 (f : M U) : M (List D) := fun env => (evs [f] env).bind fun us e1 => match datL e1 us with
  | some [.int n] => if -(2 ^ 62) ≤ n ∧ n < 2 ^ 62 then .ok (rangeD 0 n) e1 else .stuck
  | _ => .stuck
def iterR2 (f g : M U) : M (List D) := fun env => (evs [f, g] env).bind fun us e1 => match datL e1 us with
  | some [.int m, .int n] => if (-(2 ^ 62) ≤ m ∧ m < 2 ^ 62) ∧ (-(2 ^ 62) ≤ n ∧ n < 2 ^ 62) then .ok (rangeD m n) e1 else .stuck
  | _ => .stuck
section
variable {X : Cx} {Wx : WX} {tg e a b : Expr} {f fa fb : M U} {pos p tpos : Pos}
theorem feeds_l {K : PySem.W.Frag} {F0 : Hp} {a : Addr} {vs : List V} {ds : List D} (h : Rd F0 a (.lst vs)) (r : RepDs K F0 vs ds) : Feeds K (Itl K a) F0 ds where
  go := fun F H i e1 e2 hi => by
    have hv : i < vs.length := by rw [r.length]; exact hi
    exact ⟨vs, vs[i], .inl (sameL (e1.trans e2) h), List.getElem?_eq_getElem hv⟩
  yld := fun F H i x H' d e1 e2 hd y => by
    obtain ⟨rfl, y⟩ := y
    obtain ⟨v, h1, h2⟩ := r.get hd
    have := y vs (.inl (sameL (e1.trans e2) h))
    rw [h1] at this
    cases this
    exact ⟨F, Grow.refl e2, h2.mono e1⟩
  stop := fun F H e1 e2 => ⟨vs, .inl (sameL (e1.trans e2) h), Nat.le_of_eq r.length⟩
theorem feeds_t {K : PySem.W.Frag} {F0 : Hp} {a : Addr} {vs : List V} {ds : List D} (h : SqT K F0 a vs) (r : RepDs K F0 vs ds) : Feeds K (Itt K a) F0 ds where
  go := fun F H i e1 e2 hi => by
    have hv : i < vs.length := by rw [r.length]; exact hi
    exact ⟨vs, vs[i], sameT (e1.trans e2) h, List.getElem?_eq_getElem hv⟩
  yld := fun F H i x H' d e1 e2 hd y => by
    obtain ⟨rfl, y⟩ := y
    obtain ⟨v, h1, h2⟩ := r.get hd
    have := y vs (sameT (e1.trans e2) h)
    rw [h1] at this
    cases this
    exact ⟨F, Grow.refl e2, h2.mono e1⟩
  stop := fun F H e1 e2 => ⟨vs, sameT (e1.trans e2) h, Nat.le_of_eq r.length⟩
theorem pairs0_get {ds : List D} {i : Nat} {d : D} (h : (pairs0 ds)[i]? = some d) : ∃ x, ds[i]? = some x ∧ d = .tup [.int (i : Nat), x] := by
  unfold pairs0 at h
  rw [List.getElem?_map, List.getElem?_zipIdx] at h
  cases e : ds[i]? with
  | none => rw [e] at h; cases h
  | some x => rw [e] at h; simp at h; exact ⟨x, rfl, h.symm⟩
theorem pairs0_len (ds : List D) : (pairs0 ds).length = ds.length := by unfold pairs0; simp
theorem feeds_el {K : PySem.W.Frag} {F0 : Hp} {a : Addr} {vs : List V} {ds : List D} (h : Rd F0 a (.lst vs)) (r : RepDs K F0 vs ds) : Feeds K (Ite K a) F0 (pairs0 ds) where
  go := fun F H i e1 e2 hi => by
    rw [pairs0_len] at hi
    have hv : i < vs.length := by rw [r.length]; exact hi
    exact ⟨vs, vs[i], .inl (sameL (e1.trans e2) h), List.getElem?_eq_getElem hv⟩
  yld := fun F H i x H' d e1 e2 hd y => by
    obtain ⟨T, x, rfl, nT, rfl, y⟩ := y
    obtain ⟨dx, hx, rfl⟩ := pairs0_get hd
    obtain ⟨v, h1, h2⟩ := r.get hx
    have := y vs (.inl (sameL (e1.trans e2) h))
    rw [h1] at this
    cases this
    exact ⟨upd F T (.tup [.int (i : Nat), x]), Grow.data e2 nT, .tup upd_same (.cons (.int _) (.cons ((h2.mono e1).mono (same_upd (sub_none e2 nT))) .nil))⟩
  stop := fun F H e1 e2 => ⟨vs, .inl (sameL (e1.trans e2) h), by rw [pairs0_len]; exact Nat.le_of_eq r.length⟩
theorem feeds_et {K : PySem.W.Frag} {F0 : Hp} {a : Addr} {vs : List V} {ds : List D} (h : SqT K F0 a vs) (r : RepDs K F0 vs ds) : Feeds K (IteT K a) F0 (pairs0 ds) where
  go := fun F H i e1 e2 hi => by
    rw [pairs0_len] at hi
    have hv : i < vs.length := by rw [r.length]; exact hi
    exact ⟨vs, vs[i], sameT (e1.trans e2) h, List.getElem?_eq_getElem hv⟩
  yld := fun F H i x H' d e1 e2 hd y => by
    obtain ⟨T, x, rfl, nT, rfl, y⟩ := y
    obtain ⟨dx, hx, rfl⟩ := pairs0_get hd
    obtain ⟨v, h1, h2⟩ := r.get hx
    have := y vs (sameT (e1.trans e2) h)
    rw [h1] at this
    cases this
    exact ⟨upd F T (.tup [.int (i : Nat), x]), Grow.data e2 nT, .tup upd_same (.cons (.int _) (.cons ((h2.mono e1).mono (same_upd (sub_none e2 nT))) .nil))⟩
  stop := fun F H e1 e2 => ⟨vs, sameT (e1.trans e2) h, by rw [pairs0_len]; exact r.length⟩
theorem feeds_r {K : PySem.W.Frag} {F0 : Hp} {lo hi : Int} : Feeds K (Itr lo (hi - lo).toNat) F0 (rangeD lo hi) where
  go := fun F H i _ _ h => by
    show i < _
    unfold rangeD at h
    simpa using h
  yld := fun F H i x H' d e1 e2 hd y => by
    obtain ⟨rfl, rfl⟩ := y
    unfold rangeD at hd
    rw [List.getElem?_map] at hd
    cases e : (List.range (hi - lo).toNat)[i]? with
    | none => rw [e] at hd; cases hd
    | some j =>
      rw [e] at hd
      have : j = i := by
        obtain ⟨h1, h2⟩ := List.getElem?_eq_some_iff.mp e
        simpa using h2.symm
      subst this
      cases hd
      exact ⟨F, Grow.refl e2, .int _⟩
  stop := fun F H _ _ => by
    show _ ≤ _
    unfold rangeD
    simp
theorem i_seq (h : EvS X Wx e f) : ItS X Wx tg e (iterSeq f) := PI.imp (pi_seq h) fun σ H RR h => by
  obtain ⟨F, env, own, S, h⟩ := h
  unfold iterSeq at h
  refine tOf_use S (fun u env1 e1 v F1 H1 own1 p O1 => ?_) (fun c env1 e1 C F1 H1 own1 => ?_) (fun e1 => ?_)
  · rw [e1, R.bind_ok] at h
    cases e2 : frz1 env1 u with
    | none => rw [e2] at h; exact h.elim
    | some pr =>
      obtain ⟨d, env2⟩ := pr
      rw [e2] at h
      dsimp only at h
      obtain ⟨F2, own2, r2, O2⟩ := O1.frz e2
      cases r2 with
      | lst q rs => exact ⟨_, _, rfl, .inl ⟨.inl (sameL O2.S.ex q), h _ _ _ _ O2 (feeds_l q rs)⟩⟩
      | tup q rs => exact ⟨_, _, rfl, .inr ⟨SqT.of (O2.S.ex _ _ q), h _ _ _ _ O2 (feeds_t (SqT.of q) rs)⟩⟩
      | _ => exact h.elim
  · rw [e1] at h
    exact h C F1 H1 own1
  · rw [e1] at h
    exact h
theorem i_enum {elts : List Expr} {kk : Nat} (hg : Gl X "enumerate") (hm : X.mg "enumerate" = none) (ha : EvS X Wx e f) (hs : starEach [e] X.env = [(false, eval e X.env)] := by rfl) : ItS X Wx (.Tuple elts kk tpos) (.Call (.Name "enumerate" p) [e] [] pos) (iterEnum f) :=
  PI.imp (pi_enumA hg hm (pa_cons ha pa_nil (by rw [hs]; rfl)) hs) fun σ H RR h => by
  obtain ⟨F, env, own, S, h⟩ := h
  unfold iterEnum iterSeq at h
  refine tOf_use S (fun u env1 e1 v F1 H1 own1 p O1 => ?_) (fun c env1 e1 C F1 H1 own1 => ?_) (fun e1 => ?_)
  · rw [e1, R.bind_ok] at h
    cases e2 : frz1 env1 u with
    | none => rw [e2] at h; exact h.elim
    | some pr =>
      obtain ⟨d, env2⟩ := pr
      rw [e2] at h
      dsimp only at h
      obtain ⟨F2, own2, r2, O2⟩ := O1.frz e2
      cases r2 with
      | lst q rs => exact ⟨_, _, rfl, .inl ⟨.inl (sameL O2.S.ex q), h _ _ _ _ O2 (feeds_el q rs)⟩⟩
      | tup q rs => exact ⟨_, _, rfl, .inr ⟨SqT.of (O2.S.ex _ _ q), h _ _ _ _ O2 (feeds_et (SqT.of q) rs)⟩⟩
      | _ => exact h.elim
  · rw [e1] at h
    exact h C F1 H1 own1
  · rw [e1] at h
    exact h
theorem i_range1 (hg : Gl X "range") (hm : X.mg "range" = none) (ha : EvS X Wx a fa) (hs : starEach [a] X.env = [(false, eval a X.env)] := by rfl) : ItS X Wx tg (.Call (.Name "range" p) [a] [] pos) (iterR1 fa) :=
  PI.imp (pi_range1 hg hm (show EaS X Wx [a] [fa] from ea_cons ha ea_nil (by rw [hs]; rfl)) hs) fun σ H RR h => by
  obtain ⟨F, env, own, S, h⟩ := h
  refine ⟨F, env, own, S, ?_⟩
  unfold iterR1 at h
  cases e : evs [fa] env with
  | stuck => rw [e] at h; exact h
  | raise c env1 => rw [e] at h; exact h
  | ok us env1 =>
    rw [e, R.bind_ok] at h
    intro vs F1 H1 own1 q O
    cases e1 : datL env1 us with
    | none => rw [e1] at h; exact h.elim
    | some ds =>
      rw [e1] at h
      have vw := RepUs.views O.S O.r e1
      split at h
      · rename_i ds' env' heq
        split at heq
        · rename_i n hn
          cases hn
          split at heq
          · rename_i hb
            cases heq
            obtain ⟨x, rfl, hx⟩ := vw.one
            refine ⟨n, by rw [hx.int], hb.1, hb.2, ?_⟩
            have := h _ _ _ _ O.drop (feeds_r (K := X.K) (F0 := F1) (lo := 0) (hi := n))
            simpa using this
          · cases heq
        · cases heq
      · rename_i heq
        split at heq
        · split at heq <;> cases heq
        · cases heq
      · exact h.elim
theorem i_range2 (hg : Gl X "range") (hm : X.mg "range" = none) (ha : EvS X Wx a fa) (hb : EvS X Wx b fb) (hs : starEach [a, b] X.env = [(false, eval a X.env), (false, eval b X.env)] := by rfl) (hs2 : starEach [b] X.env = [(false, eval b X.env)] := by rfl) : ItS X Wx tg (.Call (.Name "range" p) [a, b] [] pos) (iterR2 fa fb) :=
  PI.imp (pi_range2 hg hm (show EaS X Wx [a, b] [fa, fb] from ea_cons ha (ea_cons hb ea_nil (by rw [hs2]; rfl)) (by rw [hs, hs2])) hs hs2) fun σ H RR h => by
  obtain ⟨F, env, own, S, h⟩ := h
  refine ⟨F, env, own, S, ?_⟩
  unfold iterR2 at h
  cases e : evs [fa, fb] env with
  | stuck => rw [e] at h; exact h
  | raise c env1 => rw [e] at h; exact h
  | ok us env1 =>
    rw [e, R.bind_ok] at h
    intro vs F1 H1 own1 q O
    cases e1 : datL env1 us with
    | none => rw [e1] at h; exact h.elim
    | some ds =>
      rw [e1] at h
      have vw := RepUs.views O.S O.r e1
      split at h
      · rename_i ds' env' heq
        split at heq
        · rename_i m n hn
          cases hn
          split at heq
          · rename_i hb
            cases heq
            obtain ⟨x, y, rfl, hx, hy⟩ := vw.two
            exact ⟨m, n, by rw [hx.int, hy.int], ⟨hb.1.1, hb.1.2, hb.2.1, hb.2.2⟩, h _ _ _ _ O.drop feeds_r⟩
          · cases heq
        · cases heq
      · rename_i heq
        split at heq
        · split at heq <;> cases heq
        · cases heq
      · exact h.elim
end
end DL

namespace DL
open PySem PySem.Spec PyProof.Rows L2

/-! ### statements -/
/-- what is wanted behind a statement that tells r -/
def Po (K : PySem.W.Frag) (mg : Str → Option Value) (Wx : WX) (is : List Nat) (E : Ends) (σ : L2.St) (F H : Hp) (own : Nat → Fp) (r : R Fl) : Prop := match r with
  | .ok .next env' => ∀ σ' F' H' own', Only is σ σ' → OutR K F H own σ' env' F' H' own' → E.nx σ' H'
  | .ok .brk env' => ∀ σ' F' H' own', Only is σ σ' → OutR K F H own σ' env' F' H' own' → E.bk σ' H'
  | .ok .cont env' => ∀ σ' F' H' own', Only is σ σ' → OutR K F H own σ' env' F' H' own' → E.ct σ' H'
  | .ok (.ret u) env' => ∀ v σ' F' H' own' p, Only is σ σ' → Out K F H own σ' u v env' F' H' own' p → E.rt v H'
  | .raise c env' => ∀ C σ' F' H' own', Only is σ σ' → mg c = some (.ref C) → OutR K F H own σ' env' F' H' own' → Wx (.ref C) none σ' H'
  | .stuck => False
section
variable {K : PySem.W.Frag} {mg : Str → Option Value} {Wx : WX} {E E' : Ends} {F H F1 H1 : Hp} {σ σ1 : L2.St} {env env1 : DEnv} {own own1 : Nat → Fp} {f : M Fl} {r : R Fl} {is js : List Nat}
theorem sOf_iff : sOf K mg Wx is f E σ H ↔ ∃ F env own, Sit K F σ H env own ∧ Po K mg Wx is E σ F H own (f env) := Iff.rfl
/-- later -/
theorem Po.after (O : OutR K F H own σ1 env1 F1 H1 own1) (hy : ∀ σ2, Only js σ1 σ2 → Only is σ σ2) (h : Po K mg Wx is E σ F H own r) : Po K mg Wx js E σ1 F1 H1 own1 r := by
  unfold Po at h ⊢
  split at h
  · exact fun σ' F' H' own' y O' => h σ' F' H' own' (hy _ y) (O.trans O')
  · exact fun σ' F' H' own' y O' => h σ' F' H' own' (hy _ y) (O.trans O')
  · exact fun σ' F' H' own' y O' => h σ' F' H' own' (hy _ y) (O.trans O')
  · exact fun v σ' F' H' own' p y O' => h v σ' F' H' own' p (hy _ y) (O.out O')
  · exact fun C σ' F' H' own' y hm O' => h C σ' F' H' own' (hy _ y) hm (O.trans O')
  · exact h
theorem sOf_after (O : OutR K F H own σ1 env1 F1 H1 own1) (hy : ∀ σ2, Only js σ1 σ2 → Only is σ σ2) (h : Po K mg Wx is E σ F H own (f env1)) : sOf K mg Wx js f E σ1 H1 := ⟨F1, env1, own1, O.S, h.after O hy⟩
end

def sNext : M Fl := fun env => .ok .next env
def sBrk : M Fl := fun env => .ok .brk env
def sCont : M Fl := fun env => .ok .cont env
def sSeq (a b : M Fl) : M Fl := fun env => (a env).bind fun fl e => match fl with
  | .next => b e
  | fl => .ok fl e
def sSet (i : Nat) (f : M U) : M Fl := fun env => (f env).bind fun u e1 => match ownU e1 u with
  | some (w, e2) => (match setS i w e2 with
    | some e3 => .ok .next e3
    | none => .stuck)
  | none => .stuck
def sTgt (m : MT) (f : M U) : M Fl := fun env => (f env).bind fun u e1 => match frz1 e1 u with
  | some (d, e2) => (match m d e2 with
    | some e3 => .ok .next e3
    | none => .stuck)
  | none => .stuck
def sExpr (f : M U) : M Fl := fun env => (f env).bind fun _ e => .ok .next e
def sRet (f : M U) : M Fl := fun env => (f env).bind fun u e => .ok (.ret u) e
def sIf (t : M Bool) (a b : M Fl) : M Fl := fun env => (t env).bind fun c e => if c then a e else b e
def sRaise (c : Str) : M Fl := fun env => .raise c env
section
variable {X : Cx} {Wx : WX} {st : Stmt} {sts : List Stmt} {is js : List Nat} {f g : M Fl} {e c : Expr} {fe : M U} {t : M Bool} {pos pos' : Pos}
theorem ss_nil : SsS X Wx [] [] sNext := PSs.imp pss_nil fun E σ H h => by
  obtain ⟨F, env, own, S, h⟩ := h
  exact h _ _ _ _ Only.refl (OutR.refl S)
theorem ss_one (h : StS X Wx st is f) : SsS X Wx [st] is f := pss_one h
theorem ss_cons (h1 : StS X Wx st is f) (h2 : SsS X Wx sts js g) : SsS X Wx (st :: sts) (is ++ js) (sSeq f g) := PSs.imp (pss_cons h1 h2) fun E σ H h => by
  obtain ⟨F, env, own, S, h⟩ := h
  refine ⟨F, env, own, S, ?_⟩
  unfold sSeq at h
  cases e : f env with
  | stuck => rw [e] at h; exact h
  | raise _ _ => rw [e] at h; exact fun C σ' F' H' own' y hm O => h C σ' F' H' own' (y.left js) hm O
  | ok fl env1 =>
    rw [e, R.bind_ok] at h
    cases fl with
    | next => exact fun σ' F' H' own' y O => sOf_after O (fun σ2 z => y.trans z) h
    | brk => exact fun σ' F' H' own' y O => h σ' F' H' own' (y.left js) O
    | cont => exact fun σ' F' H' own' y O => h σ' F' H' own' (y.left js) O
    | ret _ => exact fun v σ' F' H' own' p y O => h v σ' F' H' own' p (y.left js) O
theorem s_pass : StS X Wx (.Pass pos) [] sNext := PS.imp ps_pass fun E σ H h => by
  obtain ⟨F, env, own, S, h⟩ := h
  exact h _ _ _ _ Only.refl (OutR.refl S)
theorem s_brk : StS X Wx (.Break pos) [] sBrk := PS.imp ps_break fun E σ H h => by
  obtain ⟨F, env, own, S, h⟩ := h
  exact h _ _ _ _ Only.refl (OutR.refl S)
theorem s_cont : StS X Wx (.Continue pos) [] sCont := PS.imp ps_continue fun E σ H h => by
  obtain ⟨F, env, own, S, h⟩ := h
  exact h _ _ _ _ Only.refl (OutR.refl S)
theorem s_set {i : Nat} {x : Str} (hN : X.N.Nodup) (hi : X.N[i]? = some x) (hx : Loc X.env.scope x) (he : EvS X Wx e fe) (hs : swapsWith e (some (.Name x pos')) pos.line X.env = pure false := by rfl) (hf : X.fn x = true ∨ X.env.scope.names.lookup x = some .local := by first | exact .inl rfl | exact .inr rfl | assumption) :
    StS X Wx (.Assign [.Name x pos'] e pos) [i] (sSet i fe) := PS.imp (ps_set hN hi hx he hs hf) fun E σ H h => by
  obtain ⟨F, env, own, S, h⟩ := h
  unfold sSet at h
  refine tOf_use S (fun u env1 e1 v F1 H1 own1 p O1 => ?_) (fun c env1 e1 C F1 H1 own1 => ?_) (fun e1 => ?_)
  · rw [e1, R.bind_ok] at h
    cases e2 : ownU env1 u with
    | none => rw [e2] at h; exact h.elim
    | some pr =>
      obtain ⟨w, env2⟩ := pr
      rw [e2] at h
      dsimp only at h
      obtain ⟨F2, own2, p2, O2⟩ := ownU_ok O1 e2
      cases e3 : setS i w env2 with
      | none => rw [e3] at h; exact h.elim
      | some env3 =>
        rw [e3] at h
        obtain ⟨own3, O3⟩ := O2.set e3
        exact h _ _ _ _ Only.set O3
  · rw [e1] at h
    exact h C σ F1 H1 own1 Only.refl
  · rw [e1] at h
    exact h
theorem s_tgt {tg : Expr} {is : List Nat} {m : MT} (he : EvS X Wx e fe) (hg : TgS X tg is m) (hs : swapsWithSole [tg] e pos.line X.env = pure false := by rfl) (hw : swappedStores [tg] e X.env = pure none := by rfl)
    (h1 : (assignEach [tg] X.env).map (·.2) = [assign tg X.env] := by rfl) : StS X Wx (.Assign [tg] e pos) is (sTgt m fe) := PS.imp (ps_asg he hg hs hw h1) fun E σ H h => by
  obtain ⟨F, env, own, S, h⟩ := h
  unfold sTgt at h
  refine tOf_use S (fun u env1 e1 v F1 H1 own1 p O1 => ?_) (fun c env1 e1 C F1 H1 own1 => ?_) (fun e1 => ?_)
  · rw [e1, R.bind_ok] at h
    cases e2 : frz1 env1 u with
    | none => rw [e2] at h; exact h.elim
    | some pr =>
      obtain ⟨d, env2⟩ := pr
      rw [e2] at h
      dsimp only at h
      obtain ⟨F2, own2, r2, O2⟩ := O1.frz e2
      refine ⟨F2, env2, own2, d, O2.S, r2, ?_⟩
      cases e3 : m d env2 with
      | none => rw [e3] at h; exact h
      | some env3 =>
        rw [e3] at h
        exact fun σ' F' H' own' y O3 => h _ _ _ _ y (O2.trans O3)
  · rw [e1] at h
    exact h C σ F1 H1 own1 Only.refl
  · rw [e1] at h
    exact h
theorem s_expr (he : EvS X Wx e fe) (hs : swapsWith e none pos.line X.env = pure false := by rfl) : StS X Wx (.Expr e pos) [] (sExpr fe) := PS.imp (ps_expr he hs) fun E σ H h => by
  obtain ⟨F, env, own, S, h⟩ := h
  unfold sExpr at h
  refine tOf_use S (fun u env1 e1 v F1 H1 own1 p O1 => ?_) (fun c env1 e1 C F1 H1 own1 => ?_) (fun e1 => ?_)
  · rw [e1, R.bind_ok] at h
    exact h _ _ _ _ Only.refl O1.drop
  · rw [e1] at h
    exact h C σ F1 H1 own1 Only.refl
  · rw [e1] at h
    exact h
theorem s_ret (he : EvS X Wx e fe) : StS X Wx (.Return (some e) pos) [] (sRet fe) := PS.imp (ps_ret he) fun E σ H h => by
  obtain ⟨F, env, own, S, h⟩ := h
  unfold sRet at h
  refine tOf_use S (fun u env1 e1 v F1 H1 own1 p O1 => ?_) (fun c env1 e1 C F1 H1 own1 => ?_) (fun e1 => ?_)
  · rw [e1, R.bind_ok] at h
    exact h _ _ _ _ _ _ Only.refl O1
  · rw [e1] at h
    exact h C σ F1 H1 own1 Only.refl
  · rw [e1] at h
    exact h
theorem s_if {a b : List Stmt} (hc : TtS X Wx c t) (ha : SsS X Wx a is f) (hb : SsS X Wx b js g) : StS X Wx (.If c a b pos) (is ++ js) (sIf t f g) := PS.imp (ps_if hc ha hb) fun E σ H h => by
  obtain ⟨F, env, own, S, h⟩ := h
  unfold sIf at h
  refine ttOf_use S (fun c env1 e1 F1 H1 own1 O1 => ?_) (fun c env1 e1 C F1 H1 own1 => ?_) (fun e1 => ?_)
  · rw [e1, R.bind_ok] at h
    cases c with
    | true => exact sOf_after O1 (fun σ2 y => y.left js) h
    | false => exact sOf_after O1 (fun σ2 y => y.right is) h
  · rw [e1] at h
    exact h C σ F1 H1 own1 Only.refl
  · rw [e1] at h
    exact h
end

/-! ### while -/
def whileN (t : M Bool) (b : M Fl) : Nat → M Fl
  | 0, _ => .stuck
  | n + 1, env => (t env).bind fun c e1 => if c then (b e1).bind fun fl e2 => (match fl with
      | .next => whileN t b n e2
      | .cont => whileN t b n e2
      | .brk => .ok .next e2
      | .ret u => .ok (.ret u) e2) else .ok .next e1
theorem R.bind_ns {α β : Type} {r : R α} {k k' : α → DEnv → R β} (h : r.bind k ≠ .stuck) (e : ∀ a env, k a env ≠ .stuck → k' a env = k a env) : r.bind k' = r.bind k := by
  cases r with
  | ok a env => exact e a env h
  | raise _ _ => rfl
  | stuck => rfl
theorem whileN_mono (t : M Bool) (b : M Fl) : ∀ (n : Nat) (env : DEnv), whileN t b n env ≠ .stuck → whileN t b (n + 1) env = whileN t b n env
  | 0, env, h => absurd rfl h
  | n + 1, env, h => by
    rw [whileN] at h
    rw [whileN, whileN]
    refine R.bind_ns h fun c e1 h1 => ?_
    cases c with
    | false => rfl
    | true =>
      rw [if_pos rfl] at h1
      rw [if_pos rfl, if_pos rfl]
      refine R.bind_ns h1 fun fl e2 h2 => ?_
      cases fl with
      | next => exact whileN_mono t b n e2 h2
      | cont => exact whileN_mono t b n e2 h2
      | brk => rfl
      | ret _ => rfl
theorem whileN_le (t : M Bool) (b : M Fl) {n m : Nat} {env : DEnv} (h : whileN t b n env ≠ .stuck) (l : n ≤ m) : whileN t b m env = whileN t b n env := by
  induction m with
  | zero => rw [Nat.le_zero.mp l]
  | succ m ih =>
    rcases Nat.lt_or_ge n (m + 1) with q | q
    · have e := ih (Nat.le_of_lt_succ q)
      rw [whileN_mono t b m env (by rw [e]; exact h), e]
    · rw [Nat.le_antisymm l q]
open Classical in
noncomputable def sWhile (t : M Bool) (b : M Fl) : M Fl := fun env => if h : ∃ n, whileN t b n env ≠ .stuck then whileN t b (choose h) env else .stuck
theorem sWhile_eq {t : M Bool} {b : M Fl} {n : Nat} {env : DEnv} {r : R Fl} (h : whileN t b n env = r) (hr : r ≠ .stuck) : sWhile t b env = r := by
  have ex : ∃ n, whileN t b n env ≠ .stuck := ⟨n, by rw [h]; exact hr⟩
  unfold sWhile
  rw [dif_pos ex]
  have hc := Classical.choose_spec ex
  rcases Nat.le_total (Classical.choose ex) n with l | l
  · rw [← whileN_le t b hc l, h]
  · rw [whileN_le t b (by rw [h]; exact hr) l, h]
theorem sWhile_step {t : M Bool} {b : M Fl} {env : DEnv} : sWhile t b env = (t env).bind fun c e1 => if c then (b e1).bind fun fl e2 => (match fl with
      | .next => sWhile t b e2
      | .cont => sWhile t b e2
      | .brk => .ok .next e2
      | .ret u => .ok (.ret u) e2) else .ok .next e1 := by
  by_cases ex : ∃ n, whileN t b n env ≠ .stuck
  · obtain ⟨n, hn⟩ := ex
    rw [sWhile_eq rfl hn]
    cases n with
    | zero => exact absurd rfl hn
    | succ n =>
      rw [whileN] at hn ⊢
      symm
      refine R.bind_ns hn fun c e1 h1 => ?_
      cases c with
      | false => rfl
      | true =>
        rw [if_pos rfl] at h1
        rw [if_pos rfl, if_pos rfl]
        refine R.bind_ns h1 fun fl e2 h2 => ?_
        cases fl with
        | next => exact sWhile_eq rfl h2
        | cont => exact sWhile_eq rfl h2
        | brk => rfl
        | ret _ => rfl
  · have e : sWhile t b env = .stuck := by
      unfold sWhile
      rw [dif_neg ex]
    rw [e]
    cases e1 : t env with
    | stuck => rfl
    | raise c env1 => exact absurd ⟨1, by rw [whileN, e1]; exact fun z => nomatch z⟩ ex
    | ok c env1 =>
      rw [R.bind_ok]
      cases c with
      | false => exact absurd ⟨1, by rw [whileN, e1]; exact fun z => nomatch z⟩ ex
      | true =>
        rw [if_pos rfl]
        cases e2 : b env1 with
        | stuck => rfl
        | raise c env2 => exact absurd ⟨1, by rw [whileN, e1, R.bind_ok, if_pos rfl, e2]; exact fun z => nomatch z⟩ ex
        | ok fl env2 =>
          rw [R.bind_ok]
          have key : ∀ fl', (fl' = Fl.next ∨ fl' = Fl.cont) → b env1 = .ok fl' env2 → sWhile t b env2 = .stuck := fun fl' hf hb => by
            unfold sWhile
            rw [dif_neg]
            rintro ⟨n, hn⟩
            refine ex ⟨n + 1, ?_⟩
            rw [whileN, e1, R.bind_ok, if_pos rfl, hb, R.bind_ok]
            rcases hf with rfl | rfl <;> exact hn
          cases fl with
          | next => exact (key .next (.inl rfl) e2).symm
          | cont => exact (key .cont (.inr rfl) e2).symm
          | brk => exact absurd ⟨1, by rw [whileN, e1, R.bind_ok, if_pos rfl, e2]; exact fun z => nomatch z⟩ ex
          | ret u => exact absurd ⟨1, by rw [whileN, e1, R.bind_ok, if_pos rfl, e2]; exact fun z => nomatch z⟩ ex
section
variable {X : Cx} {Wx : WX} {c : Expr} {body : List Stmt} {is : List Nat} {t : M Bool} {b : M Fl} {pos : Pos}
theorem s_while (hp : PassesOwn (model X.prog X.w) X.A X.env X.xe) (hc : TtS X Wx c t) (hb : SsS X Wx body is b) : StS X Wx (.While c body [] pos) is (sWhile t b) := PS.imp (ps_while hp hc hb) fun E σ H h => by
  obtain ⟨F, env, own, S, h⟩ := h
  have h : Po X.K X.mg Wx is E σ F H own (sWhile t b env) := h
  have ns : sWhile t b env ≠ .stuck := fun z => by rw [z] at h; exact h
  obtain ⟨n0, hn0⟩ : ∃ n, whileN t b n env = sWhile t b env := by
    by_cases ex : ∃ n, whileN t b n env ≠ .stuck
    · obtain ⟨n, hn⟩ := ex
      exact ⟨n, (sWhile_eq rfl hn).symm⟩
    · exact absurd (by unfold sWhile; rw [dif_neg ex]) ns
  generalize sWhile t b env = r at h ns hn0
  refine ⟨fun m σ1 H1 => Only is σ σ1 ∧ ∃ F1 env1 own1, OutR X.K F H own σ1 env1 F1 H1 own1 ∧ whileN t b m env1 = r, ⟨n0, Only.refl, F, env, own, OutR.refl S, hn0⟩, ?_⟩
  rintro m σ1 H1 ⟨y1, F1, env1, own1, O1, hm⟩
  cases m with
  | zero => exact absurd hm.symm ns
  | succ m =>
    rw [whileN] at hm
    refine ttOf_use O1.S (fun c env2 e2 F2 H2 own2 O2 => ?_) (fun c env2 e2 C F2 H2 own2 hmg O2 => ?_) (fun e2 => ?_)
    · rw [e2, R.bind_ok] at hm
      cases c with
      | false =>
        rw [if_neg Bool.false_ne_true] at hm ⊢
        rw [← hm] at h
        exact h _ _ _ _ y1 (O1.trans O2)
      | true =>
        rw [if_pos rfl] at hm ⊢
        refine ⟨fun σ' H' => Only is σ σ' ∧ ∃ F' env' own', OutR X.K F H own σ' env' F' H' own' ∧ whileN t b m env' = r, fun σ' H' q => ⟨m, Nat.lt_succ_self _, q⟩, ?_⟩
        refine ⟨F2, env2, own2, O2.S, ?_⟩
        have O12 := O1.trans O2
        cases e3 : b env2 with
        | stuck => rw [e3] at hm; exact absurd hm.symm ns
        | raise c env3 =>
          rw [e3, R.bind_raise] at hm
          rw [← hm] at h
          exact fun C σ' F' H' own' y3 hmg O3 => h C σ' F' H' own' (y1.join y3) hmg (O12.trans O3)
        | ok fl env3 =>
          rw [e3, R.bind_ok] at hm
          cases fl with
          | next => exact fun σ' F' H' own' y3 O3 => ⟨y1.join y3, F', env3, own', O12.trans O3, hm⟩
          | cont => exact fun σ' F' H' own' y3 O3 => ⟨y1.join y3, F', env3, own', O12.trans O3, hm⟩
          | brk =>
            have hm : R.ok Fl.next env3 = r := hm
            rw [← hm] at h
            exact fun σ' F' H' own' y3 O3 => h _ _ _ _ (y1.join y3) (O12.trans O3)
          | ret u =>
            have hm : R.ok (Fl.ret u) env3 = r := hm
            rw [← hm] at h
            exact fun v σ' F' H' own' p y3 O3 => h _ _ _ _ _ _ (y1.join y3) (O12.out O3)
    · rw [e2, R.bind_raise] at hm
      rw [← hm] at h
      exact h C σ1 F2 H2 own2 y1 hmg (O1.trans O2)
    · rw [e2] at hm
      exact ns hm.symm
end

/-! ### for -/
def forD (m : MT) (b : M Fl) : List D → M Fl
  | [], env => .ok .next env
  | d :: ds, env => match m d env with
    | some e1 => (b e1).bind fun fl e2 => (match fl with
      | .next => forD m b ds e2
      | .cont => forD m b ds e2
      | .brk => .ok .next e2
      | .ret u => .ok (.ret u) e2)
    | none => .stuck
def sFor (it : M (List D)) (m : MT) (b : M Fl) : M Fl := fun env => (it env).bind fun ds e => forD m b ds e
section
variable {X : Cx} {Wx : WX} {tg iter : Expr} {is js : List Nat} {body : List Stmt} {it : M (List D)} {m : MT} {b : M Fl} {pos : Pos}
theorem s_for (hp : PassesOwn (model X.prog X.w) X.A X.env X.xe) (hc : X.calm = true) (hi : ItS X Wx tg iter it) (hg : TgS X tg is m) (hb : SsS X Wx body js b)
    (hs : ∀ x, foldedSetIterable iter X.env x = pure x := by intro _; rfl) : StS X Wx (.For tg iter body [] pos) (is ++ js) (sFor it m b) := PS.imp (ps_for hp hc hi hg hb hs) fun E σ H h => by
  obtain ⟨F, env, own, S, h⟩ := h
  have h : Po X.K X.mg Wx (is ++ js) E σ F H own (sFor it m b env) := h
  refine ⟨F, env, own, S, ?_⟩
  unfold sFor at h
  cases e : it env with
  | stuck => rw [e] at h; exact h
  | raise c env1 => rw [e] at h; exact fun C F' H' own' => h C σ F' H' own' Only.refl
  | ok ds env1 =>
    rw [e, R.bind_ok] at h
    intro J F1 H1 own1 O1 fd
    have ns : forD m b ds env1 ≠ .stuck := fun z => by rw [z] at h; exact h
    generalize hr : forD m b ds env1 = r at h ns
    refine ⟨fun i k σ2 H2 => k = ds.length - i ∧ i ≤ ds.length ∧ Only (is ++ js) σ σ2 ∧ ∃ F2 env2 own2, OutR X.K F H own σ2 env2 F2 H2 own2 ∧ Same F1 F2 ∧ forD m b (ds.drop i) env2 = r, ⟨ds.length, by simp, Nat.zero_le _, Only.refl, F1, env1, own1, O1, Same.refl _, hr⟩, ?_⟩
    rintro i k σ2 H2 ⟨rfl, hi, y2, F2, env2, own2, O2, s12, hq⟩
    by_cases hlt : i < ds.length
    · refine .inr ⟨fd.go F2 H2 i s12 O2.S.ex hlt, fun σ' H' => Only (is ++ js) σ σ' ∧ ∃ F' env' own', OutR X.K F H own σ' env' F' H' own' ∧ Same F1 F' ∧ forD m b (ds.drop (i + 1)) env' = r, fun σ' H' ⟨y', F', env', own', O', s', q⟩ => ⟨ds.length - (i + 1), by omega, rfl, hlt, y', F', env', own', O', s', q⟩, fun x H' y => ?_⟩
      have hd : ds[i]? = some ds[i] := List.getElem?_eq_getElem hlt
      obtain ⟨F3, gr, r3⟩ := fd.yld F2 H2 i x H' ds[i] s12 O2.S.ex hd y
      have hdr : ds.drop i = ds[i] :: ds.drop (i + 1) := List.drop_eq_getElem_cons hlt
      rw [hdr, forD] at hq
      have O3 : OutR X.K F H own σ2 env2 F3 H' own2 := ⟨gr.sit O2.S, O2.s.trans ((gr.step own2).sub fun _ z => .inl z)⟩
      refine ⟨F3, env2, own2, ds[i], O3.S, r3, ?_⟩
      cases e3 : m ds[i] env2 with
      | none => rw [e3] at hq; exact ns hq.symm
      | some env3 =>
        rw [e3] at hq
        dsimp only at hq
        intro σ4 F4 H4 own4 y4 O4
        have y24 : Only (is ++ js) σ σ4 := y2.join (y4.left js)
        have O34 := O3.trans O4
        refine ⟨F4, env3, own4, O4.S, ?_⟩
        cases e5 : b env3 with
        | stuck => rw [e5] at hq; exact absurd hq.symm ns
        | raise c env5 =>
          rw [e5, R.bind_raise] at hq
          rw [← hq] at h
          exact fun C σ' F' H' own' y5 hmg O5 => h C σ' F' H' own' (y24.join (y5.right is)) hmg (O34.trans O5)
        | ok fl env5 =>
          rw [e5, R.bind_ok] at hq
          have s14 : Same F1 F4 := (s12.trans gr.exF).trans O4.s.ex
          cases fl with
          | next => exact fun σ' F' H' own' y5 O5 => ⟨y24.join (y5.right is), F', env5, own', O34.trans O5, s14.trans O5.s.ex, hq⟩
          | cont => exact fun σ' F' H' own' y5 O5 => ⟨y24.join (y5.right is), F', env5, own', O34.trans O5, s14.trans O5.s.ex, hq⟩
          | brk =>
            have hq : R.ok Fl.next env5 = r := hq
            rw [← hq] at h
            exact fun σ' F' H' own' y5 O5 => h _ _ _ _ (y24.join (y5.right is)) (O34.trans O5)
          | ret u =>
            have hq : R.ok (Fl.ret u) env5 = r := hq
            rw [← hq] at h
            exact fun v σ' F' H' own' p y5 O5 => h _ _ _ _ _ _ (y24.join (y5.right is)) (O34.out O5)
    · have ei : i = ds.length := by omega
      subst ei
      refine .inl ⟨fd.stop F2 H2 s12 O2.S.ex, ?_⟩
      rw [List.drop_length] at hq
      have hq : R.ok Fl.next env2 = r := hq
      rw [← hq] at h
      exact h _ _ _ _ y2 O2
end
end DL

namespace DL
open PySem PySem.Spec PyProof.Rows L2

/-! ### comprehensions -/
def wipeA {α : Type} (l : List (Option α)) : List Nat → List (Option α)
  | [] => l
  | v :: vs => (wipeA l vs).set v none
theorem wipe_eq (σ : L2.St) : ∀ vs : List Nat, wipe σ vs = wipeA σ vs
  | [] => rfl
  | v :: vs => by rw [wipe, wipeA, wipe_eq σ vs]
theorem wipeA_len {α : Type} (l : List (Option α)) : ∀ vs : List Nat, (wipeA l vs).length = l.length
  | [] => rfl
  | v :: vs => by rw [wipeA, List.length_set, wipeA_len l vs]
theorem wipeA_out {α : Type} {l : List (Option α)} {i : Nat} : ∀ {vs : List Nat}, i ∉ vs → (wipeA l vs)[i]? = l[i]?
  | [], _ => rfl
  | v :: vs, h => by
    rw [wipeA, List.getElem?_set_ne (fun z => h (by simp [z])), wipeA_out fun z => h (List.mem_cons_of_mem _ z)]
theorem wipeA_in {α : Type} {l : List (Option α)} {i : Nat} : ∀ {vs : List Nat}, i ∈ vs → ∀ x, (wipeA l vs)[i]? ≠ some (some x)
  | [], h, _ => by cases h
  | v :: vs, h, x => by
    rw [wipeA]
    by_cases e : v = i
    · subst e
      by_cases hl : v < (wipeA l vs).length
      · rw [List.getElem?_set_self hl]; exact fun z => nomatch z
      · rw [List.getElem?_eq_none (by simpa using hl)]; exact fun z => nomatch z
    · rw [List.getElem?_set_ne e]
      rcases List.mem_cons.mp h with z | z
      · exact absurd z.symm e
      · exact wipeA_in z x
theorem wipeA_some {α : Type} {l : List (Option α)} {i : Nat} {x : α} {vs : List Nat} (h : (wipeA l vs)[i]? = some (some x)) : l[i]? = some (some x) ∧ i ∉ vs := by
  by_cases hi : i ∈ vs
  · exact absurd h (wipeA_in hi x)
  · rw [wipeA_out hi] at h; exact ⟨h, hi⟩
theorem ext_get {α : Type} {l m : List α} (h : ∀ i : Nat, l[i]? = m[i]?) : l = m := List.ext_getElem? h
theorem wipe_only {σ σ' : L2.St} {is vs : List Nat} (o : Only is σ σ') (hs : ∀ i ∈ is, i ∈ vs) : wipe σ' vs = wipe σ vs := by
  rw [wipe_eq, wipe_eq]
  refine ext_get fun i => ?_
  by_cases hi : i ∈ vs
  · have key : ∀ l : L2.St, l.length = σ.length → (wipeA l vs)[i]? = if i < σ.length then some none else none := fun l hl => by
      by_cases c : i < σ.length
      · rw [if_pos c]
        have hc : i < (wipeA l vs).length := by rw [wipeA_len, hl]; exact c
        rw [List.getElem?_eq_getElem hc]
        cases e : (wipeA l vs)[i] with
        | none => rfl
        | some x => exact absurd (by rw [List.getElem?_eq_getElem hc, e]) (wipeA_in (l := l) hi x)
      · rw [if_neg c]
        exact List.getElem?_eq_none (by rw [wipeA_len, hl]; omega)
    rw [key σ' o.1, key σ rfl]
  · rw [wipeA_out hi, wipeA_out hi]
    exact o.2 i fun z => hi (hs i z)
theorem wipe_wipe {σ : L2.St} {vs : List Nat} : wipe (wipe σ vs) vs = wipe σ vs :=
  wipe_only (is := vs) ⟨wipe_length σ vs, fun j h => by rw [wipe_eq, wipeA_out h]⟩ fun _ h => h
/-- the names of a comprehension hold data, if anything, ahead of it -/
def dataAt (env : DEnv) (vs : List Nat) : Bool := vs.all fun v => match env[v]? with
  | some (some (.l _ _)) => false
  | some (some (.m _ _)) => false
  | _ => true
def unwipe (e1 : DEnv) : List Nat → DEnv → DEnv
  | [], e2 => e2
  | v :: vs, e2 => (unwipe e1 vs e2).set v ((e1[v]?).getD none)
theorem unwipe_len (e1 e2 : DEnv) : ∀ vs : List Nat, (unwipe e1 vs e2).length = e2.length
  | [] => rfl
  | v :: vs => by rw [unwipe, List.length_set, unwipe_len e1 e2 vs]
theorem unwipe_out {e1 e2 : DEnv} {i : Nat} : ∀ {vs : List Nat}, i ∉ vs → (unwipe e1 vs e2)[i]? = e2[i]?
  | [], _ => rfl
  | v :: vs, h => by
    rw [unwipe, List.getElem?_set_ne (fun z => h (by simp [z])), unwipe_out fun z => h (List.mem_cons_of_mem _ z)]
theorem unwipe_in {e1 e2 : DEnv} {i : Nat} {w : W} : ∀ {vs : List Nat}, i ∈ vs → (unwipe e1 vs e2)[i]? = some (some w) → e1[i]? = some (some w)
  | [], h, _ => by cases h
  | v :: vs, h, q => by
    rw [unwipe] at q
    by_cases e : v = i
    · subst e
      by_cases hl : v < (unwipe e1 vs e2).length
      · rw [List.getElem?_set_self hl] at q
        cases z : e1[v]? with
        | none => rw [z] at q; cases q
        | some x => rw [z] at q; simpa using q
      · rw [List.getElem?_eq_none (by simpa using hl)] at q; cases q
    · rw [List.getElem?_set_ne e] at q
      rcases List.mem_cons.mp h with z | z
      · exact absurd z.symm e
      · exact unwipe_in z q
def compD (vs : List Nat) (m : MT) (t : M Bool) (f : M U) : List D → M (List D)
  | [], env => .ok [] env
  | d :: ds, env => match m d env with
    | none => .stuck
    | some e1 => (t e1).bind fun b e2 => if b then (f e2).bind fun u e3 => (match frz1 e3 u with
        | some (y, e4) => (compD vs m t f ds (wipeA e4 vs)).bind fun ys e5 => .ok (y :: ys) e5
        | none => .stuck) else compD vs m t f ds (wipeA e2 vs)
def eComp (it : M (List D)) (vs : List Nat) (m : MT) (t : M Bool) (f : M U) : M U := fun env => (it env).bind fun ds e1 => if dataAt e1 vs then (match compD vs m t f ds (wipeA e1 vs) with
  | .ok ys e2 => if ds.length ≤ 1000000 then .ok (.w (.l false ys)) (unwipe e1 vs e2) else .stuck
  | _ => .stuck) else .stuck
abbrev Wx0 : WX := fun _ _ _ _ => False
def tYesD : M Bool := fun env => .ok true env
section
variable {K : PySem.W.Frag} {F H : Hp} {σ : L2.St} {env : DEnv} {own : Nat → Fp} {vs : List Nat}
theorem dataAt_no (S : Sit K F σ H env own) (h : dataAt env vs = true) {i : Nat} (hi : i ∈ vs) (a : Addr) : ¬ own i a := fun z => by
  obtain ⟨w, e⟩ := S.emp i a z
  unfold dataAt at h
  rw [List.all_eq_true] at h
  have := h i hi
  rw [e] at this
  obtain ⟨v, _, r⟩ := S.rep i w e
  cases w with
  | v d => exact r.1 a z
  | l _ _ => cases this
  | m _ _ => cases this
theorem Sit.wipe (S : Sit K F σ H env own) (h : ∀ i ∈ vs, ∀ a, ¬ own i a) : Sit K F (L2.wipe σ vs) H (wipeA env vs) own where
  ex := S.ex
  len := by rw [wipe_eq, wipeA_len, wipeA_len]; exact S.len
  rep := fun i w e => by
    obtain ⟨e1, hi⟩ := wipeA_some e
    obtain ⟨v, hv, r⟩ := S.rep i w e1
    exact ⟨v, by rw [wipe_eq, wipeA_out hi]; exact hv, r⟩
  emp := fun i a z => by
    have hi : i ∉ vs := fun q => h i q a z
    obtain ⟨w, e⟩ := S.emp i a z
    exact ⟨w, by rw [wipeA_out hi]; exact e⟩
  dis := S.dis
/-- what one turn leaves is wiped: whatever it owned there is let go -/
def ownW (vs : List Nat) (own : Nat → Fp) : Nat → Fp := fun i a => i ∉ vs ∧ own i a
theorem ownW_sub {a : Addr} (h : all (ownW vs own) a) : all own a := by
  obtain ⟨i, _, z⟩ := h
  exact ⟨i, z⟩
theorem Sit.wipe2 (S : Sit K F σ H env own) : Sit K F (L2.wipe σ vs) H (wipeA env vs) (ownW vs own) where
  ex := S.ex
  len := by rw [wipe_eq, wipeA_len, wipeA_len]; exact S.len
  rep := fun i w e => by
    obtain ⟨e1, hi⟩ := wipeA_some e
    obtain ⟨v, hv, r⟩ := S.rep i w e1
    refine ⟨v, by rw [wipe_eq, wipeA_out hi]; exact hv, ?_⟩
    have e3 : ownW vs own i = own i := funext fun a => propext ⟨fun z => z.2, fun z => ⟨hi, z⟩⟩
    rw [e3]
    exact r
  emp := fun i a z => by
    obtain ⟨w, e⟩ := S.emp i a z.2
    exact ⟨w, by rw [wipeA_out z.1]; exact e⟩
  dis := fun i j a z1 z2 => S.dis i j a z1.2 z2.2
theorem unwipe_sit {F1 F2 H1 H2 : Hp} {env1 env2 : DEnv} {own1 own2 : Nat → Fp} (S1 : Sit K F1 σ H1 env1 own1) (h1 : dataAt env1 vs = true) (e12 : Same F1 F2) (S2 : Sit K F2 (L2.wipe σ vs) H2 env2 own2) :
    Sit K F2 σ H2 (unwipe env1 vs env2) (ownW vs own2) where
  ex := S2.ex
  len := by rw [unwipe_len, S2.len, wipe_eq, wipeA_len]
  rep := fun i w e => by
    by_cases hi : i ∈ vs
    · have e1 := unwipe_in hi e
      obtain ⟨v, hv, r⟩ := S1.rep i w e1
      refine ⟨v, hv, ?_⟩
      cases w with
      | v d => exact ⟨fun a z => z.1 hi, r.2.mono e12⟩
      | l _ _ =>
        unfold dataAt at h1
        rw [List.all_eq_true] at h1
        have := h1 i hi
        rw [e1] at this
        cases this
      | m _ _ =>
        unfold dataAt at h1
        rw [List.all_eq_true] at h1
        have := h1 i hi
        rw [e1] at this
        cases this
    · rw [unwipe_out hi] at e
      obtain ⟨v, hv, r⟩ := S2.rep i w e
      refine ⟨v, ?_, ?_⟩
      · rw [wipe_eq, wipeA_out hi] at hv; exact hv
      · have e3 : ownW vs own2 i = own2 i := funext fun a => propext ⟨fun z => z.2, fun z => ⟨hi, z⟩⟩
        rw [e3]
        exact r
  emp := fun i a z => by
    obtain ⟨w, e⟩ := S2.emp i a z.2
    exact ⟨w, by rw [unwipe_out z.1]; exact e⟩
  dis := fun i j a z1 z2 => S2.dis i j a z1.2 z2.2
end
/-- where a turn of a comprehension stands: the list at P holds ys so far -/
structure Mid (K : PySem.W.Frag) (F0 H0 : Hp) (own0 : Nat → Fp) (P : Addr) (σ' : L2.St) (env' : DEnv) (F' H' : Hp) (own' : Nat → Fp) (ys : List D) : Prop where
  S : Sit K F' σ' H' env' own'
  at' : ∃ vs, H' P = some (.lst vs) ∧ RepDs K F' vs ys
  fr : F' P = none
  no : ¬ all own' P
  s : Step F0 H0 (all own0) F' H' (fun a => all own' a ∨ a = P)
section
variable {K : PySem.W.Frag} {F0 H0 F1 H1 F2 H2 : Hp} {own0 own1 own2 : Nat → Fp} {P : Addr} {σ1 σ2 : L2.St} {env1 env2 : DEnv} {ys : List D}
theorem Mid.step (M : Mid K F0 H0 own0 P σ1 env1 F1 H1 own1 ys) (O : OutR K F1 H1 own1 σ2 env2 F2 H2 own2) : Mid K F0 H0 own0 P σ2 env2 F2 H2 own2 ys := by
  obtain ⟨vs, hP, r⟩ := M.at'
  refine ⟨O.S, ⟨vs, O.s.keep P _ hP M.no, r.mono O.s.ex⟩, ?_, fun z => ?_, ?_⟩
  · cases e : F2 P with
    | none => rfl
    | some o =>
      rcases O.s.frz P o e M.fr with z | z
      · exact absurd z M.no
      · rw [hP] at z; cases z
  · rcases O.s.new P z with y | y
    · exact M.no y
    · rw [hP] at y; cases y
  · exact M.s.trans (O.s.more fun a => a = P)
/-- one more item -/
theorem Mid.push {v : V} {d : D} (M : Mid K F0 H0 own0 P σ1 env1 F1 H1 own1 ys) (r : RepD K F1 v d) (vs : List V) (hP : H1 P = some (.lst vs)) : Mid K F0 H0 own0 P σ1 env1 F1 (upd H1 P (.lst (vs ++ [v]))) own1 (ys ++ [d]) := by
  obtain ⟨vs', hP', rr⟩ := M.at'
  rw [hP] at hP'
  cases hP'
  have keep : ∀ a o, a ≠ P → H1 a = some o → upd H1 P (.lst (vs ++ [v])) a = some o := fun a o ne h => by rw [upd_ne ne]; exact h
  refine ⟨⟨fun a o h => ?_, M.S.len, fun i w e => ?_, M.S.emp, M.S.dis⟩, ⟨_, upd_same, rr.append (.cons r .nil)⟩, M.fr, M.no, M.s.ex, fun a o h n => ?_, M.s.new, M.s.frz⟩
  · have ne : a ≠ P := fun z => by rw [z, M.fr] at h; cases h
    exact keep a o ne (M.S.ex a o h)
  · obtain ⟨u, hu, ru⟩ := M.S.rep i w e
    refine ⟨u, hu, ru.frame (Same.refl _) (fun a o q h => keep a o (fun z => M.no (z ▸ ⟨i, q⟩)) h) fun a q => (ru.there q).2⟩
  · have h1 := M.s.keep a o h n
    have ne : a ≠ P := fun z => by
      rcases M.s.new P (.inr rfl) with y | y
      · exact n (z ▸ y)
      · rw [z] at h; rw [y] at h; cases h
    exact keep a o ne h1
end
theorem comp_sem {K : PySem.W.Frag} {mg : Str → Option Value} {Wx : WX} {it : M (List D)} {is vs : List Nat} {m : MT} {t : M Bool} {f : M U} {σ : L2.St} {H : Hp} {Q : VK} (hsub : ∀ i ∈ is, i ∈ vs) (h : tOf K mg Wx (eComp it vs m t f) σ H Q) :
    tLc (iOf K mg Wx it) (gOf K is m) (ttOf K mg Wx0 t) (tOf K mg Wx0 f) vs σ H Q := by
  obtain ⟨F, env, own, S, h⟩ := h
  unfold eComp at h
  refine ⟨F, env, own, S, ?_⟩
  cases e : it env with
  | stuck => rw [e] at h; exact h
  | raise c env1 => rw [e] at h; exact h
  | ok ds env1 =>
    rw [e, R.bind_ok] at h
    intro J F1 H1 own1 O1 fd P hP
    by_cases hda : dataAt env1 vs = true
    · rw [if_pos hda] at h
      cases ec : compD vs m t f ds (wipeA env1 vs) with
      | stuck => rw [ec] at h; exact h.elim
      | raise _ _ => rw [ec] at h; exact h.elim
      | ok yall efin =>
        rw [ec] at h
        dsimp only at h
        by_cases hlen : ds.length ≤ 1000000
        · rw [if_pos hlen] at h
          -- the start
          have S1w := O1.S.wipe (vs := vs) fun i hi a => dataAt_no O1.S hda hi a
          have g0 : Grow F1 H1 F1 (upd H1 P (.lst [])) (fun a => a = P) := Grow.ofOwn O1.S.ex hP
          have M0 : Mid K F1 H1 own1 P (wipe σ vs) (wipeA env1 vs) F1 (upd H1 P (.lst [])) own1 [] := by
            refine ⟨g0.sit S1w, ⟨[], upd_same, .nil⟩, sub_none O1.S.ex hP, fun z => ?_, g0.step own1⟩
            obtain ⟨⟨o, e2⟩, _⟩ := O1.S.there z
            rw [hP] at e2
            cases e2
          refine ⟨fun i k H' => k = ds.length - i ∧ i ≤ ds.length ∧ ∃ F' env' own' ys, ys.length ≤ i ∧ Same F1 F' ∧ Mid K F1 H1 own1 P (wipe σ vs) env' F' H' own' ys ∧ ∃ rest, compD vs m t f (ds.drop i) env' = .ok rest efin ∧ ys ++ rest = yall,
            ⟨ds.length, by simp, Nat.zero_le _, F1, wipeA env1 vs, own1, [], Nat.zero_le _, Same.refl _, M0, yall, ec, rfl⟩, ?_⟩
          rintro i k H' ⟨rfl, hi, F', env', own', ys, hyl, s1, M, rest, hr, hy⟩
          by_cases hlt : i < ds.length
          · refine .inr ⟨fd.go F' H' i s1 M.S.ex hlt, fun H'' => i + 1 ≤ ds.length ∧ ∃ F' env' own' ys, ys.length ≤ i + 1 ∧ Same F1 F' ∧ Mid K F1 H1 own1 P (wipe σ vs) env' F' H'' own' ys ∧ ∃ rest, compD vs m t f (ds.drop (i + 1)) env' = .ok rest efin ∧ ys ++ rest = yall,
              fun H'' q => ⟨ds.length - (i + 1), by omega, rfl, q.1, q.2⟩, fun x H'' y => ?_⟩
            have hd : ds[i]? = some ds[i] := List.getElem?_eq_getElem hlt
            obtain ⟨F3, gr, r3⟩ := fd.yld F' H' i x H'' ds[i] s1 M.S.ex hd y
            have hdr : ds.drop i = ds[i] :: ds.drop (i + 1) := List.drop_eq_getElem_cons hlt
            rw [hdr, compD] at hr
            have M3 : Mid K F1 H1 own1 P (wipe σ vs) env' F3 H'' own' ys := M.step ⟨gr.sit M.S, (gr.step own').sub fun _ z => .inl z⟩
            refine ⟨F3, env', own', ds[i], M3.S, r3, ?_⟩
            cases e3 : m ds[i] env' with
            | none => rw [e3] at hr; cases hr
            | some ea =>
              rw [e3] at hr
              dsimp only at hr
              intro σ4 F4 H4 own4 o4 O4
              have w4 : wipe σ4 vs = wipe σ vs := (wipe_only o4 hsub).trans wipe_wipe
              refine ⟨w4, ?_⟩
              have M4 := M3.step O4
              have s4 : Same F1 F4 := (s1.trans gr.exF).trans O4.s.ex
              refine ttOf_use O4.S (fun b eb ebt F5 H5 own5 O5 => ?_) (fun c eb ebt => ?_) (fun ebt => ?_)
              · rw [ebt, R.bind_ok] at hr
                have M5 := M4.step O5
                have s5 := s4.trans O5.s.ex
                cases b with
                | false =>
                  rw [if_neg Bool.false_ne_true] at hr ⊢
                  have O6 : OutR K F5 H5 own5 (wipe σ vs) (wipeA eb vs) F5 H5 (ownW vs own5) := by
                    rw [← w4]
                    exact ⟨O5.S.wipe2, Step.refl.sub fun a z => ownW_sub z⟩
                  exact ⟨hlt, F5, _, _, ys, by omega, s5, M5.step O6, rest, hr, hy⟩
                | true =>
                  rw [if_pos rfl] at hr ⊢
                  refine tOf_use O5.S (fun u ec' eu v F6 H6 own6 p O6 => ?_) (fun c ec' eu => ?_) (fun eu => ?_)
                  · rw [eu, R.bind_ok] at hr
                    cases ef : frz1 ec' u with
                    | none => rw [ef] at hr; cases hr
                    | some pr =>
                      obtain ⟨yd, ed⟩ := pr
                      rw [ef] at hr
                      dsimp only at hr
                      obtain ⟨F7, own7, r7, O7⟩ := O6.frz ef
                      have M7 := M5.step O7
                      have s7 := s5.trans O7.s.ex
                      cases eg : compD vs m t f (ds.drop (i + 1)) (wipeA ed vs) with
                      | stuck => rw [eg] at hr; cases hr
                      | raise _ _ => rw [eg] at hr; cases hr
                      | ok rest2 ee =>
                        rw [eg, R.bind_ok] at hr
                        cases hr
                        obtain ⟨avs, hP7, rr7⟩ := M7.at'
                        have hal := rr7.length
                        refine ⟨avs, hP7, by rw [hal]; exact szl (by omega), hlt, F7, wipeA ed vs, ownW vs own7, ys ++ [yd], by rw [List.length_append]; simp; omega, s7, ?_, rest2, eg, by rw [List.append_assoc]; exact hy⟩
                        have M8 := M7.push r7 avs hP7
                        have O8 : OutR K F7 (upd H6 P (.lst (avs ++ [v]))) own7 (wipe σ vs) (wipeA ed vs) F7 (upd H6 P (.lst (avs ++ [v]))) (ownW vs own7) := by
                          rw [← w4]
                          exact ⟨M8.S.wipe2, Step.refl.sub fun a z => ownW_sub z⟩
                        exact M8.step O8
                  · rw [eu] at hr; cases hr
                  · rw [eu] at hr; cases hr
              · rw [ebt] at hr; cases hr
              · rw [ebt] at hr; cases hr
          · have ei : i = ds.length := by omega
            subst ei
            refine .inl ⟨fd.stop F' H' s1 M.S.ex, ?_⟩
            rw [List.drop_length, compD] at hr
            cases hr
            rw [List.append_nil] at hy
            subst hy
            obtain ⟨avs, hPE, rr⟩ := M.at'
            have SF := unwipe_sit O1.S hda s1 M.S
            refine h (.ref P) F' H' (ownW vs own') (fun a => a = P) ⟨SF, ⟨P, avs, rfl, fun _ => Iff.rfl, hPE, M.fr, rr⟩, fun a z y => ?_, ?_⟩
            · have z' : a = P := z
              subst z'
              exact M.no (ownW_sub y)
            · exact (O1.s.trans M.s).sub fun a z => z.imp_left ownW_sub
        · rw [if_neg hlen] at h; exact h.elim
    · rw [if_neg hda] at h; exact h.elim
section
variable {X : Cx} {Wx : WX} {elt tg iter c : Expr} {scope : Scope} {own : List (Str × Nat)} {pos : Pos} {it : M (List D)} {is : List Nat} {m : MT} {t : M Bool} {f : M U}
theorem tt_yes {K : PySem.W.Frag} {mg : Str → Option Value} {σ : L2.St} {H : Hp} {Q : Bool → Hp → Prop} (h : ttOf K mg Wx0 tYesD σ H Q) : tYes σ H Q := by
  obtain ⟨F, env, own, S, h⟩ := h
  exact h _ _ _ (OutR.refl S)
theorem PTs.imp {X : Cx} {e : List Expr} {t t' : TT} (h : PTs X e t) (i : ∀ σ H Q, t' σ H Q → t σ H Q) : PTs X e t' := ⟨fun pins s σ H Q I q => h.run pins s σ H Q I (i σ H Q q)⟩
/-- [elt for tg in iter] -/
theorem e_comp (hc : X.calm = true) (hN : X.N.Nodup) (hi : ItS X Wx tg iter it) (ok : BlkOk X.N X.env.scope scope own)
    (hg : ∀ (s : Shared) (H : Hp) (C : Addr) (cl : List (Str × Addr)) (fp : List Addr), TgS (X.blk s H scope (compEnvC scope cl C X.env) fp) tg is m)
    (he : ∀ (s : Shared) (H : Hp) (C : Addr) (cl : List (Str × Addr)) (fp : List Addr), EvS (X.blk s H scope (compEnvC scope cl C X.env) fp) Wx0 elt f) (hsub : ∀ i ∈ is, i ∈ own.map (·.2)) (hs : ∀ x, foldedSetIterable iter X.env x = pure x := by intro _; rfl) :
    EvS X Wx (.ListComp elt [⟨tg, iter, [], 0⟩] scope pos) (eComp it (own.map (·.2)) m tYesD f) :=
  PE.imp (pe_lc hc hN hi ok hg (fun s H C cl fp => (PTs.imp pts_nil fun σ H Q q => tt_yes q : PTs _ [] (ttOf X.K X.mg Wx0 tYesD))) he hs) fun σ H Q h => comp_sem hsub h
/-- [elt for tg in iter if c] -/
theorem e_compIf (hc : X.calm = true) (hN : X.N.Nodup) (hi : ItS X Wx tg iter it) (ok : BlkOk X.N X.env.scope scope own)
    (hg : ∀ (s : Shared) (H : Hp) (C : Addr) (cl : List (Str × Addr)) (fp : List Addr), TgS (X.blk s H scope (compEnvC scope cl C X.env) fp) tg is m)
    (ht : ∀ (s : Shared) (H : Hp) (C : Addr) (cl : List (Str × Addr)) (fp : List Addr), TtS (X.blk s H scope (compEnvC scope cl C X.env) fp) Wx0 c t)
    (he : ∀ (s : Shared) (H : Hp) (C : Addr) (cl : List (Str × Addr)) (fp : List Addr), EvS (X.blk s H scope (compEnvC scope cl C X.env) fp) Wx0 elt f) (hsub : ∀ i ∈ is, i ∈ own.map (·.2)) (hs : ∀ x, foldedSetIterable iter X.env x = pure x := by intro _; rfl) :
    EvS X Wx (.ListComp elt [⟨tg, iter, [c], 0⟩] scope pos) (eComp it (own.map (·.2)) m t f) :=
  PE.imp (pe_lc hc hN hi ok hg (fun s H C cl fp => pts_one (ht s H C cl fp)) he hs) fun σ H Q h => comp_sem hsub h
end
end DL

namespace DL
open PySem PySem.Spec PyProof.Rows L2

/-! ### y = [..] -/
theorem set_sem {K : PySem.W.Frag} {mg : Str → Option Value} {Wx : WX} {i : Nat} {fe : M U} {E : Ends} {σ : L2.St} {H : Hp} (h : sOf K mg Wx [i] (sSet i fe) E σ H) : tAsg (tOf K mg Wx fe) (gName i) E σ H := by
  obtain ⟨F, env, own, S, h⟩ := h
  unfold sSet at h
  refine tOf_use S (fun u env1 e1 v F1 H1 own1 p O1 => ?_) (fun c env1 e1 C F1 H1 own1 => ?_) (fun e1 => ?_)
  · rw [e1, R.bind_ok] at h
    cases e2 : ownU env1 u with
    | none => rw [e2] at h; exact h.elim
    | some pr =>
      obtain ⟨w, env2⟩ := pr
      rw [e2] at h
      dsimp only at h
      obtain ⟨F2, own2, p2, O2⟩ := ownU_ok O1 e2
      cases e3 : setS i w env2 with
      | none => rw [e3] at h; exact h.elim
      | some env3 =>
        rw [e3] at h
        obtain ⟨own3, O3⟩ := O2.set e3
        exact h _ _ _ _ Only.set O3
  · rw [e1] at h
    exact h C σ F1 H1 own1 Only.refl
  · rw [e1] at h
    exact h
section
variable {X : Cx} {Wx : WX} {elt tg iter c : Expr} {scope : Scope} {own : List (Str × Nat)} {pos spos py : Pos} {it : M (List D)} {is : List Nat} {m : MT} {t : M Bool} {f : M U} {i : Nat} {y : Str}
theorem s_comp (hc : X.calm = true) (hN : X.N.Nodup) (hy : X.N[i]? = some y) (hyl : X.env.scope.names.lookup y = some .local)
    (hsw : swapsWith (.ListComp elt [⟨tg, iter, [], 0⟩] scope pos) (some (.Name y py)) spos.line X.env = pure true) (hi : ItS X Wx tg iter it) (ok : BlkOk X.N X.env.scope scope own)
    (hg : ∀ (s : Shared) (H : Hp) (C : Addr) (cl : List (Str × Addr)) (fp : List Addr), TgS (X.blk s H scope (compEnvC scope cl C X.env) fp) tg is m)
    (he : ∀ (s : Shared) (H : Hp) (C : Addr) (cl : List (Str × Addr)) (fp : List Addr), EvS (X.blk s H scope (compEnvC scope cl C X.env) fp) Wx0 elt f) (hsub : ∀ i ∈ is, i ∈ own.map (·.2)) (hs : ∀ x, foldedSetIterable iter X.env x = pure x := by intro _; rfl) :
    StS X Wx (.Assign [.Name y py] (.ListComp elt [⟨tg, iter, [], 0⟩] scope pos) spos) [i] (sSet i (eComp it (own.map (·.2)) m tYesD f)) :=
  PS.imp (ps_setLc hc hN hy hyl hsw hi ok hg (fun s H C cl fp => (PTs.imp pts_nil fun σ H Q q => tt_yes q : PTs _ [] (ttOf X.K X.mg Wx0 tYesD))) he hs) fun E σ H h => comp_sem hsub (set_sem h)
theorem s_compIf (hc : X.calm = true) (hN : X.N.Nodup) (hy : X.N[i]? = some y) (hyl : X.env.scope.names.lookup y = some .local)
    (hsw : swapsWith (.ListComp elt [⟨tg, iter, [c], 0⟩] scope pos) (some (.Name y py)) spos.line X.env = pure true) (hi : ItS X Wx tg iter it) (ok : BlkOk X.N X.env.scope scope own)
    (hg : ∀ (s : Shared) (H : Hp) (C : Addr) (cl : List (Str × Addr)) (fp : List Addr), TgS (X.blk s H scope (compEnvC scope cl C X.env) fp) tg is m)
    (ht : ∀ (s : Shared) (H : Hp) (C : Addr) (cl : List (Str × Addr)) (fp : List Addr), TtS (X.blk s H scope (compEnvC scope cl C X.env) fp) Wx0 c t)
    (he : ∀ (s : Shared) (H : Hp) (C : Addr) (cl : List (Str × Addr)) (fp : List Addr), EvS (X.blk s H scope (compEnvC scope cl C X.env) fp) Wx0 elt f) (hsub : ∀ i ∈ is, i ∈ own.map (·.2)) (hs : ∀ x, foldedSetIterable iter X.env x = pure x := by intro _; rfl) :
    StS X Wx (.Assign [.Name y py] (.ListComp elt [⟨tg, iter, [c], 0⟩] scope pos) spos) [i] (sSet i (eComp it (own.map (·.2)) m t f)) :=
  PS.imp (ps_setLc hc hN hy hyl hsw hi ok hg (fun s H C cl fp => pts_one (ht s H C cl fp)) he hs) fun E σ H h => comp_sem hsub (set_sem h)
end

/-! ### a list of one's own changed -/
section
variable {K : PySem.W.Frag} {F H : Hp} {σ : L2.St} {env : DEnv} {own : Nat → Fp}
theorem Sit.mut {i : Nat} {a : Addr} {b : Bool} {ds ds' : List D} {vs' : List V} (S : Sit K F σ H env own) (he : env[i]? = some (some (.l b ds))) (hσ : σ[i]? = some (some (.ref a))) (r : RepDs K F vs' ds') :
    OutR K F H own σ (env.set i (some (.l b ds'))) F (upd H a (.lst vs')) own := by
  obtain ⟨v, hv, a', vs, ev, hp, hH, hF, r0⟩ := S.rep i _ he
  rw [hσ] at hv
  cases hv
  cases ev
  have hi : i < env.length := (List.getElem?_eq_some_iff.mp he).1
  have pa : own i a := (hp a).mpr rfl
  refine ⟨⟨fun x o h => ?_, by rw [List.length_set]; exact S.len, fun j w e => ?_, fun j x z => ?_, S.dis⟩, Same.refl _, fun x o h n => ?_, fun x z => .inl z, fun x o h n => by rw [h] at n; cases n⟩
  · have ne : x ≠ a := fun z => by rw [z, hF] at h; cases h
    rw [upd_ne ne]
    exact S.ex x o h
  · by_cases hj : j = i
    · subst hj
      rw [List.getElem?_set_self hi] at e
      cases e
      exact ⟨.ref a, hσ, a, vs', rfl, hp, upd_same, hF, r⟩
    · rw [List.getElem?_set_ne (Ne.symm hj)] at e
      obtain ⟨u, hu, ru⟩ := S.rep j w e
      refine ⟨u, hu, ru.frame (Same.refl _) (fun x o q h => ?_) fun x q => (ru.there q).2⟩
      have ne : x ≠ a := fun z => hj (S.dis j i x q (z ▸ pa))
      rw [upd_ne ne]
      exact h
  · by_cases hj : j = i
    · subst hj; exact ⟨_, List.getElem?_set_self hi⟩
    · obtain ⟨w, e⟩ := S.emp j x z
      exact ⟨w, by rw [List.getElem?_set_ne (Ne.symm hj)]; exact e⟩
  · have ne : x ≠ a := fun z => n (z ▸ ⟨i, pa⟩)
    rw [upd_ne ne]
    exact h
end
/-- x.append(e), x in the i-th slot -/
def eApp (i : Nat) (fe : M U) : M U := fun env => match env[i]? with
  | some (some (.l _ _)) => (fe env).bind fun u e1 => (match frz1 e1 u with
    | some (d, e2) => (match e2[i]? with
      | some (some (.l b ds)) => if ds.length < 1000000 then .ok (.w (.v .non)) (e2.set i (some (.l b (ds ++ [d])))) else .stuck
      | _ => .stuck)
    | none => .stuck)
  | _ => .stuck
/-- x[k] = e -/
def sStore (i : Nat) (fk fe : M U) : M Fl := fun env => match env[i]? with
  | some (some (.l _ _)) => (fe env).bind fun u e1 => (fk e1).bind fun uk e2 => (match frz1 e2 u with
    | some (d, e3) => (match dat e3 uk, e3[i]? with
      | some (.int n), some (some (.l b ds)) => (match ixN ds.length n with
        | some j => .ok .next (e3.set i (some (.l b (ds.set j d))))
        | none => .stuck)
      | _, _ => .stuck)
    | none => .stuck)
  | _ => .stuck
section
variable {X : Cx} {Wx : WX} {e k : Expr} {fe fk : M U} {i : Nat} {x : Str} {pos p1 apos cpos tpos : Pos}
theorem e_app (hN : X.N[i]? = some x := by rfl) (hv : Vis X.env.scope x := by first | exact Or.inl rfl | exact Or.inr (Or.inl rfl) | exact Or.inr (Or.inr rfl)) (hd : (x == ("__debug__" : Str)) = false := by decide) (hcd : (x == ("__classdict__" : Str)) = false := by decide) (he : EvS X Wx e fe)
    (hs0 : starEach [e] X.env = (false, eval e X.env) :: starEach [] X.env := by rfl)
    (hbase : attributeBase (.Name x p1) "append" X.env (eval (.Name x p1) X.env) = eval (.Name x p1) X.env := by rfl)
    (hfew : ((backTo cpos (starEach [e] X.env)).all (fun x => !x.1) && (backToKw cpos (keywordEach [] X.env)).all (fun x => x.1.isSome)
      && decide ([e].length + ([] : List Keyword).length + (if ([] : List Keyword).isEmpty then 0 else 1) < 30)) = true := by rfl)
    (hline : (apos.endLine == cpos.line) = true := by rfl) (hplain : (backTo cpos (starEach [] X.env)).any (·.1) = false := by rfl) :
    EvS X Wx (.Call (.Attribute (.Name x p1) "append" apos) [e] [] cpos) (eApp i fe) :=
  PE.imp (pe_bm PySem.F.plainAttrs_list PySem.F.slot_list_append PySem.F.type_list_append mt_append (pe_var hN hv hd hcd) (pa_cons he pa_nil hs0) hbase hfew hline hs0 hplain) fun σ H Q h => by
  obtain ⟨F, env, own, S, h⟩ := h
  unfold eApp at h
  split at h
  · rename_i u env' heq
    split at heq
    · rename_i b ds hw
      obtain ⟨v, hv, a, vs, rfl, hp, hH, hF, r0⟩ := S.rep i _ hw
      refine ⟨.ref a, hv, Or.inl ⟨rfl, vs, .inl (.inl hH)⟩, ?_⟩
      refine tOf_use S (fun u' env1 e1 v1 F1 H1 own1 p O1 => ?_) (fun c env1 e1 C F1 H1 own1 => ?_) (fun e1 => ?_)
      · rw [e1, R.bind_ok] at heq
        split at heq
        · rename_i d env2 e2
          split at heq
          · rename_i b2 ds2 hw2
            split at heq
            · rename_i hl
              cases heq
              obtain ⟨F2, own2, r2, O2⟩ := O1.frz e2
              obtain ⟨v2, hv2, a2, vs2, ev2, hp2, hH2, hF2, r3⟩ := O2.S.rep i _ hw2
              rw [hv] at hv2
              cases hv2
              cases ev2
              refine ⟨a, vs2, v1, rfl, rfl, hH2, by rw [r3.length]; exact szl hl, ?_⟩
              have O3 := O2.S.mut hw2 hv (r3.append (.cons r2 .nil))
              exact h _ _ _ _ _ ((Grow.refl O3.S.ex).out (O2.trans O3) RepW.ofNon)
            · cases heq
          · cases heq
        · cases heq
      · rw [e1] at heq; cases heq
      · rw [e1] at heq; cases heq
    · cases heq
  · rename_i c env' heq
    split at heq
    · rename_i b ds hw
      obtain ⟨v, hv, a, vs, rfl, hp, hH, hF, r0⟩ := S.rep i _ hw
      refine ⟨.ref a, hv, Or.inl ⟨rfl, vs, .inl (.inl hH)⟩, ?_⟩
      refine tOf_use S (fun u' env1 e1 v1 F1 H1 own1 p O1 => ?_) (fun c env1 e1 C F1 H1 own1 => ?_) (fun e1 => ?_)
      · rw [e1, R.bind_ok] at heq
        split at heq
        · split at heq
          · split at heq <;> cases heq
          · cases heq
        · cases heq
      · rw [e1, R.bind_raise] at heq
        cases heq
        exact h C F1 H1 own1
      · rw [e1] at heq; cases heq
    · cases heq
  · exact h.elim
theorem s_store (hN : X.N[i]? = some x := by rfl) (hv : Vis X.env.scope x := by first | exact Or.inl rfl | exact Or.inr (Or.inl rfl) | exact Or.inr (Or.inr rfl)) (hd : (x == ("__debug__" : Str)) = false := by decide) (hcd : (x == ("__classdict__" : Str)) = false := by decide) (he : EvS X Wx e fe) (hk : EvS X Wx k fk)
    (ha : ∀ v, assign (.Subscript (.Name x p1) k tpos) X.env v = (do
      let ov ← holding [v] (eval (.Name x p1) X.env)
      let iv ← holding [v, ov] (eval k X.env)
      standAt tpos
      holding [v, ov, iv] (setItem ov iv v)
      release [v, ov, iv] []) := by intro _; rfl)
    (hs : swapsWithSole [.Subscript (.Name x p1) k tpos] e pos.line X.env = pure false := by rfl) (hw : swappedStores [.Subscript (.Name x p1) k tpos] e X.env = pure none := by rfl)
    (h1 : (assignEach [.Subscript (.Name x p1) k tpos] X.env).map (·.2) = [assign (.Subscript (.Name x p1) k tpos) X.env] := by rfl) :
    StS X Wx (.Assign [.Subscript (.Name x p1) k tpos] e pos) [] (sStore i fk fe) :=
  PS.imp (ps_asg he (pg_sub (pe_var hN hv hd hcd) hk set_list ha) hs hw h1) fun E σ H h => by
  obtain ⟨F, env, own, S, h⟩ := h
  have h : Po X.K X.mg Wx [] E σ F H own (sStore i fk fe env) := h
  cases hw0 : env[i]? with
  | none => unfold sStore at h; rw [hw0] at h; exact h.elim
  | some ow =>
    cases ow with
    | none => unfold sStore at h; rw [hw0] at h; exact h.elim
    | some w0 =>
      cases w0 with
      | v d => unfold sStore at h; rw [hw0] at h; exact h.elim
      | m ks ds => unfold sStore at h; rw [hw0] at h; exact h.elim
      | l b0 ds0 =>
        unfold sStore at h
        rw [hw0] at h
        dsimp only at h
        obtain ⟨v, hv, a, vs, rfl, hp, hH, hF, r0⟩ := S.rep i _ hw0
        refine tOf_use S (fun u env1 e1 v1 F1 H1 own1 p O1 => ?_) (fun c env1 e1 C F1 H1 own1 hm O1 => ?_) (fun e1 => ?_)
        · rw [e1, R.bind_ok] at h
          refine ⟨.ref a, hv, ?_⟩
          refine tOf_use O1.S (fun uk env2 e2 vk F2 H2 own2 p2 O2 => ?_) (fun c env2 e2 C F2 H2 own2 hm O2 => ?_) (fun e2 => ?_)
          · rw [e2, R.bind_ok] at h
            have OO := O1.out2 O2
            cases e3 : frz1 env2 u with
            | none => rw [e3] at h; exact h.elim
            | some pr =>
              obtain ⟨d, env3⟩ := pr
              rw [e3] at h
              dsimp only at h
              obtain ⟨F3, own3, S3, r3, s3⟩ := frz1_ok OO.S OO.r1 OO.d1 e3
              have st := OO.s.trans ((s3.more p2).sup fun x z => by
                rcases z with (z | z) | z
                · exact .inl (.inl z)
                · exact .inr z
                · exact .inl (.inr z))
              obtain ⟨rk, dk⟩ := RepU.stepU OO.r2 (fun x q z => by
                rcases z with z | z
                · exact OO.d2 x q z
                · exact OO.d12 x z q) s3
              have O3 : OutR X.K F H own σ env3 F3 H2 own3 := ⟨S3, st.sub fun x z => .inl z⟩
              cases e4 : dat env3 uk with
              | none => rw [e4] at h; exact h.elim
              | some dk' =>
                have vw := RepU.view S3 rk e4
                cases dk' with
                | int n =>
                  cases e5 : env3[i]? with
                  | none => rw [e4, e5] at h; exact h.elim
                  | some ow =>
                    cases ow with
                    | none => rw [e4, e5] at h; exact h.elim
                    | some w =>
                      cases w with
                      | v _ => rw [e4, e5] at h; exact h.elim
                      | m _ _ => rw [e4, e5] at h; exact h.elim
                      | l b ds =>
                        rw [e4, e5] at h
                        dsimp only at h
                        cases e6 : ixN ds.length n with
                        | none => rw [e6] at h; exact h.elim
                        | some j =>
                          rw [e6] at h
                          obtain ⟨v2, hv2, a2, vs2, ev2, hp2, hH2, hF2, r4⟩ := S3.rep i _ e5
                          rw [hv] at hv2
                          cases hv2
                          cases ev2
                          refine ⟨a, vs2, n, j, rfl, vw.int, hH2, by rw [r4.length]; exact e6, ?_⟩
                          exact h _ _ _ _ Only.refl (O3.trans (S3.mut e5 hv (r4.set r3 j)))
                | _ => rw [e4] at h; exact h.elim
          · rw [e2] at h
            exact h C σ F2 H2 own2 Only.refl hm (O1.drop.trans O2)
          · rw [e2] at h
            exact h
        · rw [e1] at h
          exact h C σ F1 H1 own1 Only.refl hm O1
        · rw [e1] at h
          exact h
end

/-! ### raise -/
section
variable {X : Cx} {Wx : WX} {C : Addr} {bmB : List Value} {B newId initId : String} {x m : Str} {j : Nat} {p p2 pos pos' : Pos}
theorem s_raise (hc : X.calm = true) (tk : Takes X Wx) (Fb : ExcBaseFacts B newId initId bmB) (q : PySem.W.excIn X.K C bmB newId = true) (gC : X.mg x = some (.ref C)) (kC : PySem.W.keepIn X.K (.ref C) = true) (r : Raises X (.ref C)) (hg : Gl X x)
    (hdb : (x == ("__debug__" : Str)) = false := by decide) : StS X Wx (.Raise (some (.Call (.Name x p) [.Constant (.str m) j p2] [] pos)) none pos') [] (sRaise x) :=
  PS.imp (ps_raise hc tk (pmk_own Fb q gC kC r hg hdb)) fun E σ H h => by
  obtain ⟨F, env, own, S, h⟩ := h
  exact h C σ F H own Only.refl gC (OutR.refl S)
end

/-! ### a def -/
def bor : W → W
  | .v d => .v d
  | .l _ ds => .l true ds
  | .m ks ds => .m ks ds
def retW (env : DEnv) : U → Option W
  | .w (.v d) => some (.v d)
  | .w (.l _ ds) => some (.l false ds)
  | .w (.m ks ds) => some (.m ks ds)
  | .b i => match env[i]? with
    | some (some (.v d)) => some (.v d)
    | some (some (.l false ds)) => some (.l false ds)
    | _ => none
def backs (env : DEnv) : Nat → List W → Option (List W)
  | _, [] => some []
  | j, .v d :: ws => match backs env (j + 1) ws with
    | some r => some (.v d :: r)
    | none => none
  | j, .l b _ :: ws => match env[j]? with
    | some (some (.l true ds)) => (match backs env (j + 1) ws with
      | some r => some (.l b ds :: r)
      | none => none)
    | _ => none
  | _, .m _ _ :: _ => none
/-- what is stored to is no list that was handed in -/
def keeps (is : List Nat) (ws : List W) : Bool := is.all fun j => match ws[j]? with
  | some (.l _ _) => false
  | _ => true
/-- what a body that tells f makes of a def with np parameters and nl names -/
def mkFn (is : List Nat) (np nl : Nat) (f : M Fl) : List W → RF := fun ws => if keeps is ws = true ∧ ws.length = np then (match f (ws.map (fun w => some (bor w)) ++ List.replicate (nl - np) none) with
  | .ok (.ret u) env => (match retW env u, backs env 0 ws with
    | some w, some ws' => .ok w ws'
    | _, _ => .stuck)
  | .ok .next env => (match backs env 0 ws with
    | some ws' => .ok (.v .non) ws'
    | none => .stuck)
  | .raise c env => (match backs env 0 ws with
    | some ws' => .raise c ws'
    | none => .stuck)
  | _ => .stuck) else .stuck
section
variable {K : PySem.W.Frag} {F H F1 H1 : Hp} {vs : List V} {ws ws' : List W} {own own1 : Nat → Fp} {σ1 : L2.St} {env1 : DEnv}
theorem RepW.bor {v : V} {w : W} {p : Fp} (r : RepW K F H v w p) : RepW K F H v (DL.bor w) p := by
  cases w with
  | v d => exact r
  | l b ds => exact r
  | m ks ds => exact r
theorem sit_start {n : Nat} (S : ASit K F H vs ws own) : Sit K F (vs.map some ++ List.replicate n none) H (ws.map (fun w => some (DL.bor w)) ++ List.replicate n none) own := by
  have hl : ws.length = vs.length := by have := S.len; simpa using this
  refine ⟨S.ex, by simp [hl], fun i w e => ?_, fun i a z => ?_, S.dis⟩
  · by_cases hi : i < ws.length
    · rw [List.getElem?_append_left (by simpa using hi), List.getElem?_map, List.getElem?_eq_getElem hi] at e
      have e' : DL.bor ws[i] = w := by simpa using e
      subst e'
      obtain ⟨v, hv, r⟩ := S.rep i ws[i] (get_some_map (List.getElem?_eq_getElem hi))
      refine ⟨v, ?_, r.bor⟩
      rw [List.getElem?_append_left (by rw [List.length_map, ← hl]; exact hi)]
      exact hv
    · rw [List.getElem?_append_right (by simpa using Nat.le_of_not_lt hi), List.getElem?_replicate] at e
      split at e <;> cases e
  · obtain ⟨w, e⟩ := S.emp i a z
    have hi : i < ws.length := by
      have := (List.getElem?_eq_some_iff.mp (get_map_some e)).1
      exact this
    refine ⟨DL.bor ws[i], ?_⟩
    rw [List.getElem?_append_left (by simpa using hi), List.getElem?_map, List.getElem?_eq_getElem hi]
    rfl
theorem backs_ok : ∀ {ws ws' : List W} {j : Nat}, backs env1 j ws = some ws' → ws'.length = ws.length ∧ ∀ (i : Nat) (w : W), ws'[i]? = some w → (∃ d, w = .v d ∧ ws[i]? = some (.v d)) ∨ ∃ b b' ds ds0, w = .l b ds ∧ ws[i]? = some (.l b' ds0) ∧ env1[j + i]? = some (some (.l true ds))
  | [], ws', j, h => by
    cases h
    exact ⟨rfl, fun i w e => by simp at e⟩
  | .v d :: ws, ws', j, h => by
    have h : (match backs env1 (j + 1) ws with | some r => some (W.v d :: r) | none => none) = some ws' := h
    split at h
    · rename_i r hr
      cases h
      obtain ⟨h1, h2⟩ := backs_ok hr
      refine ⟨by rw [List.length_cons, List.length_cons, h1], fun i w e => ?_⟩
      cases i with
      | zero => simp at e; subst e; exact .inl ⟨d, rfl, rfl⟩
      | succ i =>
        have := h2 i w (by simpa using e)
        rw [show j + (i + 1) = j + 1 + i by omega]
        simpa using this
    · cases h
  | .m _ _ :: _, _, _, h => by cases h
  | .l b ds0 :: ws, ws', j, h => by
    have h : (match env1[j]? with | some (some (.l true ds)) => (match backs env1 (j + 1) ws with | some r => some (W.l b ds :: r) | none => none) | _ => none) = some ws' := h
    split at h
    · rename_i ds hw
      split at h
      · rename_i r hr
        cases h
        obtain ⟨h1, h2⟩ := backs_ok hr
        refine ⟨by rw [List.length_cons, List.length_cons, h1], fun i w e => ?_⟩
        cases i with
        | zero => simp at e; subst e; exact .inr ⟨b, b, ds, ds0, rfl, rfl, by simpa using hw⟩
        | succ i =>
          have := h2 i w (by simpa using e)
          rw [show j + (i + 1) = j + 1 + i by omega]
          simpa using this
      · cases h
    · cases h
/-- what the def's own frame has left of its parameters -/
def ownP (ws : List W) (own : Nat → Fp) : Nat → Fp := fun j a => (∃ b ds, ws[j]? = some (.l b ds)) ∧ own j a
theorem sit_end {is : List Nat} {n : Nat} (S : ASit K F H vs ws own) (O : OutR K F H own σ1 env1 F1 H1 own1) (y : Only is (vs.map some ++ List.replicate n none) σ1) (hb : backs env1 0 ws = some ws') (hno : ∀ (j : Nat) b ds, ws[j]? = some (.l b ds) → j ∉ is) : ASit K F1 H1 vs ws' (ownP ws own1) := by
  obtain ⟨h1, h2⟩ := backs_ok hb
  have hl : ws.length = vs.length := by have := S.len; simpa using this
  refine ⟨O.S.ex, by simp [h1, hl], fun i w e => ?_, fun i a z => ?_, fun i k a z1 z2 => O.S.dis i k a z1.2 z2.2⟩
  · rcases h2 i w (get_map_some e) with ⟨d, rfl, e2⟩ | ⟨b, b', ds, ds0, rfl, e2, e3⟩
    · obtain ⟨v, hv, r⟩ := S.rep i _ (get_some_map e2)
      refine ⟨v, hv, fun a z => ?_, r.2.mono O.s.ex⟩
      obtain ⟨⟨b, ds, e3⟩, _⟩ := z
      rw [e2] at e3
      cases e3
    · rw [Nat.zero_add] at e3
      obtain ⟨v, hv, r⟩ := O.S.rep i _ e3
      obtain ⟨v0, hv0, _⟩ := S.rep i _ (get_some_map e2)
      have hi : i < vs.length := by rw [← hl]; exact (List.getElem?_eq_some_iff.mp e2).1
      have ev : v = v0 := by
        rw [y.2 i (hno i _ _ e2), List.getElem?_append_left (by simpa using hi), hv0] at hv
        cases hv
        rfl
      subst ev
      refine ⟨v, hv0, ?_⟩
      have e4 : ownP ws own1 i = own1 i := funext fun a => propext ⟨fun z => z.2, fun z => ⟨⟨_, _, e2⟩, z⟩⟩
      rw [e4]
      exact r
  · obtain ⟨⟨b, ds, e2⟩, _⟩ := z
    have hi : i < ws'.length := by rw [h1]; exact (List.getElem?_eq_some_iff.mp e2).1
    exact ⟨ws'[i], get_some_map (List.getElem?_eq_getElem hi)⟩
theorem ownP_sub {a : Addr} (h : all (ownP ws own) a) : all own a := by
  obtain ⟨i, _, z⟩ := h
  exact ⟨i, z⟩
end
section
variable {P : Program} {w : World} {K : PySem.W.Frag} {mg : Str → Option Value} {base : Heap}
theorem fn_ok {x qual : Str} {st : Stmt} {f : Addr} {fd : FuncData} {N ps : List Str} {k : Nat} {is : List Nat} {fb : M Fl} (F : Fun K x qual st f fd) (S : FnScope N ps (defScope st))
    (hb : ∀ (cdv : Value) (A : Around) (outer : List Env) (s : Shared) (H : Hp) (E : XK), Room k (A.deeper (envOfC qual (defScope st) s.heap.objs.size f cdv)) →
      SsS (cxOf (L2.CX P w) P w K mg base N qual (defScope st) f cdv A outer s H E) (fun c d _ H => E c d H) (defBody st) is fb)
    : FnS P w K mg base (k + 1) f fd ps (mkFn is ps.length N.length fb) := by
  refine F.okX S (fun vs H Q E h => h.1) (fun cdv A outer s H vs Q E hr h => ?_)
  obtain ⟨hl, F0, ws, own, SA, h⟩ := h
  have hno : keeps is ws = true := by
    cases e : keeps is ws with
    | true => rfl
    | false =>
      unfold mkFn at h
      rw [e, if_neg (fun z => Bool.false_ne_true z.1)] at h
      exact h.elim
  have hno' : ∀ (j : Nat) b ds, ws[j]? = some (.l b ds) → j ∉ is := fun j b ds e z => by
    unfold keeps at hno
    rw [List.all_eq_true] at hno
    have := hno j z
    rw [e] at this
    cases this
  refine ⟨_, hb cdv A outer s H E hr, F0, ws.map (fun w => some (bor w)) ++ List.replicate (N.length - ps.length) none, own, ?_, ?_⟩
  · show Sit K F0 (L2.start N vs) H _ own
    unfold L2.start
    rw [hl]
    exact sit_start SA
  · have hwl : ws.length = ps.length := by have := SA.len; simp at this; omega
    unfold mkFn at h
    rw [if_pos ⟨hno, hwl⟩] at h
    have e0 : L2.start N vs = vs.map some ++ List.replicate (N.length - ps.length) none := by unfold L2.start; rw [hl]
    generalize hr2 : fb (ws.map (fun w => some (bor w)) ++ List.replicate (N.length - ps.length) none) = r at h ⊢
    rw [e0]
    cases r with
    | stuck => exact h
    | raise c env1 =>
      dsimp only at h
      intro C σ' F' H' own' y hm O
      cases e : backs env1 0 ws with
      | none => rw [e] at h; exact h.elim
      | some ws' =>
        rw [e] at h
        exact h C F' H' (ownP ws own') hm (sit_end SA O y e hno') (O.s.sub fun a z => ownP_sub z)
    | ok fl env1 =>
      cases fl with
      | brk => exact h.elim
      | cont => exact h.elim
      | next =>
        dsimp only at h
        intro σ' F' H' own' y O
        cases e : backs env1 0 ws with
        | none => rw [e] at h; exact h.elim
        | some ws' =>
          rw [e] at h
          exact h .non F' H' (ownP ws own') (fun _ => False) ⟨sit_end SA O y e hno', RepW.ofNon, fun _ z => z.elim, O.s.sub fun a z => z.elim ownP_sub False.elim⟩
      | ret u =>
        dsimp only at h
        intro v σ' F' H' own' p y O
        cases e1 : retW env1 u with
        | none => rw [e1] at h; exact h.elim
        | some wr =>
          cases e : backs env1 0 ws with
          | none => rw [e1, e] at h; exact h.elim
          | some ws' =>
            rw [e1, e] at h
            dsimp only at h
            have SE := sit_end SA O.drop y e hno'
            cases u with
            | w x =>
              have hx : RepW K F' H' v wr p := by
                cases x with
                | v d => cases e1; exact O.r
                | l b ds => cases e1; exact O.r
                | m ks ds => cases e1; exact O.r
              exact h v F' H' (ownP ws own') p ⟨SE, hx, fun a z q => O.d a z (ownP_sub q), O.s.sub fun a z => z.imp_left ownP_sub⟩
            | b i =>
              have e1 : (match env1[i]? with | some (some (.v d)) => some (W.v d) | some (some (.l false ds)) => some (.l false ds) | _ => none) = some wr := e1
              obtain ⟨hp, hv⟩ := O.r
              split at e1
              · rename_i d hw
                cases e1
                obtain ⟨v', hv', r⟩ := O.S.rep i _ hw
                rw [hv] at hv'
                cases hv'
                exact h v F' H' (ownP ws own') (fun _ => False) ⟨SE, RepW.ofRep r.2, fun _ z => z.elim, O.s.sub fun a z => z.elim (fun q => .inl (ownP_sub q)) False.elim⟩
              · rename_i ds hw
                cases e1
                obtain ⟨v', hv', r⟩ := O.S.rep i _ hw
                rw [hv] at hv'
                cases hv'
                refine h v F' H' (ownP ws own') (own' i) ⟨SE, r, fun a z q => ?_, O.s.sub fun a z => ?_⟩
                · obtain ⟨j, ⟨b, ds', e2⟩, q⟩ := q
                  have := O.S.dis i j a z q
                  subst this
                  obtain ⟨h1, h2⟩ := backs_ok e
                  have hi : i < ws'.length := by rw [h1]; exact (List.getElem?_eq_some_iff.mp e2).1
                  rcases h2 i ws'[i] (List.getElem?_eq_getElem hi) with ⟨d, _, e3⟩ | ⟨_, _, _, _, _, _, e3⟩
                  · rw [e2] at e3; cases e3
                  · rw [Nat.zero_add, hw] at e3; cases e3
                · rcases z with z | z
                  · exact .inl (ownP_sub z)
                  · exact .inl ⟨i, z⟩
              · cases e1
end
end DL

namespace DL
open PySem PySem.Spec PyProof.Rows L2

/-! ### two fors -/
def compD2 (vs vs1 : List Nat) (m : MT) (it1 : M (List D)) (m1 : MT) (f : M U) : List D → M (List D)
  | [], env => .ok [] env
  | d :: ds, env => match m d env with
    | none => .stuck
    | some e1 => (it1 e1).bind fun ds1 e2 => (compD vs1 m1 tYesD f ds1 (wipeA e2 vs1)).bind fun ys e3 => (compD2 vs vs1 m it1 m1 f ds (wipeA e3 vs)).bind fun zs e4 => .ok (ys ++ zs) e4
def eComp2 (it : M (List D)) (vs vs1 : List Nat) (m : MT) (it1 : M (List D)) (m1 : MT) (f : M U) : M U := fun env => (it env).bind fun ds e1 => if dataAt e1 vs then (match compD2 vs vs1 m it1 m1 f ds (wipeA e1 vs) with
  | .ok ys e2 => if ys.length ≤ 1000000 then .ok (.w (.l false ys)) (unwipe e1 vs e2) else .stuck
  | _ => .stuck) else .stuck
theorem comp2_sem {K : PySem.W.Frag} {mg : Str → Option Value} {Wx : WX} {it it1 : M (List D)} {is is1 vs vs1 : List Nat} {m m1 : MT} {f : M U} {σ : L2.St} {H : Hp} {Q : VK} (hsub : ∀ i ∈ is, i ∈ vs) (hsub1 : ∀ i ∈ is1, i ∈ vs1) (hv : ∀ i ∈ vs1, i ∈ vs) (h : tOf K mg Wx (eComp2 it vs vs1 m it1 m1 f) σ H Q) :
    tLc2 (iOf K mg Wx it) (gOf K is m) (ttOf K mg Wx0 tYesD) (iOf K mg Wx0 it1) (gOf K is1 m1) (ttOf K mg Wx0 tYesD) (tOf K mg Wx0 f) vs vs1 σ H Q := by
  obtain ⟨F, env, own, S, h⟩ := h
  unfold eComp2 at h
  refine ⟨F, env, own, S, ?_⟩
  cases e : it env with
  | stuck => rw [e] at h; exact h
  | raise c env1 => rw [e] at h; exact h
  | ok ds env1 =>
    rw [e, R.bind_ok] at h
    intro J F1 H1 own1 O1 fd P hP
    by_cases hda : dataAt env1 vs = true
    · rw [if_pos hda] at h
      cases ec : compD2 vs vs1 m it1 m1 f ds (wipeA env1 vs) with
      | stuck => rw [ec] at h; exact h.elim
      | raise _ _ => rw [ec] at h; exact h.elim
      | ok yall efin =>
        rw [ec] at h
        dsimp only at h
        by_cases hlen : yall.length ≤ 1000000
        · rw [if_pos hlen] at h
          have S1w := O1.S.wipe (vs := vs) fun i hi a => dataAt_no O1.S hda hi a
          have g0 : Grow F1 H1 F1 (upd H1 P (.lst [])) (fun a => a = P) := Grow.ofOwn O1.S.ex hP
          have M0 : Mid K F1 H1 own1 P (wipe σ vs) (wipeA env1 vs) F1 (upd H1 P (.lst [])) own1 [] := by
            refine ⟨g0.sit S1w, ⟨[], upd_same, .nil⟩, sub_none O1.S.ex hP, fun z => ?_, g0.step own1⟩
            obtain ⟨⟨o, e2⟩, _⟩ := O1.S.there z
            rw [hP] at e2
            cases e2
          refine ⟨fun i k H' => k = ds.length - i ∧ i ≤ ds.length ∧ ∃ F' env' own' ys, Same F1 F' ∧ Mid K F1 H1 own1 P (wipe σ vs) env' F' H' own' ys ∧ ∃ rest, compD2 vs vs1 m it1 m1 f (ds.drop i) env' = .ok rest efin ∧ ys ++ rest = yall,
            ⟨ds.length, by simp, Nat.zero_le _, F1, wipeA env1 vs, own1, [], Same.refl _, M0, yall, ec, rfl⟩, ?_⟩
          rintro i k H' ⟨rfl, hi, F', env', own', ys, s1, M, rest, hr, hy⟩
          by_cases hlt : i < ds.length
          · refine .inr ⟨fd.go F' H' i s1 M.S.ex hlt, fun H'' => i + 1 ≤ ds.length ∧ ∃ F' env' own' ys, Same F1 F' ∧ Mid K F1 H1 own1 P (wipe σ vs) env' F' H'' own' ys ∧ ∃ rest, compD2 vs vs1 m it1 m1 f (ds.drop (i + 1)) env' = .ok rest efin ∧ ys ++ rest = yall,
              fun H'' q => ⟨ds.length - (i + 1), by omega, rfl, q.1, q.2⟩, fun x H'' y => ?_⟩
            have hd : ds[i]? = some ds[i] := List.getElem?_eq_getElem hlt
            obtain ⟨F3, gr, r3⟩ := fd.yld F' H' i x H'' ds[i] s1 M.S.ex hd y
            have hdr : ds.drop i = ds[i] :: ds.drop (i + 1) := List.drop_eq_getElem_cons hlt
            rw [hdr, compD2] at hr
            have M3 : Mid K F1 H1 own1 P (wipe σ vs) env' F3 H'' own' ys := M.step ⟨gr.sit M.S, (gr.step own').sub fun _ z => .inl z⟩
            refine ⟨F3, env', own', ds[i], M3.S, r3, ?_⟩
            cases e3 : m ds[i] env' with
            | none => rw [e3] at hr; cases hr
            | some ea =>
              rw [e3] at hr
              dsimp only at hr
              intro σ4 F4 H4 own4 o4 O4
              have w4 : wipe σ4 vs = wipe σ vs := (wipe_only o4 hsub).trans wipe_wipe
              refine ⟨w4, ?_⟩
              have M4 := M3.step O4
              have s4 : Same F1 F4 := (s1.trans gr.exF).trans O4.s.ex
              refine ⟨F4, ea, own4, O4.S, ?_⟩
              show ∀ F' H' own', OutR K F4 H4 own4 σ4 ea F' H' own' → _
              intro F5 H5 own5 O5
              have M5 := M4.step O5
              have s5 := s4.trans O5.s.ex
              rw [if_pos rfl]
              refine ⟨F5, ea, own5, O5.S, ?_⟩
              cases ei : it1 ea with
              | stuck => rw [ei] at hr; cases hr
              | raise _ _ => rw [ei] at hr; cases hr
              | ok ds1 eb =>
                rw [ei, R.bind_ok] at hr
                intro J1 F6 H6 own6 O6 fd1
                have M6 := M5.step O6
                have s6 := s5.trans O6.s.ex
                cases ej : compD vs1 m1 tYesD f ds1 (wipeA eb vs1) with
                | stuck => rw [ej] at hr; cases hr
                | raise _ _ => rw [ej] at hr; cases hr
                | ok yin ein =>
                  rw [ej, R.bind_ok] at hr
                  cases ek : compD2 vs vs1 m it1 m1 f (ds.drop (i + 1)) (wipeA ein vs) with
                  | stuck => rw [ek] at hr; cases hr
                  | raise _ _ => rw [ek] at hr; cases hr
                  | ok rest2 ee =>
                    rw [ek, R.bind_ok] at hr
                    cases hr
                    -- the inner loop
                    have M7 : Mid K F1 H1 own1 P (wipe σ4 vs1) (wipeA eb vs1) F6 H6 (ownW vs1 own6) ys := M6.step ⟨O6.S.wipe2, Step.refl.sub fun a z => ownW_sub z⟩
                    refine ⟨fun j k H' => k = ds1.length - j ∧ j ≤ ds1.length ∧ ∃ F' env' own' ys', Same F6 F' ∧ Mid K F1 H1 own1 P (wipe σ4 vs1) env' F' H' own' ys' ∧ ∃ rest, compD vs1 m1 tYesD f (ds1.drop j) env' = .ok rest ein ∧ ys' ++ rest = ys ++ yin,
                      ⟨ds1.length, by simp, Nat.zero_le _, F6, wipeA eb vs1, ownW vs1 own6, ys, Same.refl _, M7, yin, ej, rfl⟩, ?_⟩
                    rintro j k H8 ⟨rfl, hj, F8, env8, own8, ys8, s68, M8, rest8, hr8, hy8⟩
                    by_cases hlt1 : j < ds1.length
                    · refine .inr ⟨fd1.go F8 H8 j s68 M8.S.ex hlt1, fun H'' => j + 1 ≤ ds1.length ∧ ∃ F' env' own' ys', Same F6 F' ∧ Mid K F1 H1 own1 P (wipe σ4 vs1) env' F' H'' own' ys' ∧ ∃ rest, compD vs1 m1 tYesD f (ds1.drop (j + 1)) env' = .ok rest ein ∧ ys' ++ rest = ys ++ yin,
                        fun H'' q => ⟨ds1.length - (j + 1), by omega, rfl, q.1, q.2⟩, fun x H9 y => ?_⟩
                      have hd1 : ds1[j]? = some ds1[j] := List.getElem?_eq_getElem hlt1
                      obtain ⟨F9, gr9, r9⟩ := fd1.yld F8 H8 j x H9 ds1[j] s68 M8.S.ex hd1 y
                      have hdr1 : ds1.drop j = ds1[j] :: ds1.drop (j + 1) := List.drop_eq_getElem_cons hlt1
                      rw [hdr1, compD] at hr8
                      have M9 : Mid K F1 H1 own1 P (wipe σ4 vs1) env8 F9 H9 own8 ys8 := M8.step ⟨gr9.sit M8.S, (gr9.step own8).sub fun _ z => .inl z⟩
                      refine ⟨F9, env8, own8, ds1[j], M9.S, r9, ?_⟩
                      cases e10 : m1 ds1[j] env8 with
                      | none => rw [e10] at hr8; cases hr8
                      | some ec1 =>
                        rw [e10] at hr8
                        dsimp only at hr8
                        intro σ10 F10 H10 own10 o10 O10
                        have w10 : wipe σ10 vs1 = wipe σ4 vs1 := (wipe_only o10 hsub1).trans wipe_wipe
                        refine ⟨w10, ?_⟩
                        have M10 := M9.step O10
                        have s10 : Same F6 F10 := (s68.trans gr9.exF).trans O10.s.ex
                        refine ⟨F10, ec1, own10, O10.S, ?_⟩
                        show ∀ F' H' own', OutR K F10 H10 own10 σ10 ec1 F' H' own' → _
                        intro F11 H11 own11 O11
                        have M11 := M10.step O11
                        have s11 := s10.trans O11.s.ex
                        rw [if_pos rfl]
                        rw [show tYesD ec1 = .ok true ec1 from rfl, R.bind_ok, if_pos rfl] at hr8
                        refine tOf_use O11.S (fun u eu1 eu v F12 H12 own12 p O12 => ?_) (fun c eu1 eu => ?_) (fun eu => ?_)
                        · rw [eu, R.bind_ok] at hr8
                          cases ef : frz1 eu1 u with
                          | none => rw [ef] at hr8; cases hr8
                          | some pr =>
                            obtain ⟨yd, ed⟩ := pr
                            rw [ef] at hr8
                            dsimp only at hr8
                            obtain ⟨F13, own13, r13, O13⟩ := O12.frz ef
                            have M13 := M11.step O13
                            have s13 := s11.trans O13.s.ex
                            cases eg : compD vs1 m1 tYesD f (ds1.drop (j + 1)) (wipeA ed vs1) with
                            | stuck => rw [eg] at hr8; cases hr8
                            | raise _ _ => rw [eg] at hr8; cases hr8
                            | ok rest9 ee9 =>
                              rw [eg, R.bind_ok] at hr8
                              cases hr8
                              obtain ⟨avs, hP13, rr13⟩ := M13.at'
                              have hal := rr13.length
                              have hll : ys8.length < 1000000 := by
                                have q1 := congrArg List.length hy8
                                have q2 := congrArg List.length hy
                                simp only [List.length_append, List.length_cons] at q1 q2
                                omega
                              refine ⟨avs, hP13, by rw [hal]; exact szl hll, hlt1, F13, wipeA ed vs1, ownW vs1 own13, ys8 ++ [yd], s13, ?_, rest9, eg, by rw [List.append_assoc]; exact hy8⟩
                              have M14 := M13.push r13 avs hP13
                              have O14 : OutR K F13 (upd H12 P (.lst (avs ++ [v]))) own13 (wipe σ4 vs1) (wipeA ed vs1) F13 (upd H12 P (.lst (avs ++ [v]))) (ownW vs1 own13) := by
                                rw [← w10]
                                exact ⟨M14.S.wipe2, Step.refl.sub fun a z => ownW_sub z⟩
                              exact M14.step O14
                        · rw [eu] at hr8; cases hr8
                        · rw [eu] at hr8; cases hr8
                    · have ej' : j = ds1.length := by omega
                      subst ej'
                      rw [List.drop_length, compD] at hr8
                      cases hr8
                      rw [List.append_nil] at hy8
                      subst hy8
                      refine .inl ⟨fd1.stop F8 H8 s68 M8.S.ex, hlt, F8, wipeA ein vs, ownW vs own8, ys ++ yin, s6.trans s68, ?_, rest2, ek, by rw [List.append_assoc]; exact hy⟩
                      have w8 : wipe (wipe σ4 vs1) vs = wipe σ vs := by
                        rw [← w4]
                        exact wipe_only (is := vs1) ⟨wipe_length σ4 vs1, fun q hq => by rw [wipe_eq, wipeA_out hq]⟩ hv
                      have O15 : OutR K F8 H8 own8 (wipe σ vs) (wipeA ein vs) F8 H8 (ownW vs own8) := by
                        rw [← w8]
                        exact ⟨M8.S.wipe2, Step.refl.sub fun a z => ownW_sub z⟩
                      exact M8.step O15
          · have ei : i = ds.length := by omega
            subst ei
            refine .inl ⟨fd.stop F' H' s1 M.S.ex, ?_⟩
            rw [List.drop_length, compD2] at hr
            cases hr
            rw [List.append_nil] at hy
            subst hy
            obtain ⟨avs, hPE, rr⟩ := M.at'
            have SF := unwipe_sit O1.S hda s1 M.S
            refine h (.ref P) F' H' (ownW vs own') (fun a => a = P) ⟨SF, ⟨P, avs, rfl, fun _ => Iff.rfl, hPE, M.fr, rr⟩, fun a z y => ?_, ?_⟩
            · have z' : a = P := z
              subst z'
              exact M.no (ownW_sub y)
            · exact (O1.s.trans M.s).sub fun a z => z.imp_left ownW_sub
        · rw [if_neg hlen] at h; exact h.elim
    · rw [if_neg hda] at h; exact h.elim
section
variable {X : Cx} {Wx : WX} {elt tg iter tg1 iter1 : Expr} {scope : Scope} {own : List (Str × Nat)} {vs1 is is1 : List Nat} {pos : Pos} {it it1 : M (List D)} {m m1 : MT} {f : M U}
theorem e_comp2 (hc : X.calm = true) (hN : X.N.Nodup) (hi : ItS X Wx tg iter it) (ok : BlkOk X.N X.env.scope scope own) (hv : ∀ i ∈ vs1, i ∈ own.map (·.2))
    (hg : ∀ (s : Shared) (H : Hp) (C : Addr) (cl : List (Str × Addr)) (fp : List Addr), TgS (X.blk s H scope (compEnvC scope cl C X.env) fp) tg is m)
    (hi1 : ∀ (s : Shared) (H : Hp) (C : Addr) (cl : List (Str × Addr)) (fp : List Addr), ItS (X.blk s H scope (compEnvC scope cl C X.env) fp) Wx0 tg1 iter1 it1)
    (hg1 : ∀ (s : Shared) (H : Hp) (C : Addr) (cl : List (Str × Addr)) (fp : List Addr), TgS (X.blk s H scope (compEnvC scope cl C X.env) fp) tg1 is1 m1)
    (he : ∀ (s : Shared) (H : Hp) (C : Addr) (cl : List (Str × Addr)) (fp : List Addr), EvS (X.blk s H scope (compEnvC scope cl C X.env) fp) Wx0 elt f) (hsub : ∀ i ∈ is, i ∈ own.map (·.2)) (hsub1 : ∀ i ∈ is1, i ∈ vs1)
    (hs : ∀ x, foldedSetIterable iter X.env x = pure x := by intro _; rfl) (hs1 : ∀ env x, foldedSetIterable iter1 env x = pure x := by intro _ _; rfl) :
    EvS X Wx (.ListComp elt [⟨tg, iter, [], 0⟩, ⟨tg1, iter1, [], 0⟩] scope pos) (eComp2 it (own.map (·.2)) vs1 m it1 m1 f) :=
  PE.imp (pe_lc2 hc hN hi ok hv hg (fun s H C cl fp => (PTs.imp pts_nil fun σ H Q q => tt_yes q : PTs _ [] (ttOf X.K X.mg Wx0 tYesD))) hi1 hg1 (fun s H C cl fp => (PTs.imp pts_nil fun σ H Q q => tt_yes q : PTs _ [] (ttOf X.K X.mg Wx0 tYesD))) he hs hs1) fun σ H Q h => comp2_sem hsub hsub1 hv h
end

/-! ### a, b = x, y -/
def sPar (i j : Nat) (fs : List (M U)) : M Fl := fun env => (evs fs env).bind fun us e1 => match frzs e1 us with
  | some ([d1, d2], e2) => (match setS i (.v d1) e2 with
    | some e3 => (match setS j (.v d2) e3 with
      | some e4 => .ok .next e4
      | none => .stuck)
    | none => .stuck)
  | _ => .stuck
section
variable {X : Cx} {Wx : WX} {i j : Nat} {x y : Str} {a b : Expr} {fa fb : M U} {px py pt pos : Pos} {kt k2 : Nat} {pt2 : Pos}
theorem s_par (hc : X.calm = true) (hN : X.N.Nodup) (hi : X.N[i]? = some x) (hj : X.N[j]? = some y) (hij : i ≠ j)
    (hx : X.env.scope.names.lookup x = some .local) (hy : X.env.scope.names.lookup y = some .local) (ha : EaS X Wx [a, b] [fa, fb])
    (hw : swappedStores [.Tuple [.Name x px, .Name y py] kt pt] (.Tuple [a, b] k2 pt2) X.env = pure (some [x, y]))
    (hs : swapsWithSole [.Tuple [.Name x px, .Name y py] kt pt] (.Tuple [a, b] k2 pt2) pos.line X.env = pure false := by rfl) :
    StS X Wx (.Assign [.Tuple [.Name x px, .Name y py] kt pt] (.Tuple [a, b] k2 pt2) pos) [i, j] (sPar i j [fa, fb]) :=
  PS.imp (ps_par hc hN hi hj hij hx hy ha hw hs) fun E σ H h => by
  obtain ⟨F, env, own, S, h⟩ := h
  have h : Po X.K X.mg Wx [i, j] E σ F H own (sPar i j [fa, fb] env) := h
  refine ⟨F, env, own, S, ?_⟩
  unfold sPar at h
  cases e : evs [fa, fb] env with
  | stuck => rw [e] at h; exact h
  | raise c env1 => rw [e] at h; exact fun C F' H' own' => h C σ F' H' own' Only.refl
  | ok us env1 =>
    rw [e, R.bind_ok] at h
    intro vs F1 H1 own1 p O
    cases e1 : frzs env1 us with
    | none => rw [e1] at h; exact h.elim
    | some pr =>
      obtain ⟨ds, e2⟩ := pr
      rw [e1] at h
      obtain ⟨F2, own2, r2, O2⟩ := O.frz (F2 := F) e1
      match ds, r2, h with
      | [d1, d2], .cons r1 (.cons r2 .nil), h =>
        rename_i v1 v2
        dsimp only at h
        refine ⟨v1, v2, rfl, ?_⟩
        cases e3 : setS i (.v d1) e2 with
        | none => rw [e3] at h; exact h.elim
        | some env3 =>
          rw [e3] at h
          dsimp only at h
          cases e4 : setS j (.v d2) env3 with
          | none => rw [e4] at h; exact h.elim
          | some env4 =>
            rw [e4] at h
            obtain ⟨own3, O3⟩ := ((Grow.refl O2.S.ex).out O2 (RepW.ofRep (H' := H1) r1)).set e3
            obtain ⟨own4, O4⟩ := ((Grow.refl O3.S.ex).out O3 (RepW.ofRep (H' := H1) r2)).set e4
            exact h _ _ _ _ (Only.set.trans Only.set) O4
      | [], _, h => exact h.elim
      | [_], _, h => exact h.elim
      | _ :: _ :: _ :: _, _, h => exact h.elim
end

/-! ### list(range(..)), tuple(range(..)) -/
def gRg (mk : List D → W) : List D → Option W
  | [.int n] => if -(2 ^ 62) ≤ n ∧ n ≤ 1000000 then some (mk (rangeD 0 n)) else none
  | [.int m, .int n] => if (-(2 ^ 62) ≤ m ∧ m < 2 ^ 62) ∧ (-(2 ^ 62) ≤ n ∧ n < 2 ^ 62) ∧ n - m ≤ 1000000 then some (mk (rangeD m n)) else none
  | _ => none
abbrev mkT (ds : List D) : W := .v (.tup ds)
abbrev mkL (ds : List D) : W := .l false ds
theorem rep_rg {K : PySem.W.Frag} {F : Hp} (a b : Int) : RepDs K F (rgV a b) (rangeD a b) := by
  unfold rgV rangeD
  induction (List.range (b - a).toNat) with
  | nil => exact .nil
  | cons x r ih => exact .cons (.int _) ih
section
variable {X : Cx} {Wx : WX} {a b : Expr} {fa fb : M U} {pos p p2 pos2 : Pos}
def rRg1 (K : PySem.W.Frag) (o : List V → HO) : List V → Hp → VK → Prop := fun vs H Q => ∃ n, vs = [.int n] ∧ RgOk 0 n ∧ ∀ q, H q = none → Q (.ref q) (upd H q (o (rgV 0 n)))
def rRg2 (K : PySem.W.Frag) (o : List V → HO) : List V → Hp → VK → Prop := fun vs H Q => ∃ m n, vs = [.int m, .int n] ∧ RgOk m n ∧ ∀ q, H q = none → Q (.ref q) (upd H q (o (rgV m n)))
theorem cd_rgT1 {K : PySem.W.Frag} : CaD K (fun vs H Q => ∀ n, vs = [.int n] → rRg1 K .tup vs H Q) (gRg mkT) := by
  intro F H vs ds w Q e vw hg q n hn
  subst hn
  unfold gRg at hg
  split at hg
  · rename_i n'
    split at hg
    · rename_i hb
      cases hg
      obtain ⟨x, ex, hx⟩ := vw.one
      cases ex
      cases hx.int
      exact ⟨n, rfl, ⟨by decide, by decide, hb.1, by omega, by omega⟩, fin_tup e (rep_rg 0 n) q⟩
    · cases hg
  · obtain ⟨x, y, ex, _⟩ := vw.two
    cases ex
  · cases hg
theorem tOf_ints1 {K : PySem.W.Frag} {mg : Str → Option Value} {mk : List D → W} {σ : L2.St} {H : Hp} {Q : VK} {o : List V → HO} (hfin : ∀ {F H : Hp} {a b : Int} {Q : VK}, Same F H → (∀ v F' H' p, Grow F H F' H' p → RepW K F' H' v (mk (rangeD a b)) p → Q v H') → ∀ p, H p = none → Q (.ref p) (upd H p (o (rgV a b))))
    (h : tOf K mg Wx (opN (gRg mk) [fa]) σ H Q) : tOf K mg Wx fa σ H fun x H1 => ∃ n, x = .int n ∧ RgOk 0 n ∧ ∀ q, H1 q = none → Q (.ref q) (upd H1 q (o (rgV 0 n))) := by
  have cd : CaD K (fun vs H Q => ∃ x, vs = [x] ∧ ∃ n, x = .int n ∧ RgOk 0 n ∧ ∀ q, H q = none → Q (.ref q) (upd H q (o (rgV 0 n))))  (fun ds => match ds with | [_] => gRg mk ds | _ => none) := by
    intro F H vs ds w Q e vw hg q
    match ds, vw, hg with
    | [d], vw, hg =>
      obtain ⟨x, rfl, hx⟩ := vw.one
      refine ⟨x, rfl, ?_⟩
      replace hg : gRg mk [d] = some w := hg
      unfold gRg at hg
      split at hg
      · rename_i n heq
        cases heq
        split at hg
        · rename_i hb
          cases hg
          exact ⟨n, hx.int, ⟨by decide, by decide, hb.1, by omega, by omega⟩, hfin e q⟩
        · cases hg
      · rename_i heq; cases heq
      · cases hg
  have h' : tOf K mg Wx (opN (fun ds => match ds with | [_] => gRg mk ds | _ => none) [fa]) σ H Q := by
    have e : opN (fun ds => match ds with | [_] => gRg mk ds | _ => none) [fa] = opN (gRg mk) [fa] := by
      funext env
      unfold opN evs evs
      cases fa env with
      | stuck => rfl
      | raise _ _ => rfl
      | ok u e1 =>
        simp only [R.bind_ok, datL]
        cases dat e1 u with
        | none => rfl
        | some d => rfl
    rw [e]; exact h
  exact tOf_mono (aOf_1 (aOf_op cd h')) fun x _ q => by
    obtain ⟨x', e, q⟩ := q
    cases e
    exact q
theorem tOf_ints2 {K : PySem.W.Frag} {mg : Str → Option Value} {mk : List D → W} {σ : L2.St} {H : Hp} {Q : VK} {o : List V → HO} (hfin : ∀ {F H : Hp} {a b : Int} {Q : VK}, Same F H → (∀ v F' H' p, Grow F H F' H' p → RepW K F' H' v (mk (rangeD a b)) p → Q v H') → ∀ p, H p = none → Q (.ref p) (upd H p (o (rgV a b))))
    (h : tOf K mg Wx (opN (gRg mk) [fa, fb]) σ H Q) : tOf K mg Wx fa σ H fun x H1 => tOf K mg Wx fb σ H1 fun y H2 => ∃ m n, x = .int m ∧ y = .int n ∧ RgOk m n ∧ ∀ q, H2 q = none → Q (.ref q) (upd H2 q (o (rgV m n))) := by
  have cd : CaD K (fun vs H Q => ∃ x y, vs = [x, y] ∧ ∃ m n, x = .int m ∧ y = .int n ∧ RgOk m n ∧ ∀ q, H q = none → Q (.ref q) (upd H q (o (rgV m n))))  (fun ds => match ds with | [_, _] => gRg mk ds | _ => none) := by
    intro F H vs ds w Q e vw hg q
    match ds, vw, hg with
    | [d, d2], vw, hg =>
      obtain ⟨x, y, rfl, hx, hy⟩ := vw.two
      refine ⟨x, y, rfl, ?_⟩
      replace hg : gRg mk [d, d2] = some w := hg
      unfold gRg at hg
      split at hg
      · rename_i heq; cases heq
      · rename_i m n heq
        cases heq
        split at hg
        · rename_i hb
          cases hg
          exact ⟨m, n, hx.int, hy.int, ⟨hb.1.1, hb.1.2, hb.2.1.1, hb.2.1.2, by omega⟩, hfin e q⟩
        · cases hg
      · cases hg
  have h' : tOf K mg Wx (opN (fun ds => match ds with | [_, _] => gRg mk ds | _ => none) [fa, fb]) σ H Q := by
    have e : opN (fun ds => match ds with | [_, _] => gRg mk ds | _ => none) [fa, fb] = opN (gRg mk) [fa, fb] := by
      funext env
      unfold opN evs evs evs
      cases fa env with
      | stuck => rfl
      | raise _ _ => rfl
      | ok u e1 =>
        simp only [R.bind_ok]
        cases fb e1 with
        | stuck => rfl
        | raise _ _ => rfl
        | ok u2 e2 =>
          simp only [R.bind_ok, datL]
          cases dat e2 u with
          | none => rfl
          | some d =>
            cases dat e2 u2 with
            | none => rfl
            | some d2 => rfl
    rw [e]; exact h
  exact tOf_mono (aOf_2 (aOf_op cd h')) fun x _ q => tOf_mono q fun y _ q => by
    obtain ⟨x', y', e, q⟩ := q
    cases e
    exact q
theorem e_tupRg1 (hc : X.calm = true) (hgt : Gl X "tuple") (hmt : X.mg "tuple" = none) (hg : Gl X "range") (hm : X.mg "range" = none) (ha : EvS X Wx a fa) (na : starEach [a] X.env = (false, eval a X.env) :: starEach [] X.env := by rfl)
    (na2 : starEach [.Call (.Name "range" p2) [a] [] pos2] X.env = (false, eval (.Call (.Name "range" p2) [a] [] pos2) X.env) :: starEach [] X.env := by rfl) : EvS X Wx (.Call (.Name "tuple" p) [.Call (.Name "range" p2) [a] [] pos2] [] pos) (opN (gRg mkT) [fa]) :=
  PE.imp (pe_tupRg hc hgt hmt (prg_1 hg hm ha na) na2) fun σ H Q h => tOf_mono (tOf_ints1 (fun e q => fin_tup e (rep_rg _ _) q) h) fun x _ q => by
    obtain ⟨n, rfl, ok, q⟩ := q
    exact ⟨n, rfl, ok, q⟩
theorem e_lstRg1 (hc : X.calm = true) (hgt : Gl X "list") (hmt : X.mg "list" = none) (hg : Gl X "range") (hm : X.mg "range" = none) (ha : EvS X Wx a fa) (na : starEach [a] X.env = (false, eval a X.env) :: starEach [] X.env := by rfl)
    (na2 : starEach [.Call (.Name "range" p2) [a] [] pos2] X.env = (false, eval (.Call (.Name "range" p2) [a] [] pos2) X.env) :: starEach [] X.env := by rfl) : EvS X Wx (.Call (.Name "list" p) [.Call (.Name "range" p2) [a] [] pos2] [] pos) (opN (gRg mkL) [fa]) :=
  PE.imp (pe_listRg hc hgt hmt (prg_1 hg hm ha na) na2) fun σ H Q h => tOf_mono (tOf_ints1 (fun e q => fin_lst e (rep_rg _ _) q) h) fun x _ q => by
    obtain ⟨n, rfl, ok, q⟩ := q
    exact ⟨n, rfl, ok, q⟩
theorem e_tupRg2 (hc : X.calm = true) (hgt : Gl X "tuple") (hmt : X.mg "tuple" = none) (hg : Gl X "range") (hm : X.mg "range" = none) (ha : EvS X Wx a fa) (hb : EvS X Wx b fb) (na : starEach [a, b] X.env = (false, eval a X.env) :: starEach [b] X.env := by rfl)
    (nb : starEach [b] X.env = (false, eval b X.env) :: starEach [] X.env := by rfl) (hp : (backTo pos2 (starEach [b] X.env)).any (·.1) = false := by rfl)
    (na2 : starEach [.Call (.Name "range" p2) [a, b] [] pos2] X.env = (false, eval (.Call (.Name "range" p2) [a, b] [] pos2) X.env) :: starEach [] X.env := by rfl) : EvS X Wx (.Call (.Name "tuple" p) [.Call (.Name "range" p2) [a, b] [] pos2] [] pos) (opN (gRg mkT) [fa, fb]) :=
  PE.imp (pe_tupRg hc hgt hmt (prg_2 hg hm ha hb na nb hp) na2) fun σ H Q h => tOf_mono (tOf_ints2 (fun e q => fin_tup e (rep_rg _ _) q) h) fun x _ q => tOf_mono q fun y _ q => by
    obtain ⟨m, n, rfl, rfl, ok, q⟩ := q
    exact ⟨m, n, rfl, rfl, ok, q⟩
theorem e_lstRg2 (hc : X.calm = true) (hgt : Gl X "list") (hmt : X.mg "list" = none) (hg : Gl X "range") (hm : X.mg "range" = none) (ha : EvS X Wx a fa) (hb : EvS X Wx b fb) (na : starEach [a, b] X.env = (false, eval a X.env) :: starEach [b] X.env := by rfl)
    (nb : starEach [b] X.env = (false, eval b X.env) :: starEach [] X.env := by rfl) (hp : (backTo pos2 (starEach [b] X.env)).any (·.1) = false := by rfl)
    (na2 : starEach [.Call (.Name "range" p2) [a, b] [] pos2] X.env = (false, eval (.Call (.Name "range" p2) [a, b] [] pos2) X.env) :: starEach [] X.env := by rfl) : EvS X Wx (.Call (.Name "list" p) [.Call (.Name "range" p2) [a, b] [] pos2] [] pos) (opN (gRg mkL) [fa, fb]) :=
  PE.imp (pe_listRg hc hgt hmt (prg_2 hg hm ha hb na nb hp) na2) fun σ H Q h => tOf_mono (tOf_ints2 (fun e q => fin_lst e (rep_rg _ _) q) h) fun x _ q => tOf_mono q fun y _ q => by
    obtain ⟨m, n, rfl, rfl, ok, q⟩ := q
    exact ⟨m, n, rfl, rfl, ok, q⟩
end
end DL

namespace DL
open PySem PySem.Spec PyProof.Rows L2

/-! ### range(a, b, c), c above 0 -/
def rangeC (lo c : Int) (n : Nat) : List D := (List.range n).map fun i => .int (lo + (i : Nat) * c)
def iterR3 (f g h : M U) : M (List D) := fun env => (evs [f, g, h] env).bind fun us e1 => match datL e1 us with
  | some [.int a, .int b, .int c] => if 0 < c ∧ c < 1000000 ∧ (0 ≤ a ∧ a ≤ 1000000) ∧ (0 ≤ b ∧ b ≤ 1000000) then .ok (rangeC a c (if b ≤ a then 0 else ((b - a - 1) / c + 1).toNat)) e1 else .stuck
  | _ => .stuck
theorem feeds_c {K : PySem.W.Frag} {F0 : Hp} {lo c : Int} {n : Nat} : Feeds K (Itc lo c n) F0 (rangeC lo c n) where
  go := fun F H i _ _ h => by
    show i < _
    unfold rangeC at h
    simpa using h
  yld := fun F H i x H' d e1 e2 hd y => by
    obtain ⟨rfl, rfl⟩ := y
    unfold rangeC at hd
    rw [List.getElem?_map] at hd
    cases e : (List.range n)[i]? with
    | none => rw [e] at hd; cases hd
    | some j =>
      rw [e] at hd
      have : j = i := by
        obtain ⟨h1, h2⟩ := List.getElem?_eq_some_iff.mp e
        simpa using h2.symm
      subst this
      cases hd
      exact ⟨F, Grow.refl e2, .int _⟩
  stop := fun F H _ _ => by
    show _ ≤ _
    unfold rangeC
    simp
theorem rgc_ok {a b c : Int} (h : 0 < c ∧ c < 1000000 ∧ (0 ≤ a ∧ a ≤ 1000000) ∧ (0 ≤ b ∧ b ≤ 1000000)) : RgC a b c (if b ≤ a then 0 else ((b - a - 1) / c + 1).toNat) := by
  obtain ⟨h1, h2, ⟨h3, h4⟩, ⟨h5, h6⟩⟩ := h
  have hz : Builtin.Range.rangeSize a b c = ((if b ≤ a then 0 else ((b - a - 1) / c + 1).toNat : Nat) : Int) := by
    unfold Builtin.Range.rangeSize
    by_cases q : b ≤ a
    · simp [h1, q, Int.not_lt.mpr q]
    · have : 0 ≤ (b - a - 1) / c := Int.ediv_nonneg (by omega) (by omega)
      have ef : (b - a - 1).fdiv c = (b - a - 1) / c := Int.fdiv_eq_ediv_of_nonneg _ (by omega)
      simp [h1, q, Int.not_le.mp q]
      omega
  refine ⟨by omega, by omega, ?_, hz⟩
  have hn : 0 ≤ Builtin.Range.rangeSize a b c ∧ Builtin.Range.rangeSize a b c ≤ 1000001 := by
    unfold Builtin.Range.rangeSize
    rw [if_pos h1]
    split
    · have q1 : 0 ≤ (b - a - 1) / c := Int.ediv_nonneg (by omega) (by omega)
      have q2 : (b - a - 1) / c ≤ b - a - 1 := Int.ediv_le_self _ (by omega)
      omega
    · omega
  unfold Builtin.Range.small
  generalize Builtin.Range.rangeSize a b c = z at hn
  simp only [Builtin.Range.rangeFitsLong, Bool.and_eq_true, Bool.or_eq_true, decide_eq_true_eq, beq_iff_eq, show c > 0 from h1, if_true]
  omega
section
variable {X : Cx} {Wx : WX} {tg a b c : Expr} {fa fb fc : M U} {p pos : Pos}
theorem i_range3 (hg : Gl X "range") (hm : X.mg "range" = none) (ha : EvS X Wx a fa) (hb : EvS X Wx b fb) (hc : EvS X Wx c fc) (hs : starEach [a, b, c] X.env = (false, eval a X.env) :: starEach [b, c] X.env := by rfl) (hs2 : starEach [b, c] X.env = (false, eval b X.env) :: starEach [c] X.env := by rfl) (hs3 : starEach [c] X.env = (false, eval c X.env) :: starEach [] X.env := by rfl)
    (hpl : (backTo pos (starEach [b, c] X.env)).any (·.1) = false := by rfl) : ItS X Wx tg (.Call (.Name "range" p) [a, b, c] [] pos) (iterR3 fa fb fc) :=
  PI.imp (pi_range3 hg hm (show EaS X Wx [a, b, c] [fa, fb, fc] from ea_cons ha (ea_cons hb (ea_cons hc ea_nil hs3) hs2) hs) hs hpl) fun σ H RR h => by
  obtain ⟨F, env, own, S, h⟩ := h
  refine ⟨F, env, own, S, ?_⟩
  unfold iterR3 at h
  cases e : evs [fa, fb, fc] env with
  | stuck => rw [e] at h; exact h
  | raise c env1 => rw [e] at h; exact h
  | ok us env1 =>
    rw [e, R.bind_ok] at h
    intro vs F1 H1 own1 q O
    cases e1 : datL env1 us with
    | none => rw [e1] at h; exact h.elim
    | some ds =>
      rw [e1] at h
      have vw := RepUs.views O.S O.r e1
      split at h
      · rename_i ds' env' heq
        split at heq
        · rename_i i j k hn
          cases hn
          split at heq
          · rename_i hb
            cases heq
            cases vw with
            | cons h1 h2 =>
              obtain ⟨x, y, rfl, hx, hy⟩ := h2.two
              exact ⟨i, j, k, _, by rw [h1.int, hx.int, hy.int], rgc_ok hb, h _ _ _ _ O.drop feeds_c⟩
          · cases heq
        · cases heq
      · rename_i heq
        split at heq
        · split at heq <;> cases heq
        · cases heq
      · exact h.elim
end

/-! ### list.index, list.count -/
def idxD (d : D) : List D → Option Nat
  | [] => none
  | x :: r => if deq x d then some 0 else (idxD d r).map (· + 1)
def gIdx : List D → Option W
  | [.lst ds, d] => if fine 60 (.lst ds) && fine 60 d then (idxD d ds).map fun n => .v (.int (n : Nat)) else none
  | _ => none
theorem idxD_spec {d : D} : ∀ {ds : List D} {n : Nat}, idxD d ds = some n → ∃ x, ds[n]? = some x ∧ deq x d = true ∧ ∀ m x', m < n → ds[m]? = some x' → deq x' d = false
  | [], n, h => by cases h
  | x :: r, n, h => by
    unfold idxD at h
    by_cases c : deq x d = true
    · rw [if_pos c] at h
      cases h
      exact ⟨x, rfl, c, fun m x' hm => absurd hm (Nat.not_lt_zero _)⟩
    · rw [if_neg c] at h
      obtain ⟨k, h1, rfl⟩ := Option.map_eq_some_iff.mp h
      obtain ⟨y, h2, h3, h4⟩ := idxD_spec h1
      refine ⟨y, by simpa using h2, h3, fun m x' hm e => ?_⟩
      cases m with
      | zero =>
        simp at e
        subst e
        cases q : deq x d with
        | true => exact absurd q c
        | false => rfl
      | succ m => exact h4 m x' (by omega) (by simpa using e)
theorem toPys_get : ∀ {ds : List D} {n : Nat} {x : D}, ds[n]? = some x → (toPys ds)[n]? = some (toPy x) := fun {ds n x} h => by
  rw [toPys_map, List.getElem?_map, h]; rfl
theorem toPys_get' {ds : List D} {n : Nat} {z : PyData} (h : (toPys ds)[n]? = some z) : ∃ x, ds[n]? = some x ∧ z = toPy x := by
  rw [toPys_map, List.getElem?_map] at h
  cases e : ds[n]? with
  | none => rw [e] at h; cases h
  | some x => rw [e] at h; cases h; exact ⟨x, rfl, rfl⟩
/-- o.m(e): the receiver a list; what it tells, by data; nothing is changed -/
def opM (g : List D → Option W) (fo fe : M U) : M U := fun env => (fo env).bind fun u0 e0 => match dat e0 u0 with
  | some (.lst _) => (fe e0).bind fun u e1 => (match dat e1 u0, dat e1 u with
    | some d0, some d => (match g [d0, d] with
      | some w => .ok (.w w) e1
      | none => .stuck)
    | _, _ => .stuck)
  | _ => .stuck
def rM (r : V → List V → Hp → VK → Prop) : List V → Hp → VK → Prop := fun vs H Q => ∃ x y, vs = [x, y] ∧ r x [y] H Q
theorem meth_sem {K : PySem.W.Frag} {mg : Str → Option Value} {Wx : WX} {r : V → List V → Hp → VK → Prop} {g : List D → Option W} {fo fe : M U} {σ : L2.St} {H : Hp} {Q : VK} (cd : CaD K (rM r) g) (h : tOf K mg Wx (opM g fo fe) σ H Q) :
    tBM K "list" r (tOf K mg Wx fo) (tCons (tOf K mg Wx fe) tNil) σ H Q := by
  obtain ⟨F, env, own, S, h⟩ := h
  unfold opM at h
  refine tOf_use S (fun u0 env0 e0 v0 F0 H0 own0 p0 O0 => ?_) (fun c env1 e1 C F1 H1 own1 => ?_) (fun e1 => ?_)
  · rw [e0, R.bind_ok] at h
    cases ed : dat env0 u0 with
    | none => rw [ed] at h; exact h.elim
    | some d0 =>
      rw [ed] at h
      cases d0 with
      | lst ds0 =>
        dsimp only at h
        obtain ⟨a, vs, rfl, hr, _⟩ := (RepU.view O0.S O0.r ed).lst
        refine ⟨Or.inl ⟨rfl, vs, .inl hr⟩, ?_⟩
        refine tOf_use O0.S (fun u env1 e1 v F1 H1 own1 p1 O1 => ?_) (fun c env1 e1 C F1 H1 own1 hm O1 => ?_) (fun e1 => ?_)
        · rw [e1, R.bind_ok] at h
          have OO := O0.out2 O1
          cases e2 : dat env1 u0 with
          | none => rw [e2] at h; exact h.elim
          | some d1 =>
            cases e3 : dat env1 u with
            | none => rw [e2, e3] at h; exact h.elim
            | some d =>
              rw [e2, e3] at h
              dsimp only at h
              cases e4 : g [d1, d] with
              | none => rw [e4] at h; exact h.elim
              | some w =>
                rw [e4] at h
                obtain ⟨x, y, ex, q⟩ := cd F1 H1 [.ref a, v] [d1, d] w Q OO.S.ex (.cons (RepU.view OO.S OO.r1 e2) (.cons (RepU.view OO.S OO.r2 e3) .nil)) e4 fun v' F' H' p gr rw' => h _ _ _ _ _ (gr.out OO.drop rw')
                cases ex
                exact q
        · rw [e1] at h
          exact h C F1 H1 own1 hm (O0.drop.trans O1)
        · rw [e1] at h
          exact h
      | _ => exact h.elim
  · rw [e1] at h
    exact h C F1 H1 own1
  · rw [e1] at h
    exact h
theorem cd_idx {K : PySem.W.Frag} : CaD K (rM (rIndexD K)) gIdx := by
  intro F H vs ds w Q e vw hg q
  unfold gIdx at hg
  split at hg
  · rename_i xs d
    obtain ⟨x, y, rfl, hx, hy⟩ := vw.two
    split at hg
    · rename_i hf
      obtain ⟨f1, f2⟩ := Bool.and_eq_true_iff.mp hf
      obtain ⟨n, h1, rfl⟩ := Option.map_eq_some_iff.mp hg
      obtain ⟨z, h2, h3, h4⟩ := idxD_spec h1
      have hd := hx.dp e f1
      obtain ⟨a, us, rfl, _⟩ := hx.lst
      exact ⟨_, _, rfl, a, y, toPy d, toPys xs, n, toPy z, rfl, rfl, hd, hy.dp e f2, fine_shaped f1, fine_shaped f2, toPys_get h2, h3, fun m z' hm hz => by
        obtain ⟨x', e1, rfl⟩ := toPys_get' hz
        exact h4 m x' hm e1, fin_int e q⟩
    · cases hg
  · cases hg
def gCnt : List D → Option W
  | [.lst ds, .int k] => (intsOf ds).map fun ns => .v (.int ((ns.count k : Nat) : Int))
  | _ => none
theorem cd_cnt {K : PySem.W.Frag} : CaD K (rM (rCntI K)) gCnt := by
  intro F H vs ds w Q e vw hg q
  unfold gCnt at hg
  split at hg
  · rename_i xs k
    obtain ⟨x, y, rfl, hx, hy⟩ := vw.two
    obtain ⟨ns, h1, rfl⟩ := Option.map_eq_some_iff.mp hg
    obtain ⟨a, us, rfl, h2, r⟩ := hx.lst
    rw [intsOf_eq h1] at r
    have := r.ints
    subst this
    exact ⟨_, _, rfl, a, ns, k, rfl, by rw [hy.int], .inl h2, fin_int e q⟩
  · cases hg
section
variable {X : Cx} {Wx : WX} {o e : Expr} {fo fe : M U} {apos cpos : Pos} {name : Str} {id : String} {r : V → List V → Hp → VK → Prop} {g : List D → Option W}
theorem e_meth (slot : Slot "list" name id) (hty : typeOf (.builtin id) = pure (.type "method_descriptor")) (hm : MtR X id r) (cd : CaD X.K (rM r) g) (ho : EvS X Wx o fo) (he : EvS X Wx e fe)
    (hs0 : starEach [e] X.env = (false, eval e X.env) :: starEach [] X.env := by rfl)
    (hbase : attributeBase o name X.env (eval o X.env) = eval o X.env := by rfl)
    (hfew : ((backTo cpos (starEach [e] X.env)).all (fun x => !x.1) && (backToKw cpos (keywordEach [] X.env)).all (fun x => x.1.isSome)
      && decide ([e].length + ([] : List Keyword).length + (if ([] : List Keyword).isEmpty then 0 else 1) < 30)) = true := by rfl)
    (hline : (apos.endLine == cpos.line) = true := by rfl) (hplain : (backTo cpos (starEach [] X.env)).any (·.1) = false := by rfl) :
    EvS X Wx (.Call (.Attribute o name apos) [e] [] cpos) (opM g fo fe) :=
  PE.imp (pe_bm PySem.F.plainAttrs_list slot hty hm ho (pa_cons he pa_nil hs0) hbase hfew hline hs0 hplain) fun σ H Q h => meth_sem cd h
end

/-! ### sorted, of tuples of ints -/
theorem RepDs.perm {K : PySem.W.Frag} {F : Hp} : ∀ {xs ys : List V}, ys.Perm xs → ∀ {ds : List D}, RepDs K F xs ds → ∃ ds', RepDs K F ys ds' ∧ ds'.Perm ds := fun {xs ys} p => by
  induction p with
  | nil => intro ds r; cases r; exact ⟨[], .nil, List.Perm.refl _⟩
  | cons x p ih =>
    intro ds r
    cases r with
    | cons h t =>
      obtain ⟨ds', r', p'⟩ := ih t
      exact ⟨_, .cons h r', p'.cons _⟩
  | swap x y l =>
    intro ds r
    cases r with
    | cons h t => cases t with
      | cons h2 t2 => exact ⟨_, .cons h2 (.cons h t2), List.Perm.swap _ _ _⟩
  | trans p1 p2 ih1 ih2 =>
    intro ds r
    obtain ⟨d1, r1, q1⟩ := ih2 r
    obtain ⟨d2, r2, q2⟩ := ih1 r1
    exact ⟨d2, r2, q2.trans q1⟩
def tupInts : D → Option (List Int)
  | .tup l => intsOf l
  | _ => none
def okT (d : Nat) (B : Int) (x : D) : Bool := match tupInts x with
  | some ns => ns.length == d && ns.all fun m => decide (0 ≤ m) && decide (m < B)
  | none => false
def codeT (B : Int) (x : D) : Int := match tupInts x with
  | some ns => TS.code B ns
  | none => 0
def insT (B : Int) (x : D) : List D → List D
  | [] => [x]
  | y :: r => if codeT B x ≤ codeT B y then x :: y :: r else y :: insT B x r
def sortT (B : Int) : List D → List D
  | [] => []
  | x :: r => insT B x (sortT B r)
theorem insT_perm (B : Int) (x : D) : ∀ l : List D, (insT B x l).Perm (x :: l)
  | [] => List.Perm.refl _
  | y :: r => by
    unfold insT
    by_cases c : codeT B x ≤ codeT B y
    · rw [if_pos c]
    · rw [if_neg c]
      exact ((insT_perm B x r).cons y).trans (List.Perm.swap x y r)
theorem sortT_perm (B : Int) : ∀ l : List D, (sortT B l).Perm l
  | [] => List.Perm.refl _
  | x :: r => (insT_perm B x (sortT B r)).trans ((sortT_perm B r).cons x)
theorem insT_sorted (B : Int) (x : D) : ∀ l : List D, l.Pairwise (fun a b => codeT B a ≤ codeT B b) → (insT B x l).Pairwise (fun a b => codeT B a ≤ codeT B b)
  | [], _ => List.pairwise_singleton _ _
  | y :: r, h => by
    obtain ⟨h1, h2⟩ := List.pairwise_cons.mp h
    unfold insT
    by_cases c : codeT B x ≤ codeT B y
    · rw [if_pos c]
      refine List.pairwise_cons.mpr ⟨fun z hz => ?_, h⟩
      rcases List.mem_cons.mp hz with rfl | hz
      · exact c
      · have := h1 z hz; omega
    · rw [if_neg c]
      refine List.pairwise_cons.mpr ⟨fun z hz => ?_, insT_sorted B x r h2⟩
      rcases List.mem_cons.mp ((insT_perm B x r).mem_iff.mp hz) with rfl | hz
      · omega
      · exact h1 z hz
theorem sortT_sorted (B : Int) : ∀ l : List D, (sortT B l).Pairwise (fun a b => codeT B a ≤ codeT B b)
  | [] => List.Pairwise.nil
  | x :: r => insT_sorted B x _ (sortT_sorted B r)
theorem code_inj {B : Int} : ∀ {r q : List Int}, r.length = q.length → TS.Bd B r → TS.Bd B q → TS.code B r = TS.code B q → r = q
  | [], [], _, _, _, _ => rfl
  | [], _ :: _, h, _, _, _ => by cases h
  | _ :: _, [], h, _, _, _ => by cases h
  | d :: r, e :: q, h, hr, hq, hc => by
    have hl : r.length = q.length := by simpa using h
    rcases Int.lt_trichotomy d e with z | z | z
    · have := TS.code_lt hl hr.tail hq.tail z
      omega
    · subst z
      have k1 := TS.code_same (B := B) (d := d) hl
      have k2 := TS.code_same (B := B) (d := d) hl.symm
      have e1 : TS.code B r = TS.code B q := by
        by_cases c : TS.code B r < TS.code B q
        · have := k1.mpr c; omega
        · by_cases c2 : TS.code B q < TS.code B r
          · have := k2.mpr c2; omega
          · omega
      rw [code_inj hl hr.tail hq.tail e1]
    · have := TS.code_lt hl.symm hq.tail hr.tail z
      omega
theorem okT_spec {d : Nat} {B : Int} {x : D} (h : okT d B x = true) : ∃ ns, x = .tup (ns.map D.int) ∧ ns.length = d ∧ TS.Bd B ns ∧ codeT B x = TS.code B ns := by
  unfold okT at h
  cases e : tupInts x with
  | none => rw [e] at h; cases h
  | some ns =>
    rw [e] at h
    obtain ⟨h1, h2⟩ := Bool.and_eq_true_iff.mp h
    refine ⟨ns, ?_, beq_iff_eq.mp h1, fun m hm => ?_, by unfold codeT; rw [e]⟩
    · cases x with
      | tup l => rw [intsOf_eq (show intsOf l = some ns from e)]
      | _ => cases e
    · rw [List.all_eq_true] at h2
      have := h2 m hm
      simp only [Bool.and_eq_true, decide_eq_true_eq] at this
      exact this
def gSortT (d : Nat) (B : Int) : List D → Option W
  | [.lst ds] => if ds.length < 64 ∧ ds.all (okT d B) = true then some (.l false (sortT B ds)) else none
  | _ => none
theorem cd_sortT {K : PySem.W.Frag} {d : Nat} {B : Int} : CaD K (rSortU K d B) (gSortT d B) := by
  intro F H vs ds w Q e vw hg q
  unfold gSortT at hg
  split at hg
  · rename_i xs
    obtain ⟨x, rfl, hx⟩ := vw.one
    split at hg
    · rename_i hc
      cases hg
      obtain ⟨hl, ha⟩ := hc
      rw [List.all_eq_true] at ha
      obtain ⟨a, us, rfl, h2, r⟩ := hx.lst
      have rep : ∀ {v : V} {ns : List Int}, RepD K F v (.tup (ns.map D.int)) → TupI K H v ns := fun {v ns} h => by
        cases h with
        | tup h1 h2 =>
          rw [h2.ints] at h1
          exact ⟨_, rfl, SqT.of (e _ _ h1)⟩
      refine ⟨a, us, rfl, .inl h2, by rw [r.length]; exact hl, fun v hv => ?_, fun ys p hp hs hn => ?_⟩
      · obtain ⟨i, hi⟩ := List.getElem?_of_mem hv
        obtain ⟨dd, h3, h4⟩ := r.getv hi
        obtain ⟨ns, rfl, h5, h6, _⟩ := okT_spec (ha dd (List.mem_of_getElem? h3))
        exact ⟨ns, rep h4, h5, h6⟩
      · obtain ⟨ds', r', p'⟩ := r.perm hp
        have ok' : ∀ y ∈ ds', okT d B y = true := fun y hy => ha y (p'.mem_iff.mp hy)
        have srt : ds'.Pairwise (fun a b => codeT B a ≤ codeT B b) := by
          have key : ∀ {ys : List V} {ds' : List D}, RepDs K F ys ds' → (∀ y ∈ ds', okT d B y = true) → ys.Pairwise (fun x y => ∀ n m, TupI K H x n → TupI K H y m → TS.code B n ≤ TS.code B m) → ds'.Pairwise (fun a b => codeT B a ≤ codeT B b) := by
            intro ys ds' r ok hs
            induction ys generalizing ds' with
            | nil => cases r; exact List.Pairwise.nil
            | cons v vs ih =>
              cases r with
              | cons h t =>
                obtain ⟨s1, s2⟩ := List.pairwise_cons.mp hs
                refine List.pairwise_cons.mpr ⟨fun z hz => ?_, ih t (fun y hy => ok y (List.mem_cons_of_mem _ hy)) s2⟩
                obtain ⟨i, hi⟩ := List.getElem?_of_mem hz
                obtain ⟨u, hu, ru⟩ := t.get hi
                obtain ⟨n1, rfl, _, _, c1⟩ := okT_spec (ok _ List.mem_cons_self)
                obtain ⟨n2, rfl, _, _, c2⟩ := okT_spec (ok z (List.mem_cons_of_mem _ hz))
                rw [c1, c2]
                exact s1 u (List.mem_of_getElem? hu) n1 n2 (rep h) (rep ru)
          exact key r' ok' hs
        have ed : ds' = sortT B xs := (p'.trans (sortT_perm B xs).symm).eq_of_pairwise (fun x y hx hy c1 c2 => by
          obtain ⟨n1, rfl, l1, b1, e1⟩ := okT_spec (ok' x hx)
          obtain ⟨n2, rfl, l2, b2, e2⟩ := okT_spec (ok' y (by
            have : y ∈ ds' ∨ y ∈ sortT B xs := by first | exact .inl hy | exact .inr hy
            rcases this with z | z
            · exact z
            · exact p'.mem_iff.mpr ((sortT_perm B xs).mem_iff.mp z)))
          rw [code_inj (l1.trans l2.symm) b1 b2 (by omega)]) srt (sortT_sorted B xs)
        subst ed
        exact fin_lst e r' q p hn
    · cases hg
  · cases hg
end DL

namespace DL
open PySem PySem.Spec PyProof.Rows L2

/-! ### what a caller knows of a def, of an error's class -/
structure Cal (P : Program) (w : World) (K : PySem.W.Frag) (mg : Str → Option Value) (base : Heap) (k : Nat) (x : Str) (ps : List Str) (g : List W → RF) : Prop where
  ex : ∃ (f : Addr) (fd : FuncData), FnS P w K mg base k f fd ps g ∧ mg x = some (.ref f) ∧ PySem.W.keepIn K (.ref f) = true ∧ Binds K fd ps []
abbrev veMro : List Value := [.type "ValueError", .type "Exception", .type "BaseException", .type "object"]
structure Exn (K : PySem.W.Frag) (mg : Str → Option Value) (x : Str) : Prop where
  ex : ∃ C : Addr, mg x = some (.ref C) ∧ PySem.W.excIn K C veMro "ValueError.__new__" = true ∧ PySem.W.keepIn K (.ref C) = true ∧ PySem.W.subIn K (.ref C) (.type "BaseException") = some true ∧ PySem.W.typeIn K (.ref C) = some (.type "type")
theorem Cal.mono {P : Program} {w : World} {K : PySem.W.Frag} {mg : Str → Option Value} {base : Heap} {j k : Nat} {x : Str} {ps : List Str} {g : List W → RF} (c : Cal P w K mg base j x ps g) (h : j ≤ k) : Cal P w K mg base k x ps g := by
  obtain ⟨f, fd, G, r⟩ := c.ex
  exact ⟨f, fd, G.mono h, r⟩
theorem Cal.weak {P : Program} {w : World} {K : PySem.W.Frag} {mg : Str → Option Value} {base : Heap} {k : Nat} {x : Str} {ps : List Str} {g g' : List W → RF} (c : Cal P w K mg base k x ps g) (e : ∀ ws, g' ws ≠ .stuck → g ws = g' ws) : Cal P w K mg base k x ps g' := by
  obtain ⟨f, fd, G, r⟩ := c.ex
  exact ⟨f, fd, FnS.weak G e, r⟩
section
variable {X : Cx} {Wx : WX} {j k : Nat} {ps : List Str} {g : List W → RF} {x : Str} {p pos pos' p2 : Pos} {e : Expr} {es : List Expr} {fs : List (M U)} {ms : List (Option Nat)}
theorem e_callC (C : Cal X.prog X.w X.K X.mg X.base j x ps g) (tk : Takes X Wx) (hr : Room k X.A) (ha : EaS X Wx (e :: es) fs) (hjk : j ≤ k) (hg : Gl X x := by rfl)
    (nd : (ms.filterMap id).Nodup := by decide) (hn : ms.length = ps.length := by rfl) (hdb : (x == ("__debug__" : Str)) = false := by decide) (he : starEach (e :: es) X.env = (false, eval e X.env) :: starEach es X.env := by rfl) (hpl : (backTo pos (starEach es X.env)).any (·.1) = false := by rfl) :
    EvS X Wx (.Call (.Name x p) (e :: es) [] pos) (callF g ms fs) := by
  obtain ⟨f, fd, G, hm, hk, hb⟩ := C.ex
  exact e_call G tk (hr.mono hjk) hg hm hk hb ha nd hn hdb he hpl
theorem s_raiseC {m : Str} {i : Nat} (C : Exn X.K X.mg x) (tk : Takes X Wx) (hc : X.calm = true := by rfl) (hg : Gl X x := by rfl) (hdb : (x == ("__debug__" : Str)) = false := by decide) :
    StS X Wx (.Raise (some (.Call (.Name x p) [.Constant (.str m) i p2] [] pos)) none pos') [] (sRaise x) := by
  obtain ⟨A, gC, q, kC, bC, tC⟩ := C.ex
  exact s_raise hc tk PySem.F.excBase_ValueError q gC kC (raises_own bC tC) hg hdb
end

theorem hu65 {A : Around} {k : Nat} (hr : Room k A) : A.units + 65 < cLine := by have := hr.un; omega
/-! ### the law -/
def lawOk (g : List W → RF) : Prop := ∀ ns : List Int, ns.length ≤ 63 → ∃ ws, g [.v (.scr ns)] = .ok (.v (.bl true)) ws
def spLaw (K : PySem.W.Frag) : Sp := fun vs H Q _ => ∃ (a : Addr) (ns : List Int), vs = [.ref a] ∧ SqL K H a (ns.map V.int) ∧ ns.length ≤ 63 ∧ (∀ b, H b = none ∨ ∃ o xs, H b = some (.frz o (.lst xs))) ∧ ∀ H', Q (.bl true) H'
theorem law_of {P : Program} {w : World} {K : PySem.W.Frag} {mg : Str → Option Value} {base : Heap} {k : Nat} {f : Addr} {fd : FuncData} {x : Str} {g : List W → RF} (G : FnS P w K mg base k f fd [x] g) (h : lawOk g) : FnOk P w K mg base CX0 k f fd [x] (spLaw K) := by
  refine ⟨fun vs H Q E q => by obtain ⟨a, ns, rfl, _⟩ := q; rfl, fun A outer s H args us vs Q E hr he hb hv hs => ?_⟩
  obtain ⟨a, ns, rfl, hS, hl, hO, q⟩ := hs
  obtain ⟨ws, hg⟩ := h ns hl
  have sp : spOf K mg [x].length g [.ref a] H Q E0 := by
    refine ⟨rfl, H, [.v (.scr ns)], fun _ _ => False, ⟨Same.refl _, rfl, fun i w e => ?_, fun _ _ z => z.elim, fun _ _ _ z => z.elim⟩, ?_⟩
    · cases i with
      | zero => simp at e; subst e; exact ⟨.ref a, rfl, fun _ z => z, .scr hS⟩
      | succ i => simp at e
    · rw [hg]
      intro v F' H' own' p O
      obtain ⟨_, r⟩ := O.r
      cases r
      exact q H'
  refine codeAny_mono (G.run A outer s H args us [.ref a] Q E0 hr he hb hv sp) fun r s' hq => ?_
  cases r with
  | ok fl => cases fl <;> exact hq
  | error e =>
    obtain ⟨_, _, _, _, _, _, _, _, _, _, _, _, z⟩ := (show L2.CX P w outer H s E0 e s' from hq)
    exact z.elim
end DL

namespace DL
open PySem PySem.Spec PyProof.Rows L2
/-! ### telling what a body makes, by simp -/
@[simp ↓] theorem eVar_ap (i : Nat) (env : DEnv) : eVar i env = (match env[i]? with
  | some (some (.v d)) => .ok (.w (.v d)) env
  | some (some (.l _ _)) => .ok (.b i) env
  | some (some (.m _ _)) => .ok (.b i) env
  | _ => .stuck : R U) := Eq.trans rfl rfl
@[simp ↓] theorem eD_ap (d : D) (env : DEnv) : eD d env = (.ok (.w (.v d)) env : R U) := Eq.trans rfl rfl
@[simp ↓] theorem opN_ap (g : List D → Option W) (fs : List (M U)) (env : DEnv) : opN g fs env = ((evs fs env).bind fun us e1 => match datL e1 us with
  | some ds => match g ds with
    | some w => .ok (.w w) e1
    | none => .stuck
  | none => .stuck : R U) := Eq.trans rfl rfl
@[simp ↓] theorem intOnly_ap (f : M U) (env : DEnv) : intOnly f env = ((f env).bind fun u e => match u with
  | .w (.v (.int _)) => .ok u e
  | _ => .stuck : R U) := Eq.trans rfl rfl
@[simp ↓] theorem dTup_ap (fs : List (M U)) (env : DEnv) : dTup fs env = ((evs fs env).bind fun us e1 => match frzs e1 us with
  | some (ds, e2) => if ds.length ≤ 1000000 then .ok (.w (.v (.tup ds))) e2 else .stuck
  | none => .stuck : R U) := Eq.trans rfl rfl
@[simp ↓] theorem dLst_ap (fs : List (M U)) (env : DEnv) : dLst fs env = ((evs fs env).bind fun us e1 => match frzs e1 us with
  | some (ds, e2) => if ds.length ≤ 1000000 then .ok (.w (.l false ds)) e2 else .stuck
  | none => .stuck : R U) := Eq.trans rfl rfl
@[simp ↓] theorem tst_ap (f : M U) (env : DEnv) : tst f env = ((f env).bind fun u e1 => match dat e1 u with
  | some (.bl b) => .ok b e1
  | _ => .stuck : R Bool) := Eq.trans rfl rfl
@[simp ↓] theorem tAndD_ap (t u : M Bool) (env : DEnv) : tAndD t u env = ((t env).bind fun b e1 => if b then u e1 else .ok false e1 : R Bool) := Eq.trans rfl rfl
@[simp ↓] theorem tOrD_ap (t u : M Bool) (env : DEnv) : tOrD t u env = ((t env).bind fun b e1 => if b then .ok true e1 else u e1 : R Bool) := Eq.trans rfl rfl
@[simp ↓] theorem tNotD_ap (t : M Bool) (env : DEnv) : tNotD t env = ((t env).bind fun b e1 => .ok (!b) e1 : R Bool) := Eq.trans rfl rfl
@[simp ↓] theorem vAnd_ap (fa fb : M U) (env : DEnv) : vAnd fa fb env = ((fa env).bind fun u e1 => match dat e1 u with
  | some (.bl b) => if b then fb e1 else .ok (.w (.v (.bl false))) e1
  | _ => .stuck : R U) := Eq.trans rfl rfl
@[simp ↓] theorem vOr_ap (fa fb : M U) (env : DEnv) : vOr fa fb env = ((fa env).bind fun u e1 => match dat e1 u with
  | some (.bl b) => if b then .ok (.w (.v (.bl true))) e1 else fb e1
  | _ => .stuck : R U) := Eq.trans rfl rfl
@[simp ↓] theorem eIf_ap (t : M Bool) (fa fb : M U) (env : DEnv) : eIf t fa fb env = ((t env).bind fun b e1 => if b then fa e1 else fb e1 : R U) := Eq.trans rfl rfl
@[simp ↓] theorem vChain_ap (g g' : List D → Option W) (fa fb fc : M U) (env : DEnv) : vChain g g' fa fb fc env = ((fa env).bind fun u1 e1 => (fb e1).bind fun u2 e2 => match dat e2 u1, dat e2 u2 with
  | some d1, some d2 => match g [d1, d2] with
    | some (.v (.bl k)) => if k then (fc e2).bind fun u3 e3 => (match dat e3 u2, dat e3 u3 with
        | some d2, some d3 => (match g' [d2, d3] with
          | some w => .ok (.w w) e3
          | none => .stuck)
        | _, _ => .stuck) else .ok (.w (.v (.bl false))) e2
    | _ => .stuck
  | _, _ => .stuck : R U) := Eq.trans rfl rfl
@[simp ↓] theorem callF_ap (g : List W → RF) (ms : List (Option Nat)) (fs : List (M U)) (env : DEnv) : callF g ms fs env = ((evs fs env).bind fun us e1 => match frzM ms e1 us with
  | some (l, e2) => match takeW e2 ms l with
    | some ws => match g ws with
      | .ok w ws' => (match putW ms ws' e2 with
        | some e3 => .ok (.w w) e3
        | none => .stuck)
      | .raise c ws' => (match putW ms ws' e2 with
        | some e3 => .raise c e3
        | none => .stuck)
      | .stuck => .stuck
    | none => .stuck
  | none => .stuck : R U) := Eq.trans rfl rfl
@[simp ↓] theorem iterSeq_ap (f : M U) (env : DEnv) : iterSeq f env = ((f env).bind fun u e1 => match frz1 e1 u with
  | some (d, e2) => (match seqOf d with
    | some ds => .ok ds e2
    | none => .stuck)
  | none => .stuck : R (List D)) := Eq.trans rfl rfl
@[simp ↓] theorem iterEnum_ap (f : M U) (env : DEnv) : iterEnum f env = ((iterSeq f env).bind fun ds e => .ok (pairs0 ds) e : R (List D)) := Eq.trans rfl rfl
@[simp ↓] theorem iterR1_ap (f : M U) (env : DEnv) : iterR1 f env = ((evs [f] env).bind fun us e1 => match datL e1 us with
  | some [.int n] => if -(2 ^ 62) ≤ n ∧ n < 2 ^ 62 then .ok (rangeD 0 n) e1 else .stuck
  | _ => .stuck : R (List D)) := Eq.trans rfl rfl
@[simp ↓] theorem iterR2_ap (f g : M U) (env : DEnv) : iterR2 f g env = ((evs [f, g] env).bind fun us e1 => match datL e1 us with
  | some [.int m, .int n] => if (-(2 ^ 62) ≤ m ∧ m < 2 ^ 62) ∧ (-(2 ^ 62) ≤ n ∧ n < 2 ^ 62) then .ok (rangeD m n) e1 else .stuck
  | _ => .stuck : R (List D)) := Eq.trans rfl rfl
@[simp ↓] theorem iterR3_ap (f g h : M U) (env : DEnv) : iterR3 f g h env = ((evs [f, g, h] env).bind fun us e1 => match datL e1 us with
  | some [.int a, .int b, .int c] => if 0 < c ∧ c < 1000000 ∧ (0 ≤ a ∧ a ≤ 1000000) ∧ (0 ≤ b ∧ b ≤ 1000000) then .ok (rangeC a c (if b ≤ a then 0 else ((b - a - 1) / c + 1).toNat)) e1 else .stuck
  | _ => .stuck : R (List D)) := Eq.trans rfl rfl
@[simp ↓] theorem sNext_ap (env : DEnv) : sNext env = (.ok .next env : R Fl) := Eq.trans rfl rfl
@[simp ↓] theorem sBrk_ap (env : DEnv) : sBrk env = (.ok .brk env : R Fl) := Eq.trans rfl rfl
@[simp ↓] theorem sCont_ap (env : DEnv) : sCont env = (.ok .cont env : R Fl) := Eq.trans rfl rfl
@[simp ↓] theorem sSeq_ap (a b : M Fl) (env : DEnv) : sSeq a b env = ((a env).bind fun fl e => match fl with
  | .next => b e
  | fl => .ok fl e : R Fl) := Eq.trans rfl rfl
@[simp ↓] theorem sSet_ap (i : Nat) (f : M U) (env : DEnv) : sSet i f env = ((f env).bind fun u e1 => match ownU e1 u with
  | some (w, e2) => (match setS i w e2 with
    | some e3 => .ok .next e3
    | none => .stuck)
  | none => .stuck : R Fl) := Eq.trans rfl rfl
@[simp ↓] theorem sTgt_ap (m : MT) (f : M U) (env : DEnv) : sTgt m f env = ((f env).bind fun u e1 => match frz1 e1 u with
  | some (d, e2) => (match m d e2 with
    | some e3 => .ok .next e3
    | none => .stuck)
  | none => .stuck : R Fl) := Eq.trans rfl rfl
@[simp ↓] theorem sExpr_ap (f : M U) (env : DEnv) : sExpr f env = ((f env).bind fun _ e => .ok .next e : R Fl) := Eq.trans rfl rfl
@[simp ↓] theorem sRet_ap (f : M U) (env : DEnv) : sRet f env = ((f env).bind fun u e => .ok (.ret u) e : R Fl) := Eq.trans rfl rfl
@[simp ↓] theorem sIf_ap (t : M Bool) (a b : M Fl) (env : DEnv) : sIf t a b env = ((t env).bind fun c e => if c then a e else b e : R Fl) := Eq.trans rfl rfl
@[simp ↓] theorem sRaise_ap (c : Str) (env : DEnv) : sRaise c env = (.raise c env : R Fl) := Eq.trans rfl rfl
@[simp ↓] theorem sFor_ap (it : M (List D)) (m : MT) (b : M Fl) (env : DEnv) : sFor it m b env = ((it env).bind fun ds e => forD m b ds e : R Fl) := Eq.trans rfl rfl
@[simp ↓] theorem tYesD_ap (env : DEnv) : tYesD env = (.ok true env : R Bool) := Eq.trans rfl rfl
@[simp ↓] theorem eApp_ap (i : Nat) (fe : M U) (env : DEnv) : eApp i fe env = (match env[i]? with
  | some (some (.l _ _)) => (fe env).bind fun u e1 => (match frz1 e1 u with
    | some (d, e2) => (match e2[i]? with
      | some (some (.l b ds)) => if ds.length < 1000000 then .ok (.w (.v .non)) (e2.set i (some (.l b (ds ++ [d])))) else .stuck
      | _ => .stuck)
    | none => .stuck)
  | _ => .stuck : R U) := Eq.trans rfl rfl
@[simp ↓] theorem sStore_ap (i : Nat) (fk fe : M U) (env : DEnv) : sStore i fk fe env = (match env[i]? with
  | some (some (.l _ _)) => (fe env).bind fun u e1 => (fk e1).bind fun uk e2 => (match frz1 e2 u with
    | some (d, e3) => (match dat e3 uk, e3[i]? with
      | some (.int n), some (some (.l b ds)) => (match ixN ds.length n with
        | some j => .ok .next (e3.set i (some (.l b (ds.set j d))))
        | none => .stuck)
      | _, _ => .stuck)
    | none => .stuck)
  | _ => .stuck : R Fl) := Eq.trans rfl rfl
@[simp ↓] theorem mkFn_ap (is : List Nat) (np nl : Nat) (f : M Fl) (ws : List W) : mkFn is np nl f ws = (if keeps is ws = true ∧ ws.length = np then (match f (ws.map (fun w => some (bor w)) ++ List.replicate (nl - np) none) with
  | .ok (.ret u) env => (match retW env u, backs env 0 ws with
    | some w, some ws' => .ok w ws'
    | _, _ => .stuck)
  | .ok .next env => (match backs env 0 ws with
    | some ws' => .ok (.v .non) ws'
    | none => .stuck)
  | .raise c env => (match backs env 0 ws with
    | some ws' => .raise c ws'
    | none => .stuck)
  | _ => .stuck) else .stuck : RF) := Eq.trans rfl rfl
@[simp ↓] theorem sPar_ap (i j : Nat) (fs : List (M U)) (env : DEnv) : sPar i j fs env = ((evs fs env).bind fun us e1 => match frzs e1 us with
  | some ([d1, d2], e2) => (match setS i (.v d1) e2 with
    | some e3 => (match setS j (.v d2) e3 with
      | some e4 => .ok .next e4
      | none => .stuck)
    | none => .stuck)
  | _ => .stuck : R Fl) := Eq.trans rfl rfl
@[simp ↓] theorem opM_ap (g : List D → Option W) (fo fe : M U) (env : DEnv) : opM g fo fe env = ((fo env).bind fun u0 e0 => match dat e0 u0 with
  | some (.lst _) => (fe e0).bind fun u e1 => (match dat e1 u0, dat e1 u with
    | some d0, some d => (match g [d0, d] with
      | some w => .ok (.w w) e1
      | none => .stuck)
    | _, _ => .stuck)
  | _ => .stuck : R U) := Eq.trans rfl rfl
@[simp ↓] theorem eComp_ap (it : M (List D)) (vs : List Nat) (m : MT) (t : M Bool) (f : M U) (env : DEnv) : eComp it vs m t f env = ((it env).bind fun ds e1 => if dataAt e1 vs then (match compD vs m t f ds (wipeA e1 vs) with
  | .ok ys e2 => if ds.length ≤ 1000000 then .ok (.w (.l false ys)) (unwipe e1 vs e2) else .stuck
  | _ => .stuck) else .stuck : R U) := Eq.trans rfl rfl
@[simp ↓] theorem eComp2_ap (it : M (List D)) (vs vs1 : List Nat) (m : MT) (it1 : M (List D)) (m1 : MT) (f : M U) (env : DEnv) : eComp2 it vs vs1 m it1 m1 f env = ((it env).bind fun ds e1 => if dataAt e1 vs then (match compD2 vs vs1 m it1 m1 f ds (wipeA e1 vs) with
  | .ok ys e2 => if ys.length ≤ 1000000 then .ok (.w (.l false ys)) (unwipe e1 vs e2) else .stuck
  | _ => .stuck) else .stuck : R U) := Eq.trans rfl rfl
@[simp ↓] theorem mName_ap (i : Nat) (d : D) (env : DEnv) : mName i d env = (setS i (.v d) env : Option DEnv) := Eq.trans rfl rfl
@[simp ↓] theorem mNil_ap (ds : List D) (env : DEnv) : mNil ds env = (match ds with
  | [] => some env
  | _ => none : Option DEnv) := Eq.trans rfl rfl
@[simp ↓] theorem mCons_ap (m : MT) (ms : MTs) (ds : List D) (env : DEnv) : mCons m ms ds env = (match ds with
  | d :: r => (m d env).bind fun e => ms r e
  | [] => none : Option DEnv) := Eq.trans rfl rfl
@[simp ↓] theorem mTup_ap (ms : MTs) (n : Nat) (d : D) (env : DEnv) : mTup ms n d env = (match d with
  | .tup ds => if ds.length = n then ms ds env else none
  | _ => none : Option DEnv) := Eq.trans rfl rfl
@[simp ↓] theorem evs_nil (env : DEnv) : evs [] env = .ok [] env := Eq.trans rfl rfl
@[simp ↓] theorem evs_cons (f : M U) (fs : List (M U)) (env : DEnv) : evs (f :: fs) env = (f env).bind fun u e1 => (evs fs e1).bind fun us e2 => .ok (u :: us) e2 := Eq.trans rfl rfl
@[simp] theorem datL_c0 (env : DEnv) : datL env ([]) = (some []) := Eq.trans rfl rfl
@[simp] theorem datL_c1 (env : DEnv) (u) (us) : datL env (u :: us) = (match dat env u, datL env us with
    | some d, some ds => some (d :: ds)
    | _, _ => none) := Eq.trans rfl rfl
@[simp] theorem dat_c0 (env : DEnv) (w) : dat env (.w w) = (some (datW w)) := Eq.trans rfl rfl
@[simp] theorem dat_c1 (env : DEnv) (i) : dat env (.b i) = (match env[i]? with
    | some (some w) => some (datW w)
    | _ => none) := Eq.trans rfl rfl
@[simp] theorem datW_c0  (d) : datW  (.v d) = (d) := by first | exact Eq.trans rfl rfl | (cases d <;> rfl)
@[simp] theorem datW_c1  (u1) (ds) : datW  (.l u1 ds) = (.lst ds) := Eq.trans rfl rfl
@[simp] theorem datW_c2  (ks) (ds) : datW  (.m ks ds) = (.dic ks ds) := Eq.trans rfl rfl
@[simp] theorem frz1_c0 (env : DEnv) (w) : frz1 env (.w w) = (some (datW w, env)) := Eq.trans rfl rfl
@[simp] theorem frz1_c1 (env : DEnv) (i) : frz1 env (.b i) = (match env[i]? with
    | some (some (.v d)) => some (d, env)
    | some (some (.l false ds)) => some (.lst ds, env.set i (some (.v (.lst ds))))
    | some (some (.m ks ds)) => some (.dic ks ds, env.set i (some (.v (.dic ks ds))))
    | _ => none) := Eq.trans rfl rfl
@[simp] theorem frzs_c0 (env : DEnv) : frzs env ([]) = (some ([], env)) := Eq.trans rfl rfl
@[simp] theorem frzs_c1 (env : DEnv) (u) (us) : frzs env (u :: us) = (match frz1 env u with
    | some (d, e1) => match frzs e1 us with
      | some (ds, e2) => some (d :: ds, e2)
      | none => none
    | none => none) := Eq.trans rfl rfl
@[simp] theorem frzM_c0  (env) : frzM  ([]) env ([]) = (some ([], env)) := Eq.trans rfl rfl
@[simp] theorem frzM_c1  (ms) (env) (u) (us) : frzM  (none :: ms) env (u :: us) = (match frz1 env u with
    | some (d, e1) => match frzM ms e1 us with
      | some (l, e2) => some (some d :: l, e2)
      | none => none
    | none => none) := Eq.trans rfl rfl
@[simp] theorem frzM_c2  (i) (ms) (env) (j) (us) : frzM  (some i :: ms) env (.b j :: us) = (if i = j then (match frzM ms env us with
      | some (l, e2) => some (none :: l, e2)
      | none => none) else none) := Eq.trans rfl rfl
@[simp] theorem takeW_c0 (env : DEnv) : takeW env ([]) ([]) = (some []) := Eq.trans rfl rfl
@[simp] theorem takeW_c1 (env : DEnv) (ms) (d) (l) : takeW env (none :: ms) (some d :: l) = (match takeW env ms l with
    | some ws => some (.v d :: ws)
    | none => none) := by first | exact Eq.trans rfl rfl | (cases d <;> rfl)
@[simp] theorem takeW_c2 (env : DEnv) (i) (ms) (l) : takeW env (some i :: ms) (none :: l) = (match env[i]? with
    | some (some (.l _ ds)) => (match takeW env ms l with
      | some ws => some (.l true ds :: ws)
      | none => none)
    | _ => none) := Eq.trans rfl rfl
@[simp] theorem putW_c0  (env) : putW  ([]) ([]) env = (some env) := Eq.trans rfl rfl
@[simp] theorem putW_c1  (ms) (u1) (ws) (env) : putW  (none :: ms) (u1 :: ws) env = (putW ms ws env) := Eq.trans rfl rfl
@[simp] theorem putW_c2  (i) (ms) (u1) (ds) (ws) (env) : putW  (some i :: ms) (.l u1 ds :: ws) env = (match env[i]? with
    | some (some (.l b _)) => putW ms ws (env.set i (some (.l b ds)))
    | _ => none) := Eq.trans rfl rfl
@[simp] theorem ownU_c0 (env : DEnv) (d) : ownU env (.w (.v d)) = (some (.v d, env)) := by first | exact Eq.trans rfl rfl | (cases d <;> rfl)
@[simp] theorem ownU_c1 (env : DEnv) (u1) (ds) : ownU env (.w (.l u1 ds)) = (some (.l false ds, env)) := Eq.trans rfl rfl
@[simp] theorem ownU_c3 (env : DEnv) (ks) (ds) : ownU env (.w (.m ks ds)) = (some (.m ks ds, env)) := Eq.trans rfl rfl
@[simp] theorem ownU_c2 (env : DEnv) (i) : ownU env (.b i) = (match frz1 env (.b i) with
    | some (d, e) => some (.v d, e)
    | none => none) := Eq.trans rfl rfl
@[simp] theorem seqOf_c0  (ds) : seqOf  (.lst ds) = (some ds) := Eq.trans rfl rfl
@[simp] theorem seqOf_c1  (ds) : seqOf  (.tup ds) = (some ds) := Eq.trans rfl rfl
@[simp] theorem bor_c0  (d) : bor  (.v d) = (.v d) := by first | exact Eq.trans rfl rfl | (cases d <;> rfl)
@[simp] theorem bor_c1  (u1) (ds) : bor  (.l u1 ds) = (.l true ds) := Eq.trans rfl rfl
@[simp] theorem retW_c0 (env : DEnv) (d) : retW env (.w (.v d)) = (some (.v d)) := by first | exact Eq.trans rfl rfl | (cases d <;> rfl)
@[simp] theorem retW_c1 (env : DEnv) (u1) (ds) : retW env (.w (.l u1 ds)) = (some (.l false ds)) := Eq.trans rfl rfl
@[simp] theorem retW_c3 (env : DEnv) (ks) (ds) : retW env (.w (.m ks ds)) = (some (.m ks ds)) := Eq.trans rfl rfl
@[simp] theorem retW_c2 (env : DEnv) (i) : retW env (.b i) = (match env[i]? with
    | some (some (.v d)) => some (.v d)
    | some (some (.l false ds)) => some (.l false ds)
    | _ => none) := Eq.trans rfl rfl
@[simp] theorem backs_c0 (env : DEnv) (u1) : backs env u1 ([]) = (some []) := Eq.trans rfl rfl
@[simp] theorem backs_c1 (env : DEnv) (j) (d) (ws) : backs env j (.v d :: ws) = (match backs env (j + 1) ws with
    | some r => some (.v d :: r)
    | none => none) := by first | exact Eq.trans rfl rfl | (cases d <;> rfl)
@[simp] theorem backs_c2 (env : DEnv) (j) (b) (u1) (ws) : backs env j (.l b u1 :: ws) = (match env[j]? with
    | some (some (.l true ds)) => (match backs env (j + 1) ws with
      | some r => some (.l b ds :: r)
      | none => none)
    | _ => none) := Eq.trans rfl rfl
@[simp] theorem keeps_df (is : List Nat) (ws : List W) : keeps is ws = (is.all fun j => match ws[j]? with
  | some (.l _ _) => false
  | _ => true : Bool) := rfl
@[simp] theorem wipeA_c0 {α : Type} (l : List (Option α)) : wipeA l ([]) = (l) := Eq.trans rfl rfl
@[simp] theorem wipeA_c1 {α : Type} (l : List (Option α)) (v) (vs) : wipeA l (v :: vs) = ((wipeA l vs).set v none) := Eq.trans rfl rfl
@[simp] theorem unwipe_c0 (e1 : DEnv) (e2) : unwipe e1 ([]) e2 = (e2) := Eq.trans rfl rfl
@[simp] theorem unwipe_c1 (e1 : DEnv) (v) (vs) (e2) : unwipe e1 (v :: vs) e2 = ((unwipe e1 vs e2).set v ((e1[v]?).getD none)) := Eq.trans rfl rfl
def okL : Option (Option W) → Bool
  | some (some (.l _ _)) => false
  | some (some (.m _ _)) => false
  | _ => true
@[simp] theorem okL_v (d : D) : okL (some (some (.v d))) = true := Eq.trans rfl rfl
@[simp] theorem okL_l (b : Bool) (ds : List D) : okL (some (some (.l b ds))) = false := Eq.trans rfl rfl
@[simp] theorem okL_d (ks : List (List Int)) (ds : List D) : okL (some (some (.m ks ds))) = false := Eq.trans rfl rfl
@[simp] theorem okL_n : okL (some none) = true := Eq.trans rfl rfl
@[simp] theorem okL_m (x : Option D) : okL (some (x.map W.v)) = true := by cases x <;> rfl
@[simp] theorem dataAt_df (env : DEnv) (vs : List Nat) : dataAt env vs = vs.all fun v => okL env[v]? := by
  unfold dataAt okL
  rfl
@[simp] theorem gAdd_c0  (i) (j) : gAdd  ([.int i, .int j]) = (some (.v (.int (i + j)))) := Eq.trans rfl rfl
@[simp] theorem gAdd_c1  (x) (y) : gAdd  ([.str x, .str y]) = (if x.length + y.length ≤ 1000000 then some (.v (.str (x ++ y))) else none) := Eq.trans rfl rfl
@[simp] theorem gAdd_c2  (xs) (ys) : gAdd  ([.tup xs, .tup ys]) = (if xs.length + ys.length ≤ 1000000 then some (.v (.tup (xs ++ ys))) else none) := Eq.trans rfl rfl
@[simp] theorem gAdd_c3  (xs) (ys) : gAdd  ([.lst xs, .lst ys]) = (if xs.length + ys.length ≤ 1000000 then some (.l false (xs ++ ys)) else none) := Eq.trans rfl rfl
@[simp] theorem gSub_c0  (i) (j) : gSub  ([.int i, .int j]) = (some (.v (.int (i - j)))) := Eq.trans rfl rfl
@[simp] theorem gDiv_c0  (i) (j) : gDiv  ([.int i, .int j]) = (if 0 < j ∧ j < 1073741824 then some (.v (.int (i / j))) else none) := Eq.trans rfl rfl
@[simp] theorem gMod_c0  (i) (j) : gMod  ([.int i, .int j]) = (if 0 < j then some (.v (.int (i % j))) else none) := Eq.trans rfl rfl
@[simp] theorem gNeg_c0  (i) : gNeg  ([.int i]) = (some (.v (.int (-i)))) := Eq.trans rfl rfl
@[simp] theorem gCmp_c0 (f : Int → Int → Bool) (i) (j) : gCmp f ([.int i, .int j]) = (some (.v (.bl (f i j)))) := Eq.trans rfl rfl
@[simp] theorem gNot_c0  (b) : gNot  ([.bl b]) = (some (.v (.bl (!b)))) := Eq.trans rfl rfl
@[simp] theorem gLen_c0  (ds) : gLen  ([.lst ds]) = (some (.v (.int ds.length))) := Eq.trans rfl rfl
@[simp] theorem gLen_c1  (ds) : gLen  ([.tup ds]) = (some (.v (.int ds.length))) := Eq.trans rfl rfl
@[simp] theorem gLen_c2  (ns) : gLen  ([.scr ns]) = (some (.v (.int ns.length))) := Eq.trans rfl rfl
@[simp] theorem gLen_c3  (x) : gLen  ([.str x]) = (if x.length ≤ 1000000 then some (.v (.int x.length)) else none) := Eq.trans rfl rfl
@[simp] theorem gList_c0  (ds) : gList  ([.lst ds]) = (some (.l false ds)) := Eq.trans rfl rfl
@[simp] theorem gList_c1  (ds) : gList  ([.tup ds]) = (some (.l false ds)) := Eq.trans rfl rfl
@[simp] theorem gList_c2  (ns) : gList  ([.scr ns]) = (some (.l false (ns.map D.int))) := Eq.trans rfl rfl
@[simp] theorem gTuple_c0  (ds) : gTuple  ([.lst ds]) = (some (.v (.tup ds))) := Eq.trans rfl rfl
@[simp] theorem gTuple_c1  (ds) : gTuple  ([.tup ds]) = (some (.v (.tup ds))) := Eq.trans rfl rfl
@[simp] theorem gIsi_c0  (d) (u) : gIsi  ([d, .ty u]) = ((isTy d u).map fun b => .v (.bl b)) := by first | exact Eq.trans rfl rfl | (cases d <;> rfl)
@[simp] theorem gIx_c0  (ds) (i) : gIx  ([.lst ds, .int i]) = ((atI ds i).map .v) := Eq.trans rfl rfl
@[simp] theorem gIx_c1  (ds) (i) : gIx  ([.tup ds, .int i]) = ((atI ds i).map .v) := Eq.trans rfl rfl
@[simp] theorem gIx_c2  (ns) (i) : gIx  ([.scr ns, .int i]) = ((atI ns i).map fun n => .v (.int n)) := Eq.trans rfl rfl
@[simp] theorem gIx_c3  (x) (i) : gIx  ([.str x, .int i]) = (if x.length ≤ 1000000 then (atI x.cps.toList i).map fun c => .v (.str ⟨#[c]⟩) else none) := Eq.trans rfl rfl
@[simp] theorem gSlB_c0  (d) (i) (j) : gSlB  ([d, .int i, .int j]) = (gSl (some i) (some j) d) := by first | exact Eq.trans rfl rfl | (cases d <;> rfl)
@[simp] theorem gSlL_c0  (d) (i) : gSlL  ([d, .int i]) = (gSl (some i) none d) := by first | exact Eq.trans rfl rfl | (cases d <;> rfl)
@[simp] theorem gSlH_c0  (d) (i) : gSlH  ([d, .int i]) = (gSl none (some i) d) := by first | exact Eq.trans rfl rfl | (cases d <;> rfl)
@[simp] theorem gSl_c0 (lo hi : Option Int) (ds) : gSl lo hi (.lst ds) = (some (.l false (cutA ds lo hi))) := Eq.trans rfl rfl
@[simp] theorem gSl_c1 (lo hi : Option Int) (ds) : gSl lo hi (.tup ds) = (some (.v (.tup (cutA ds lo hi)))) := Eq.trans rfl rfl
@[simp] theorem gIs_c0  (a) (b) : gIs  ([.bl a, .bl b]) = (some (.v (.bl (decide (a = b))))) := Eq.trans rfl rfl
@[simp] theorem gIs_c1  (d) : gIs  ([d, .non]) = (some (.v (.bl (isNonD d)))) := by first | exact Eq.trans rfl rfl | (cases d <;> rfl)
@[simp] theorem gIsNot_c0  (a) (b) : gIsNot  ([.bl a, .bl b]) = (some (.v (.bl (!decide (a = b))))) := Eq.trans rfl rfl
@[simp] theorem gIsNot_c1  (d) : gIsNot  ([d, .non]) = (some (.v (.bl (!isNonD d)))) := by first | exact Eq.trans rfl rfl | (cases d <;> rfl)
@[simp] theorem isNonD_c0  : isNonD  (.non) = (true) := Eq.trans rfl rfl
@[simp] theorem gRg_c0 (mk : List D → W) (n) : gRg mk ([.int n]) = (if -(2 ^ 62) ≤ n ∧ n ≤ 1000000 then some (mk (rangeD 0 n)) else none) := Eq.trans rfl rfl
@[simp] theorem gRg_c1 (mk : List D → W) (m) (n) : gRg mk ([.int m, .int n]) = (if (-(2 ^ 62) ≤ m ∧ m < 2 ^ 62) ∧ (-(2 ^ 62) ≤ n ∧ n < 2 ^ 62) ∧ n - m ≤ 1000000 then some (mk (rangeD m n)) else none) := Eq.trans rfl rfl
@[simp] theorem isNonD_int (i : Int) : isNonD (.int i) = false := Eq.trans rfl rfl
@[simp] theorem isNonD_bl (i : Bool) : isNonD (.bl i) = false := Eq.trans rfl rfl
@[simp] theorem isNonD_str (i : Str) : isNonD (.str i) = false := Eq.trans rfl rfl
@[simp] theorem isNonD_tup (i : List D) : isNonD (.tup i) = false := Eq.trans rfl rfl
@[simp] theorem isNonD_lst (i : List D) : isNonD (.lst i) = false := Eq.trans rfl rfl
def okS : Option W → Bool
  | some (.l true _) => false
  | _ => true
def okI : Option (Option W) → Bool
  | none => false
  | some x => okS x
@[simp] theorem okI_some (x : Option W) : okI (some x) = okS x := Eq.trans rfl rfl
@[simp] theorem okI_none : okI none = false := Eq.trans rfl rfl
@[simp] theorem okS_none : okS none = true := Eq.trans rfl rfl
@[simp] theorem okS_v (d : D) : okS (some (.v d)) = true := Eq.trans rfl rfl
@[simp] theorem okS_f (ds : List D) : okS (some (.l false ds)) = true := Eq.trans rfl rfl
@[simp] theorem okS_m (ks : List (List Int)) (ds : List D) : okS (some (.m ks ds)) = true := Eq.trans rfl rfl
@[simp] theorem okS_t (ds : List D) : okS (some (.l true ds)) = false := Eq.trans rfl rfl
@[simp] theorem okS_map (x : Option D) : okS (x.map W.v) = true := by cases x <;> rfl
@[simp] theorem setS_def (i : Nat) (w : W) (env : DEnv) : setS i w env = if okI env[i]? then some (env.set i (some w)) else none := by
  unfold setS okI okS
  cases env[i]? with
  | none => rfl
  | some x => match x with
    | none => rfl
    | some (.v d) => rfl
    | some (.l false ds) => rfl
    | some (.l true ds) => rfl
    | some (.m ks ds) => rfl
@[simp] theorem isTy_int {i : Int} : isTy (.int i) "int" = some true := by simp [isTy]
@[simp] theorem isTy_intb {i : Int} : isTy (.int i) "bool" = some false := by simp [isTy]
@[simp] theorem isTy_tup {l : List D} : isTy (.tup l) "tuple" = some true := by simp [isTy]
section
variable {vs : List Nat} {m : MT} {t : M Bool} {f : M U} {E0 : DEnv} {α : Type}
theorem comp_map {enc ψ : α → D} : ∀ (xs : List α), (∀ x ∈ xs, ∀ rest, compD vs m t f (enc x :: rest) E0 = (compD vs m t f rest E0).bind fun ys e => .ok (ψ x :: ys) e) → compD vs m t f (xs.map enc) E0 = .ok (xs.map ψ) E0
  | [], _ => rfl
  | x :: xs, h => by
    rw [List.map_cons, h x (List.mem_cons_self ..), comp_map xs fun y hy => h y (List.mem_cons_of_mem _ hy)]
    rfl
theorem comp_filt {enc ψ : α → D} {p : α → Bool} : ∀ (xs : List α), (∀ x ∈ xs, ∀ rest, compD vs m t f (enc x :: rest) E0 = if p x then (compD vs m t f rest E0).bind fun ys e => .ok (ψ x :: ys) e else compD vs m t f rest E0) → compD vs m t f (xs.map enc) E0 = .ok ((xs.filter p).map ψ) E0
  | [], _ => rfl
  | x :: xs, h => by
    have ih := comp_filt xs fun y hy => h y (List.mem_cons_of_mem _ hy)
    rw [List.map_cons, h x (List.mem_cons_self ..), ih]
    by_cases hp : p x
    · rw [if_pos hp, List.filter_cons_of_pos hp]; rfl
    · rw [if_neg hp, List.filter_cons_of_neg hp]
end

@[simp] theorem intsOf_mapS (ns : List Int) : intsOf (ns.map D.int) = some ns := intsOf_map ns
@[simp] theorem blsOf_mapS (ns : List Bool) : blsOf (ns.map D.bl) = some ns := blsOf_map ns
/-! ### slices, items -/
theorem cutA_hi {α : Type} {xs : List α} {n : Int} (h : 0 ≤ n) : cutA xs none (some n) = xs.take n.toNat := by
  obtain ⟨k, rfl⟩ := Int.eq_ofNat_of_zero_le h
  unfold cutA
  rw [HT.sIx_none, HT.sIx_nat]
  simp [List.take_eq_take_iff]
theorem cutA_lo {α : Type} {xs : List α} {n : Int} (h : 0 ≤ n) : cutA xs (some n) none = xs.drop n.toNat := by
  obtain ⟨k, rfl⟩ := Int.eq_ofNat_of_zero_le h
  unfold cutA
  rw [HT.sIx_none, HT.sIx_nat, Int.toNat_natCast]
  rcases Nat.le_total k xs.length with l | l
  · rw [Nat.min_eq_left l]
    exact List.take_of_length_le (by rw [List.length_drop]; exact Nat.le_refl _)
  · rw [Nat.min_eq_right l]
    simp [List.drop_eq_nil_of_le l]
theorem cutA_map {α β : Type} (f : α → β) (xs : List α) (lo hi : Option Int) : cutA (xs.map f) lo hi = (cutA xs lo hi).map f := by
  unfold cutA
  rw [List.length_map, ← List.map_drop, ← List.map_take]
theorem atI_of {α : Type} {xs : List α} {n : Int} (h : 0 ≤ n) : atI xs n = xs[n.toNat]? := by
  unfold atI ixN
  rw [if_pos h]
  by_cases l : n < xs.length
  · rw [if_pos l]; rfl
  · rw [if_neg l, List.getElem?_eq_none (by omega)]; rfl
theorem atI_map {α β : Type} (f : α → β) (xs : List α) (n : Int) : atI (xs.map f) n = (atI xs n).map f := by
  unfold atI
  rw [List.length_map]
  cases ixN xs.length n with
  | none => rfl
  | some j => simp
/-! ### encoded data: equality -/
structure En {α : Type} [DecidableEq α] (e : α → D) (n : Nat) : Prop where
  eq : ∀ x y, deq (e x) (e y) = decide (x = y)
  fn : ∀ x m, n ≤ m → fine m (e x) = true
theorem deq_tups (xs ys : List D) : deq (.tup xs) (.tup ys) = PyData.eqvAll (toPys xs) (toPys ys) := by
  unfold deq; rw [toPy, toPy, PyData.eqv]
theorem deq_lsts (xs ys : List D) : deq (.lst xs) (.lst ys) = PyData.eqvAll (toPys xs) (toPys ys) := by
  unfold deq; rw [toPy, toPy, PyData.eqv]
theorem all_cons (x y : D) (xs ys : List D) : PyData.eqvAll (toPys (x :: xs)) (toPys (y :: ys)) = (deq x y && PyData.eqvAll (toPys xs) (toPys ys)) := by
  rw [toPys, toPys, PyData.eqvAll]; rfl
theorem all_nil : PyData.eqvAll (toPys []) (toPys []) = true := by rw [toPys, PyData.eqvAll]
theorem all_nc (x : D) (xs : List D) : PyData.eqvAll (toPys []) (toPys (x :: xs)) = false := by rw [toPys, toPys, PyData.eqvAll]
theorem all_cn (x : D) (xs : List D) : PyData.eqvAll (toPys (x :: xs)) (toPys []) = false := by rw [toPys, toPys, PyData.eqvAll]
theorem deq_int (i j : Int) : deq (.int i) (.int j) = decide (i = j) := by
  unfold deq; rw [toPy, toPy, PyData.eqv]; rfl
theorem deq_bl (i j : Bool) : deq (.bl i) (.bl j) = decide (i = j) := by
  unfold deq; rw [toPy, toPy, PyData.eqv]; cases i <;> cases j <;> rfl
theorem all_en {α : Type} [DecidableEq α] {e : α → D} {n : Nat} (h : En e n) : ∀ xs ys : List α, PyData.eqvAll (toPys (xs.map e)) (toPys (ys.map e)) = decide (xs = ys)
  | [], [] => by simp [all_nil]
  | [], y :: ys => by simp [all_nc]
  | x :: xs, [] => by simp [all_cn]
  | x :: xs, y :: ys => by
    rw [List.map_cons, List.map_cons, all_cons, all_en h xs ys, h.eq]
    by_cases a : x = y <;> by_cases b : xs = ys <;> simp [a, b]
theorem fine_tup {l : List D} {n : Nat} (h : l.all (fine n) = true) : fine (n + 1) (.tup l) = true := h
theorem fine_lst {l : List D} {n : Nat} (h : l.all (fine n) = true) : fine (n + 1) (.lst l) = true := h
theorem en_int : En D.int 1 := ⟨deq_int, fun x m h => by cases m with | zero => omega | succ m => rfl⟩
theorem en_bl : En D.bl 1 := ⟨deq_bl, fun x m h => by cases m with | zero => omega | succ m => rfl⟩
theorem en_tup {α : Type} [DecidableEq α] {e : α → D} {n : Nat} (h : En e n) : En (fun xs : List α => D.tup (xs.map e)) (n + 1) :=
  ⟨fun x y => by rw [deq_tups, all_en h], fun x m hm => by
    cases m with
    | zero => omega
    | succ m =>
      refine fine_tup ?_
      rw [List.all_eq_true]
      intro z hz
      obtain ⟨w, _, rfl⟩ := List.mem_map.mp hz
      exact h.fn w m (by omega)⟩
theorem en_lst {α : Type} [DecidableEq α] {e : α → D} {n : Nat} (h : En e n) : En (fun xs : List α => D.lst (xs.map e)) (n + 1) :=
  ⟨fun x y => by rw [deq_lsts, all_en h], fun x m hm => by
    cases m with
    | zero => omega
    | succ m =>
      refine fine_lst ?_
      rw [List.all_eq_true]
      intro z hz
      obtain ⟨w, _, rfl⟩ := List.mem_map.mp hz
      exact h.fn w m (by omega)⟩
theorem gEq_en {α : Type} [DecidableEq α] {e : α → D} {n : Nat} (h : En e n) (x y : α) (hn : n ≤ 60 := by decide) : gEq [e x, e y] = some (.v (.bl (decide (x = y)))) := by
  show (if (fine 60 (e x) && fine 60 (e y)) = true then _ else _) = _
  rw [h.fn x 60 hn, h.fn y 60 hn, h.eq]; rfl
theorem gNe_en {α : Type} [DecidableEq α] {e : α → D} {n : Nat} (h : En e n) (x y : α) (hn : n ≤ 60 := by decide) : gNe [e x, e y] = some (.v (.bl (!decide (x = y)))) := by
  show (if (fine 60 (e x) && fine 60 (e y)) = true then _ else _) = _
  rw [h.fn x 60 hn, h.fn y 60 hn, h.eq]; rfl
@[simp] theorem gEq_int (i j : Int) : gEq [.int i, .int j] = some (.v (.bl (decide (i = j)))) := gEq_en en_int i j
@[simp] theorem gNe_int (i j : Int) : gNe [.int i, .int j] = some (.v (.bl (!decide (i = j)))) := gNe_en en_int i j
@[simp] theorem gEq_scr (ns : List Int) : gEq [.scr ns, .lst []] = some (.v (.bl (decide (ns = [])))) := by
  have e : deq (.scr ns) (.lst []) = decide (ns = []) := by
    unfold deq; rw [toPy, toPy, PyData.eqv]
    cases ns with
    | nil => rw [toPys, List.map_nil, PyData.eqvAll]; rfl
    | cons n ns => rw [toPys, List.map_cons, PyData.eqvAll]; simp
  show some (W.v (D.bl (deq (.scr ns) (.lst [])))) = _
  rw [e]
end DL

/-! Errors that are caught and kept: try .. except X as e: y = e; isinstance of what was caught. -/
namespace DL
open PySem PySem.Spec PyProof.Rows L2

theorem caO_ok {P : Program} {w : World} {H : Hp} {h : Heap} {a C : Addr} {oe : Obj} {vs : Array Value} (e : h.get? a = some oe) (z : Zc (.ref C) none oe) (d : oe.data = .fields vs) : ObjOk P w H h a (CaO C a) :=
  ⟨⟨oe, vs, e, z, d⟩, ⟨oe, e⟩, fun _ _ ⟨o, v, q, r⟩ k => ⟨o, v, k o q, r⟩⟩

/-! ### classes and defs by their names -/
structure Nam (K : PySem.W.Frag) (mg : Str → Option Value) (c : Str) : Prop where
  ex : ∃ C : Addr, mg c = some (.ref C) ∧ PySem.W.nsIn K mainGlobals c = some (some (.ref C))
theorem e_nam {X : Cx} {Wx : WX} {c : Str} {pos : Pos} (N : Nam X.K X.mg c) (hg : Gl X c := by rfl) (hd : (c == ("__debug__" : Str)) = false := by decide) : EvS X Wx (.Name c pos) (eD (.nam false c)) := by
  obtain ⟨C, h1, h2⟩ := N.ex
  exact e_glob (v := .ref C) hg h1 rfl (fun _ => .glob h2) hd

/-! ### isinstance of what was caught -/
def excSub (c c' : Str) : Bool := c == c' || c' == "ChairError"
structure ExcTab (K : PySem.W.Frag) (cs ts : List Str) : Prop where
  cls : ∀ c ∈ cs, ∀ C : Addr, PySem.W.nsIn K mainGlobals c = some (some (.ref C)) → ExcC K C ∧ PySem.W.kitOne K (.ref C) (.type "ValueError") = some true
  sub : ∀ c ∈ cs, ∀ c' ∈ ts, ∀ C C' : Addr, PySem.W.nsIn K mainGlobals c = some (some (.ref C)) → PySem.W.nsIn K mainGlobals c' = some (some (.ref C')) → PySem.W.kitOne K (.ref C) (.ref C') = some (excSub c c')
theorem kit_same {K : PySem.W.Frag} {C : Addr} {c : Str} : PySem.W.kitOne K (.ref C) (.ref C) = some (excSub c c) := by
  unfold PySem.W.kitOne
  rw [if_pos (by exact beq_self_eq_true _)]
  unfold excSub
  rw [show (c == c) = true from beq_self_eq_true c]
  rfl
theorem kit_other {K : PySem.W.Frag} {C C' : Addr} {c c' : Str} (ne : (Value.ref C == Value.ref C') = false) (hd : PySem.W.hasDictIn K C' = true) (ht : PySem.W.typeIn K (.ref C') = some (.type "type")) (hs : PySem.W.subIn K (.ref C) (.ref C') = some false) (e : excSub c c' = false := by decide +kernel) : PySem.W.kitOne K (.ref C) (.ref C') = some (excSub c c') := by
  obtain ⟨cd, hc, _⟩ := PySem.W.any_some hd
  unfold PySem.W.kitOne
  rw [if_neg (by rw [ne]; exact Bool.false_ne_true), e]
  show (if ((PySem.W.clsIn K C').isSome && PySem.W.typeIn K (.ref C') == some (.type "type")) = true then PySem.W.subIn K (.ref C) (.ref C') else none) = _
  rw [if_pos (by rw [hc, ht]; rfl)]
  exact hs
theorem kit_ve {K : PySem.W.Frag} {C : Addr} (hs : PySem.W.subIn K (.ref C) (.type "ValueError") = some true) : PySem.W.kitOne K (.ref C) (.type "ValueError") = some true := by
  unfold PySem.W.kitOne
  split
  · rfl
  · show (if PySem.W.kitMeta "ValueError" = true then PySem.W.subIn K (.ref C) (.type "ValueError") else none) = _
    rw [if_pos (by decide +kernel)]
    exact hs
def gIsiE (cs ts : List Str) : List D → Option W
  | [.nam true c, .nam false c'] => if c ∈ cs ∧ c' ∈ ts then some (.v (.bl (excSub c c'))) else none
  | [.nam true c, .ty u] => if c ∈ cs ∧ u = "ValueError" then some (.v (.bl true)) else none
  | _ => none
def rIsX (K : PySem.W.Frag) : List V → Hp → VK → Prop := fun xs H Q => ∃ (a C : Addr) (c : V) (cv : Value) (b : Bool), xs = [.ref a, c] ∧ ClsV c cv ∧ H a = some (CaO C a) ∧ ExcC K C ∧ PySem.W.kitOne K (.ref C) cv = some b ∧ Q (.bl b) H
theorem call_isX {X : Cx} : CallR X (.builtin "isinstance") (rIsX X.K) := by
  intro pins s σ H xs us Q I r h
  obtain ⟨a, C, c, cv, b, rfl, k, ha, eC, e, q⟩ := h
  obtain ⟨u1, u2, rfl, r1, r2⟩ := vals2 r
  cases (show u1 = Value.ref a from r1)
  have e2 := k.eq r2
  subst e2
  obtain ⟨⟨oe, vs, hget, hz, hv⟩, _, _⟩ := (show ObjOk X.prog X.w H s.heap a (CaO C a) from I.hok a _ ha)
  have J : PySem.W.InstAt s.heap a oe C none := by
    obtain ⟨oc, od, oda, osl⟩ := oe
    obtain ⟨z1, z2⟩ := hz
    simp only at z1 z2 hv
    subst z1 z2 hv
    exact ⟨hget, rfl, rfl, trivial⟩
  exact PySem.W.kia_one (PySem.W.handS_kitx_exc eC.hg eC.hk eC.hs eC.hd eC.ha eC.hn eC.ht eC.hm) I.kIn J e (fun z => nomatch z) fun tk => ⟨.bl b, H, I.tok tk, rfl, q⟩
theorem cd_isX {K : PySem.W.Frag} {cs ts : List Str} (T : ExcTab K cs ts) : CaD K (rIsX K) (gIsiE cs ts) := by
  intro F H vs ds w Q e vw hg q
  unfold gIsiE at hg
  split at hg
  · rename_i c c'
    obtain ⟨x, y, rfl, hx, hy⟩ := vw.two
    split at hg
    · rename_i hm
      cases hg
      cases (show RepD K F x (.nam true c) from hx) with
      | @exn a C _ hn ha =>
        cases (show RepD K F y (.nam false c') from hy) with
        | @glob C' _ hn' => exact ⟨a, C, _, .ref C', _, rfl, .own C', e _ _ ha, (T.cls c hm.1 C hn).1, T.sub c hm.1 c' hm.2 C C' hn hn', fin_bl e q⟩
    · cases hg
  · rename_i c u
    obtain ⟨x, y, rfl, hx, hy⟩ := vw.two
    split at hg
    · rename_i hm
      cases hg
      cases (show RepD K F x (.nam true c) from hx) with
      | @exn a C _ hn ha =>
        obtain ⟨hc, rfl⟩ := hm
        cases (show RepD K F y (.ty "ValueError") from hy)
        exact ⟨a, C, _, .type "ValueError", _, rfl, .ty _, e _ _ ha, (T.cls c hc C hn).1, (T.cls c hc C hn).2, fin_bl e q⟩
    · cases hg
  · cases hg

/-! ### list.count of bools -/
def eqb (k : Bool) (v : Value) : Bool := match v with
  | .bool n => n == k
  | _ => false
def gCntB : List D → Option W
  | [.lst ds, .bl k] => (blsOf ds).map fun ns => .v (.int ((ns.count k : Nat) : Int))
  | _ => none
def rCntB (K : PySem.W.Frag) : V → List V → Hp → VK → Prop := fun x xs H Q => ∃ (p : Addr) (ns : List Bool) (k : Bool), x = .ref p ∧ xs = [.bl k] ∧ SqL K H p (ns.map V.bl) ∧ Q (.int (ns.count k : Nat)) H
theorem vals_bls : ∀ {ns : List Bool} {us : List Value}, Vals (ns.map V.bl) us → us = ns.map Value.bool
  | [], _, .nil => rfl
  | n :: ns, _, .cons r t => by
    rw [vals_bls t]
    cases (show _ = Value.bool n from r)
    rfl
theorem mt_bcount {X : Cx} : MtR X "list.count" (rCntB X.K) := by
  intro pins s σ H x xs v us Q I rx rxs h
  obtain ⟨p, ns, k, rfl, rfl, hs, q⟩ := h
  cases rx
  obtain ⟨u, rfl, ru⟩ := rxs.one
  cases (show u = Value.bool k from ru)
  obtain ⟨its, rv, ⟨⟨cls, dd, data, sl⟩, n, ho, hc, hdn, hd⟩, hlen⟩ := I.list hs
  simp only at hc hd
  subst hc hd
  have hi := vals_bls rv
  subst hi
  refine call_meets PySem.F.slot_list_count ⟨_, ho, rfl⟩ PySem.F.entry_list_count (PySem.F.args_list_count_2 _ _) (SeqAt.list_countAt p (ns.map Value.bool).toArray n dd sl (.bool k) (eqb k)) ⟨ho, fun y hy => ?_, ?_⟩
  · have hy : y ∈ ns.map Value.bool := by simpa using hy
    obtain ⟨b, _, rfl⟩ := List.mem_map.mp hy
    exact SeqAt.EqAt.bool_bool b k
  · have ec : (ns.map Value.bool).countP (eqb k) = ns.count k := by
      rw [List.countP_map]
      rfl
    refine ⟨.int (ns.count k : Nat), H, I.tok _, ⟨s.toks, ?_⟩, q⟩
    show Value.int (((ns.map Value.bool).countP (eqb k) : Nat) : Int) s.toks = Value.int ((ns.count k : Nat) : Int) s.toks
    rw [ec]
theorem bls_rep {K : PySem.W.Frag} {F : Hp} : ∀ {vs : List V} {ns : List Bool}, RepDs K F vs (ns.map D.bl) → vs = ns.map V.bl
  | _, [], .nil => rfl
  | _, n :: r, .cons (.bl _) t => by rw [List.map_cons, ← bls_rep t]
theorem cd_cntB {K : PySem.W.Frag} : CaD K (rM (rCntB K)) gCntB := by
  intro F H vs ds w Q e vw hg q
  unfold gCntB at hg
  split at hg
  · rename_i xs k
    obtain ⟨x, y, rfl, hx, hy⟩ := vw.two
    obtain ⟨ns, h1, rfl⟩ := Option.map_eq_some_iff.mp hg
    obtain ⟨a, us, rfl, h2, r⟩ := hx.lst
    rw [blsOf_eq h1] at r
    have := bls_rep r
    subst this
    exact ⟨_, _, rfl, a, ns, k, rfl, by rw [hy.bl], .inl h2, fin_int e q⟩
  · cases hg

/-! ### try .. except x as n: y = n -/
structure CatTab (K : PySem.W.Frag) (mg : Str → Option Value) (x : Str) (cs : List Str) : Prop where
  ex : ∃ C0 : Addr, mg x = some (.ref C0) ∧ ∀ c ∈ cs, ∃ C : Addr, PySem.W.nsIn K mainGlobals c = some (some (.ref C)) ∧ mg c = some (.ref C) ∧ PySem.W.exmOne K (.ref C) (.ref C0) = some true
def clrS (i : Nat) (env : DEnv) : Option DEnv := match env[i]? with
  | some (some (.l true _)) => none
  | some _ => some (env.set i none)
  | none => none
/-- i: the clause's name; j: the name that keeps it -/
def sTry (cs : List Str) (i j : Nat) (fb : M Fl) : M Fl := fun env => match fb env with
  | .raise c e1 => if c ∈ cs then (match setS j (.v (.nam true c)) e1 with
      | some e2 => (match clrS i e2 with
        | some e3 => .ok .next e3
        | none => .stuck)
      | none => .stuck) else .stuck
  | r => r
theorem clrS_ok {K : PySem.W.Frag} {F H : Hp} {σ : L2.St} {env env' : DEnv} {own : Nat → Fp} {i : Nat} (S : Sit K F σ H env own) (h : clrS i env = some env') : ∃ own', Sit K F (σ.set i none) H env' own' ∧ ∀ a, all own' a → all own a := by
  have hi : i < env.length ∧ env' = env.set i none := by
    unfold clrS at h
    split at h
    · cases h
    · rename_i x hx
      cases h
      exact ⟨(List.getElem?_eq_some_iff.mp hx).1, rfl⟩
    · cases h
  obtain ⟨hi, rfl⟩ := hi
  have hσ : i < σ.length := by rw [← S.len]; exact hi
  refine ⟨fun j a => j ≠ i ∧ own j a, ⟨S.ex, by rw [List.length_set, List.length_set]; exact S.len, fun j w e => ?_, fun j a z => ?_, fun j k a z1 z2 => S.dis j k a z1.2 z2.2⟩, fun a ⟨j, z⟩ => ⟨j, z.2⟩⟩
  · have hj : j ≠ i := fun z => by
      subst z
      rw [List.getElem?_set_self hi] at e
      cases e
    rw [List.getElem?_set_ne (Ne.symm hj)] at e
    obtain ⟨v, h1, h2⟩ := S.rep j w e
    refine ⟨v, by rw [List.getElem?_set_ne (Ne.symm hj)]; exact h1, ?_⟩
    have e3 : (fun a => j ≠ i ∧ own j a) = own j := funext fun a => propext ⟨fun z => z.2, fun z => ⟨hj, z⟩⟩
    rw [e3]
    exact h2
  · obtain ⟨w, e⟩ := S.emp j a z.2
    exact ⟨w, by rw [List.getElem?_set_ne (Ne.symm z.1)]; exact e⟩

section
variable {X : Cx} {pins : List (Addr × Obj)} {σ : L2.St} {H : Hp} {s : Shared}
/-- an object that nothing of ours knows is known from now on -/
theorem inv_adopt {a : Addr} {o : HO} (I : Inv X pins σ H s) (na : H a = none) (n0 : X.s_0.heap.get? a = none) (nL : a ≠ X.env.locals) (nC : ∀ y c, X.env.cells.lookup y = some c → c ≠ a) (np : ∀ p ∈ X.pn ++ pins, p.1 ≠ a)
    (no : ∀ b, o ≠ .own b) (h : ObjOk X.prog X.w (upd H a o) s.heap a o) : Inv X pins σ (upd H a o) s where
  ok := I.ok
  os := I.os
  bare := I.bare
  base := { keep := I.base.keep, slot := I.base.slot, there := I.base.there
            free := fun b u q n x => by
              have ne : b ≠ a := fun z => by rw [z, n0] at q; cases q
              rw [upd_ne ne]
              exact I.base.free b u q n x
            tups := fun b xs q => by
              have r := I.base.tups b xs q
              rw [upd_ne (ne_of_none r na)]
              exact r
            frzs := fun b u xs q => by
              have r := I.base.frzs b u xs q
              rw [upd_ne (ne_of_none r na)]
              exact r
            tbls := fun b ps q => by
              obtain ⟨m, r⟩ := I.base.tbls b ps q
              exact ⟨m, by rw [upd_ne (ne_of_none r na)]; exact r⟩ }
  loc := I.loc
  cell := I.cell
  free := by rw [upd_ne (Ne.symm nL)]; exact I.free
  freeC := fun y c e => by rw [upd_ne (nC y c e)]; exact I.freeC y c e
  pin := fun p hp => by
    obtain ⟨h1, h2, h3⟩ := I.pin p hp
    exact ⟨h1, by rw [upd_ne (np p hp)]; exact h2, h3⟩
  hok := fun b u e => by
    by_cases hb : b = a
    · subst hb
      rw [upd_same] at e
      cases e
      exact h
    · rw [upd_ne hb] at e
      refine (I.hok b u e).stay (fun _ _ _ q => q) (fun c q => ?_) fun c xs q => ?_
      · rw [upd_ne (ne_of_none q na)]; exact q
      · rw [upd_ne (ne_of_none q na)]; exact q
  len := I.len
end

section
variable {X : Cx} {Wx : WX} {x n y : Str} {i j : Nat} {is : List Nat} {cs : List Str} {body : List Stmt} {fb : M Fl} {np p1 p2 p3 pos pos' : Pos}
/-- what is wished for where the body raises -/
def wKeep (mg : Str → Option Value) (cs : List Str) (i j : Nat) (D : Ends) : WX := fun cls d σ H => d = none ∧ ∃ c C, c ∈ cs ∧ cls = .ref C ∧ mg c = some (.ref C) ∧ ∀ a, H a = none → D.nx ((σ.set j (some (.ref a))).set i none) (upd H a (CaO C a))
theorem s_try (hs : X.stack = X.env :: X.outer) (hf : X.env.frame = some X.env.locals) (hex : X.ex = []) (hN : X.N.Nodup) (hi : X.N[i]? = some n) (hln : X.env.kindOf n = some .local) (hj : X.N[j]? = some y) (hlj : X.env.kindOf y = some .local) (hij : i ≠ j) (hg : Gl X x) (ct : CatTab X.K X.mg x cs)
    (hb : ∀ (W : WX) (pn : List (Addr × Obj)) (xe : Value → Shared → Prop), Takes (X.tr pn xe) W → PassesOwn (model X.prog X.w) X.A X.env xe → SsS (X.tr pn xe) W body is fb)
    (hdb : (x == ("__debug__" : Str)) = false := by decide) (hdn : (n == ("__debug__" : Str)) = false := by decide) (hcn : (n == ("__classdict__" : Str)) = false := by decide)
    (hsw : swapsWith (.Name n p2) (some (.Name y p1)) p3.line X.env = pure false := by rfl) :
    StS X Wx (.Try body [.ExceptHandler (some (.Name x np)) (some n) [.Assign [.Name y p1] (.Name n p2) p3] pos'] [] [] pos) (is ++ [j, i]) (sTry cs i j fb) := by
  obtain ⟨C0, hC0, hcs⟩ := ct.ex
  refine ⟨fun pins s σ H D I h => ?_⟩
  obtain ⟨F, env, own, S, h⟩ := h
  have ok := I.ok
  have hfr : X.A.frames = some (X.env :: X.outer) := by rw [ok.frames, hs]
  have hbody : sOf X.K X.mg (wKeep X.mg cs i j D) is fb D σ H := by
    refine ⟨F, env, own, S, ?_⟩
    unfold sTry at h
    cases e : fb env with
    | stuck => rw [e] at h; exact h
    | ok fl e1 =>
      rw [e] at h
      cases fl with
      | next => exact fun σ' F' H' own' o r => h σ' F' H' own' (o.left _) r
      | brk => exact fun σ' F' H' own' o r => h σ' F' H' own' (o.left _) r
      | cont => exact fun σ' F' H' own' o r => h σ' F' H' own' (o.left _) r
      | ret u => exact fun v σ' F' H' own' p o r => h v σ' F' H' own' p (o.left _) r
    | raise c e1 =>
      rw [e] at h
      dsimp only at h
      by_cases hc : c ∈ cs
      · rw [if_pos hc] at h
        cases e2 : setS j (.v (.nam true c)) e1 with
        | none => rw [e2] at h; exact h.elim
        | some env2 =>
          rw [e2] at h
          dsimp only at h
          cases e3 : clrS i env2 with
          | none => rw [e3] at h; exact h.elim
          | some env3 =>
            rw [e3] at h
            intro C σ' F' H' own' o mgC O
            refine ⟨rfl, c, C, hc, rfl, mgC, fun a na => ?_⟩
            obtain ⟨C', hns, mgC', _⟩ := hcs c hc
            have eC : C' = C := by rw [mgC'] at mgC; cases mgC; rfl
            subst eC
            have g := Grow.data (o := CaO C' a) O.S.ex na
            have S1 := g.sit O.S
            obtain ⟨own2, S2, k2⟩ := setS_ok (v := .ref a) (w := .v (.nam true c)) S1 (p := fun _ => False) ⟨fun _ z => z, RepD.exn hns upd_same⟩ (fun _ z => z.elim) e2
            obtain ⟨own3, S3, k3⟩ := clrS_ok S2 e3
            refine h _ _ _ own3 (o.trans ((Only.set (i := j)).trans (Only.set (i := i)))) ⟨S3, O.s.trans ((g.step own').sub fun b z => ?_)⟩
            exact (k2 b (k3 b z)).elim Or.inl fun z => z.elim
      · rw [if_neg hc] at h
        exact h.elim
  refine wpAny_Try_except ?_
  refine wpAny_mono ((hb (wKeep X.mg cs i j D) (X.pn ++ pins) (fun ev t1 => wpAny (model X.prog X.w) X.A (noteFrame ev X.env) (fun _ t2 => wpAny (model X.prog X.w) X.A (setFlight ev none) (fun _ t3 =>
    wpAny (model X.prog X.w) X.A (handleBy ev X.env [.ExceptHandler (some (.Name x np)) (some n) [.Assign [.Name y p1] (.Name n p2) p3] pos']) (SP X pins D) X.xe t3) X.xe t2) X.xe t1) (fun u t xx => ?_) PassesOwn.looking).run [] s σ H D (I.toTry _) hbody) (fun fl t hsp => ?_) (fun _ _ z => z)
  · obtain ⟨a, B, sI, pi, σ1, H1, cls, dd, rfl, J1, nb, up, sky, na, os, ag, rfl, c, C, hc, rfl, mgC, hnx⟩ := xx
    obtain ⟨C', hns, mgC', hexm⟩ := hcs c hc
    have eC : C' = C := by rw [mgC'] at mgC; cases mgC; rfl
    subst eC
    have J : Inv X pins σ1 H1 sI := J1.ofTry ok
    rw [show (X.tr (X.pn ++ pins) (fun ev t1 => wpAny (model X.prog X.w) X.A (noteFrame ev X.env) (fun _ t2 => wpAny (model X.prog X.w) X.A (setFlight ev none) (fun _ t3 => wpAny (model X.prog X.w) X.A (handleBy ev X.env [.ExceptHandler (some (.Name x np)) (some n) [.Assign [.Name y p1] (.Name n p2) p3] pos']) (SP X pins D) X.xe t3) X.xe t2) X.xe t1)).stack = X.env :: X.outer from hs] at sky
    have nb' : ∀ b o, sI.heap.get? b = some o → b ∉ frs (X.env :: X.outer) → B.get? b = some o := fun b o q z => nb b o q (by rw [show (X.tr (X.pn ++ pins) _).stack = X.env :: X.outer from hs]; exact z)
    refine Sky.land Zc.steady hfr hf sky fun g1 w1 v1 => ?_
    have K1 : Inv X pins σ1 H1 { t with heap := g1 } := J.landed nb w1.1 (up.trans v1) os ag
    obtain ⟨o1, a1, q1, z1, d1⟩ := w1.there
    have nfr : a ∉ frs (X.env :: X.outer) := fun hm => by
      obtain ⟨_, o', e', hnf⟩ := w1.2.2.1.mem hm
      rw [q1] at e'
      cases e'
      exact hnf _ d1
    have nL : a ≠ X.env.locals := fun z => nfr (List.mem_filterMap.mpr ⟨X.env, List.mem_cons_self, by rw [hf, z]⟩)
    have nF : a ∉ X.fs := fun hm => by
      obtain ⟨ev, he, q⟩ := List.mem_filterMap.mp hm
      exact nfr (List.mem_filterMap.mpr ⟨ev, List.mem_cons_of_mem _ he, q⟩)
    have nB : B.get? a = none := w1.2.1
    have nI : sI.heap.get? a = none := by
      cases q : sI.heap.get? a with
      | none => rfl
      | some o => rw [nb' a o q nfr] at nB; cases nB
    have n0 : X.s_0.heap.get? a = none := by
      cases q : X.s_0.heap.get? a with
      | none => rfl
      | some o =>
        obtain ⟨o', q'⟩ := J.base.there a o q (by rw [hex]; exact List.not_mem_nil)
        rw [nI] at q'
        cases q'
    have npn : ∀ p ∈ X.pn ++ pins, p.1 ≠ a := fun p hp z => by
      have q := (J.pin p hp).1
      rw [z, nI] at q
      cases q
    have nC : ∀ v c, X.env.cells.lookup v = some c → c ≠ a := fun v c q z => by
      obtain ⟨u, r⟩ := J.cell v c q
      obtain ⟨o, r1, _⟩ := r
      rw [z, nI] at r1
      cases r1
    refine wpAny_handleBy_cons (codeAny_handlers_test ?_) (by intro q; cases q)
    have typ : PySem.W.Looks (model X.prog X.w) g1 (typeOf (.ref a)) (.ref C') := fun A Q E s k q => wpAny_typeOf_ref (k _ _ q1) (by rw [z1.1]; exact q)
    have mat := PySem.W.exm_one (M := model X.prog X.w) K1.kIn typ hexm
    refine ld_glob (X := X.suite a ((a, o1) :: (X.pn ++ pins))) (K1.suite q1 d1 na nL nF) hg hC0 (mat.here ?_) hdb
    refine codeAny_handlers_suite_as ?_
    refine HandSPX.lands_againZ w1 fun g2 w2 v2 => ?_
    have K2 : Inv X pins σ1 H1 { t with heap := g2 } := J.landed nb w2.1 ((up.trans v1).trans v2) os ag
    obtain ⟨o2, a2, q2, z2, d2⟩ := w2.there
    refine store_ok (X := X.suite a ((a, o2) :: (X.pn ++ pins))) (v := .ref a) (K2.suite q2 d2 na nL nF) hN hi (.inl hln) rfl (fun t5 K5 => ?_) (.inr hln)
    have hset : PSs (X.suite a ((a, o2) :: (X.pn ++ pins))) [.Assign [.Name y p1] (.Name n p2) p3] (tAsg (tVar i) (gName j)) := pss_one (ps_set hN hj (.inl hlj) (pe_var hi (.inl hln) hdn hcn) hsw (.inr hlj))
    have hil : i < σ1.length := by rw [J.len]; exact (List.getElem?_eq_some_iff.mp hi).1
    refine wpAny_mono (hset.run [] t5 _ H1 { nx := fun σ6 H6 => σ6 = (σ1.set i (some (.ref a))).set j (some (.ref a)) ∧ H6 = H1, rt := fun _ _ => False } K5 ?_) (fun fl t6 hsp => ?_) (fun _ _ z => z.elim)
    · exact ⟨.ref a, List.getElem?_set_self hil, rfl, rfl⟩
    · cases fl with
      | next =>
        obtain ⟨σ6, H6, K6, rfl, rfl⟩ := hsp
        obtain ⟨g6, _⟩ := K6.pin (a, o2) (List.mem_append_left _ List.mem_cons_self)
        have K7 := inv_adopt (a := a) (o := CaO C' a) (K6.unsuite ok) na n0 nL nC npn (fun b z => by cases z) (caO_ok g6 z2 d2)
        refine gone_ok K7 hN hi hln fun t8 K8 => ⟨_, _, K8, ?_⟩
        have es : ((σ1.set i (some (V.ref a))).set j (some (.ref a))).set i none = (σ1.set j (some (.ref a))).set i none := by
          rw [List.set_comm _ _ hij, List.set_set]
        rw [es]
        exact hnx a na
      | brk => obtain ⟨_, _, _, z⟩ := hsp; exact z.elim
      | cont => obtain ⟨_, _, _, z⟩ := hsp; exact z.elim
      | ret u => obtain ⟨_, _, _, _, _, z⟩ := hsp; exact z.elim
  · cases fl with
    | next =>
      obtain ⟨σ', H', K', q⟩ := hsp
      exact wpAny_execs_nil ⟨σ', H', K'.ofTry ok, q⟩
    | brk =>
      obtain ⟨σ', H', K', q⟩ := hsp
      exact ⟨σ', H', K'.ofTry ok, q⟩
    | cont =>
      obtain ⟨σ', H', K', q⟩ := hsp
      exact ⟨σ', H', K'.ofTry ok, q⟩
    | ret u =>
      obtain ⟨v, σ', H', K', r, q⟩ := hsp
      exact ⟨v, σ', H', K'.ofTry ok, r, q⟩
end
end DL

/-! e[::-1] of lists and tuples -/
namespace DL
open PySem PySem.Spec PyProof.Rows L2

section
variable {prog : Program} {w : World} {A : Around} {E : Value → Shared → Prop} {s : Shared}
theorem adjust_rev (n : Nat) : Builtin.Slice.sliceAdjust none none (-1) (n : Int) = ((n : Int) - 1, -1) := by
  unfold Builtin.Slice.sliceAdjust
  simp
theorem places_rev (n : Nat) : Builtin.Slice.slicePlaces ((n : Int) - 1) (-1) (-1) = n := by
  unfold Builtin.Slice.slicePlaces
  have h1 : ¬ ((-1 : Int) > 0) := by decide
  rw [if_neg h1]
  by_cases h : (n : Int) - 1 > -1
  · rw [if_pos h, show (- -1 : Int) = 1 by decide, Int.ediv_one]
    omega
  · rw [if_neg h]
    omega
theorem applied_rev {sl : Addr} {t : Tok} {n : Nat} {Q : Int × Int × Nat → Shared → Prop} (hs : s.heap.IsSliceOf sl .none .none (.int (-1) t)) (h : Q ((n : Int) - 1, -1, n) s) : wpAny (model prog w) A (Builtin.Slice.sliceApplied (.ref sl) (pure (n : Int))) Q E s := by
  obtain ⟨os, hos, hcs, hds⟩ := id hs
  unfold Builtin.Slice.sliceApplied Builtin.Slice.sliceFields
  refine wpAny_bind (wpAny_bind (wpAny_field hos hds (x := .none) rfl (wpAny_bind (wpAny_field hos hds (x := .none) rfl (wpAny_bind (wpAny_field hos hds (x := .int (-1) t) rfl (wpAny_pure ?_)))))))
  refine wpAny_bind (slicePart_int ?_)
  show wpAny _ _ (if ((-1 : Int) == 0) = true then _ else _) _ _ s
  rw [if_neg (by decide)]
  refine wpAny_bind (slicePart_none (wpAny_bind (slicePart_none (wpAny_bind (wpAny_pure ?_)))))
  show wpAny _ _ (match Builtin.Slice.sliceAdjust none none (-1) (n : Int) with | (lo, hi) => pure (lo, (-1 : Int), Builtin.Slice.slicePlaces lo hi (-1))) _ _ s
  rw [adjust_rev n]
  show wpAny _ _ (pure ((n : Int) - 1, (-1 : Int), Builtin.Slice.slicePlaces ((n : Int) - 1) (-1) (-1))) _ _ s
  rw [places_rev]
  exact wpAny_pure h
theorem pick_rev (xs : Array Value) : ((List.range xs.size).filterMap fun (m : Nat) => xs[(((xs.size : Int) - 1) + (m : Int) * -1).toNat]?).toArray = xs.toList.reverse.toArray := by
  have e : (List.range xs.size).filterMap (fun (m : Nat) => xs[(((xs.size : Int) - 1) + (m : Int) * -1).toNat]?) = ((List.range xs.size).map fun k => xs.size - 1 - k).filterMap (xs[·]?) := by
    rw [List.filterMap_map]
    congr 1
    funext m
    show xs[(((xs.size : Int) - 1) + (m : Int) * -1).toNat]? = xs[xs.size - 1 - m]?
    rw [show (((xs.size : Int) - 1) + (m : Int) * -1).toNat = xs.size - 1 - m by omega]
  rw [e, PySem.W.krv_range, List.filterMap_reverse, PySem.W.krv_all]
theorem getItem_tuple_rev {t sl : Addr} {items : Array Value} {tk : Tok} {Q : Value → Shared → Prop} (ht : IsTup s.heap t items) (hs : s.heap.IsSliceOf sl .none .none (.int (-1) tk))
    (h : Q (.ref s.heap.objs.size) { s with heap := s.heap.push { cls := .type "tuple", data := .seq items.toList.reverse.toArray } }) (hsz : items.size ≤ sizeLine) : wpAny (model prog w) A (getItem (.ref t) (.ref sl)) Q E s := by
  have hok : sizeOk (.seq items.toList.reverse.toArray) := by
    show items.toList.reverse.toArray.size ≤ sizeLine
    rw [List.size_toArray, List.length_reverse, Array.length_toList]
    exact hsz
  obtain ⟨os, hos, hcs, hds⟩ := id hs
  have hTs : s.TypeIs (.ref sl) "slice" := ⟨os, hos, hcs⟩
  unfold getItem
  try with_reducible refine wpAny_holding ?_
  first | refine wpAny_bind (wpAny_pure ?_) | skip
  refine wpAny_bind (wpAny_sequenceKey ht.typeIs (by decide) ?_)
  refine wpAny_bind (wpAny_callSpecial?_slot (name := Str.ofString "__getitem__") ht.typeIs PyProof.Rows.slot_tuple_getitem
    (wpAny_call_entry PyProof.Rows.slot_tuple_getitem ht.typeIs entry_tuple_getitem ?_ (args_tuple_getitem _ _)))
  show wpAny _ _ (Builtin.Tuple.tupleItemsOf (.ref t) >>= _) _ _ s
  refine wpAny_bind (tupleItemsOf_ ht ?_)
  refine wpAny_bind (wpAny_typeOf hTs ?_)
  rw [if_pos (by decide)]
  refine wpAny_bind (applied_rev hs ?_)
  have hno : ¬ ((((items.size : Int) - 1) == 0 && (-1 : Int) == 1 && items.size == items.size) = true) := by
    intro q
    rw [Bool.and_eq_true, Bool.and_eq_true] at q
    exact absurd q.1.2 (by decide)
  show wpAny _ _ (if (((items.size : Int) - 1) == 0 && (-1 : Int) == 1 && items.size == items.size) = true then _ else _) _ _ s
  rw [if_neg hno, pick_rev]
  first
    | exact wpAny_bind (m := Builtin.Tuple.tupleExact _) (wpAny_newObj_type (wpAny_pure ⟨_, rfl, wpAny_pure h⟩) hok)
    | exact wpAny_bind (m := Builtin.Tuple.tupleExact _) (wpAny_newObj_type (wpAny_bind (wpAny_pure (wpAny_pure ⟨_, rfl, wpAny_pure h⟩))) hok)
    | exact wpAny_bind (wpAny_bind (m := Builtin.Tuple.tupleExact _) (wpAny_newObj_type (wpAny_pure (wpAny_pure ⟨_, rfl, wpAny_pure h⟩)) hok))
    | exact wpAny_bind (wpAny_bind (m := Builtin.Tuple.tupleExact _) (wpAny_newObj_type (wpAny_pure ⟨_, rfl, wpAny_pure h⟩) hok))
end
theorem vals_reverse : ∀ {xs : List V} {us : List Value}, Vals xs us → Vals xs.reverse us.reverse
  | _, _, .nil => .nil
  | _, _, .cons r t => by
    rw [List.reverse_cons, List.reverse_cons]
    exact (vals_reverse t).append (.cons r .nil)
def rRev (K : PySem.W.Frag) (x : V) (H : Hp) (Q : VK) : Prop := ∃ a xs, x = .ref a ∧ ((SqL K H a xs ∧ ∀ p, H p = none → Q (.ref p) (upd H p (.lst xs.reverse))) ∨ (SqT K H a xs ∧ ∀ p, H p = none → Q (.ref p) (upd H p (.tup xs.reverse))))
section
variable {X : Cx} {Wx : WX} {e st : Expr} {te : TE} {fe : M U} {pos p2 q1 q2 : Pos} {j : Nat}
theorem pe_rev (he : PE X e te) (hst : PE X st (tC (.int (-1)))) : PE X (.Subscript e (.Slice none none (some st) p2) pos) (fun σ H Q => te σ H fun x H1 => rRev X.K x H1 Q) := by
  refine ⟨fun pins s σ H Q I h => ?_⟩
  refine Subscript_ (thn (he.run pins s σ H _ I h) fun v s1 ⟨x, H1, I1, r1, q1⟩ => ?_)
  refine wpAny_Slice ?_
  rw [evalPart_none]
  refine wpAny_pure (wpAny_pure ?_)
  rw [evalPart_some]
  refine thn (hst.run pins s1 σ H1 (fun y H2 => y = .int (-1) ∧ H2 = H1) I1 ⟨rfl, rfl⟩) fun u s3 hu => ?_
  obtain ⟨y, H3, I3, r3, rfl, rfl⟩ := hu
  obtain ⟨tk, rfl⟩ := r3
  have I4 : Inv X pins σ H3 { s3 with heap := s3.heap.push { cls := .type "slice", data := .fields #[.none, .none, .int (-1) tk] } } := I3.kept (t' := s3.toks) fun b ob q => Heap.get?_push_of_some _ q
  obtain ⟨a, xs, rfl, hq⟩ := q1
  cases r1
  show wpAny (model X.prog X.w) X.A (subscriptTail e (.Slice none none (some st) p2) (.ref a) (.ref s3.heap.objs.size)) (EP X pins σ Q) X.xe { s3 with heap := s3.heap.push { cls := .type "slice", data := .fields #[.none, .none, .int (-1) tk] } }
  have hsl : ({ s3 with heap := s3.heap.push { cls := .type "slice", data := .fields #[.none, .none, .int (-1) tk] } } : Shared).heap.IsSliceOf s3.heap.objs.size .none .none (.int (-1) tk) := Heap.IsSliceOf.new ..
  generalize ({ s3 with heap := s3.heap.push { cls := .type "slice", data := .fields #[.none, .none, .int (-1) tk] } } : Shared) = s4 at *
  rcases hq with ⟨hl, q⟩ | ⟨ht, q⟩
  · obtain ⟨its, r, hi, hz⟩ := I4.list hl
    have hlen := r.length
    refine tail_any (ops := [.ref a, .ref s3.heap.objs.size]) hi.isList.typeIs slot_list_getitem.lookup ?_ (by with_unfolding_all rfl)
    refine wpAny_getItem_list_slice hi.isList hsl .none .none (.int (-1) tk) (by simp) ?_ (by rw [List.size_toArray] <;> omega)
    rw [PySem.W.krv_pick]
    refine ⟨.ref s4.heap.objs.size, _, I4.laid (t' := s4.toks) (o := .lst xs.reverse) (fun b ob q => Heap.get?_push_of_some _ q) (Nat.le_refl _) ?_, rfl, q _ (I4.hok.fresh (Nat.le_refl _))⟩
    exact ⟨by rw [List.length_reverse]; exact hz, its.reverse, 0, vals_reverse r, Heap.get?_push_size _ rfl⟩
  · obtain ⟨its, r, hi, hz⟩ := I4.tuple ht
    have hlen := r.length
    refine tail_any (ops := [.ref a, .ref s3.heap.objs.size]) hi.typeIs PyProof.Rows.slot_tuple_getitem.lookup ?_ (by with_unfolding_all rfl)
    refine getItem_tuple_rev hi hsl ?_ (by rw [List.size_toArray] <;> omega)
    refine ⟨.ref s4.heap.objs.size, _, I4.laid (t' := s4.toks) (o := .tup xs.reverse) (fun b ob q => Heap.get?_push_of_some _ q) (Nat.le_refl _) ?_, rfl, q _ (I4.hok.fresh (Nat.le_refl _))⟩
    exact ⟨by rw [List.length_reverse]; exact hz, its.reverse, vals_reverse r, IsTup.new _ _⟩
def gRev : List D → Option W
  | [.lst ds] => some (.l false ds.reverse)
  | [.tup ds] => some (.v (.tup ds.reverse))
  | _ => none
theorem cd_rev {K : PySem.W.Frag} : CaD K (fun vs H Q => ∃ x, vs = [x] ∧ rRev K x H Q) gRev := by
  intro F H vs ds w Q e vw hg q
  unfold gRev at hg
  split at hg
  · rename_i ds
    cases hg
    cases vw with
    | cons h1 h2 =>
      cases h2
      obtain ⟨a, us, rfl, h2, r⟩ := h1.lst
      exact ⟨_, rfl, a, us, rfl, .inl ⟨.inl h2, fin_lst e r.reverse q⟩⟩
  · rename_i ds
    cases hg
    cases vw with
    | cons h1 h2 =>
      cases h2
      obtain ⟨a, us, rfl, f1, h2, r⟩ := h1.tup e
      exact ⟨_, rfl, a, us, rfl, .inr ⟨h2, fin_tup e r.reverse q⟩⟩
  · cases hg
theorem pe_m1 : PE X (.UnaryOp .USub (.Constant (.int 1) j q1) q2) (tC (.int (-1))) := by
  exact PE.imp (pe_un un_neg pe_int) fun σ H Q h => ⟨1, rfl, h⟩
theorem e_rev (ha : EvS X Wx e fe) : EvS X Wx (.Subscript e (.Slice none none (some (.UnaryOp .USub (.Constant (.int 1) j q1) q2)) p2) pos) (opN gRev [fe]) :=
  PE.imp (pe_rev ha pe_m1) fun σ H Q h => tOf_mono (aOf_1 (aOf_op cd_rev h)) fun _ _ z => by
    obtain ⟨x, e, z⟩ := z
    cases e
    exact z
end
/-! ### tuple * 0 -/
theorem tuple_mul0 (l : Addr) (a : Value) (r : List Value) (n : Nat) (dd : Option Addr) (sl : Array (Option Value)) (u : Tok) :
    Meets (Builtin.«tuple.__mul__» ⟨[.ref l, .int 0 u], []⟩) (fun _ R s => s.heap.get? l = some { cls := .type "tuple", dict := dd, data := .seq (a :: r).toArray n, slots := sl } ∧ R (.ok (.ret (Value.ref s.heap.objs.size))) { s with heap := s.heap.push { cls := Value.type "tuple", data := Data.seq #[] }, toks := s.toks }) :=
  .of_wp fun prog w A R s h => by
    obtain ⟨hp, g, d, tk, os⟩ := s
    obtain ⟨hl, h⟩ := h
    have f1 := AutoSeq1.idx_int
    have c1 : ((a :: r).toArray.isEmpty || (0 : Int) == 1) = false := rfl
    have c2 : (decide ((0 : Int) ≤ 0) || (a :: r).toArray.isEmpty) = true := rfl
    wp_walk using wpAny_loadPart' hl
    repeat (first
      | (refine wpAny_ite_false (by decide) ?_; wp_walk using wpAny_loadPart' hl)
      | (refine wpAny_ite_false (decide_eq_false (by rw [c1]; exact Bool.false_ne_true)) ?_; wp_walk using wpAny_loadPart' hl)
      | (refine wpAny_ite_true (decide_eq_true c2) ?_; wp_walk using wpAny_loadPart' hl))
    exact ⟨_, rfl, h⟩
def rRepT0 (K : PySem.W.Frag) : R2 := fun x y H Q => ∃ l xs, x = .ref l ∧ y = .int 0 ∧ SqT K H l xs ∧ xs ≠ [] ∧ ∀ p, H p = none → Q (.ref p) (upd H p (.tup []))
theorem op_repT0 {X : Cx} : OpR X (binaryOp .Mult) (rRepT0 X.K) := by
  intro pins s σ H x y v u Q I rx ry h
  obtain ⟨l, xs, rfl, rfl, hT, hne, q⟩ := h
  cases rx
  obtain ⟨t, rfl⟩ := ry
  obtain ⟨its, r, ⟨⟨cls, dd, data, sl⟩, ho, hc, n, hd⟩, hs⟩ := I.tuple hT
  simp only at hc hd
  subst hc hd
  cases its with
  | nil => exact absurd (List.eq_nil_of_length_eq_zero r.length) hne
  | cons a its =>
    refine wpAny_binaryOp_repeat_ref (T := "tuple") (U := "int") (by decide) ⟨_, ho, rfl⟩ (fun s' => typeIs_int s' 0 t) noFill_tuple_mul F.fills_int_mul F.slot_int_rmul repeat_tuple F.slot_int_index.lookup
      (call_meets F.slot_int_rmul (typeIs_int s 0 t) F.entry_int_rmul (F.args_int_rmul_2 _ _) (int_rmul_tuple 0 t l (a :: its).toArray n dd sl)
        ⟨ho, rfl, ⟨_, ho, rfl⟩, call_meets F.slot_tuple_mul ⟨_, ho, rfl⟩ F.entry_tuple_mul (F.args_tuple_mul_2 _ _) (tuple_mul0 l a its n dd sl t) ⟨ho, ?_⟩⟩)
    exact ⟨.ref s.heap.objs.size, _, I.laid (t' := s.toks) (o := .tup []) (fun b ob q => Heap.get?_push_of_some _ q) (Nat.le_refl _) ⟨Nat.zero_le _, [], .nil, IsTup.new _ _⟩, rfl, q _ (I.hok.fresh (Nat.le_refl _))⟩
def rMulZ (K : PySem.W.Frag) : R2 := fun x y H Q => rMulA K x y H Q ∨ rRepT0 K x y H Q
theorem op_mulZ {X : Cx} : OpR X (binaryOp .Mult) (rMulZ X.K) := op_mulA.or op_repT0
def gMulZ : List D → Option W
  | [.tup (d :: ds), .int k] => if k = 0 then some (.v (.tup [])) else gMul [.tup (d :: ds), .int k]
  | ds => gMul ds
theorem cd_mulZ {K : PySem.W.Frag} : CaD K (r2 (rMulZ K)) gMulZ := by
  intro F H vs ds w Q e vw hg q
  have key : gMul ds = some w → r2 (rMulZ K) vs H Q := fun h => by
    obtain ⟨x, y, e1, z⟩ := cd_mul F H vs ds w Q e vw h q
    exact ⟨x, y, e1, .inl z⟩
  unfold gMulZ at hg
  split at hg
  · rename_i d xs k
    by_cases hk : k = 0
    · rw [if_pos hk] at hg
      cases hg
      subst hk
      obtain ⟨x, y, rfl, hx, hy⟩ := vw.two
      obtain ⟨a, us, rfl, f1, h2, r⟩ := hx.tup e
      refine ⟨_, _, rfl, .inr ⟨a, us, rfl, hy.int, h2, fun z => ?_, fin_tup e .nil q⟩⟩
      have := r.length
      rw [z] at this
      simp at this
    · rw [if_neg hk] at hg
      exact key hg
  · exact key hg
end DL

/-! A def that a name holds is called; what is never reached. -/
namespace DL
open PySem PySem.Spec PyProof.Rows L2
def callV (i : Nat) (tab : List (Str × (List W → RF))) (ms : List (Option Nat)) (fs : List (M U)) : M U := fun env => match env[i]? with
  | some (some (.v (.nam false c))) => (match tab.lookup c with
    | some g => callF g ms fs env
    | none => .stuck)
  | _ => .stuck
/-- what a caller knows of the defs that a name may hold -/
def Tab (P : Program) (w : World) (K : PySem.W.Frag) (mg : Str → Option Value) (base : Heap) (j : Nat) (n : Nat) (tab : List (Str × (List W → RF))) : Prop := ∀ c g, (c, g) ∈ tab → Nam K mg c ∧ ∃ ps, ps.length = n ∧ Cal P w K mg base j c ps g
theorem tab_nil {P : Program} {w : World} {K : PySem.W.Frag} {mg : Str → Option Value} {base : Heap} {j n : Nat} : Tab P w K mg base j n [] := fun _ _ h => by cases h
theorem tab_cons {P : Program} {w : World} {K : PySem.W.Frag} {mg : Str → Option Value} {base : Heap} {i j n : Nat} {c : Str} {g : List W → RF} {ps : List Str} {tab : List (Str × (List W → RF))} (N : Nam K mg c) (C : Cal P w K mg base i c ps g) (h : Tab P w K mg base j n tab) (hij : i ≤ j := by decide) (hn : ps.length = n := by rfl) : Tab P w K mg base j n ((c, g) :: tab) := fun c' g' hm => by
  rcases List.mem_cons.mp hm with e | hm
  · cases e
    exact ⟨N, ps, hn, C.mono hij⟩
  · exact h c' g' hm
theorem mem_of_lookup {tab : List (Str × (List W → RF))} {c : Str} {g : List W → RF} (h : tab.lookup c = some g) : (c, g) ∈ tab := by
  induction tab with
  | nil => cases h
  | cons q r ih =>
    obtain ⟨a, b⟩ := q
    rw [List.lookup_cons] at h
    cases e : c == a with
    | true =>
      rw [e] at h
      cases h
      rw [eq_of_beq e]
      exact List.mem_cons_self ..
    | false =>
      rw [e] at h
      exact List.mem_cons_of_mem _ (ih h)
section
variable {X : Cx} {Wx : WX} {i j k n : Nat} {x : Str} {p pos : Pos} {e : Expr} {es : List Expr} {fs : List (M U)} {ms : List (Option Nat)} {tab : List (Str × (List W → RF))}
theorem e_callV (T : Tab X.prog X.w X.K X.mg X.base j n tab) (tk : Takes X Wx) (hr : Room k X.A) (ha : EaS X Wx (e :: es) fs) (hjk : j ≤ k) (hN : X.N[i]? = some x := by rfl) (hv : Vis X.env.scope x := by first | exact Or.inl rfl | exact Or.inr (Or.inl rfl) | exact Or.inr (Or.inr rfl))
    (nd : (ms.filterMap id).Nodup := by decide) (hn : ms.length = n := by rfl) (hdb : (x == ("__debug__" : Str)) = false := by decide) (hcd : (x == ("__classdict__" : Str)) = false := by decide) (he : starEach (e :: es) X.env = (false, eval e X.env) :: starEach es X.env := by rfl) (hpl : (backTo pos (starEach es X.env)).any (·.1) = false := by rfl) :
    EvS X Wx (.Call (.Name x p) (e :: es) [] pos) (callV i tab ms fs) := by
  refine ⟨fun pins s σ H Q I h => ?_⟩
  obtain ⟨F, env, own, S, h⟩ := h
  unfold callV at h
  cases e1 : env[i]? with
  | none => rw [e1] at h; exact h.elim
  | some o =>
    rw [e1] at h
    cases o with
    | none => exact h.elim
    | some wv =>
      cases wv with
      | l b ds => exact h.elim
      | m ks ds => exact h.elim
      | v d =>
        cases d with
        | nam b c =>
          cases b with
          | true => exact h.elim
          | false =>
            dsimp only at h
            cases e2 : tab.lookup c with
            | none => rw [e2] at h; exact h.elim
            | some g =>
              rw [e2] at h
              obtain ⟨N, ps, hps, C⟩ := T c g (mem_of_lookup e2)
              obtain ⟨f, fd, G, hm, hk, hb⟩ := C.ex
              obtain ⟨C', hm', hns⟩ := N.ex
              rw [hm] at hm'
              cases hm'
              obtain ⟨v, hs, _, rd⟩ := S.rep i _ e1
              have ev : v = .ref f := by
                cases rd with
                | @glob C2 _ hn2 =>
                  rw [hns] at hn2
                  cases hn2
                  rfl
              subst ev
              have ht := call_sem (ms := ms) (fs := fs) (g := g) (Wx := Wx) (K := X.K) (mg := X.mg) (n := ps.length) nd (by omega) (⟨F, env, own, S, h⟩ : tOf X.K X.mg Wx (callF g ms fs) σ H Q)
              refine wpAny_Call_Name_kw (thn ((pe_var (pos := p) hN hv hdb hcd).run pins s σ H (fun v H1 => v = .ref f ∧ H1 = H) I ⟨.ref f, hs, rfl, rfl⟩) fun u s1 z => ?_)
              obtain ⟨v, H1, I1, r1, rfl, rfl⟩ := z
              cases r1
              refine PySem.W.callWith_K (h₀ := X.base) I.ok.mod.kin hk (thn (ha.run pos pins s1 σ _ _ I1 ht) fun us s2 z => ?_) he hpl
              obtain ⟨vs, H2, I2, r, q⟩ := z
              exact ⟨I2.kIn, run_fnSD (E := fun σ c d H' => Wx c d σ H') G (hr.mono hjk) hb .nil (passAt tk σ) I2 r q⟩
        | _ => exact h.elim
/-- never reached -/
def eStuck : M U := fun _ => .stuck
def sStuck : M Fl := fun _ => .stuck
theorem e_stuck {e : Expr} : EvS X Wx e eStuck := ⟨fun pins s σ H Q I h => by
  obtain ⟨F, env, own, S, h⟩ := h
  exact h.elim⟩
theorem s_stuck {st : Stmt} {is : List Nat} : StS X Wx st is sStuck := ⟨fun pins s σ H Q I h => by
  obtain ⟨F, env, own, S, h⟩ := h
  exact h.elim⟩
end
end DL

/-! Dicts whose keys are tuples of ints. -/
namespace DL
open PySem PySem.Spec PyProof.Rows L2

/-! ### plain -/
def dGet : List (List Int) → List D → List Int → Option D
  | k' :: ks, d :: ds, k => if k' = k then some d else dGet ks ds k
  | _, _, _ => none
def dRep : List (List Int) → List D → List Int → D → List D
  | k' :: ks, d' :: ds, k, d => (if k' = k then d else d') :: dRep ks ds k d
  | _, _, _, _ => []
def dPutK (ks : List (List Int)) (k : List Int) : List (List Int) := if k ∈ ks then ks else ks ++ [k]
def dPutD (ks : List (List Int)) (ds : List D) (k : List Int) (d : D) : List D := if k ∈ ks then dRep ks ds k d else ds ++ [d]

/-! ### as HandS has it -/
theorem keyI_inj {k k' : List Int} : keyI k = keyI k' ↔ k = k' := by
  constructor
  · intro h
    unfold keyI at h
    exact (List.map_inj_right (fun a b z => by injection z)).mp h
  · intro h
    rw [h]
theorem keyI_kV (k : List Int) : (keyI k).map kV = k.map V.int := by
  unfold keyI
  rw [List.map_map]
  rfl
section
variable {K : PySem.W.Frag} {F : Hp}
theorem get_rep : ∀ {kvs : List (List Key × V)} {ks : List (List Int)} {ds : List D} (k : List Int), kvs.map (·.1) = ks.map keyI → RepDs K F (kvs.map (·.2)) ds → match dGet ks ds k with
    | some d => ∃ v, valV kvs (keyI k) = some v ∧ RepD K F v d
    | none => valV kvs (keyI k) = none
  | [], ks, ds, k, hk, r => by
    have hk : ks = [] := by cases ks with | nil => rfl | cons a b => simp at hk
    subst hk
    exact valV_nil
  | (k0, v0) :: kvs, ks, ds, k, hk, r => by
    cases ks with
    | nil => simp at hk
    | cons k' ks =>
      simp only [List.map_cons, List.cons.injEq] at hk r
      cases r with
      | @cons _ d _ ds' h t =>
        obtain ⟨e, hk⟩ := hk
        by_cases c : k' = k
        · subst c
          rw [show dGet (k' :: ks) (d :: ds') k' = some d by simp [dGet]]
          exact ⟨v0, valV_pos e, h⟩
        · have := get_rep k hk t
          rw [show dGet (k' :: ks) (d :: ds') k = dGet ks ds' k by simp [dGet, c]]
          have ne : ¬ (k0, v0).1 = keyI k := fun z => c (keyI_inj.mp (e.symm.trans z))
          split at this
          · rw [valV_neg ne]
            exact this
          · rw [valV_neg ne]
            exact this
theorem any_key : ∀ {kvs : List (List Key × V)} {ks : List (List Int)} (k : List Int), kvs.map (·.1) = ks.map keyI → (kvs.any fun kv => decide (kv.1 = keyI k)) = decide (k ∈ ks)
  | [], ks, k, hk => by
    have hk : ks = [] := by cases ks with | nil => rfl | cons a b => simp at hk
    subst hk
    rfl
  | q :: kvs, ks, k, hk => by
    cases ks with
    | nil => simp at hk
    | cons k' ks =>
      simp only [List.map_cons, List.cons.injEq] at hk
      rw [List.any_cons, any_key k hk.2, hk.1]
      by_cases c : k = k'
      · subst c
        simp
      · have : ¬ keyI k' = keyI k := fun z => c (keyI_inj.mp z).symm
        simp [this, c]
theorem put_rep {kvs : List (List Key × V)} {ks : List (List Int)} {ds : List D} (k : List Int) {v : V} {d : D} (hk : kvs.map (·.1) = ks.map keyI) (r : RepDs K F (kvs.map (·.2)) ds) (rv : RepD K F v d) :
    (putK kvs (keyI k) v).map (·.1) = (dPutK ks k).map keyI ∧ RepDs K F ((putK kvs (keyI k) v).map (·.2)) (dPutD ks ds k d) := by
  unfold putK dPutK dPutD
  rw [any_key k hk]
  by_cases c : k ∈ ks
  · rw [decide_eq_true c, if_pos rfl, if_pos c, if_pos c]
    clear c
    induction kvs generalizing ks ds with
    | nil =>
      have hk : ks = [] := by cases ks with | nil => rfl | cons a b => simp at hk
      subst hk
      cases r
      exact ⟨rfl, .nil⟩
    | cons q kvs ih =>
      cases ks with
      | nil => simp at hk
      | cons k' ks =>
        simp only [List.map_cons, List.cons.injEq] at hk r ⊢
        cases r with
        | @cons _ d0 _ ds' h t =>
          obtain ⟨i1, i2⟩ := ih hk.2 t
          have e1 : (if q.1 = keyI k then (q.1, v) else q).1 = q.1 := by split <;> rfl
          refine ⟨⟨e1.trans hk.1, i1⟩, ?_⟩
          rw [dRep]
          refine .cons ?_ i2
          by_cases c : k' = k
          · subst c
            rw [if_pos hk.1, if_pos rfl]
            exact rv
          · have ne : ¬ q.1 = keyI k := fun z => c (keyI_inj.mp (hk.1.symm.trans z))
            rw [if_neg ne, if_neg c]
            exact h
  · rw [decide_eq_false c, if_neg (by simp), if_neg c, if_neg c]
    rw [List.map_append, List.map_append, List.map_append, hk]
    exact ⟨rfl, r.append (.cons rv .nil)⟩
/-- a key, as HandS wants it -/
theorem key_rep {b : V} {es : List D} {k : List Int} (h : RepD K F b (.tup es)) (hi : intsOf es = some k) : ∃ a, b = .ref a ∧ F a = some (.tup ((keyI k).map kV)) := by
  cases h with
  | @tup a vs _ q r =>
    rw [intsOf_eq hi] at r
    have := r.ints
    subst this
    exact ⟨a, rfl, by rw [keyI_kV]; exact q⟩
end

/-! ### d[k], k in d -/
def gDGet : List D → Option W
  | [.dic ks ds, .tup es] => match intsOf es with
    | some k => (dGet ks ds k).map .v
    | none => none
  | _ => none
def gDIn : List D → Option W
  | [.tup es, .dic ks ds] => match intsOf es with
    | some k => some (.v (.bl (dGet ks ds k).isSome))
    | none => none
  | _ => none
def gDNotIn : List D → Option W
  | [.tup es, .dic ks ds] => match intsOf es with
    | some k => some (.v (.bl (!(dGet ks ds k).isSome)))
    | none => none
  | _ => none
def rDGet : R2 := fun x y H Q => ∃ a v, x = .ref a ∧ DGet H a y (some v) ∧ Q v H
def rDIn : R2 := fun y x H Q => ∃ a o, x = .ref a ∧ DGet H a y o ∧ Q (.bl o.isSome) H
def rDNotIn : R2 := fun y x H Q => ∃ a o, x = .ref a ∧ DGet H a y o ∧ Q (.bl (!o.isSome)) H
section
variable {X : Cx} {Wx : WX} {a b : Expr} {fa fb : M U} {pos : Pos}
theorem op_dIn (hu : X.A.units + 1 < cLine) : OpR X (compareOp .In) rDIn := by
  intro pins s σ H y x v u Q I ry rx h
  obtain ⟨a, o, rfl, g, q⟩ := h
  cases (show u = Value.ref a from rx)
  exact d_in hu I g ry fun s3 I3 => ⟨.bl o.isSome, H, I3, rfl, q⟩
theorem op_dNotIn (hu : X.A.units + 1 < cLine) : OpR X (compareOp .NotIn) rDNotIn := by
  intro pins s σ H y x v u Q I ry rx h
  obtain ⟨a, o, rfl, g, q⟩ := h
  cases (show u = Value.ref a from rx)
  exact d_notIn hu I g ry fun s3 I3 => ⟨.bl (!o.isSome), H, I3, rfl, q⟩
theorem dget_view {K : PySem.W.Frag} {F H : Hp} {x y : V} {ks : List (List Int)} {ds es : List D} {k : List Int} (e : Same F H) (hx : View K F H x (.dic ks ds)) (hy : View K F H y (.tup es)) (hi : intsOf es = some k) :
    ∃ a o, x = .ref a ∧ DGet H a y o ∧ match dGet ks ds k with
      | some d => ∃ v, o = some v ∧ RepD K F v d
      | none => o = none := by
  obtain ⟨a, kvs, rfl, hH, hk, r⟩ := hx
  obtain ⟨b, rfl, hb⟩ := key_rep (show RepD K F y (.tup es) from hy) hi
  refine ⟨a, valV kvs (keyI k), rfl, DGet.t hH (e _ _ hb), ?_⟩
  exact get_rep k hk r
theorem cd_dGet {K : PySem.W.Frag} : CaD K (r2 rDGet) gDGet := by
  intro F H vs ds w Q e vw hg q
  unfold gDGet at hg
  split at hg
  · rename_i ks dd es
    obtain ⟨x, y, rfl, hx, hy⟩ := vw.two
    split at hg
    · rename_i k hi
      obtain ⟨d, hd, rfl⟩ := Option.map_eq_some_iff.mp hg
      obtain ⟨a, o, rfl, g, z⟩ := dget_view e hx hy hi
      rw [hd] at z
      obtain ⟨v, rfl, rv⟩ := z
      exact ⟨_, _, rfl, a, v, rfl, g, fin_rep e rv q⟩
    · cases hg
  · cases hg
theorem cd_dIn {K : PySem.W.Frag} : CaD K (r2 rDIn) gDIn := by
  intro F H vs ds w Q e vw hg q
  unfold gDIn at hg
  split at hg
  · rename_i es ks dd
    obtain ⟨x, y, rfl, hx, hy⟩ := vw.two
    split at hg
    · rename_i k hi
      cases hg
      obtain ⟨a, o, rfl, g, z⟩ := dget_view e hy hx hi
      refine ⟨_, _, rfl, a, o, rfl, g, ?_⟩
      have : o.isSome = (dGet ks dd k).isSome := by
        cases hd : dGet ks dd k with
        | some d =>
          rw [hd] at z
          obtain ⟨v, rfl, _⟩ := z
          rfl
        | none =>
          rw [hd] at z
          rw [z]
          rfl
      rw [this]
      exact fin_bl e q
    · cases hg
  · cases hg
theorem cd_dNotIn {K : PySem.W.Frag} : CaD K (r2 rDNotIn) gDNotIn := by
  intro F H vs ds w Q e vw hg q
  unfold gDNotIn at hg
  split at hg
  · rename_i es ks dd
    obtain ⟨x, y, rfl, hx, hy⟩ := vw.two
    split at hg
    · rename_i k hi
      cases hg
      obtain ⟨a, o, rfl, g, z⟩ := dget_view e hy hx hi
      refine ⟨_, _, rfl, a, o, rfl, g, ?_⟩
      have : o.isSome = (dGet ks dd k).isSome := by
        cases hd : dGet ks dd k with
        | some d =>
          rw [hd] at z
          obtain ⟨v, rfl, _⟩ := z
          rfl
        | none =>
          rw [hd] at z
          rw [z]
          rfl
      rw [this]
      exact fin_bl e q
    · cases hg
  · cases hg
theorem e_dget (hu : X.A.units + 1 < cLine) (ha : EvS X Wx a fa) (hb : EvS X Wx b fb) (hs : NoSl b := by intro _ _; rfl) : EvS X Wx (.Subscript a b pos) (opN gDGet [fa, fb]) :=
  PE.imp (pe_dget hu ha hb hs) fun σ H Q h => tOf_mono (aOf_2 (aOf_op cd_dGet h)) fun _ _ q => tOf_mono q fun _ _ z => r2_two z
/-! ### {} -/
def eDNew : M U := fun env => .ok (.w (.m [] [])) env
theorem e_dnew : EvS X Wx (.Dict [] [] pos) eDNew := PE.imp pe_dnewT fun σ H Q h => by
  obtain ⟨F, env, own, S, h⟩ := h
  intro p hp
  have g : Grow F H F (upd H p (.dT [])) (fun a => a = p) := Grow.ofOwn S.ex hp
  exact h (.ref p) F (upd H p (.dT [])) own (fun a => a = p) (g.out (OutR.refl S) ⟨p, [], rfl, fun _ => Iff.rfl, upd_same, sub_none S.ex hp, rfl, .nil⟩)
end
/-! ### d[k] = e -/
section
variable {K : PySem.W.Frag} {F H : Hp} {σ : L2.St} {env : DEnv} {own : Nat → Fp}
theorem Sit.mutM {i : Nat} {a : Addr} {ks ks' : List (List Int)} {ds ds' : List D} {kvs' : List (List Key × V)} (S : Sit K F σ H env own) (he : env[i]? = some (some (.m ks ds))) (hσ : σ[i]? = some (some (.ref a))) (hk' : kvs'.map (·.1) = ks'.map keyI) (r : RepDs K F (kvs'.map (·.2)) ds') :
    OutR K F H own σ (env.set i (some (.m ks' ds'))) F (upd H a (.dT kvs')) own := by
  obtain ⟨v, hv, a', vs, ev, hp, hH, hF, hk, r0⟩ := S.rep i _ he
  rw [hσ] at hv
  cases hv
  cases ev
  have hi : i < env.length := (List.getElem?_eq_some_iff.mp he).1
  have pa : own i a := (hp a).mpr rfl
  refine ⟨⟨fun x o h => ?_, by rw [List.length_set]; exact S.len, fun j w e => ?_, fun j x z => ?_, S.dis⟩, Same.refl _, fun x o h n => ?_, fun x z => .inl z, fun x o h n => by rw [h] at n; cases n⟩
  · have ne : x ≠ a := fun z => by rw [z, hF] at h; cases h
    rw [upd_ne ne]
    exact S.ex x o h
  · by_cases hj : j = i
    · subst hj
      rw [List.getElem?_set_self hi] at e
      cases e
      exact ⟨.ref a, hσ, a, kvs', rfl, hp, upd_same, hF, hk', r⟩
    · rw [List.getElem?_set_ne (Ne.symm hj)] at e
      obtain ⟨u, hu, ru⟩ := S.rep j w e
      refine ⟨u, hu, ru.frame (Same.refl _) (fun x o q h => ?_) fun x q => (ru.there q).2⟩
      have ne : x ≠ a := fun z => hj (S.dis j i x q (z ▸ pa))
      rw [upd_ne ne]
      exact h
  · by_cases hj : j = i
    · subst hj; exact ⟨_, List.getElem?_set_self hi⟩
    · obtain ⟨w, e⟩ := S.emp j x z
      exact ⟨w, by rw [List.getElem?_set_ne (Ne.symm hj)]; exact e⟩
  · have ne : x ≠ a := fun z => n (z ▸ ⟨i, pa⟩)
    rw [upd_ne ne]
    exact h
end
def sStoreD (i : Nat) (fk fe : M U) : M Fl := fun env => match env[i]? with
  | some (some (.m _ _)) => (fe env).bind fun u e1 => (fk e1).bind fun uk e2 => (match frz1 e2 u with
    | some (d, e3) => (match dat e3 uk, e3[i]? with
      | some (.tup es), some (some (.m ks ds)) => (match intsOf es with
        | some k => if ds.length < 1000000 then .ok .next (e3.set i (some (.m (dPutK ks k) (dPutD ks ds k d)))) else .stuck
        | none => .stuck)
      | _, _ => .stuck)
    | none => .stuck)
  | _ => .stuck
section
variable {X : Cx} {Wx : WX} {e k : Expr} {fe fk : M U} {i : Nat} {x : Str} {pos p1 tpos : Pos}
theorem s_storeD (hu : X.A.units + 1 < cLine) (he : EvS X Wx e fe) (hk : EvS X Wx k fk) (hN : X.N[i]? = some x := by rfl) (hv : Vis X.env.scope x := by first | exact Or.inl rfl | exact Or.inr (Or.inl rfl) | exact Or.inr (Or.inr rfl)) (hd : (x == ("__debug__" : Str)) = false := by decide) (hcd : (x == ("__classdict__" : Str)) = false := by decide)
    (hs : swapsWith e (some (.Subscript (.Name x p1) k tpos)) pos.line X.env = pure false := by rfl) :
    StS X Wx (.Assign [.Subscript (.Name x p1) k tpos] e pos) [] (sStoreD i fk fe) :=
  PS.imp (ps_dput hu (pe_var hN hv hd hcd) hk he hs) fun E σ H h => by
  obtain ⟨F, env, own, S, h⟩ := h
  have h : Po X.K X.mg Wx [] E σ F H own (sStoreD i fk fe env) := h
  cases hw0 : env[i]? with
  | none => unfold sStoreD at h; rw [hw0] at h; exact h.elim
  | some ow =>
    cases ow with
    | none => unfold sStoreD at h; rw [hw0] at h; exact h.elim
    | some w0 =>
      cases w0 with
      | v d => unfold sStoreD at h; rw [hw0] at h; exact h.elim
      | l b ds => unfold sStoreD at h; rw [hw0] at h; exact h.elim
      | m ks0 ds0 =>
        unfold sStoreD at h
        rw [hw0] at h
        dsimp only at h
        obtain ⟨v, hv, a, vs, rfl, hp, hH, hF, hk0, r0⟩ := S.rep i _ hw0
        refine tOf_use S (fun u env1 e1 v1 F1 H1 own1 p O1 => ?_) (fun c env1 e1 C F1 H1 own1 hm O1 => ?_) (fun e1 => ?_)
        · rw [e1, R.bind_ok] at h
          refine ⟨.ref a, hv, ?_⟩
          refine tOf_use O1.S (fun uk env2 e2 vk F2 H2 own2 p2 O2 => ?_) (fun c env2 e2 C F2 H2 own2 hm O2 => ?_) (fun e2 => ?_)
          · rw [e2, R.bind_ok] at h
            have OO := O1.out2 O2
            cases e3 : frz1 env2 u with
            | none => rw [e3] at h; exact h.elim
            | some pr =>
              obtain ⟨d, env3⟩ := pr
              rw [e3] at h
              dsimp only at h
              obtain ⟨F3, own3, S3, r3, s3⟩ := frz1_ok OO.S OO.r1 OO.d1 e3
              have st := OO.s.trans ((s3.more p2).sup fun x z => by
                rcases z with (z | z) | z
                · exact .inl (.inl z)
                · exact .inr z
                · exact .inl (.inr z))
              obtain ⟨rk, dk⟩ := RepU.stepU OO.r2 (fun x q z => by
                rcases z with z | z
                · exact OO.d2 x q z
                · exact OO.d12 x z q) s3
              have O3 : OutR X.K F H own σ env3 F3 H2 own3 := ⟨S3, st.sub fun x z => .inl z⟩
              cases e4 : dat env3 uk with
              | none => rw [e4] at h; exact h.elim
              | some dk' =>
                have vw := RepU.view S3 rk e4
                cases dk' with
                | tup es =>
                  cases e5 : env3[i]? with
                  | none => rw [e4, e5] at h; exact h.elim
                  | some ow =>
                    cases ow with
                    | none => rw [e4, e5] at h; exact h.elim
                    | some w =>
                      cases w with
                      | v _ => rw [e4, e5] at h; exact h.elim
                      | l _ _ => rw [e4, e5] at h; exact h.elim
                      | m ks ds =>
                        rw [e4, e5] at h
                        dsimp only at h
                        cases e6 : intsOf es with
                        | none => rw [e6] at h; exact h.elim
                        | some k =>
                          rw [e6] at h
                          dsimp only at h
                          split at h
                          · rename_i hlen
                            obtain ⟨v2, hv2, a2, kvs2, ev2, hp2, hH2, hF2, hk2, r4⟩ := S3.rep i _ e5
                            rw [hv] at hv2
                            cases hv2
                            cases ev2
                            obtain ⟨b, hb, hbF⟩ := key_rep (show RepD X.K F3 vk (.tup es) from vw) e6
                            subst hb
                            obtain ⟨q1, q2⟩ := put_rep k hk2 r4 r3
                            have hl2 : kvs2.length < sizeLine := by
                              have := r4.length
                              rw [List.length_map] at this
                              rw [this]
                              exact szl hlen
                            exact ⟨a, _, rfl, DPut.t hH2 (S3.ex _ _ hbF) hl2, h _ _ _ _ Only.refl (O3.trans (S3.mutM e5 hv q1 q2))⟩
                          · exact h.elim
                | _ => rw [e4] at h; exact h.elim
          · rw [e2] at h
            exact h C σ F2 H2 own2 Only.refl hm (O1.drop.trans O2)
          · rw [e2] at h
            exact h
        · rw [e1] at h
          exact h C σ F1 H1 own1 Only.refl hm O1
        · rw [e1] at h
          exact h
end
/-! ### {k: c} -/
def tDisp1 (tk : TE) (c : Int) : TE := fun σ H Q => ∀ p, H p = none → tk σ (upd H p (.dT [])) fun x H1 => ∃ b kk, x = .ref b ∧ H1 b = some (.tup (kk.map kV)) ∧ H1 p = some (.dT []) ∧ Q (.ref p) (upd H1 p (.dT [(kk, .int c)]))
section
variable {X : Cx} {Wx : WX} {k : Expr} {tk : TE} {fk : M U} {c : Int} {j : Nat} {pos p2 : Pos}
theorem pe_disp1 (hu : X.A.units + 1 < cLine) (hk : PE X k tk) : PE X (.Dict [some k] [.Constant (.int c) j p2] pos) (tDisp1 tk c) := by
  refine ⟨fun pins s σ H Q I q => ?_⟩
  have hn := I.hok.fresh (Nat.le_refl s.heap.objs.size)
  have I1 := I.laid (a := s.heap.objs.size) (o := .dT []) (h' := s.heap.push { cls := .type "dict", data := .dict #[] }) (t' := s.toks) (fun _ _ q => Heap.get?_push_of_some _ q) (Nat.le_refl _) (dt_empty s.heap I.big)
  have hlen := pairTrees_length [some k] [.Constant (.int c) j p2] X.env pos rfl rfl
  have h0 : pairTrees [some k] [.Constant (.int c) j p2] X.env pos ≠ [] := fun z => by
    rw [z] at hlen
    cases hlen
  have hl1 : (pairTrees [some k] [.Constant (.int c) j p2] X.env pos).length ≤ 15 := by
    rw [hlen]
    show 1 ≤ 15
    decide
  rw [arm_eval_Dict, zip_pairTrees [some k] [.Constant (.int c) j p2] X.env pos rfl rfl, dictDisplay_pairs _ h0 (by omega)]
  refine wpAny_bind (wpAny_standAt (wpAny_bind (wpAny_subDictH (knd := tupleKind (mixKind X.prog X.w)) (Q := fun d s' => wpAny (model X.prog X.w) X.A (pure (Value.ref d)) (EP X pins σ Q) X.xe s') ?_ hl1 ?_)))
  · show X.A.units < cLine
    omega
  · refine pairTrees_cons_walk (thn (hk.run pins _ σ _ _ I1 (q _ hn)) fun u s1 z => ?_)
    obtain ⟨x, H1, I2, rx, b, kk, rfl, hb, hp, hq⟩ := z
    cases (show u = Value.ref b from rx)
    refine thn (pe_int.run pins s1 σ H1 (fun y H2 => y = .int c ∧ H2 = H1) I2 ⟨rfl, rfl⟩) fun w2 s2 z => ?_
    obtain ⟨y, H2, I3, ry, rfl, rfl⟩ := z
    refine pairTrees_nil_walk ?_
    obtain ⟨z, hd, xs, rel, dd⟩ := dt_of I3.hok hp
    cases rel
    refine ⟨[(kk, b, w2)], ⟨rfl, rfl, key_of I3.hok hb, trivial⟩, dd, fun h' tk' dk hs => wpAny_pure ?_⟩
    obtain ⟨q', es, ep, hq', h2, h3, h4, _, h5⟩ := dk
    have hb' : upd H2 s.heap.objs.size (.dT [(kk, .int c)]) b = some (.tup (kk.map kV)) := by
      rw [upd_ne (ne_of hb hp (fun z => nomatch z))]
      exact hb
    have ok : ObjOk X.prog X.w (upd H2 s.heap.objs.size (.dT [(kk, .int c)])) h' s.heap.objs.size (.dT [(kk, .int c)]) :=
      ⟨by show 1 ≤ sizeLine; decide, hd, [(kk, b, w2)], .cons ⟨rfl, hb', ry⟩ .nil, q', es, ep, hq', h2, h3, h4, h5⟩
    exact ⟨.ref s.heap.objs.size, _, d_write I3 (by rw [hp]; exact True.intro) hs ⟨q', hq'⟩ ok, rfl, hq⟩
def eDict1 (fk : M U) (c : Int) : M U := fun env => (fk env).bind fun u e1 => match dat e1 u with
  | some (.tup es) => (match intsOf es with
    | some k => .ok (.w (.m [k] [.int c])) e1
    | none => .stuck)
  | _ => .stuck
theorem e_disp1 (hu : X.A.units + 1 < cLine) (hk : EvS X Wx k fk) : EvS X Wx (.Dict [some k] [.Constant (.int c) j p2] pos) (eDict1 fk c) := PE.imp (pe_disp1 hu hk) fun σ H Q h => by
  obtain ⟨F, env, own, S, h⟩ := h
  intro p hp
  have g : Grow F H F (upd H p (.dT [])) (fun a => a = p) := Grow.ofOwn S.ex hp
  have S' := g.sit S
  have npo : ¬ all own p := fun z => by
    obtain ⟨⟨o, e⟩, _⟩ := S.there z
    rw [hp] at e
    cases e
  unfold eDict1 at h
  refine tOf_use S' (fun u env1 e1 v F1 H1 own1 p1 O1 => ?_) (fun c' env1 e1 C F1 H1 own1 hm O1 => ?_) (fun e1 => ?_)
  · rw [e1, R.bind_ok] at h
    cases e2 : dat env1 u with
    | none => rw [e2] at h; exact h.elim
    | some dd =>
      rw [e2] at h
      have vw := RepU.view O1.S O1.r e2
      cases dd with
      | tup es =>
        dsimp only at h
        cases e3 : intsOf es with
        | none => rw [e3] at h; exact h.elim
        | some kk =>
          rw [e3] at h
          obtain ⟨b, rfl, hb⟩ := key_rep (show RepD X.K F1 v (.tup es) from vw) e3
          have hp1 : H1 p = some (.dT []) := O1.s.keep p _ upd_same npo
          have np1 : ¬ all own1 p := fun z => by
            rcases O1.s.new p (.inl z) with y | y
            · exact npo y
            · rw [upd_same] at y
              cases y
          have nF1 : F1 p = none := by
            cases q : F1 p with
            | none => rfl
            | some o =>
              rcases O1.s.frz p o q (sub_none S.ex hp) with y | y
              · exact absurd y npo
              · rw [upd_same] at y
                cases y
          refine ⟨b, keyI kk, rfl, O1.S.ex _ _ hb, hp1, ?_⟩
          refine h (.ref p) F1 (upd H1 p (.dT [(keyI kk, .int c)])) own1 (fun a => a = p) ⟨⟨fun x o q => ?_, O1.S.len, fun i w q => ?_, O1.S.emp, O1.S.dis⟩, ⟨p, [(keyI kk, .int c)], rfl, fun _ => Iff.rfl, upd_same, nF1, rfl, .cons (.int c) .nil⟩, fun a z => by rw [z]; exact np1, O1.s.ex, fun a o q n => ?_, fun a z => ?_, fun a o q n => ?_⟩
          · have ne : x ≠ p := fun z => by rw [z, nF1] at q; cases q
            rw [upd_ne ne]
            exact O1.S.ex x o q
          · obtain ⟨v2, hv2, r2⟩ := O1.S.rep i w q
            refine ⟨v2, hv2, r2.frame (Same.refl _) (fun x o q h => ?_) fun x q => (r2.there q).2⟩
            have ne : x ≠ p := fun z => np1 ⟨i, z ▸ q⟩
            rw [upd_ne ne]
            exact h
          · have ne : a ≠ p := fun z => by rw [z, hp] at q; cases q
            rw [upd_ne ne]
            exact O1.s.keep a o (by rw [upd_ne ne]; exact q) n
          · rcases z with z | z
            · rcases O1.s.new a (.inl z) with y | y
              · exact .inl y
              · by_cases c : a = p
                · rw [c]; exact .inr hp
                · rw [upd_ne c] at y
                  exact .inr y
            · rw [z]; exact .inr hp
          · rcases O1.s.frz a o q n with y | y
            · exact .inl y
            · by_cases c : a = p
              · rw [c]; exact .inr hp
              · rw [upd_ne c] at y
                exact .inr y
      | _ => exact h.elim
  · rw [e1] at h
    refine h C F1 H1 own1 hm ⟨O1.S, O1.s.ex, fun a o q n => ?_, fun a z => ?_, fun a o q n => ?_⟩
    · have ne : a ≠ p := fun z => by rw [z, hp] at q; cases q
      exact O1.s.keep a o (by rw [upd_ne ne]; exact q) n
    · rcases O1.s.new a z with y | y
      · exact .inl y
      · by_cases c : a = p
        · rw [c]; exact .inr hp
        · rw [upd_ne c] at y
          exact .inr y
    · rcases O1.s.frz a o q n with y | y
      · exact .inl y
      · by_cases c : a = p
        · rw [c]; exact .inr hp
        · rw [upd_ne c] at y
          exact .inr y
  · rw [e1] at h
    exact h
end
end DL

/-! Texts. -/
namespace DL
open PySem PySem.Spec PyProof.Rows L2

def strsOf : List D → Option (List Str)
  | [] => some []
  | .str x :: r => (strsOf r).map (x :: ·)
  | _ => none
theorem strsOf_eq : ∀ {ds : List D} {ys : List Str}, strsOf ds = some ys → ds = ys.map D.str
  | [], ys, h => by cases h; rfl
  | .str x :: r, ys, h => by
    have h : (strsOf r).map (x :: ·) = some ys := h
    obtain ⟨zs, h1, rfl⟩ := Option.map_eq_some_iff.mp h
    rw [strsOf_eq h1]
    rfl
  | .non :: _, _, h => by cases h
  | .bl _ :: _, _, h => by cases h
  | .int _ :: _, _, h => by cases h
  | .tup _ :: _, _, h => by cases h
  | .lst _ :: _, _, h => by cases h
  | .ty _ :: _, _, h => by cases h
  | .nam _ _ :: _, _, h => by cases h
  | .scr _ :: _, _, h => by cases h
  | .dic _ _ :: _, _, h => by cases h
theorem strsOf_map : ∀ ys : List Str, strsOf (ys.map D.str) = some ys
  | [] => rfl
  | y :: r => by
    show (strsOf (r.map D.str)).map (y :: ·) = some (y :: r)
    rw [strsOf_map r]
    rfl
theorem RepDs.strs {K : PySem.W.Frag} {F : Hp} : ∀ {vs : List V} {ys : List Str}, RepDs K F vs (ys.map D.str) → vs = ys.map V.str
  | _, [], .nil => rfl
  | _, _ :: _, .cons (.str _) t => by rw [List.map_cons, ← RepDs.strs t]
theorem RepDs.of_strs {K : PySem.W.Frag} {F : Hp} : ∀ ys : List Str, RepDs K F (ys.map V.str) (ys.map D.str)
  | [] => .nil
  | n :: r => .cons (.str n) (RepDs.of_strs r)
theorem szm {n : Nat} (h : n ≤ 1000000) : n ≤ sizeLine := Nat.le_trans h (by decide)
theorem szm2 {n : Nat} (h : n ≤ 1000000) : n + 2 ≤ sizeLine := Nat.le_trans (Nat.add_le_add_right h 2) (by decide)
/-! ### o.m(e), o a text -/
def opMS (g : List D → Option W) (fo fe : M U) : M U := fun env => (fo env).bind fun u0 e0 => match dat e0 u0 with
  | some (.str _) => (fe e0).bind fun u e1 => (match dat e1 u0, dat e1 u with
    | some d0, some d => (match g [d0, d] with
      | some w => .ok (.w w) e1
      | none => .stuck)
    | _, _ => .stuck)
  | _ => .stuck
theorem meth_semS {K : PySem.W.Frag} {mg : Str → Option Value} {Wx : WX} {r : V → List V → Hp → VK → Prop} {g : List D → Option W} {fo fe : M U} {σ : L2.St} {H : Hp} {Q : VK} (cd : CaD K (rM r) g) (h : tOf K mg Wx (opMS g fo fe) σ H Q) :
    tM1 r (tOf K mg Wx fo) (tOf K mg Wx fe) σ H Q := by
  obtain ⟨F, env, own, S, h⟩ := h
  unfold opMS at h
  refine tOf_use S (fun u0 env0 e0 v0 F0 H0 own0 p0 O0 => ?_) (fun c env1 e1 C F1 H1 own1 => ?_) (fun e1 => ?_)
  · rw [e0, R.bind_ok] at h
    cases ed : dat env0 u0 with
    | none => rw [ed] at h; exact h.elim
    | some d0 =>
      rw [ed] at h
      cases d0 with
      | str x0 =>
        dsimp only at h
        have hx := (RepU.view O0.S O0.r ed).str
        refine ⟨⟨x0, hx⟩, ?_⟩
        refine tOf_use O0.S (fun u env1 e1 v F1 H1 own1 p1 O1 => ?_) (fun c env1 e1 C F1 H1 own1 hm O1 => ?_) (fun e1 => ?_)
        · rw [e1, R.bind_ok] at h
          have OO := O0.out2 O1
          cases e2 : dat env1 u0 with
          | none => rw [e2] at h; exact h.elim
          | some d1 =>
            cases e3 : dat env1 u with
            | none => rw [e2, e3] at h; exact h.elim
            | some d =>
              rw [e2, e3] at h
              dsimp only at h
              cases e4 : g [d1, d] with
              | none => rw [e4] at h; exact h.elim
              | some w =>
                rw [e4] at h
                obtain ⟨x, y, ex, q⟩ := cd F1 H1 [v0, v] [d1, d] w Q OO.S.ex (.cons (RepU.view OO.S OO.r1 e2) (.cons (RepU.view OO.S OO.r2 e3) .nil)) e4 fun v' F' H' p gr rw' => h _ _ _ _ _ (gr.out OO.drop rw')
                cases ex
                exact q
        · rw [e1] at h
          exact h C F1 H1 own1 hm (O0.drop.trans O1)
        · rw [e1] at h
          exact h
      | _ => exact h.elim
  · rw [e1] at h
    exact h C F1 H1 own1
  · rw [e1] at h
    exact h

def gSplit : List D → Option W
  | [.str a, .str b] => if (b.length == 0) = false ∧ a.length ≤ 1000000 then some (.l false ((Txt.split a b).map D.str)) else none
  | _ => none
def gPart : List D → Option W
  | [.str a, .str b] => if (b.length == 0) = false ∧ a.length ≤ 1000000 then some (.v (.tup [.str (Txt.partition a b).1, .str (Txt.partition a b).2.1, .str (Txt.partition a b).2.2])) else none
  | _ => none
def gJoin : List D → Option W
  | [.str a, .lst ds] => match strsOf ds with
    | some ys => if (ys.map (·.length)).sum + ys.length * a.length ≤ 1000000 then some (.v (.str (Txt.join a ys))) else none
    | none => none
  | _ => none
def rSplitS : V → List V → Hp → VK → Prop := fun x xs H Q => ∃ a b, x = .str a ∧ xs = [.str b] ∧ (b.length == 0) = false ∧ a.length + 2 ≤ sizeLine ∧ rNewStrs (Txt.split a b) H Q
def rPartS : V → List V → Hp → VK → Prop := fun x xs H Q => ∃ a b, x = .str a ∧ xs = [.str b] ∧ (b.length == 0) = false ∧ a.length ≤ sizeLine ∧
  ∀ p, H p = none → Q (.ref p) (upd H p (.tup [.str (Txt.partition a b).1, .str (Txt.partition a b).2.1, .str (Txt.partition a b).2.2]))
def rJoinS (K : PySem.W.Frag) : V → List V → Hp → VK → Prop := fun x xs H Q => ∃ a p, ∃ ys : List Str, x = .str a ∧ xs = [.ref p] ∧ (SqL K H p (ys.map V.str) ∨ SqT K H p (ys.map V.str)) ∧
  (ys.map (·.length)).sum + ys.length * a.length ≤ 16777216 ∧ Q (.str (Txt.join a ys)) H
theorem cd_split {K : PySem.W.Frag} : CaD K (rM rSplitS) gSplit := by
  intro F H vs ds w Q e vw hg q
  unfold gSplit at hg
  split at hg
  · rename_i a b
    obtain ⟨x, y, rfl, hx, hy⟩ := vw.two
    split at hg
    · rename_i hc
      cases hg
      refine ⟨x, y, rfl, a, b, hx.str, by rw [hy.str], hc.1, szm2 hc.2, ?_⟩
      exact fin_lst e (RepDs.of_strs _) q
    · cases hg
  · cases hg
theorem cd_part {K : PySem.W.Frag} : CaD K (rM rPartS) gPart := by
  intro F H vs ds w Q e vw hg q
  unfold gPart at hg
  split at hg
  · rename_i a b
    obtain ⟨x, y, rfl, hx, hy⟩ := vw.two
    split at hg
    · rename_i hc
      cases hg
      refine ⟨x, y, rfl, a, b, hx.str, by rw [hy.str], hc.1, szm hc.2, ?_⟩
      exact fin_tup e (.cons (.str _) (.cons (.str _) (.cons (.str _) .nil))) q
    · cases hg
  · cases hg
theorem cd_join {K : PySem.W.Frag} : CaD K (rM (rJoinS K)) gJoin := by
  intro F H vs ds w Q e vw hg q
  unfold gJoin at hg
  split at hg
  · rename_i a es
    obtain ⟨x, y, rfl, hx, hy⟩ := vw.two
    split at hg
    · rename_i ys hys
      split at hg
      · rename_i hc
        cases hg
        obtain ⟨p, us, rfl, h2, r⟩ := hy.lst
        rw [strsOf_eq hys] at r
        have := r.strs
        subst this
        exact ⟨x, _, rfl, a, p, ys, hx.str, rfl, .inl (.inl h2), Nat.le_trans hc (by decide), fin_str e q⟩
      · cases hg
    · cases hg
  · cases hg
section
variable {X : Cx} {Wx : WX} {o e : Expr} {fo fe : M U} {apos pos : Pos}
theorem e_split (ho : EvS X Wx o fo) (he : EvS X Wx e fe) (hs : starEach [e] X.env = [(false, eval e X.env)] := by rfl) (hbase : attributeBase o "split" X.env (eval o X.env) = eval o X.env := by rfl) (hline : (apos.endLine == pos.line) = true := by rfl) :
    EvS X Wx (.Call (.Attribute o "split" apos) [e] [] pos) (opMS gSplit fo fe) := PE.imp (pe_split ho he hs hbase hline) fun σ H Q h => meth_semS cd_split h
theorem e_part (ho : EvS X Wx o fo) (he : EvS X Wx e fe) (hs : starEach [e] X.env = [(false, eval e X.env)] := by rfl) (hbase : attributeBase o "partition" X.env (eval o X.env) = eval o X.env := by rfl) (hline : (apos.endLine == pos.line) = true := by rfl) :
    EvS X Wx (.Call (.Attribute o "partition" apos) [e] [] pos) (opMS gPart fo fe) := PE.imp (pe_partition ho he hs hbase hline) fun σ H Q h => meth_semS cd_part h
theorem e_join (ho : EvS X Wx o fo) (he : EvS X Wx e fe) (hs : starEach [e] X.env = [(false, eval e X.env)] := by rfl) (hbase : attributeBase o "join" X.env (eval o X.env) = eval o X.env := by rfl) (hline : (apos.endLine == pos.line) = true := by rfl) :
    EvS X Wx (.Call (.Attribute o "join" apos) [e] [] pos) (opMS gJoin fo fe) := PE.imp (pe_join ho he hs hbase hline) fun σ H Q h => meth_semS cd_join h
end

/-! ### int(text), str(int), sign in text, text[a:], text[:b] -/
def gIntS : List D → Option W
  | [.str a] => match PySem.intText? a with
    | some n => if a.length ≤ 640 then some (.v (.int n)) else none
    | none => none
  | _ => none
theorem cd_intS {K : PySem.W.Frag} : CaD K (fun xs H Q => ∃ a n, xs = [.str a] ∧ PySem.intText? a = some n ∧ a.length ≤ 640 ∧ Q (.int n) H) gIntS := by
  intro F H vs ds w Q e vw hg q
  unfold gIntS at hg
  split at hg
  · rename_i a
    obtain ⟨x, rfl, hx⟩ := vw.one
    split at hg
    · rename_i n hn
      split at hg
      · rename_i hc
        cases hg
        exact ⟨a, n, by rw [hx.str], hn, hc, fin_int e q⟩
      · cases hg
    · cases hg
  · cases hg
def gStrI : List D → Option W
  | [.int i] => if i.natAbs.log2 < 1920 then some (.v (.str (toString i))) else none
  | _ => none
theorem cd_strI {K : PySem.W.Frag} : CaD K (fun xs H Q => ∃ i : Int, xs = [.int i] ∧ i.natAbs.log2 < 1920 ∧ Q (.str (toString i)) H) gStrI := by
  intro F H vs ds w Q e vw hg q
  unfold gStrI at hg
  split at hg
  · rename_i i
    obtain ⟨x, rfl, hx⟩ := vw.one
    split at hg
    · rename_i hc
      cases hg
      exact ⟨i, by rw [hx.int], hc, fin_str e q⟩
    · cases hg
  · cases hg
def gInS : List D → Option W
  | [.str x, .str z] => if x.length = 1 then some (.v (.bl (decide (x.cps.toList.headD 0 ∈ z.cps.toList)))) else none
  | _ => none
def rInS : R2 := fun x y H Q => ∃ (c : Nat) (z : Str), x = .str ⟨#[c]⟩ ∧ y = .str z ∧ Q (.bl (decide (c ∈ z.cps.toList))) H
theorem str_one {x : Str} (h : x.length = 1) : x = ⟨#[x.cps.toList.headD 0]⟩ := by
  obtain ⟨⟨l⟩⟩ := x
  have h : l.length = 1 := h
  match l, h with
  | [c], _ => rfl
theorem cd_inS {K : PySem.W.Frag} : CaD K (r2 rInS) gInS := by
  intro F H vs ds w Q e vw hg q
  unfold gInS at hg
  split at hg
  · rename_i x z
    obtain ⟨u, v, rfl, hx, hy⟩ := vw.two
    split at hg
    · rename_i hc
      cases hg
      exact ⟨u, v, rfl, _, z, by rw [hx.str]; exact congrArg V.str (str_one hc), hy.str, fin_bl e q⟩
    · cases hg
  · cases hg
def gSlS (lo hi : Option Int) : D → Option W
  | .str z => if z.length ≤ 1000000 then some (.v (.str (cutS z lo hi))) else none
  | _ => none
theorem slS_sem {K : PySem.W.Frag} {F H : Hp} {v : V} {d : D} {w : W} {lo hi : Option Int} {Q : VK} (e : Same F H) (hx : View K F H v d) (hg : gSlS lo hi d = some w) (q : ∀ v F' H' p, Grow F H F' H' p → RepW K F' H' v w p → Q v H') : rSlS v lo hi H Q := by
  cases d with
  | str z =>
    have hg : (if z.length ≤ 1000000 then some (W.v (.str (cutS z lo hi))) else none) = some w := hg
    split at hg
    · rename_i hc
      cases hg
      exact ⟨z, hx.str, szm hc, fin_str e q⟩
    · cases hg
  | _ => cases hg
def gSlLS : List D → Option W
  | [d, .int i] => gSlS (some i) none d
  | _ => none
def gSlHS : List D → Option W
  | [d, .int i] => gSlS none (some i) d
  | _ => none
def rLS : List V → Hp → VK → Prop := fun vs H Q => ∃ x i, vs = [x, .int i] ∧ rSlS x (some i) none H Q
def rHS : List V → Hp → VK → Prop := fun vs H Q => ∃ x i, vs = [x, .int i] ∧ rSlS x none (some i) H Q
theorem cd_slLS {K : PySem.W.Frag} : CaD K rLS gSlLS := by
  intro F H vs ds w Q e vw hg q
  unfold gSlLS at hg
  split at hg
  · rename_i d i
    obtain ⟨x, y, rfl, hx, hy⟩ := vw.two
    obtain rfl := hy.int
    exact ⟨_, i, rfl, slS_sem e hx hg q⟩
  · cases hg
theorem cd_slHS {K : PySem.W.Frag} : CaD K rHS gSlHS := by
  intro F H vs ds w Q e vw hg q
  unfold gSlHS at hg
  split at hg
  · rename_i d i
    obtain ⟨x, y, rfl, hx, hy⟩ := vw.two
    obtain rfl := hy.int
    exact ⟨_, i, rfl, slS_sem e hx hg q⟩
  · cases hg
section
variable {X : Cx} {Wx : WX} {a lo hi : Expr} {fa fl fh : M U} {pos p2 : Pos}
theorem e_slLS (ha : EvS X Wx a fa) (hl : EvS X Wx lo fl) : EvS X Wx (.Subscript a (.Slice (some lo) none none p2) pos) (opN gSlLS [fa, fl]) :=
  PE.imp (pe_slice sl_str ha (po_some hl) po_none) fun σ H Q h => tOf_mono (aOf_2 (aOf_op cd_slLS h)) fun _ _ q => tOf_mono q fun _ _ z => by
    obtain ⟨x, i, e, z⟩ := z
    cases e
    exact ⟨i, rfl, z⟩
theorem e_slHS (ha : EvS X Wx a fa) (hl : EvS X Wx hi fh) : EvS X Wx (.Subscript a (.Slice none (some hi) none p2) pos) (opN gSlHS [fa, fh]) :=
  PE.imp (pe_slice sl_str ha po_none (po_some hl)) fun σ H Q h => tOf_mono (aOf_2 (aOf_op cd_slHS h)) fun _ _ q => tOf_mono q fun _ _ z => by
    obtain ⟨x, i, e, z⟩ := z
    cases e
    exact ⟨i, rfl, z⟩
end

/-! ### f'..' -/
def eFmt (f : M U) : M U := fun env => (f env).bind fun u e1 => match dat e1 u with
  | some (.str y) => if y.length ≤ 1000000 then .ok (.w (.v (.str y))) e1 else .stuck
  | some (.int i) => if i.natAbs.log2 < 1920 then .ok (.w (.v (.str (toString i)))) e1 else .stuck
  | _ => .stuck
def eJs : List (M U) → Str → M U
  | [], acc, env => .ok (.w (.v (.str acc))) env
  | f :: fs, acc, env => (f env).bind fun u e1 => match u with
    | .w (.v (.str y)) => if (acc ++ y).length ≤ 1000000 then eJs fs (acc ++ y) e1 else .stuck
    | _ => .stuck
section
variable {X : Cx} {Wx : WX} {e : Expr} {f : M U} {pos : Pos}
theorem e_fmt (he : EvS X Wx e f) : EvS X Wx (.FormattedValue e (-1) none pos) (eFmt f) := PE.imp (pe_fmt he) fun σ H Q h => by
  obtain ⟨F, env, own, S, h⟩ := h
  unfold eFmt at h
  refine tOf_use S (fun u env1 e1 v F1 H1 own1 p O1 => ?_) (fun c env1 e1 C F1 H1 own1 => ?_) (fun e1 => ?_)
  · rw [e1, R.bind_ok] at h
    cases ed : dat env1 u with
    | none => rw [ed] at h; exact h.elim
    | some d =>
      rw [ed] at h
      have vw := RepU.view O1.S O1.r ed
      cases d with
      | str y =>
        dsimp only at h
        split at h
        · rename_i hc
          refine .inl ⟨y, vw.str, szm (by split at hc <;> first | assumption | cases hc), ?_⟩
          split at hc
          · cases hc
            exact h _ _ _ _ _ ((Grow.refl O1.S.ex).out O1.drop (RepW.ofRep (.str y)))
          · cases hc
        · rename_i hc
          split at hc <;> cases hc
        · exact h.elim
      | int i =>
        dsimp only at h
        split at h
        · rename_i hc
          refine .inr ⟨i, vw.int, (by split at hc <;> first | assumption | cases hc), ?_⟩
          split at hc
          · cases hc
            exact h _ _ _ _ _ ((Grow.refl O1.S.ex).out O1.drop (RepW.ofRep (.str _)))
          · cases hc
        · rename_i hc
          split at hc <;> cases hc
        · exact h.elim
      | _ => exact h.elim
  · rw [e1] at h
    exact h C F1 H1 own1
  · rw [e1] at h
    exact h
theorem js_sem {K : PySem.W.Frag} {mg : Str → Option Value} {σ : L2.St} {Q : VK} : ∀ {fs : List (M U)} {acc : Str} {H : Hp}, tOf K mg Wx (eJs fs acc) σ H Q → tJs (fs.map (tOf K mg Wx)) acc σ H fun out H1 => Q (.str out) H1
  | [], acc, H, h => by
    obtain ⟨F, env, own, S, h⟩ := h
    exact h _ _ _ _ _ ((Grow.refl S.ex).out (OutR.refl S) (RepW.ofRep (.str acc)))
  | f :: fs, acc, H, h => by
    obtain ⟨F, env, own, S, h⟩ := h
    unfold eJs at h
    show tOf K mg Wx f σ H _
    refine tOf_use S (fun u env1 e1 v F1 H1 own1 p O1 => ?_) (fun c env1 e1 C F1 H1 own1 => ?_) (fun e1 => ?_)
    · rw [e1, R.bind_ok] at h
      match u, O1, h with
      | .w (.v (.str y)), O1, h =>
        dsimp only at h
        obtain ⟨_, hr⟩ := O1.r
        cases hr
        by_cases hc : (acc ++ y).length ≤ 1000000
        · rw [if_pos hc] at h
          refine ⟨y, rfl, szm hc, js_sem ⟨F1, env1, own1, O1.S, ?_⟩⟩
          cases e2 : eJs fs (acc ++ y) env1 with
          | ok u2 env2 =>
            rw [e2] at h
            exact fun v2 F2 H2 own2 p2 O2 => h _ _ _ _ _ (O1.drop.out O2)
          | raise c env2 =>
            rw [e2] at h
            exact fun C F2 H2 own2 hm O2 => h C F2 H2 own2 hm (O1.drop.trans O2)
          | stuck =>
            rw [e2] at h
            exact h
        · rw [if_neg hc] at h
          exact h.elim
      | .b _, _, h => exact h.elim
      | .w (.l _ _), _, h => exact h.elim
      | .w (.m _ _), _, h => exact h.elim
      | .w (.v .non), _, h => exact h.elim
      | .w (.v (.bl _)), _, h => exact h.elim
      | .w (.v (.int _)), _, h => exact h.elim
      | .w (.v (.tup _)), _, h => exact h.elim
      | .w (.v (.lst _)), _, h => exact h.elim
      | .w (.v (.ty _)), _, h => exact h.elim
      | .w (.v (.nam _ _)), _, h => exact h.elim
      | .w (.v (.scr _)), _, h => exact h.elim
      | .w (.v (.dic _ _)), _, h => exact h.elim
    · rw [e1] at h
      exact h C F1 H1 own1
    · rw [e1] at h
      exact h
abbrev EjS (X : Cx) (Wx : WX) (es : List Expr) (fs : List (M U)) : Prop := PJ X es (fs.map (tOf X.K X.mg Wx))
theorem ej_nil : EjS X Wx [] [] := PJ.nil
theorem ej_cons {es : List Expr} {fs : List (M U)} (h : EvS X Wx e f) (r : EjS X Wx es fs) : EjS X Wx (e :: es) (f :: fs) := PJ.cons h r
theorem e_joined {v1 v2 : Expr} {rest : List Expr} {fs : List (M U)} (h : EjS X Wx (v1 :: v2 :: rest) fs) : EvS X Wx (.JoinedStr (v1 :: v2 :: rest) pos) (eJs fs Str.empty) := PE.imp (pe_joined h) fun σ H Q q => js_sem q
end
/-! ### telling, by simp -/
@[simp ↓] theorem opMS_ap (g : List D → Option W) (fo fe : M U) (env : DEnv) : opMS g fo fe env = ((fo env).bind fun u0 e0 => match dat e0 u0 with
  | some (.str _) => (fe e0).bind fun u e1 => (match dat e1 u0, dat e1 u with
    | some d0, some d => (match g [d0, d] with
      | some w => .ok (.w w) e1
      | none => .stuck)
    | _, _ => .stuck)
  | _ => .stuck : R U) := Eq.trans rfl rfl
@[simp ↓] theorem eFmt_ap (f : M U) (env : DEnv) : eFmt f env = ((f env).bind fun u e1 => match dat e1 u with
  | some (.str y) => if y.length ≤ 1000000 then .ok (.w (.v (.str y))) e1 else .stuck
  | some (.int i) => if i.natAbs.log2 < 1920 then .ok (.w (.v (.str (toString i)))) e1 else .stuck
  | _ => .stuck : R U) := Eq.trans rfl rfl
@[simp ↓] theorem eJs_nil (acc : Str) (env : DEnv) : eJs [] acc env = (.ok (.w (.v (.str acc))) env : R U) := by rw [eJs]
@[simp ↓] theorem eJs_cons (f : M U) (fs : List (M U)) (acc : Str) (env : DEnv) : eJs (f :: fs) acc env = ((f env).bind fun u e1 => match u with
    | .w (.v (.str y)) => if (acc ++ y).length ≤ 1000000 then eJs fs (acc ++ y) e1 else .stuck
    | _ => .stuck : R U) := by rw [eJs]
@[simp] theorem gSplit_c (a b : Str) : gSplit [.str a, .str b] = if (b.length == 0) = false ∧ a.length ≤ 1000000 then some (.l false ((Txt.split a b).map D.str)) else none := Eq.trans rfl rfl
@[simp] theorem gPart_c (a b : Str) : gPart [.str a, .str b] = if (b.length == 0) = false ∧ a.length ≤ 1000000 then some (.v (.tup [.str (Txt.partition a b).1, .str (Txt.partition a b).2.1, .str (Txt.partition a b).2.2])) else none := Eq.trans rfl rfl
theorem gJoin_strs (a : Str) (ys : List Str) : gJoin [.str a, .lst (ys.map D.str)] = if (ys.map (·.length)).sum + ys.length * a.length ≤ 1000000 then some (.v (.str (Txt.join a ys))) else none := by
  show (match strsOf (ys.map D.str) with
    | some ys => if (ys.map (fun y : Str => y.length)).sum + ys.length * a.length ≤ 1000000 then some (W.v (.str (Txt.join a ys))) else none
    | none => none) = _
  rw [strsOf_map]
@[simp] theorem gIntS_c (a : Str) : gIntS [.str a] = match PySem.intText? a with
    | some n => if a.length ≤ 640 then some (.v (.int n)) else none
    | none => none := Eq.trans rfl rfl
@[simp] theorem gStrI_c (i : Int) : gStrI [.int i] = if i.natAbs.log2 < 1920 then some (.v (.str (toString i))) else none := Eq.trans rfl rfl
theorem gInS_c (x z : Str) : gInS [.str x, .str z] = if x.length = 1 then some (.v (.bl (decide (x.cps.toList.headD 0 ∈ z.cps.toList)))) else none := Eq.trans rfl rfl
@[simp] theorem gSlLS_c (z : Str) (i : Int) : gSlLS [.str z, .int i] = if z.length ≤ 1000000 then some (.v (.str (cutS z (some i) none))) else none := Eq.trans rfl rfl
@[simp] theorem gSlHS_c (z : Str) (i : Int) : gSlHS [.str z, .int i] = if z.length ≤ 1000000 then some (.v (.str (cutS z none (some i)))) else none := Eq.trans rfl rfl
theorem deq_str (x y : Str) : deq (.str x) (.str y) = decide (x = y) := by
  unfold deq
  simp [toPy]
  try rfl
def asc (x : Str) : Prop := ∀ c ∈ x.cps.toList, c < 128
theorem asc_ok {x : Str} (h : asc x) : PyData.strOk x = true := by
  unfold PyData.strOk
  rw [Array.all_eq_true_iff_forall_mem]
  intro c hc
  have := h c (Array.mem_toList_iff.mpr hc)
  simp
  omega
theorem gEq_str {i j : Str} (hi : asc i) (hj : asc j) : gEq [.str i, .str j] = some (.v (.bl (decide (i = j)))) := by
  show (if (fine 60 (.str i) && fine 60 (.str j)) = true then _ else _) = _
  rw [show fine 60 (.str i) = true from asc_ok hi, show fine 60 (.str j) = true from asc_ok hj, Bool.and_self, if_pos rfl, deq_str]
theorem gNe_str {i j : Str} (hi : asc i) (hj : asc j) : gNe [.str i, .str j] = some (.v (.bl (!decide (i = j)))) := by
  show (if (fine 60 (.str i) && fine 60 (.str j)) = true then _ else _) = _
  rw [show fine 60 (.str i) = true from asc_ok hi, show fine 60 (.str j) = true from asc_ok hj, Bool.and_self, if_pos rfl, deq_str]
end DL

namespace Lw
open PySem PySem.Spec PyProof.Rows L2 DL
def topS (i : Nat) : Stmt := PySem.Challenge.pw_chairline_k84_whole_texts.main.body.getD i (.Pass ⟨0, 0, 0, 0⟩)
def raisedL : List Str := ["BadDay", "BadLine", "BadLoader", "BadText"]
def testedL : List Str := ["BadLoader", "BadLine", "BadNumber", "BadPlace", "BadLoading", "BadWeights", "BadDay", "BadSeen", "Full", "NoBack", "BadText"]
structure Facts (K : PySem.W.Frag) (mg : Str → Option Value) : Prop where
  b_ValueError : mg "ValueError" = none
  b_all : mg "all" = none
  b_bool : mg "bool" = none
  b_enumerate : mg "enumerate" = none
  b_int : mg "int" = none
  b_isinstance : mg "isinstance" = none
  b_len : mg "len" = none
  b_list : mg "list" = none
  b_min : mg "min" = none
  b_range : mg "range" = none
  b_sorted : mg "sorted" = none
  b_str : mg "str" = none
  b_tuple : mg "tuple" = none
  c_FIGURES : ∃ t, mg "FIGURES" = some (.str "0123456789" t)
  c_LONGEST : ∃ t, mg "LONGEST" = some (.int 24 t)
  n_BadDay : Nam K mg "BadDay"
  n_BadLine : Nam K mg "BadLine"
  n_BadLoader : Nam K mg "BadLoader"
  n_BadLoading : Nam K mg "BadLoading"
  n_BadNumber : Nam K mg "BadNumber"
  n_BadPlace : Nam K mg "BadPlace"
  n_BadSeen : Nam K mg "BadSeen"
  n_BadText : Nam K mg "BadText"
  n_BadWeights : Nam K mg "BadWeights"
  n_Full : Nam K mg "Full"
  n_NoBack : Nam K mg "NoBack"
  cat_ChairError : CatTab K mg "ChairError" raisedL
  tab : ExcTab K raisedL testedL
  e_BadDay : Exn K mg "BadDay"
  e_BadLine : Exn K mg "BadLine"
  e_BadLoader : Exn K mg "BadLoader"
  e_BadText : Exn K mg "BadText"
section
variable {P : Program} {w : World} {K : PySem.W.Frag} {mg : Str → Option Value} {base : Heap}
/-! is_whole -/
abbrev s_is_whole : Stmt := topS 15
theorem sc_is_whole : FnScope ["thing", "least", "most"] ["thing", "least", "most"] (defScope s_is_whole) := ⟨rfl, rfl, rfl, by decide +kernel, rfl, by decide +kernel, by decide +kernel⟩
abbrev is_is_whole : List Nat := []
noncomputable def b_is_whole : M Fl :=
  (sRet (vAnd (opN gIsi [(eVar 0), (eD (.ty "int"))]) (vAnd (opN gNot [(opN gIsi [(eVar 0), (eD (.ty "bool"))])]) (vChain gLe gLe (eVar 1) (eVar 0) (eVar 2)))))
noncomputable def g_is_whole : List W → RF := mkFn is_is_whole 3 3 b_is_whole
theorem ok_is_whole {f : Addr} {fd : FuncData} (T : Facts K mg) (F : Fun K "is_whole" "is_whole" s_is_whole f fd) : FnS P w K mg base 1 f fd ["thing", "least", "most"] g_is_whole := by
  refine fn_ok (is := is_is_whole) F sc_is_whole (fun cdv A outer s H E hr => ?_)
  have nd := sc_is_whole.nd
  have tk : Takes (cxOf (L2.CX P w) P w K mg base ["thing", "least", "most"] "is_whole" (defScope s_is_whole) f cdv A outer s H E) (fun c d _ H => E c d H) := takes_of rfl rfl rfl rfl
  show SsS _ _ _ [] _
  exact (ss_one (s_ret (e_and (e_callB call_isi cd_isi (by rfl) T.b_isinstance (by decide +kernel) (ea_cons (e_var 0) (ea_cons (e_bltn (v := .ty "int") (by rfl) T.b_int (by decide +kernel) rfl (fun _ => .ty "int")) ea_nil))) (e_and (e_not (e_callB call_isi cd_isi (by rfl) T.b_isinstance (by decide +kernel) (ea_cons (e_var 0) (ea_cons (e_bltn (v := .ty "bool") (by rfl) T.b_bool (by decide +kernel) rfl (fun _ => .ty "bool")) ea_nil)))) (e_one (e_chain op_le op_le cd_cmp cd_cmp (e_var 1) (e_var 0) (e_var 2)))))))
/-! next_of -/
abbrev s_next_of : Stmt := topS 20
theorem sc_next_of : FnScope ["loader", "rows", "room", "at", "number", "size", "passes"] ["loader", "rows", "room"] (defScope s_next_of) := ⟨rfl, rfl, rfl, by decide +kernel, rfl, by decide +kernel, by decide +kernel⟩
abbrev is_next_of : List Nat := ((([3] ++ (([4] ++ ([5] ++ ([6] ++ []))) ++ [])) ++ (([] ++ []) ++ ([] ++ []))) ++ [])
noncomputable def lb_next_of_0 : M Fl :=
  (sSeq (sIf (tst (opN gLe [(eVar 5), (eVar 2)])) (sRet (eVar 3)) sNext)
    (sIf (tst (opN gGe [(eVar 6), (opN gIx [(eVar 0), (eD (.int 2))])])) (sRet (eD .non)) sNext))
noncomputable def m_next_of_0 : MT :=
  (mTup (mCons (mName 3) (mCons (mTup (mCons (mName 4) (mCons (mName 5) (mCons (mName 6) mNil))) 3) mNil)) 2)
noncomputable def b_next_of : M Fl :=
  (sSeq (sFor (iterEnum (opN gSlH [(eVar 1), (opN gAdd [(opN gIx [(eVar 0), (eD (.int 1))]), (eD (.int 1))])])) m_next_of_0 lb_next_of_0)
    (sRet (eD .non)))
noncomputable def g_next_of : List W → RF := mkFn is_next_of 3 7 b_next_of
theorem ok_next_of {f : Addr} {fd : FuncData} (T : Facts K mg) (F : Fun K "next_of" "next_of" s_next_of f fd) : FnS P w K mg base 1 f fd ["loader", "rows", "room"] g_next_of := by
  refine fn_ok (is := is_next_of) F sc_next_of (fun cdv A outer s H E hr => ?_)
  have nd := sc_next_of.nd
  have tk : Takes (cxOf (L2.CX P w) P w K mg base ["loader", "rows", "room", "at", "number", "size", "passes"] "next_of" (defScope s_next_of) f cdv A outer s H E) (fun c d _ H => E c d H) := takes_of rfl rfl rfl rfl
  show SsS _ _ _ ((([3] ++ (([4] ++ ([5] ++ ([6] ++ []))) ++ [])) ++ (([] ++ []) ++ ([] ++ []))) ++ []) _
  exact (ss_cons (s_for (passes_of rfl) rfl (i_enum (by rfl) T.b_enumerate (e_slH (e_var 1) (e_bin op_addA cd_add (e_ix ix_seq cd_ix (e_var 0) e_int (fun _ _ => rfl)) e_int))) (g_tup rfl (gs_cons (g_name (i := 3) nd rfl (by first | exact Or.inl rfl | exact Or.inr rfl)) (gs_cons (g_tup rfl (gs_cons (g_name (i := 4) nd rfl (by first | exact Or.inl rfl | exact Or.inr rfl)) (gs_cons (g_name (i := 5) nd rfl (by first | exact Or.inl rfl | exact Or.inr rfl)) (gs_cons (g_name (i := 6) nd rfl (by first | exact Or.inl rfl | exact Or.inr rfl)) gs_nil)))) gs_nil))) (ss_cons (s_if (t_cmp op_le cd_cmp (e_var 5) (e_var 2) (nomark _)) (ss_one (s_ret (e_var 3))) ss_nil)
    (ss_one (s_if (t_cmp op_ge cd_cmp (e_var 6) (e_ix ix_seq cd_ix (e_var 0) e_int (fun _ _ => rfl)) (nomark _)) (ss_one (s_ret e_non)) ss_nil))))
    (ss_one (s_ret e_non)))
/-! text_of -/
abbrev s_text_of : Stmt := topS 31
theorem sc_text_of : FnScope ["loader"] ["loader"] (defScope s_text_of) := ⟨rfl, rfl, rfl, by decide +kernel, rfl, by decide +kernel, by decide +kernel⟩
abbrev is_text_of : List Nat := []
noncomputable def b_text_of : M Fl :=
  (sRet (eJs [(eFmt (opN gIx [(eVar 0), (eD (.int 0))])), (eD (.str " seats, look ")), (eFmt (opN gIx [(eVar 0), (eD (.int 1))])), (eD (.str ", pass ")), (eFmt (opN gIx [(eVar 0), (eD (.int 2))]))] Str.empty))
noncomputable def g_text_of : List W → RF := mkFn is_text_of 1 1 b_text_of
theorem ok_text_of {f : Addr} {fd : FuncData} (T : Facts K mg) (F : Fun K "text_of" "text_of" s_text_of f fd) : FnS P w K mg base 1 f fd ["loader"] g_text_of := by
  refine fn_ok (is := is_text_of) F sc_text_of (fun cdv A outer s H E hr => ?_)
  have nd := sc_text_of.nd
  have tk : Takes (cxOf (L2.CX P w) P w K mg base ["loader"] "text_of" (defScope s_text_of) f cdv A outer s H E) (fun c d _ H => E c d H) := takes_of rfl rfl rfl rfl
  show SsS _ _ _ [] _
  exact (ss_one (s_ret (e_joined (ej_cons (e_fmt (e_ix ix_seq cd_ix (e_var 0) e_int (fun _ _ => rfl))) (ej_cons e_str (ej_cons (e_fmt (e_ix ix_seq cd_ix (e_var 0) e_int (fun _ _ => rfl))) (ej_cons e_str (ej_cons (e_fmt (e_ix ix_seq cd_ix (e_var 0) e_int (fun _ _ => rfl))) ej_nil))))))))
/-! number_in -/
abbrev s_number_in : Stmt := topS 33
theorem sc_number_in : FnScope ["word"] ["word"] (defScope s_number_in) := ⟨rfl, rfl, rfl, by decide +kernel, rfl, by decide +kernel, by decide +kernel⟩
abbrev is_number_in : List Nat := []
noncomputable def b_number_in : M Fl :=
  (sRet (eIf (tAndD (tst (opN gEq [(opN gLen [(eVar 0)]), (eD (.int 1))])) (tst (opN gInS [(eVar 0), (eD (.str "0123456789"))]))) (opN gIntS [(eVar 0)]) (opN gNeg [(eD (.int 1))])))
noncomputable def g_number_in : List W → RF := mkFn is_number_in 1 1 b_number_in
theorem ok_number_in {f : Addr} {fd : FuncData} (T : Facts K mg) (F : Fun K "number_in" "number_in" s_number_in f fd) : FnS P w K mg base 1 f fd ["word"] g_number_in := by
  obtain ⟨t_FIGURES, h_FIGURES⟩ := T.c_FIGURES
  refine fn_ok (is := is_number_in) F sc_number_in (fun cdv A outer s H E hr => ?_)
  have nd := sc_number_in.nd
  have tk : Takes (cxOf (L2.CX P w) P w K mg base ["word"] "number_in" (defScope s_number_in) f cdv A outer s H E) (fun c d _ H => E c d H) := takes_of rfl rfl rfl rfl
  show SsS _ _ _ [] _
  exact (ss_one (s_ret (e_if (t_w (w_and (t_cmp (op_eqD hr.units) cd_eq (e_callB call_lenA cd_len (by rfl) T.b_len (by decide +kernel) (ea_cons (e_var 0) ea_nil)) e_int (nomark _)) (w_and1 (t_cmp op_in_sign cd_inS (e_var 0) (e_glob (v := .str "0123456789") (by rfl) h_FIGURES ⟨_, rfl⟩ (fun _ => .str _)) (by rfl))))) (e_callTy call_int_str cd_intS (by rfl) T.b_int (by decide +kernel) (ea_cons (e_var 0) ea_nil)) (e_un un_neg cd_neg e_int))))
/-! joined -/
abbrev s_joined : Stmt := topS 35
theorem sc_joined : FnScope ["some", "sign", "one"] ["some", "sign"] (defScope s_joined) := ⟨rfl, rfl, rfl, by decide +kernel, rfl, by decide +kernel, by decide +kernel⟩
abbrev is_joined : List Nat := []
noncomputable def b_joined : M Fl :=
  (sRet (eIf (tst (opN gGt [(opN gLen [(eVar 0)]), (eD (.int 0))])) (opMS gJoin (eVar 1) (eComp (iterSeq (eVar 0)) (([("one", 2)] : List (Str × Nat)).map (·.2)) (mName 2) tYesD (opN gStrI [(eVar 2)]))) (eD (.str "-"))))
noncomputable def g_joined : List W → RF := mkFn is_joined 2 3 b_joined
theorem ok_joined {f : Addr} {fd : FuncData} (T : Facts K mg) (F : Fun K "joined" "joined" s_joined f fd) : FnS P w K mg base 1 f fd ["some", "sign"] g_joined := by
  refine fn_ok (is := is_joined) F sc_joined (fun cdv A outer s H E hr => ?_)
  have nd := sc_joined.nd
  have tk : Takes (cxOf (L2.CX P w) P w K mg base ["some", "sign", "one"] "joined" (defScope s_joined) f cdv A outer s H E) (fun c d _ H => E c d H) := takes_of rfl rfl rfl rfl
  show SsS _ _ _ [] _
  exact (ss_one (s_ret (e_if (t_cmp op_gt cd_cmp (e_callB call_lenA cd_len (by rfl) T.b_len (by decide +kernel) (ea_cons (e_var 0) ea_nil)) e_int (nomark _)) (e_join (e_var 1) (e_comp rfl nd (i_seq (e_var 0)) (blkOk_by (own := [("one", 2)]) (by with_unfolding_all rfl)) (fun _ _ _ _ _ => (g_name (i := 2) nd rfl (by first | exact Or.inl rfl | exact Or.inr rfl))) (fun _ _ _ _ _ => (e_callTy call_str_int cd_strI (by rfl) T.b_str (by decide +kernel) (ea_cons (e_var 2) ea_nil))) (by decide))) e_str)))
/-! _law_town -/
abbrev s_law_town : Stmt := topS 44
theorem sc_law_town : FnScope ["script"] ["script"] (defScope s_law_town) := ⟨rfl, rfl, rfl, by decide +kernel, rfl, by decide +kernel, by decide +kernel⟩
abbrev is_law_town : List Nat := []
noncomputable def b_law_town : M Fl :=
  (sRet (opN gAdd [(dLst [(eD (.int 0))]), (opN gList [(eVar 0)])]))
noncomputable def g_law_town : List W → RF := mkFn is_law_town 1 1 b_law_town
theorem ok_law_town {f : Addr} {fd : FuncData} (T : Facts K mg) (F : Fun K "_law_town" "_law_town" s_law_town f fd) : FnS P w K mg base 1 f fd ["script"] g_law_town := by
  refine fn_ok (is := is_law_town) F sc_law_town (fun cdv A outer s H E hr => ?_)
  have nd := sc_law_town.nd
  have tk : Takes (cxOf (L2.CX P w) P w K mg base ["script"] "_law_town" (defScope s_law_town) f cdv A outer s H E) (fun c d _ H => E c d H) := takes_of rfl rfl rfl rfl
  show SsS _ _ _ [] _
  exact (ss_one (s_ret (e_bin op_addA cd_add (e_lst (ea_cons e_int ea_nil)) (e_callTy call_list_of cd_list (by rfl) T.b_list (by decide +kernel) (ea_cons (e_var 0) ea_nil)))))
/-! _law_draw -/
abbrev s_law_draw : Stmt := topS 45
theorem sc_law_draw : FnScope ["script", "town", "many", "at", "left", "number"] ["script", "town", "many"] (defScope s_law_draw) := ⟨rfl, rfl, rfl, by decide +kernel, rfl, by decide +kernel, by decide +kernel⟩
abbrev is_law_draw : List Nat := ([] ++ (([] ++ []) ++ ([3] ++ ([4] ++ ((([] ++ []) ++ []) ++ ([5] ++ ([5] ++ [])))))))
noncomputable def b_law_draw : M Fl :=
  (sSeq (sStore 1 (eD (.int 0)) (opN gAdd [(opN gIx [(eVar 1), (eD (.int 0))]), (eD (.int 1))]))
    (sSeq (sIf (tst (opN gEq [(eVar 0), (dLst [])])) (sRet (opN gMod [(opN gDiv [(opN gMul [(opN gMul [(opN gIx [(eVar 1), (eD (.int 0))]), (opN gIx [(eVar 1), (eD (.int 0))])]), (eD (.int 7))]), (eD (.int 3))]), (eVar 2)])) sNext)
    (sSeq (sSet 3 (opN gMod [(opN gIx [(eVar 1), (eD (.int 0))]), (opN gLen [(eVar 0)])]))
    (sSeq (sSet 4 (opN gIx [(eVar 1), (opN gAdd [(eD (.int 1)), (eVar 3)])]))
    (sSeq (sIf (tAndD (tst (opN gGe [(opN gIx [(eVar 0), (eVar 3)]), (opN gPow [(eD (.int 10)), (eD (.int 18))])])) (tst (opN gGt [(eVar 4), (eD (.int 0))]))) (sSeq (sStore 1 (opN gAdd [(eD (.int 1)), (eVar 3)]) (opN gDiv [(eVar 4), (eVar 2)]))
    (sRet (opN gMod [(eVar 4), (eVar 2)]))) sNext)
    (sSeq (sSet 5 (opN gMod [(opN gAdd [(opN gIx [(eVar 0), (eVar 3)]), (opN gMul [(eD (.int 104729)), (opN gIx [(eVar 1), (eD (.int 0))])])]), (eD (.int 4294967291))]))
    (sSeq (sSet 5 (opN gMod [(opN gPow [(eVar 5), (eD (.int 5))]), (eD (.int 4294967279))]))
    (sRet (opN gMod [(opN gDiv [(opN gMod [(opN gAdd [(opN gMul [(opN gDiv [(eVar 5), (eD (.int 64))]), (eD (.int 69621))]), (eVar 5)]), (eD (.int 4294967231))]), (eD (.int 8))]), (eVar 2)])))))))))
noncomputable def g_law_draw : List W → RF := mkFn is_law_draw 3 6 b_law_draw
theorem ok_law_draw {f : Addr} {fd : FuncData} (T : Facts K mg) (F : Fun K "_law_draw" "_law_draw" s_law_draw f fd) : FnS P w K mg base 1 f fd ["script", "town", "many"] g_law_draw := by
  refine fn_ok (is := is_law_draw) F sc_law_draw (fun cdv A outer s H E hr => ?_)
  have nd := sc_law_draw.nd
  have tk : Takes (cxOf (L2.CX P w) P w K mg base ["script", "town", "many", "at", "left", "number"] "_law_draw" (defScope s_law_draw) f cdv A outer s H E) (fun c d _ H => E c d H) := takes_of rfl rfl rfl rfl
  show SsS _ _ _ ([] ++ (([] ++ []) ++ ([3] ++ ([4] ++ ((([] ++ []) ++ []) ++ ([5] ++ ([5] ++ []))))))) _
  exact (ss_cons (s_store (i := 1) (he := (e_bin op_addA cd_add (e_ix ix_seq cd_ix (e_var 1) e_int (fun _ _ => rfl)) e_int)) (hk := e_int))
    (ss_cons (s_if (t_cmp (op_eqD hr.units) cd_eq (e_var 0) (e_lst ea_nil) (nomark _)) (ss_one (s_ret (e_bin op_mod cd_mod (e_bin op_fdiv cd_div (e_bin op_mulA cd_mul (e_bin op_mulA cd_mul (e_ix ix_seq cd_ix (e_var 1) e_int (fun _ _ => rfl)) (e_ix ix_seq cd_ix (e_var 1) e_int (fun _ _ => rfl))) e_int) e_int) (e_var 2)))) ss_nil)
    (ss_cons (s_set (i := 3) nd rfl (by first | exact Or.inl rfl | exact Or.inr rfl) (e_bin op_mod cd_mod (e_ix ix_seq cd_ix (e_var 1) e_int (fun _ _ => rfl)) (e_callB call_lenA cd_len (by rfl) T.b_len (by decide +kernel) (ea_cons (e_var 0) ea_nil))))
    (ss_cons (s_set (i := 4) nd rfl (by first | exact Or.inl rfl | exact Or.inr rfl) (e_ix ix_seq cd_ix (e_var 1) (e_bin op_addA cd_add e_int (e_var 3)) (fun _ _ => rfl)))
    (ss_cons (s_if (t_w (w_and (t_cmp op_ge cd_cmp (e_ix ix_seq cd_ix (e_var 0) (e_var 3) (fun _ _ => rfl)) (e_bin op_pow cd_pow e_int e_int) (nomark _)) (w_and1 (t_cmp op_gt cd_cmp (e_var 4) e_int (nomark _))))) (ss_cons (s_store (i := 1) (he := (e_bin op_fdiv cd_div (e_var 4) (e_var 2))) (hk := (e_bin op_addA cd_add e_int (e_var 3))))
    (ss_one (s_ret (e_bin op_mod cd_mod (e_var 4) (e_var 2))))) ss_nil)
    (ss_cons (s_set (i := 5) nd rfl (by first | exact Or.inl rfl | exact Or.inr rfl) (e_bin op_mod cd_mod (e_bin op_addA cd_add (e_ix ix_seq cd_ix (e_var 0) (e_var 3) (fun _ _ => rfl)) (e_bin op_mulA cd_mul e_int (e_ix ix_seq cd_ix (e_var 1) e_int (fun _ _ => rfl)))) e_int))
    (ss_cons (s_set (i := 5) nd rfl (by first | exact Or.inl rfl | exact Or.inr rfl) (e_bin op_mod cd_mod (e_bin op_pow cd_pow (e_var 5) e_int) e_int))
    (ss_one (s_ret (e_bin op_mod cd_mod (e_bin op_fdiv cd_div (e_bin op_mod cd_mod (e_bin op_addA cd_add (e_bin op_mulA cd_mul (e_bin op_fdiv cd_div (e_var 5) e_int) e_int) (e_var 5)) e_int) e_int) (e_var 2)))))))))))
/-! _law_word -/
abbrev s_law_word : Stmt := topS 48
theorem sc_law_word : FnScope ["caught", "some"] ["caught"] (defScope s_law_word) := ⟨rfl, rfl, rfl, by decide +kernel, rfl, by decide +kernel, by decide +kernel⟩
abbrev is_law_word : List Nat := (([] ++ []) ++ ([1] ++ ([1] ++ ([1] ++ ([1] ++ [])))))
noncomputable def b_law_word : M Fl :=
  (sSeq (sIf (tNotD (tst (opN (gIsiE raisedL testedL) [(eVar 0), (eD (.ty "ValueError"))]))) (sRet (opN gNeg [(eD (.int 1))])) sNext)
    (sSeq (sSet 1 (dLst [(opN (gIsiE raisedL testedL) [(eVar 0), (eD (.nam false "BadLoader"))]), (opN (gIsiE raisedL testedL) [(eVar 0), (eD (.nam false "BadLine"))]), (opN (gIsiE raisedL testedL) [(eVar 0), (eD (.nam false "BadNumber"))])]))
    (sSeq (sSet 1 (opN gAdd [(eVar 1), (dLst [(opN (gIsiE raisedL testedL) [(eVar 0), (eD (.nam false "BadPlace"))]), (opN (gIsiE raisedL testedL) [(eVar 0), (eD (.nam false "BadLoading"))]), (opN (gIsiE raisedL testedL) [(eVar 0), (eD (.nam false "BadWeights"))])])]))
    (sSeq (sSet 1 (opN gAdd [(eVar 1), (dLst [(opN (gIsiE raisedL testedL) [(eVar 0), (eD (.nam false "BadDay"))]), (opN (gIsiE raisedL testedL) [(eVar 0), (eD (.nam false "BadSeen"))]), (opN (gIsiE raisedL testedL) [(eVar 0), (eD (.nam false "Full"))])])]))
    (sSeq (sSet 1 (opN gAdd [(eVar 1), (dLst [(opN (gIsiE raisedL testedL) [(eVar 0), (eD (.nam false "NoBack"))]), (opN (gIsiE raisedL testedL) [(eVar 0), (eD (.nam false "BadText"))])])]))
    (sRet (eIf (tst (opN gEq [(opM gCntB (eVar 1) (eD (.bl true))), (eD (.int 1))])) (opM gIdx (eVar 1) (eD (.bl true))) (opN gNeg [(eD (.int 1))]))))))))
noncomputable def g_law_word : List W → RF := mkFn is_law_word 1 2 b_law_word
theorem ok_law_word {f : Addr} {fd : FuncData} (T : Facts K mg) (F : Fun K "_law_word" "_law_word" s_law_word f fd) : FnS P w K mg base 1 f fd ["caught"] g_law_word := by
  refine fn_ok (is := is_law_word) F sc_law_word (fun cdv A outer s H E hr => ?_)
  have nd := sc_law_word.nd
  have tk : Takes (cxOf (L2.CX P w) P w K mg base ["caught", "some"] "_law_word" (defScope s_law_word) f cdv A outer s H E) (fun c d _ H => E c d H) := takes_of rfl rfl rfl rfl
  show SsS _ _ _ (([] ++ []) ++ ([1] ++ ([1] ++ ([1] ++ ([1] ++ []))))) _
  exact (ss_cons (s_if (t_not (t_val (e_callB call_isX (cd_isX T.tab) (by rfl) T.b_isinstance (by decide +kernel) (ea_cons (e_var 0) (ea_cons (e_bltn (v := .ty "ValueError") (by rfl) T.b_ValueError (by decide +kernel) rfl (fun _ => .ty "ValueError")) ea_nil))))) (ss_one (s_ret (e_un un_neg cd_neg e_int))) ss_nil)
    (ss_cons (s_set (i := 1) nd rfl (by first | exact Or.inl rfl | exact Or.inr rfl) (e_lst (ea_cons (e_callB call_isX (cd_isX T.tab) (by rfl) T.b_isinstance (by decide +kernel) (ea_cons (e_var 0) (ea_cons (e_nam T.n_BadLoader) ea_nil))) (ea_cons (e_callB call_isX (cd_isX T.tab) (by rfl) T.b_isinstance (by decide +kernel) (ea_cons (e_var 0) (ea_cons (e_nam T.n_BadLine) ea_nil))) (ea_cons (e_callB call_isX (cd_isX T.tab) (by rfl) T.b_isinstance (by decide +kernel) (ea_cons (e_var 0) (ea_cons (e_nam T.n_BadNumber) ea_nil))) ea_nil)))))
    (ss_cons (s_set (i := 1) nd rfl (by first | exact Or.inl rfl | exact Or.inr rfl) (e_bin op_addA cd_add (e_var 1) (e_lst (ea_cons (e_callB call_isX (cd_isX T.tab) (by rfl) T.b_isinstance (by decide +kernel) (ea_cons (e_var 0) (ea_cons (e_nam T.n_BadPlace) ea_nil))) (ea_cons (e_callB call_isX (cd_isX T.tab) (by rfl) T.b_isinstance (by decide +kernel) (ea_cons (e_var 0) (ea_cons (e_nam T.n_BadLoading) ea_nil))) (ea_cons (e_callB call_isX (cd_isX T.tab) (by rfl) T.b_isinstance (by decide +kernel) (ea_cons (e_var 0) (ea_cons (e_nam T.n_BadWeights) ea_nil))) ea_nil))))))
    (ss_cons (s_set (i := 1) nd rfl (by first | exact Or.inl rfl | exact Or.inr rfl) (e_bin op_addA cd_add (e_var 1) (e_lst (ea_cons (e_callB call_isX (cd_isX T.tab) (by rfl) T.b_isinstance (by decide +kernel) (ea_cons (e_var 0) (ea_cons (e_nam T.n_BadDay) ea_nil))) (ea_cons (e_callB call_isX (cd_isX T.tab) (by rfl) T.b_isinstance (by decide +kernel) (ea_cons (e_var 0) (ea_cons (e_nam T.n_BadSeen) ea_nil))) (ea_cons (e_callB call_isX (cd_isX T.tab) (by rfl) T.b_isinstance (by decide +kernel) (ea_cons (e_var 0) (ea_cons (e_nam T.n_Full) ea_nil))) ea_nil))))))
    (ss_cons (s_set (i := 1) nd rfl (by first | exact Or.inl rfl | exact Or.inr rfl) (e_bin op_addA cd_add (e_var 1) (e_lst (ea_cons (e_callB call_isX (cd_isX T.tab) (by rfl) T.b_isinstance (by decide +kernel) (ea_cons (e_var 0) (ea_cons (e_nam T.n_NoBack) ea_nil))) (ea_cons (e_callB call_isX (cd_isX T.tab) (by rfl) T.b_isinstance (by decide +kernel) (ea_cons (e_var 0) (ea_cons (e_nam T.n_BadText) ea_nil))) ea_nil)))))
    (ss_one (s_ret (e_if (t_cmp (op_eqD hr.units) cd_eq (e_meth PySem.F.slot_list_count PySem.F.type_list_count mt_bcount cd_cntB (e_var 1) e_bl) e_int (nomark _)) (e_meth PySem.F.slot_list_index PySem.F.type_list_index (mt_indexD (hu65 hr)) cd_idx (e_var 1) e_bl) (e_un un_neg cd_neg e_int)))))))))
/-! _law_refused -/
abbrev s_law_refused : Stmt := topS 49
theorem sc_law_refused : FnScope ["word", "words"] ["word"] (defScope s_law_refused) := ⟨rfl, rfl, rfl, by decide +kernel, rfl, by decide +kernel, by decide +kernel⟩
abbrev is_law_refused : List Nat := ([1] ++ [])
noncomputable def b_law_refused : M Fl :=
  (sSeq (sSet 1 (dLst [(eD (.str "loader")), (eD (.str "line")), (eD (.str "number")), (eD (.str "place")), (eD (.str "loading")), (eD (.str "weights")), (eD (.str "day")), (eD (.str "seen")), (eD (.str "full")), (eD (.str "back")), (eD (.str "text"))]))
    (sRet (dTup [(eD (.str "refused")), (opM gIdx (eVar 1) (eVar 0))])))
noncomputable def g_law_refused : List W → RF := mkFn is_law_refused 1 2 b_law_refused
theorem ok_law_refused {f : Addr} {fd : FuncData} (T : Facts K mg) (F : Fun K "_law_refused" "_law_refused" s_law_refused f fd) : FnS P w K mg base 1 f fd ["word"] g_law_refused := by
  refine fn_ok (is := is_law_refused) F sc_law_refused (fun cdv A outer s H E hr => ?_)
  have nd := sc_law_refused.nd
  have tk : Takes (cxOf (L2.CX P w) P w K mg base ["word", "words"] "_law_refused" (defScope s_law_refused) f cdv A outer s H E) (fun c d _ H => E c d H) := takes_of rfl rfl rfl rfl
  show SsS _ _ _ ([1] ++ []) _
  exact (ss_cons (s_set (i := 1) nd rfl (by first | exact Or.inl rfl | exact Or.inr rfl) (e_lst (ea_cons e_str (ea_cons e_str (ea_cons e_str (ea_cons e_str (ea_cons e_str (ea_cons e_str (ea_cons e_str (ea_cons e_str (ea_cons e_str (ea_cons e_str (ea_cons e_str ea_nil)))))))))))))
    (ss_one (s_ret (e_tup (ea_cons e_str (ea_cons (e_meth PySem.F.slot_list_index PySem.F.type_list_index (mt_indexD (hu65 hr)) cd_idx (e_var 1) (e_var 0)) ea_nil))))))
/-! _law_sizes -/
abbrev s_law_sizes : Stmt := topS 54
theorem sc_law_sizes : FnScope ["some", "sign", "one"] ["some", "sign"] (defScope s_law_sizes) := ⟨rfl, rfl, rfl, by decide +kernel, rfl, by decide +kernel, by decide +kernel⟩
abbrev is_law_sizes : List Nat := []
noncomputable def b_law_sizes : M Fl :=
  (sRet (eIf (tst (opN gGt [(opN gLen [(eVar 0)]), (eD (.int 0))])) (opMS gJoin (eVar 1) (eComp (iterSeq (eVar 0)) (([("one", 2)] : List (Str × Nat)).map (·.2)) (mName 2) tYesD (opN gStrI [(eVar 2)]))) (eD (.str "-"))))
noncomputable def g_law_sizes : List W → RF := mkFn is_law_sizes 2 3 b_law_sizes
theorem ok_law_sizes {f : Addr} {fd : FuncData} (T : Facts K mg) (F : Fun K "_law_sizes" "_law_sizes" s_law_sizes f fd) : FnS P w K mg base 1 f fd ["some", "sign"] g_law_sizes := by
  refine fn_ok (is := is_law_sizes) F sc_law_sizes (fun cdv A outer s H E hr => ?_)
  have nd := sc_law_sizes.nd
  have tk : Takes (cxOf (L2.CX P w) P w K mg base ["some", "sign", "one"] "_law_sizes" (defScope s_law_sizes) f cdv A outer s H E) (fun c d _ H => E c d H) := takes_of rfl rfl rfl rfl
  show SsS _ _ _ [] _
  exact (ss_one (s_ret (e_if (t_cmp op_gt cd_cmp (e_callB call_lenA cd_len (by rfl) T.b_len (by decide +kernel) (ea_cons (e_var 0) ea_nil)) e_int (nomark _)) (e_join (e_var 1) (e_comp rfl nd (i_seq (e_var 0)) (blkOk_by (own := [("one", 2)]) (by with_unfolding_all rfl)) (fun _ _ _ _ _ => (g_name (i := 2) nd rfl (by first | exact Or.inl rfl | exact Or.inr rfl))) (fun _ _ _ _ _ => (e_callTy call_str_int cd_strI (by rfl) T.b_str (by decide +kernel) (ea_cons (e_var 2) ea_nil))) (by decide))) e_str)))
/-! is_loader -/
abbrev s_is_loader : Stmt := topS 16
theorem sc_is_loader : FnScope ["thing"] ["thing"] (defScope s_is_loader) := ⟨rfl, rfl, rfl, by decide +kernel, rfl, by decide +kernel, by decide +kernel⟩
abbrev is_is_loader : List Nat := (([] ++ []) ++ [])
noncomputable def b_is_loader : M Fl :=
  (sSeq (sIf (tOrD (tNotD (tst (opN gIsi [(eVar 0), (eD (.ty "tuple"))]))) (tst (opN gNe [(opN gLen [(eVar 0)]), (eD (.int 3))]))) (sRet (eD (.bl false))) sNext)
    (sRet (vAnd (callF g_is_whole [none, none, none] [(opN gIx [(eVar 0), (eD (.int 0))]), (eD (.int 1)), (eD (.int 6))]) (vAnd (callF g_is_whole [none, none, none] [(opN gIx [(eVar 0), (eD (.int 1))]), (eD (.int 0)), (eD (.int 3))]) (callF g_is_whole [none, none, none] [(opN gIx [(eVar 0), (eD (.int 2))]), (eD (.int 0)), (eD (.int 3))])))))
noncomputable def g_is_loader : List W → RF := mkFn is_is_loader 1 1 b_is_loader
theorem ok_is_loader {f : Addr} {fd : FuncData} (T : Facts K mg) (F : Fun K "is_loader" "is_loader" s_is_loader f fd) (C_is_whole : Cal P w K mg base 1 "is_whole" ["thing", "least", "most"] g_is_whole) : FnS P w K mg base 2 f fd ["thing"] g_is_loader := by
  refine fn_ok (is := is_is_loader) F sc_is_loader (fun cdv A outer s H E hr => ?_)
  have nd := sc_is_loader.nd
  have tk : Takes (cxOf (L2.CX P w) P w K mg base ["thing"] "is_loader" (defScope s_is_loader) f cdv A outer s H E) (fun c d _ H => E c d H) := takes_of rfl rfl rfl rfl
  show SsS _ _ _ (([] ++ []) ++ []) _
  exact (ss_cons (s_if (t_w (w_or (t_not (t_val (e_callB call_isi cd_isi (by rfl) T.b_isinstance (by decide +kernel) (ea_cons (e_var 0) (ea_cons (e_bltn (v := .ty "tuple") (by rfl) T.b_tuple (by decide +kernel) rfl (fun _ => .ty "tuple")) ea_nil))))) (w_or1 (t_cmp (op_neD hr.units) cd_ne (e_callB call_lenA cd_len (by rfl) T.b_len (by decide +kernel) (ea_cons (e_var 0) ea_nil)) e_int (nomark _))))) (ss_one (s_ret e_bl)) ss_nil)
    (ss_one (s_ret (e_and (e_callC (ms := [none, none, none]) C_is_whole tk hr (ea_cons (e_ix ix_seq cd_ix (e_var 0) e_int (fun _ _ => rfl)) (ea_cons e_int (ea_cons e_int ea_nil))) (by decide)) (e_and (e_callC (ms := [none, none, none]) C_is_whole tk hr (ea_cons (e_ix ix_seq cd_ix (e_var 0) e_int (fun _ _ => rfl)) (ea_cons e_int (ea_cons e_int ea_nil))) (by decide)) (e_one (e_callC (ms := [none, none, none]) C_is_whole tk hr (ea_cons (e_ix ix_seq cd_ix (e_var 0) e_int (fun _ _ => rfl)) (ea_cons e_int (ea_cons e_int ea_nil))) (by decide))))))))
/-! are_groups -/
abbrev s_are_groups : Stmt := topS 18
theorem sc_are_groups : FnScope ["loader", "thing", "most", "one"] ["loader", "thing", "most"] (defScope s_are_groups) := ⟨rfl, rfl, rfl, by decide +kernel, rfl, by decide +kernel, by decide +kernel⟩
abbrev is_are_groups : List Nat := []
noncomputable def b_are_groups : M Fl :=
  (sRet (vAnd (opN gIsi [(eVar 1), (eD (.ty "tuple"))]) (vAnd (opN gLe [(opN gLen [(eVar 1)]), (eVar 2)]) (opN gAll [(eComp (iterSeq (eVar 1)) (([("one", 3)] : List (Str × Nat)).map (·.2)) (mName 3) tYesD (callF g_is_whole [none, none, none] [(eVar 3), (eD (.int 1)), (opN gIx [(eVar 0), (eD (.int 0))])]))]))))
noncomputable def g_are_groups : List W → RF := mkFn is_are_groups 3 4 b_are_groups
theorem ok_are_groups {f : Addr} {fd : FuncData} (T : Facts K mg) (F : Fun K "are_groups" "are_groups" s_are_groups f fd) (C_is_whole : Cal P w K mg base 1 "is_whole" ["thing", "least", "most"] g_is_whole) : FnS P w K mg base 2 f fd ["loader", "thing", "most"] g_are_groups := by
  refine fn_ok (is := is_are_groups) F sc_are_groups (fun cdv A outer s H E hr => ?_)
  have nd := sc_are_groups.nd
  have tk : Takes (cxOf (L2.CX P w) P w K mg base ["loader", "thing", "most", "one"] "are_groups" (defScope s_are_groups) f cdv A outer s H E) (fun c d _ H => E c d H) := takes_of rfl rfl rfl rfl
  show SsS _ _ _ [] _
  exact (ss_one (s_ret (e_and (e_callB call_isi cd_isi (by rfl) T.b_isinstance (by decide +kernel) (ea_cons (e_var 1) (ea_cons (e_bltn (v := .ty "tuple") (by rfl) T.b_tuple (by decide +kernel) rfl (fun _ => .ty "tuple")) ea_nil))) (e_and (e_cmp op_le cd_cmp (e_callB call_lenA cd_len (by rfl) T.b_len (by decide +kernel) (ea_cons (e_var 1) ea_nil)) (e_var 2) (nomark _)) (e_one (e_callB (cr_all rfl) cd_all (by rfl) T.b_all (by decide +kernel) (ea_cons (e_comp rfl nd (i_seq (e_var 1)) (blkOk_by (own := [("one", 3)]) (by with_unfolding_all rfl)) (fun _ _ _ _ _ => (g_name (i := 3) nd rfl (by first | exact Or.inl rfl | exact Or.inr rfl))) (fun _ _ _ _ _ => (e_callC (ms := [none, none, none]) C_is_whole takes0 hr (ea_cons (e_var 3) (ea_cons e_int (ea_cons (e_ix ix_seq cd_ix (e_var 0) e_int (fun _ _ => rfl)) ea_nil))) (by decide))) (by decide)) ea_nil)))))))
/-! loaded -/
abbrev s_loaded : Stmt := topS 21
theorem sc_loaded : FnScope ["loader", "rows", "room", "sit", "at", "number", "size", "passes"] ["loader", "rows"] (defScope s_loaded) := ⟨rfl, rfl, rfl, by decide +kernel, rfl, by decide +kernel, by decide +kernel⟩
abbrev is_loaded : List Nat := ([2] ++ ([3] ++ ([4] ++ (([] ++ []) ++ ([] ++ ([2] ++ [1]))))))
noncomputable def lb_loaded_0 : M Fl :=
  (sSeq (sSet 4 (callF g_next_of [none, none, none] [(eVar 0), (eVar 1), (eVar 2)]))
    (sSeq (sIf (tst (opN gIs [(eVar 4), (eD .non)])) (sRet (dTup [(eVar 3), (eVar 1)])) sNext)
    (sSeq (sExpr (eApp 3 (opN gIx [(eVar 1), (eVar 4)])))
    (sSeq (sSet 2 (opN gSub [(eVar 2), (opN gIx [(opN gIx [(eVar 1), (eVar 4)]), (eD (.int 1))])]))
    (sSet 1 (opN gAdd [(eComp (iterSeq (opN gSlH [(eVar 1), (eVar 4)])) (([("number", 5), ("size", 6), ("passes", 7)] : List (Str × Nat)).map (·.2)) (mTup (mCons (mName 5) (mCons (mName 6) (mCons (mName 7) mNil))) 3) tYesD (dTup [(eVar 5), (eVar 6), (opN gAdd [(eVar 7), (eD (.int 1))])])), (opN gSlL [(eVar 1), (opN gAdd [(eVar 4), (eD (.int 1))])])]))))))
noncomputable def b_loaded : M Fl :=
  (sSeq (sSet 2 (opN gIx [(eVar 0), (eD (.int 0))]))
    (sSeq (sSet 3 (dLst []))
    (sWhile (tst (eD (.bl true))) lb_loaded_0)))
noncomputable def g_loaded : List W → RF := mkFn is_loaded 2 8 b_loaded
theorem ok_loaded {f : Addr} {fd : FuncData} (T : Facts K mg) (F : Fun K "loaded" "loaded" s_loaded f fd) (C_next_of : Cal P w K mg base 1 "next_of" ["loader", "rows", "room"] g_next_of) : FnS P w K mg base 2 f fd ["loader", "rows"] g_loaded := by
  refine fn_ok (is := is_loaded) F sc_loaded (fun cdv A outer s H E hr => ?_)
  have nd := sc_loaded.nd
  have tk : Takes (cxOf (L2.CX P w) P w K mg base ["loader", "rows", "room", "sit", "at", "number", "size", "passes"] "loaded" (defScope s_loaded) f cdv A outer s H E) (fun c d _ H => E c d H) := takes_of rfl rfl rfl rfl
  show SsS _ _ _ ([2] ++ ([3] ++ ([4] ++ (([] ++ []) ++ ([] ++ ([2] ++ [1])))))) _
  exact (ss_cons (s_set (i := 2) nd rfl (by first | exact Or.inl rfl | exact Or.inr rfl) (e_ix ix_seq cd_ix (e_var 0) e_int (fun _ _ => rfl)))
    (ss_cons (s_set (i := 3) nd rfl (by first | exact Or.inl rfl | exact Or.inr rfl) (e_lst ea_nil))
    (ss_one (s_while (passes_of rfl) (t_val e_bl) (ss_cons (s_set (i := 4) nd rfl (by first | exact Or.inl rfl | exact Or.inr rfl) (e_callC (ms := [none, none, none]) C_next_of tk hr (ea_cons (e_var 0) (ea_cons (e_var 1) (ea_cons (e_var 2) ea_nil))) (by decide)))
    (ss_cons (s_if (t_cmp op_isA cd_is (e_var 4) e_non (nomark _)) (ss_one (s_ret (e_tup (ea_cons (e_var 3) (ea_cons (e_var 1) ea_nil))))) ss_nil)
    (ss_cons (s_expr (e_app (i := 3) (he := (e_ix ix_seq cd_ix (e_var 1) (e_var 4) (fun _ _ => rfl)))))
    (ss_cons (s_set (i := 2) nd rfl (by first | exact Or.inl rfl | exact Or.inr rfl) (e_bin op_sub cd_sub (e_var 2) (e_ix ix_seq cd_ix (e_ix ix_seq cd_ix (e_var 1) (e_var 4) (fun _ _ => rfl)) e_int (fun _ _ => rfl))))
    (ss_one (s_set (i := 1) nd rfl (by first | exact Or.inl rfl | exact Or.inr rfl) (e_bin op_addA cd_add (e_comp rfl nd (i_seq (e_slH (e_var 1) (e_var 4))) (blkOk_by (own := [("number", 5), ("size", 6), ("passes", 7)]) (by with_unfolding_all rfl)) (fun _ _ _ _ _ => (g_tup rfl (gs_cons (g_name (i := 5) nd rfl (by first | exact Or.inl rfl | exact Or.inr rfl)) (gs_cons (g_name (i := 6) nd rfl (by first | exact Or.inl rfl | exact Or.inr rfl)) (gs_cons (g_name (i := 7) nd rfl (by first | exact Or.inl rfl | exact Or.inr rfl)) gs_nil))))) (fun _ _ _ _ _ => (e_tup (ea_cons (e_var 5) (ea_cons (e_var 6) (ea_cons (e_bin op_addA cd_add (e_var 7) e_int) ea_nil))))) (by decide)) (e_slL (e_var 1) (e_bin op_addA cd_add (e_var 4) e_int)))))))))))))
/-! parted -/
abbrev s_parted : Stmt := topS 36
theorem sc_parted : FnScope ["text", "sign", "word"] ["text", "sign"] (defScope s_parted) := ⟨rfl, rfl, rfl, by decide +kernel, rfl, by decide +kernel, by decide +kernel⟩
abbrev is_parted : List Nat := []
noncomputable def b_parted : M Fl :=
  (sRet (eIf (tst (opN gNe [(eVar 0), (eD (.str "-"))])) (opN gTuple [(eComp (iterSeq (opMS gSplit (eVar 0) (eVar 1))) (([("word", 2)] : List (Str × Nat)).map (·.2)) (mName 2) tYesD (callF g_number_in [none] [(eVar 2)]))]) (dTup [])))
noncomputable def g_parted : List W → RF := mkFn is_parted 2 3 b_parted
theorem ok_parted {f : Addr} {fd : FuncData} (T : Facts K mg) (F : Fun K "parted" "parted" s_parted f fd) (C_number_in : Cal P w K mg base 1 "number_in" ["word"] g_number_in) : FnS P w K mg base 2 f fd ["text", "sign"] g_parted := by
  refine fn_ok (is := is_parted) F sc_parted (fun cdv A outer s H E hr => ?_)
  have nd := sc_parted.nd
  have tk : Takes (cxOf (L2.CX P w) P w K mg base ["text", "sign", "word"] "parted" (defScope s_parted) f cdv A outer s H E) (fun c d _ H => E c d H) := takes_of rfl rfl rfl rfl
  show SsS _ _ _ [] _
  exact (ss_one (s_ret (e_if (t_cmp (op_neD hr.units) cd_ne (e_var 0) e_str (nomark _)) (e_callTy call_tuple_of cd_tuple (by rfl) T.b_tuple (by decide +kernel) (ea_cons (e_comp rfl nd (i_seq (e_split (e_var 0) (e_var 1))) (blkOk_by (own := [("word", 2)]) (by with_unfolding_all rfl)) (fun _ _ _ _ _ => (g_name (i := 2) nd rfl (by first | exact Or.inl rfl | exact Or.inr rfl))) (fun _ _ _ _ _ => (e_callC (ms := [none]) C_number_in takes0 hr (ea_cons (e_var 2) ea_nil) (by decide))) (by decide)) ea_nil)) (e_tup ea_nil))))
/-! _law_pick -/
abbrev s_law_pick : Stmt := topS 46
theorem sc_law_pick : FnScope ["script", "town", "some"] ["script", "town", "some"] (defScope s_law_pick) := ⟨rfl, rfl, rfl, by decide +kernel, rfl, by decide +kernel, by decide +kernel⟩
abbrev is_law_pick : List Nat := []
noncomputable def b_law_pick : M Fl :=
  (sRet (opN gIx [(eVar 2), (callF g_law_draw [none, some 1, none] [(eVar 0), (eVar 1), (opN gLen [(eVar 2)])])]))
noncomputable def g_law_pick : List W → RF := mkFn is_law_pick 3 3 b_law_pick
theorem ok_law_pick {f : Addr} {fd : FuncData} (T : Facts K mg) (F : Fun K "_law_pick" "_law_pick" s_law_pick f fd) (C_law_draw : Cal P w K mg base 1 "_law_draw" ["script", "town", "many"] g_law_draw) : FnS P w K mg base 2 f fd ["script", "town", "some"] g_law_pick := by
  refine fn_ok (is := is_law_pick) F sc_law_pick (fun cdv A outer s H E hr => ?_)
  have nd := sc_law_pick.nd
  have tk : Takes (cxOf (L2.CX P w) P w K mg base ["script", "town", "some"] "_law_pick" (defScope s_law_pick) f cdv A outer s H E) (fun c d _ H => E c d H) := takes_of rfl rfl rfl rfl
  show SsS _ _ _ [] _
  exact (ss_one (s_ret (e_ix ix_seq cd_ix (e_var 2) (e_callC (ms := [none, some 1, none]) C_law_draw tk hr (ea_cons (e_var 0) (ea_cons (e_var 1) (ea_cons (e_callB call_lenA cd_len (by rfl) T.b_len (by decide +kernel) (ea_cons (e_var 2) ea_nil)) ea_nil))) (by decide)) (fun _ _ => rfl))))
/-! _law_loader -/
abbrev s_law_loader : Stmt := topS 50
theorem sc_law_loader : FnScope ["script", "town", "most_seats", "seats"] ["script", "town", "most_seats"] (defScope s_law_loader) := ⟨rfl, rfl, rfl, by decide +kernel, rfl, by decide +kernel, by decide +kernel⟩
abbrev is_law_loader : List Nat := ([3] ++ [])
noncomputable def b_law_loader : M Fl :=
  (sSeq (sSet 3 (opN gMin [(eVar 2), (opN gAdd [(opN gAdd [(eD (.int 1)), (callF g_law_draw [none, some 1, none] [(eVar 0), (eVar 1), (eVar 2)])]), (callF g_law_draw [none, some 1, none] [(eVar 0), (eVar 1), (eD (.int 2))])])]))
    (sRet (dTup [(eVar 3), (callF g_law_draw [none, some 1, none] [(eVar 0), (eVar 1), (eD (.int 4))]), (callF g_law_draw [none, some 1, none] [(eVar 0), (eVar 1), (eD (.int 4))])])))
noncomputable def g_law_loader : List W → RF := mkFn is_law_loader 3 4 b_law_loader
theorem ok_law_loader {f : Addr} {fd : FuncData} (T : Facts K mg) (F : Fun K "_law_loader" "_law_loader" s_law_loader f fd) (C_law_draw : Cal P w K mg base 1 "_law_draw" ["script", "town", "many"] g_law_draw) : FnS P w K mg base 2 f fd ["script", "town", "most_seats"] g_law_loader := by
  refine fn_ok (is := is_law_loader) F sc_law_loader (fun cdv A outer s H E hr => ?_)
  have nd := sc_law_loader.nd
  have tk : Takes (cxOf (L2.CX P w) P w K mg base ["script", "town", "most_seats", "seats"] "_law_loader" (defScope s_law_loader) f cdv A outer s H E) (fun c d _ H => E c d H) := takes_of rfl rfl rfl rfl
  show SsS _ _ _ ([3] ++ []) _
  exact (ss_cons (s_set (i := 3) nd rfl (by first | exact Or.inl rfl | exact Or.inr rfl) (e_callB (call_minA rfl) cd_min (by rfl) T.b_min (by decide +kernel) (ea_cons (e_var 2) (ea_cons (e_bin op_addA cd_add (e_bin op_addA cd_add e_int (e_callC (ms := [none, some 1, none]) C_law_draw tk hr (ea_cons (e_var 0) (ea_cons (e_var 1) (ea_cons (e_var 2) ea_nil))) (by decide))) (e_callC (ms := [none, some 1, none]) C_law_draw tk hr (ea_cons (e_var 0) (ea_cons (e_var 1) (ea_cons e_int ea_nil))) (by decide))) ea_nil))))
    (ss_one (s_ret (e_tup (ea_cons (e_var 3) (ea_cons (e_callC (ms := [none, some 1, none]) C_law_draw tk hr (ea_cons (e_var 0) (ea_cons (e_var 1) (ea_cons e_int ea_nil))) (by decide)) (ea_cons (e_callC (ms := [none, some 1, none]) C_law_draw tk hr (ea_cons (e_var 0) (ea_cons (e_var 1) (ea_cons e_int ea_nil))) (by decide)) ea_nil)))))))
/-! _law_groups -/
abbrev s_law_groups : Stmt := topS 51
theorem sc_law_groups : FnScope ["script", "town", "seats", "most_groups", "k"] ["script", "town", "seats", "most_groups"] (defScope s_law_groups) := ⟨rfl, rfl, rfl, by decide +kernel, rfl, by decide +kernel, by decide +kernel⟩
abbrev is_law_groups : List Nat := []
noncomputable def b_law_groups : M Fl :=
  (sRet (opN gTuple [(eComp (iterR1 (callF g_law_draw [none, some 1, none] [(eVar 0), (eVar 1), (opN gAdd [(eVar 3), (eD (.int 1))])])) (([("k", 4)] : List (Str × Nat)).map (·.2)) (mName 4) tYesD (opN gAdd [(eD (.int 1)), (callF g_law_draw [none, some 1, none] [(eVar 0), (eVar 1), (eVar 2)])]))]))
noncomputable def g_law_groups : List W → RF := mkFn is_law_groups 4 5 b_law_groups
theorem ok_law_groups {f : Addr} {fd : FuncData} (T : Facts K mg) (F : Fun K "_law_groups" "_law_groups" s_law_groups f fd) (C_law_draw : Cal P w K mg base 1 "_law_draw" ["script", "town", "many"] g_law_draw) : FnS P w K mg base 2 f fd ["script", "town", "seats", "most_groups"] g_law_groups := by
  refine fn_ok (is := is_law_groups) F sc_law_groups (fun cdv A outer s H E hr => ?_)
  have nd := sc_law_groups.nd
  have tk : Takes (cxOf (L2.CX P w) P w K mg base ["script", "town", "seats", "most_groups", "k"] "_law_groups" (defScope s_law_groups) f cdv A outer s H E) (fun c d _ H => E c d H) := takes_of rfl rfl rfl rfl
  show SsS _ _ _ [] _
  exact (ss_one (s_ret (e_callTy call_tuple_of cd_tuple (by rfl) T.b_tuple (by decide +kernel) (ea_cons (e_comp rfl nd (i_range1 (by rfl) T.b_range (e_callC (ms := [none, some 1, none]) C_law_draw tk hr (ea_cons (e_var 0) (ea_cons (e_var 1) (ea_cons (e_bin op_addA cd_add (e_var 3) e_int) ea_nil))) (by decide))) (blkOk_by (own := [("k", 4)]) (by with_unfolding_all rfl)) (fun _ _ _ _ _ => (g_name (i := 4) nd rfl (by first | exact Or.inl rfl | exact Or.inr rfl))) (fun _ _ _ _ _ => (e_bin op_addA cd_add e_int (e_callC (ms := [none, some 1, none]) C_law_draw takes0 hr (ea_cons (e_var 0) (ea_cons (e_var 1) (ea_cons (e_var 2) ea_nil))) (by decide)))) (by decide)) ea_nil))))
/-! look_loader -/
abbrev s_look_loader : Stmt := topS 17
theorem sc_look_loader : FnScope ["loader"] ["loader"] (defScope s_look_loader) := ⟨rfl, rfl, rfl, by decide +kernel, rfl, by decide +kernel, by decide +kernel⟩
abbrev is_look_loader : List Nat := ([] ++ [])
noncomputable def b_look_loader : M Fl :=
  (sIf (tNotD (tst (callF g_is_loader [none] [(eVar 0)]))) (sRaise "BadLoader") sNext)
noncomputable def g_look_loader : List W → RF := mkFn is_look_loader 1 1 b_look_loader
theorem ok_look_loader {f : Addr} {fd : FuncData} (T : Facts K mg) (F : Fun K "look_loader" "look_loader" s_look_loader f fd) (C_is_loader : Cal P w K mg base 2 "is_loader" ["thing"] g_is_loader) : FnS P w K mg base 3 f fd ["loader"] g_look_loader := by
  refine fn_ok (is := is_look_loader) F sc_look_loader (fun cdv A outer s H E hr => ?_)
  have nd := sc_look_loader.nd
  have tk : Takes (cxOf (L2.CX P w) P w K mg base ["loader"] "look_loader" (defScope s_look_loader) f cdv A outer s H E) (fun c d _ H => E c d H) := takes_of rfl rfl rfl rfl
  show SsS _ _ _ ([] ++ []) _
  exact (ss_one (s_if (t_not (t_val (e_callC (ms := [none]) C_is_loader tk hr (ea_cons (e_var 0) ea_nil) (by decide)))) (ss_one (s_raiseC T.e_BadLoader tk)) ss_nil))
/-! all_loaded -/
abbrev s_all_loaded : Stmt := topS 22
theorem sc_all_loaded : FnScope ["loader", "line", "rows", "number", "size", "found", "sit"] ["loader", "line"] (defScope s_all_loaded) := ⟨rfl, rfl, rfl, by decide +kernel, rfl, by decide +kernel, by decide +kernel⟩
abbrev is_all_loaded : List Nat := ([2] ++ ([5] ++ ((([6] ++ ([2] ++ [])) ++ []) ++ [])))
noncomputable def lb_all_loaded_0 : M Fl :=
  (sSeq (sTgt (mTup (mCons (mName 6) (mCons (mName 2) mNil)) 2) (callF g_loaded [none, none] [(eVar 0), (eVar 2)]))
    (sExpr (eApp 5 (eVar 6))))
noncomputable def b_all_loaded : M Fl :=
  (sSeq (sSet 2 (eComp (iterEnum (eVar 1)) (([("number", 3), ("size", 4)] : List (Str × Nat)).map (·.2)) (mTup (mCons (mName 3) (mCons (mName 4) mNil)) 2) tYesD (dTup [(eVar 3), (eVar 4), (eD (.int 0))])))
    (sSeq (sSet 5 (dLst []))
    (sSeq (sWhile (tst (opN gNe [(eVar 2), (dLst [])])) lb_all_loaded_0)
    (sRet (eVar 5)))))
noncomputable def g_all_loaded : List W → RF := mkFn is_all_loaded 2 7 b_all_loaded
theorem ok_all_loaded {f : Addr} {fd : FuncData} (T : Facts K mg) (F : Fun K "all_loaded" "all_loaded" s_all_loaded f fd) (C_loaded : Cal P w K mg base 2 "loaded" ["loader", "rows"] g_loaded) : FnS P w K mg base 3 f fd ["loader", "line"] g_all_loaded := by
  refine fn_ok (is := is_all_loaded) F sc_all_loaded (fun cdv A outer s H E hr => ?_)
  have nd := sc_all_loaded.nd
  have tk : Takes (cxOf (L2.CX P w) P w K mg base ["loader", "line", "rows", "number", "size", "found", "sit"] "all_loaded" (defScope s_all_loaded) f cdv A outer s H E) (fun c d _ H => E c d H) := takes_of rfl rfl rfl rfl
  show SsS _ _ _ ([2] ++ ([5] ++ ((([6] ++ ([2] ++ [])) ++ []) ++ []))) _
  exact (ss_cons (s_comp (i := 2) rfl nd rfl rfl (sw_true rfl rfl rfl (by decide +kernel)) (i_enum (by rfl) T.b_enumerate (e_var 1)) (blkOk_by (own := [("number", 3), ("size", 4)]) (by with_unfolding_all rfl)) (fun _ _ _ _ _ => (g_tup rfl (gs_cons (g_name (i := 3) nd rfl (by first | exact Or.inl rfl | exact Or.inr rfl)) (gs_cons (g_name (i := 4) nd rfl (by first | exact Or.inl rfl | exact Or.inr rfl)) gs_nil)))) (fun _ _ _ _ _ => (e_tup (ea_cons (e_var 3) (ea_cons (e_var 4) (ea_cons e_int ea_nil))))) (by decide))
    (ss_cons (s_set (i := 5) nd rfl (by first | exact Or.inl rfl | exact Or.inr rfl) (e_lst ea_nil))
    (ss_cons (s_while (passes_of rfl) (t_cmp (op_neD hr.units) cd_ne (e_var 2) (e_lst ea_nil) (nomark _)) (ss_cons (s_tgt (e_callC (ms := [none, none]) C_loaded tk hr (ea_cons (e_var 0) (ea_cons (e_var 2) ea_nil)) (by decide)) (g_tup rfl (gs_cons (g_name (i := 6) nd rfl (by first | exact Or.inl rfl | exact Or.inr rfl)) (gs_cons (g_name (i := 2) nd rfl (by first | exact Or.inl rfl | exact Or.inr rfl)) gs_nil))))
    (ss_one (s_expr (e_app (i := 5) (he := (e_var 6)))))))
    (ss_one (s_ret (e_var 5))))))
/-! is_beat -/
abbrev s_is_beat : Stmt := topS 26
theorem sc_is_beat : FnScope ["loader", "thing"] ["loader", "thing"] (defScope s_is_beat) := ⟨rfl, rfl, rfl, by decide +kernel, rfl, by decide +kernel, by decide +kernel⟩
abbrev is_is_beat : List Nat := (([] ++ []) ++ [])
noncomputable def b_is_beat : M Fl :=
  (sSeq (sIf (tOrD (tNotD (tst (opN gIsi [(eVar 1), (eD (.ty "tuple"))]))) (tOrD (tst (opN gNe [(opN gLen [(eVar 1)]), (eD (.int 2))])) (tNotD (tst (callF g_are_groups [none, none, none] [(eVar 0), (opN gIx [(eVar 1), (eD (.int 0))]), (eD (.int 4))]))))) (sRet (eD (.bl false))) sNext)
    (sRet (callF g_is_whole [none, none, none] [(opN gIx [(eVar 1), (eD (.int 1))]), (eD (.int 0)), (eD (.int 9))])))
noncomputable def g_is_beat : List W → RF := mkFn is_is_beat 2 2 b_is_beat
theorem ok_is_beat {f : Addr} {fd : FuncData} (T : Facts K mg) (F : Fun K "is_beat" "is_beat" s_is_beat f fd) (C_are_groups : Cal P w K mg base 2 "are_groups" ["loader", "thing", "most"] g_are_groups) (C_is_whole : Cal P w K mg base 1 "is_whole" ["thing", "least", "most"] g_is_whole) : FnS P w K mg base 3 f fd ["loader", "thing"] g_is_beat := by
  refine fn_ok (is := is_is_beat) F sc_is_beat (fun cdv A outer s H E hr => ?_)
  have nd := sc_is_beat.nd
  have tk : Takes (cxOf (L2.CX P w) P w K mg base ["loader", "thing"] "is_beat" (defScope s_is_beat) f cdv A outer s H E) (fun c d _ H => E c d H) := takes_of rfl rfl rfl rfl
  show SsS _ _ _ (([] ++ []) ++ []) _
  exact (ss_cons (s_if (t_w (w_or (t_not (t_val (e_callB call_isi cd_isi (by rfl) T.b_isinstance (by decide +kernel) (ea_cons (e_var 1) (ea_cons (e_bltn (v := .ty "tuple") (by rfl) T.b_tuple (by decide +kernel) rfl (fun _ => .ty "tuple")) ea_nil))))) (w_or (t_cmp (op_neD hr.units) cd_ne (e_callB call_lenA cd_len (by rfl) T.b_len (by decide +kernel) (ea_cons (e_var 1) ea_nil)) e_int (nomark _)) (w_or1 (t_not (t_val (e_callC (ms := [none, none, none]) C_are_groups tk hr (ea_cons (e_var 0) (ea_cons (e_ix ix_seq cd_ix (e_var 1) e_int (fun _ _ => rfl)) (ea_cons e_int ea_nil))) (by decide)))))))) (ss_one (s_ret e_bl)) ss_nil)
    (ss_one (s_ret (e_callC (ms := [none, none, none]) C_is_whole tk hr (ea_cons (e_ix ix_seq cd_ix (e_var 1) e_int (fun _ _ => rfl)) (ea_cons e_int (ea_cons e_int ea_nil))) (by decide)))))
/-! read_loader -/
abbrev s_read_loader : Stmt := topS 34
theorem sc_read_loader : FnScope ["text", "seats", "sign", "rest", "look", "passes", "found"] ["text"] (defScope s_read_loader) := ⟨rfl, rfl, rfl, by decide +kernel, rfl, by decide +kernel, by decide +kernel⟩
abbrev is_read_loader : List Nat := (([] ++ []) ++ (([1] ++ ([2] ++ ([3] ++ []))) ++ (([4] ++ ([2] ++ ([5] ++ []))) ++ ([6] ++ (([] ++ []) ++ [])))))
noncomputable def b_read_loader : M Fl :=
  (sSeq (sIf (tNotD (tst (opN gIsi [(eVar 0), (eD (.ty "str"))]))) (sRaise "BadText") sNext)
    (sSeq (sTgt (mTup (mCons (mName 1) (mCons (mName 2) (mCons (mName 3) mNil))) 3) (opMS gPart (eVar 0) (eD (.str " seats, look "))))
    (sSeq (sTgt (mTup (mCons (mName 4) (mCons (mName 2) (mCons (mName 5) mNil))) 3) (opMS gPart (eVar 3) (eD (.str ", pass "))))
    (sSeq (sSet 6 (dTup [(callF g_number_in [none] [(eVar 1)]), (callF g_number_in [none] [(eVar 4)]), (callF g_number_in [none] [(eVar 5)])]))
    (sSeq (sIf (tOrD (tNotD (tst (callF g_is_loader [none] [(eVar 6)]))) (tst (opN gNe [(callF g_text_of [none] [(eVar 6)]), (eVar 0)]))) (sRaise "BadText") sNext)
    (sRet (eVar 6)))))))
noncomputable def g_read_loader : List W → RF := mkFn is_read_loader 1 7 b_read_loader
theorem ok_read_loader {f : Addr} {fd : FuncData} (T : Facts K mg) (F : Fun K "read_loader" "read_loader" s_read_loader f fd) (C_number_in : Cal P w K mg base 1 "number_in" ["word"] g_number_in) (C_is_loader : Cal P w K mg base 2 "is_loader" ["thing"] g_is_loader) (C_text_of : Cal P w K mg base 1 "text_of" ["loader"] g_text_of) : FnS P w K mg base 3 f fd ["text"] g_read_loader := by
  refine fn_ok (is := is_read_loader) F sc_read_loader (fun cdv A outer s H E hr => ?_)
  have nd := sc_read_loader.nd
  have tk : Takes (cxOf (L2.CX P w) P w K mg base ["text", "seats", "sign", "rest", "look", "passes", "found"] "read_loader" (defScope s_read_loader) f cdv A outer s H E) (fun c d _ H => E c d H) := takes_of rfl rfl rfl rfl
  show SsS _ _ _ (([] ++ []) ++ (([1] ++ ([2] ++ ([3] ++ []))) ++ (([4] ++ ([2] ++ ([5] ++ []))) ++ ([6] ++ (([] ++ []) ++ []))))) _
  exact (ss_cons (s_if (t_not (t_val (e_callB call_isi cd_isi (by rfl) T.b_isinstance (by decide +kernel) (ea_cons (e_var 0) (ea_cons (e_bltn (v := .ty "str") (by rfl) T.b_str (by decide +kernel) rfl (fun _ => .ty "str")) ea_nil))))) (ss_one (s_raiseC T.e_BadText tk)) ss_nil)
    (ss_cons (s_tgt (e_part (e_var 0) e_str) (g_tup rfl (gs_cons (g_name (i := 1) nd rfl (by first | exact Or.inl rfl | exact Or.inr rfl)) (gs_cons (g_name (i := 2) nd rfl (by first | exact Or.inl rfl | exact Or.inr rfl)) (gs_cons (g_name (i := 3) nd rfl (by first | exact Or.inl rfl | exact Or.inr rfl)) gs_nil)))))
    (ss_cons (s_tgt (e_part (e_var 3) e_str) (g_tup rfl (gs_cons (g_name (i := 4) nd rfl (by first | exact Or.inl rfl | exact Or.inr rfl)) (gs_cons (g_name (i := 2) nd rfl (by first | exact Or.inl rfl | exact Or.inr rfl)) (gs_cons (g_name (i := 5) nd rfl (by first | exact Or.inl rfl | exact Or.inr rfl)) gs_nil)))))
    (ss_cons (s_set (i := 6) nd rfl (by first | exact Or.inl rfl | exact Or.inr rfl) (e_tup (ea_cons (e_callC (ms := [none]) C_number_in tk hr (ea_cons (e_var 1) ea_nil) (by decide)) (ea_cons (e_callC (ms := [none]) C_number_in tk hr (ea_cons (e_var 4) ea_nil) (by decide)) (ea_cons (e_callC (ms := [none]) C_number_in tk hr (ea_cons (e_var 5) ea_nil) (by decide)) ea_nil)))))
    (ss_cons (s_if (t_w (w_or (t_not (t_val (e_callC (ms := [none]) C_is_loader tk hr (ea_cons (e_var 6) ea_nil) (by decide)))) (w_or1 (t_cmp (op_neD hr.units) cd_ne (e_callC (ms := [none]) C_text_of tk hr (ea_cons (e_var 6) ea_nil) (by decide)) (e_var 0) (nomark _))))) (ss_one (s_raiseC T.e_BadText tk)) ss_nil)
    (ss_one (s_ret (e_var 6))))))))
/-! beat_in -/
abbrev s_beat_in : Stmt := topS 41
theorem sc_beat_in : FnScope ["word", "groups", "sign", "singles"] ["word"] (defScope s_beat_in) := ⟨rfl, rfl, rfl, by decide +kernel, rfl, by decide +kernel, by decide +kernel⟩
abbrev is_beat_in : List Nat := (([1] ++ ([2] ++ ([3] ++ []))) ++ [])
noncomputable def b_beat_in : M Fl :=
  (sSeq (sTgt (mTup (mCons (mName 1) (mCons (mName 2) (mCons (mName 3) mNil))) 3) (opMS gPart (eVar 0) (eD (.str "/"))))
    (sRet (dTup [(callF g_parted [none, none] [(eVar 1), (eD (.str "+"))]), (callF g_number_in [none] [(eVar 3)])])))
noncomputable def g_beat_in : List W → RF := mkFn is_beat_in 1 4 b_beat_in
theorem ok_beat_in {f : Addr} {fd : FuncData} (T : Facts K mg) (F : Fun K "beat_in" "beat_in" s_beat_in f fd) (C_parted : Cal P w K mg base 2 "parted" ["text", "sign"] g_parted) (C_number_in : Cal P w K mg base 1 "number_in" ["word"] g_number_in) : FnS P w K mg base 3 f fd ["word"] g_beat_in := by
  refine fn_ok (is := is_beat_in) F sc_beat_in (fun cdv A outer s H E hr => ?_)
  have nd := sc_beat_in.nd
  have tk : Takes (cxOf (L2.CX P w) P w K mg base ["word", "groups", "sign", "singles"] "beat_in" (defScope s_beat_in) f cdv A outer s H E) (fun c d _ H => E c d H) := takes_of rfl rfl rfl rfl
  show SsS _ _ _ (([1] ++ ([2] ++ ([3] ++ []))) ++ []) _
  exact (ss_cons (s_tgt (e_part (e_var 0) e_str) (g_tup rfl (gs_cons (g_name (i := 1) nd rfl (by first | exact Or.inl rfl | exact Or.inr rfl)) (gs_cons (g_name (i := 2) nd rfl (by first | exact Or.inl rfl | exact Or.inr rfl)) (gs_cons (g_name (i := 3) nd rfl (by first | exact Or.inl rfl | exact Or.inr rfl)) gs_nil)))))
    (ss_one (s_ret (e_tup (ea_cons (e_callC (ms := [none, none]) C_parted tk hr (ea_cons (e_var 1) (ea_cons e_str ea_nil)) (by decide)) (ea_cons (e_callC (ms := [none]) C_number_in tk hr (ea_cons (e_var 3) ea_nil) (by decide)) ea_nil))))))
/-! _law_day -/
abbrev s_law_day : Stmt := topS 52
theorem sc_law_day : FnScope ["script", "town", "loader", "most_beats", "beats", "k", "groups"] ["script", "town", "loader", "most_beats"] (defScope s_law_day) := ⟨rfl, rfl, rfl, by decide +kernel, rfl, by decide +kernel, by decide +kernel⟩
abbrev is_law_day : List Nat := ([4] ++ (([5] ++ ([6] ++ [])) ++ []))
noncomputable def lb_law_day_0 : M Fl :=
  (sSeq (sSet 6 (callF g_law_groups [none, some 1, none, none] [(eVar 0), (eVar 1), (opN gIx [(eVar 2), (eD (.int 0))]), (callF g_law_pick [none, some 1, none] [(eVar 0), (eVar 1), (dLst [(eD (.int 0)), (eD (.int 1)), (eD (.int 1)), (eD (.int 2)), (eD (.int 4))])])]))
    (sExpr (eApp 4 (dTup [(eVar 6), (callF g_law_draw [none, some 1, none] [(eVar 0), (eVar 1), (eD (.int 4))])]))))
noncomputable def m_law_day_0 : MT :=
  (mName 5)
noncomputable def b_law_day : M Fl :=
  (sSeq (sSet 4 (dLst []))
    (sSeq (sFor (iterR1 (opN gAdd [(eD (.int 1)), (callF g_law_draw [none, some 1, none] [(eVar 0), (eVar 1), (eVar 3)])])) m_law_day_0 lb_law_day_0)
    (sRet (opN gTuple [(eVar 4)]))))
noncomputable def g_law_day : List W → RF := mkFn is_law_day 4 7 b_law_day
theorem ok_law_day {f : Addr} {fd : FuncData} (T : Facts K mg) (F : Fun K "_law_day" "_law_day" s_law_day f fd) (C_law_draw : Cal P w K mg base 1 "_law_draw" ["script", "town", "many"] g_law_draw) (C_law_groups : Cal P w K mg base 2 "_law_groups" ["script", "town", "seats", "most_groups"] g_law_groups) (C_law_pick : Cal P w K mg base 2 "_law_pick" ["script", "town", "some"] g_law_pick) : FnS P w K mg base 3 f fd ["script", "town", "loader", "most_beats"] g_law_day := by
  refine fn_ok (is := is_law_day) F sc_law_day (fun cdv A outer s H E hr => ?_)
  have nd := sc_law_day.nd
  have tk : Takes (cxOf (L2.CX P w) P w K mg base ["script", "town", "loader", "most_beats", "beats", "k", "groups"] "_law_day" (defScope s_law_day) f cdv A outer s H E) (fun c d _ H => E c d H) := takes_of rfl rfl rfl rfl
  show SsS _ _ _ ([4] ++ (([5] ++ ([6] ++ [])) ++ [])) _
  exact (ss_cons (s_set (i := 4) nd rfl (by first | exact Or.inl rfl | exact Or.inr rfl) (e_lst ea_nil))
    (ss_cons (s_for (passes_of rfl) rfl (i_range1 (by rfl) T.b_range (e_bin op_addA cd_add e_int (e_callC (ms := [none, some 1, none]) C_law_draw tk hr (ea_cons (e_var 0) (ea_cons (e_var 1) (ea_cons (e_var 3) ea_nil))) (by decide)))) (g_name (i := 5) nd rfl (by first | exact Or.inl rfl | exact Or.inr rfl)) (ss_cons (s_set (i := 6) nd rfl (by first | exact Or.inl rfl | exact Or.inr rfl) (e_callC (ms := [none, some 1, none, none]) C_law_groups tk hr (ea_cons (e_var 0) (ea_cons (e_var 1) (ea_cons (e_ix ix_seq cd_ix (e_var 2) e_int (fun _ _ => rfl)) (ea_cons (e_callC (ms := [none, some 1, none]) C_law_pick tk hr (ea_cons (e_var 0) (ea_cons (e_var 1) (ea_cons (e_lst (ea_cons e_int (ea_cons e_int (ea_cons e_int (ea_cons e_int (ea_cons e_int ea_nil)))))) ea_nil))) (by decide)) ea_nil)))) (by decide)))
    (ss_one (s_expr (e_app (i := 4) (he := (e_tup (ea_cons (e_var 6) (ea_cons (e_callC (ms := [none, some 1, none]) C_law_draw tk hr (ea_cons (e_var 0) (ea_cons (e_var 1) (ea_cons e_int ea_nil))) (by decide)) ea_nil)))))))))
    (ss_one (s_ret (e_callTy call_tuple_of cd_tuple (by rfl) T.b_tuple (by decide +kernel) (ea_cons (e_var 4) ea_nil))))))
/-! look_line -/
abbrev s_look_line : Stmt := topS 19
theorem sc_look_line : FnScope ["loader", "line"] ["loader", "line"] (defScope s_look_line) := ⟨rfl, rfl, rfl, by decide +kernel, rfl, by decide +kernel, by decide +kernel⟩
abbrev is_look_line : List Nat := ([] ++ ([] ++ []))
noncomputable def b_look_line : M Fl :=
  (sSeq (sExpr (callF g_look_loader [none] [(eVar 0)]))
    (sIf (tNotD (tst (callF g_are_groups [none, none, none] [(eVar 0), (eVar 1), (eD (.int 24))]))) (sRaise "BadLine") sNext))
noncomputable def g_look_line : List W → RF := mkFn is_look_line 2 2 b_look_line
theorem ok_look_line {f : Addr} {fd : FuncData} (T : Facts K mg) (F : Fun K "look_line" "look_line" s_look_line f fd) (C_look_loader : Cal P w K mg base 3 "look_loader" ["loader"] g_look_loader) (C_are_groups : Cal P w K mg base 2 "are_groups" ["loader", "thing", "most"] g_are_groups) : FnS P w K mg base 4 f fd ["loader", "line"] g_look_line := by
  obtain ⟨t_LONGEST, h_LONGEST⟩ := T.c_LONGEST
  refine fn_ok (is := is_look_line) F sc_look_line (fun cdv A outer s H E hr => ?_)
  have nd := sc_look_line.nd
  have tk : Takes (cxOf (L2.CX P w) P w K mg base ["loader", "line"] "look_line" (defScope s_look_line) f cdv A outer s H E) (fun c d _ H => E c d H) := takes_of rfl rfl rfl rfl
  show SsS _ _ _ ([] ++ ([] ++ [])) _
  exact (ss_cons (s_expr (e_callC (ms := [none]) C_look_loader tk hr (ea_cons (e_var 0) ea_nil) (by decide)))
    (ss_one (s_if (t_not (t_val (e_callC (ms := [none, none, none]) C_are_groups tk hr (ea_cons (e_var 0) (ea_cons (e_var 1) (ea_cons (e_glob (v := .int 24) (by rfl) h_LONGEST ⟨_, rfl⟩ (fun _ => .int 24)) ea_nil))) (by decide)))) (ss_one (s_raiseC T.e_BadLine tk)) ss_nil)))
/-! all_chairs -/
abbrev s_all_chairs : Stmt := topS 23
theorem sc_all_chairs : FnScope ["loader", "line", "one", "sit"] ["loader", "line"] (defScope s_all_chairs) := ⟨rfl, rfl, rfl, by decide +kernel, rfl, by decide +kernel, by decide +kernel⟩
abbrev is_all_chairs : List Nat := []
noncomputable def b_all_chairs : M Fl :=
  (sRet (eComp (iterSeq (callF g_all_loaded [none, none] [(eVar 0), (eVar 1)])) (([("sit", 3)] : List (Str × Nat)).map (·.2)) (mName 3) tYesD (opN gTuple [(opN gSortI [(eComp (iterSeq (eVar 3)) (([("one", 2)] : List (Str × Nat)).map (·.2)) (mName 2) tYesD (opN gIx [(eVar 2), (eD (.int 0))]))])])))
noncomputable def g_all_chairs : List W → RF := mkFn is_all_chairs 2 4 b_all_chairs
theorem ok_all_chairs {f : Addr} {fd : FuncData} (T : Facts K mg) (F : Fun K "all_chairs" "all_chairs" s_all_chairs f fd) (C_all_loaded : Cal P w K mg base 3 "all_loaded" ["loader", "line"] g_all_loaded) : FnS P w K mg base 4 f fd ["loader", "line"] g_all_chairs := by
  refine fn_ok (is := is_all_chairs) F sc_all_chairs (fun cdv A outer s H E hr => ?_)
  have nd := sc_all_chairs.nd
  have tk : Takes (cxOf (L2.CX P w) P w K mg base ["loader", "line", "one", "sit"] "all_chairs" (defScope s_all_chairs) f cdv A outer s H E) (fun c d _ H => E c d H) := takes_of rfl rfl rfl rfl
  show SsS _ _ _ [] _
  exact (ss_one (s_ret (e_comp rfl nd (i_seq (e_callC (ms := [none, none]) C_all_loaded tk hr (ea_cons (e_var 0) (ea_cons (e_var 1) ea_nil)) (by decide))) (blkOk_by (own := [("sit", 3)]) (by with_unfolding_all rfl)) (fun _ _ _ _ _ => (g_name (i := 3) nd rfl (by first | exact Or.inl rfl | exact Or.inr rfl))) (fun _ _ _ _ _ => (e_callTy call_tuple_of cd_tuple (by rfl) T.b_tuple (by decide +kernel) (ea_cons (e_callB cr_sortedI cd_sortI (by rfl) T.b_sorted (by decide +kernel) (ea_cons (e_comp rfl nd (i_seq (e_var 3)) (blkOk_by (own := [("one", 2)]) (by with_unfolding_all rfl)) (fun _ _ _ _ _ => (g_name (i := 2) nd rfl (by first | exact Or.inl rfl | exact Or.inr rfl))) (fun _ _ _ _ _ => (e_ix ix_seq cd_ix (e_var 2) e_int (fun _ _ => rfl))) (by decide)) ea_nil)) ea_nil))) (by decide))))
/-! is_good -/
abbrev s_is_good : Stmt := topS 27
theorem sc_is_good : FnScope ["loader", "thing", "one"] ["loader", "thing"] (defScope s_is_good) := ⟨rfl, rfl, rfl, by decide +kernel, rfl, by decide +kernel, by decide +kernel⟩
abbrev is_is_good : List Nat := []
noncomputable def b_is_good : M Fl :=
  (sRet (vAnd (opN gIsi [(eVar 1), (eD (.ty "tuple"))]) (vAnd (vChain gLe gLe (eD (.int 1)) (opN gLen [(eVar 1)]) (eD (.int 6))) (opN gAll [(eComp (iterSeq (eVar 1)) (([("one", 2)] : List (Str × Nat)).map (·.2)) (mName 2) tYesD (callF g_is_beat [none, none] [(eVar 0), (eVar 2)]))]))))
noncomputable def g_is_good : List W → RF := mkFn is_is_good 2 3 b_is_good
theorem ok_is_good {f : Addr} {fd : FuncData} (T : Facts K mg) (F : Fun K "is_good" "is_good" s_is_good f fd) (C_is_beat : Cal P w K mg base 3 "is_beat" ["loader", "thing"] g_is_beat) : FnS P w K mg base 4 f fd ["loader", "thing"] g_is_good := by
  refine fn_ok (is := is_is_good) F sc_is_good (fun cdv A outer s H E hr => ?_)
  have nd := sc_is_good.nd
  have tk : Takes (cxOf (L2.CX P w) P w K mg base ["loader", "thing", "one"] "is_good" (defScope s_is_good) f cdv A outer s H E) (fun c d _ H => E c d H) := takes_of rfl rfl rfl rfl
  show SsS _ _ _ [] _
  exact (ss_one (s_ret (e_and (e_callB call_isi cd_isi (by rfl) T.b_isinstance (by decide +kernel) (ea_cons (e_var 1) (ea_cons (e_bltn (v := .ty "tuple") (by rfl) T.b_tuple (by decide +kernel) rfl (fun _ => .ty "tuple")) ea_nil))) (e_and (e_chain op_le op_le cd_cmp cd_cmp e_int (e_callB call_lenA cd_len (by rfl) T.b_len (by decide +kernel) (ea_cons (e_var 1) ea_nil)) e_int) (e_one (e_callB (cr_all rfl) cd_all (by rfl) T.b_all (by decide +kernel) (ea_cons (e_comp rfl nd (i_seq (e_var 1)) (blkOk_by (own := [("one", 2)]) (by with_unfolding_all rfl)) (fun _ _ _ _ _ => (g_name (i := 2) nd rfl (by first | exact Or.inl rfl | exact Or.inr rfl))) (fun _ _ _ _ _ => (e_callC (ms := [none, none]) C_is_beat takes0 hr (ea_cons (e_var 0) (ea_cons (e_var 2) ea_nil)) (by decide))) (by decide)) ea_nil)))))))
/-! loader_text -/
abbrev s_loader_text : Stmt := topS 32
theorem sc_loader_text : FnScope ["loader"] ["loader"] (defScope s_loader_text) := ⟨rfl, rfl, rfl, by decide +kernel, rfl, by decide +kernel, by decide +kernel⟩
abbrev is_loader_text : List Nat := ([] ++ [])
noncomputable def b_loader_text : M Fl :=
  (sSeq (sExpr (callF g_look_loader [none] [(eVar 0)]))
    (sRet (callF g_text_of [none] [(eVar 0)])))
noncomputable def g_loader_text : List W → RF := mkFn is_loader_text 1 1 b_loader_text
theorem ok_loader_text {f : Addr} {fd : FuncData} (T : Facts K mg) (F : Fun K "loader_text" "loader_text" s_loader_text f fd) (C_look_loader : Cal P w K mg base 3 "look_loader" ["loader"] g_look_loader) (C_text_of : Cal P w K mg base 1 "text_of" ["loader"] g_text_of) : FnS P w K mg base 4 f fd ["loader"] g_loader_text := by
  refine fn_ok (is := is_loader_text) F sc_loader_text (fun cdv A outer s H E hr => ?_)
  have nd := sc_loader_text.nd
  have tk : Takes (cxOf (L2.CX P w) P w K mg base ["loader"] "loader_text" (defScope s_loader_text) f cdv A outer s H E) (fun c d _ H => E c d H) := takes_of rfl rfl rfl rfl
  show SsS _ _ _ ([] ++ []) _
  exact (ss_cons (s_expr (e_callC (ms := [none]) C_look_loader tk hr (ea_cons (e_var 0) ea_nil) (by decide)))
    (ss_one (s_ret (e_callC (ms := [none]) C_text_of tk hr (ea_cons (e_var 0) ea_nil) (by decide)))))
/-! read_line -/
abbrev s_read_line : Stmt := topS 38
theorem sc_read_line : FnScope ["loader", "text", "found"] ["loader", "text"] (defScope s_read_line) := ⟨rfl, rfl, rfl, by decide +kernel, rfl, by decide +kernel, by decide +kernel⟩
abbrev is_read_line : List Nat := ([] ++ ([2] ++ (([] ++ []) ++ [])))
noncomputable def b_read_line : M Fl :=
  (sSeq (sExpr (callF g_look_loader [none] [(eVar 0)]))
    (sSeq (sSet 2 (eIf (tst (opN gIsi [(eVar 1), (eD (.ty "str"))])) (callF g_parted [none, none] [(eVar 1), (eD (.str " "))]) (eD .non)))
    (sSeq (sIf (tNotD (tst (callF g_are_groups [none, none, none] [(eVar 0), (eVar 2), (eD (.int 24))]))) (sRaise "BadText") sNext)
    (sRet (eVar 2)))))
noncomputable def g_read_line : List W → RF := mkFn is_read_line 2 3 b_read_line
theorem ok_read_line {f : Addr} {fd : FuncData} (T : Facts K mg) (F : Fun K "read_line" "read_line" s_read_line f fd) (C_look_loader : Cal P w K mg base 3 "look_loader" ["loader"] g_look_loader) (C_parted : Cal P w K mg base 2 "parted" ["text", "sign"] g_parted) (C_are_groups : Cal P w K mg base 2 "are_groups" ["loader", "thing", "most"] g_are_groups) : FnS P w K mg base 4 f fd ["loader", "text"] g_read_line := by
  refine fn_ok (is := is_read_line) F sc_read_line (fun cdv A outer s H E hr => ?_)
  have nd := sc_read_line.nd
  have tk : Takes (cxOf (L2.CX P w) P w K mg base ["loader", "text", "found"] "read_line" (defScope s_read_line) f cdv A outer s H E) (fun c d _ H => E c d H) := takes_of rfl rfl rfl rfl
  show SsS _ _ _ ([] ++ ([2] ++ (([] ++ []) ++ []))) _
  exact (ss_cons (s_expr (e_callC (ms := [none]) C_look_loader tk hr (ea_cons (e_var 0) ea_nil) (by decide)))
    (ss_cons (s_set (i := 2) nd rfl (by first | exact Or.inl rfl | exact Or.inr rfl) (e_if (t_val (e_callB call_isi cd_isi (by rfl) T.b_isinstance (by decide +kernel) (ea_cons (e_var 1) (ea_cons (e_bltn (v := .ty "str") (by rfl) T.b_str (by decide +kernel) rfl (fun _ => .ty "str")) ea_nil)))) (e_callC (ms := [none, none]) C_parted tk hr (ea_cons (e_var 1) (ea_cons e_str ea_nil)) (by decide)) e_non))
    (ss_cons (s_if (t_not (t_val (e_callC (ms := [none, none, none]) C_are_groups tk hr (ea_cons (e_var 0) (ea_cons (e_var 2) (ea_cons e_int ea_nil))) (by decide)))) (ss_one (s_raiseC T.e_BadText tk)) ss_nil)
    (ss_one (s_ret (e_var 2))))))
/-! chairs -/
abbrev s_chairs : Stmt := topS 24
theorem sc_chairs : FnScope ["loader", "line"] ["loader", "line"] (defScope s_chairs) := ⟨rfl, rfl, rfl, by decide +kernel, rfl, by decide +kernel, by decide +kernel⟩
abbrev is_chairs : List Nat := ([] ++ [])
noncomputable def b_chairs : M Fl :=
  (sSeq (sExpr (callF g_look_line [none, none] [(eVar 0), (eVar 1)]))
    (sRet (callF g_all_chairs [none, none] [(eVar 0), (eVar 1)])))
noncomputable def g_chairs : List W → RF := mkFn is_chairs 2 2 b_chairs
theorem ok_chairs {f : Addr} {fd : FuncData} (T : Facts K mg) (F : Fun K "chairs" "chairs" s_chairs f fd) (C_look_line : Cal P w K mg base 4 "look_line" ["loader", "line"] g_look_line) (C_all_chairs : Cal P w K mg base 4 "all_chairs" ["loader", "line"] g_all_chairs) : FnS P w K mg base 5 f fd ["loader", "line"] g_chairs := by
  refine fn_ok (is := is_chairs) F sc_chairs (fun cdv A outer s H E hr => ?_)
  have nd := sc_chairs.nd
  have tk : Takes (cxOf (L2.CX P w) P w K mg base ["loader", "line"] "chairs" (defScope s_chairs) f cdv A outer s H E) (fun c d _ H => E c d H) := takes_of rfl rfl rfl rfl
  show SsS _ _ _ ([] ++ []) _
  exact (ss_cons (s_expr (e_callC (ms := [none, none]) C_look_line tk hr (ea_cons (e_var 0) (ea_cons (e_var 1) ea_nil)) (by decide)))
    (ss_one (s_ret (e_callC (ms := [none, none]) C_all_chairs tk hr (ea_cons (e_var 0) (ea_cons (e_var 1) ea_nil)) (by decide)))))
/-! look_day -/
abbrev s_look_day : Stmt := topS 28
theorem sc_look_day : FnScope ["loader", "day"] ["loader", "day"] (defScope s_look_day) := ⟨rfl, rfl, rfl, by decide +kernel, rfl, by decide +kernel, by decide +kernel⟩
abbrev is_look_day : List Nat := ([] ++ ([] ++ []))
noncomputable def b_look_day : M Fl :=
  (sSeq (sExpr (callF g_look_loader [none] [(eVar 0)]))
    (sIf (tNotD (tst (callF g_is_good [none, none] [(eVar 0), (eVar 1)]))) (sRaise "BadDay") sNext))
noncomputable def g_look_day : List W → RF := mkFn is_look_day 2 2 b_look_day
theorem ok_look_day {f : Addr} {fd : FuncData} (T : Facts K mg) (F : Fun K "look_day" "look_day" s_look_day f fd) (C_look_loader : Cal P w K mg base 3 "look_loader" ["loader"] g_look_loader) (C_is_good : Cal P w K mg base 4 "is_good" ["loader", "thing"] g_is_good) : FnS P w K mg base 5 f fd ["loader", "day"] g_look_day := by
  refine fn_ok (is := is_look_day) F sc_look_day (fun cdv A outer s H E hr => ?_)
  have nd := sc_look_day.nd
  have tk : Takes (cxOf (L2.CX P w) P w K mg base ["loader", "day"] "look_day" (defScope s_look_day) f cdv A outer s H E) (fun c d _ H => E c d H) := takes_of rfl rfl rfl rfl
  show SsS _ _ _ ([] ++ ([] ++ [])) _
  exact (ss_cons (s_expr (e_callC (ms := [none]) C_look_loader tk hr (ea_cons (e_var 0) ea_nil) (by decide)))
    (ss_one (s_if (t_not (t_val (e_callC (ms := [none, none]) C_is_good tk hr (ea_cons (e_var 0) (ea_cons (e_var 1) ea_nil)) (by decide)))) (ss_one (s_raiseC T.e_BadDay tk)) ss_nil)))
/-! line_text -/
abbrev s_line_text : Stmt := topS 37
theorem sc_line_text : FnScope ["loader", "line"] ["loader", "line"] (defScope s_line_text) := ⟨rfl, rfl, rfl, by decide +kernel, rfl, by decide +kernel, by decide +kernel⟩
abbrev is_line_text : List Nat := ([] ++ [])
noncomputable def b_line_text : M Fl :=
  (sSeq (sExpr (callF g_look_line [none, none] [(eVar 0), (eVar 1)]))
    (sRet (callF g_joined [none, none] [(eVar 1), (eD (.str " "))])))
noncomputable def g_line_text : List W → RF := mkFn is_line_text 2 2 b_line_text
theorem ok_line_text {f : Addr} {fd : FuncData} (T : Facts K mg) (F : Fun K "line_text" "line_text" s_line_text f fd) (C_look_line : Cal P w K mg base 4 "look_line" ["loader", "line"] g_look_line) (C_joined : Cal P w K mg base 1 "joined" ["some", "sign"] g_joined) : FnS P w K mg base 5 f fd ["loader", "line"] g_line_text := by
  refine fn_ok (is := is_line_text) F sc_line_text (fun cdv A outer s H E hr => ?_)
  have nd := sc_line_text.nd
  have tk : Takes (cxOf (L2.CX P w) P w K mg base ["loader", "line"] "line_text" (defScope s_line_text) f cdv A outer s H E) (fun c d _ H => E c d H) := takes_of rfl rfl rfl rfl
  show SsS _ _ _ ([] ++ []) _
  exact (ss_cons (s_expr (e_callC (ms := [none, none]) C_look_line tk hr (ea_cons (e_var 0) (ea_cons (e_var 1) ea_nil)) (by decide)))
    (ss_one (s_ret (e_callC (ms := [none, none]) C_joined tk hr (ea_cons (e_var 1) (ea_cons e_str ea_nil)) (by decide)))))
/-! chairs_text -/
abbrev s_chairs_text : Stmt := topS 39
theorem sc_chairs_text : FnScope ["loader", "line", "some", "place", "chair"] ["loader", "line"] (defScope s_chairs_text) := ⟨rfl, rfl, rfl, by decide +kernel, rfl, by decide +kernel, by decide +kernel⟩
abbrev is_chairs_text : List Nat := ([] ++ ([2] ++ []))
noncomputable def b_chairs_text : M Fl :=
  (sSeq (sExpr (callF g_look_line [none, none] [(eVar 0), (eVar 1)]))
    (sSeq (sSet 2 (eComp (iterSeq (callF g_all_chairs [none, none] [(eVar 0), (eVar 1)])) (([("chair", 4)] : List (Str × Nat)).map (·.2)) (mName 4) tYesD (callF g_joined [none, none] [(eComp (iterSeq (eVar 4)) (([("place", 3)] : List (Str × Nat)).map (·.2)) (mName 3) tYesD (opN gIx [(eVar 1), (eVar 3)])), (eD (.str "+"))])))
    (sRet (eIf (tst (opN gNe [(eVar 2), (dLst [])])) (opMS gJoin (eD (.str " | ")) (eVar 2)) (eD (.str "-"))))))
noncomputable def g_chairs_text : List W → RF := mkFn is_chairs_text 2 5 b_chairs_text
theorem ok_chairs_text {f : Addr} {fd : FuncData} (T : Facts K mg) (F : Fun K "chairs_text" "chairs_text" s_chairs_text f fd) (C_look_line : Cal P w K mg base 4 "look_line" ["loader", "line"] g_look_line) (C_all_chairs : Cal P w K mg base 4 "all_chairs" ["loader", "line"] g_all_chairs) (C_joined : Cal P w K mg base 1 "joined" ["some", "sign"] g_joined) : FnS P w K mg base 5 f fd ["loader", "line"] g_chairs_text := by
  refine fn_ok (is := is_chairs_text) F sc_chairs_text (fun cdv A outer s H E hr => ?_)
  have nd := sc_chairs_text.nd
  have tk : Takes (cxOf (L2.CX P w) P w K mg base ["loader", "line", "some", "place", "chair"] "chairs_text" (defScope s_chairs_text) f cdv A outer s H E) (fun c d _ H => E c d H) := takes_of rfl rfl rfl rfl
  show SsS _ _ _ ([] ++ ([2] ++ [])) _
  exact (ss_cons (s_expr (e_callC (ms := [none, none]) C_look_line tk hr (ea_cons (e_var 0) (ea_cons (e_var 1) ea_nil)) (by decide)))
    (ss_cons (s_comp (i := 2) rfl nd rfl rfl (sw_true rfl rfl rfl (by decide +kernel)) (i_seq (e_callC (ms := [none, none]) C_all_chairs tk hr (ea_cons (e_var 0) (ea_cons (e_var 1) ea_nil)) (by decide))) (blkOk_by (own := [("chair", 4)]) (by with_unfolding_all rfl)) (fun _ _ _ _ _ => (g_name (i := 4) nd rfl (by first | exact Or.inl rfl | exact Or.inr rfl))) (fun _ _ _ _ _ => (e_callC (ms := [none, none]) C_joined takes0 hr (ea_cons (e_comp rfl nd (i_seq (e_var 4)) (blkOk_by (own := [("place", 3)]) (by with_unfolding_all rfl)) (fun _ _ _ _ _ => (g_name (i := 3) nd rfl (by first | exact Or.inl rfl | exact Or.inr rfl))) (fun _ _ _ _ _ => (e_ix ix_seq cd_ix (e_var 1) (e_var 3) (fun _ _ => rfl))) (by decide)) (ea_cons e_str ea_nil)) (by decide))) (by decide))
    (ss_one (s_ret (e_if (t_cmp (op_neD hr.units) cd_ne (e_var 2) (e_lst ea_nil) (nomark _)) (e_join e_str (e_var 2)) e_str)))))
/-! read_day -/
abbrev s_read_day : Stmt := topS 42
theorem sc_read_day : FnScope ["loader", "text", "found", "word"] ["loader", "text"] (defScope s_read_day) := ⟨rfl, rfl, rfl, by decide +kernel, rfl, by decide +kernel, by decide +kernel⟩
abbrev is_read_day : List Nat := ([] ++ ([2] ++ (([] ++ []) ++ [])))
noncomputable def b_read_day : M Fl :=
  (sSeq (sExpr (callF g_look_loader [none] [(eVar 0)]))
    (sSeq (sSet 2 (eIf (tst (opN gIsi [(eVar 1), (eD (.ty "str"))])) (opN gTuple [(eComp (iterSeq (opMS gSplit (eVar 1) (eD (.str " ")))) (([("word", 3)] : List (Str × Nat)).map (·.2)) (mName 3) tYesD (callF g_beat_in [none] [(eVar 3)]))]) (eD .non)))
    (sSeq (sIf (tNotD (tst (callF g_is_good [none, none] [(eVar 0), (eVar 2)]))) (sRaise "BadText") sNext)
    (sRet (eVar 2)))))
noncomputable def g_read_day : List W → RF := mkFn is_read_day 2 4 b_read_day
theorem ok_read_day {f : Addr} {fd : FuncData} (T : Facts K mg) (F : Fun K "read_day" "read_day" s_read_day f fd) (C_look_loader : Cal P w K mg base 3 "look_loader" ["loader"] g_look_loader) (C_beat_in : Cal P w K mg base 3 "beat_in" ["word"] g_beat_in) (C_is_good : Cal P w K mg base 4 "is_good" ["loader", "thing"] g_is_good) : FnS P w K mg base 5 f fd ["loader", "text"] g_read_day := by
  refine fn_ok (is := is_read_day) F sc_read_day (fun cdv A outer s H E hr => ?_)
  have nd := sc_read_day.nd
  have tk : Takes (cxOf (L2.CX P w) P w K mg base ["loader", "text", "found", "word"] "read_day" (defScope s_read_day) f cdv A outer s H E) (fun c d _ H => E c d H) := takes_of rfl rfl rfl rfl
  show SsS _ _ _ ([] ++ ([2] ++ (([] ++ []) ++ []))) _
  exact (ss_cons (s_expr (e_callC (ms := [none]) C_look_loader tk hr (ea_cons (e_var 0) ea_nil) (by decide)))
    (ss_cons (s_set (i := 2) nd rfl (by first | exact Or.inl rfl | exact Or.inr rfl) (e_if (t_val (e_callB call_isi cd_isi (by rfl) T.b_isinstance (by decide +kernel) (ea_cons (e_var 1) (ea_cons (e_bltn (v := .ty "str") (by rfl) T.b_str (by decide +kernel) rfl (fun _ => .ty "str")) ea_nil)))) (e_callTy call_tuple_of cd_tuple (by rfl) T.b_tuple (by decide +kernel) (ea_cons (e_comp rfl nd (i_seq (e_split (e_var 1) e_str)) (blkOk_by (own := [("word", 3)]) (by with_unfolding_all rfl)) (fun _ _ _ _ _ => (g_name (i := 3) nd rfl (by first | exact Or.inl rfl | exact Or.inr rfl))) (fun _ _ _ _ _ => (e_callC (ms := [none]) C_beat_in takes0 hr (ea_cons (e_var 3) ea_nil) (by decide))) (by decide)) ea_nil)) e_non))
    (ss_cons (s_if (t_not (t_val (e_callC (ms := [none, none]) C_is_good tk hr (ea_cons (e_var 0) (ea_cons (e_var 2) ea_nil)) (by decide)))) (ss_one (s_raiseC T.e_BadText tk)) ss_nil)
    (ss_one (s_ret (e_var 2))))))
/-! day_text -/
abbrev s_day_text : Stmt := topS 40
theorem sc_day_text : FnScope ["loader", "day", "groups", "singles"] ["loader", "day"] (defScope s_day_text) := ⟨rfl, rfl, rfl, by decide +kernel, rfl, by decide +kernel, by decide +kernel⟩
abbrev is_day_text : List Nat := ([] ++ [])
noncomputable def b_day_text : M Fl :=
  (sSeq (sExpr (callF g_look_day [none, none] [(eVar 0), (eVar 1)]))
    (sRet (opMS gJoin (eD (.str " ")) (eComp (iterSeq (eVar 1)) (([("groups", 2), ("singles", 3)] : List (Str × Nat)).map (·.2)) (mTup (mCons (mName 2) (mCons (mName 3) mNil)) 2) tYesD (opN gAdd [(opN gAdd [(callF g_joined [none, none] [(eVar 2), (eD (.str "+"))]), (eD (.str "/"))]), (opN gStrI [(eVar 3)])])))))
noncomputable def g_day_text : List W → RF := mkFn is_day_text 2 4 b_day_text
theorem ok_day_text {f : Addr} {fd : FuncData} (T : Facts K mg) (F : Fun K "day_text" "day_text" s_day_text f fd) (C_look_day : Cal P w K mg base 5 "look_day" ["loader", "day"] g_look_day) (C_joined : Cal P w K mg base 1 "joined" ["some", "sign"] g_joined) : FnS P w K mg base 6 f fd ["loader", "day"] g_day_text := by
  refine fn_ok (is := is_day_text) F sc_day_text (fun cdv A outer s H E hr => ?_)
  have nd := sc_day_text.nd
  have tk : Takes (cxOf (L2.CX P w) P w K mg base ["loader", "day", "groups", "singles"] "day_text" (defScope s_day_text) f cdv A outer s H E) (fun c d _ H => E c d H) := takes_of rfl rfl rfl rfl
  show SsS _ _ _ ([] ++ []) _
  exact (ss_cons (s_expr (e_callC (ms := [none, none]) C_look_day tk hr (ea_cons (e_var 0) (ea_cons (e_var 1) ea_nil)) (by decide)))
    (ss_one (s_ret (e_join e_str (e_comp rfl nd (i_seq (e_var 1)) (blkOk_by (own := [("groups", 2), ("singles", 3)]) (by with_unfolding_all rfl)) (fun _ _ _ _ _ => (g_tup rfl (gs_cons (g_name (i := 2) nd rfl (by first | exact Or.inl rfl | exact Or.inr rfl)) (gs_cons (g_name (i := 3) nd rfl (by first | exact Or.inl rfl | exact Or.inr rfl)) gs_nil)))) (fun _ _ _ _ _ => (e_bin op_addA cd_add (e_bin op_addA cd_add (e_callC (ms := [none, none]) C_joined takes0 hr (ea_cons (e_var 2) (ea_cons e_str ea_nil)) (by decide)) e_str) (e_callTy call_str_int cd_strI (by rfl) T.b_str (by decide +kernel) (ea_cons (e_var 3) ea_nil)))) (by decide))))))
/-! _law_one -/
abbrev s_law_one : Stmt := topS 53
theorem sc_law_one : FnScope ["how", "some", "loader", "text"] ["how", "some"] (defScope s_law_one) := ⟨rfl, rfl, rfl, by decide +kernel, rfl, by decide +kernel, by decide +kernel⟩
abbrev is_law_one : List Nat := (([2] ++ ([3] ++ [])) ++ (([] ++ []) ++ (([] ++ []) ++ [])))
noncomputable def b_law_one : M Fl :=
  (sSeq (sTgt (mTup (mCons (mName 2) (mCons (mName 3) mNil)) 2) (eVar 1))
    (sSeq (sIf (tst (opN gEq [(eVar 0), (eD (.int 0))])) (sRet (callF g_loader_text [none] [(callF g_read_loader [none] [(eVar 3)])])) sNext)
    (sSeq (sIf (tst (opN gEq [(eVar 0), (eD (.int 1))])) (sRet (callF g_line_text [none, none] [(eVar 2), (callF g_read_line [none, none] [(eVar 2), (eVar 3)])])) sNext)
    (sRet (callF g_day_text [none, none] [(eVar 2), (callF g_read_day [none, none] [(eVar 2), (eVar 3)])])))))
noncomputable def g_law_one : List W → RF := mkFn is_law_one 2 4 b_law_one
theorem ok_law_one {f : Addr} {fd : FuncData} (T : Facts K mg) (F : Fun K "_law_one" "_law_one" s_law_one f fd) (C_loader_text : Cal P w K mg base 4 "loader_text" ["loader"] g_loader_text) (C_read_loader : Cal P w K mg base 3 "read_loader" ["text"] g_read_loader) (C_line_text : Cal P w K mg base 5 "line_text" ["loader", "line"] g_line_text) (C_read_line : Cal P w K mg base 4 "read_line" ["loader", "text"] g_read_line) (C_day_text : Cal P w K mg base 6 "day_text" ["loader", "day"] g_day_text) (C_read_day : Cal P w K mg base 5 "read_day" ["loader", "text"] g_read_day) : FnS P w K mg base 7 f fd ["how", "some"] g_law_one := by
  refine fn_ok (is := is_law_one) F sc_law_one (fun cdv A outer s H E hr => ?_)
  have nd := sc_law_one.nd
  have tk : Takes (cxOf (L2.CX P w) P w K mg base ["how", "some", "loader", "text"] "_law_one" (defScope s_law_one) f cdv A outer s H E) (fun c d _ H => E c d H) := takes_of rfl rfl rfl rfl
  show SsS _ _ _ (([2] ++ ([3] ++ [])) ++ (([] ++ []) ++ (([] ++ []) ++ []))) _
  exact (ss_cons (s_tgt (e_var 1) (g_tup rfl (gs_cons (g_name (i := 2) nd rfl (by first | exact Or.inl rfl | exact Or.inr rfl)) (gs_cons (g_name (i := 3) nd rfl (by first | exact Or.inl rfl | exact Or.inr rfl)) gs_nil))))
    (ss_cons (s_if (t_cmp (op_eqD hr.units) cd_eq (e_var 0) e_int (nomark _)) (ss_one (s_ret (e_callC (ms := [none]) C_loader_text tk hr (ea_cons (e_callC (ms := [none]) C_read_loader tk hr (ea_cons (e_var 3) ea_nil) (by decide)) ea_nil) (by decide)))) ss_nil)
    (ss_cons (s_if (t_cmp (op_eqD hr.units) cd_eq (e_var 0) e_int (nomark _)) (ss_one (s_ret (e_callC (ms := [none, none]) C_line_text tk hr (ea_cons (e_var 2) (ea_cons (e_callC (ms := [none, none]) C_read_line tk hr (ea_cons (e_var 2) (ea_cons (e_var 3) ea_nil)) (by decide)) ea_nil)) (by decide)))) ss_nil)
    (ss_one (s_ret (e_callC (ms := [none, none]) C_day_text tk hr (ea_cons (e_var 2) (ea_cons (e_callC (ms := [none, none]) C_read_day tk hr (ea_cons (e_var 2) (ea_cons (e_var 3) ea_nil)) (by decide)) ea_nil)) (by decide)))))))
/-! _law_told -/
abbrev s_law_told : Stmt := topS 47
theorem sc_law_told : FnScope ["way", "some", "caught", "found", "e"] ["way", "some"] (defScope s_law_told) := ⟨rfl, rfl, rfl, by decide +kernel, rfl, by decide +kernel, by decide +kernel⟩
abbrev is_law_told : List Nat := ([2] ++ ([3] ++ (([3] ++ [2, 4]) ++ (([] ++ []) ++ []))))
noncomputable def b_law_told : M Fl :=
  (sSeq (sSet 2 (eD .non))
    (sSeq (sSet 3 (eD .non))
    (sSeq (sTry raisedL 4 2 (sSet 3 (callF g_law_one [none, none] [(eVar 0), (eVar 1)])))
    (sSeq (sIf (tst (opN gIs [(eVar 2), (eD .non)])) (sRet (dTup [(eD (.str "found")), (eVar 3)])) sNext)
    (sRet (dTup [(eD (.str "refused")), (callF g_law_word [none] [(eVar 2)])]))))))
noncomputable def g_law_told : List W → RF := mkFn is_law_told 2 5 b_law_told
theorem ok_law_told {f : Addr} {fd : FuncData} (T : Facts K mg) (F : Fun K "_law_told" "_law_told" s_law_told f fd) (C_law_one : Cal P w K mg base 7 "_law_one" ["how", "some"] g_law_one) (C_law_word : Cal P w K mg base 1 "_law_word" ["caught"] g_law_word) : FnS P w K mg base 8 f fd ["way", "some"] g_law_told := by
  refine fn_ok (is := is_law_told) F sc_law_told (fun cdv A outer s H E hr => ?_)
  have nd := sc_law_told.nd
  have tk : Takes (cxOf (L2.CX P w) P w K mg base ["way", "some", "caught", "found", "e"] "_law_told" (defScope s_law_told) f cdv A outer s H E) (fun c d _ H => E c d H) := takes_of rfl rfl rfl rfl
  show SsS _ _ _ ([2] ++ ([3] ++ (([3] ++ [2, 4]) ++ (([] ++ []) ++ [])))) _
  exact (ss_cons (s_set (i := 2) nd rfl (by first | exact Or.inl rfl | exact Or.inr rfl) e_non)
    (ss_cons (s_set (i := 3) nd rfl (by first | exact Or.inl rfl | exact Or.inr rfl) e_non)
    (ss_cons (s_try rfl rfl rfl nd rfl rfl rfl rfl (by decide) (by rfl) T.cat_ChairError (fun W pn xe tk1 _ => (ss_one (s_set (i := 3) nd rfl (by first | exact Or.inl rfl | exact Or.inr rfl) (e_callC (ms := [none, none]) C_law_one tk1 hr (ea_cons (e_var 0) (ea_cons (e_var 1) ea_nil)) (by decide))))))
    (ss_cons (s_if (t_cmp op_isA cd_is (e_var 2) e_non (nomark _)) (ss_one (s_ret (e_tup (ea_cons e_str (ea_cons (e_var 3) ea_nil))))) ss_nil)
    (ss_one (s_ret (e_tup (ea_cons e_str (ea_cons (e_callC (ms := [none]) C_law_word tk hr (ea_cons (e_var 2) ea_nil) (by decide)) ea_nil)))))))))
/-! law -/
abbrev s_law : Stmt := topS 55
theorem sc_law : FnScope ["script", "town", "loader", "line", "day", "texts_now", "groups", "alone", "some", "place", "chair", "k", "how", "right", "at", "sign", "before", "after", "spoilt", "told_now", "bads", "bad"] ["script"] (defScope s_law) := ⟨rfl, rfl, rfl, by decide +kernel, rfl, by decide +kernel, by decide +kernel⟩
abbrev is_law : List Nat := ([1] ++ ([2] ++ ([3] ++ ([4] ++ ([5] ++ ([] ++ (([] ++ []) ++ (([] ++ []) ++ (([] ++ []) ++ ([8] ++ (([] ++ []) ++ (([11] ++ ([12] ++ ([13] ++ ([14] ++ ([15] ++ ([16, 17] ++ ([18] ++ ([19] ++ ([] ++ []))))))))) ++ (([12] ++ ([13] ++ ([20] ++ ([] ++ [])))) ++ [])))))))))))))
noncomputable def lb_law_0 : M Fl :=
  (sSeq (sSet 12 (opN gMod [(eVar 11), (eD (.int 3))]))
    (sSeq (sSet 13 (opN gIx [(eVar 5), (eVar 12)]))
    (sSeq (sSet 14 (callF g_law_draw [none, some 1, none] [(eVar 0), (eVar 1), (opN gAdd [(opN gLen [(eVar 13)]), (eD (.int 1))])]))
    (sSeq (sSet 15 (callF g_law_pick [none, some 1, none] [(eVar 0), (eVar 1), (dLst [(eD (.str " ")), (eD (.str "0")), (eD (.str "1")), (eD (.str "-")), (eD (.str "a")), (eD (.str "/")), (eD (.str "+")), (eD (.str "9"))])]))
    (sSeq (sPar 16 17 [(opN gSlHS [(eVar 13), (eVar 14)]), (opN gSlLS [(eVar 13), (eVar 14)])])
    (sSeq (sSet 18 (callF g_law_pick [none, some 1, none] [(eVar 0), (eVar 1), (dLst [(opN gAdd [(opN gAdd [(eVar 16), (eVar 15)]), (eVar 17)]), (opN gAdd [(eVar 16), (opN gSlLS [(eVar 17), (eD (.int 1))])]), (opN gAdd [(opN gAdd [(eVar 16), (eVar 15)]), (opN gSlLS [(eVar 17), (eD (.int 1))])])])]))
    (sSeq (sSet 19 (callF g_law_told [none, none] [(eVar 12), (dTup [(eVar 2), (eVar 18)])]))
    (sIf (tAndD (tst (opN gNe [(eVar 19), (callF g_law_refused [none] [(eD (.str "text"))])])) (tst (opN gNe [(eVar 19), (dTup [(eD (.str "found")), (eVar 18)])]))) (sRet (eD (.bl false))) sNext))))))))
noncomputable def m_law_0 : MT :=
  (mName 11)
noncomputable def lb_law_1 : M Fl :=
  (sSeq (sSet 13 (opN gIx [(eVar 5), (eVar 12)]))
    (sSeq (sSet 20 (dLst [(eD (.str "")), (eD (.str " ")), (opN gAdd [(eVar 13), (eD (.str " "))]), (opN gAdd [(eD (.str " ")), (eVar 13)]), (eD (.str "- -")), (eD (.str "1 ")), (eD (.str "x")), (eD .non), (eD (.int 5)), (dLst [(eVar 13)]), (eD (.str "-/")), (eD (.str "/1"))]))
    (sIf (tst (opN gNe [(eComp (iterSeq (eVar 20)) (([("bad", 21)] : List (Str × Nat)).map (·.2)) (mName 21) (tst (opN gNe [(callF g_law_told [none, none] [(eVar 12), (dTup [(eVar 2), (eVar 21)])]), (callF g_law_refused [none] [(eD (.str "text"))])])) (eVar 21)), (dLst [])])) (sRet (eD (.bl false))) sNext)))
noncomputable def m_law_1 : MT :=
  (mName 12)
noncomputable def b_law : M Fl :=
  (sSeq (sSet 1 (callF g_law_town [none] [(eVar 0)]))
    (sSeq (sSet 2 (callF g_law_loader [none, some 1, none] [(eVar 0), (eVar 1), (eD (.int 6))]))
    (sSeq (sSet 3 (callF g_law_groups [none, some 1, none, none] [(eVar 0), (eVar 1), (opN gIx [(eVar 2), (eD (.int 0))]), (eD (.int 12))]))
    (sSeq (sSet 4 (callF g_law_day [none, some 1, none, none] [(eVar 0), (eVar 1), (eVar 2), (eD (.int 4))]))
    (sSeq (sSet 5 (dLst [(eJs [(eFmt (opN gIx [(eVar 2), (eD (.int 0))])), (eD (.str " seats, look ")), (eFmt (opN gIx [(eVar 2), (eD (.int 1))])), (eD (.str ", pass ")), (eFmt (opN gIx [(eVar 2), (eD (.int 2))]))] Str.empty), (callF g_law_sizes [none, none] [(eVar 3), (eD (.str " "))])]))
    (sSeq (sExpr (eApp 5 (opMS gJoin (eD (.str " ")) (eComp (iterSeq (eVar 4)) (([("groups", 6), ("alone", 7)] : List (Str × Nat)).map (·.2)) (mTup (mCons (mName 6) (mCons (mName 7) mNil)) 2) tYesD (opN gAdd [(opN gAdd [(callF g_law_sizes [none, none] [(eVar 6), (eD (.str "+"))]), (eD (.str "/"))]), (opN gStrI [(eVar 7)])])))))
    (sSeq (sIf (tst (opN gNe [(dLst [(callF g_loader_text [none] [(eVar 2)]), (callF g_line_text [none, none] [(eVar 2), (eVar 3)]), (callF g_day_text [none, none] [(eVar 2), (eVar 4)])]), (eVar 5)])) (sRet (eD (.bl false))) sNext)
    (sSeq (sIf (tOrD (tst (opN gNe [(callF g_read_loader [none] [(opN gIx [(eVar 5), (eD (.int 0))])]), (eVar 2)])) (tst (opN gNe [(callF g_read_line [none, none] [(eVar 2), (opN gIx [(eVar 5), (eD (.int 1))])]), (eVar 3)]))) (sRet (eD (.bl false))) sNext)
    (sSeq (sIf (tst (opN gNe [(callF g_read_day [none, none] [(eVar 2), (opN gIx [(eVar 5), (eD (.int 2))])]), (eVar 4)])) (sRet (eD (.bl false))) sNext)
    (sSeq (sSet 8 (eComp (iterSeq (callF g_chairs [none, none] [(eVar 2), (eVar 3)])) (([("chair", 10)] : List (Str × Nat)).map (·.2)) (mName 10) tYesD (callF g_law_sizes [none, none] [(eComp (iterSeq (eVar 10)) (([("place", 9)] : List (Str × Nat)).map (·.2)) (mName 9) tYesD (opN gIx [(eVar 3), (eVar 9)])), (eD (.str "+"))])))
    (sSeq (sIf (tst (opN gNe [(callF g_chairs_text [none, none] [(eVar 2), (eVar 3)]), (eIf (tst (opN gNe [(eVar 8), (dLst [])])) (opMS gJoin (eD (.str " | ")) (eVar 8)) (eD (.str "-")))])) (sRet (eD (.bl false))) sNext)
    (sSeq (sFor (iterR1 (eD (.int 6))) m_law_0 lb_law_0)
    (sSeq (sFor (iterR1 (eD (.int 3))) m_law_1 lb_law_1)
    (sRet (opN gEq [(callF g_law_told [none, none] [(eD (.int 1)), (dTup [(eVar 2), (opMS gJoin (eD (.str " ")) (opN gMul [(dLst [(eD (.str "1"))]), (eD (.int 25))]))])]), (callF g_law_refused [none] [(eD (.str "text"))])])))))))))))))))
noncomputable def g_law : List W → RF := mkFn is_law 1 22 b_law
theorem ok_law {f : Addr} {fd : FuncData} (T : Facts K mg) (F : Fun K "law" "law" s_law f fd) (C_law_town : Cal P w K mg base 1 "_law_town" ["script"] g_law_town) (C_law_loader : Cal P w K mg base 2 "_law_loader" ["script", "town", "most_seats"] g_law_loader) (C_law_groups : Cal P w K mg base 2 "_law_groups" ["script", "town", "seats", "most_groups"] g_law_groups) (C_law_day : Cal P w K mg base 3 "_law_day" ["script", "town", "loader", "most_beats"] g_law_day) (C_law_sizes : Cal P w K mg base 1 "_law_sizes" ["some", "sign"] g_law_sizes) (C_loader_text : Cal P w K mg base 4 "loader_text" ["loader"] g_loader_text) (C_line_text : Cal P w K mg base 5 "line_text" ["loader", "line"] g_line_text) (C_day_text : Cal P w K mg base 6 "day_text" ["loader", "day"] g_day_text) (C_read_loader : Cal P w K mg base 3 "read_loader" ["text"] g_read_loader) (C_read_line : Cal P w K mg base 4 "read_line" ["loader", "text"] g_read_line) (C_read_day : Cal P w K mg base 5 "read_day" ["loader", "text"] g_read_day) (C_chairs : Cal P w K mg base 5 "chairs" ["loader", "line"] g_chairs) (C_chairs_text : Cal P w K mg base 5 "chairs_text" ["loader", "line"] g_chairs_text) (C_law_draw : Cal P w K mg base 1 "_law_draw" ["script", "town", "many"] g_law_draw) (C_law_pick : Cal P w K mg base 2 "_law_pick" ["script", "town", "some"] g_law_pick) (C_law_told : Cal P w K mg base 8 "_law_told" ["way", "some"] g_law_told) (C_law_refused : Cal P w K mg base 1 "_law_refused" ["word"] g_law_refused) : FnS P w K mg base 9 f fd ["script"] g_law := by
  refine fn_ok (is := is_law) F sc_law (fun cdv A outer s H E hr => ?_)
  have nd := sc_law.nd
  have tk : Takes (cxOf (L2.CX P w) P w K mg base ["script", "town", "loader", "line", "day", "texts_now", "groups", "alone", "some", "place", "chair", "k", "how", "right", "at", "sign", "before", "after", "spoilt", "told_now", "bads", "bad"] "law" (defScope s_law) f cdv A outer s H E) (fun c d _ H => E c d H) := takes_of rfl rfl rfl rfl
  show SsS _ _ _ ([1] ++ ([2] ++ ([3] ++ ([4] ++ ([5] ++ ([] ++ (([] ++ []) ++ (([] ++ []) ++ (([] ++ []) ++ ([8] ++ (([] ++ []) ++ (([11] ++ ([12] ++ ([13] ++ ([14] ++ ([15] ++ ([16, 17] ++ ([18] ++ ([19] ++ ([] ++ []))))))))) ++ (([12] ++ ([13] ++ ([20] ++ ([] ++ [])))) ++ []))))))))))))) _
  exact (ss_cons (s_set (i := 1) nd rfl (by first | exact Or.inl rfl | exact Or.inr rfl) (e_callC (ms := [none]) C_law_town tk hr (ea_cons (e_var 0) ea_nil) (by decide)))
    (ss_cons (s_set (i := 2) nd rfl (by first | exact Or.inl rfl | exact Or.inr rfl) (e_callC (ms := [none, some 1, none]) C_law_loader tk hr (ea_cons (e_var 0) (ea_cons (e_var 1) (ea_cons e_int ea_nil))) (by decide)))
    (ss_cons (s_set (i := 3) nd rfl (by first | exact Or.inl rfl | exact Or.inr rfl) (e_callC (ms := [none, some 1, none, none]) C_law_groups tk hr (ea_cons (e_var 0) (ea_cons (e_var 1) (ea_cons (e_ix ix_seq cd_ix (e_var 2) e_int (fun _ _ => rfl)) (ea_cons e_int ea_nil)))) (by decide)))
    (ss_cons (s_set (i := 4) nd rfl (by first | exact Or.inl rfl | exact Or.inr rfl) (e_callC (ms := [none, some 1, none, none]) C_law_day tk hr (ea_cons (e_var 0) (ea_cons (e_var 1) (ea_cons (e_var 2) (ea_cons e_int ea_nil)))) (by decide)))
    (ss_cons (s_set (i := 5) nd rfl (by first | exact Or.inl rfl | exact Or.inr rfl) (e_lst (ea_cons (e_joined (ej_cons (e_fmt (e_ix ix_seq cd_ix (e_var 2) e_int (fun _ _ => rfl))) (ej_cons e_str (ej_cons (e_fmt (e_ix ix_seq cd_ix (e_var 2) e_int (fun _ _ => rfl))) (ej_cons e_str (ej_cons (e_fmt (e_ix ix_seq cd_ix (e_var 2) e_int (fun _ _ => rfl))) ej_nil)))))) (ea_cons (e_callC (ms := [none, none]) C_law_sizes tk hr (ea_cons (e_var 3) (ea_cons e_str ea_nil)) (by decide)) ea_nil))))
    (ss_cons (s_expr (e_app (i := 5) (he := (e_join e_str (e_comp rfl nd (i_seq (e_var 4)) (blkOk_by (own := [("groups", 6), ("alone", 7)]) (by with_unfolding_all rfl)) (fun _ _ _ _ _ => (g_tup rfl (gs_cons (g_name (i := 6) nd rfl (by first | exact Or.inl rfl | exact Or.inr rfl)) (gs_cons (g_name (i := 7) nd rfl (by first | exact Or.inl rfl | exact Or.inr rfl)) gs_nil)))) (fun _ _ _ _ _ => (e_bin op_addA cd_add (e_bin op_addA cd_add (e_callC (ms := [none, none]) C_law_sizes takes0 hr (ea_cons (e_var 6) (ea_cons e_str ea_nil)) (by decide)) e_str) (e_callTy call_str_int cd_strI (by rfl) T.b_str (by decide +kernel) (ea_cons (e_var 7) ea_nil)))) (by decide))))))
    (ss_cons (s_if (t_cmp (op_neD hr.units) cd_ne (e_lst (ea_cons (e_callC (ms := [none]) C_loader_text tk hr (ea_cons (e_var 2) ea_nil) (by decide)) (ea_cons (e_callC (ms := [none, none]) C_line_text tk hr (ea_cons (e_var 2) (ea_cons (e_var 3) ea_nil)) (by decide)) (ea_cons (e_callC (ms := [none, none]) C_day_text tk hr (ea_cons (e_var 2) (ea_cons (e_var 4) ea_nil)) (by decide)) ea_nil)))) (e_var 5) (nomark _)) (ss_one (s_ret e_bl)) ss_nil)
    (ss_cons (s_if (t_w (w_or (t_cmp (op_neD hr.units) cd_ne (e_callC (ms := [none]) C_read_loader tk hr (ea_cons (e_ix ix_seq cd_ix (e_var 5) e_int (fun _ _ => rfl)) ea_nil) (by decide)) (e_var 2) (nomark _)) (w_or1 (t_cmp (op_neD hr.units) cd_ne (e_callC (ms := [none, none]) C_read_line tk hr (ea_cons (e_var 2) (ea_cons (e_ix ix_seq cd_ix (e_var 5) e_int (fun _ _ => rfl)) ea_nil)) (by decide)) (e_var 3) (nomark _))))) (ss_one (s_ret e_bl)) ss_nil)
    (ss_cons (s_if (t_cmp (op_neD hr.units) cd_ne (e_callC (ms := [none, none]) C_read_day tk hr (ea_cons (e_var 2) (ea_cons (e_ix ix_seq cd_ix (e_var 5) e_int (fun _ _ => rfl)) ea_nil)) (by decide)) (e_var 4) (nomark _)) (ss_one (s_ret e_bl)) ss_nil)
    (ss_cons (s_comp (i := 8) rfl nd rfl rfl (sw_true rfl rfl rfl (by decide +kernel)) (i_seq (e_callC (ms := [none, none]) C_chairs tk hr (ea_cons (e_var 2) (ea_cons (e_var 3) ea_nil)) (by decide))) (blkOk_by (own := [("chair", 10)]) (by with_unfolding_all rfl)) (fun _ _ _ _ _ => (g_name (i := 10) nd rfl (by first | exact Or.inl rfl | exact Or.inr rfl))) (fun _ _ _ _ _ => (e_callC (ms := [none, none]) C_law_sizes takes0 hr (ea_cons (e_comp rfl nd (i_seq (e_var 10)) (blkOk_by (own := [("place", 9)]) (by with_unfolding_all rfl)) (fun _ _ _ _ _ => (g_name (i := 9) nd rfl (by first | exact Or.inl rfl | exact Or.inr rfl))) (fun _ _ _ _ _ => (e_ix ix_seq cd_ix (e_var 3) (e_var 9) (fun _ _ => rfl))) (by decide)) (ea_cons e_str ea_nil)) (by decide))) (by decide))
    (ss_cons (s_if (t_cmp (op_neD hr.units) cd_ne (e_callC (ms := [none, none]) C_chairs_text tk hr (ea_cons (e_var 2) (ea_cons (e_var 3) ea_nil)) (by decide)) (e_if (t_cmp (op_neD hr.units) cd_ne (e_var 8) (e_lst ea_nil) (nomark _)) (e_join e_str (e_var 8)) e_str) (nomark _)) (ss_one (s_ret e_bl)) ss_nil)
    (ss_cons (s_for (passes_of rfl) rfl (i_range1 (by rfl) T.b_range e_int) (g_name (i := 11) nd rfl (by first | exact Or.inl rfl | exact Or.inr rfl)) (ss_cons (s_set (i := 12) nd rfl (by first | exact Or.inl rfl | exact Or.inr rfl) (e_bin op_mod cd_mod (e_var 11) e_int))
    (ss_cons (s_set (i := 13) nd rfl (by first | exact Or.inl rfl | exact Or.inr rfl) (e_ix ix_seq cd_ix (e_var 5) (e_var 12) (fun _ _ => rfl)))
    (ss_cons (s_set (i := 14) nd rfl (by first | exact Or.inl rfl | exact Or.inr rfl) (e_callC (ms := [none, some 1, none]) C_law_draw tk hr (ea_cons (e_var 0) (ea_cons (e_var 1) (ea_cons (e_bin op_addA cd_add (e_callB call_lenA cd_len (by rfl) T.b_len (by decide +kernel) (ea_cons (e_var 13) ea_nil)) e_int) ea_nil))) (by decide)))
    (ss_cons (s_set (i := 15) nd rfl (by first | exact Or.inl rfl | exact Or.inr rfl) (e_callC (ms := [none, some 1, none]) C_law_pick tk hr (ea_cons (e_var 0) (ea_cons (e_var 1) (ea_cons (e_lst (ea_cons e_str (ea_cons e_str (ea_cons e_str (ea_cons e_str (ea_cons e_str (ea_cons e_str (ea_cons e_str (ea_cons e_str ea_nil))))))))) ea_nil))) (by decide)))
    (ss_cons (s_par rfl nd rfl rfl (by decide) rfl rfl (ea_cons (e_slHS (e_var 13) (e_var 14)) (ea_cons (e_slLS (e_var 13) (e_var 14)) ea_nil)) (by rfl))
    (ss_cons (s_set (i := 18) nd rfl (by first | exact Or.inl rfl | exact Or.inr rfl) (e_callC (ms := [none, some 1, none]) C_law_pick tk hr (ea_cons (e_var 0) (ea_cons (e_var 1) (ea_cons (e_lst (ea_cons (e_bin op_addA cd_add (e_bin op_addA cd_add (e_var 16) (e_var 15)) (e_var 17)) (ea_cons (e_bin op_addA cd_add (e_var 16) (e_slLS (e_var 17) e_int)) (ea_cons (e_bin op_addA cd_add (e_bin op_addA cd_add (e_var 16) (e_var 15)) (e_slLS (e_var 17) e_int)) ea_nil)))) ea_nil))) (by decide)))
    (ss_cons (s_set (i := 19) nd rfl (by first | exact Or.inl rfl | exact Or.inr rfl) (e_callC (ms := [none, none]) C_law_told tk hr (ea_cons (e_var 12) (ea_cons (e_tup (ea_cons (e_var 2) (ea_cons (e_var 18) ea_nil))) ea_nil)) (by decide)))
    (ss_one (s_if (t_w (w_and (t_cmp (op_neD hr.units) cd_ne (e_var 19) (e_callC (ms := [none]) C_law_refused tk hr (ea_cons e_str ea_nil) (by decide)) (nomark _)) (w_and1 (t_cmp (op_neD hr.units) cd_ne (e_var 19) (e_tup (ea_cons e_str (ea_cons (e_var 18) ea_nil))) (nomark _))))) (ss_one (s_ret e_bl)) ss_nil))))))))))
    (ss_cons (s_for (passes_of rfl) rfl (i_range1 (by rfl) T.b_range e_int) (g_name (i := 12) nd rfl (by first | exact Or.inl rfl | exact Or.inr rfl)) (ss_cons (s_set (i := 13) nd rfl (by first | exact Or.inl rfl | exact Or.inr rfl) (e_ix ix_seq cd_ix (e_var 5) (e_var 12) (fun _ _ => rfl)))
    (ss_cons (s_set (i := 20) nd rfl (by first | exact Or.inl rfl | exact Or.inr rfl) (e_lst (ea_cons e_str (ea_cons e_str (ea_cons (e_bin op_addA cd_add (e_var 13) e_str) (ea_cons (e_bin op_addA cd_add e_str (e_var 13)) (ea_cons e_str (ea_cons e_str (ea_cons e_str (ea_cons e_non (ea_cons e_int (ea_cons (e_lst (ea_cons (e_var 13) ea_nil)) (ea_cons e_str (ea_cons e_str ea_nil))))))))))))))
    (ss_one (s_if (t_cmp (op_neD hr.units) cd_ne (e_compIf rfl nd (i_seq (e_var 20)) (blkOk_by (own := [("bad", 21)]) (by with_unfolding_all rfl)) (fun _ _ _ _ _ => (g_name (i := 21) nd rfl (by first | exact Or.inl rfl | exact Or.inr rfl))) (fun _ _ _ _ _ => (t_cmp (op_neD hr.units) cd_ne (e_callC (ms := [none, none]) C_law_told takes0 hr (ea_cons (e_var 12) (ea_cons (e_tup (ea_cons (e_var 2) (ea_cons (e_var 21) ea_nil))) ea_nil)) (by decide)) (e_callC (ms := [none]) C_law_refused takes0 hr (ea_cons e_str ea_nil) (by decide)) (nomark _))) (fun _ _ _ _ _ => (e_var 21)) (by decide)) (e_lst ea_nil) (nomark _)) (ss_one (s_ret e_bl)) ss_nil)))))
    (ss_one (s_ret (e_cmp (op_eqD hr.units) cd_eq (e_callC (ms := [none, none]) C_law_told tk hr (ea_cons e_int (ea_cons (e_tup (ea_cons (e_var 2) (ea_cons (e_join e_str (e_bin op_mulA cd_mul (e_lst (ea_cons e_str ea_nil)) e_int)) ea_nil))) ea_nil)) (by decide)) (e_callC (ms := [none]) C_law_refused tk hr (ea_cons e_str ea_nil) (by decide)) (nomark _)))))))))))))))))
end
end Lw

namespace Lw
open PySem PySem.Spec PyProof.Rows L2 DL
/-! ### the plain words: rows, a loader, a line -/
abbrev Row := Int × Int × Int
def dR (r : Row) : D := .tup [.int r.1, .int r.2.1, .int r.2.2]
def dL (s l p : Int) : D := .tup [.int s, .int l, .int p]
def dI (ns : List Int) : D := .tup (ns.map D.int)
theorem en_row : En dR 2 := ⟨fun x y => by
    unfold dR
    rw [deq_tups, all_cons, all_cons, all_cons, all_nil, deq_int, deq_int, deq_int]
    obtain ⟨a, b, c⟩ := x
    obtain ⟨a', b', c'⟩ := y
    by_cases h1 : a = a' <;> by_cases h2 : b = b' <;> by_cases h3 : c = c' <;> simp [h1, h2, h3], fun x m hm => by
    cases m with
    | zero => omega
    | succ m => cases m with
      | zero => omega
      | succ m => rfl⟩
def nextAt (p room : Int) : List Row → Option Nat
  | [] => none
  | r :: rs => if r.2.1 ≤ room then some 0 else if p ≤ r.2.2 then none else (nextAt p room rs).map (· + 1)
def bump (rs : List Row) : List Row := rs.map fun r => (r.1, r.2.1, r.2.2 + 1)
def loadGo (l p : Int) : Nat → Int → List Row → List Row × List Row
  | 0, _, rows => ([], rows)
  | n + 1, room, rows => match nextAt p room (rows.take (l + 1).toNat) with
    | none => ([], rows)
    | some j => match rows[j]? with
      | none => ([], rows)
      | some r => let q := loadGo l p n (room - r.2.1) (bump (rows.take j) ++ rows.drop (j + 1)); (r :: q.1, q.2)
def allGo (s l p : Int) : Nat → List Row → List (List Row)
  | 0, _ => []
  | _ + 1, [] => []
  | n + 1, r :: rs => let q := loadGo l p (r :: rs).length s (r :: rs); q.1 :: allGo s l p n q.2
def rows0 (line : List Int) : List Row := line.zipIdx.map fun q => ((q.2 : Nat), q.1, 0)
def allM (s l p : Int) (line : List Int) : List (List Row) := allGo s l p line.length (rows0 line)
def chairsM (s l p : Int) (line : List Int) : List (List Int) := (allM s l p line).map fun sit => sortI (sit.map (·.1))
def emptM (s l p : Int) (line : List Int) : List Int := (allM s l p line).map fun sit => s - (sit.map (·.2.1)).sum
def okLd (s l p : Int) : Prop := (1 ≤ s ∧ s ≤ 6) ∧ (0 ≤ l ∧ l ≤ 3) ∧ (0 ≤ p ∧ p ≤ 3)
def okLn (s : Int) (line : List Int) : Prop := line.length ≤ 24 ∧ ∀ x ∈ line, 1 ≤ x ∧ x ≤ s
/-! ### what the defs tell -/
theorem ev_is_whole (i a b : Int) : g_is_whole [.v (.int i), .v (.int a), .v (.int b)] = .ok (.v (.bl (decide (a ≤ i ∧ i ≤ b)))) [.v (.int i), .v (.int a), .v (.int b)] := by
  simp [g_is_whole, b_is_whole]
  by_cases h : a ≤ i <;> simp [h]
theorem ev_is_loader {s l p : Int} (h : okLd s l p) : g_is_loader [.v (dL s l p)] = .ok (.v (.bl true)) [.v (dL s l p)] := by
  obtain ⟨⟨h1, h2⟩, ⟨h3, h4⟩, h5, h6⟩ := h
  simp [g_is_loader, b_is_loader, dL, atI_of, ev_is_whole, h1, h2, h3, h4, h5, h6]
theorem ev_look_loader {s l p : Int} (h : okLd s l p) : g_look_loader [.v (dL s l p)] = .ok (.v .non) [.v (dL s l p)] := by
  simp [g_look_loader, b_look_loader, ev_is_loader h]
theorem ev_are_groups {s l p n : Int} {line : List Int} (h : ∀ x ∈ line, 1 ≤ x ∧ x ≤ s) (hl : line.length ≤ 1000) : g_are_groups [.v (dL s l p), .v (dI line), .v (.int n)] = .ok (.v (.bl (decide (line.length ≤ n)))) [.v (dL s l p), .v (dI line), .v (.int n)] := by
  by_cases hn : (line.length : Int) ≤ n
  · simp [g_are_groups, b_are_groups, dI, hn]
    rw [comp_map (ψ := fun _ => D.bl true) line (fun x hx rest => by simp [compD, dL, atI_of, ev_is_whole, h x hx])]
    simp [gAll, show line.length ≤ 1000000 by omega]
    rw [show List.map (fun _ => D.bl true) line = (line.map fun _ => true).map D.bl by simp, blsOf_map]
    simp
  · simp [g_are_groups, b_are_groups, dI, hn]
theorem ev_look_line {s l p : Int} {line : List Int} (h : okLd s l p) (hl : okLn s line) : g_look_line [.v (dL s l p), .v (dI line)] = .ok (.v .non) [.v (dL s l p), .v (dI line)] := by
  have h1 : (line.length : Int) ≤ 24 := by have := hl.1; omega
  simp [g_look_line, b_look_line, ev_look_loader h, ev_are_groups hl.2 (show line.length ≤ 1000 by have := hl.1; omega), h1]
theorem for_next {s l p room : Int} {rows : D} : ∀ (rs : List Row) (k : Nat) (x3 x4 x5 x6 : Option D),
    (∃ j, nextAt p room rs = some j ∧ ∃ e, forD m_next_of_0 lb_next_of_0 (((rs.map dR).zipIdx k).map fun q => D.tup [.int (q.2 : Nat), q.1]) [some (.v (dL s l p)), some (.v rows), some (.v (.int room)), x3.map .v, x4.map .v, x5.map .v, x6.map .v] = .ok (.ret (.w (.v (.int ((k + j : Nat) : Int))))) e) ∨
    (nextAt p room rs = none ∧ ∃ e, (forD m_next_of_0 lb_next_of_0 (((rs.map dR).zipIdx k).map fun q => D.tup [.int (q.2 : Nat), q.1]) [some (.v (dL s l p)), some (.v rows), some (.v (.int room)), x3.map .v, x4.map .v, x5.map .v, x6.map .v] = .ok (.ret (.w (.v .non))) e ∨ forD m_next_of_0 lb_next_of_0 (((rs.map dR).zipIdx k).map fun q => D.tup [.int (q.2 : Nat), q.1]) [some (.v (dL s l p)), some (.v rows), some (.v (.int room)), x3.map .v, x4.map .v, x5.map .v, x6.map .v] = .ok .next e))
  | [], k, x3, x4, x5, x6 => .inr ⟨rfl, _, .inr rfl⟩
  | r :: rs, k, x3, x4, x5, x6 => by
    by_cases h1 : r.2.1 ≤ room
    · refine .inl ⟨0, by simp [nextAt, h1], ?_⟩
      simp [forD, m_next_of_0, lb_next_of_0, dR, h1]
    · by_cases h2 : p ≤ r.2.2
      · refine .inr ⟨by simp [nextAt, h1, h2], ?_⟩
        simp [forD, m_next_of_0, lb_next_of_0, dR, dL, h1, h2, atI_of]
      · have st : ∀ ds, forD m_next_of_0 lb_next_of_0 (D.tup [.int (k : Nat), dR r] :: ds) [some (.v (dL s l p)), some (.v rows), some (.v (.int room)), x3.map .v, x4.map .v, x5.map .v, x6.map .v] = forD m_next_of_0 lb_next_of_0 ds [some (.v (dL s l p)), some (.v rows), some (.v (.int room)), some (.v (.int (k : Nat))), some (.v (.int r.1)), some (.v (.int r.2.1)), some (.v (.int r.2.2))] := by
          intro ds
          rw [forD]
          simp [m_next_of_0, lb_next_of_0, dR, dL, h1, h2, atI_of]
        simp only [List.map_cons, List.zipIdx_cons, st]
        rcases for_next (s := s) (l := l) (p := p) (room := room) (rows := rows) rs (k + 1) (some (.int (k : Nat))) (some (.int r.1)) (some (.int r.2.1)) (some (.int r.2.2)) with ⟨j, h3, e, h4⟩ | ⟨h3, h4⟩
        · refine .inl ⟨j + 1, by simp [nextAt, h1, h2, h3], e, ?_⟩
          refine h4.trans ?_
          congr 6
          omega
        · exact .inr ⟨by simp [nextAt, h1, h2, h3], h4⟩
def optD : Option Nat → D
  | none => .non
  | some j => .int (j : Nat)
theorem ev_next_of {s l p room : Int} (rows : List Row) (hl : 0 ≤ l) : g_next_of [.v (dL s l p), .v (.lst (rows.map dR)), .v (.int room)] = .ok (.v (optD (nextAt p room (rows.take (l + 1).toNat)))) [.v (dL s l p), .v (.lst (rows.map dR)), .v (.int room)] := by
  have hi : atI [D.int s, D.int l, D.int p] 1 = some (D.int l) := by simp [atI_of]
  have e1 : cutA (rows.map dR) none (some (l + 1)) = (rows.take (l + 1).toNat).map dR := by rw [cutA_hi (by omega), List.map_take]
  rcases for_next (s := s) (l := l) (p := p) (room := room) (rows := .lst (rows.map dR)) (rows.take (l + 1).toNat) 0 none none none none with ⟨j, h3, e, h4⟩ | ⟨h3, e, h4 | h4⟩
  all_goals
    simp only [dL, Option.map_none, List.map_take, Nat.zero_add] at h4
    simp [g_next_of, b_next_of, dL, hi, e1, pairs0, h3, optD]
    simp [h4]
theorem nextAt_lt {p room : Int} : ∀ {rs : List Row} {j : Nat}, nextAt p room rs = some j → j < rs.length
  | [], j, h => by cases h
  | r :: rs, j, h => by
    unfold nextAt at h
    by_cases h1 : r.2.1 ≤ room
    · rw [if_pos h1] at h; cases h; simp
    · rw [if_neg h1] at h
      by_cases h2 : p ≤ r.2.2
      · rw [if_pos h2] at h; cases h
      · rw [if_neg h2] at h
        obtain ⟨k, hk, rfl⟩ := Option.map_eq_some_iff.mp h
        have := nextAt_lt hk
        simp; omega
/-- a list that a name holds: one's own, or for good -/
def holds (b : Bool) (ds : List D) : W := if b then .l false ds else .v (.lst ds)
theorem body_loaded {s l p room : Int} (hl : 0 ≤ l) (b : Bool) (rows sit : List Row) (x4 : Option D) (h6 : rows.length ≤ 1000) (h7 : sit.length ≤ 1000) :
    lb_loaded_0 [some (.v (dL s l p)), some (holds b (rows.map dR)), some (.v (.int room)), some (.l false (sit.map dR)), x4.map .v, none, none, none] = match nextAt p room (rows.take (l + 1).toNat) with
      | none => .ok (.ret (.w (.v (.tup [.lst (sit.map dR), .lst (rows.map dR)])))) [some (.v (dL s l p)), some (.v (.lst (rows.map dR))), some (.v (.int room)), some (.v (.lst (sit.map dR))), some (.v .non), none, none, none]
      | some j => match rows[j]? with
        | none => .stuck
        | some r => .ok .next [some (.v (dL s l p)), some (.l false ((bump (rows.take j) ++ rows.drop (j + 1)).map dR)), some (.v (.int (room - r.2.1))), some (.l false ((sit ++ [r]).map dR)), some (.v (.int (j : Nat))), none, none, none] := by
  have hi : atI [D.int s, D.int l, D.int p] 1 = some (D.int l) := by simp [atI_of]
  cases hn : nextAt p room (rows.take (l + 1).toNat) with
  | none =>
    cases b <;> simp [lb_loaded_0, holds, ev_next_of _ hl, hn, optD]
  | some j =>
    have hj : j < rows.length := Nat.lt_of_lt_of_le (nextAt_lt hn) (by simp; omega)
    have hr : rows[j]? = some rows[j] := List.getElem?_eq_getElem hj
    have h8 : cutA (rows.map dR) none (some (j : Int)) = (rows.take j).map dR := by rw [cutA_hi (by omega), List.map_take]; rfl
    have h9 : cutA (rows.map dR) (some ((j : Int) + 1)) none = (rows.drop (j + 1)).map dR := by rw [cutA_lo (by omega), List.map_drop]; rfl
    have ha : atI (rows.map dR) (j : Int) = some (dR rows[j]) := by rw [atI_map, atI_of (by omega)]; simp [hr]
    have e5 : (bump (rows.take j)).length + (rows.drop (j + 1)).length ≤ 1000000 := by simp [bump]; omega
    have e6 : (rows.take j).length + (rows.drop (j + 1)).length ≤ 1000000 := by simp; omega
    have hz : sit.length < 1000000 := by omega
    have hlen : (rows.take j).length ≤ 1000000 := by simp; omega
    simp only [hr]
    cases b
    all_goals
      simp [-List.map_take, -List.map_drop, -List.length_take, -List.length_drop, lb_loaded_0, holds, ev_next_of _ hl, hn, optD, ha, h9, h8, dR, atI_of, hz]
      rw [comp_map (enc := dR) (ψ := fun r => dR (r.1, r.2.1, r.2.2 + 1)) (rows.take j) (fun x hx rest => by simp [compD, dR])]
      simp [-List.map_take, -List.map_drop, -List.length_take, -List.length_drop, hlen, h9, e6]
      simp [-List.map_take, -List.map_drop, bump, dR, List.map_map]
theorem loop_loaded {s l p : Int} (hl : 0 ≤ l) : ∀ (n : Nat) (room : Int) (b : Bool) (rows sit : List Row) (x4 : Option D), rows.length ≤ n → sit.length + rows.length ≤ 1000 →
    ∃ e, sWhile (tst (eD (.bl true))) lb_loaded_0 [some (.v (dL s l p)), some (holds b (rows.map dR)), some (.v (.int room)), some (.l false (sit.map dR)), x4.map .v, none, none, none] = .ok (.ret (.w (.v (.tup [.lst ((sit ++ (loadGo l p n room rows).1).map dR), .lst ((loadGo l p n room rows).2.map dR)])))) e
  | 0, room, b, rows, sit, x4, h, h2 => by
    have : rows = [] := List.eq_nil_of_length_eq_zero (by omega)
    subst this
    rw [sWhile_step]
    simp only [tst, eD, R.bind_ok, dat, datW, if_true]
    rw [body_loaded hl b [] sit x4 (by simp) (by simp at h2; omega)]
    simp [nextAt, loadGo]
  | n + 1, room, b, rows, sit, x4, h, h2 => by
    rw [sWhile_step]
    simp only [tst, eD, R.bind_ok, dat, datW, if_true]
    rw [body_loaded hl b rows sit x4 (by omega) (by omega), loadGo]
    cases hn : nextAt p room (rows.take (l + 1).toNat) with
    | none => simp
    | some j =>
      have hj : j < rows.length := Nat.lt_of_lt_of_le (nextAt_lt hn) (by simp; omega)
      have hr : rows[j]? = some rows[j] := List.getElem?_eq_getElem hj
      simp only [hr]
      have hlen : (bump (rows.take j) ++ rows.drop (j + 1)).length = rows.length - 1 := by simp [bump]; omega
      obtain ⟨e, he⟩ := loop_loaded hl n (room - rows[j].2.1) true (bump (rows.take j) ++ rows.drop (j + 1)) (sit ++ [rows[j]]) (some (.int (j : Nat))) (by omega) (by simp only [List.length_append, List.length_singleton] at hlen ⊢; omega)
      refine ⟨e, ?_⟩
      rw [R.bind_ok]
      refine he.trans ?_
      simp
theorem ev_loaded {s l p : Int} (hl : 0 ≤ l) (rows : List Row) (h : rows.length ≤ 1000) : g_loaded [.v (dL s l p), .v (.lst (rows.map dR))] = .ok (.v (.tup [.lst ((loadGo l p rows.length s rows).1.map dR), .lst ((loadGo l p rows.length s rows).2.map dR)])) [.v (dL s l p), .v (.lst (rows.map dR))] := by
  obtain ⟨e, he⟩ := loop_loaded (s := s) (p := p) hl rows.length s false rows [] none (Nat.le_refl _) (by simp; omega)
  simp only [holds, Option.map_none, List.map_nil, List.nil_append, if_false, Bool.false_eq_true] at he
  have hi : atI [D.int s, D.int l, D.int p] 0 = some (D.int s) := by simp [atI_of]
  simp only [dL] at he
  simp [g_loaded, b_loaded, dL, hi]
  simp [he]
theorem loadGo_len {l p : Int} : ∀ (n : Nat) (room : Int) (rows : List Row), (loadGo l p n room rows).1.length + (loadGo l p n room rows).2.length = rows.length
  | 0, room, rows => by simp [loadGo]
  | n + 1, room, rows => by
    rw [loadGo]
    cases hn : nextAt p room (rows.take (l + 1).toNat) with
    | none => simp
    | some j =>
      cases hr : rows[j]? with
      | none => simp [hr]
      | some r =>
        have hj2 : j < rows.length := (List.getElem?_eq_some_iff.mp hr).1
        have := loadGo_len (l := l) (p := p) n (room - r.2.1) (bump (rows.take j) ++ rows.drop (j + 1))
        simp [bump] at this
        simp [bump, hr]
        omega
theorem loadGo_first {s l p : Int} (hl : 0 ≤ l) (r : Row) (rs : List Row) (n : Nat) (h : r.2.1 ≤ s) : loadGo l p (n + 1) s (r :: rs) = (r :: (loadGo l p n (s - r.2.1) rs).1, (loadGo l p n (s - r.2.1) rs).2) := by
  rw [loadGo]
  obtain ⟨k, hk⟩ : ∃ k, (l + 1).toNat = k + 1 := ⟨l.toNat, by omega⟩
  rw [hk]
  simp [nextAt, h, bump]
theorem loadGo_lt {s l p : Int} (hl : 0 ≤ l) (r : Row) (rs : List Row) (n : Nat) (h : r.2.1 ≤ s) : (loadGo l p (n + 1) s (r :: rs)).2.length ≤ rs.length := by
  rw [loadGo_first hl r rs n h]
  have := loadGo_len (l := l) (p := p) n (s - r.2.1) rs
  show (loadGo l p n (s - r.2.1) rs).2.length ≤ _
  omega
theorem loadGo_mem {l p : Int} : ∀ (n : Nat) (room : Int) (rows : List Row) (q : Row), q ∈ (loadGo l p n room rows).1 ∨ q ∈ (loadGo l p n room rows).2 → ∃ r ∈ rows, r.1 = q.1 ∧ r.2.1 = q.2.1
  | 0, room, rows, q => fun h => by
    simp [loadGo] at h
    exact ⟨q, h, rfl, rfl⟩
  | n + 1, room, rows, q => by
    rw [loadGo]
    cases hn : nextAt p room (rows.take (l + 1).toNat) with
    | none => intro h; simp at h; exact ⟨q, h, rfl, rfl⟩
    | some j =>
      cases hr : rows[j]? with
      | none => intro h; simp [hr] at h; exact ⟨q, h, rfl, rfl⟩
      | some r =>
        intro h
        simp only [hr, List.mem_cons] at h
        have hr2 : r ∈ rows := List.mem_of_getElem? hr
        have key : ∀ q', (q' ∈ (loadGo l p n (room - r.2.1) (bump (rows.take j) ++ rows.drop (j + 1))).1 ∨ q' ∈ (loadGo l p n (room - r.2.1) (bump (rows.take j) ++ rows.drop (j + 1))).2) → ∃ r ∈ rows, r.1 = q'.1 ∧ r.2.1 = q'.2.1 := fun q' h' => by
          obtain ⟨r', h1, h2, h3⟩ := loadGo_mem n _ _ q' h'
          rcases List.mem_append.mp h1 with h1 | h1
          · obtain ⟨r2, h4, rfl⟩ := List.mem_map.mp h1
            exact ⟨r2, List.mem_of_mem_take h4, h2, h3⟩
          · exact ⟨r', List.mem_of_mem_drop h1, h2, h3⟩
        rcases h with (rfl | h) | h
        · exact ⟨_, hr2, rfl, rfl⟩
        · exact key q (.inl h)
        · exact key q (.inr h)
theorem gNe_nil {rows : List Row} : gNe [.lst (rows.map dR), .lst []] = some (.v (.bl (!decide (rows = [])))) := gNe_en (en_lst en_row) rows []
theorem body_all {s l p : Int} (hl : 0 ≤ l) (line : D) (b : Bool) (rows : List Row) (found : List (List Row)) (x6 : Option D) (hr : rows.length ≤ 1000) (hf : found.length < 1000000) : lb_all_loaded_0 [some (.v (dL s l p)), some (.v line), some (holds b (rows.map dR)), none, none, some (.l false (found.map fun sit => .lst (sit.map dR))), x6.map .v] = .ok .next [some (.v (dL s l p)), some (.v line), some (holds false ((loadGo l p rows.length s rows).2.map dR)), none, none, some (.l false ((found ++ [(loadGo l p rows.length s rows).1]).map fun sit => .lst (sit.map dR))), (some (.lst ((loadGo l p rows.length s rows).1.map dR))).map .v] := by
  cases b <;> simp [lb_all_loaded_0, holds, ev_loaded hl rows hr, hf]
theorem test_all {s l p : Int} (line : D) (b : Bool) (rows : List Row) (found : List (List Row)) (x6 : Option D) : (tst (opN gNe [(eVar 2), (dLst [])])) [some (.v (dL s l p)), some (.v line), some (holds b (rows.map dR)), none, none, some (.l false (found.map fun sit => .lst (sit.map dR))), x6.map .v] = .ok (!decide (rows = [])) [some (.v (dL s l p)), some (.v line), some (holds b (rows.map dR)), none, none, some (.l false (found.map fun sit => .lst (sit.map dR))), x6.map .v] := by
  cases b <;> simp [holds, gNe_nil]
theorem loop_all {s l p : Int} (hl : 0 ≤ l) (line : D) : ∀ (n : Nat) (b : Bool) (rows : List Row) (found : List (List Row)) (x6 : Option D), rows.length ≤ n → found.length + rows.length ≤ 1000 → (∀ r ∈ rows, r.2.1 ≤ s) →
    ∃ e rw, sWhile (tst (opN gNe [(eVar 2), (dLst [])])) lb_all_loaded_0 [some (.v (dL s l p)), some (.v line), some (holds b (rows.map dR)), none, none, some (.l false (found.map fun sit => .lst (sit.map dR))), x6.map .v] = .ok .next [some (.v (dL s l p)), some (.v line), rw, none, none, some (.l false ((found ++ allGo s l p n rows).map fun sit => .lst (sit.map dR))), e]
  | n, b, [], found, x6, h, h2, h3 => by
    have e0 : allGo s l p n [] = [] := by cases n <;> rfl
    rw [sWhile_step, e0]
    have := gNe_nil (rows := [])
    simp only [List.map_nil] at this
    cases b <;> simp [holds, this]
  | 0, b, r :: rs, found, x6, h, h2, h3 => by simp at h
  | n + 1, b, r :: rs, found, x6, h, h2, h3 => by
    have hs := h3 r (List.mem_cons_self ..)
    have h5 := loadGo_lt (p := p) hl r rs rs.length hs
    have hf : found.length < 1000000 := by simp at h2; omega
    rw [sWhile_step, test_all, R.bind_ok, if_pos (by simp), body_all hl line b (r :: rs) found x6 (by omega) hf, R.bind_ok]
    obtain ⟨e, rw', he⟩ := loop_all hl line n false (loadGo l p (r :: rs).length s (r :: rs)).2 (found ++ [(loadGo l p (r :: rs).length s (r :: rs)).1]) (some (.lst ((loadGo l p (r :: rs).length s (r :: rs)).1.map dR))) (by simp at h h5 ⊢; omega) (by simp at h2 h5 ⊢; omega) (fun q hq => by
      obtain ⟨r', h6, h7, h8⟩ := loadGo_mem _ _ _ q (.inr hq)
      rw [← h8]
      exact h3 r' h6)
    refine ⟨e, rw', he.trans ?_⟩
    rw [allGo, List.append_assoc]
    rfl
theorem ev_all_loaded {s l p : Int} {line : List Int} (hl : 0 ≤ l) (hn : line.length ≤ 1000) (h : ∀ x ∈ line, x ≤ s) : g_all_loaded [.v (dL s l p), .v (dI line)] = .ok (.l false ((allM s l p line).map fun sit => .lst (sit.map dR))) [.v (dL s l p), .v (dI line)] := by
  have hlen : (rows0 line).length = line.length := by simp [rows0]
  have h3 : ∀ r ∈ rows0 line, r.2.1 ≤ s := fun r hr => by
    obtain ⟨q, hq, rfl⟩ := List.mem_map.mp hr
    exact h _ (by obtain ⟨_, _, e⟩ := List.mem_zipIdx hq; simp at e; rw [e]; exact List.getElem_mem _)
  obtain ⟨e, rw', he⟩ := loop_all (p := p) hl (dI line) line.length true (rows0 line) [] none (by omega) (by simp; omega) h3
  have hp : pairs0 (line.map D.int) = line.zipIdx.map fun q => .tup [.int (q.2 : Nat), .int q.1] := by
    unfold pairs0
    rw [List.zipIdx_map, List.map_map]
    rfl
  simp only [holds, if_true, Option.map_none, List.map_nil, List.nil_append] at he
  simp [g_all_loaded, b_all_loaded, dI, hp]
  rw [comp_map (ψ := fun q => dR ((q.2 : Nat), q.1, 0)) line.zipIdx (fun x hx rest => by simp [compD, dR])]
  have e2 : line.zipIdx.map (fun q => dR ((q.2 : Nat), q.1, 0)) = (rows0 line).map dR := by simp [rows0]
  simp only [dI] at he
  simp [e2, he, show line.length ≤ 1000000 by omega]
  rfl
theorem allGo_len {s l p : Int} : ∀ (n : Nat) (rows : List Row), (allGo s l p n rows).length ≤ n ∧ ∀ sit ∈ allGo s l p n rows, sit.length ≤ rows.length
  | 0, rows => by simp [-List.map_map, -List.map_take, -List.map_drop, allGo]
  | n + 1, [] => by simp [-List.map_map, -List.map_take, -List.map_drop, allGo]
  | n + 1, r :: rs => by
    obtain ⟨h1, h2⟩ := allGo_len (s := s) (l := l) (p := p) n (loadGo l p (r :: rs).length s (r :: rs)).2
    have h3 := loadGo_len (l := l) (p := p) (r :: rs).length s (r :: rs)
    rw [allGo]
    refine ⟨by show (_ :: _).length ≤ _; rw [List.length_cons]; omega, fun sit h => ?_⟩
    rcases List.mem_cons.mp h with rfl | h
    · omega
    · have := h2 sit h; omega
theorem allM_len {s l p : Int} {line : List Int} : (allM s l p line).length ≤ line.length ∧ ∀ sit ∈ allM s l p line, sit.length ≤ line.length := by
  have h := allGo_len (s := s) (l := l) (p := p) line.length (rows0 line)
  have : (rows0 line).length = line.length := by simp [-List.map_map, -List.map_take, -List.map_drop, rows0]
  rw [this] at h
  exact h
theorem ev_all_chairs {s l p : Int} {line : List Int} (hl : 0 ≤ l) (hn : line.length ≤ 1000) (h : ∀ x ∈ line, x ≤ s) : g_all_chairs [.v (dL s l p), .v (dI line)] = .ok (.l false ((chairsM s l p line).map dI)) [.v (dL s l p), .v (dI line)] := by
  have h1 := allM_len (s := s) (l := l) (p := p) (line := line)
  simp [-List.map_map, -List.map_take, -List.map_drop, g_all_chairs, b_all_chairs, ev_all_loaded hl hn h]
  rw [comp_map (ψ := fun sit : List Row => dI (sortI (sit.map (·.1)))) (allM s l p line) (fun sit hx rest => by
    have h2 := h1.2 sit hx
    rw [compD]
    simp [-List.map_map, -List.map_take, -List.map_drop]
    rw [comp_map (ψ := fun r => D.int r.1) sit (fun r hr rest => by simp [-List.map_map, -List.map_take, -List.map_drop, compD, dR, atI_of])]
    rw [show sit.map (fun r => D.int r.1) = (sit.map (·.1)).map D.int by rw [List.map_map]; rfl]
    simp [-List.map_map, -List.map_take, -List.map_drop, gSortI, show sit.length ≤ 1000000 by omega, dI])]
  simp [show (allM s l p line).length ≤ 1000000 by omega, chairsM, List.map_map]
theorem ev_chairs {s l p : Int} {line : List Int} (h : okLd s l p) (hl : okLn s line) : g_chairs [.v (dL s l p), .v (dI line)] = .ok (.l false ((chairsM s l p line).map dI)) [.v (dL s l p), .v (dI line)] := by
  simp [-List.map_map, -List.map_take, -List.map_drop, g_chairs, b_chairs, ev_look_line h hl, ev_all_chairs h.2.1.1 (show line.length ≤ 1000 by have := hl.1; omega) (fun x hx => (hl.2 x hx).2)]
/-! chair_of -/
theorem memD_ints (x : Int) (c : List Int) : memD (.int x) (dI c) = some (decide (x ∈ c)) := by
  have e : (c.map D.int).all flatD = true := by rw [List.all_eq_true]; intro d hd; obtain ⟨i, _, rfl⟩ := List.mem_map.mp hd; rfl
  show (if (flatD (.int x) && (c.map D.int).all flatD) = true then _ else _) = _
  rw [e]
  show some ((c.map D.int).any fun z => deq z (.int x)) = _
  congr 1
  induction c with
  | nil => rfl
  | cons y c ih =>
    rw [List.map_cons, List.any_cons, ih, deq_int]
    · by_cases h : y = x
      · simp [-List.map_map, -List.map_take, -List.map_drop, h]
      · simp [-List.map_map, -List.map_take, -List.map_drop, h, Ne.symm h, List.mem_cons, show ¬ x = y from fun z => h z.symm]
    · simp [-List.map_map, -List.map_take, -List.map_drop] at e ⊢; exact e.2
theorem idxD_bl : ∀ (bs : List Bool), idxD (.bl true) (bs.map D.bl) = bs.findIdx? (fun b => b)
  | [] => rfl
  | b :: bs => by
    rw [List.map_cons, idxD, idxD_bl bs, List.findIdx?_cons, deq_bl]
    cases b <;> simp [-List.map_map, -List.map_take, -List.map_drop]
def chairOfM (s l p : Int) (line : List Int) (x : Int) : Option Nat := (chairsM s l p line).findIdx? fun c => decide (x ∈ c)
/-! the town, draws -/
def TownOk (ns : List Int) (k : Nat) (town : List D) : Prop := ∃ xs : List Int, town = .int (k : Int) :: xs.map D.int ∧ xs.length = ns.length
theorem ev_law_town (ns : List Int) (h : ns.length ≤ 63) : ∃ town, g_law_town [.v (.scr ns)] = .ok (.l false town) [.v (.scr ns)] ∧ TownOk ns 0 town := by
  refine ⟨_, ?_, ns, rfl, rfl⟩
  have : 1 + ns.length ≤ 1000000 := by omega
  simp [-List.map_map, -List.map_take, -List.map_drop, g_law_town, b_law_town, this]
theorem ixN_of {n : Nat} {i : Int} (h : 0 ≤ i) (h2 : i < n) : ixN n i = some i.toNat := by
  unfold ixN; rw [if_pos h, if_pos h2]
theorem ev_draw {ns : List Int} {k : Nat} {town : List D} {m : Int} (ht : TownOk ns k town) (hk : k < 2 ^ 40) (hm : 0 < m) (hm2 : m < 1073741824) :
    ∃ v town', g_law_draw [.v (.scr ns), .l true town, .v (.int m)] = .ok (.v (.int v)) [.v (.scr ns), .l true town', .v (.int m)] ∧ (0 ≤ v ∧ v < m) ∧ TownOk ns (k + 1) town' := by
  obtain ⟨xs, rfl, hx⟩ := ht
  have i0 : ∀ n : Nat, ixN (n + 1) 0 = some 0 := fun n => ixN_of (by omega) (by omega)
  have a0 : ∀ (d : D) (ds : List D), atI (d :: ds) 0 = some d := fun d ds => by rw [atI_of (by omega)]; rfl
  have k1 : ((k : Int) + 1).natAbs < 2 ^ 64 := by omega
  by_cases h0 : ns = []
  · subst h0
    refine ⟨(k + 1) * (k + 1) * 7 / 3 % m, .int (k + 1) :: xs.map D.int, ?_, ⟨Int.emod_nonneg _ (by omega), Int.emod_lt_of_pos _ hm⟩, xs, by simp, hx⟩
    simp [-List.map_map, -List.map_take, -List.map_drop, g_law_draw, b_law_draw, a0, i0, gMul, k1, hm]
  · have hl : 0 < ns.length := List.length_pos_iff.mpr h0
    have b0 : 0 ≤ ((k : Int) + 1) % (ns.length : Int) := Int.emod_nonneg _ (by omega)
    have b1 : ((k : Int) + 1) % (ns.length : Int) < ns.length := Int.emod_lt_of_pos _ (by omega)
    generalize ha : ((k : Int) + 1) % (ns.length : Int) = a at b0 b1
    have hk2 : a.toNat < ns.length := by omega
    have e1 : atI ns a = some ns[a.toNat] := by rw [atI_of b0, List.getElem?_eq_getElem hk2]
    have e2 : atI (D.int ((k : Int) + 1) :: xs.map D.int) (1 + a) = some (D.int (xs[a.toNat]'(by omega))) := by
      rw [atI_of (by omega), show (1 + a).toNat = a.toNat + 1 by omega, List.getElem?_cons_succ, List.getElem?_map, List.getElem?_eq_getElem (by omega)]
      rfl
    have hl2 : (0 : Int) < (ns.length : Int) := by omega
    generalize hx2 : xs[a.toNat]'(by omega) = left at e2
    generalize ns[a.toNat] = sa at e1
    have e3 : ixN (xs.length + 1) (1 + a) = some (a.toNat + 1) := by
      rw [ixN_of (by omega) (by omega)]
      congr 1
      omega
    have p1 : (0 : Int) ≤ 18 ∧ (18 : Int) ≤ 1000 ∧ (10 : Int).natAbs < 2 ^ 64 := by decide
    by_cases c : 1000000000000000000 ≤ sa ∧ 0 < left
    · refine ⟨left % m, .int ((k : Int) + 1) :: (xs.set a.toNat (left / m)).map D.int, ?_, ⟨Int.emod_nonneg _ (by omega), Int.emod_lt_of_pos _ hm⟩, xs.set a.toNat (left / m), by simp [-List.map_map, -List.map_take, -List.map_drop, List.map_set], by simp [-List.map_map, -List.map_take, -List.map_drop, hx]⟩
      simp [-List.map_map, -List.map_take, -List.map_drop, g_law_draw, b_law_draw, a0, i0, hl, hl2, ha, e1, e2, e3, h0, gPow, p1, c.1, c.2, hm, hm2, List.map_set]
    · have n0 : 0 ≤ (sa + 104729 * ((k : Int) + 1)) % 4294967291 := Int.emod_nonneg _ (by decide)
      have n1 : (sa + 104729 * ((k : Int) + 1)) % 4294967291 < 4294967291 := Int.emod_lt_of_pos _ (by decide)
      have n2 : ((sa + 104729 * ((k : Int) + 1)) % 4294967291).natAbs < 2 ^ 64 := by omega
      have hc : ¬ (1000000000000000000 ≤ sa ∧ 0 < left) := c
      refine ⟨_, .int ((k : Int) + 1) :: xs.map D.int, ?_, ⟨Int.emod_nonneg ((((sa + 104729 * ((k : Int) + 1)) % 4294967291) ^ 5 % 4294967279 / 64 * 69621 + ((sa + 104729 * ((k : Int) + 1)) % 4294967291) ^ 5 % 4294967279) % 4294967231 / 8) (by omega), Int.emod_lt_of_pos _ hm⟩, xs, by simp, hx⟩
      by_cases c1 : 1000000000000000000 ≤ sa
      · have c2 : ¬ 0 < left := fun z => hc ⟨c1, z⟩
        simp [-List.map_map, -List.map_take, -List.map_drop, g_law_draw, b_law_draw, a0, i0, hl, hl2, ha, e1, e2, e3, h0, gPow, p1, c1, c2, hm, hm2, gMul, n2]
      · simp [-List.map_map, -List.map_take, -List.map_drop, g_law_draw, b_law_draw, a0, i0, hl, hl2, ha, e1, e2, e3, h0, gPow, p1, c1, hm, hm2, gMul, n2]
/-! ### rows stay right -/
theorem nextAt_pass {p room : Int} : ∀ {rs : List Row} {j : Nat}, nextAt p room rs = some j → ∀ r ∈ rs.take j, r.2.2 < p ∧ room < r.2.1
  | [], j, h => by cases h
  | r :: rs, j, h => by
    unfold nextAt at h
    by_cases h1 : r.2.1 ≤ room
    · rw [if_pos h1] at h; cases h; simp [-List.map_map, -List.map_take, -List.map_drop]
    · rw [if_neg h1] at h
      by_cases h2 : p ≤ r.2.2
      · rw [if_pos h2] at h; cases h
      · rw [if_neg h2] at h
        obtain ⟨k, hk, rfl⟩ := Option.map_eq_some_iff.mp h
        intro q hq
        rw [List.take_succ_cons] at hq
        rcases List.mem_cons.mp hq with rfl | hq
        · omega
        · exact nextAt_pass hk q hq
def okR (N : Nat) (s p : Int) (r : Row) : Prop := (0 ≤ r.1 ∧ r.1 < N) ∧ (1 ≤ r.2.1 ∧ r.2.1 ≤ s) ∧ (0 ≤ r.2.2 ∧ r.2.2 ≤ p)
theorem loadGo_ok {N : Nat} {s l p : Int} : ∀ (n : Nat) (room : Int) (rows : List Row), (∀ r ∈ rows, okR N s p r) → (∀ r ∈ (loadGo l p n room rows).1, okR N s p r) ∧ ∀ r ∈ (loadGo l p n room rows).2, okR N s p r
  | 0, room, rows, h => by simp only [loadGo]; exact ⟨by simp, h⟩
  | n + 1, room, rows, h => by
    rw [loadGo]
    cases hn : nextAt p room (rows.take (l + 1).toNat) with
    | none => exact ⟨by simp, h⟩
    | some j =>
      cases hr : rows[j]? with
      | none => simp only [hr]; exact ⟨by simp, h⟩
      | some r =>
        have hr2 : r ∈ rows := List.mem_of_getElem? hr
        have hj := nextAt_lt hn
        obtain ⟨i1, i2⟩ := loadGo_ok (l := l) n (room - r.2.1) (bump (rows.take j) ++ rows.drop (j + 1)) (fun q hq => by
          rcases List.mem_append.mp hq with hq | hq
          · obtain ⟨q2, h4, rfl⟩ := List.mem_map.mp hq
            have h5 := h q2 (List.mem_of_mem_take h4)
            have h6 := nextAt_pass hn q2 (by
              rw [List.take_take, Nat.min_eq_left (by simp [-List.map_map, -List.map_take, -List.map_drop] at hj; omega)]
              exact h4)
            exact ⟨h5.1, h5.2.1, by have := h5.2.2.1; show 0 ≤ q2.2.2 + 1; omega, by have := h6.1; show q2.2.2 + 1 ≤ p; omega⟩
          · exact h q (List.mem_of_mem_drop hq))
        simp only [hr]
        refine ⟨fun q hq => ?_, i2⟩
        rcases List.mem_cons.mp hq with rfl | hq
        · exact h _ hr2
        · exact i1 q hq
theorem allGo_ok {N : Nat} {s l p : Int} (hl : 0 ≤ l) : ∀ (n : Nat) (rows : List Row), rows.length ≤ n → (∀ r ∈ rows, okR N s p r) → (∀ r ∈ (allGo s l p n rows).flatten, okR N s p r) ∧ (allGo s l p n rows).flatten.length = rows.length
  | n, [], h, ho => by
    have : allGo s l p n [] = [] := by cases n <;> rfl
    rw [this]; simp [-List.map_map, -List.map_take, -List.map_drop]
  | 0, r :: rs, h, ho => by simp [-List.map_map, -List.map_take, -List.map_drop] at h
  | n + 1, r :: rs, h, ho => by
    have h1 := loadGo_ok (N := N) (s := s) (l := l) (r :: rs).length s (r :: rs) ho
    have h2 := loadGo_len (l := l) (p := p) (r :: rs).length s (r :: rs)
    have h3 := loadGo_lt (p := p) hl r rs rs.length (ho r (List.mem_cons_self ..)).2.1.2
    have h4 := allGo_ok hl n (loadGo l p (r :: rs).length s (r :: rs)).2 (by simp [-List.map_map, -List.map_take, -List.map_drop] at h h3 ⊢; omega) h1.2
    rw [allGo]
    refine ⟨fun q hq => ?_, ?_⟩
    · rw [List.flatten_cons] at hq
      rcases List.mem_append.mp hq with hq | hq
      · exact h1.1 q hq
      · exact h4.1 q hq
    · show ((loadGo l p (r :: rs).length s (r :: rs)).1 :: _).flatten.length = _
      rw [List.flatten_cons, List.length_append, h4.2, h2]
theorem rows0_ok {s p : Int} {line : List Int} (hp : 0 ≤ p) (h : ∀ x ∈ line, 1 ≤ x ∧ x ≤ s) : ∀ r ∈ rows0 line, okR line.length s p r := fun r hr => by
  obtain ⟨q, hq, rfl⟩ := List.mem_map.mp hr
  obtain ⟨_, h2, e⟩ := List.mem_zipIdx hq
  simp [-List.map_map, -List.map_take, -List.map_drop] at e h2
  exact ⟨⟨by show (0 : Int) ≤ (q.2 : Nat); omega, by show ((q.2 : Nat) : Int) < _; omega⟩, h _ (by rw [e]; exact List.getElem_mem _), Int.le_refl _, hp⟩
theorem allM_ok {s l p : Int} {line : List Int} (h : okLd s l p) (hl : okLn s line) : (∀ r ∈ (allM s l p line).flatten, okR line.length s p r) ∧ (allM s l p line).flatten.length = line.length := by
  have e : (rows0 line).length = line.length := by simp [-List.map_map, -List.map_take, -List.map_drop, rows0]
  have := allGo_ok (N := line.length) (s := s) (p := p) h.2.1.1 line.length (rows0 line) (by omega) (rows0_ok h.2.2.1 hl.2)
  rw [e] at this
  exact this
/-! ### running a law -/
def Runs (f : M Fl) (env : DEnv) (d : D) : Prop := ∃ e, f env = .ok (.ret (.w (.v d))) e
theorem law_ret {is : List Nat} {n nl : Nat} {f : M Fl} {ns : List Int} (hk : keeps is [.v (.scr ns)] = true) (hn : n = 1) (h : Runs f (some (.v (.scr ns)) :: List.replicate (nl - n) none) (.bl true)) : ∃ ws, mkFn is n nl f [.v (.scr ns)] = .ok (.v (.bl true)) ws := by
  obtain ⟨e, h⟩ := h
  refine ⟨[.v (.scr ns)], ?_⟩
  unfold mkFn
  rw [if_pos ⟨hk, hn.symm⟩]
  show (match f (some (.v (.scr ns)) :: List.replicate (nl - n) none) with | .ok (.ret u) env => _ | .ok .next env => _ | .raise c env => _ | _ => _) = _
  rw [h]
  rfl
theorem run_seq {a b : M Fl} {env e : DEnv} {d : D} (h : a env = .ok .next e) (h2 : Runs b e d) : Runs (sSeq a b) env d := by
  obtain ⟨e2, h2⟩ := h2
  refine ⟨e2, ?_⟩
  rw [sSeq_ap, h]
  exact h2
def rangeI (lo hi : Int) : List Int := (List.range (hi - lo).toNat).map fun i => lo + (i : Nat)
theorem rangeD_eq (lo hi : Int) : rangeD lo hi = (rangeI lo hi).map D.int := by
  unfold rangeD rangeI; rw [List.map_map]; rfl
theorem en_dI : En dI 2 := en_tup en_int
theorem rep_dI (x : Int) (n : Nat) : D.tup (List.replicate n [D.int x]).flatten = dI (List.replicate n x) := by
  unfold dI
  congr 1
  induction n with
  | zero => rfl
  | succ n ih => rw [List.replicate_succ, List.flatten_cons, ih, List.replicate_succ]; rfl
theorem run_ret {f : M U} {env e : DEnv} {d : D} (h : f env = .ok (.w (.v d)) e) : Runs (sRet f) env d := ⟨e, by rw [sRet_ap, h]; rfl⟩
end Lw

namespace Lw
open PySem PySem.Spec PyProof.Rows L2 DL
/-! ### texts, plainly -/
open PySem.Builtin.Str
abbrev cl (x : Str) : List Nat := x.cps.toList
def sg (c : Nat) : Str := ⟨#[c]⟩
theorem str_ext {x y : Str} (h : cl x = cl y) : x = y := by
  obtain ⟨⟨a⟩⟩ := x
  obtain ⟨⟨b⟩⟩ := y
  cases (show a = b from h)
  rfl
theorem cl_app (x y : Str) : cl (x ++ y) = cl x ++ cl y := Array.toList_append
theorem cl_len (x : Str) : (cl x).length = x.length := Array.length_toList
/-- words, each free of c, glued by c: uniquely so -/
theorem cut_uniq {c : Nat} : ∀ {a b r s : List Nat}, c ∉ a → c ∉ b → a ++ c :: r = b ++ c :: s → a = b ∧ r = s
  | [], [], r, s, _, _, h => ⟨rfl, (List.cons.inj h).2⟩
  | [], y :: b, r, s, _, hb, h => absurd (by rw [(List.cons.inj h).1]; exact List.mem_cons_self ..) hb
  | x :: a, [], r, s, ha, _, h => absurd (by rw [← (List.cons.inj h).1]; exact List.mem_cons_self ..) ha
  | x :: a, y :: b, r, s, ha, hb, h => by
    obtain ⟨h1, h2⟩ := List.cons.inj h
    obtain ⟨h3, h4⟩ := cut_uniq (fun z => ha (List.mem_cons_of_mem _ z)) (fun z => hb (List.mem_cons_of_mem _ z)) h2
    exact ⟨by rw [h1, h3], h4⟩
theorem cut_none {c : Nat} {a b s : List Nat} (ha : c ∉ a) (h : a = b ++ c :: s) : False := ha (by rw [h]; simp)
theorem join_cons2 (sep x y : Str) (r : List Str) : Str.join sep (x :: y :: r) = x ++ sep ++ Str.join sep (y :: r) := rfl
theorem cl_join2 (c : Nat) (x y : Str) (r : List Str) : cl (Str.join (sg c) (x :: y :: r)) = cl x ++ c :: cl (Str.join (sg c) (y :: r)) := by
  rw [join_cons2, cl_app, cl_app]
  simp [sg, cl]
theorem join_uniq {c : Nat} : ∀ {xs ys : List Str}, xs ≠ [] → ys ≠ [] → (∀ x ∈ xs, c ∉ cl x) → (∀ y ∈ ys, c ∉ cl y) → Str.join (sg c) xs = Str.join (sg c) ys → xs = ys
  | [], _, h, _, _, _, _ => absurd rfl h
  | _, [], _, h, _, _, _ => absurd rfl h
  | [x], [y], _, _, _, _, h => by rw [show x = y from h]
  | [x], y :: z :: s, _, _, hx, _, h => (cut_none (hx x (by simp)) ((congrArg cl h).trans (cl_join2 c y z s))).elim
  | x :: z :: r, [y], _, _, _, hy, h => (cut_none (hy y (by simp)) ((congrArg cl h).symm.trans (cl_join2 c x z r))).elim
  | x :: z :: r, y :: w :: s, _, _, hx, hy, h => by
    have e := congrArg cl h
    rw [cl_join2, cl_join2] at e
    obtain ⟨e1, e2⟩ := cut_uniq (hx x (by simp)) (hy y (by simp)) e
    have := join_uniq (c := c) (xs := z :: r) (ys := w :: s) (by simp) (by simp) (fun a ha => hx a (List.mem_cons_of_mem _ ha)) (fun a ha => hy a (List.mem_cons_of_mem _ ha)) (str_ext e2)
    rw [str_ext e1, this]
theorem split_ne (x y : Str) : Txt.split x y ≠ [] := fun z => by
  have := split_pos x y
  rw [z] at this
  simp at this
theorem split_fr (x : Str) (c : Nat) : ∀ w ∈ Txt.split x (sg c), c ∉ cl w := StrLaws.split_free x c
theorem join_spl (x y : Str) : Txt.join y (Txt.split x y) = x := (StrLaws.glued_eq_join _ _).trans (StrLaws.join_split x y)
theorem spl_join {c : Nat} {ws : List Str} (h0 : ws ≠ []) (h : ∀ w ∈ ws, c ∉ cl w) : Txt.split (Txt.join (sg c) ws) (sg c) = ws :=
  join_uniq (split_ne _ _) h0 (split_fr _ _) h ((StrLaws.join_split _ _).trans (StrLaws.glued_eq_join _ _))
/-- x.partition(c) -/
theorem part_cases (x : Str) (c : Nat) : (Txt.partition x (sg c) = (x, Str.empty, Str.empty) ∧ c ∉ cl x) ∨ ∃ a r, Txt.partition x (sg c) = (a, sg c, r) ∧ x = a ++ sg c ++ r ∧ c ∉ cl a := by
  rcases partition_whole x (sg c) with ⟨h1, h2⟩ | ⟨i, h1, h2, h3⟩
  · refine .inl ⟨h1, fun z => ?_⟩
    obtain ⟨i, hi⟩ := (mem_iff_at x c).mp z
    exact h2 i hi
  · have hs := StrLaws.partition_sum x (sg c)
    rw [h1] at hs
    refine .inr ⟨_, _, h1, hs.symm, fun z => ?_⟩
    rw [show cl (strSub x 0 i) = (cl x).take i from (StrLaws.strSub_toList x 0 i).trans (by simp)] at z
    obtain ⟨k, hk⟩ := List.mem_iff_getElem?.mp z
    rw [List.getElem?_take] at hk
    split at hk
    · rename_i hlt
      exact h3 k hlt ((StrLaws.subAt_one x c k).mpr hk)
    · cases hk
theorem part_of {c : Nat} {a r : Str} (h : c ∉ cl a) : Txt.partition (a ++ sg c ++ r) (sg c) = (a, sg c, r) := by
  have e0 : cl (a ++ sg c ++ r) = cl a ++ c :: cl r := by rw [cl_app, cl_app]; simp [sg, cl]
  rcases part_cases (a ++ sg c ++ r) c with ⟨_, h2⟩ | ⟨a', r', h1, h2, h3⟩
  · exact absurd (by rw [e0]; simp) h2
  · have e := congrArg cl h2
    rw [e0, cl_app, cl_app] at e
    have e : cl a ++ c :: cl r = cl a' ++ c :: cl r' := by simpa [sg, cl] using e
    obtain ⟨e1, e2⟩ := cut_uniq h h3 e
    rw [h1, str_ext e1, str_ext e2]
/-! figures -/
def fig (i : Int) : Str := sg (48 + i.toNat)
def numIn (w : Str) : Int := if w.length = 1 ∧ 48 ≤ (cl w).headD 0 ∧ (cl w).headD 0 ≤ 57 then (((cl w).headD 0 - 48 : Nat) : Int) else -1
theorem int_cases {P : Int → Prop} (h : P 0 ∧ P 1 ∧ P 2 ∧ P 3 ∧ P 4 ∧ P 5 ∧ P 6 ∧ P 7 ∧ P 8 ∧ P 9) {i : Int} (h0 : 0 ≤ i) (h1 : i ≤ 9) : P i := by
  obtain ⟨a0, a1, a2, a3, a4, a5, a6, a7, a8, a9⟩ := h
  rcases (by omega : i = 0 ∨ i = 1 ∨ i = 2 ∨ i = 3 ∨ i = 4 ∨ i = 5 ∨ i = 6 ∨ i = 7 ∨ i = 8 ∨ i = 9) with h | h | h | h | h | h | h | h | h | h <;> rw [h] <;> assumption
theorem toStr_fig {i : Int} (h0 : 0 ≤ i) (h1 : i ≤ 9) : (Str.ofString (toString i)) = fig i := int_cases (P := fun i => (Str.ofString (toString i)) = fig i) (by refine ⟨?_, ?_, ?_, ?_, ?_, ?_, ?_, ?_, ?_, ?_⟩ <;> kernel_rfl) h0 h1
theorem numIn_fig {i : Int} (h0 : 0 ≤ i) (h1 : i ≤ 9) : numIn (fig i) = i := int_cases (P := fun i => numIn (fig i) = i) (by refine ⟨?_, ?_, ?_, ?_, ?_, ?_, ?_, ?_, ?_, ?_⟩ <;> rfl) h0 h1
theorem intText_fig {i : Int} (h0 : 0 ≤ i) (h1 : i ≤ 9) : PySem.intText? (fig i) = some i := int_cases (P := fun i => PySem.intText? (fig i) = some i) (by refine ⟨?_, ?_, ?_, ?_, ?_, ?_, ?_, ?_, ?_, ?_⟩ <;> kernel_rfl) h0 h1
theorem numIn_le (w : Str) : -1 ≤ numIn w ∧ numIn w ≤ 9 := by
  unfold numIn
  split
  · omega
  · omega
theorem fig_numIn {w : Str} (h : 0 ≤ numIn w) : w = fig (numIn w) := by
  unfold numIn at h ⊢
  split at h
  · rename_i hc
    rw [if_pos hc]
    unfold fig sg
    have e : 48 + (((cl w).headD 0 - 48 : Nat) : Int).toNat = (cl w).headD 0 := by omega
    rw [e]
    exact str_one hc.1
  · omega
theorem log_small {i : Int} (h0 : 0 ≤ i) (h1 : i ≤ 9) : i.natAbs.log2 < 1920 := int_cases (P := fun i : Int => i.natAbs.log2 < 1920) (by decide) h0 h1
theorem fig_len (i : Int) : (fig i).length = 1 := rfl
theorem cl_fig (i : Int) : cl (fig i) = [48 + i.toNat] := rfl
/-! ### joined, parted -/
def minusS : Str := sg 45
def joinM (xs : List Int) (c : Nat) : Str := if xs = [] then minusS else Txt.join (sg c) (xs.map fig)
def partM (t : Str) (c : Nat) : List Int := if t = minusS then [] else (Txt.split t (sg c)).map numIn
def digs (xs : List Int) : Prop := ∀ x ∈ xs, 0 ≤ x ∧ x ≤ 9
theorem cl_join1 (c : Nat) : ∀ (xs : List Int), xs ≠ [] → ∃ r, cl (Txt.join (sg c) (xs.map fig)) = (48 + (xs.headD 0).toNat) :: r
  | [], h => absurd rfl h
  | [x], _ => ⟨[], by rw [show Txt.join (sg c) ([x].map fig) = fig x from StrLaws.glued_eq_join _ _]; rfl⟩
  | x :: y :: r, _ => by
    refine ⟨c :: cl (Str.join (sg c) ((y :: r).map fig)), ?_⟩
    rw [show Txt.join (sg c) ((x :: y :: r).map fig) = Str.join (sg c) (fig x :: fig y :: r.map fig) from StrLaws.glued_eq_join _ _, cl_join2]
    rfl
theorem joinM_ne {xs : List Int} {c : Nat} (h : xs ≠ []) : joinM xs c ≠ minusS := fun z => by
  unfold joinM at z
  rw [if_neg h] at z
  obtain ⟨r, hr⟩ := cl_join1 c xs h
  rw [z] at hr
  have hr : [45] = (48 + (xs.headD 0).toNat) :: r := hr
  simp at hr
  omega
theorem part_join {xs : List Int} {c : Nat} (hc : c < 48) (h : digs xs) : partM (joinM xs c) c = xs := by
  by_cases e : xs = []
  · subst e
    rfl
  · unfold partM
    rw [if_neg (joinM_ne e)]
    unfold joinM
    rw [if_neg e, spl_join (by simpa using e)]
    · rw [List.map_map]
      have : ∀ x ∈ xs, (numIn ∘ fig) x = id x := fun x hx => numIn_fig (h x hx).1 (h x hx).2
      rw [List.map_congr_left this, List.map_id]
    · intro w hw
      obtain ⟨x, hx, rfl⟩ := List.mem_map.mp hw
      rw [cl_fig]
      simp
      omega
theorem join_part {t : Str} {c : Nat} (h : digs (partM t c)) : joinM (partM t c) c = t := by
  unfold partM at h ⊢
  by_cases e : t = minusS
  · rw [if_pos e, e]
    rfl
  · rw [if_neg e] at h ⊢
    unfold joinM
    rw [if_neg (by simpa using split_ne t (sg c)), List.map_map]
    have : ∀ w ∈ Txt.split t (sg c), (fig ∘ numIn) w = id w := fun w hw => (fig_numIn (h _ (List.mem_map.mpr ⟨w, hw, rfl⟩)).1).symm
    rw [List.map_congr_left this, List.map_id, join_spl]
theorem joinM_fr {xs : List Int} {c k : Nat} (h : digs xs) (h1 : k < 48) (h2 : k ≠ 45) (h3 : k ≠ c) : k ∉ cl (joinM xs c) := by
  unfold joinM
  split
  · show k ∉ [45]
    simpa using h2
  · rename_i hne
    clear hne
    rw [show Txt.join (sg c) (xs.map fig) = Str.join (sg c) (xs.map fig) from StrLaws.glued_eq_join _ _]
    induction xs with
    | nil => show k ∉ []; simp
    | cons x r ih =>
      cases r with
      | nil =>
        show k ∉ [48 + x.toNat]
        simp
        omega
      | cons y r =>
        rw [List.map_cons, List.map_cons, cl_join2]
        have := ih (fun z hz => h z (List.mem_cons_of_mem _ hz))
        rw [List.map_cons] at this
        intro z
        rcases List.mem_append.mp z with z | z
        · have z : k ∈ [48 + x.toNat] := z
          simp at z
          omega
        · rcases List.mem_cons.mp z with z | z
          · exact h3 z
          · exact this z
theorem figs_len : ∀ xs : List Int, ((xs.map fig).map (·.length)).sum = xs.length
  | [] => rfl
  | x :: r => by
    rw [List.map_cons, List.map_cons, List.sum_cons, figs_len r, fig_len, List.length_cons]
    omega
theorem joinM_len {xs : List Int} {c : Nat} : (joinM xs c).length ≤ 2 * xs.length + 1 := by
  unfold joinM
  split
  · show 1 ≤ _
    omega
  · show (glued _ _).length ≤ _
    rw [size_glued, figs_len, List.length_map]
    show _ + (xs.length - 1) * 1 ≤ _
    omega
/-! ### what the text functions tell -/
theorem lit_minus : Str.ofString "-" = minusS := by kernel_rfl
theorem lit_sp : Str.ofString " " = sg 32 := by kernel_rfl
theorem lit_plus : Str.ofString "+" = sg 43 := by kernel_rfl
theorem lit_slash : Str.ofString "/" = sg 47 := by kernel_rfl
theorem cl_figs : (Str.ofString "0123456789").cps.toList = [48, 49, 50, 51, 52, 53, 54, 55, 56, 57] := by kernel_rfl
theorem asc_sg {c : Nat} (h : c < 128) : asc (sg c) := fun k hk => by
  have : k ∈ [c] := hk
  simp at this
  omega
theorem asc_app {x y : Str} (hx : asc x) (hy : asc y) : asc (x ++ y) := fun k hk => by
  rw [show (x ++ y).cps.toList = cl x ++ cl y from cl_app x y] at hk
  rcases List.mem_append.mp hk with h | h
  · exact hx k h
  · exact hy k h
theorem asc_fig {i : Int} (h : i ≤ 9) : asc (fig i) := asc_sg (by omega)
theorem asc_join {c : Nat} (hc : c < 128) : ∀ {ws : List Str}, (∀ w ∈ ws, asc w) → asc (Txt.join (sg c) ws) := fun {ws} h => by
  rw [show Txt.join (sg c) ws = Str.join (sg c) ws from StrLaws.glued_eq_join _ _]
  induction ws with
  | nil => intro k hk; cases hk
  | cons w r ih =>
    cases r with
    | nil => exact h w (by simp)
    | cons y r => exact asc_app (asc_app (h w (by simp)) (asc_sg hc)) (ih fun z hz => h z (List.mem_cons_of_mem _ hz))
theorem asc_joinM {xs : List Int} {c : Nat} (hc : c < 128) (h : digs xs) : asc (joinM xs c) := by
  unfold joinM
  split
  · exact asc_sg (by decide)
  · refine asc_join hc fun w hw => ?_
    obtain ⟨x, hx, rfl⟩ := List.mem_map.mp hw
    exact asc_fig (h x hx).2
theorem mem_join {c : Nat} : ∀ {ws : List Str} {w : Str}, w ∈ ws → ∀ k ∈ cl w, k ∈ cl (Str.join (sg c) ws)
  | [], _, h, _, _ => by cases h
  | [x], w, h, k, hk => by
    rw [show w = x by simpa using h] at hk
    exact hk
  | x :: y :: r, w, h, k, hk => by
    rw [cl_join2]
    rcases List.mem_cons.mp h with e | h
    · rw [← e]
      exact List.mem_append_left _ hk
    · exact List.mem_append_right _ (List.mem_cons_of_mem _ (mem_join h k hk))
theorem asc_split {t : Str} {c : Nat} (h : asc t) : ∀ w ∈ Txt.split t (sg c), asc w := fun w hw k hk => by
  refine h k ?_
  have e := StrLaws.join_split t (sg c)
  rw [← e]
  exact mem_join hw k hk
theorem asc_part1 {t : Str} {c : Nat} (h : asc t) : asc (Txt.partition t (sg c)).1 ∧ asc (Txt.partition t (sg c)).2.2 := by
  rcases part_cases t c with ⟨e, _⟩ | ⟨a, r, e, e2, _⟩
  · rw [e]
    exact ⟨h, fun k hk => by cases hk⟩
  · rw [e]
    rw [e2] at h
    refine ⟨fun k hk => h k ?_, fun k hk => h k ?_⟩
    · rw [show (a ++ sg c ++ r).cps.toList = cl (a ++ sg c ++ r) from rfl, cl_app, cl_app]
      simp [cl]
      exact .inl (by simpa using hk)
    · rw [show (a ++ sg c ++ r).cps.toList = cl (a ++ sg c ++ r) from rfl, cl_app, cl_app]
      simp [cl]
      exact .inr (.inr (by simpa using hk))
theorem len_le_mem {w : Str} {ws : List Str} (c : Nat) (h : w ∈ ws) : w.length ≤ (Str.join (sg c) ws).length := by
  induction ws with
  | nil => cases h
  | cons x r ih =>
    cases r with
    | nil =>
      rw [show w = x by simpa using h]
      exact Nat.le_refl _
    | cons y r =>
      rw [join_cons2, Str.length_append, Str.length_append]
      rcases List.mem_cons.mp h with e | h
      · rw [e]; omega
      · have := ih h
        omega
theorem split_len1 {t w : Str} {c : Nat} (h : w ∈ Txt.split t (sg c)) : w.length ≤ t.length := by
  have := len_le_mem c h
  rw [StrLaws.join_split] at this
  exact this
theorem figs_mem (c : Nat) : (c ∈ (Str.ofString "0123456789").cps.toList) ↔ 48 ≤ c ∧ c ≤ 57 := by
  rw [cl_figs]
  simp
  omega
theorem ev_number_in {w : Str} (hl : w.length ≤ 1000000) : g_number_in [.v (.str w)] = .ok (.v (.int (numIn w))) [.v (.str w)] := by
  rw [g_number_in, mkFn_ap, b_number_in]
  by_cases h1 : w.length = 1
  · have hg : gInS [.str w, .str (Str.ofString "0123456789")] = some (.v (.bl (decide (48 ≤ (cl w).headD 0 ∧ (cl w).headD 0 ≤ 57)))) := by
      rw [gInS_c, if_pos h1]
      simp only [figs_mem]
    by_cases h2 : 48 ≤ (cl w).headD 0 ∧ (cl w).headD 0 ≤ 57
    · have hn : 0 ≤ numIn w := by unfold numIn; rw [if_pos ⟨h1, h2⟩]; omega
      have hi : PySem.intText? w = some (numIn w) := by
        have := intText_fig hn (numIn_le w).2
        rw [← fig_numIn hn] at this
        exact this
      rw [decide_eq_true h2] at hg
      simp [h1, hg, hi]
    · rw [decide_eq_false h2] at hg
      have hn : numIn w = -1 := by unfold numIn; rw [if_neg (fun z => h2 z.2)]
      simp [h1, hg, hn]
  · have hn : numIn w = -1 := by unfold numIn; rw [if_neg (fun z => h1 z.1)]
    have h1' : ¬ (w.length : Int) = 1 := by omega
    simp [hl, h1', hn]
theorem repr_fig {i : Int} (h0 : 0 ≤ i) (h1 : i ≤ 9) : Str.ofString i.repr = fig i := toStr_fig h0 h1
theorem gJoin_figs {xs : List Int} {c : Nat} (hx : xs ≠ []) (hl : xs.length ≤ 1000) : gJoin [.str (sg c), .lst ((xs.map fig).map D.str)] = some (.v (.str (joinM xs c))) := by
  rw [gJoin_strs, if_pos]
  · unfold joinM
    rw [if_neg hx]
  · rw [figs_len, List.length_map]
    show _ + _ * 1 ≤ _
    omega
theorem comp_figs {xs : List Int} {d e : D} (h : digs xs) : compD [2] (mName 2) tYesD (opN gStrI [(eVar 2)]) (xs.map D.int) [some (.v d), some (.v e), none] = .ok ((xs.map fig).map D.str) [some (.v d), some (.v e), none] := by
  have := comp_map (vs := [2]) (m := mName 2) (t := tYesD) (f := opN gStrI [(eVar 2)]) (E0 := [some (.v d), some (.v e), none]) (enc := D.int) (ψ := fun x => D.str (fig x)) xs (fun x hx rest => by
    rw [compD]
    simp [log_small (h x hx).1 (h x hx).2, repr_fig (h x hx).1 (h x hx).2])
  rw [this, List.map_map]
  rfl
theorem ev_joined {xs : List Int} {c : Nat} {d : D} (hd : d = dI xs ∨ d = .lst (xs.map D.int)) (h : digs xs) (hl : xs.length ≤ 1000) : g_joined [.v d, .v (.str (sg c))] = .ok (.v (.str (joinM xs c))) [.v d, .v (.str (sg c))] := by
  have h6 : xs.length ≤ 1000000 := by omega
  rw [g_joined, mkFn_ap, b_joined]
  by_cases hx : xs = []
  · subst hx
    rcases hd with rfl | rfl <;> simp [dI, lit_minus, joinM]
  · have hp : 0 < xs.length := List.length_pos_iff.mpr hx
    have hg := gJoin_figs (c := c) hx hl
    rcases hd with rfl | rfl
    · have hc := comp_figs (d := dI xs) (e := .str (sg c)) h
      simp [dI, -List.map_map] at hc hg ⊢
      simp [-List.map_map, hp, hc, hg, h6]
    · have hc := comp_figs (d := .lst (xs.map D.int)) (e := .str (sg c)) h
      simp [-List.map_map] at hc hg ⊢
      simp [-List.map_map, hp, hc, hg, h6]
theorem ev_law_sizes {xs : List Int} {c : Nat} {d : D} (hd : d = dI xs ∨ d = .lst (xs.map D.int)) (h : digs xs) (hl : xs.length ≤ 1000) : g_law_sizes [.v d, .v (.str (sg c))] = .ok (.v (.str (joinM xs c))) [.v d, .v (.str (sg c))] := ev_joined hd h hl
theorem gSplit_of {t : Str} {c : Nat} (h : t.length ≤ 1000000) : gSplit [.str t, .str (sg c)] = some (.l false ((Txt.split t (sg c)).map D.str)) := by
  rw [gSplit_c, if_pos ⟨rfl, h⟩]
theorem split_few (t : Str) (c : Nat) : (Txt.split t (sg c)).length ≤ t.length + 2 := split_le t (sg c)
theorem ev_parted {t : Str} {c : Nat} (ht : asc t) (hl : t.length ≤ 1000) : g_parted [.v (.str t), .v (.str (sg c))] = .ok (.v (dI (partM t c))) [.v (.str t), .v (.str (sg c))] := by
  rw [g_parted, mkFn_ap, b_parted]
  have hn := gNe_str ht (show asc (Str.ofString "-") by rw [lit_minus]; exact asc_sg (by decide))
  rw [lit_minus] at hn
  by_cases e : t = minusS
  · subst e
    rw [decide_eq_true rfl] at hn
    simp [lit_minus, hn, partM, dI]
  · rw [decide_eq_false e] at hn
    have hs := gSplit_of (c := c) (show t.length ≤ 1000000 by omega)
    have hc := comp_map (vs := [2]) (m := mName 2) (t := tYesD) (f := callF g_number_in [none] [(eVar 2)]) (E0 := [some (.v (.str t)), some (.v (.str (sg c))), none]) (enc := D.str) (ψ := fun w => D.int (numIn w)) (Txt.split t (sg c)) (fun w hw rest => by
      rw [compD]
      simp [ev_number_in (show w.length ≤ 1000000 from Nat.le_trans (split_len1 hw) (by omega))])
    have h6 : (Txt.split t (sg c)).length ≤ 1000000 := Nat.le_trans (split_few t c) (by omega)
    simp [lit_minus, hn, hs, hc, h6, partM, e, dI, -List.map_map, -gSplit_c]
    rw [List.map_map]
    rfl
end Lw

namespace Lw
open PySem PySem.Spec PyProof.Rows L2 DL
/-! ### anything at all, looked at -/
@[simp ↓] theorem callV_ap (i : Nat) (tab : List (Str × (List W → RF))) (ms : List (Option Nat)) (fs : List (M U)) (env : DEnv) : callV i tab ms fs env = (match env[i]? with
  | some (some (.v (.nam false c))) => (match tab.lookup c with
    | some g => callF g ms fs env
    | none => .stuck)
  | _ => .stuck : R U) := Eq.trans rfl rfl
def okD : D → Bool
  | .nam _ _ => false
  | .ty _ => false
  | .scr _ => false
  | .dic _ _ => false
  | _ => true
def whB (d : D) (a b : Int) : Bool := match d with
  | .int i => decide (a ≤ i ∧ i ≤ b)
  | _ => false
theorem ev_wh {d : D} {a b : Int} (h : okD d = true) : g_is_whole [.v d, .v (.int a), .v (.int b)] = .ok (.v (.bl (whB d a b))) [.v d, .v (.int a), .v (.int b)] := by
  cases d with
  | int i => exact ev_is_whole i a b
  | nam x c => cases h
  | ty n => cases h
  | scr n => cases h
  | dic n m => cases h
  | _ =>
    rw [g_is_whole, mkFn_ap, b_is_whole]
    simp [isTy, whB]
theorem ld3 {x y z : D} (hx : okD x = true) (hy : okD y = true) (hz : okD z = true) : g_is_loader [.v (.tup [x, y, z])] = .ok (.v (.bl (whB x 1 6 && (whB y 0 3 && whB z 0 3)))) [.v (.tup [x, y, z])] := by
  have a0 : atI [x, y, z] 0 = some x := rfl
  have a1 : atI [x, y, z] 1 = some y := rfl
  have a2 : atI [x, y, z] 2 = some z := rfl
  have g3 : gNe [.int 3, .int 3] = some (.v (.bl false)) := (gNe_en en_int 3 3).trans (by simp)
  rw [g_is_loader, mkFn_ap, b_is_loader]
  cases e1 : whB x 1 6 <;> cases e2 : whB y 0 3 <;> simp [isTy, g3, a0, a1, a2, ev_wh hx, ev_wh hy, ev_wh hz, e1, e2]
theorem ld_len {ds : List D} (h : ds.length ≠ 3) : g_is_loader [.v (.tup ds)] = .ok (.v (.bl false)) [.v (.tup ds)] := by
  have g3 : gNe [.int (ds.length : Nat), .int 3] = some (.v (.bl true)) := (gNe_en en_int _ 3).trans (by simp; omega)
  rw [g_is_loader, mkFn_ap, b_is_loader]
  simp [isTy, g3]
theorem ld_non : g_is_loader [.v .non] = .ok (.v (.bl false)) [.v .non] := by
  rw [g_is_loader, mkFn_ap, b_is_loader]
  simp [isTy]
theorem ld_int {i : Int} : g_is_loader [.v (.int i)] = .ok (.v (.bl false)) [.v (.int i)] := by
  rw [g_is_loader, mkFn_ap, b_is_loader]
  simp [isTy]
theorem ld_lst {ds : List D} : g_is_loader [.v (.lst ds)] = .ok (.v (.bl false)) [.v (.lst ds)] := by
  rw [g_is_loader, mkFn_ap, b_is_loader]
  simp [isTy]
theorem look_bad {d : D} (h : g_is_loader [.v d] = .ok (.v (.bl false)) [.v d]) : g_look_loader [.v d] = .raise "BadLoader" [.v d] := by
  rw [g_look_loader, mkFn_ap, b_look_loader]
  simp [h]
theorem line_bad {d ln : D} (h : g_is_loader [.v d] = .ok (.v (.bl false)) [.v d]) : g_look_line [.v d, .v ln] = .raise "BadLoader" [.v d, .v ln] := by
  rw [g_look_line, mkFn_ap, b_look_line]
  simp [look_bad h]
theorem gr_not {s l p : Int} {d : D} (h : isTy d "tuple" = some false) : g_are_groups [.v (dL s l p), .v d, .v (.int 24)] = .ok (.v (.bl false)) [.v (dL s l p), .v d, .v (.int 24)] := by
  have hg : gIsi [d, .ty "tuple"] = some (.v (.bl false)) := by
    show (isTy d "tuple").map _ = _
    rw [h]
    rfl
  rw [g_are_groups, mkFn_ap, b_are_groups]
  simp [-gIsi_c0, hg]
theorem gr_tup {s l p : Int} {ds : List D} (h : ∀ d ∈ ds, okD d = true) (hl : ds.length ≤ 1000) : g_are_groups [.v (dL s l p), .v (.tup ds), .v (.int 24)] = .ok (.v (.bl (decide (ds.length ≤ 24) && ds.all fun d => whB d 1 s))) [.v (dL s l p), .v (.tup ds), .v (.int 24)] := by
  have hi : gIx [dL s l p, .int 0] = some (.v (.int s)) := by simp [dL, atI_of]
  have hc : compD [3] (mName 3) tYesD (callF g_is_whole [none, none, none] [(eVar 3), (eD (.int 1)), (opN gIx [(eVar 0), (eD (.int 0))])]) ds [some (.v (dL s l p)), some (.v (.tup ds)), some (.v (.int 24)), none] = .ok ((ds.map fun d => whB d 1 s).map D.bl) [some (.v (dL s l p)), some (.v (.tup ds)), some (.v (.int 24)), none] := by
    have := comp_map (vs := [3]) (m := mName 3) (t := tYesD) (f := callF g_is_whole [none, none, none] [(eVar 3), (eD (.int 1)), (opN gIx [(eVar 0), (eD (.int 0))])]) (E0 := [some (.v (dL s l p)), some (.v (.tup ds)), some (.v (.int 24)), none]) (enc := id) (ψ := fun d => D.bl (whB d 1 s)) ds (fun d hd rest => by
      rw [compD]
      simp [hi, ev_wh (h d hd)])
    rw [List.map_id] at this
    rw [this, List.map_map]
    rfl
  have ha : gAll [.lst ((ds.map fun d => whB d 1 s).map D.bl)] = some (.v (.bl (ds.all fun d => whB d 1 s))) := by
    show (blsOf _).map _ = _
    rw [blsOf_map]
    simp
  have hd : ds.length ≤ 1000000 := by omega
  rw [g_are_groups, mkFn_ap, b_are_groups]
  by_cases c : ds.length ≤ 24
  · simp [isTy, c, hc, hd, -List.map_map, ha, show (ds.length : Int) ≤ 24 by omega]
  · simp [isTy, c, show ¬ (ds.length : Int) ≤ 24 by omega]
theorem line_odd {s l p : Int} {d : D} (h : okLd s l p) (hg : g_are_groups [.v (dL s l p), .v d, .v (.int 24)] = .ok (.v (.bl false)) [.v (dL s l p), .v d, .v (.int 24)]) : g_look_line [.v (dL s l p), .v d] = .raise "BadLine" [.v (dL s l p), .v d] := by
  rw [g_look_line, mkFn_ap, b_look_line]
  simp [ev_look_loader h, hg]
/-! ### loaders and lines as texts -/
def seatsS : Str := Str.ofString " seats, look "
def passS : Str := Str.ofString ", pass "
theorem asc_seats : asc seatsS := by
  have : (seatsS.cps.toList.all fun c => decide (c < 128)) = true := by kernel_rfl
  exact fun c hc => by simpa using List.all_eq_true.mp this c hc
theorem asc_pass : asc passS := by
  have : (passS.cps.toList.all fun c => decide (c < 128)) = true := by kernel_rfl
  exact fun c hc => by simpa using List.all_eq_true.mp this c hc
theorem len_seats : seatsS.length = 13 := by kernel_rfl
theorem len_pass : passS.length = 7 := by kernel_rfl
def textM (s l p : Int) : Str := Str.empty ++ fig s ++ seatsS ++ fig l ++ passS ++ fig p
theorem asc_text {s l p : Int} (hs : s ≤ 9) (hl : l ≤ 9) (hp : p ≤ 9) : asc (textM s l p) := by
  unfold textM
  exact asc_app (asc_app (asc_app (asc_app (asc_app (fun c hc => by cases hc) (asc_fig hs)) asc_seats) (asc_fig hl)) asc_pass) (asc_fig hp)
theorem len_text (s l p : Int) : (textM s l p).length = 23 := by
  unfold textM
  simp only [Str.length_append, fig_len, len_seats, len_pass]
  rfl
theorem dL_ix (s l p : Int) : gIx [dL s l p, .int 0] = some (.v (.int s)) ∧ gIx [dL s l p, .int 1] = some (.v (.int l)) ∧ gIx [dL s l p, .int 2] = some (.v (.int p)) := ⟨rfl, rfl, rfl⟩
theorem le_mil {n : Nat} (h : n ≤ 40) : n ≤ 1000000 := by omega
theorem js_text {s l p : Int} {i : Nat} {env : DEnv} (hs : 0 ≤ s ∧ s ≤ 9) (hl : 0 ≤ l ∧ l ≤ 9) (hp : 0 ≤ p ∧ p ≤ 9) (h : env[i]? = some (some (.v (dL s l p)))) :
    eJs [(eFmt (opN gIx [(eVar i), (eD (.int 0))])), (eD (.str " seats, look ")), (eFmt (opN gIx [(eVar i), (eD (.int 1))])), (eD (.str ", pass ")), (eFmt (opN gIx [(eVar i), (eD (.int 2))]))] Str.empty env = .ok (.w (.v (.str (textM s l p)))) env := by
  obtain ⟨i0, i1, i2⟩ := dL_ix s l p
  have c1 : (Str.empty ++ fig s).length ≤ 1000000 := le_mil (by simp only [Str.length_append, fig_len]; decide)
  have c2 : (Str.empty ++ fig s ++ seatsS).length ≤ 1000000 := le_mil (by simp only [Str.length_append, fig_len, len_seats]; decide)
  have c3 : (Str.empty ++ fig s ++ seatsS ++ fig l).length ≤ 1000000 := le_mil (by simp only [Str.length_append, fig_len, len_seats]; decide)
  have c4 : (Str.empty ++ fig s ++ seatsS ++ fig l ++ passS).length ≤ 1000000 := le_mil (by simp only [Str.length_append, fig_len, len_seats, len_pass]; decide)
  have c5 : (Str.empty ++ fig s ++ seatsS ++ fig l ++ passS ++ fig p).length ≤ 1000000 := le_mil (by simp only [Str.length_append, fig_len, len_seats, len_pass]; decide)
  simp [h, i0, i1, i2, log_small hs.1 hs.2, log_small hl.1 hl.2, log_small hp.1 hp.2, repr_fig hs.1 hs.2, repr_fig hl.1 hl.2, repr_fig hp.1 hp.2, ← seatsS.eq_def, ← passS.eq_def, c1, c2, c3, c4, c5, textM]
theorem ev_text_of {s l p : Int} (hs : 0 ≤ s ∧ s ≤ 9) (hl : 0 ≤ l ∧ l ≤ 9) (hp : 0 ≤ p ∧ p ≤ 9) : g_text_of [.v (dL s l p)] = .ok (.v (.str (textM s l p))) [.v (dL s l p)] := by
  rw [g_text_of, mkFn_ap, b_text_of]
  simp [js_text hs hl hp (i := 0) (env := [some (W.v (dL s l p))]) rfl, -eJs_cons]
theorem okLd9 {s l p : Int} (h : okLd s l p) : (0 ≤ s ∧ s ≤ 9) ∧ (0 ≤ l ∧ l ≤ 9) ∧ (0 ≤ p ∧ p ≤ 9) := by unfold okLd at h; omega
theorem ev_loader_text {s l p : Int} (h : okLd s l p) : g_loader_text [.v (dL s l p)] = .ok (.v (.str (textM s l p))) [.v (dL s l p)] := by
  obtain ⟨h1, h2, h3⟩ := okLd9 h
  rw [g_loader_text, mkFn_ap, b_loader_text]
  simp [ev_look_loader h, ev_text_of h1 h2 h3]
instance (s l p : Int) : Decidable (okLd s l p) := by unfold okLd; infer_instance
theorem ev_is_loader3 (s l p : Int) : g_is_loader [.v (dL s l p)] = .ok (.v (.bl (decide (okLd s l p)))) [.v (dL s l p)] := by
  have h := ld3 (x := .int s) (y := .int l) (z := .int p) rfl rfl rfl
  have e : (whB (.int s) 1 6 && (whB (.int l) 0 3 && whB (.int p) 0 3)) = decide (okLd s l p) := by
    rw [Bool.eq_iff_iff]
    unfold whB
    simp only [Bool.and_eq_true, decide_eq_true_eq]
    exact Iff.rfl
  rw [e] at h
  exact h
/-- the loader of a text, as far as it may be one -/
def rdL (t : Str) : Int × Int × Int := (numIn (Txt.partition t seatsS).1, numIn (Txt.partition (Txt.partition t seatsS).2.2 passS).1, numIn (Txt.partition (Txt.partition t seatsS).2.2 passS).2.2)
def okRdL (t : Str) : Prop := okLd (rdL t).1 (rdL t).2.1 (rdL t).2.2 ∧ textM (rdL t).1 (rdL t).2.1 (rdL t).2.2 = t
theorem part_len (x y : Str) : (Txt.partition x y).1.length ≤ x.length ∧ (Txt.partition x y).2.2.length ≤ x.length := ⟨(fact_partition x y).1, (fact_partition x y).2.2⟩
theorem gPart_of {x y : Str} (hy : (y.length == 0) = false) (hx : x.length ≤ 1000000) : gPart [.str x, .str y] = some (.v (.tup [.str (Txt.partition x y).1, .str (Txt.partition x y).2.1, .str (Txt.partition x y).2.2])) := by
  rw [gPart_c, if_pos ⟨hy, hx⟩]
theorem rl_aux {t x1 x2 x3 y1 y2 y3 : Str} {a b c : Int} (ht : asc t) (p1 : gPart [.str t, .str (Str.ofString " seats, look ")] = some (.v (.tup [.str x1, .str x2, .str x3]))) (p2 : gPart [.str x3, .str (Str.ofString ", pass ")] = some (.v (.tup [.str y1, .str y2, .str y3])))
    (n1 : g_number_in [.v (.str x1)] = .ok (.v (.int a)) [.v (.str x1)]) (n2 : g_number_in [.v (.str y1)] = .ok (.v (.int b)) [.v (.str y1)]) (n3 : g_number_in [.v (.str y3)] = .ok (.v (.int c)) [.v (.str y3)]) :
    (okLd a b c ∧ textM a b c = t → g_read_loader [.v (.str t)] = .ok (.v (dL a b c)) [.v (.str t)]) ∧ (¬ (okLd a b c ∧ textM a b c = t) → g_read_loader [.v (.str t)] = .raise "BadText" [.v (.str t)]) := by
  have il := ev_is_loader3 a b c
  rw [g_read_loader, mkFn_ap, b_read_loader]
  by_cases h1 : okLd a b c
  · obtain ⟨b1, b2, b3⟩ := okLd9 h1
    have tx := ev_text_of b1 b2 b3
    have ne := gNe_str (asc_text b1.2 b2.2 b3.2) ht
    rw [decide_eq_true h1] at il
    simp only [dL] at il tx ⊢
    by_cases h2 : textM a b c = t
    · refine ⟨fun _ => ?_, fun z => absurd ⟨h1, h2⟩ z⟩
      rw [decide_eq_true h2] at ne
      simp [isTy, p1, p2, n1, n2, n3, il, tx, ne, -gPart_c]
    · refine ⟨fun z => absurd z.2 h2, fun _ => ?_⟩
      rw [decide_eq_false h2] at ne
      simp [isTy, p1, p2, n1, n2, n3, il, tx, ne, -gPart_c]
  · rw [decide_eq_false h1] at il
    simp only [dL] at il ⊢
    refine ⟨fun z => absurd z.1 h1, fun _ => ?_⟩
    simp [isTy, p1, p2, n1, n2, n3, il, -gPart_c]
theorem ev_read_loader {t : Str} (ht : asc t) (hl : t.length ≤ 1000) : (okRdL t → g_read_loader [.v (.str t)] = .ok (.v (dL (rdL t).1 (rdL t).2.1 (rdL t).2.2)) [.v (.str t)]) ∧ (¬ okRdL t → g_read_loader [.v (.str t)] = .raise "BadText" [.v (.str t)]) := by
  have l1 := part_len t seatsS
  have l2 := part_len (Txt.partition t seatsS).2.2 passS
  exact rl_aux ht (gPart_of (x := t) (y := seatsS) (by rw [len_seats]; rfl) (by omega)) (gPart_of (x := (Txt.partition t seatsS).2.2) (y := passS) (by rw [len_pass]; rfl) (by omega))
    (ev_number_in (by omega)) (ev_number_in (by omega)) (ev_number_in (by omega))
theorem read_loader_not {d : D} (h : isTy d "str" = some false) : g_read_loader [.v d] = .raise "BadText" [.v d] := by
  have hg : gIsi [d, .ty "str"] = some (.v (.bl false)) := by
    show (isTy d "str").map _ = _
    rw [h]
    rfl
  rw [g_read_loader, mkFn_ap, b_read_loader]
  simp [-gIsi_c0, hg]
def allLd : List (Int × Int × Int) := [1, 2, 3, 4, 5, 6].flatMap fun s => [0, 1, 2, 3].flatMap fun l => [0, 1, 2, 3].map fun p => (s, l, p)
theorem rdL_all : (allLd.all fun q => decide (rdL (textM q.1 q.2.1 q.2.2) = q)) = true := by decide +kernel
theorem rdL_text {s l p : Int} (h : okLd s l p) : rdL (textM s l p) = (s, l, p) := by
  have hm : (s, l, p) ∈ allLd := by
    unfold okLd at h
    obtain ⟨⟨a1, a2⟩, ⟨b1, b2⟩, c1, c2⟩ := h
    simp only [allLd, List.mem_flatMap, List.mem_map]
    refine ⟨s, ?_, l, ?_, p, ?_, rfl⟩
    · simp; omega
    · simp; omega
    · simp; omega
  have := List.all_eq_true.mp rdL_all _ hm
  simpa using this
end Lw

namespace Lw
open PySem PySem.Spec PyProof.Rows L2 DL
/-! ### lines and days as texts -/
def grB (s n : Int) (xs : List Int) : Prop := (xs.length : Int) ≤ n ∧ ∀ x ∈ xs, 1 ≤ x ∧ x ≤ s
instance (s n : Int) (xs : List Int) : Decidable (grB s n xs) := by unfold grB; infer_instance
theorem gr_dI {s l p n : Int} {xs : List Int} (hl : xs.length ≤ 2000) : g_are_groups [.v (dL s l p), .v (dI xs), .v (.int n)] = .ok (.v (.bl (decide (grB s n xs)))) [.v (dL s l p), .v (dI xs), .v (.int n)] := by
  have hi : gIx [dL s l p, .int 0] = some (.v (.int s)) := by simp [dL, atI_of]
  have hc : compD [3] (mName 3) tYesD (callF g_is_whole [none, none, none] [(eVar 3), (eD (.int 1)), (opN gIx [(eVar 0), (eD (.int 0))])]) (xs.map D.int) [some (.v (dL s l p)), some (.v (.tup (xs.map D.int))), some (.v (.int n)), none] = .ok ((xs.map fun x => decide (1 ≤ x ∧ x ≤ s)).map D.bl) [some (.v (dL s l p)), some (.v (.tup (xs.map D.int))), some (.v (.int n)), none] := by
    have := comp_map (vs := [3]) (m := mName 3) (t := tYesD) (f := callF g_is_whole [none, none, none] [(eVar 3), (eD (.int 1)), (opN gIx [(eVar 0), (eD (.int 0))])]) (E0 := [some (.v (dL s l p)), some (.v (.tup (xs.map D.int))), some (.v (.int n)), none]) (enc := D.int) (ψ := fun x => D.bl (decide (1 ≤ x ∧ x ≤ s))) xs (fun x hx rest => by
      rw [compD]
      simp [hi, ev_is_whole])
    rw [this, List.map_map]
    rfl
  have ha : gAll [.lst ((xs.map fun x => decide (1 ≤ x ∧ x ≤ s)).map D.bl)] = some (.v (.bl (decide (∀ x ∈ xs, 1 ≤ x ∧ x ≤ s)))) := by
    show (blsOf _).map _ = _
    rw [blsOf_map]
    have : ((xs.map fun x => decide (1 ≤ x ∧ x ≤ s)).all id) = decide (∀ x ∈ xs, 1 ≤ x ∧ x ≤ s) := by
      rw [Bool.eq_iff_iff]
      simp
    rw [Option.map_some, this]
  have hd : xs.length ≤ 1000000 := by omega
  rw [g_are_groups, mkFn_ap, b_are_groups]
  unfold grB
  by_cases c : (xs.length : Int) ≤ n
  · simp [isTy, dI, c, hd, -List.map_map] at hc ha ⊢
    simp [hc, ha, -List.map_map]
  · simp [isTy, dI, c]
theorem ev_look_line' {s l p : Int} {xs : List Int} (h : okLd s l p) (hg : grB s 24 xs) : g_look_line [.v (dL s l p), .v (dI xs)] = .ok (.v .non) [.v (dL s l p), .v (dI xs)] := by
  have hl : xs.length ≤ 2000 := by have := hg.1; omega
  have e := gr_dI (s := s) (l := l) (p := p) (n := 24) hl
  rw [decide_eq_true hg] at e
  rw [g_look_line, mkFn_ap, b_look_line]
  simp [ev_look_loader h, e]
theorem grB_digs {s n : Int} {xs : List Int} (hs : s ≤ 6) (h : grB s n xs) : digs xs := fun x hx => by have := h.2 x hx; omega
theorem ev_line_text {s l p : Int} {xs : List Int} (h : okLd s l p) (hg : grB s 24 xs) : g_line_text [.v (dL s l p), .v (dI xs)] = .ok (.v (.str (joinM xs 32))) [.v (dL s l p), .v (dI xs)] := by
  have e := ev_joined (c := 32) (d := dI xs) (.inl rfl) (grB_digs h.1.2 hg) (by have := hg.1; omega)
  rw [g_line_text, mkFn_ap, b_line_text]
  simp [ev_look_line' h hg, lit_sp, e]
theorem ev_read_line {s l p : Int} {t : Str} (h : okLd s l p) (ht : asc t) (hl : t.length ≤ 1000) : (grB s 24 (partM t 32) → g_read_line [.v (dL s l p), .v (.str t)] = .ok (.v (dI (partM t 32))) [.v (dL s l p), .v (.str t)]) ∧ (¬ grB s 24 (partM t 32) → g_read_line [.v (dL s l p), .v (.str t)] = .raise "BadText" [.v (dL s l p), .v (.str t)]) := by
  have hp := ev_parted (c := 32) ht hl
  have hn : (partM t 32).length ≤ 2000 := by
    unfold partM
    split
    · simp
    · rw [List.length_map]
      have := split_few t 32
      omega
  have e := gr_dI (s := s) (l := l) (p := p) (n := 24) hn
  rw [g_read_line, mkFn_ap, b_read_line]
  constructor
  · intro hg
    rw [decide_eq_true hg] at e
    simp [isTy, ev_look_loader h, lit_sp, hp, e]
  · intro hg
    rw [decide_eq_false hg] at e
    simp [isTy, ev_look_loader h, lit_sp, hp, e]
theorem read_line_not {s l p : Int} {d : D} (h : okLd s l p) (hd : isTy d "str" = some false) : g_read_line [.v (dL s l p), .v d] = .raise "BadText" [.v (dL s l p), .v d] := by
  have hg : gIsi [d, .ty "str"] = some (.v (.bl false)) := by
    show (isTy d "str").map _ = _
    rw [hd]
    rfl
  have e := gr_not (s := s) (l := l) (p := p) (d := .non) rfl
  rw [g_read_line, mkFn_ap, b_read_line]
  simp [-gIsi_c0, hg, ev_look_loader h, e]
/-! days -/
abbrev Beat := List Int × Int
def dB (b : Beat) : D := .tup [dI b.1, .int b.2]
def dDay (day : List Beat) : D := .tup (day.map dB)
def okB (s : Int) (b : Beat) : Prop := grB s 4 b.1 ∧ 0 ≤ b.2 ∧ b.2 ≤ 9
instance (s : Int) (b : Beat) : Decidable (okB s b) := by unfold okB; infer_instance
def okDay (s : Int) (day : List Beat) : Prop := (1 ≤ day.length ∧ day.length ≤ 6) ∧ ∀ b ∈ day, okB s b
instance (s : Int) (day : List Beat) : Decidable (okDay s day) := by unfold okDay; infer_instance
theorem ev_is_beat {s l p : Int} {b : Beat} (hl : b.1.length ≤ 2000) : g_is_beat [.v (dL s l p), .v (dB b)] = .ok (.v (.bl (decide (okB s b)))) [.v (dL s l p), .v (dB b)] := by
  have e := gr_dI (s := s) (l := l) (p := p) (n := 4) hl
  have i0 : gIx [dB b, .int 0] = some (.v (dI b.1)) := rfl
  have i1 : gIx [dB b, .int 1] = some (.v (.int b.2)) := rfl
  have ll : gLen [dB b] = some (.v (.int 2)) := rfl
  have ty : gIsi [dB b, .ty "tuple"] = some (.v (.bl true)) := by unfold dB; simp [isTy]
  rw [g_is_beat, mkFn_ap, b_is_beat]
  by_cases hg : grB s 4 b.1
  · rw [decide_eq_true hg] at e
    simp [i0, i1, ll, ty, e, ev_is_whole, okB, hg]
  · rw [decide_eq_false hg] at e
    simp [i0, i1, ll, ty, e, okB, hg]
theorem ev_is_good {s l p : Int} {day : List Beat} (hl : ∀ b ∈ day, b.1.length ≤ 2000) : g_is_good [.v (dL s l p), .v (dDay day)] = .ok (.v (.bl (decide (okDay s day)))) [.v (dL s l p), .v (dDay day)] := by
  have hc : compD [2] (mName 2) tYesD (callF g_is_beat [none, none] [(eVar 0), (eVar 2)]) (day.map dB) [some (.v (dL s l p)), some (.v (.tup (day.map dB))), none] = .ok ((day.map fun b => decide (okB s b)).map D.bl) [some (.v (dL s l p)), some (.v (.tup (day.map dB))), none] := by
    have := comp_map (vs := [2]) (m := mName 2) (t := tYesD) (f := callF g_is_beat [none, none] [(eVar 0), (eVar 2)]) (E0 := [some (.v (dL s l p)), some (.v (.tup (day.map dB))), none]) (enc := dB) (ψ := fun b => D.bl (decide (okB s b))) day (fun b hb rest => by
      rw [compD]
      simp [ev_is_beat (hl b hb)])
    rw [this, List.map_map]
    rfl
  have ha : gAll [.lst ((day.map fun b => decide (okB s b)).map D.bl)] = some (.v (.bl (decide (∀ b ∈ day, okB s b)))) := by
    show (blsOf _).map _ = _
    rw [blsOf_map]
    have : ((day.map fun b => decide (okB s b)).all id) = decide (∀ b ∈ day, okB s b) := by
      rw [Bool.eq_iff_iff]
      simp
    rw [Option.map_some, this]
  show g_is_good [.v (dL s l p), .v (.tup (day.map dB))] = .ok (.v (.bl (decide (okDay s day)))) [.v (dL s l p), .v (.tup (day.map dB))]
  rw [g_is_good, mkFn_ap, b_is_good]
  by_cases c1 : 1 ≤ day.length
  · have c1' : (1 : Int) ≤ (day.length : Int) := by omega
    by_cases c2 : day.length ≤ 6
    · have c2' : (day.length : Int) ≤ 6 := by omega
      have hd : day.length ≤ 1000000 := by omega
      simp [isTy, c1', c2', hd, -List.map_map] at hc ha ⊢
      simp [hc, ha, c1', -List.map_map]
      exact ⟨fun z => ⟨⟨c1, c2⟩, fun b hb => z b.1 b.2 hb⟩, fun z a b hb => z.2 (a, b) hb⟩
    · have c2' : ¬ (day.length : Int) ≤ 6 := by omega
      have hn : ¬ okDay s day := fun z => c2 z.1.2
      simp [isTy, c1', c2', hn]
  · have c1' : ¬ (1 : Int) ≤ (day.length : Int) := by omega
    have hn : ¬ okDay s day := fun z => c1 z.1.1
    simp [isTy, c1', hn]
theorem ev_look_day {s l p : Int} {day : List Beat} (h : okLd s l p) (hd : okDay s day) : g_look_day [.v (dL s l p), .v (dDay day)] = .ok (.v .non) [.v (dL s l p), .v (dDay day)] := by
  have e := ev_is_good (s := s) (l := l) (p := p) (day := day) (fun b hb => by have := (hd.2 b hb).1.1; omega)
  rw [decide_eq_true hd] at e
  rw [g_look_day, mkFn_ap, b_look_day]
  simp [ev_look_loader h, e]
def beatT (b : Beat) : Str := joinM b.1 43 ++ sg 47 ++ fig b.2
def dayT (day : List Beat) : Str := Txt.join (sg 32) (day.map beatT)
theorem okB_digs {s : Int} {b : Beat} (hs : s ≤ 6) (h : okB s b) : digs b.1 := grB_digs hs h.1
theorem beatT_len {s : Int} {b : Beat} (h : okB s b) : (beatT b).length ≤ 11 := by
  unfold beatT
  rw [Str.length_append, Str.length_append, fig_len]
  have := joinM_len (xs := b.1) (c := 43)
  have h4 := h.1.1
  show _ + 1 + 1 ≤ 11
  omega
theorem sum_le {k : Nat} : ∀ {xs : List Nat}, (∀ x ∈ xs, x ≤ k) → xs.sum ≤ k * xs.length
  | [], _ => by simp
  | x :: r, h => by
    have h1 := h x (by simp)
    have h2 := sum_le (xs := r) (fun y hy => h y (List.mem_cons_of_mem _ hy))
    rw [List.sum_cons, List.length_cons, Nat.mul_add]
    omega
theorem beats_sum {s : Int} {day : List Beat} (hd : okDay s day) : ((day.map beatT).map (·.length)).sum ≤ 66 := by
  have h := sum_le (k := 11) (xs := (day.map beatT).map (·.length)) (fun x hx => by
    obtain ⟨w, hw, rfl⟩ := List.mem_map.mp hx
    obtain ⟨b, hb, rfl⟩ := List.mem_map.mp hw
    exact beatT_len (hd.2 b hb))
  rw [List.length_map, List.length_map] at h
  have := hd.1.2
  omega
theorem dayT_len {s : Int} {day : List Beat} (hd : okDay s day) : (dayT day).length ≤ 80 := by
  show (PySem.Builtin.Str.glued _ _).length ≤ _
  rw [size_glued, List.length_map]
  have h1 := beats_sum hd
  have h2 := hd.1.2
  show _ + (day.length - 1) * 1 ≤ _
  omega
theorem gJoin_beats {s : Int} {day : List Beat} (hd : okDay s day) : gJoin [.str (sg 32), .lst ((day.map beatT).map D.str)] = some (.v (.str (dayT day))) := by
  rw [gJoin_strs, if_pos]
  · rfl
  · have h1 := beats_sum hd
    have h2 := hd.1.2
    rw [List.length_map]
    show _ + _ * 1 ≤ _
    omega
theorem comp_beats {s : Int} {day : List Beat} {a : D} (hs : s ≤ 6) (hd : okDay s day) : compD [2, 3] (mTup (mCons (mName 2) (mCons (mName 3) mNil)) 2) tYesD (opN gAdd [(opN gAdd [(callF g_joined [none, none] [(eVar 2), (eD (.str "+"))]), (eD (.str "/"))]), (opN gStrI [(eVar 3)])]) (day.map dB) [some (.v a), some (.v (dDay day)), none, none] = .ok ((day.map beatT).map D.str) [some (.v a), some (.v (dDay day)), none, none] := by
  have := comp_map (vs := [2, 3]) (m := mTup (mCons (mName 2) (mCons (mName 3) mNil)) 2) (t := tYesD) (f := opN gAdd [(opN gAdd [(callF g_joined [none, none] [(eVar 2), (eD (.str "+"))]), (eD (.str "/"))]), (opN gStrI [(eVar 3)])]) (E0 := [some (.v a), some (.v (dDay day)), none, none]) (enc := dB) (ψ := fun b => D.str (beatT b)) day (fun b hb rest => by
    obtain ⟨hg, h0, h9⟩ := hd.2 b hb
    have hj := ev_joined (c := 43) (d := dI b.1) (.inl rfl) (grB_digs hs hg) (by have := hg.1; omega)
    have l1 : (joinM b.1 43 ++ sg 47).length ≤ 1000000 := by
      have := joinM_len (xs := b.1) (c := 43)
      have h4 := hg.1
      rw [Str.length_append]
      show _ + 1 ≤ _
      omega
    have l2 : (joinM b.1 43 ++ sg 47 ++ fig b.2).length ≤ 1000000 := by
      have := beatT_len (hd.2 b hb)
      unfold beatT at this
      omega
    rw [Str.length_append] at l1 l2
    rw [compD]
    simp [dB, hj, lit_plus, lit_slash, log_small h0 h9, repr_fig h0 h9, l1, l2, beatT])
  rw [this, List.map_map]
  rfl
theorem ev_day_text {s l p : Int} {day : List Beat} (h : okLd s l p) (hd : okDay s day) : g_day_text [.v (dL s l p), .v (dDay day)] = .ok (.v (.str (dayT day))) [.v (dL s l p), .v (dDay day)] := by
  have hc := comp_beats (a := dL s l p) h.1.2 hd
  have hj := gJoin_beats hd
  have hn : day.length ≤ 1000000 := by have := hd.1.2; omega
  have hl := ev_look_day h hd
  simp only [dDay] at hc hl ⊢
  rw [g_day_text, mkFn_ap, b_day_text]
  simp [hl, lit_sp, hc, hj, hn, -List.map_map]
def rdB (w : Str) : Beat := (partM (Txt.partition w (sg 47)).1 43, numIn (Txt.partition w (sg 47)).2.2)
theorem ev_beat_in {w : Str} (hw : asc w) (hl : w.length ≤ 1000) : g_beat_in [.v (.str w)] = .ok (.v (dB (rdB w))) [.v (.str w)] := by
  have l1 := part_len w (sg 47)
  have p1 := gPart_of (x := w) (y := sg 47) rfl (by omega)
  have e1 := ev_parted (t := (Txt.partition w (sg 47)).1) (c := 43) (asc_part1 hw).1 (by omega)
  have e2 := ev_number_in (w := (Txt.partition w (sg 47)).2.2) (by omega)
  rw [g_beat_in, mkFn_ap, b_beat_in]
  simp [p1, e1, e2, lit_slash, lit_plus, dB, rdB, -gPart_c]
def rdDay (t : Str) : List Beat := (Txt.split t (sg 32)).map rdB
theorem partM_len (t : Str) (c : Nat) : (partM t c).length ≤ t.length + 2 := by
  unfold partM
  split
  · simp
  · rw [List.length_map]
    exact split_few t c
theorem ev_read_day {s l p : Int} {t : Str} (h : okLd s l p) (ht : asc t) (hl : t.length ≤ 1000) : (okDay s (rdDay t) → g_read_day [.v (dL s l p), .v (.str t)] = .ok (.v (dDay (rdDay t))) [.v (dL s l p), .v (.str t)]) ∧ (¬ okDay s (rdDay t) → g_read_day [.v (dL s l p), .v (.str t)] = .raise "BadText" [.v (dL s l p), .v (.str t)]) := by
  have hs := gSplit_of (c := 32) (show t.length ≤ 1000000 by omega)
  have h6 : (Txt.split t (sg 32)).length ≤ 1000000 := Nat.le_trans (split_few t 32) (by omega)
  have hc := comp_map (vs := [3]) (m := mName 3) (t := tYesD) (f := callF g_beat_in [none] [(eVar 3)]) (E0 := [some (.v (dL s l p)), some (.v (.str t)), none, none]) (enc := D.str) (ψ := fun w => dB (rdB w)) (Txt.split t (sg 32)) (fun w hw rest => by
      rw [compD]
      simp [ev_beat_in (asc_split ht w hw) (show w.length ≤ 1000 from Nat.le_trans (split_len1 hw) hl)])
  have e := ev_is_good (s := s) (l := l) (p := p) (day := rdDay t) (fun b hb => by
    obtain ⟨w, hw, rfl⟩ := List.mem_map.mp hb
    have h1 := partM_len (Txt.partition w (sg 47)).1 43
    have h2 := (part_len w (sg 47)).1
    have h3 := split_len1 hw
    show (partM (Txt.partition w (sg 47)).1 43).length ≤ 2000
    omega)
  have em : List.map (fun w => dB (rdB w)) (Txt.split t (sg 32)) = (rdDay t).map dB := by
    unfold rdDay
    rw [List.map_map]
    rfl
  rw [em] at hc
  simp only [dDay] at e ⊢
  rw [g_read_day, mkFn_ap, b_read_day]
  constructor
  · intro hg
    rw [decide_eq_true hg] at e
    simp [isTy, ev_look_loader h, lit_sp, hs, hc, h6, e, -gSplit_c, -List.map_map]
  · intro hg
    rw [decide_eq_false hg] at e
    simp [isTy, ev_look_loader h, lit_sp, hs, hc, h6, e, -gSplit_c, -List.map_map]
theorem good_not {s l p : Int} {d : D} (h : isTy d "tuple" = some false) : g_is_good [.v (dL s l p), .v d] = .ok (.v (.bl false)) [.v (dL s l p), .v d] := by
  have hg : gIsi [d, .ty "tuple"] = some (.v (.bl false)) := by
    show (isTy d "tuple").map _ = _
    rw [h]
    rfl
  rw [g_is_good, mkFn_ap, b_is_good]
  simp [-gIsi_c0, hg]
theorem read_day_not {s l p : Int} {d : D} (h : okLd s l p) (hd : isTy d "str" = some false) : g_read_day [.v (dL s l p), .v d] = .raise "BadText" [.v (dL s l p), .v d] := by
  have hg : gIsi [d, .ty "str"] = some (.v (.bl false)) := by
    show (isTy d "str").map _ = _
    rw [hd]
    rfl
  have e := good_not (s := s) (l := l) (p := p) (d := .non) rfl
  rw [g_read_day, mkFn_ap, b_read_day]
  simp [-gIsi_c0, hg, ev_look_loader h, e]
/-! there and back -/
theorem rdB_beat {s : Int} {b : Beat} (hs : s ≤ 6) (h : okB s b) : rdB (beatT b) = b := by
  have hd := okB_digs hs h
  unfold rdB beatT
  rw [part_of (joinM_fr hd (by decide) (by decide) (by decide))]
  show (partM (joinM b.1 43) 43, numIn (fig b.2)) = b
  rw [part_join (by decide) hd, numIn_fig h.2.1 h.2.2]
theorem beat_rdB {s : Int} {w : Str} (hs : s ≤ 6) (h : okB s (rdB w)) : beatT (rdB w) = w := by
  have hd := okB_digs hs h
  unfold rdB at h hd
  rcases part_cases w 47 with ⟨e, _⟩ | ⟨a, r, e, e2, _⟩
  · rw [e] at h
    have h0 : 0 ≤ numIn Str.empty := h.2.1
    have : numIn Str.empty = -1 := rfl
    omega
  · rw [e] at h hd
    unfold rdB beatT
    rw [e]
    show joinM (partM a 43) 43 ++ sg 47 ++ fig (numIn r) = w
    rw [join_part hd, ← fig_numIn h.2.1]
    exact e2.symm
theorem beatT_fr {s : Int} {b : Beat} (hs : s ≤ 6) (h : okB s b) : 32 ∉ cl (beatT b) := by
  have hd := okB_digs hs h
  unfold beatT
  rw [cl_app, cl_app]
  intro z
  rcases List.mem_append.mp z with z | z
  · rcases List.mem_append.mp z with z | z
    · exact joinM_fr hd (by decide) (by decide) (by decide) z
    · have : 32 ∈ [47] := z
      simp at this
  · have : 32 ∈ [48 + b.2.toNat] := z
    simp at this
    omega
theorem rdDay_day {s : Int} {day : List Beat} (hs : s ≤ 6) (h : okDay s day) : rdDay (dayT day) = day := by
  unfold rdDay dayT
  rw [spl_join]
  · rw [List.map_map]
    have : ∀ b ∈ day, (rdB ∘ beatT) b = id b := fun b hb => rdB_beat hs (h.2 b hb)
    rw [List.map_congr_left this, List.map_id]
  · intro z
    have : day = [] := by simpa using z
    have h1 := h.1.1
    rw [this] at h1
    simp at h1
  · intro w hw
    obtain ⟨b, hb, rfl⟩ := List.mem_map.mp hw
    exact beatT_fr hs (h.2 b hb)
theorem day_rdDay {s : Int} {t : Str} (hs : s ≤ 6) (h : okDay s (rdDay t)) : dayT (rdDay t) = t := by
  unfold dayT rdDay
  rw [List.map_map]
  have : ∀ w ∈ Txt.split t (sg 32), (beatT ∘ rdB) w = id w := fun w hw => beat_rdB hs (h.2 _ (List.mem_map.mpr ⟨w, hw, rfl⟩))
  rw [List.map_congr_left this, List.map_id, join_spl]
theorem asc_beat {s : Int} {b : Beat} (hs : s ≤ 6) (h : okB s b) : asc (beatT b) := asc_app (asc_app (asc_joinM (by decide) (okB_digs hs h)) (asc_sg (by decide))) (asc_fig h.2.2)
theorem asc_day {s : Int} {day : List Beat} (hs : s ≤ 6) (h : okDay s day) : asc (dayT day) := asc_join (by decide) fun w hw => by
  obtain ⟨b, hb, rfl⟩ := List.mem_map.mp hw
  exact asc_beat hs (h.2 b hb)
end Lw

namespace Lw
open PySem PySem.Spec PyProof.Rows L2 DL
/-! ### drawn loaders, drawn groups -/
theorem ev_law_loader {ns : List Int} {k : Nat} {town : List D} {M : Int} (T0 : TownOk ns k town) (hk : k + 4 < 2 ^ 40) (hM : 1 ≤ M ∧ M ≤ 6) :
    ∃ s l p t', g_law_loader [.v (.scr ns), .l true town, .v (.int M)] = .ok (.v (dL s l p)) [.v (.scr ns), .l true t', .v (.int M)] ∧ (okLd s l p ∧ s ≤ M) ∧ TownOk ns (k + 4) t' := by
  obtain ⟨v1, t1, h1, b1, T1⟩ := ev_draw (m := M) T0 (by omega) (by omega) (by omega)
  obtain ⟨v2, t2, h2, b2, T2⟩ := ev_draw (m := 2) T1 (by omega) (by decide) (by decide)
  obtain ⟨v3, t3, h3, b3, T3⟩ := ev_draw (m := 4) T2 (by omega) (by decide) (by decide)
  obtain ⟨v4, t4, h4, b4, T4⟩ := ev_draw (m := 4) T3 (by omega) (by decide) (by decide)
  refine ⟨if 1 + v1 + v2 < M then 1 + v1 + v2 else M, v3, v4, t4, ?_, ⟨⟨⟨?_, ?_⟩, ⟨by omega, by omega⟩, by omega, by omega⟩, ?_⟩, T4⟩
  · simp [g_law_loader, b_law_loader, h1, h2, h3, h4, gMin, dL]
  · split <;> omega
  · split <;> omega
  · split <;> omega
theorem comp_groups {ns : List Int} {m q : Int} (hm : 0 < m) (hm2 : m < 1073741824) : ∀ (xs : List Nat) (k : Nat) (town : List D), TownOk ns k town → k + xs.length < 2 ^ 40 →
    ∃ (ys : List Int) (t' : List D), compD [4] (mName 4) tYesD (opN gAdd [(eD (.int 1)), (callF g_law_draw [none, some 1, none] [(eVar 0), (eVar 1), (eVar 2)])]) (xs.map fun i => D.int (0 + (i : Nat))) [some (.v (.scr ns)), some (.l true town), some (.v (.int m)), some (.v (.int q)), none] = .ok (ys.map D.int) [some (.v (.scr ns)), some (.l true t'), some (.v (.int m)), some (.v (.int q)), none] ∧ ys.length = xs.length ∧ (∀ y ∈ ys, 1 ≤ y ∧ y ≤ m) ∧ TownOk ns (k + xs.length) t'
  | [], k, town, T, hk => ⟨[], town, rfl, rfl, by simp, T⟩
  | x :: xs, k, town, T, hk => by
    obtain ⟨v, t1, h1, b1, T1⟩ := ev_draw (m := m) T (by simp at hk; omega) hm hm2
    obtain ⟨ys, t2, h2, h3, h4, T2⟩ := comp_groups (ns := ns) (m := m) (q := q) hm hm2 xs (k + 1) t1 T1 (by simp at hk; omega)
    refine ⟨(1 + v) :: ys, t2, ?_, by simp [h3], ?_, ?_⟩
    · rw [List.map_cons, compD]
      simp [h1]
      simp at h2
      simp [h2]
    · intro y hy
      rcases List.mem_cons.mp hy with rfl | hy
      · omega
      · exact h4 y hy
    · rw [List.length_cons, show k + (xs.length + 1) = k + 1 + xs.length by omega]
      exact T2
theorem ev_law_groups {ns : List Int} {k : Nat} {town : List D} {m q : Int} (T0 : TownOk ns k town) (hm : 0 < m) (hm2 : m < 1073741824) (hq : 0 ≤ q) (hq2 : q ≤ 1000) (hk : k + 2000 < 2 ^ 40) :
    ∃ (line : List Int) (k' : Nat) (t' : List D), g_law_groups [.v (.scr ns), .l true town, .v (.int m), .v (.int q)] = .ok (.v (dI line)) [.v (.scr ns), .l true t', .v (.int m), .v (.int q)] ∧ (line.length ≤ q ∧ ∀ y ∈ line, 1 ≤ y ∧ y ≤ m) ∧ TownOk ns k' t' ∧ k' ≤ k + 1001 := by
  obtain ⟨v, t1, h1, b1, T1⟩ := ev_draw (m := q + 1) T0 (by omega) (by omega) (by omega)
  obtain ⟨ys, t2, h2, h3, h4, T2⟩ := comp_groups (q := q) hm hm2 (List.range (v - 0).toNat) (k + 1) t1 T1 (by simp; omega)
  rw [List.length_range] at h3 T2
  refine ⟨ys, _, t2, ?_, ⟨by omega, h4⟩, T2, by omega⟩
  have c1 : (-4611686018427387904 ≤ v ∧ v < 4611686018427387904) := by omega
  have c2 : v ≤ 1000000 := by omega
  simp [g_law_groups, b_law_groups, h1, c1, rangeD]
  simp at h2
  simp [h2, c2, dI]
/-! ### what a loading is: each once, none over -/
def key (r : Row) : Int × Int := (r.1, r.2.1)
theorem key_bump (rs : List Row) : (bump rs).map key = rs.map key := by
  unfold bump
  rw [List.map_map]
  rfl
theorem loadGo_perm {l p : Int} : ∀ (n : Nat) (room : Int) (rows : List Row), (((loadGo l p n room rows).1 ++ (loadGo l p n room rows).2).map key).Perm (rows.map key)
  | 0, room, rows => by simp [loadGo]
  | n + 1, room, rows => by
    rw [loadGo]
    cases hn : nextAt p room (rows.take (l + 1).toNat) with
    | none => simp
    | some j =>
      cases hr : rows[j]? with
      | none => simp [hr]
      | some r =>
        simp only [hr]
        have ih := loadGo_perm (l := l) (p := p) n (room - r.2.1) (bump (rows.take j) ++ rows.drop (j + 1))
        rw [List.cons_append, List.map_cons]
        refine (ih.cons (key r)).trans ?_
        rw [List.map_append, key_bump]
        obtain ⟨hj, hr2⟩ := List.getElem?_eq_some_iff.mp hr
        have e : rows = rows.take j ++ r :: rows.drop (j + 1) := by
          rw [← hr2, List.getElem_cons_drop, List.take_append_drop]
        have e2 : rows.map key = (rows.take j).map key ++ key r :: (rows.drop (j + 1)).map key := by
          rw [← List.map_cons, ← List.map_append, ← e]
        rw [e2]
        exact List.perm_middle.symm
theorem loadGo_sum {l p : Int} : ∀ (n : Nat) (room : Int) (rows : List Row), 0 ≤ room → ((loadGo l p n room rows).1.map (·.2.1)).sum ≤ room
  | 0, room, rows, h => by simpa [loadGo] using h
  | n + 1, room, rows, h => by
    rw [loadGo]
    cases hn : nextAt p room (rows.take (l + 1).toNat) with
    | none => simpa using h
    | some j =>
      cases hr : rows[j]? with
      | none => simpa [hr] using h
      | some r =>
        simp only [hr]
        have hf : r.2.1 ≤ room := by
          have : ∀ (rs : List Row) (j : Nat) (r : Row), nextAt p room rs = some j → rs[j]? = some r → r.2.1 ≤ room := by
            intro rs
            induction rs with
            | nil => intro j r h; cases h
            | cons a rs ih =>
              intro j r h hr
              unfold nextAt at h
              by_cases h1 : a.2.1 ≤ room
              · rw [if_pos h1] at h; cases h; simp at hr; rw [← hr]; exact h1
              · rw [if_neg h1] at h
                by_cases h2 : p ≤ a.2.2
                · rw [if_pos h2] at h; cases h
                · rw [if_neg h2] at h
                  obtain ⟨k, hk, rfl⟩ := Option.map_eq_some_iff.mp h
                  exact ih k r hk (by simpa using hr)
          refine this _ j r hn ?_
          have := nextAt_lt hn
          rw [List.getElem?_take, if_pos (by simp at this; omega)]
          exact hr
        have ih := loadGo_sum (l := l) (p := p) n (room - r.2.1) (bump (rows.take j) ++ rows.drop (j + 1)) (by omega)
        rw [List.map_cons, List.sum_cons]
        omega
theorem allGo_perm {s l p : Int} (hl : 0 ≤ l) : ∀ (n : Nat) (rows : List Row), rows.length ≤ n → (∀ r ∈ rows, r.2.1 ≤ s) → ((allGo s l p n rows).flatten.map key).Perm (rows.map key)
  | n, [], h, h3 => by
    have : allGo s l p n [] = [] := by cases n <;> rfl
    rw [this]
    exact List.Perm.refl _
  | 0, r :: rs, h, h3 => by simp at h
  | n + 1, r :: rs, h, h3 => by
    have h5 := loadGo_lt (p := p) hl r rs rs.length (h3 r (List.mem_cons_self ..))
    have ih := allGo_perm (p := p) hl n (loadGo l p (r :: rs).length s (r :: rs)).2 (by simp at h h5 ⊢; omega) (fun q hq => by
      obtain ⟨r', h6, h7, h8⟩ := loadGo_mem _ _ _ q (.inr hq)
      rw [← h8]
      exact h3 r' h6)
    have hp := loadGo_perm (l := l) (p := p) (r :: rs).length s (r :: rs)
    rw [allGo]
    show (((loadGo l p (r :: rs).length s (r :: rs)).1 :: _).flatten.map key).Perm _
    rw [List.flatten_cons, List.map_append]
    refine (List.Perm.append_left _ ih).trans ?_
    rw [← List.map_append]
    exact hp
theorem allGo_sits {s l p : Int} (hl : 0 ≤ l) (hs : 0 ≤ s) : ∀ (n : Nat) (rows : List Row), (∀ r ∈ rows, r.2.1 ≤ s) → ∀ sit ∈ allGo s l p n rows, sit ≠ [] ∧ (sit.map (·.2.1)).sum ≤ s
  | 0, rows, h3, sit, h => by simp [allGo] at h
  | n + 1, [], h3, sit, h => by simp [allGo] at h
  | n + 1, r :: rs, h3, sit, h => by
    rw [allGo] at h
    rcases List.mem_cons.mp h with rfl | h
    · refine ⟨?_, loadGo_sum _ _ _ hs⟩
      have := loadGo_first (p := p) hl r rs rs.length (h3 r (List.mem_cons_self ..))
      rw [List.length_cons, this]
      simp
    · exact allGo_sits hl hs n _ (fun q hq => by
        obtain ⟨r', h6, h7, h8⟩ := loadGo_mem _ _ _ q (.inr hq)
        rw [← h8]
        exact h3 r' h6) sit h
theorem rows0_key (line : List Int) : (rows0 line).map key = line.zipIdx.map fun q => (((q.2 : Nat) : Int), q.1) := by
  unfold rows0
  rw [List.map_map]
  rfl
theorem rows0_le {s : Int} {line : List Int} (h : ∀ x ∈ line, x ≤ s) : ∀ r ∈ rows0 line, r.2.1 ≤ s := fun r hr => by
  obtain ⟨q, hq, rfl⟩ := List.mem_map.mp hr
  exact h _ (by obtain ⟨_, _, e⟩ := List.mem_zipIdx hq; simp at e; rw [e]; exact List.getElem_mem _)
theorem allM_perm {s l p : Int} {line : List Int} (hl : 0 ≤ l) (h : ∀ x ∈ line, x ≤ s) : ((allM s l p line).flatten.map key).Perm (line.zipIdx.map fun q => (((q.2 : Nat) : Int), q.1)) := by
  rw [← rows0_key]
  exact allGo_perm hl _ _ (by simp [rows0]) (rows0_le h)
theorem allM_sits {s l p : Int} {line : List Int} (hl : 0 ≤ l) (hs : 0 ≤ s) (h : ∀ x ∈ line, x ≤ s) : ∀ sit ∈ allM s l p line, sit ≠ [] ∧ (sit.map (·.2.1)).sum ≤ s := allGo_sits hl hs _ _ (rows0_le h)
def upto (n : Nat) : List Int := (List.range n).map fun i : Nat => (i : Int)
theorem zip_nums (line : List Int) : (line.zipIdx.map fun q => (((q.2 : Nat) : Int), q.1)).map (·.1) = upto line.length := by
  rw [List.map_map]
  unfold upto
  rw [List.range_eq_range', ← List.zipIdx_map_snd 0 line, List.map_map]
  rfl
theorem allM_nums {s l p : Int} {line : List Int} (hl : 0 ≤ l) (h : ∀ x ∈ line, x ≤ s) : ((allM s l p line).flatten.map (·.1)).Perm (upto line.length) := by
  have := (allM_perm (p := p) hl h).map (fun k : Int × Int => k.1)
  rw [zip_nums, List.map_map] at this
  exact this
theorem allM_size {s l p : Int} {line : List Int} (hl : 0 ≤ l) (h : ∀ x ∈ line, x ≤ s) : ∀ r ∈ (allM s l p line).flatten, 0 ≤ r.1 ∧ r.1 < line.length ∧ line[r.1.toNat]? = some r.2.1 := fun r hr => by
  have h1 : key r ∈ (allM s l p line).flatten.map key := List.mem_map_of_mem hr
  have h2 := (allM_perm (p := p) hl h).mem_iff.mp h1
  obtain ⟨q, hq, e⟩ := List.mem_map.mp h2
  obtain ⟨_, h3, e2⟩ := List.mem_zipIdx hq
  simp at e2 h3
  have ea : ((q.2 : Nat) : Int) = r.1 := congrArg Prod.fst e
  have eb : q.1 = r.2.1 := congrArg Prod.snd e
  refine ⟨by omega, by omega, ?_⟩
  rw [← eb, ← ea, Int.toNat_natCast, List.getElem?_eq_getElem h3, e2]
theorem upto_nodup (n : Nat) : (upto n).Nodup := by
  unfold upto
  rw [List.nodup_iff_pairwise_ne, List.pairwise_map]
  exact List.pairwise_lt_range.imp fun h => by omega
theorem upto_sorted (n : Nat) : (upto n).Pairwise (· ≤ ·) := by
  unfold upto
  rw [List.pairwise_map]
  exact List.pairwise_lt_range.imp fun h => by omega
theorem upto_get {n i : Nat} (h : i < n) : (upto n)[i]? = some (i : Int) := by simp [upto, h]
/-! ### ranges -/
theorem iterR1_of {f : M U} {n : Int} {env e : DEnv} (h : f env = .ok (.w (.v (.int n))) e) (b1 : -1000000 ≤ n) (b2 : n ≤ 1000000) : iterR1 f env = .ok (rangeD 0 n) e := by
  have hb : -2 ^ 62 ≤ n ∧ n < 2 ^ 62 := by
    constructor
    · exact Int.le_trans (by decide) b1
    · exact Int.lt_of_le_of_lt b2 (by decide)
  rw [iterR1_ap, show evs [f] env = .ok [.w (.v (.int n))] e by simp [h]]
  exact if_pos hb
theorem iterR2_of {f g : M U} {m n : Int} {env e1 e : DEnv} (hf : f env = .ok (.w (.v (.int m))) e1) (h : g e1 = .ok (.w (.v (.int n))) e) (a1 : -1000000 ≤ m) (a2 : m ≤ 1000000) (b1 : -1000000 ≤ n) (b2 : n ≤ 1000000) : iterR2 f g env = .ok (rangeD m n) e := by
  have hb : (-2 ^ 62 ≤ m ∧ m < 2 ^ 62) ∧ (-2 ^ 62 ≤ n ∧ n < 2 ^ 62) :=
    ⟨⟨Int.le_trans (by decide) a1, Int.lt_of_le_of_lt a2 (by decide)⟩, Int.le_trans (by decide) b1, Int.lt_of_le_of_lt b2 (by decide)⟩
  rw [iterR2_ap, show evs [f, g] env = .ok [.w (.v (.int m)), .w (.v (.int n))] e by simp [hf, h]]
  exact if_pos hb
theorem len_dI {i : Nat} {env : DEnv} {xs : List Int} (h : env[i]? = some (some (.v (dI xs)))) : opN gLen [eVar i] env = .ok (.w (.v (.int (xs.length : Nat)))) env := by
  have : eVar i env = .ok (.w (.v (dI xs))) env := by unfold eVar; rw [h]
  rw [opN_ap, show evs [eVar i] env = .ok [.w (.v (dI xs))] env by simp [h]]
  simp [dI]
theorem rangeD_upto (n : Nat) : rangeD 0 (n : Int) = (upto n).map D.int := by
  unfold rangeD upto
  simp
theorem call_of {g : List W → RF} {ms : List (Option Nat)} {fs : List (M U)} {env e1 e2 e3 : DEnv} {us : List U} {l : List (Option D)} {ws ws' : List W} {w : W} (h1 : evs fs env = .ok us e1) (h2 : frzM ms e1 us = some (l, e2)) (h3 : takeW e2 ms l = some ws) (h4 : g ws = .ok w ws') (h5 : putW ms ws' e2 = some e3) : callF g ms fs env = .ok (.w w) e3 := by
  rw [callF_ap, h1, R.bind_ok, h2]
  dsimp only
  rw [h3]
  dsimp only
  rw [h4]
  dsimp only
  rw [h5]
theorem ev_law_pick {ns : List Int} {k : Nat} {town ds : List D} (T0 : TownOk ns k town) (hk : k < 2 ^ 40) (h1 : ds ≠ []) (h2 : ds.length ≤ 1000) :
    ∃ d t', d ∈ ds ∧ g_law_pick [.v (.scr ns), .l true town, .v (.lst ds)] = .ok (.v d) [.v (.scr ns), .l true t', .v (.lst ds)] ∧ TownOk ns (k + 1) t' := by
  have hp : 0 < ds.length := List.length_pos_iff.mpr h1
  obtain ⟨v, t1, e1, b1, T1⟩ := ev_draw (m := (ds.length : Nat)) T0 hk (by omega) (by omega)
  have hv : v.toNat < ds.length := by omega
  refine ⟨ds[v.toNat], t1, List.getElem_mem hv, ?_, T1⟩
  rw [g_law_pick, mkFn_ap, b_law_pick]
  have ha : atI ds v = some ds[v.toNat] := by rw [atI_of b1.1, List.getElem?_eq_getElem hv]
  simp [e1, ha]
/-! ### a drawn day -/
theorem for_day {ns : List Int} {s l p q : Int} (hs : 1 ≤ s ∧ s ≤ 6) : ∀ (xs : List D) (k : Nat) (town : List D) (day : List Beat) (x5 x6 : Option D), TownOk ns k town → k + 2000 * xs.length + 4000 < 2 ^ 40 → day.length + xs.length ≤ 1000 → (∀ b ∈ day, okB s b) →
    ∃ (day' : List Beat) (k' : Nat) (t' : List D) (y5 y6 : Option D), forD m_law_day_0 lb_law_day_0 xs [some (.v (.scr ns)), some (.l true town), some (.v (dL s l p)), some (.v (.int q)), some (.l false (day.map dB)), x5.map .v, x6.map .v] = .ok .next [some (.v (.scr ns)), some (.l true t'), some (.v (dL s l p)), some (.v (.int q)), some (.l false (day'.map dB)), y5.map .v, y6.map .v] ∧ day'.length = day.length + xs.length ∧ (∀ b ∈ day', okB s b) ∧ TownOk ns k' t' ∧ k' ≤ k + 2000 * xs.length
  | [], k, town, day, x5, x6, T, hk, hn, hd => ⟨day, k, town, x5, x6, by rw [forD], rfl, hd, T, by simp⟩
  | x :: xs, k, town, day, x5, x6, T, hk, hn, hd => by
    have hl : (x :: xs).length = xs.length + 1 := rfl
    obtain ⟨d, t1, m1, e1, T1⟩ := ev_law_pick (ds := [.int 0, .int 1, .int 1, .int 2, .int 4]) T (by omega) (by simp) (by simp)
    obtain ⟨n, rfl, hn0, hn4⟩ : ∃ n : Int, d = .int n ∧ 0 ≤ n ∧ n ≤ 4 := by
      simp at m1
      rcases m1 with rfl | rfl | rfl | rfl <;> exact ⟨_, rfl, by decide, by decide⟩
    obtain ⟨gs, k2, t2, e2, ⟨b2, c2⟩, T2, hk2⟩ := ev_law_groups (m := s) (q := n) T1 (by omega) (by omega) hn0 (by omega) (by omega)
    obtain ⟨v, t3, e3, b3, T3⟩ := ev_draw (m := 4) T2 (by omega) (by decide) (by decide)
    have ob : okB s (gs, v) := ⟨⟨by show (gs.length : Int) ≤ 4; omega, c2⟩, by show 0 ≤ v; omega, by show v ≤ 9; omega⟩
    obtain ⟨day', k', t', y5, y6, h1, h2, h3, h4, h5⟩ := for_day (ns := ns) (l := l) (p := p) (q := q) hs xs (k2 + 1) t3 (day ++ [(gs, v)]) (some x) (some (dI gs)) T3 (by omega) (by simp; omega) (fun b hb => by
      rcases List.mem_append.mp hb with z | z
      · exact hd b z
      · rw [show b = (gs, v) by simpa using z]; exact ob)
    refine ⟨day', k', t', y5, y6, ?_, by rw [h2]; simp; omega, h3, h4, by omega⟩
    have hi : gIx [dL s l p, .int 0] = some (.v (.int s)) := rfl
    have hday : day.length < 1000000 := by omega
    have hb : (m_law_day_0 x [some (.v (.scr ns)), some (.l true town), some (.v (dL s l p)), some (.v (.int q)), some (.l false (day.map dB)), x5.map .v, x6.map .v]) = some [some (.v (.scr ns)), some (.l true town), some (.v (dL s l p)), some (.v (.int q)), some (.l false (day.map dB)), some (.v x), x6.map .v] := by
      unfold m_law_day_0
      cases x5 <;> simp [mName, setS]
    have hb2 : lb_law_day_0 [some (.v (.scr ns)), some (.l true town), some (.v (dL s l p)), some (.v (.int q)), some (.l false (day.map dB)), some (.v x), x6.map .v] = .ok .next [some (.v (.scr ns)), some (.l true t3), some (.v (dL s l p)), some (.v (.int q)), some (.l false ((day ++ [(gs, v)]).map dB)), some (.v x), some (.v (dI gs))] := by
      unfold lb_law_day_0
      cases x6 <;> simp [e1, hi, e2, e3, hday, dB]
    rw [forD, hb]
    dsimp only
    rw [hb2]
    exact h1
theorem ev_law_day {ns : List Int} {k : Nat} {town : List D} {s l p : Int} (T : TownOk ns k town) (hk : k ≤ 100000) (hs : 1 ≤ s ∧ s ≤ 6) :
    ∃ (day : List Beat) (k' : Nat) (t' : List D), g_law_day [.v (.scr ns), .l true town, .v (dL s l p), .v (.int 4)] = .ok (.v (dDay day)) [.v (.scr ns), .l true t', .v (dL s l p), .v (.int 4)] ∧ okDay s day ∧ TownOk ns k' t' ∧ k' ≤ k + 10000 := by
  obtain ⟨v, t1, e1, b1, T1⟩ := ev_draw (m := 4) T (by omega) (by decide) (by decide)
  have hl : (rangeD 0 (1 + v)).length = (1 + v).toNat := by simp [rangeD]
  obtain ⟨day', k', t', y5, y6, h1, h2, h3, h4, h5⟩ := for_day (ns := ns) (l := l) (p := p) (q := 4) hs (rangeD 0 (1 + v)) (k + 1) t1 [] none none T1 (by rw [hl]; omega) (by rw [hl]; simp; omega) (by simp)
  rw [hl] at h2 h5
  refine ⟨day', k', t', ?_, ⟨⟨by simp at h2; omega, by simp at h2; omega⟩, h3⟩, h4, by omega⟩
  have it := iterR1_of (f := opN gAdd [(eD (.int 1)), (callF g_law_draw [none, some 1, none] [(eVar 0), (eVar 1), (eVar 3)])]) (n := 1 + v) (env := [some (.v (.scr ns)), some (.l true town), some (.v (dL s l p)), some (.v (.int 4)), some (.l false []), none, none]) (e := [some (.v (.scr ns)), some (.l true t1), some (.v (dL s l p)), some (.v (.int 4)), some (.l false []), none, none]) (by simp [e1]) (by omega) (by omega)
  rw [g_law_day, mkFn_ap, b_law_day]
  have h1' : forD m_law_day_0 lb_law_day_0 (rangeD 0 (1 + v)) [some (.v (.scr ns)), some (.l true t1), some (.v (dL s l p)), some (.v (.int 4)), some (.l false []), none, none] = _ := h1
  cases y5 <;> cases y6 <;> simp [it, h1', dDay, -iterR1_ap]
end Lw

namespace Lw
open PySem PySem.Spec PyProof.Rows L2 DL
/-! ### what is refused -/
@[simp ↓] theorem sTry_ap (cs : List Str) (i j : Nat) (fb : M Fl) (env : DEnv) : sTry cs i j fb env = (match fb env with
  | .raise c e1 => if c ∈ cs then (match setS j (.v (.nam true c)) e1 with
      | some e2 => (match clrS i e2 with
        | some e3 => .ok .next e3
        | none => .stuck)
      | none => .stuck) else .stuck
  | r => r : R Fl) := by
  unfold sTry
  cases fb env <;> rfl
theorem gIsiE_nn {cs ts : List Str} {c c' : Str} (h1 : c ∈ cs) (h2 : c' ∈ ts) : gIsiE cs ts [.nam true c, .nam false c'] = some (.v (.bl (excSub c c'))) := if_pos ⟨h1, h2⟩
theorem gIsiE_nt {cs ts : List Str} {c : Str} (h1 : c ∈ cs) : gIsiE cs ts [.nam true c, .ty "ValueError"] = some (.v (.bl true)) := if_pos ⟨h1, rfl⟩
@[simp] theorem isNonD_nam (b : Bool) (c : Str) : isNonD (.nam b c) = false := rfl
def wordL : List Str := ["BadLoader", "BadLine", "BadNumber", "BadPlace", "BadLoading", "BadWeights", "BadDay", "BadSeen", "Full", "NoBack", "BadText"]
theorem idx_rep : ∀ (k n : Nat), (List.replicate k false ++ true :: List.replicate n false).findIdx? (fun b => b) = some k
  | 0, n => by simp [List.findIdx?_cons]
  | k + 1, n => by
    rw [List.replicate_succ, List.cons_append, List.findIdx?_cons, idx_rep k n]
    rfl
theorem ev_law_word {c : Str} {k : Nat} (hc : c ∈ raisedL) (hk : wordL.map (excSub c) = (List.replicate k false) ++ true :: List.replicate (10 - k) false) (hk2 : k ≤ 10) : g_law_word [.v (.nam true c)] = .ok (.v (.int (k : Nat))) [.v (.nam true c)] := by
  have h := fun c' (h2 : c' ∈ testedL) => gIsiE_nn (cs := raisedL) (ts := testedL) (c' := c') hc h2
  have b1 := h "BadLoader" (by decide +kernel)
  have b2 := h "BadLine" (by decide +kernel)
  have b3 := h "BadNumber" (by decide +kernel)
  have b4 := h "BadPlace" (by decide +kernel)
  have b5 := h "BadLoading" (by decide +kernel)
  have b6 := h "BadWeights" (by decide +kernel)
  have b7 := h "BadDay" (by decide +kernel)
  have b8 := h "BadSeen" (by decide +kernel)
  have b9 := h "Full" (by decide +kernel)
  have b10 := h "NoBack" (by decide +kernel)
  have b11 := h "BadText" (by decide +kernel)
  have b0 := gIsiE_nt (cs := raisedL) (ts := testedL) hc
  have e : wordL.map (excSub c) = [excSub c "BadLoader", excSub c "BadLine", excSub c "BadNumber", excSub c "BadPlace", excSub c "BadLoading", excSub c "BadWeights", excSub c "BadDay", excSub c "BadSeen", excSub c "Full", excSub c "NoBack", excSub c "BadText"] := rfl
  have el : [D.bl (excSub c "BadLoader"), D.bl (excSub c "BadLine"), D.bl (excSub c "BadNumber"), D.bl (excSub c "BadPlace"), D.bl (excSub c "BadLoading"), D.bl (excSub c "BadWeights"), D.bl (excSub c "BadDay"), D.bl (excSub c "BadSeen"), D.bl (excSub c "Full"), D.bl (excSub c "NoBack"), D.bl (excSub c "BadText")] = (List.replicate k false ++ true :: List.replicate (10 - k) false).map D.bl := by
    rw [← hk, e]; rfl
  have gc : gCntB [.lst [D.bl (excSub c "BadLoader"), D.bl (excSub c "BadLine"), D.bl (excSub c "BadNumber"), D.bl (excSub c "BadPlace"), D.bl (excSub c "BadLoading"), D.bl (excSub c "BadWeights"), D.bl (excSub c "BadDay"), D.bl (excSub c "BadSeen"), D.bl (excSub c "Full"), D.bl (excSub c "NoBack"), D.bl (excSub c "BadText")], .bl true] = some (.v (.int 1)) := by
    rw [el]
    show (blsOf _).map _ = _
    rw [blsOf_map]
    simp [List.count_append, List.count_replicate]
  have gi : gIdx [.lst [D.bl (excSub c "BadLoader"), D.bl (excSub c "BadLine"), D.bl (excSub c "BadNumber"), D.bl (excSub c "BadPlace"), D.bl (excSub c "BadLoading"), D.bl (excSub c "BadWeights"), D.bl (excSub c "BadDay"), D.bl (excSub c "BadSeen"), D.bl (excSub c "Full"), D.bl (excSub c "NoBack"), D.bl (excSub c "BadText")], .bl true] = some (.v (.int (k : Nat))) := by
    rw [el]
    show (if (fine 60 (.lst _) && fine 60 (.bl true)) = true then _ else _) = _
    rw [(en_lst en_bl).fn _ 60 (by decide), show fine 60 (.bl true) = true from rfl, Bool.and_self, if_pos rfl, idxD_bl, idx_rep]
    rfl
  have g1 : gEq [.int 1, .int 1] = some (.v (.bl true)) := (gEq_en en_int 1 1).trans (by simp)
  rw [g_law_word, mkFn_ap, b_law_word]
  simp [b0, b1, b2, b3, b4, b5, b6, b7, b8, b9, b10, b11, gc, gi, g1]
theorem told_raise {way some' : D} {c : Str} {k : Nat} (hc : c ∈ raisedL) (hw : g_law_word [.v (.nam true c)] = .ok (.v (.int (k : Nat))) [.v (.nam true c)]) (h : g_law_one [.v way, .v some'] = .raise c [.v way, .v some']) : g_law_told [.v way, .v some'] = .ok (.v (.tup [.str "refused", .int (k : Nat)])) [.v way, .v some'] := by
  rw [g_law_told, mkFn_ap, b_law_told]
  simp [h, hc, hw, clrS]
theorem told_found {way some' d : D} {w : W} (hd : datW w = d) (h : g_law_one [.v way, .v some'] = .ok w [.v way, .v some']) : g_law_told [.v way, .v some'] = .ok (.v (.tup [.str "found", d])) [.v way, .v some'] := by
  subst hd
  rw [g_law_told, mkFn_ap, b_law_told]
  cases w <;> simp [h, datW]
def wordsD : List D := [.str "loader", .str "line", .str "number", .str "place", .str "loading", .str "weights", .str "day", .str "seen", .str "full", .str "back", .str "text"]
theorem ev_law_refused {w : Str} {k : Nat} (h : gIdx [.lst wordsD, .str w] = some (.v (.int (k : Nat)))) : g_law_refused [.v (.str w)] = .ok (.v (.tup [.str "refused", .int (k : Nat)])) [.v (.str w)] := by
  rw [g_law_refused, mkFn_ap, b_law_refused]
  unfold wordsD at h
  simp [h]
theorem gIdx_number : gIdx [.lst wordsD, .str "number"] = some (.v (.int ((2 : Nat) : Int))) := by kernel_rfl
/-! ### what the law is told of a text -/
theorem word_text : g_law_word [.v (.nam true "BadText")] = .ok (.v (.int ((10 : Nat) : Int))) [.v (.nam true "BadText")] := ev_law_word (k := 10) (by decide +kernel) (by decide +kernel) (by decide)
def refT : D := .tup [.str "refused", .int ((10 : Nat) : Int)]
def fndT (t : Str) : D := .tup [.str "found", .str t]
theorem gIdx_text : gIdx [.lst wordsD, .str "text"] = some (.v (.int ((10 : Nat) : Int))) := by kernel_rfl
theorem ref_text : g_law_refused [.v (.str "text")] = .ok (.v refT) [.v (.str "text")] := ev_law_refused gIdx_text
def raises (s l p : Int) (how : Int) (d : D) : Prop := g_law_one [.v (.int how), .v (.tup [dL s l p, d])] = .raise "BadText" [.v (.int how), .v (.tup [dL s l p, d])]
theorem told_no {s l p how : Int} {d : D} (h : raises s l p how d) : g_law_told [.v (.int how), .v (.tup [dL s l p, d])] = .ok (.v refT) [.v (.int how), .v (.tup [dL s l p, d])] := told_raise (by decide +kernel) word_text h
theorem one0 {s l p : Int} {t : Str} (ht : asc t) (hl : t.length ≤ 1000) : (okRdL t → g_law_one [.v (.int 0), .v (.tup [dL s l p, .str t])] = .ok (.v (.str t)) [.v (.int 0), .v (.tup [dL s l p, .str t])]) ∧ (¬ okRdL t → raises s l p 0 (.str t)) := by
  obtain ⟨h1, h2⟩ := ev_read_loader ht hl
  constructor
  · intro h
    have e1 := h1 h
    have e2 := ev_loader_text h.1
    rw [h.2] at e2
    rw [g_law_one, mkFn_ap, b_law_one]
    simp [e1, e2]
  · intro h
    unfold raises
    have e1 := h2 h
    rw [g_law_one, mkFn_ap, b_law_one]
    simp [e1]
theorem one1 {s l p : Int} {t : Str} (h : okLd s l p) (ht : asc t) (hl : t.length ≤ 1000) : (grB s 24 (partM t 32) → g_law_one [.v (.int 1), .v (.tup [dL s l p, .str t])] = .ok (.v (.str t)) [.v (.int 1), .v (.tup [dL s l p, .str t])]) ∧ (¬ grB s 24 (partM t 32) → raises s l p 1 (.str t)) := by
  obtain ⟨h1, h2⟩ := ev_read_line h ht hl
  constructor
  · intro hg
    have e1 := h1 hg
    have e2 := ev_line_text h hg
    rw [join_part (grB_digs h.1.2 hg)] at e2
    rw [g_law_one, mkFn_ap, b_law_one]
    simp [e1, e2]
  · intro hg
    unfold raises
    have e1 := h2 hg
    rw [g_law_one, mkFn_ap, b_law_one]
    simp [e1]
theorem one2 {s l p : Int} {t : Str} (h : okLd s l p) (ht : asc t) (hl : t.length ≤ 1000) : (okDay s (rdDay t) → g_law_one [.v (.int 2), .v (.tup [dL s l p, .str t])] = .ok (.v (.str t)) [.v (.int 2), .v (.tup [dL s l p, .str t])]) ∧ (¬ okDay s (rdDay t) → raises s l p 2 (.str t)) := by
  obtain ⟨h1, h2⟩ := ev_read_day h ht hl
  constructor
  · intro hg
    have e1 := h1 hg
    have e2 := ev_day_text h hg
    rw [day_rdDay h.1.2 hg] at e2
    rw [g_law_one, mkFn_ap, b_law_one]
    simp [e1, e2]
  · intro hg
    unfold raises
    have e1 := h2 hg
    rw [g_law_one, mkFn_ap, b_law_one]
    simp [e1]
theorem told_any {s l p how : Int} {t : Str} (h : okLd s l p) (ht : asc t) (hl : t.length ≤ 1000) (hh : how = 0 ∨ how = 1 ∨ how = 2) : ∃ d, g_law_told [.v (.int how), .v (.tup [dL s l p, .str t])] = .ok (.v d) [.v (.int how), .v (.tup [dL s l p, .str t])] ∧ (d = refT ∨ d = fndT t) := by
  rcases hh with rfl | rfl | rfl
  · by_cases c : okRdL t
    · exact ⟨_, told_found rfl ((one0 ht hl).1 c), .inr rfl⟩
    · exact ⟨_, told_no ((one0 ht hl).2 c), .inl rfl⟩
  · by_cases c : grB s 24 (partM t 32)
    · exact ⟨_, told_found rfl ((one1 h ht hl).1 c), .inr rfl⟩
    · exact ⟨_, told_no ((one1 h ht hl).2 c), .inl rfl⟩
  · by_cases c : okDay s (rdDay t)
    · exact ⟨_, told_found rfl ((one2 h ht hl).1 c), .inr rfl⟩
    · exact ⟨_, told_no ((one2 h ht hl).2 c), .inl rfl⟩
theorem raises_not {s l p how : Int} {d : D} (h : okLd s l p) (hd : isTy d "str" = some false) (hh : how = 0 ∨ how = 1 ∨ how = 2) : raises s l p how d := by
  unfold raises
  have e0 := read_loader_not hd
  have e1 := read_line_not h hd
  have e2 := read_day_not h hd
  rcases hh with rfl | rfl | rfl
  · rw [g_law_one, mkFn_ap, b_law_one]; simp [e0]
  · rw [g_law_one, mkFn_ap, b_law_one]; simp [e1]
  · rw [g_law_one, mkFn_ap, b_law_one]; simp [e2]
/-! bad ones -/
theorem rdL_len {t : Str} (h : okRdL t) : t.length = 23 := by
  rw [← h.2]
  exact len_text _ _ _
theorem numIn_empty : numIn Str.empty = -1 := rfl
theorem cl_empty : cl Str.empty = [] := rfl
theorem join_snoc (c : Nat) : ∀ {ws : List Str}, ws ≠ [] → Str.join (sg c) (ws ++ [Str.empty]) = Str.join (sg c) ws ++ sg c
  | [], h => absurd rfl h
  | [x], _ => by
    show x ++ sg c ++ Str.empty = x ++ sg c
    rw [Str.append_empty]
  | x :: y :: r, _ => by
    rw [List.cons_append, List.cons_append, join_cons2, join_cons2, ← List.cons_append, join_snoc c (by simp), Str.append_assoc]
    simp only [Str.append_assoc]
theorem spl_snoc (t : Str) (c : Nat) : Txt.split (t ++ sg c) (sg c) = Txt.split t (sg c) ++ [Str.empty] := by
  refine join_uniq (split_ne _ _) (by simp) (split_fr _ _) (fun w hw => ?_) ?_
  · rcases List.mem_append.mp hw with h | h
    · exact split_fr _ _ w h
    · rw [show w = Str.empty by simpa using h]
      exact fun z => by cases z
  · rw [join_snoc c (split_ne _ _), StrLaws.join_split, StrLaws.join_split]
theorem spl_front (t : Str) (c : Nat) : Txt.split (sg c ++ t) (sg c) = Str.empty :: Txt.split t (sg c) := by
  refine join_uniq (split_ne _ _) (by simp) (split_fr _ _) (fun w hw => ?_) ?_
  · rcases List.mem_cons.mp hw with h | h
    · rw [h]
      exact fun z => by cases z
    · exact split_fr _ _ w h
  · cases e : Txt.split t (sg c) with
    | nil => exact absurd e (split_ne _ _)
    | cons y r =>
      rw [join_cons2, ← e, StrLaws.join_split, StrLaws.join_split, Str.empty_append]
theorem bad_line_of {s : Int} {t : Str} (h : -1 ∈ partM t 32) : ¬ grB s 24 (partM t 32) := fun z => by have := (z.2 _ h).1; omega
theorem snoc_ne (t : Str) : t ++ sg 32 ≠ minusS := fun z => by
  have := congrArg cl z
  rw [cl_app] at this
  have e : (cl t ++ [32]).getLast? = [45].getLast? := congrArg List.getLast? this
  simp at e
theorem front_ne (t : Str) : sg 32 ++ t ≠ minusS := fun z => by
  have := congrArg cl z
  rw [cl_app] at this
  have e : (32 :: cl t) = [45] := this
  simp at e
theorem bad_snoc1 {s : Int} {t : Str} : ¬ grB s 24 (partM (t ++ sg 32) 32) := bad_line_of (by
  unfold partM
  rw [if_neg (snoc_ne t), spl_snoc, List.map_append]
  simp [numIn_empty])
theorem bad_front1 {s : Int} {t : Str} : ¬ grB s 24 (partM (sg 32 ++ t) 32) := bad_line_of (by
  unfold partM
  rw [if_neg (front_ne t), spl_front]
  simp [numIn_empty])
theorem rdB_empty : (rdB Str.empty).2 = -1 := by decide +kernel
theorem bad_day_of {s : Int} {t : Str} (h : ∃ b ∈ rdDay t, b.2 = -1) : ¬ okDay s (rdDay t) := fun z => by
  obtain ⟨b, hb, e⟩ := h
  have := (z.2 b hb).2.1
  omega
theorem bad_snoc2 {s : Int} {t : Str} : ¬ okDay s (rdDay (t ++ sg 32)) := bad_day_of ⟨rdB Str.empty, by unfold rdDay; rw [spl_snoc]; simp, rdB_empty⟩
theorem bad_front2 {s : Int} {t : Str} : ¬ okDay s (rdDay (sg 32 ++ t)) := bad_day_of ⟨rdB Str.empty, by unfold rdDay; rw [spl_front]; simp, rdB_empty⟩
def litsL : List Str := [Str.ofString "", Str.ofString " ", Str.ofString "- -", Str.ofString "1 ", Str.ofString "x", Str.ofString "-/", Str.ofString "/1"]
theorem lits_chk : (litsL.all fun t => decide (t.length ≤ 3) && (t.cps.toList.all fun c => decide (c < 128)) && decide (-1 ∈ partM t 32) && ((rdDay t).any fun b => decide (b.2 = -1) || decide (-1 ∈ b.1))) = true := by decide +kernel
theorem lits_bad {s l p how : Int} {t : Str} (h : okLd s l p) (hh : how = 0 ∨ how = 1 ∨ how = 2) (ht : t ∈ litsL) : raises s l p how (.str t) := by
  have c := List.all_eq_true.mp lits_chk t ht
  simp only [Bool.and_eq_true, decide_eq_true_eq, List.all_eq_true, List.any_eq_true, Bool.or_eq_true] at c
  obtain ⟨⟨⟨c1, c2⟩, c3⟩, b, hb, c4⟩ := c
  have ha : asc t := fun k hk => by simpa using c2 k hk
  rcases hh with rfl | rfl | rfl
  · exact (one0 ha (by omega)).2 fun z => by have := rdL_len z; omega
  · exact (one1 h ha (by omega)).2 (bad_line_of c3)
  · refine (one2 h ha (by omega)).2 fun z => ?_
    have := z.2 b hb
    rcases c4 with c4 | c4
    · have := this.2.1
      omega
    · have := (this.1.2 _ c4).1
      omega
theorem snoc_bad {s l p how : Int} {t : Str} (h : okLd s l p) (hh : how = 0 ∨ how = 1 ∨ how = 2) (ht : asc t) (hl : t.length ≤ 900) (h0 : how = 0 → t.length = 23) : raises s l p how (.str (t ++ sg 32)) ∧ raises s l p how (.str (sg 32 ++ t)) := by
  have a1 : asc (t ++ sg 32) := asc_app ht (asc_sg (by decide))
  have a2 : asc (sg 32 ++ t) := asc_app (asc_sg (by decide)) ht
  have l1 : (t ++ sg 32).length = t.length + 1 := Str.length_append _ _
  have l2 : (sg 32 ++ t).length = 1 + t.length := Str.length_append _ _
  rcases hh with rfl | rfl | rfl
  · have := h0 rfl
    exact ⟨(one0 a1 (by omega)).2 fun z => by have := rdL_len z; omega, (one0 a2 (by omega)).2 fun z => by have := rdL_len z; omega⟩
  · exact ⟨(one1 h a1 (by omega)).2 bad_snoc1, (one1 h a2 (by omega)).2 bad_front1⟩
  · exact ⟨(one2 h a1 (by omega)).2 bad_snoc2, (one2 h a2 (by omega)).2 bad_front2⟩
end Lw

namespace Lw
open PySem PySem.Spec PyProof.Rows L2 DL
/-! ### chairs as a text -/
def szA (line : List Int) (x : Int) : Int := line.getD x.toNat 0
def ctext (line : List Int) (c : List Int) : Str := joinM (c.map (szA line)) 43
def barS : Str := Str.ofString " | "
theorem asc_bar : asc barS := by
  have : (barS.cps.toList.all fun c => decide (c < 128)) = true := by kernel_rfl
  exact fun c hc => by simpa using List.all_eq_true.mp this c hc
theorem len_bar : barS.length = 3 := by kernel_rfl
theorem asc_joinG {sep : Str} (hs : asc sep) : ∀ {ws : List Str}, (∀ w ∈ ws, asc w) → asc (Txt.join sep ws) := fun {ws} h => by
  rw [show Txt.join sep ws = Str.join sep ws from StrLaws.glued_eq_join _ _]
  induction ws with
  | nil => intro k hk; cases hk
  | cons w r ih =>
    cases r with
    | nil => exact h w (by simp)
    | cons y r => exact asc_app (asc_app (h w (by simp)) hs) (ih fun z hz => h z (List.mem_cons_of_mem _ hz))
theorem chair_in {s l p : Int} {line : List Int} (h : okLd s l p) (hl : okLn s line) {c : List Int} (hc : c ∈ chairsM s l p line) : c.length ≤ 24 ∧ ∀ x ∈ c, 0 ≤ x ∧ x < line.length := by
  obtain ⟨sit, hs, rfl⟩ := List.mem_map.mp hc
  refine ⟨?_, fun x hx => ?_⟩
  · have := (allM_len (s := s) (l := l) (p := p) (line := line)).2 sit hs
    have e := (sortI_perm (sit.map (·.1))).length_eq
    rw [List.length_map] at e
    have := hl.1
    omega
  · have hx := (sortI_perm (sit.map (·.1))).mem_iff.mp hx
    obtain ⟨r, hr, rfl⟩ := List.mem_map.mp hx
    have := (allM_ok h hl).1 r (List.mem_flatten.mpr ⟨sit, hs, hr⟩)
    exact this.1
theorem szA_ok {s : Int} {line : List Int} (hl : okLn s line) {x : Int} (h : 0 ≤ x ∧ x < line.length) : gIx [dI line, .int x] = some (.v (.int (szA line x))) ∧ 1 ≤ szA line x ∧ szA line x ≤ s := by
  have hx : x.toNat < line.length := by omega
  have e : szA line x = line[x.toNat] := by simp [szA, hx]
  refine ⟨?_, ?_⟩
  · show (atI (line.map D.int) x).map W.v = _
    rw [atI_of h.1, List.getElem?_map, List.getElem?_eq_getElem hx, e]
    rfl
  · rw [e]
    exact hl.2 _ (List.getElem_mem hx)
theorem sz_digs {s : Int} {line c : List Int} (hs : s ≤ 6) (hl : okLn s line) (hc : ∀ x ∈ c, 0 ≤ x ∧ x < line.length) : digs (c.map (szA line)) := fun y hy => by
  obtain ⟨x, hx, rfl⟩ := List.mem_map.mp hy
  have := (szA_ok hl (hc x hx)).2
  omega
theorem asc_ctext {s : Int} {line c : List Int} (hs : s ≤ 6) (hl : okLn s line) (hc : ∀ x ∈ c, 0 ≤ x ∧ x < line.length) : asc (ctext line c) := asc_joinM (by decide) (sz_digs hs hl hc)
theorem gNe_strs {ws : List Str} (h : ∀ w ∈ ws, asc w) : gNe [.lst (ws.map D.str), .lst []] = some (.v (.bl (!decide (ws = [])))) := by
  show (if (fine 60 (.lst (ws.map D.str)) && fine 60 (.lst [])) = true then _ else _) = _
  have h1 : fine 60 (.lst (ws.map D.str)) = true := fine_lst (by
    rw [List.all_eq_true]
    intro d hd
    obtain ⟨w, hw, rfl⟩ := List.mem_map.mp hd
    exact asc_ok (h w hw))
  rw [h1, show fine 60 (.lst []) = true from rfl, Bool.and_self, if_pos rfl, deq_lsts]
  cases ws with
  | nil => rw [List.map_nil, all_nil]; rfl
  | cons w r => rw [List.map_cons, all_cn]; rfl
def cT (line : List Int) (cs : List (List Int)) : Str := if cs = [] then minusS else Txt.join barS (cs.map (ctext line))
theorem asc_cT {s : Int} {line : List Int} {cs : List (List Int)} (hs : s ≤ 6) (hl : okLn s line) (hc : ∀ c ∈ cs, ∀ x ∈ c, 0 ≤ x ∧ x < line.length) : asc (cT line cs) := by
  unfold cT
  split
  · exact asc_sg (by decide)
  · refine asc_joinG asc_bar fun w hw => ?_
    obtain ⟨c, hm, rfl⟩ := List.mem_map.mp hw
    exact asc_ctext hs hl (hc c hm)
theorem ctext_len {line c : List Int} (h : c.length ≤ 24) : (ctext line c).length ≤ 49 := by
  have := joinM_len (xs := c.map (szA line)) (c := 43)
  rw [List.length_map] at this
  unfold ctext
  omega
theorem gJoin_cs {line : List Int} {cs : List (List Int)} (hc : ∀ c ∈ cs, c.length ≤ 24) (hn : cs.length ≤ 24) (h0 : cs ≠ []) : gJoin [.str barS, .lst ((cs.map (ctext line)).map D.str)] = some (.v (.str (cT line cs))) := by
  rw [gJoin_strs, if_pos]
  · unfold cT
    rw [if_neg h0]
  · have h := sum_le (k := 49) (xs := (cs.map (ctext line)).map (·.length)) (fun x hx => by
      obtain ⟨w, hw, rfl⟩ := List.mem_map.mp hx
      obtain ⟨c, hm, rfl⟩ := List.mem_map.mp hw
      exact ctext_len (hc c hm))
    rw [List.length_map, List.length_map] at h
    rw [List.length_map, len_bar]
    omega
theorem chairs_few {s l p : Int} {line : List Int} (hl : okLn s line) : (chairsM s l p line).length ≤ 24 := by
  unfold chairsM
  rw [List.length_map]
  have := (allM_len (s := s) (l := l) (p := p) (line := line)).1
  have := hl.1
  omega
theorem ev_chairs_text {s l p : Int} {line : List Int} (h : okLd s l p) (hl : okLn s line) : g_chairs_text [.v (dL s l p), .v (dI line)] = .ok (.v (.str (cT line (chairsM s l p line)))) [.v (dL s l p), .v (dI line)] := by
  have e1 := ev_look_line h hl
  have e2 := ev_all_chairs (s := s) (l := l) (p := p) (line := line) h.2.1.1 (by have := hl.1; omega) (fun x hx => (hl.2 x hx).2)
  have hin := fun c hc => chair_in h hl (c := c) hc
  have hf := chairs_few (l := l) (p := p) hl
  generalize chairsM s l p line = cs at *
  have h6 : cs.length ≤ 1000000 := by omega
  have hc := comp_map (vs := [4]) (m := mName 4) (t := tYesD) (f := callF g_joined [none, none] [(eComp (iterSeq (eVar 4)) [3] (mName 3) tYesD (opN gIx [(eVar 1), (eVar 3)])), (eD (.str "+"))]) (E0 := [some (.v (dL s l p)), some (.v (dI line)), none, none, none]) (enc := dI) (ψ := fun c => D.str (ctext line c)) cs (fun c hm rest => by
    have hh := hin c hm
    have hi := comp_map (vs := [3]) (m := mName 3) (t := tYesD) (f := opN gIx [(eVar 1), (eVar 3)]) (E0 := [some (.v (dL s l p)), some (.v (dI line)), none, none, some (.v (dI c))]) (enc := D.int) (ψ := fun x => D.int (szA line x)) c (fun x hx rest => by
      rw [compD]
      simp [(szA_ok hl (hh.2 x hx)).1])
    have ej := ev_joined (xs := c.map (szA line)) (c := 43) (d := .lst ((c.map (szA line)).map D.int)) (.inr rfl) (sz_digs h.1.2 hl hh.2) (by rw [List.length_map]; omega)
    have em : List.map (fun x => D.int (szA line x)) c = (c.map (szA line)).map D.int := by rw [List.map_map]; rfl
    rw [em] at hi
    have hcl : c.length ≤ 1000000 := by omega
    simp only [dI] at hi ⊢
    rw [compD]
    simp [hi, hcl, lit_plus, ej, ctext, -List.map_map])
  have em : List.map (fun c => D.str (ctext line c)) cs = (cs.map (ctext line)).map D.str := by rw [List.map_map]; rfl
  rw [em] at hc
  have hn := gNe_strs (ws := cs.map (ctext line)) (fun w hw => by
    obtain ⟨c, hm, rfl⟩ := List.mem_map.mp hw
    exact asc_ctext h.1.2 hl (hin c hm).2)
  have hj := fun h0 => gJoin_cs (line := line) (cs := cs) (fun c hm => (hin c hm).1) hf h0
  simp only [barS] at hj
  rw [g_chairs_text, mkFn_ap, b_chairs_text]
  by_cases h0 : cs = []
  · subst h0
    simp [e1, e2, compD, gNe_en (en_lst en_int) [] [], lit_minus, cT]
    have := (gNe_en (en_lst en_int) [] [])
    simp at this
    simp [this, lit_minus]
  · rw [decide_eq_false (show ¬ cs.map (ctext line) = [] by simpa using h0)] at hn
    simp [e1, e2, hc, h6, hn, hj h0, -List.map_map]
end Lw

namespace Lw
open PySem PySem.Spec PyProof.Rows L2 DL
/-! ### places -/
theorem atI_last {xs : List D} {x : D} : atI (xs ++ [x]) (-1) = some x := by
  unfold atI ixN
  simp
  rw [if_pos (by omega), Option.bind_some, show (-1 + ((xs.length : Int) + 1)).toNat = xs.length by omega]
  simp
theorem gMin2 (a b : Int) : gMin [.int a, .int b] = some (.v (.int (min a b))) := by
  show some (W.v (.int (if b < a then b else a))) = _
  rw [show (if b < a then b else a) = min a b by split <;> omega]
theorem ix_ints {xs : List Int} {i : Int} {x : Int} (h : 0 ≤ i) (hx : xs[i.toNat]? = some x) : atI (xs.map D.int) i = some (.int x) := by
  rw [atI_map, atI_of h, hx]
  rfl
theorem seq_next {a b : M Fl} {env e : DEnv} (h : a env = .ok .next e) : sSeq a b env = b e := by
  rw [sSeq_ap, h]
  rfl
/-! ### spoilt texts -/
theorem cl_cut (z : Str) (lo hi : Option Int) : ∀ k ∈ cl (cutS z lo hi), k ∈ cl z := fun k hk => by
  have hk : k ∈ ((z.cps.toList.drop (HT.sIx z.length 0 lo)).take (HT.sIx z.length z.length hi - HT.sIx z.length 0 lo)) := by simpa [cl, cutS] using hk
  exact List.mem_of_mem_drop (List.mem_of_mem_take hk)
theorem asc_cut {z : Str} (h : asc z) (lo hi : Option Int) : asc (cutS z lo hi) := fun k hk => h k (cl_cut z lo hi k hk)
def TXok (tx : List Str) : Prop := tx.length = 3 ∧ (∀ t ∈ tx, asc t ∧ t.length ≤ 100)
def signsD : List D := [.str " ", .str "0", .str "1", .str "-", .str "a", .str "/", .str "+", .str "9"]
theorem signs_ok {d : D} (h : d ∈ signsD) : ∃ z, d = .str z ∧ asc z ∧ z.length = 1 := by
  have key : ∀ c : Nat, c < 128 → asc (sg c) ∧ (sg c).length = 1 := fun c hc => ⟨asc_sg hc, rfl⟩
  have e0 : Str.ofString " " = sg 32 := lit_sp
  have e1 : Str.ofString "0" = sg 48 := by kernel_rfl
  have e2 : Str.ofString "1" = sg 49 := by kernel_rfl
  have e3 : Str.ofString "-" = sg 45 := by kernel_rfl
  have e4 : Str.ofString "a" = sg 97 := by kernel_rfl
  have e5 : Str.ofString "/" = sg 47 := by kernel_rfl
  have e6 : Str.ofString "+" = sg 43 := by kernel_rfl
  have e7 : Str.ofString "9" = sg 57 := by kernel_rfl
  simp only [signsD, List.mem_cons, List.not_mem_nil, or_false] at h
  rcases h with rfl | rfl | rfl | rfl | rfl | rfl | rfl | rfl
  · exact ⟨_, rfl, by rw [e0]; exact key _ (by decide)⟩
  · exact ⟨_, rfl, by rw [e1]; exact key _ (by decide)⟩
  · exact ⟨_, rfl, by rw [e2]; exact key _ (by decide)⟩
  · exact ⟨_, rfl, by rw [e3]; exact key _ (by decide)⟩
  · exact ⟨_, rfl, by rw [e4]; exact key _ (by decide)⟩
  · exact ⟨_, rfl, by rw [e5]; exact key _ (by decide)⟩
  · exact ⟨_, rfl, by rw [e6]; exact key _ (by decide)⟩
  · exact ⟨_, rfl, by rw [e7]; exact key _ (by decide)⟩
theorem asc_lit {x : Str} (h : (x.cps.toList.all fun c => decide (c < 128)) = true) : asc x := fun c hc => by simpa using List.all_eq_true.mp h c hc
theorem asc_found : asc (Str.ofString "found") := asc_lit (by kernel_rfl)
theorem asc_refused : asc (Str.ofString "refused") := asc_lit (by kernel_rfl)
theorem ne_refT : gNe [refT, refT] = some (.v (.bl false)) := by kernel_rfl
theorem eq_refT : gEq [refT, refT] = some (.v (.bl true)) := by kernel_rfl
theorem ne_fnd {t : Str} (ht : asc t) : gNe [fndT t, refT] = some (.v (.bl true)) ∧ gNe [fndT t, fndT t] = some (.v (.bl false)) := by
  have f1 : fine 60 (fndT t) = true := fine_tup (by
    show (fine 59 (.str "found") && (fine 59 (.str t) && true)) = true
    rw [show fine 59 (.str "found") = true from asc_ok asc_found, show fine 59 (.str t) = true from asc_ok ht]
    rfl)
  have f2 : fine 60 refT = true := by kernel_rfl
  constructor
  · show (if (fine 60 (fndT t) && fine 60 refT) = true then _ else _) = _
    rw [f1, f2, Bool.and_self, if_pos rfl]
    have : deq (fndT t) refT = false := by
      unfold fndT refT
      rw [deq_tups, all_cons, deq_str, decide_eq_false (by decide +kernel), Bool.false_and]
    rw [this]
    rfl
  · show (if (fine 60 (fndT t) && fine 60 (fndT t)) = true then _ else _) = _
    rw [f1, Bool.and_self, if_pos rfl]
    have : deq (fndT t) (fndT t) = true := by
      unfold fndT
      rw [deq_tups, all_cons, all_cons, deq_str, deq_str, all_nil]
      simp
    rw [this]
    rfl
abbrev envT (ns : List Int) (town : List D) (ld ln dy : D) (tx : List Str) (e8 : Option W) (x11 x12 x13 x14 x15 x16 x17 x18 x19 : Option D) : DEnv :=
  [some (.v (.scr ns)), some (.l false town), some (.v ld), some (.v ln), some (.v dy), some (.l false (tx.map D.str)), none, none, e8, none, none, x11.map .v, x12.map .v, x13.map .v, x14.map .v, x15.map .v, x16.map .v, x17.map .v, x18.map .v, x19.map .v, none, none]
theorem body_spoilt {ns : List Int} {k : Nat} {town : List D} {s l p : Int} {ln dy : D} {tx : List Str} {e8 : Option W} (j : Nat) {x12 x13 x14 x15 x16 x17 x18 x19 : Option D} (h : okLd s l p) (htx : TXok tx) (T : TownOk ns k town) (hk : k + 10 < 2 ^ 40) :
    ∃ t' y12 y13 y14 y15 y16 y17 y18 y19, lb_law_0 (envT ns town (dL s l p) ln dy tx e8 (some (.int (j : Nat))) x12 x13 x14 x15 x16 x17 x18 x19) = .ok .next (envT ns t' (dL s l p) ln dy tx e8 (some (.int (j : Nat))) y12 y13 y14 y15 y16 y17 y18 y19) ∧ TownOk ns (k + 3) t' := by
  obtain ⟨h3, hall⟩ := htx
  have hj : j % 3 < tx.length := by omega
  obtain ⟨ha, hlen⟩ := hall tx[j % 3] (List.getElem_mem hj)
  have hix : atI (tx.map D.str) ((j : Int) % 3) = some (.str tx[j % 3]) := by
    rw [atI_of (by omega), show ((j : Int) % 3).toNat = j % 3 by omega, List.getElem?_map, List.getElem?_eq_getElem hj]
    rfl
  generalize tx[j % 3] = r at *
  obtain ⟨v, t1, e1, b1, T1⟩ := ev_draw (m := (r.length : Int) + 1) T (by omega) (by omega) (by omega)
  obtain ⟨d2, t2, m2, e2, T2⟩ := ev_law_pick (ds := signsD) T1 (by omega) (by simp [signsD]) (by simp [signsD])
  obtain ⟨z, rfl, hz, hz1⟩ := signs_ok m2
  let B := cutS r none (some v)
  let A := cutS r (some v) none
  let A1 := cutS A (some 1) none
  have lB : B.length ≤ 100 := Nat.le_trans (cutS_length _ _ _) hlen
  have lA : A.length ≤ 100 := Nat.le_trans (cutS_length _ _ _) hlen
  have lA1 : A1.length ≤ 100 := Nat.le_trans (cutS_length _ _ _) lA
  have aB : asc B := asc_cut ha _ _
  have aA : asc A := asc_cut ha _ _
  have aA1 : asc A1 := asc_cut aA _ _
  obtain ⟨d3, t3, m3, e3, T3⟩ := ev_law_pick (ds := [.str (B ++ z ++ A), .str (B ++ A1), .str (B ++ z ++ A1)]) T2 (by omega) (by simp) (by simp)
  obtain ⟨sp, rfl, hsp, hspl⟩ : ∃ sp, d3 = .str sp ∧ asc sp ∧ sp.length ≤ 1000 := by
    simp only [List.mem_cons, List.not_mem_nil, or_false] at m3
    rcases m3 with rfl | rfl | rfl
    · exact ⟨_, rfl, asc_app (asc_app aB hz) aA, by rw [Str.length_append, Str.length_append]; omega⟩
    · exact ⟨_, rfl, asc_app aB aA1, by rw [Str.length_append]; omega⟩
    · exact ⟨_, rfl, asc_app (asc_app aB hz) aA1, by rw [Str.length_append, Str.length_append]; omega⟩
  obtain ⟨d4, e4, c4⟩ := told_any (how := (j : Int) % 3) h hsp hspl (by omega)
  have s12 : sSet 12 (opN gMod [(eVar 11), (eD (.int 3))]) (envT ns town (dL s l p) ln dy tx e8 (some (.int (j : Nat))) x12 x13 x14 x15 x16 x17 x18 x19) = .ok .next (envT ns town (dL s l p) ln dy tx e8 (some (.int (j : Nat))) (some (.int ((j : Int) % 3))) x13 x14 x15 x16 x17 x18 x19) := by
    cases x12 <;> simp
  have s13 : sSet 13 (opN gIx [(eVar 5), (eVar 12)]) (envT ns town (dL s l p) ln dy tx e8 (some (.int (j : Nat))) (some (.int ((j : Int) % 3))) x13 x14 x15 x16 x17 x18 x19) = .ok .next (envT ns town (dL s l p) ln dy tx e8 (some (.int (j : Nat))) (some (.int ((j : Int) % 3))) (some (.str r)) x14 x15 x16 x17 x18 x19) := by
    cases x13 <;> simp [hix]
  have s14 : sSet 14 (callF g_law_draw [none, some 1, none] [(eVar 0), (eVar 1), (opN gAdd [(opN gLen [(eVar 13)]), (eD (.int 1))])]) (envT ns town (dL s l p) ln dy tx e8 (some (.int (j : Nat))) (some (.int ((j : Int) % 3))) (some (.str r)) x14 x15 x16 x17 x18 x19) = .ok .next (envT ns t1 (dL s l p) ln dy tx e8 (some (.int (j : Nat))) (some (.int ((j : Int) % 3))) (some (.str r)) (some (.int v)) x15 x16 x17 x18 x19) := by
    have hr : r.length ≤ 1000000 := by omega
    cases x14 <;> simp [hr, e1]
  have s15 : sSet 15 (callF g_law_pick [none, some 1, none] [(eVar 0), (eVar 1), (dLst [(eD (.str " ")), (eD (.str "0")), (eD (.str "1")), (eD (.str "-")), (eD (.str "a")), (eD (.str "/")), (eD (.str "+")), (eD (.str "9"))])]) (envT ns t1 (dL s l p) ln dy tx e8 (some (.int (j : Nat))) (some (.int ((j : Int) % 3))) (some (.str r)) (some (.int v)) x15 x16 x17 x18 x19) = .ok .next (envT ns t2 (dL s l p) ln dy tx e8 (some (.int (j : Nat))) (some (.int ((j : Int) % 3))) (some (.str r)) (some (.int v)) (some (.str z)) x16 x17 x18 x19) := by
    simp only [signsD] at e2
    cases x15 <;> simp [e2]
  have s16 : sPar 16 17 [(opN gSlHS [(eVar 13), (eVar 14)]), (opN gSlLS [(eVar 13), (eVar 14)])] (envT ns t2 (dL s l p) ln dy tx e8 (some (.int (j : Nat))) (some (.int ((j : Int) % 3))) (some (.str r)) (some (.int v)) (some (.str z)) x16 x17 x18 x19) = .ok .next (envT ns t2 (dL s l p) ln dy tx e8 (some (.int (j : Nat))) (some (.int ((j : Int) % 3))) (some (.str r)) (some (.int v)) (some (.str z)) (some (.str B)) (some (.str A)) x18 x19) := by
    have hr : r.length ≤ 1000000 := by omega
    cases x16 <;> cases x17 <;> simp [hr, A, B]
  have s18 : sSet 18 (callF g_law_pick [none, some 1, none] [(eVar 0), (eVar 1), (dLst [(opN gAdd [(opN gAdd [(eVar 16), (eVar 15)]), (eVar 17)]), (opN gAdd [(eVar 16), (opN gSlLS [(eVar 17), (eD (.int 1))])]), (opN gAdd [(opN gAdd [(eVar 16), (eVar 15)]), (opN gSlLS [(eVar 17), (eD (.int 1))])])])]) (envT ns t2 (dL s l p) ln dy tx e8 (some (.int (j : Nat))) (some (.int ((j : Int) % 3))) (some (.str r)) (some (.int v)) (some (.str z)) (some (.str B)) (some (.str A)) x18 x19) = .ok .next (envT ns t3 (dL s l p) ln dy tx e8 (some (.int (j : Nat))) (some (.int ((j : Int) % 3))) (some (.str r)) (some (.int v)) (some (.str z)) (some (.str B)) (some (.str A)) (some (.str sp)) x19) := by
    have hA : A.length ≤ 1000000 := by omega
    have c1 : B.length + z.length ≤ 1000000 := by omega
    have c2 : (B ++ z).length + A.length ≤ 1000000 := by rw [Str.length_append]; omega
    have c3 : B.length + A1.length ≤ 1000000 := by omega
    have c4 : (B ++ z).length + A1.length ≤ 1000000 := by rw [Str.length_append]; omega
    simp only [A1] at e3 c3 c4
    clear_value A B
    cases x18 <;> simp [hA, c1, c2, c3, c4, e3]
  have s19 : sSet 19 (callF g_law_told [none, none] [(eVar 12), (dTup [(eVar 2), (eVar 18)])]) (envT ns t3 (dL s l p) ln dy tx e8 (some (.int (j : Nat))) (some (.int ((j : Int) % 3))) (some (.str r)) (some (.int v)) (some (.str z)) (some (.str B)) (some (.str A)) (some (.str sp)) x19) = .ok .next (envT ns t3 (dL s l p) ln dy tx e8 (some (.int (j : Nat))) (some (.int ((j : Int) % 3))) (some (.str r)) (some (.int v)) (some (.str z)) (some (.str B)) (some (.str A)) (some (.str sp)) (some d4)) := by
    clear_value A B
    cases x19 <;> simp [e4]
  have sif : sIf (tAndD (tst (opN gNe [(eVar 19), (callF g_law_refused [none] [(eD (.str "text"))])])) (tst (opN gNe [(eVar 19), (dTup [(eD (.str "found")), (eVar 18)])]))) (sRet (eD (.bl false))) sNext (envT ns t3 (dL s l p) ln dy tx e8 (some (.int (j : Nat))) (some (.int ((j : Int) % 3))) (some (.str r)) (some (.int v)) (some (.str z)) (some (.str B)) (some (.str A)) (some (.str sp)) (some d4)) = .ok .next (envT ns t3 (dL s l p) ln dy tx e8 (some (.int (j : Nat))) (some (.int ((j : Int) % 3))) (some (.str r)) (some (.int v)) (some (.str z)) (some (.str B)) (some (.str A)) (some (.str sp)) (some d4)) := by
    clear_value A B
    rcases c4 with rfl | rfl
    · simp [ref_text, ne_refT]
    · have := ne_fnd hsp
      unfold fndT at this ⊢
      simp [ref_text, this]
  refine ⟨t3, some (.int ((j : Int) % 3)), some (.str r), some (.int v), some (.str z), some (.str B), some (.str A), some (.str sp), some d4, ?_, T3⟩
  unfold lb_law_0
  rw [seq_next s12, seq_next s13, seq_next s14, seq_next s15, seq_next s16, seq_next s18, seq_next s19]
  exact sif
theorem for_spoilt {ns : List Int} {s l p : Int} {ln dy : D} {tx : List Str} {e8 : Option W} (h : okLd s l p) (htx : TXok tx) : ∀ (js : List Nat) (k : Nat) (town : List D) (x11 x12 x13 x14 x15 x16 x17 x18 x19 : Option D), TownOk ns k town → k + 10 * js.length + 10 < 2 ^ 40 →
    ∃ t' y11 y12 y13 y14 y15 y16 y17 y18 y19, forD m_law_0 lb_law_0 (js.map fun j => D.int (j : Nat)) (envT ns town (dL s l p) ln dy tx e8 x11 x12 x13 x14 x15 x16 x17 x18 x19) = .ok .next (envT ns t' (dL s l p) ln dy tx e8 y11 y12 y13 y14 y15 y16 y17 y18 y19)
  | [], k, town, x11, x12, x13, x14, x15, x16, x17, x18, x19, T, hk => ⟨town, x11, x12, x13, x14, x15, x16, x17, x18, x19, by rw [List.map_nil, forD]⟩
  | j :: js, k, town, x11, x12, x13, x14, x15, x16, x17, x18, x19, T, hk => by
    rw [List.length_cons] at hk
    obtain ⟨t1, y12, y13, y14, y15, y16, y17, y18, y19, e1, T1⟩ := body_spoilt (ln := ln) (dy := dy) (e8 := e8) j (x12 := x12) (x13 := x13) (x14 := x14) (x15 := x15) (x16 := x16) (x17 := x17) (x18 := x18) (x19 := x19) h htx T (by omega)
    obtain ⟨t2, z11, z12, z13, z14, z15, z16, z17, z18, z19, e2⟩ := for_spoilt (ln := ln) (dy := dy) (e8 := e8) h htx js (k + 3) t1 (some (.int (j : Nat))) y12 y13 y14 y15 y16 y17 y18 y19 T1 (by omega)
    refine ⟨t2, z11, z12, z13, z14, z15, z16, z17, z18, z19, ?_⟩
    have hm : m_law_0 (.int (j : Nat)) (envT ns town (dL s l p) ln dy tx e8 x11 x12 x13 x14 x15 x16 x17 x18 x19) = some (envT ns town (dL s l p) ln dy tx e8 (some (.int (j : Nat))) x12 x13 x14 x15 x16 x17 x18 x19) := by
      unfold m_law_0
      cases x11 <;> simp [mName, setS]
    rw [List.map_cons, forD, hm]
    dsimp only
    rw [e1]
    exact e2
end Lw

namespace Lw
open PySem PySem.Spec PyProof.Rows L2 DL
/-! ### bad texts -/
def badsT (r : Str) : List D := [.str "", .str " ", .str (r ++ sg 32), .str (sg 32 ++ r), .str "- -", .str "1 ", .str "x", .non, .int 5, .lst [.str r], .str "-/", .str "/1"]
theorem bads_told {s l p how : Int} {r : Str} (h : okLd s l p) (hh : how = 0 ∨ how = 1 ∨ how = 2) (ht : asc r) (hl : r.length ≤ 100) (h0 : how = 0 → r.length = 23) : ∀ d ∈ badsT r, g_law_told [.v (.int how), .v (.tup [dL s l p, d])] = .ok (.v refT) [.v (.int how), .v (.tup [dL s l p, d])] := by
  intro d hd
  refine told_no ?_
  have lit := fun t (ht : t ∈ litsL) => lits_bad (s := s) (l := l) (p := p) (how := how) (t := t) h hh ht
  obtain ⟨b1, b2⟩ := snoc_bad (s := s) (l := l) (p := p) h hh ht (by omega) h0
  simp only [badsT, List.mem_cons, List.not_mem_nil, or_false] at hd
  rcases hd with rfl | rfl | rfl | rfl | rfl | rfl | rfl | rfl | rfl | rfl | rfl | rfl
  · exact lit _ (by simp [litsL])
  · exact lit _ (by simp [litsL])
  · exact b1
  · exact b2
  · exact lit _ (by simp [litsL])
  · exact lit _ (by simp [litsL])
  · exact lit _ (by simp [litsL])
  · exact raises_not h rfl hh
  · exact raises_not h rfl hh
  · exact raises_not h rfl hh
  · exact lit _ (by simp [litsL])
  · exact lit _ (by simp [litsL])
abbrev envU (e0 e1 : Option W) (ld : D) (e3 e4 : Option W) (tx : List Str) (e8 e11 : Option W) (x12 x13 : Option D) (e14 e15 e16 e17 e18 e19 : Option W) (x20 : Option D) : DEnv :=
  [e0, e1, some (.v ld), e3, e4, some (.l false (tx.map D.str)), none, none, e8, none, none, e11, x12.map .v, x13.map .v, e14, e15, e16, e17, e18, e19, x20.map .v, none]
theorem body_bads {s l p : Int} {tx : List Str} {e0 e1 e3 e4 e8 e11 e14 e15 e16 e17 e18 e19 : Option W} (j : Nat) (hj : j < 3) {x13 x20 : Option D} (h : okLd s l p) (htx : TXok tx) (h23 : (tx.getD 0 minusS).length = 23) :
    ∃ y13 y20, lb_law_1 (envU e0 e1 (dL s l p) e3 e4 tx e8 e11 (some (.int (j : Nat))) x13 e14 e15 e16 e17 e18 e19 x20) = .ok .next (envU e0 e1 (dL s l p) e3 e4 tx e8 e11 (some (.int (j : Nat))) y13 e14 e15 e16 e17 e18 e19 y20) := by
  obtain ⟨h3, hall⟩ := htx
  have hj2 : j < tx.length := by omega
  obtain ⟨ha, hlen⟩ := hall tx[j] (List.getElem_mem hj2)
  have hix : atI (tx.map D.str) (j : Int) = some (.str tx[j]) := by
    rw [atI_of (by omega), show (j : Int).toNat = j by omega, List.getElem?_map, List.getElem?_eq_getElem hj2]
    rfl
  have h0 : (j : Int) = 0 → tx[j].length = 23 := fun z => by
    have : j = 0 := by omega
    subst this
    rw [← h23]
    simp [hj2]
  generalize tx[j] = r at *
  have ht := bads_told (s := s) (l := l) (p := p) (how := (j : Int)) h (by omega) ha hlen h0
  have s13 : sSet 13 (opN gIx [(eVar 5), (eVar 12)]) (envU e0 e1 (dL s l p) e3 e4 tx e8 e11 (some (.int (j : Nat))) x13 e14 e15 e16 e17 e18 e19 x20) = .ok .next (envU e0 e1 (dL s l p) e3 e4 tx e8 e11 (some (.int (j : Nat))) (some (.str r)) e14 e15 e16 e17 e18 e19 x20) := by
    cases x13 <;> simp [hix]
  have s20 : sSet 20 (dLst [(eD (.str "")), (eD (.str " ")), (opN gAdd [(eVar 13), (eD (.str " "))]), (opN gAdd [(eD (.str " ")), (eVar 13)]), (eD (.str "- -")), (eD (.str "1 ")), (eD (.str "x")), (eD .non), (eD (.int 5)), (dLst [(eVar 13)]), (eD (.str "-/")), (eD (.str "/1"))]) (envU e0 e1 (dL s l p) e3 e4 tx e8 e11 (some (.int (j : Nat))) (some (.str r)) e14 e15 e16 e17 e18 e19 x20) = .ok .next [e0, e1, some (.v (dL s l p)), e3, e4, some (.l false (tx.map D.str)), none, none, e8, none, none, e11, some (.v (.int (j : Nat))), some (.v (.str r)), e14, e15, e16, e17, e18, e19, some (.l false (badsT r)), none] := by
    have c1 : r.length + (sg 32).length ≤ 1000000 := by show _ + 1 ≤ _; omega
    have c2 : (sg 32).length + r.length ≤ 1000000 := by show 1 + _ ≤ _; omega
    have ls : Str.ofString " " = sg 32 := lit_sp
    cases x20 <;> simp [ls, c1, c2, badsT]
  refine ⟨some (.str r), some (.lst (badsT r)), ?_⟩
  unfold lb_law_1
  rw [seq_next s13, seq_next s20]
  have hlen12 : (badsT r).length ≤ 1000000 := by simp [badsT]
  generalize badsT r = bd at *
  have hc := comp_filt (vs := [21]) (m := mName 21) (t := tst (opN gNe [(callF g_law_told [none, none] [(eVar 12), (dTup [(eVar 2), (eVar 21)])]), (callF g_law_refused [none] [(eD (.str "text"))])])) (f := eVar 21) (E0 := [e0, e1, some (.v (dL s l p)), e3, e4, some (.l false (tx.map D.str)), none, none, e8, none, none, e11, some (.v (.int (j : Nat))), some (.v (.str r)), e14, e15, e16, e17, e18, e19, some (.v (.lst bd)), none]) (enc := id) (ψ := id) (p := fun _ => false) bd (fun d hd rest => by
    rw [compD]
    simp [ht d hd, ref_text, ne_refT])
  rw [List.map_id, List.map_id, List.filter_eq_nil_iff.mpr (by simp)] at hc
  have n0 : gNe [.lst [], .lst []] = some (.v (.bl false)) := (gNe_en (en_lst en_int) [] []).trans (by simp)
  simp [hc, hlen12, n0]
theorem for_bads {s l p : Int} {tx : List Str} {e0 e1 e3 e4 e8 e11 e14 e15 e16 e17 e18 e19 : Option W} (h : okLd s l p) (htx : TXok tx) (h23 : (tx.getD 0 minusS).length = 23) : ∀ (js : List Nat) (x12 x13 x20 : Option D), (∀ j ∈ js, j < 3) →
    ∃ y12 y13 y20, forD m_law_1 lb_law_1 (js.map fun j => D.int (j : Nat)) (envU e0 e1 (dL s l p) e3 e4 tx e8 e11 x12 x13 e14 e15 e16 e17 e18 e19 x20) = .ok .next (envU e0 e1 (dL s l p) e3 e4 tx e8 e11 y12 y13 e14 e15 e16 e17 e18 e19 y20)
  | [], x12, x13, x20, hj => ⟨x12, x13, x20, by rw [List.map_nil, forD]⟩
  | j :: js, x12, x13, x20, hj => by
    obtain ⟨y13, y20, e1'⟩ := body_bads (e0 := e0) (e1 := e1) (e3 := e3) (e4 := e4) (e8 := e8) (e11 := e11) (e14 := e14) (e15 := e15) (e16 := e16) (e17 := e17) (e18 := e18) (e19 := e19) j (hj j (by simp)) (x13 := x13) (x20 := x20) h htx h23
    obtain ⟨z12, z13, z20, e2'⟩ := for_bads (e0 := e0) (e1 := e1) (e3 := e3) (e4 := e4) (e8 := e8) (e11 := e11) (e14 := e14) (e15 := e15) (e16 := e16) (e17 := e17) (e18 := e18) (e19 := e19) h htx h23 js (some (.int (j : Nat))) y13 y20 (fun i hi => hj i (List.mem_cons_of_mem _ hi))
    refine ⟨z12, z13, z20, ?_⟩
    have hm : m_law_1 (.int (j : Nat)) (envU e0 e1 (dL s l p) e3 e4 tx e8 e11 x12 x13 e14 e15 e16 e17 e18 e19 x20) = some (envU e0 e1 (dL s l p) e3 e4 tx e8 e11 (some (.int (j : Nat))) x13 e14 e15 e16 e17 e18 e19 x20) := by
      unfold m_law_1
      cases x12 <;> simp [mName, setS]
    rw [List.map_cons, forD, hm]
    dsimp only
    rw [e1']
    exact e2'
theorem eqv_strs : ∀ ws : List Str, PyData.eqvAll (toPys (ws.map D.str)) (toPys (ws.map D.str)) = true
  | [] => all_nil
  | w :: r => by rw [List.map_cons, all_cons, deq_str, eqv_strs r]; simp
theorem gNe_lsts {ws : List Str} (h : ∀ w ∈ ws, asc w) : gNe [.lst (ws.map D.str), .lst (ws.map D.str)] = some (.v (.bl false)) := by
  show (if (fine 60 (.lst (ws.map D.str)) && fine 60 (.lst (ws.map D.str))) = true then _ else _) = _
  have h1 : fine 60 (.lst (ws.map D.str)) = true := fine_lst (by
    rw [List.all_eq_true]
    intro d hd
    obtain ⟨w, hw, rfl⟩ := List.mem_map.mp hd
    exact asc_ok (h w hw))
  rw [h1, Bool.and_self, if_pos rfl, deq_lsts, eqv_strs]
  rfl
theorem en_beat : En dB 4 := ⟨fun x y => by
  unfold dB
  rw [deq_tups, all_cons, all_cons, all_nil, en_dI.eq, deq_int]
  obtain ⟨a, b⟩ := x
  obtain ⟨c, d⟩ := y
  by_cases h1 : a = c <;> by_cases h2 : b = d <;> simp [h1, h2], fun x m h => by
  obtain ⟨m, rfl⟩ : ∃ k, m = k + 2 := ⟨m - 2, by omega⟩
  refine fine_tup ?_
  show (fine (m + 1) (dI x.1) && (fine (m + 1) (.int x.2) && true)) = true
  rw [en_dI.fn _ _ (by omega), en_int.fn _ _ (by omega)]
  rfl⟩
theorem en_day : En dDay 5 := en_tup en_beat
end Lw

namespace Lw
open PySem PySem.Spec PyProof.Rows L2 DL
theorem law_ok : lawOk g_law := by
  intro ns hns
  obtain ⟨t0, h0, T0⟩ := ev_law_town ns hns
  obtain ⟨s, l, p, t1, h1, ⟨hld, _⟩, T1⟩ := ev_law_loader (M := 6) T0 (by decide) (by decide)
  obtain ⟨line, k2, t2, h2, ⟨b2, c2⟩, T2, hk2⟩ := ev_law_groups (m := s) (q := 12) T1 (by have := hld.1.1; omega) (by have := hld.1.2; omega) (by decide) (by decide) (by decide)
  obtain ⟨day, k3, t3, h3, hday, T3, hk3⟩ := ev_law_day (l := l) (p := p) T2 (by omega) hld.1
  have hln : okLn s line := ⟨by omega, c2⟩
  have hs6 := hld.1.2
  have hgr : grB s 24 line := ⟨by omega, c2⟩
  have hdg : digs line := grB_digs hs6 hgr
  have hi0 : gIx [dL s l p, .int 0] = some (.v (.int s)) := rfl
  obtain ⟨o1, o2, o3⟩ := okLd9 hld
  have atx := asc_text o1.2 o2.2 o3.2
  have ajn : asc (joinM line 32) := asc_joinM (by decide) hdg
  have ady := asc_day hs6 hday
  have ltx := len_text s l p
  have ljn := joinM_len (xs := line) (c := 32)
  have ldy := dayT_len hday
  have els := ev_law_sizes (xs := line) (c := 32) (d := dI line) (.inl rfl) hdg (by omega)
  have hTX : TXok [textM s l p, joinM line 32, dayT day] := ⟨rfl, fun t ht => by
    simp only [List.mem_cons, List.not_mem_nil, or_false] at ht
    rcases ht with rfl | rfl | rfl
    · exact ⟨atx, by omega⟩
    · exact ⟨ajn, by omega⟩
    · exact ⟨ady, by omega⟩⟩
  refine law_ret (f := b_law) rfl rfl ?_
  unfold b_law
  apply run_seq
  · simp [h0] <;> rfl
  apply run_seq
  · simp [h1] <;> rfl
  apply run_seq
  · show sSet 3 _ _ = .ok .next [some (W.v (D.scr ns)), some (W.l false t2), some (W.v (dL s l p)), some (.v (dI line)), none, none, none, none, none, none, none, none, none, none, none, none, none, none, none, none, none, none]
    simp [h2, hi0]
  apply run_seq
  · show sSet 4 _ _ = .ok .next [some (W.v (D.scr ns)), some (W.l false t3), some (W.v (dL s l p)), some (.v (dI line)), some (.v (dDay day)), none, none, none, none, none, none, none, none, none, none, none, none, none, none, none, none, none]
    simp [h3]
  apply run_seq
  · show sSet 5 _ _ = .ok .next [some (W.v (D.scr ns)), some (W.l false t3), some (W.v (dL s l p)), some (.v (dI line)), some (.v (dDay day)), some (.l false [.str (textM s l p), .str (joinM line 32)]), none, none, none, none, none, none, none, none, none, none, none, none, none, none, none, none]
    have js := js_text o1 o2 o3 (i := 2) (env := [some (W.v (D.scr ns)), some (W.l false t3), some (W.v (dL s l p)), some (.v (dI line)), some (.v (dDay day)), none, none, none, none, none, none, none, none, none, none, none, none, none, none, none, none, none]) rfl
    have ls : Str.ofString " " = sg 32 := lit_sp
    simp [js, ls, els, -eJs_cons]
  apply run_seq
  · show sExpr _ _ = .ok .next [some (W.v (D.scr ns)), some (W.l false t3), some (W.v (dL s l p)), some (.v (dI line)), some (.v (dDay day)), some (.l false ([textM s l p, joinM line 32, dayT day].map D.str)), none, none, none, none, none, none, none, none, none, none, none, none, none, none, none, none]
    have hc := comp_map (vs := [6, 7]) (m := mTup (mCons (mName 6) (mCons (mName 7) mNil)) 2) (t := tYesD) (f := opN gAdd [(opN gAdd [(callF g_law_sizes [none, none] [(eVar 6), (eD (.str "+"))]), (eD (.str "/"))]), (opN gStrI [(eVar 7)])]) (E0 := [some (W.v (D.scr ns)), some (W.l false t3), some (W.v (dL s l p)), some (.v (dI line)), some (.v (dDay day)), some (.l false [.str (textM s l p), .str (joinM line 32)]), none, none, none, none, none, none, none, none, none, none, none, none, none, none, none, none]) (enc := dB) (ψ := fun b => D.str (beatT b)) day (fun b hb rest => by
      obtain ⟨hg, hz, h9⟩ := hday.2 b hb
      have hj := ev_law_sizes (c := 43) (d := dI b.1) (.inl rfl) (grB_digs hs6 hg) (by have := hg.1; omega)
      have l1 : (joinM b.1 43 ++ sg 47).length ≤ 1000000 := by
        have := joinM_len (xs := b.1) (c := 43)
        have h4 := hg.1
        rw [Str.length_append]
        show _ + 1 ≤ _
        omega
      have l2 : (joinM b.1 43 ++ sg 47 ++ fig b.2).length ≤ 1000000 := by
        have := beatT_len (hday.2 b hb)
        unfold beatT at this
        omega
      rw [Str.length_append] at l1 l2
      rw [compD]
      simp [dB, hj, lit_plus, lit_slash, log_small hz h9, repr_fig hz h9, l1, l2, beatT])
    have em : List.map (fun b => D.str (beatT b)) day = (day.map beatT).map D.str := by rw [List.map_map]; rfl
    rw [em] at hc
    have hj := gJoin_beats hday
    have hn : day.length ≤ 1000000 := by have := hday.1.2; omega
    have ls : Str.ofString " " = sg 32 := lit_sp
    simp only [dDay] at hc ⊢
    simp [hc, hj, hn, ls, -List.map_map]
  have e7 := gNe_lsts (ws := [textM s l p, joinM line 32, dayT day]) (fun w hw => (hTX.2 w hw).1)
  apply run_seq
  · show sIf _ _ _ _ = .ok .next [some (W.v (D.scr ns)), some (W.l false t3), some (W.v (dL s l p)), some (.v (dI line)), some (.v (dDay day)), some (.l false ([textM s l p, joinM line 32, dayT day].map D.str)), none, none, none, none, none, none, none, none, none, none, none, none, none, none, none, none]
    have a1 := ev_loader_text hld
    have a2 := ev_line_text hld hgr
    have a3 := ev_day_text hld hday
    simp only [List.map_cons, List.map_nil] at e7 ⊢
    simp [a1, a2, a3, e7]
  apply run_seq
  · show sIf _ _ _ _ = .ok .next [some (W.v (D.scr ns)), some (W.l false t3), some (W.v (dL s l p)), some (.v (dI line)), some (.v (dDay day)), some (.l false ([textM s l p, joinM line 32, dayT day].map D.str)), none, none, none, none, none, none, none, none, none, none, none, none, none, none, none, none]
    have e := rdL_text hld
    have ok : okRdL (textM s l p) := by unfold okRdL; rw [e]; exact ⟨hld, rfl⟩
    have a1 := (ev_read_loader atx (by omega)).1 ok
    rw [e] at a1
    have pj := part_join (c := 32) (by decide) hdg
    have a2 := (ev_read_line hld ajn (by omega)).1 (by rw [pj]; exact hgr)
    rw [pj] at a2
    have n1 : gNe [dL s l p, dL s l p] = some (.v (.bl false)) := (gNe_en en_dI [s, l, p] [s, l, p]).trans (by simp)
    have n2 : gNe [dI line, dI line] = some (.v (.bl false)) := (gNe_en en_dI line line).trans (by simp)
    have i0 : atI [D.str (textM s l p), D.str (joinM line 32), D.str (dayT day)] 0 = some (.str (textM s l p)) := rfl
    have i1 : atI [D.str (textM s l p), D.str (joinM line 32), D.str (dayT day)] 1 = some (.str (joinM line 32)) := rfl
    simp [i0, i1, a1, a2, n1, n2]
  apply run_seq
  · show sIf _ _ _ _ = .ok .next [some (W.v (D.scr ns)), some (W.l false t3), some (W.v (dL s l p)), some (.v (dI line)), some (.v (dDay day)), some (.l false ([textM s l p, joinM line 32, dayT day].map D.str)), none, none, none, none, none, none, none, none, none, none, none, none, none, none, none, none]
    have rd := rdDay_day hs6 hday
    have a1 := (ev_read_day hld ady (by omega)).1 (by rw [rd]; exact hday)
    rw [rd] at a1
    have n1 : gNe [dDay day, dDay day] = some (.v (.bl false)) := (gNe_en en_day day day).trans (by simp)
    have i2 : atI [D.str (textM s l p), D.str (joinM line 32), D.str (dayT day)] 2 = some (.str (dayT day)) := rfl
    simp [i2, a1, n1]
  have hin := fun c hc => chair_in hld hln (c := c) hc
  have hf := chairs_few (l := l) (p := p) hln
  have ech := ev_chairs hld hln
  have ect := ev_chairs_text hld hln
  have acT := asc_cT (cs := chairsM s l p line) hs6 hln (fun c hc => (hin c hc).2)
  generalize chairsM s l p line = cs at *
  apply run_seq
  · show sSet 8 _ _ = .ok .next [some (W.v (D.scr ns)), some (W.l false t3), some (W.v (dL s l p)), some (.v (dI line)), some (.v (dDay day)), some (.l false ([textM s l p, joinM line 32, dayT day].map D.str)), none, none, some (.l false ((cs.map (ctext line)).map D.str)), none, none, none, none, none, none, none, none, none, none, none, none, none]
    have hc := comp_map (vs := [10]) (m := mName 10) (t := tYesD) (f := callF g_law_sizes [none, none] [(eComp (iterSeq (eVar 10)) [9] (mName 9) tYesD (opN gIx [(eVar 3), (eVar 9)])), (eD (.str "+"))]) (E0 := [some (W.v (D.scr ns)), some (W.l false t3), some (W.v (dL s l p)), some (.v (dI line)), some (.v (dDay day)), some (.l false ([textM s l p, joinM line 32, dayT day].map D.str)), none, none, none, none, none, none, none, none, none, none, none, none, none, none, none, none]) (enc := dI) (ψ := fun c => D.str (ctext line c)) cs (fun c hm rest => by
      have hh := hin c hm
      have hi := comp_map (vs := [9]) (m := mName 9) (t := tYesD) (f := opN gIx [(eVar 3), (eVar 9)]) (E0 := [some (W.v (D.scr ns)), some (W.l false t3), some (W.v (dL s l p)), some (.v (dI line)), some (.v (dDay day)), some (.l false ([textM s l p, joinM line 32, dayT day].map D.str)), none, none, none, none, some (.v (dI c)), none, none, none, none, none, none, none, none, none, none, none]) (enc := D.int) (ψ := fun x => D.int (szA line x)) c (fun x hx rest => by
        rw [compD]
        simp [(szA_ok hln (hh.2 x hx)).1])
      have ej := ev_law_sizes (xs := c.map (szA line)) (c := 43) (d := .lst ((c.map (szA line)).map D.int)) (.inr rfl) (sz_digs hs6 hln hh.2) (by rw [List.length_map]; omega)
      have em : List.map (fun x => D.int (szA line x)) c = (c.map (szA line)).map D.int := by rw [List.map_map]; rfl
      rw [em] at hi
      have hcl : c.length ≤ 1000000 := by omega
      simp only [dI, List.map_cons, List.map_nil] at hi ⊢
      rw [compD]
      simp [hi, hcl, lit_plus, ej, ctext, -List.map_map])
    have em : List.map (fun c => D.str (ctext line c)) cs = (cs.map (ctext line)).map D.str := by rw [List.map_map]; rfl
    rw [em] at hc
    have h6 : cs.length ≤ 1000000 := by omega
    simp only [List.map_cons, List.map_nil] at hc ⊢
    simp [ech, hc, h6, -List.map_map]
  apply run_seq
  · show sIf _ _ _ _ = .ok .next [some (W.v (D.scr ns)), some (W.l false t3), some (W.v (dL s l p)), some (.v (dI line)), some (.v (dDay day)), some (.l false ([textM s l p, joinM line 32, dayT day].map D.str)), none, none, some (.l false ((cs.map (ctext line)).map D.str)), none, none, none, none, none, none, none, none, none, none, none, none, none]
    have hn := gNe_strs (ws := cs.map (ctext line)) (fun w hw => by
      obtain ⟨c, hm, rfl⟩ := List.mem_map.mp hw
      exact asc_ctext hs6 hln (hin c hm).2)
    have hj := fun h0 => gJoin_cs (line := line) (cs := cs) (fun c hm => (hin c hm).1) hf h0
    have nn := gNe_str acT acT
    rw [decide_eq_true rfl] at nn
    simp only [barS] at hj
    generalize [textM s l p, joinM line 32, dayT day] = tx at *
    by_cases hz : cs = []
    · subst hz
      have cm : cT line [] = minusS := rfl
      rw [cm] at ect nn
      have n0 : gNe [.lst [], .lst []] = some (.v (.bl false)) := (gNe_en (en_lst en_int) [] []).trans (by simp)
      have lm : Str.ofString "-" = minusS := lit_minus
      simp [ect, n0, lm, nn]
    · rw [decide_eq_false (show ¬ cs.map (ctext line) = [] by simpa using hz)] at hn
      simp [ect, hn, hj hz, nn, -List.map_map]
  have i6 : iterR1 (eD (.int 6)) [some (W.v (D.scr ns)), some (W.l false t3), some (W.v (dL s l p)), some (.v (dI line)), some (.v (dDay day)), some (.l false ([textM s l p, joinM line 32, dayT day].map D.str)), none, none, some (.l false ((cs.map (ctext line)).map D.str)), none, none, none, none, none, none, none, none, none, none, none, none, none] = .ok ((List.range 6).map fun j => D.int (j : Nat)) [some (W.v (D.scr ns)), some (W.l false t3), some (W.v (dL s l p)), some (.v (dI line)), some (.v (dDay day)), some (.l false ([textM s l p, joinM line 32, dayT day].map D.str)), none, none, some (.l false ((cs.map (ctext line)).map D.str)), none, none, none, none, none, none, none, none, none, none, none, none, none] := by
    exact (iterR1_of (n := ((6 : Nat) : Int)) (eD_ap _ _) (by decide) (by decide)).trans (by rw [rangeD_upto]; rfl)
  obtain ⟨t4, y11, y12, y13, y14, y15, y16, y17, y18, y19, f6⟩ := for_spoilt (ns := ns) (ln := dI line) (dy := dDay day) (e8 := some (.l false ((cs.map (ctext line)).map D.str))) hld hTX (List.range 6) k3 t3 none none none none none none none none none T3 (by simp; omega)
  apply run_seq (e := envT ns t4 (dL s l p) (dI line) (dDay day) [textM s l p, joinM line 32, dayT day] (some (.l false ((cs.map (ctext line)).map D.str))) y11 y12 y13 y14 y15 y16 y17 y18 y19)
  · rw [sFor_ap, i6, R.bind_ok]
    exact f6
  obtain ⟨z12, z13, z20, f3⟩ := for_bads (e0 := some (.v (.scr ns))) (e1 := some (.l false t4)) (e3 := some (.v (dI line))) (e4 := some (.v (dDay day))) (e8 := some (.l false ((cs.map (ctext line)).map D.str))) (e11 := y11.map .v) (e14 := y14.map .v) (e15 := y15.map .v) (e16 := y16.map .v) (e17 := y17.map .v) (e18 := y18.map .v) (e19 := y19.map .v) hld hTX (by exact ltx) (List.range 3) y12 y13 none (fun j hj => by simpa using hj)
  apply run_seq (e := envU (some (.v (.scr ns))) (some (.l false t4)) (dL s l p) (some (.v (dI line))) (some (.v (dDay day))) [textM s l p, joinM line 32, dayT day] (some (.l false ((cs.map (ctext line)).map D.str))) (y11.map .v) z12 z13 (y14.map .v) (y15.map .v) (y16.map .v) (y17.map .v) (y18.map .v) (y19.map .v) z20)
  · have i3 : ∀ E : DEnv, iterR1 (eD (.int 3)) E = .ok ((List.range 3).map fun j => D.int (j : Nat)) E := fun E => (iterR1_of (n := ((3 : Nat) : Int)) (eD_ap _ _) (by decide) (by decide)).trans (by rw [rangeD_upto]; rfl)
    rw [sFor_ap, i3, R.bind_ok]
    exact f3
  have one1' : fig 1 = Str.ofString "1" := by kernel_rfl
  have r25 : joinM (List.replicate 25 1) 32 = Txt.join (sg 32) (List.replicate 25 (fig 1)) := by
    unfold joinM
    rw [if_neg (by decide), List.map_replicate]
  have d25 : digs (List.replicate 25 1) := fun x hx => by rw [List.eq_of_mem_replicate hx]; decide
  have g25 : gMul [.lst [.str (Str.ofString "1")], .int 25] = some (.l false ((List.replicate 25 (fig 1)).map D.str)) := by rw [one1']; rfl
  have j25 := gJoin_figs (xs := List.replicate 25 1) (c := 32) (by decide) (by decide)
  rw [List.map_replicate] at j25
  have l25 := joinM_len (xs := List.replicate 25 1) (c := 32)
  have b25 : raises s l p 1 (.str (joinM (List.replicate 25 1) 32)) := (one1 hld (asc_joinM (by decide) d25) (by rw [List.length_replicate] at l25; omega)).2 (fun z => by
    rw [part_join (by decide) d25] at z
    have := z.1
    simp at this)
  have t25 := told_no b25
  apply run_ret (e := envU (some (.v (.scr ns))) (some (.l false t4)) (dL s l p) (some (.v (dI line))) (some (.v (dDay day))) [textM s l p, joinM line 32, dayT day] (some (.l false ((cs.map (ctext line)).map D.str))) (y11.map .v) z12 z13 (y14.map .v) (y15.map .v) (y16.map .v) (y17.map .v) (y18.map .v) (y19.map .v) z20)
  have ls : Str.ofString " " = sg 32 := lit_sp
  generalize joinM (List.replicate 25 1) 32 = J at *
  generalize List.replicate 25 (fig 1) = R25 at *
  generalize [textM s l p, joinM line 32, dayT day] = tx
  generalize y11.map W.v = w11
  generalize y14.map W.v = w14
  generalize y15.map W.v = w15
  generalize y16.map W.v = w16
  generalize y17.map W.v = w17
  generalize y18.map W.v = w18
  generalize y19.map W.v = w19
  simp [ls, g25, j25, t25, ref_text, eq_refT, -List.map_map]
end Lw

namespace Lw
open PySem PySem.Spec PyProof.Rows L2 DL
theorem all_mk {l : PySem.W.OpenLaw} {w : World} {K : PySem.W.Frag} {h : Heap} {mg : Str → Option Value} {fa : Addr} (X : K.In h) (G : h.Ns mainGlobals mg) (hfa : mg "law" = some (.ref fa))
    {f0 : Addr} {od0 an0 : Option Addr} {sl0 : Array (Option Value)} {oc0 kV0 dc0 pm0 cd0 ct0 : Value}
    {f1 : Addr} {od1 an1 : Option Addr} {sl1 : Array (Option Value)} {oc1 kV1 dc1 pm1 cd1 ct1 : Value}
    {f2 : Addr} {od2 an2 : Option Addr} {sl2 : Array (Option Value)} {oc2 kV2 dc2 pm2 cd2 ct2 : Value}
    {f3 : Addr} {od3 an3 : Option Addr} {sl3 : Array (Option Value)} {oc3 kV3 dc3 pm3 cd3 ct3 : Value}
    {f4 : Addr} {od4 an4 : Option Addr} {sl4 : Array (Option Value)} {oc4 kV4 dc4 pm4 cd4 ct4 : Value}
    {f5 : Addr} {od5 an5 : Option Addr} {sl5 : Array (Option Value)} {oc5 kV5 dc5 pm5 cd5 ct5 : Value}
    {f6 : Addr} {od6 an6 : Option Addr} {sl6 : Array (Option Value)} {oc6 kV6 dc6 pm6 cd6 ct6 : Value}
    {f7 : Addr} {od7 an7 : Option Addr} {sl7 : Array (Option Value)} {oc7 kV7 dc7 pm7 cd7 ct7 : Value}
    {f8 : Addr} {od8 an8 : Option Addr} {sl8 : Array (Option Value)} {oc8 kV8 dc8 pm8 cd8 ct8 : Value}
    {f9 : Addr} {od9 an9 : Option Addr} {sl9 : Array (Option Value)} {oc9 kV9 dc9 pm9 cd9 ct9 : Value}
    {f10 : Addr} {od10 an10 : Option Addr} {sl10 : Array (Option Value)} {oc10 kV10 dc10 pm10 cd10 ct10 : Value}
    {f11 : Addr} {od11 an11 : Option Addr} {sl11 : Array (Option Value)} {oc11 kV11 dc11 pm11 cd11 ct11 : Value}
    {f12 : Addr} {od12 an12 : Option Addr} {sl12 : Array (Option Value)} {oc12 kV12 dc12 pm12 cd12 ct12 : Value}
    {f13 : Addr} {od13 an13 : Option Addr} {sl13 : Array (Option Value)} {oc13 kV13 dc13 pm13 cd13 ct13 : Value}
    {f14 : Addr} {od14 an14 : Option Addr} {sl14 : Array (Option Value)} {oc14 kV14 dc14 pm14 cd14 ct14 : Value}
    {f15 : Addr} {od15 an15 : Option Addr} {sl15 : Array (Option Value)} {oc15 kV15 dc15 pm15 cd15 ct15 : Value}
    {f16 : Addr} {od16 an16 : Option Addr} {sl16 : Array (Option Value)} {oc16 kV16 dc16 pm16 cd16 ct16 : Value}
    {f17 : Addr} {od17 an17 : Option Addr} {sl17 : Array (Option Value)} {oc17 kV17 dc17 pm17 cd17 ct17 : Value}
    {f18 : Addr} {od18 an18 : Option Addr} {sl18 : Array (Option Value)} {oc18 kV18 dc18 pm18 cd18 ct18 : Value}
    {f19 : Addr} {od19 an19 : Option Addr} {sl19 : Array (Option Value)} {oc19 kV19 dc19 pm19 cd19 ct19 : Value}
    {f20 : Addr} {od20 an20 : Option Addr} {sl20 : Array (Option Value)} {oc20 kV20 dc20 pm20 cd20 ct20 : Value}
    {f21 : Addr} {od21 an21 : Option Addr} {sl21 : Array (Option Value)} {oc21 kV21 dc21 pm21 cd21 ct21 : Value}
    {f22 : Addr} {od22 an22 : Option Addr} {sl22 : Array (Option Value)} {oc22 kV22 dc22 pm22 cd22 ct22 : Value}
    {f23 : Addr} {od23 an23 : Option Addr} {sl23 : Array (Option Value)} {oc23 kV23 dc23 pm23 cd23 ct23 : Value}
    {f24 : Addr} {od24 an24 : Option Addr} {sl24 : Array (Option Value)} {oc24 kV24 dc24 pm24 cd24 ct24 : Value}
    {f25 : Addr} {od25 an25 : Option Addr} {sl25 : Array (Option Value)} {oc25 kV25 dc25 pm25 cd25 ct25 : Value}
    {f26 : Addr} {od26 an26 : Option Addr} {sl26 : Array (Option Value)} {oc26 kV26 dc26 pm26 cd26 ct26 : Value}
    {f27 : Addr} {od27 an27 : Option Addr} {sl27 : Array (Option Value)} {oc27 kV27 dc27 pm27 cd27 ct27 : Value}
    {f28 : Addr} {od28 an28 : Option Addr} {sl28 : Array (Option Value)} {oc28 kV28 dc28 pm28 cd28 ct28 : Value}
    {f29 : Addr} {od29 an29 : Option Addr} {sl29 : Array (Option Value)} {oc29 kV29 dc29 pm29 cd29 ct29 : Value}
    {f30 : Addr} {od30 an30 : Option Addr} {sl30 : Array (Option Value)} {oc30 kV30 dc30 pm30 cd30 ct30 : Value}
    {f31 : Addr} {od31 an31 : Option Addr} {sl31 : Array (Option Value)} {oc31 kV31 dc31 pm31 cd31 ct31 : Value}
    {f32 : Addr} {od32 an32 : Option Addr} {sl32 : Array (Option Value)} {oc32 kV32 dc32 pm32 cd32 ct32 : Value}
    {f33 : Addr} {od33 an33 : Option Addr} {sl33 : Array (Option Value)} {oc33 kV33 dc33 pm33 cd33 ct33 : Value}
    {f34 : Addr} {od34 an34 : Option Addr} {sl34 : Array (Option Value)} {oc34 kV34 dc34 pm34 cd34 ct34 : Value}
    {f35 : Addr} {od35 an35 : Option Addr} {sl35 : Array (Option Value)} {oc35 kV35 dc35 pm35 cd35 ct35 : Value}
    {f36 : Addr} {od36 an36 : Option Addr} {sl36 : Array (Option Value)} {oc36 kV36 dc36 pm36 cd36 ct36 : Value}
    {t13 : _}
    {t14 : _}
    {C28 : Addr}
    {C29 : Addr}
    {C30 : Addr}
    {C31 : Addr}
    {Q0 : Addr}
    {Q1 : Addr}
    {Q2 : Addr}
    {Q3 : Addr}
    {Q4 : Addr}
    {Q5 : Addr}
    {Q6 : Addr}
    {Q7 : Addr}
    {Q8 : Addr}
    {Q9 : Addr}
    {Q10 : Addr}
    {Q11 : Addr}
    (a0 : PySem.W.nsIn K mainGlobals "is_whole" = some (some (.ref f0))) (l0 : K.lookup f0 = some ⟨oc0, od0, .func (PySem.W.fnOf "is_whole" "is_whole" (defArgs s_is_whole) (defBody s_is_whole) (defScope s_is_whole) .none kV0 dc0 pm0 an0 cd0 ct0), sl0⟩) (c0 : PySem.W.codeIn K cd0 "is_whole" = true) (k0 : PySem.W.keepIn K (.ref f0) = true)
    (a1 : PySem.W.nsIn K mainGlobals "next_of" = some (some (.ref f1))) (l1 : K.lookup f1 = some ⟨oc1, od1, .func (PySem.W.fnOf "next_of" "next_of" (defArgs s_next_of) (defBody s_next_of) (defScope s_next_of) .none kV1 dc1 pm1 an1 cd1 ct1), sl1⟩) (c1 : PySem.W.codeIn K cd1 "next_of" = true) (k1 : PySem.W.keepIn K (.ref f1) = true)
    (a2 : PySem.W.nsIn K mainGlobals "text_of" = some (some (.ref f2))) (l2 : K.lookup f2 = some ⟨oc2, od2, .func (PySem.W.fnOf "text_of" "text_of" (defArgs s_text_of) (defBody s_text_of) (defScope s_text_of) .none kV2 dc2 pm2 an2 cd2 ct2), sl2⟩) (c2 : PySem.W.codeIn K cd2 "text_of" = true) (k2 : PySem.W.keepIn K (.ref f2) = true)
    (a3 : PySem.W.nsIn K mainGlobals "number_in" = some (some (.ref f3))) (l3 : K.lookup f3 = some ⟨oc3, od3, .func (PySem.W.fnOf "number_in" "number_in" (defArgs s_number_in) (defBody s_number_in) (defScope s_number_in) .none kV3 dc3 pm3 an3 cd3 ct3), sl3⟩) (c3 : PySem.W.codeIn K cd3 "number_in" = true) (k3 : PySem.W.keepIn K (.ref f3) = true)
    (a4 : PySem.W.nsIn K mainGlobals "joined" = some (some (.ref f4))) (l4 : K.lookup f4 = some ⟨oc4, od4, .func (PySem.W.fnOf "joined" "joined" (defArgs s_joined) (defBody s_joined) (defScope s_joined) .none kV4 dc4 pm4 an4 cd4 ct4), sl4⟩) (c4 : PySem.W.codeIn K cd4 "joined" = true) (k4 : PySem.W.keepIn K (.ref f4) = true)
    (a5 : PySem.W.nsIn K mainGlobals "_law_town" = some (some (.ref f5))) (l5 : K.lookup f5 = some ⟨oc5, od5, .func (PySem.W.fnOf "_law_town" "_law_town" (defArgs s_law_town) (defBody s_law_town) (defScope s_law_town) .none kV5 dc5 pm5 an5 cd5 ct5), sl5⟩) (c5 : PySem.W.codeIn K cd5 "_law_town" = true) (k5 : PySem.W.keepIn K (.ref f5) = true)
    (a6 : PySem.W.nsIn K mainGlobals "_law_draw" = some (some (.ref f6))) (l6 : K.lookup f6 = some ⟨oc6, od6, .func (PySem.W.fnOf "_law_draw" "_law_draw" (defArgs s_law_draw) (defBody s_law_draw) (defScope s_law_draw) .none kV6 dc6 pm6 an6 cd6 ct6), sl6⟩) (c6 : PySem.W.codeIn K cd6 "_law_draw" = true) (k6 : PySem.W.keepIn K (.ref f6) = true)
    (a7 : PySem.W.nsIn K mainGlobals "_law_word" = some (some (.ref f7))) (l7 : K.lookup f7 = some ⟨oc7, od7, .func (PySem.W.fnOf "_law_word" "_law_word" (defArgs s_law_word) (defBody s_law_word) (defScope s_law_word) .none kV7 dc7 pm7 an7 cd7 ct7), sl7⟩) (c7 : PySem.W.codeIn K cd7 "_law_word" = true) (k7 : PySem.W.keepIn K (.ref f7) = true)
    (a8 : PySem.W.nsIn K mainGlobals "_law_refused" = some (some (.ref f8))) (l8 : K.lookup f8 = some ⟨oc8, od8, .func (PySem.W.fnOf "_law_refused" "_law_refused" (defArgs s_law_refused) (defBody s_law_refused) (defScope s_law_refused) .none kV8 dc8 pm8 an8 cd8 ct8), sl8⟩) (c8 : PySem.W.codeIn K cd8 "_law_refused" = true) (k8 : PySem.W.keepIn K (.ref f8) = true)
    (a9 : PySem.W.nsIn K mainGlobals "_law_sizes" = some (some (.ref f9))) (l9 : K.lookup f9 = some ⟨oc9, od9, .func (PySem.W.fnOf "_law_sizes" "_law_sizes" (defArgs s_law_sizes) (defBody s_law_sizes) (defScope s_law_sizes) .none kV9 dc9 pm9 an9 cd9 ct9), sl9⟩) (c9 : PySem.W.codeIn K cd9 "_law_sizes" = true) (k9 : PySem.W.keepIn K (.ref f9) = true)
    (a10 : PySem.W.nsIn K mainGlobals "is_loader" = some (some (.ref f10))) (l10 : K.lookup f10 = some ⟨oc10, od10, .func (PySem.W.fnOf "is_loader" "is_loader" (defArgs s_is_loader) (defBody s_is_loader) (defScope s_is_loader) .none kV10 dc10 pm10 an10 cd10 ct10), sl10⟩) (c10 : PySem.W.codeIn K cd10 "is_loader" = true) (k10 : PySem.W.keepIn K (.ref f10) = true)
    (a11 : PySem.W.nsIn K mainGlobals "are_groups" = some (some (.ref f11))) (l11 : K.lookup f11 = some ⟨oc11, od11, .func (PySem.W.fnOf "are_groups" "are_groups" (defArgs s_are_groups) (defBody s_are_groups) (defScope s_are_groups) .none kV11 dc11 pm11 an11 cd11 ct11), sl11⟩) (c11 : PySem.W.codeIn K cd11 "are_groups" = true) (k11 : PySem.W.keepIn K (.ref f11) = true)
    (a12 : PySem.W.nsIn K mainGlobals "loaded" = some (some (.ref f12))) (l12 : K.lookup f12 = some ⟨oc12, od12, .func (PySem.W.fnOf "loaded" "loaded" (defArgs s_loaded) (defBody s_loaded) (defScope s_loaded) .none kV12 dc12 pm12 an12 cd12 ct12), sl12⟩) (c12 : PySem.W.codeIn K cd12 "loaded" = true) (k12 : PySem.W.keepIn K (.ref f12) = true)
    (a13 : PySem.W.nsIn K mainGlobals "parted" = some (some (.ref f13))) (l13 : K.lookup f13 = some ⟨oc13, od13, .func (PySem.W.fnOf "parted" "parted" (defArgs s_parted) (defBody s_parted) (defScope s_parted) .none kV13 dc13 pm13 an13 cd13 ct13), sl13⟩) (c13 : PySem.W.codeIn K cd13 "parted" = true) (k13 : PySem.W.keepIn K (.ref f13) = true)
    (a14 : PySem.W.nsIn K mainGlobals "_law_pick" = some (some (.ref f14))) (l14 : K.lookup f14 = some ⟨oc14, od14, .func (PySem.W.fnOf "_law_pick" "_law_pick" (defArgs s_law_pick) (defBody s_law_pick) (defScope s_law_pick) .none kV14 dc14 pm14 an14 cd14 ct14), sl14⟩) (c14 : PySem.W.codeIn K cd14 "_law_pick" = true) (k14 : PySem.W.keepIn K (.ref f14) = true)
    (a15 : PySem.W.nsIn K mainGlobals "_law_loader" = some (some (.ref f15))) (l15 : K.lookup f15 = some ⟨oc15, od15, .func (PySem.W.fnOf "_law_loader" "_law_loader" (defArgs s_law_loader) (defBody s_law_loader) (defScope s_law_loader) .none kV15 dc15 pm15 an15 cd15 ct15), sl15⟩) (c15 : PySem.W.codeIn K cd15 "_law_loader" = true) (k15 : PySem.W.keepIn K (.ref f15) = true)
    (a16 : PySem.W.nsIn K mainGlobals "_law_groups" = some (some (.ref f16))) (l16 : K.lookup f16 = some ⟨oc16, od16, .func (PySem.W.fnOf "_law_groups" "_law_groups" (defArgs s_law_groups) (defBody s_law_groups) (defScope s_law_groups) .none kV16 dc16 pm16 an16 cd16 ct16), sl16⟩) (c16 : PySem.W.codeIn K cd16 "_law_groups" = true) (k16 : PySem.W.keepIn K (.ref f16) = true)
    (a17 : PySem.W.nsIn K mainGlobals "look_loader" = some (some (.ref f17))) (l17 : K.lookup f17 = some ⟨oc17, od17, .func (PySem.W.fnOf "look_loader" "look_loader" (defArgs s_look_loader) (defBody s_look_loader) (defScope s_look_loader) .none kV17 dc17 pm17 an17 cd17 ct17), sl17⟩) (c17 : PySem.W.codeIn K cd17 "look_loader" = true) (k17 : PySem.W.keepIn K (.ref f17) = true)
    (a18 : PySem.W.nsIn K mainGlobals "all_loaded" = some (some (.ref f18))) (l18 : K.lookup f18 = some ⟨oc18, od18, .func (PySem.W.fnOf "all_loaded" "all_loaded" (defArgs s_all_loaded) (defBody s_all_loaded) (defScope s_all_loaded) .none kV18 dc18 pm18 an18 cd18 ct18), sl18⟩) (c18 : PySem.W.codeIn K cd18 "all_loaded" = true) (k18 : PySem.W.keepIn K (.ref f18) = true)
    (a19 : PySem.W.nsIn K mainGlobals "is_beat" = some (some (.ref f19))) (l19 : K.lookup f19 = some ⟨oc19, od19, .func (PySem.W.fnOf "is_beat" "is_beat" (defArgs s_is_beat) (defBody s_is_beat) (defScope s_is_beat) .none kV19 dc19 pm19 an19 cd19 ct19), sl19⟩) (c19 : PySem.W.codeIn K cd19 "is_beat" = true) (k19 : PySem.W.keepIn K (.ref f19) = true)
    (a20 : PySem.W.nsIn K mainGlobals "read_loader" = some (some (.ref f20))) (l20 : K.lookup f20 = some ⟨oc20, od20, .func (PySem.W.fnOf "read_loader" "read_loader" (defArgs s_read_loader) (defBody s_read_loader) (defScope s_read_loader) .none kV20 dc20 pm20 an20 cd20 ct20), sl20⟩) (c20 : PySem.W.codeIn K cd20 "read_loader" = true) (k20 : PySem.W.keepIn K (.ref f20) = true)
    (a21 : PySem.W.nsIn K mainGlobals "beat_in" = some (some (.ref f21))) (l21 : K.lookup f21 = some ⟨oc21, od21, .func (PySem.W.fnOf "beat_in" "beat_in" (defArgs s_beat_in) (defBody s_beat_in) (defScope s_beat_in) .none kV21 dc21 pm21 an21 cd21 ct21), sl21⟩) (c21 : PySem.W.codeIn K cd21 "beat_in" = true) (k21 : PySem.W.keepIn K (.ref f21) = true)
    (a22 : PySem.W.nsIn K mainGlobals "_law_day" = some (some (.ref f22))) (l22 : K.lookup f22 = some ⟨oc22, od22, .func (PySem.W.fnOf "_law_day" "_law_day" (defArgs s_law_day) (defBody s_law_day) (defScope s_law_day) .none kV22 dc22 pm22 an22 cd22 ct22), sl22⟩) (c22 : PySem.W.codeIn K cd22 "_law_day" = true) (k22 : PySem.W.keepIn K (.ref f22) = true)
    (a23 : PySem.W.nsIn K mainGlobals "look_line" = some (some (.ref f23))) (l23 : K.lookup f23 = some ⟨oc23, od23, .func (PySem.W.fnOf "look_line" "look_line" (defArgs s_look_line) (defBody s_look_line) (defScope s_look_line) .none kV23 dc23 pm23 an23 cd23 ct23), sl23⟩) (c23 : PySem.W.codeIn K cd23 "look_line" = true) (k23 : PySem.W.keepIn K (.ref f23) = true)
    (a24 : PySem.W.nsIn K mainGlobals "all_chairs" = some (some (.ref f24))) (l24 : K.lookup f24 = some ⟨oc24, od24, .func (PySem.W.fnOf "all_chairs" "all_chairs" (defArgs s_all_chairs) (defBody s_all_chairs) (defScope s_all_chairs) .none kV24 dc24 pm24 an24 cd24 ct24), sl24⟩) (c24 : PySem.W.codeIn K cd24 "all_chairs" = true) (k24 : PySem.W.keepIn K (.ref f24) = true)
    (a25 : PySem.W.nsIn K mainGlobals "is_good" = some (some (.ref f25))) (l25 : K.lookup f25 = some ⟨oc25, od25, .func (PySem.W.fnOf "is_good" "is_good" (defArgs s_is_good) (defBody s_is_good) (defScope s_is_good) .none kV25 dc25 pm25 an25 cd25 ct25), sl25⟩) (c25 : PySem.W.codeIn K cd25 "is_good" = true) (k25 : PySem.W.keepIn K (.ref f25) = true)
    (a26 : PySem.W.nsIn K mainGlobals "loader_text" = some (some (.ref f26))) (l26 : K.lookup f26 = some ⟨oc26, od26, .func (PySem.W.fnOf "loader_text" "loader_text" (defArgs s_loader_text) (defBody s_loader_text) (defScope s_loader_text) .none kV26 dc26 pm26 an26 cd26 ct26), sl26⟩) (c26 : PySem.W.codeIn K cd26 "loader_text" = true) (k26 : PySem.W.keepIn K (.ref f26) = true)
    (a27 : PySem.W.nsIn K mainGlobals "read_line" = some (some (.ref f27))) (l27 : K.lookup f27 = some ⟨oc27, od27, .func (PySem.W.fnOf "read_line" "read_line" (defArgs s_read_line) (defBody s_read_line) (defScope s_read_line) .none kV27 dc27 pm27 an27 cd27 ct27), sl27⟩) (c27 : PySem.W.codeIn K cd27 "read_line" = true) (k27 : PySem.W.keepIn K (.ref f27) = true)
    (a28 : PySem.W.nsIn K mainGlobals "chairs" = some (some (.ref f28))) (l28 : K.lookup f28 = some ⟨oc28, od28, .func (PySem.W.fnOf "chairs" "chairs" (defArgs s_chairs) (defBody s_chairs) (defScope s_chairs) .none kV28 dc28 pm28 an28 cd28 ct28), sl28⟩) (c28 : PySem.W.codeIn K cd28 "chairs" = true) (k28 : PySem.W.keepIn K (.ref f28) = true)
    (a29 : PySem.W.nsIn K mainGlobals "look_day" = some (some (.ref f29))) (l29 : K.lookup f29 = some ⟨oc29, od29, .func (PySem.W.fnOf "look_day" "look_day" (defArgs s_look_day) (defBody s_look_day) (defScope s_look_day) .none kV29 dc29 pm29 an29 cd29 ct29), sl29⟩) (c29 : PySem.W.codeIn K cd29 "look_day" = true) (k29 : PySem.W.keepIn K (.ref f29) = true)
    (a30 : PySem.W.nsIn K mainGlobals "line_text" = some (some (.ref f30))) (l30 : K.lookup f30 = some ⟨oc30, od30, .func (PySem.W.fnOf "line_text" "line_text" (defArgs s_line_text) (defBody s_line_text) (defScope s_line_text) .none kV30 dc30 pm30 an30 cd30 ct30), sl30⟩) (c30 : PySem.W.codeIn K cd30 "line_text" = true) (k30 : PySem.W.keepIn K (.ref f30) = true)
    (a31 : PySem.W.nsIn K mainGlobals "chairs_text" = some (some (.ref f31))) (l31 : K.lookup f31 = some ⟨oc31, od31, .func (PySem.W.fnOf "chairs_text" "chairs_text" (defArgs s_chairs_text) (defBody s_chairs_text) (defScope s_chairs_text) .none kV31 dc31 pm31 an31 cd31 ct31), sl31⟩) (c31 : PySem.W.codeIn K cd31 "chairs_text" = true) (k31 : PySem.W.keepIn K (.ref f31) = true)
    (a32 : PySem.W.nsIn K mainGlobals "read_day" = some (some (.ref f32))) (l32 : K.lookup f32 = some ⟨oc32, od32, .func (PySem.W.fnOf "read_day" "read_day" (defArgs s_read_day) (defBody s_read_day) (defScope s_read_day) .none kV32 dc32 pm32 an32 cd32 ct32), sl32⟩) (c32 : PySem.W.codeIn K cd32 "read_day" = true) (k32 : PySem.W.keepIn K (.ref f32) = true)
    (a33 : PySem.W.nsIn K mainGlobals "day_text" = some (some (.ref f33))) (l33 : K.lookup f33 = some ⟨oc33, od33, .func (PySem.W.fnOf "day_text" "day_text" (defArgs s_day_text) (defBody s_day_text) (defScope s_day_text) .none kV33 dc33 pm33 an33 cd33 ct33), sl33⟩) (c33 : PySem.W.codeIn K cd33 "day_text" = true) (k33 : PySem.W.keepIn K (.ref f33) = true)
    (a34 : PySem.W.nsIn K mainGlobals "_law_one" = some (some (.ref f34))) (l34 : K.lookup f34 = some ⟨oc34, od34, .func (PySem.W.fnOf "_law_one" "_law_one" (defArgs s_law_one) (defBody s_law_one) (defScope s_law_one) .none kV34 dc34 pm34 an34 cd34 ct34), sl34⟩) (c34 : PySem.W.codeIn K cd34 "_law_one" = true) (k34 : PySem.W.keepIn K (.ref f34) = true)
    (a35 : PySem.W.nsIn K mainGlobals "_law_told" = some (some (.ref f35))) (l35 : K.lookup f35 = some ⟨oc35, od35, .func (PySem.W.fnOf "_law_told" "_law_told" (defArgs s_law_told) (defBody s_law_told) (defScope s_law_told) .none kV35 dc35 pm35 an35 cd35 ct35), sl35⟩) (c35 : PySem.W.codeIn K cd35 "_law_told" = true) (k35 : PySem.W.keepIn K (.ref f35) = true)
    (a36 : PySem.W.nsIn K mainGlobals "law" = some (some (.ref f36))) (l36 : K.lookup f36 = some ⟨oc36, od36, .func (PySem.W.fnOf "law" "law" (defArgs s_law) (defBody s_law) (defScope s_law) .none kV36 dc36 pm36 an36 cd36 ct36), sl36⟩) (c36 : PySem.W.codeIn K cd36 "law" = true) (k36 : PySem.W.keepIn K (.ref f36) = true)
    (z0 : PySem.W.nsIn K mainGlobals "ValueError" = some none)
    (z1 : PySem.W.nsIn K mainGlobals "all" = some none)
    (z2 : PySem.W.nsIn K mainGlobals "bool" = some none)
    (z3 : PySem.W.nsIn K mainGlobals "enumerate" = some none)
    (z4 : PySem.W.nsIn K mainGlobals "int" = some none)
    (z5 : PySem.W.nsIn K mainGlobals "isinstance" = some none)
    (z6 : PySem.W.nsIn K mainGlobals "len" = some none)
    (z7 : PySem.W.nsIn K mainGlobals "list" = some none)
    (z8 : PySem.W.nsIn K mainGlobals "min" = some none)
    (z9 : PySem.W.nsIn K mainGlobals "range" = some none)
    (z10 : PySem.W.nsIn K mainGlobals "sorted" = some none)
    (z11 : PySem.W.nsIn K mainGlobals "str" = some none)
    (z12 : PySem.W.nsIn K mainGlobals "tuple" = some none)
    (z13 : PySem.W.nsIn K mainGlobals "FIGURES" = some (some (.str "0123456789" t13)))
    (z14 : PySem.W.nsIn K mainGlobals "LONGEST" = some (some (.int 24 t14)))
    (z28 : PySem.W.nsIn K mainGlobals "BadDay" = some (some (.ref C28))) (x28 : PySem.W.excIn K C28 veMro "ValueError.__new__" = true) (y28 : PySem.W.keepIn K (.ref C28) = true) (b28 : PySem.W.subIn K (.ref C28) (.type "BaseException") = some true) (t28 : PySem.W.typeIn K (.ref C28) = some (.type "type"))
    (z29 : PySem.W.nsIn K mainGlobals "BadLine" = some (some (.ref C29))) (x29 : PySem.W.excIn K C29 veMro "ValueError.__new__" = true) (y29 : PySem.W.keepIn K (.ref C29) = true) (b29 : PySem.W.subIn K (.ref C29) (.type "BaseException") = some true) (t29 : PySem.W.typeIn K (.ref C29) = some (.type "type"))
    (z30 : PySem.W.nsIn K mainGlobals "BadLoader" = some (some (.ref C30))) (x30 : PySem.W.excIn K C30 veMro "ValueError.__new__" = true) (y30 : PySem.W.keepIn K (.ref C30) = true) (b30 : PySem.W.subIn K (.ref C30) (.type "BaseException") = some true) (t30 : PySem.W.typeIn K (.ref C30) = some (.type "type"))
    (z31 : PySem.W.nsIn K mainGlobals "BadText" = some (some (.ref C31))) (x31 : PySem.W.excIn K C31 veMro "ValueError.__new__" = true) (y31 : PySem.W.keepIn K (.ref C31) = true) (b31 : PySem.W.subIn K (.ref C31) (.type "BaseException") = some true) (t31 : PySem.W.typeIn K (.ref C31) = some (.type "type"))
    (nQ0 : PySem.W.nsIn K mainGlobals "BadDay" = some (some (.ref Q0)))
    (tQ0 : PySem.W.typeIn K (.ref Q0) = some (.type "type")) (dQ0 : PySem.W.hasDictIn K Q0 = true)
    (bQ0 : PySem.W.subIn K (.ref Q0) (.type "BaseException") = some true)
    (gQ0 : PySem.W.findIn K (.ref Q0) "__getattribute__" = some (some (.builtin "BaseException.__getattribute__"))) (hQ0 : PySem.W.findIn K (.ref Q0) "__getattr__" = some none) (cQ0 : PySem.W.findIn K (.ref Q0) "__class__" = some (some (.builtin "object.__class__"))) (mQ0 : PySem.W.mroIn K Q0 (.type "object") = some true) (vQ0 : PySem.W.subIn K (.ref Q0) (.type "ValueError") = some true)
    (nQ1 : PySem.W.nsIn K mainGlobals "BadLine" = some (some (.ref Q1)))
    (tQ1 : PySem.W.typeIn K (.ref Q1) = some (.type "type")) (dQ1 : PySem.W.hasDictIn K Q1 = true)
    (bQ1 : PySem.W.subIn K (.ref Q1) (.type "BaseException") = some true)
    (gQ1 : PySem.W.findIn K (.ref Q1) "__getattribute__" = some (some (.builtin "BaseException.__getattribute__"))) (hQ1 : PySem.W.findIn K (.ref Q1) "__getattr__" = some none) (cQ1 : PySem.W.findIn K (.ref Q1) "__class__" = some (some (.builtin "object.__class__"))) (mQ1 : PySem.W.mroIn K Q1 (.type "object") = some true) (vQ1 : PySem.W.subIn K (.ref Q1) (.type "ValueError") = some true)
    (nQ2 : PySem.W.nsIn K mainGlobals "BadLoader" = some (some (.ref Q2)))
    (tQ2 : PySem.W.typeIn K (.ref Q2) = some (.type "type")) (dQ2 : PySem.W.hasDictIn K Q2 = true)
    (bQ2 : PySem.W.subIn K (.ref Q2) (.type "BaseException") = some true)
    (gQ2 : PySem.W.findIn K (.ref Q2) "__getattribute__" = some (some (.builtin "BaseException.__getattribute__"))) (hQ2 : PySem.W.findIn K (.ref Q2) "__getattr__" = some none) (cQ2 : PySem.W.findIn K (.ref Q2) "__class__" = some (some (.builtin "object.__class__"))) (mQ2 : PySem.W.mroIn K Q2 (.type "object") = some true) (vQ2 : PySem.W.subIn K (.ref Q2) (.type "ValueError") = some true)
    (nQ3 : PySem.W.nsIn K mainGlobals "BadText" = some (some (.ref Q3)))
    (tQ3 : PySem.W.typeIn K (.ref Q3) = some (.type "type")) (dQ3 : PySem.W.hasDictIn K Q3 = true)
    (bQ3 : PySem.W.subIn K (.ref Q3) (.type "BaseException") = some true)
    (gQ3 : PySem.W.findIn K (.ref Q3) "__getattribute__" = some (some (.builtin "BaseException.__getattribute__"))) (hQ3 : PySem.W.findIn K (.ref Q3) "__getattr__" = some none) (cQ3 : PySem.W.findIn K (.ref Q3) "__class__" = some (some (.builtin "object.__class__"))) (mQ3 : PySem.W.mroIn K Q3 (.type "object") = some true) (vQ3 : PySem.W.subIn K (.ref Q3) (.type "ValueError") = some true)
    (nQ4 : PySem.W.nsIn K mainGlobals "BadNumber" = some (some (.ref Q4)))
    (tQ4 : PySem.W.typeIn K (.ref Q4) = some (.type "type")) (dQ4 : PySem.W.hasDictIn K Q4 = true)
    (nQ5 : PySem.W.nsIn K mainGlobals "BadPlace" = some (some (.ref Q5)))
    (tQ5 : PySem.W.typeIn K (.ref Q5) = some (.type "type")) (dQ5 : PySem.W.hasDictIn K Q5 = true)
    (nQ6 : PySem.W.nsIn K mainGlobals "BadLoading" = some (some (.ref Q6)))
    (tQ6 : PySem.W.typeIn K (.ref Q6) = some (.type "type")) (dQ6 : PySem.W.hasDictIn K Q6 = true)
    (nQ7 : PySem.W.nsIn K mainGlobals "BadWeights" = some (some (.ref Q7)))
    (tQ7 : PySem.W.typeIn K (.ref Q7) = some (.type "type")) (dQ7 : PySem.W.hasDictIn K Q7 = true)
    (nQ8 : PySem.W.nsIn K mainGlobals "BadSeen" = some (some (.ref Q8)))
    (tQ8 : PySem.W.typeIn K (.ref Q8) = some (.type "type")) (dQ8 : PySem.W.hasDictIn K Q8 = true)
    (nQ9 : PySem.W.nsIn K mainGlobals "Full" = some (some (.ref Q9)))
    (tQ9 : PySem.W.typeIn K (.ref Q9) = some (.type "type")) (dQ9 : PySem.W.hasDictIn K Q9 = true)
    (nQ10 : PySem.W.nsIn K mainGlobals "NoBack" = some (some (.ref Q10)))
    (tQ10 : PySem.W.typeIn K (.ref Q10) = some (.type "type")) (dQ10 : PySem.W.hasDictIn K Q10 = true)
    (nQ11 : PySem.W.nsIn K mainGlobals "ChairError" = some (some (.ref Q11)))
    (tQ11 : PySem.W.typeIn K (.ref Q11) = some (.type "type")) (dQ11 : PySem.W.hasDictIn K Q11 = true)
    (bQ11 : PySem.W.subIn K (.ref Q11) (.type "BaseException") = some true)
    (hgc : PySem.W.specialIn K (.builtin "object.__class__") "__get__" = some (some (.builtin "getset_descriptor.__get__"))) (htc : PySem.W.takesIn K (.builtin "object.__class__") = some true)
    (sQ0Q2 : PySem.W.subIn K (.ref Q0) (.ref Q2) = some false) (eQ0Q2 : (Value.ref Q0 == Value.ref Q2) = false)
    (sQ0Q1 : PySem.W.subIn K (.ref Q0) (.ref Q1) = some false) (eQ0Q1 : (Value.ref Q0 == Value.ref Q1) = false)
    (sQ0Q4 : PySem.W.subIn K (.ref Q0) (.ref Q4) = some false) (eQ0Q4 : (Value.ref Q0 == Value.ref Q4) = false)
    (sQ0Q5 : PySem.W.subIn K (.ref Q0) (.ref Q5) = some false) (eQ0Q5 : (Value.ref Q0 == Value.ref Q5) = false)
    (sQ0Q6 : PySem.W.subIn K (.ref Q0) (.ref Q6) = some false) (eQ0Q6 : (Value.ref Q0 == Value.ref Q6) = false)
    (sQ0Q7 : PySem.W.subIn K (.ref Q0) (.ref Q7) = some false) (eQ0Q7 : (Value.ref Q0 == Value.ref Q7) = false)
    (sQ0Q8 : PySem.W.subIn K (.ref Q0) (.ref Q8) = some false) (eQ0Q8 : (Value.ref Q0 == Value.ref Q8) = false)
    (sQ0Q9 : PySem.W.subIn K (.ref Q0) (.ref Q9) = some false) (eQ0Q9 : (Value.ref Q0 == Value.ref Q9) = false)
    (sQ0Q10 : PySem.W.subIn K (.ref Q0) (.ref Q10) = some false) (eQ0Q10 : (Value.ref Q0 == Value.ref Q10) = false)
    (sQ0Q3 : PySem.W.subIn K (.ref Q0) (.ref Q3) = some false) (eQ0Q3 : (Value.ref Q0 == Value.ref Q3) = false)
    (sQ1Q2 : PySem.W.subIn K (.ref Q1) (.ref Q2) = some false) (eQ1Q2 : (Value.ref Q1 == Value.ref Q2) = false)
    (sQ1Q4 : PySem.W.subIn K (.ref Q1) (.ref Q4) = some false) (eQ1Q4 : (Value.ref Q1 == Value.ref Q4) = false)
    (sQ1Q5 : PySem.W.subIn K (.ref Q1) (.ref Q5) = some false) (eQ1Q5 : (Value.ref Q1 == Value.ref Q5) = false)
    (sQ1Q6 : PySem.W.subIn K (.ref Q1) (.ref Q6) = some false) (eQ1Q6 : (Value.ref Q1 == Value.ref Q6) = false)
    (sQ1Q7 : PySem.W.subIn K (.ref Q1) (.ref Q7) = some false) (eQ1Q7 : (Value.ref Q1 == Value.ref Q7) = false)
    (sQ1Q0 : PySem.W.subIn K (.ref Q1) (.ref Q0) = some false) (eQ1Q0 : (Value.ref Q1 == Value.ref Q0) = false)
    (sQ1Q8 : PySem.W.subIn K (.ref Q1) (.ref Q8) = some false) (eQ1Q8 : (Value.ref Q1 == Value.ref Q8) = false)
    (sQ1Q9 : PySem.W.subIn K (.ref Q1) (.ref Q9) = some false) (eQ1Q9 : (Value.ref Q1 == Value.ref Q9) = false)
    (sQ1Q10 : PySem.W.subIn K (.ref Q1) (.ref Q10) = some false) (eQ1Q10 : (Value.ref Q1 == Value.ref Q10) = false)
    (sQ1Q3 : PySem.W.subIn K (.ref Q1) (.ref Q3) = some false) (eQ1Q3 : (Value.ref Q1 == Value.ref Q3) = false)
    (sQ2Q1 : PySem.W.subIn K (.ref Q2) (.ref Q1) = some false) (eQ2Q1 : (Value.ref Q2 == Value.ref Q1) = false)
    (sQ2Q4 : PySem.W.subIn K (.ref Q2) (.ref Q4) = some false) (eQ2Q4 : (Value.ref Q2 == Value.ref Q4) = false)
    (sQ2Q5 : PySem.W.subIn K (.ref Q2) (.ref Q5) = some false) (eQ2Q5 : (Value.ref Q2 == Value.ref Q5) = false)
    (sQ2Q6 : PySem.W.subIn K (.ref Q2) (.ref Q6) = some false) (eQ2Q6 : (Value.ref Q2 == Value.ref Q6) = false)
    (sQ2Q7 : PySem.W.subIn K (.ref Q2) (.ref Q7) = some false) (eQ2Q7 : (Value.ref Q2 == Value.ref Q7) = false)
    (sQ2Q0 : PySem.W.subIn K (.ref Q2) (.ref Q0) = some false) (eQ2Q0 : (Value.ref Q2 == Value.ref Q0) = false)
    (sQ2Q8 : PySem.W.subIn K (.ref Q2) (.ref Q8) = some false) (eQ2Q8 : (Value.ref Q2 == Value.ref Q8) = false)
    (sQ2Q9 : PySem.W.subIn K (.ref Q2) (.ref Q9) = some false) (eQ2Q9 : (Value.ref Q2 == Value.ref Q9) = false)
    (sQ2Q10 : PySem.W.subIn K (.ref Q2) (.ref Q10) = some false) (eQ2Q10 : (Value.ref Q2 == Value.ref Q10) = false)
    (sQ2Q3 : PySem.W.subIn K (.ref Q2) (.ref Q3) = some false) (eQ2Q3 : (Value.ref Q2 == Value.ref Q3) = false)
    (sQ3Q2 : PySem.W.subIn K (.ref Q3) (.ref Q2) = some false) (eQ3Q2 : (Value.ref Q3 == Value.ref Q2) = false)
    (sQ3Q1 : PySem.W.subIn K (.ref Q3) (.ref Q1) = some false) (eQ3Q1 : (Value.ref Q3 == Value.ref Q1) = false)
    (sQ3Q4 : PySem.W.subIn K (.ref Q3) (.ref Q4) = some false) (eQ3Q4 : (Value.ref Q3 == Value.ref Q4) = false)
    (sQ3Q5 : PySem.W.subIn K (.ref Q3) (.ref Q5) = some false) (eQ3Q5 : (Value.ref Q3 == Value.ref Q5) = false)
    (sQ3Q6 : PySem.W.subIn K (.ref Q3) (.ref Q6) = some false) (eQ3Q6 : (Value.ref Q3 == Value.ref Q6) = false)
    (sQ3Q7 : PySem.W.subIn K (.ref Q3) (.ref Q7) = some false) (eQ3Q7 : (Value.ref Q3 == Value.ref Q7) = false)
    (sQ3Q0 : PySem.W.subIn K (.ref Q3) (.ref Q0) = some false) (eQ3Q0 : (Value.ref Q3 == Value.ref Q0) = false)
    (sQ3Q8 : PySem.W.subIn K (.ref Q3) (.ref Q8) = some false) (eQ3Q8 : (Value.ref Q3 == Value.ref Q8) = false)
    (sQ3Q9 : PySem.W.subIn K (.ref Q3) (.ref Q9) = some false) (eQ3Q9 : (Value.ref Q3 == Value.ref Q9) = false)
    (sQ3Q10 : PySem.W.subIn K (.ref Q3) (.ref Q10) = some false) (eQ3Q10 : (Value.ref Q3 == Value.ref Q10) = false)
    (sQ0Q11 : PySem.W.subIn K (.ref Q0) (.ref Q11) = some true)
    (sQ1Q11 : PySem.W.subIn K (.ref Q1) (.ref Q11) = some true)
    (sQ2Q11 : PySem.W.subIn K (.ref Q2) (.ref Q11) = some true)
    (sQ3Q11 : PySem.W.subIn K (.ref Q3) (.ref Q11) = some true) :
    ∃ fd : FuncData, (∀ (s : Shared) (v : Value), BindsTo s fd ⟨[v], []⟩ [("script", v)]) ∧ ∀ base : Heap, K.In base → base.Ns mainGlobals mg → FnOk l.prog w K mg base CX0 9 fa fd ["script"] (spLaw K) := by
  have e := hfa.symm.trans (PySem.W.mg_of X G a36)
  cases e
  have cat_ChairError : CatTab K mg "ChairError" raisedL := ⟨Q11, PySem.W.mg_of X G nQ11, fun c hc => by
    simp only [raisedL, List.mem_cons, List.not_mem_nil, or_false] at hc
    rcases hc with rfl | rfl | rfl | rfl
    · exact ⟨Q0, nQ0, PySem.W.mg_of X G nQ0, PySem.W.exm_ref bQ11 dQ11 tQ11 sQ0Q11⟩
    · exact ⟨Q1, nQ1, PySem.W.mg_of X G nQ1, PySem.W.exm_ref bQ11 dQ11 tQ11 sQ1Q11⟩
    · exact ⟨Q2, nQ2, PySem.W.mg_of X G nQ2, PySem.W.exm_ref bQ11 dQ11 tQ11 sQ2Q11⟩
    · exact ⟨Q3, nQ3, PySem.W.mg_of X G nQ3, PySem.W.exm_ref bQ11 dQ11 tQ11 sQ3Q11⟩⟩
  have tab : ExcTab K raisedL testedL := by
    refine ⟨fun c hc C hns => ?_, fun c hc d hd C D hns hnd => ?_⟩
    · simp only [raisedL, List.mem_cons, List.not_mem_nil, or_false] at hc
      rcases hc with rfl | rfl | rfl | rfl
      · cases hns.symm.trans nQ0
        exact ⟨⟨gQ0, hQ0, bQ0, dQ0, cQ0, hgc, htc, mQ0⟩, kit_ve vQ0⟩
      · cases hns.symm.trans nQ1
        exact ⟨⟨gQ1, hQ1, bQ1, dQ1, cQ1, hgc, htc, mQ1⟩, kit_ve vQ1⟩
      · cases hns.symm.trans nQ2
        exact ⟨⟨gQ2, hQ2, bQ2, dQ2, cQ2, hgc, htc, mQ2⟩, kit_ve vQ2⟩
      · cases hns.symm.trans nQ3
        exact ⟨⟨gQ3, hQ3, bQ3, dQ3, cQ3, hgc, htc, mQ3⟩, kit_ve vQ3⟩
    · simp only [raisedL, testedL, List.mem_cons, List.not_mem_nil, or_false] at hc hd
      rcases hc with rfl | rfl | rfl | rfl
      · cases hns.symm.trans nQ0
        rcases hd with rfl | rfl | rfl | rfl | rfl | rfl | rfl | rfl | rfl | rfl | rfl
        · cases hnd.symm.trans nQ2
          exact kit_other eQ0Q2 dQ2 tQ2 sQ0Q2
        · cases hnd.symm.trans nQ1
          exact kit_other eQ0Q1 dQ1 tQ1 sQ0Q1
        · cases hnd.symm.trans nQ4
          exact kit_other eQ0Q4 dQ4 tQ4 sQ0Q4
        · cases hnd.symm.trans nQ5
          exact kit_other eQ0Q5 dQ5 tQ5 sQ0Q5
        · cases hnd.symm.trans nQ6
          exact kit_other eQ0Q6 dQ6 tQ6 sQ0Q6
        · cases hnd.symm.trans nQ7
          exact kit_other eQ0Q7 dQ7 tQ7 sQ0Q7
        · cases hnd.symm.trans nQ0
          exact kit_same
        · cases hnd.symm.trans nQ8
          exact kit_other eQ0Q8 dQ8 tQ8 sQ0Q8
        · cases hnd.symm.trans nQ9
          exact kit_other eQ0Q9 dQ9 tQ9 sQ0Q9
        · cases hnd.symm.trans nQ10
          exact kit_other eQ0Q10 dQ10 tQ10 sQ0Q10
        · cases hnd.symm.trans nQ3
          exact kit_other eQ0Q3 dQ3 tQ3 sQ0Q3
      · cases hns.symm.trans nQ1
        rcases hd with rfl | rfl | rfl | rfl | rfl | rfl | rfl | rfl | rfl | rfl | rfl
        · cases hnd.symm.trans nQ2
          exact kit_other eQ1Q2 dQ2 tQ2 sQ1Q2
        · cases hnd.symm.trans nQ1
          exact kit_same
        · cases hnd.symm.trans nQ4
          exact kit_other eQ1Q4 dQ4 tQ4 sQ1Q4
        · cases hnd.symm.trans nQ5
          exact kit_other eQ1Q5 dQ5 tQ5 sQ1Q5
        · cases hnd.symm.trans nQ6
          exact kit_other eQ1Q6 dQ6 tQ6 sQ1Q6
        · cases hnd.symm.trans nQ7
          exact kit_other eQ1Q7 dQ7 tQ7 sQ1Q7
        · cases hnd.symm.trans nQ0
          exact kit_other eQ1Q0 dQ0 tQ0 sQ1Q0
        · cases hnd.symm.trans nQ8
          exact kit_other eQ1Q8 dQ8 tQ8 sQ1Q8
        · cases hnd.symm.trans nQ9
          exact kit_other eQ1Q9 dQ9 tQ9 sQ1Q9
        · cases hnd.symm.trans nQ10
          exact kit_other eQ1Q10 dQ10 tQ10 sQ1Q10
        · cases hnd.symm.trans nQ3
          exact kit_other eQ1Q3 dQ3 tQ3 sQ1Q3
      · cases hns.symm.trans nQ2
        rcases hd with rfl | rfl | rfl | rfl | rfl | rfl | rfl | rfl | rfl | rfl | rfl
        · cases hnd.symm.trans nQ2
          exact kit_same
        · cases hnd.symm.trans nQ1
          exact kit_other eQ2Q1 dQ1 tQ1 sQ2Q1
        · cases hnd.symm.trans nQ4
          exact kit_other eQ2Q4 dQ4 tQ4 sQ2Q4
        · cases hnd.symm.trans nQ5
          exact kit_other eQ2Q5 dQ5 tQ5 sQ2Q5
        · cases hnd.symm.trans nQ6
          exact kit_other eQ2Q6 dQ6 tQ6 sQ2Q6
        · cases hnd.symm.trans nQ7
          exact kit_other eQ2Q7 dQ7 tQ7 sQ2Q7
        · cases hnd.symm.trans nQ0
          exact kit_other eQ2Q0 dQ0 tQ0 sQ2Q0
        · cases hnd.symm.trans nQ8
          exact kit_other eQ2Q8 dQ8 tQ8 sQ2Q8
        · cases hnd.symm.trans nQ9
          exact kit_other eQ2Q9 dQ9 tQ9 sQ2Q9
        · cases hnd.symm.trans nQ10
          exact kit_other eQ2Q10 dQ10 tQ10 sQ2Q10
        · cases hnd.symm.trans nQ3
          exact kit_other eQ2Q3 dQ3 tQ3 sQ2Q3
      · cases hns.symm.trans nQ3
        rcases hd with rfl | rfl | rfl | rfl | rfl | rfl | rfl | rfl | rfl | rfl | rfl
        · cases hnd.symm.trans nQ2
          exact kit_other eQ3Q2 dQ2 tQ2 sQ3Q2
        · cases hnd.symm.trans nQ1
          exact kit_other eQ3Q1 dQ1 tQ1 sQ3Q1
        · cases hnd.symm.trans nQ4
          exact kit_other eQ3Q4 dQ4 tQ4 sQ3Q4
        · cases hnd.symm.trans nQ5
          exact kit_other eQ3Q5 dQ5 tQ5 sQ3Q5
        · cases hnd.symm.trans nQ6
          exact kit_other eQ3Q6 dQ6 tQ6 sQ3Q6
        · cases hnd.symm.trans nQ7
          exact kit_other eQ3Q7 dQ7 tQ7 sQ3Q7
        · cases hnd.symm.trans nQ0
          exact kit_other eQ3Q0 dQ0 tQ0 sQ3Q0
        · cases hnd.symm.trans nQ8
          exact kit_other eQ3Q8 dQ8 tQ8 sQ3Q8
        · cases hnd.symm.trans nQ9
          exact kit_other eQ3Q9 dQ9 tQ9 sQ3Q9
        · cases hnd.symm.trans nQ10
          exact kit_other eQ3Q10 dQ10 tQ10 sQ3Q10
        · cases hnd.symm.trans nQ3
          exact kit_same
  have T : Facts K mg := { b_ValueError := PySem.W.mg_none_of X G z0, b_all := PySem.W.mg_none_of X G z1, b_bool := PySem.W.mg_none_of X G z2, b_enumerate := PySem.W.mg_none_of X G z3, b_int := PySem.W.mg_none_of X G z4, b_isinstance := PySem.W.mg_none_of X G z5, b_len := PySem.W.mg_none_of X G z6, b_list := PySem.W.mg_none_of X G z7, b_min := PySem.W.mg_none_of X G z8, b_range := PySem.W.mg_none_of X G z9, b_sorted := PySem.W.mg_none_of X G z10, b_str := PySem.W.mg_none_of X G z11, b_tuple := PySem.W.mg_none_of X G z12, c_FIGURES := ⟨_, PySem.W.mg_of X G z13⟩, c_LONGEST := ⟨_, PySem.W.mg_of X G z14⟩, e_BadDay := ⟨C28, PySem.W.mg_of X G z28, x28, y28, b28, t28⟩, e_BadLine := ⟨C29, PySem.W.mg_of X G z29, x29, y29, b29, t29⟩, e_BadLoader := ⟨C30, PySem.W.mg_of X G z30, x30, y30, b30, t30⟩, e_BadText := ⟨C31, PySem.W.mg_of X G z31, x31, y31, b31, t31⟩, n_BadDay := ⟨Q0, PySem.W.mg_of X G nQ0, nQ0⟩, n_BadLine := ⟨Q1, PySem.W.mg_of X G nQ1, nQ1⟩, n_BadLoader := ⟨Q2, PySem.W.mg_of X G nQ2, nQ2⟩, n_BadLoading := ⟨Q6, PySem.W.mg_of X G nQ6, nQ6⟩, n_BadNumber := ⟨Q4, PySem.W.mg_of X G nQ4, nQ4⟩, n_BadPlace := ⟨Q5, PySem.W.mg_of X G nQ5, nQ5⟩, n_BadSeen := ⟨Q8, PySem.W.mg_of X G nQ8, nQ8⟩, n_BadText := ⟨Q3, PySem.W.mg_of X G nQ3, nQ3⟩, n_BadWeights := ⟨Q7, PySem.W.mg_of X G nQ7, nQ7⟩, n_Full := ⟨Q9, PySem.W.mg_of X G nQ9, nQ9⟩, n_NoBack := ⟨Q10, PySem.W.mg_of X G nQ10, nQ10⟩, cat_ChairError := cat_ChairError, tab := tab }
  refine ⟨PySem.W.fnOf "law" "law" (defArgs s_law) (defBody s_law) (defScope s_law) .none kV36 dc36 pm36 an36 cd36 ct36, fun s v => .of_eq rfl, fun base _ _ => ?_⟩
  have F0 := fun_mk (st := s_is_whole) l0 c0 k0
  have C_is_whole : Cal l.prog w K mg base 1 "is_whole" ["thing", "least", "most"] g_is_whole := ⟨_, _, ok_is_whole (P := l.prog) (w := w) (base := base) T F0, PySem.W.mg_of X G a0, k0, F0.binds (ps := ["thing", "least", "most"]) fun _ _ _ _ _ _ us hl => match us, hl with | [_, _, _], _ => rfl⟩
  have F1 := fun_mk (st := s_next_of) l1 c1 k1
  have C_next_of : Cal l.prog w K mg base 1 "next_of" ["loader", "rows", "room"] g_next_of := ⟨_, _, ok_next_of (P := l.prog) (w := w) (base := base) T F1, PySem.W.mg_of X G a1, k1, F1.binds (ps := ["loader", "rows", "room"]) fun _ _ _ _ _ _ us hl => match us, hl with | [_, _, _], _ => rfl⟩
  have F2 := fun_mk (st := s_text_of) l2 c2 k2
  have C_text_of : Cal l.prog w K mg base 1 "text_of" ["loader"] g_text_of := ⟨_, _, ok_text_of (P := l.prog) (w := w) (base := base) T F2, PySem.W.mg_of X G a2, k2, F2.binds (ps := ["loader"]) fun _ _ _ _ _ _ us hl => match us, hl with | [_], _ => rfl⟩
  have F3 := fun_mk (st := s_number_in) l3 c3 k3
  have C_number_in : Cal l.prog w K mg base 1 "number_in" ["word"] g_number_in := ⟨_, _, ok_number_in (P := l.prog) (w := w) (base := base) T F3, PySem.W.mg_of X G a3, k3, F3.binds (ps := ["word"]) fun _ _ _ _ _ _ us hl => match us, hl with | [_], _ => rfl⟩
  have F4 := fun_mk (st := s_joined) l4 c4 k4
  have C_joined : Cal l.prog w K mg base 1 "joined" ["some", "sign"] g_joined := ⟨_, _, ok_joined (P := l.prog) (w := w) (base := base) T F4, PySem.W.mg_of X G a4, k4, F4.binds (ps := ["some", "sign"]) fun _ _ _ _ _ _ us hl => match us, hl with | [_, _], _ => rfl⟩
  have F5 := fun_mk (st := s_law_town) l5 c5 k5
  have C_law_town : Cal l.prog w K mg base 1 "_law_town" ["script"] g_law_town := ⟨_, _, ok_law_town (P := l.prog) (w := w) (base := base) T F5, PySem.W.mg_of X G a5, k5, F5.binds (ps := ["script"]) fun _ _ _ _ _ _ us hl => match us, hl with | [_], _ => rfl⟩
  have F6 := fun_mk (st := s_law_draw) l6 c6 k6
  have C_law_draw : Cal l.prog w K mg base 1 "_law_draw" ["script", "town", "many"] g_law_draw := ⟨_, _, ok_law_draw (P := l.prog) (w := w) (base := base) T F6, PySem.W.mg_of X G a6, k6, F6.binds (ps := ["script", "town", "many"]) fun _ _ _ _ _ _ us hl => match us, hl with | [_, _, _], _ => rfl⟩
  have F7 := fun_mk (st := s_law_word) l7 c7 k7
  have C_law_word : Cal l.prog w K mg base 1 "_law_word" ["caught"] g_law_word := ⟨_, _, ok_law_word (P := l.prog) (w := w) (base := base) T F7, PySem.W.mg_of X G a7, k7, F7.binds (ps := ["caught"]) fun _ _ _ _ _ _ us hl => match us, hl with | [_], _ => rfl⟩
  have F8 := fun_mk (st := s_law_refused) l8 c8 k8
  have C_law_refused : Cal l.prog w K mg base 1 "_law_refused" ["word"] g_law_refused := ⟨_, _, ok_law_refused (P := l.prog) (w := w) (base := base) T F8, PySem.W.mg_of X G a8, k8, F8.binds (ps := ["word"]) fun _ _ _ _ _ _ us hl => match us, hl with | [_], _ => rfl⟩
  have F9 := fun_mk (st := s_law_sizes) l9 c9 k9
  have C_law_sizes : Cal l.prog w K mg base 1 "_law_sizes" ["some", "sign"] g_law_sizes := ⟨_, _, ok_law_sizes (P := l.prog) (w := w) (base := base) T F9, PySem.W.mg_of X G a9, k9, F9.binds (ps := ["some", "sign"]) fun _ _ _ _ _ _ us hl => match us, hl with | [_, _], _ => rfl⟩
  have F10 := fun_mk (st := s_is_loader) l10 c10 k10
  have C_is_loader : Cal l.prog w K mg base 2 "is_loader" ["thing"] g_is_loader := ⟨_, _, ok_is_loader (P := l.prog) (w := w) (base := base) T F10 C_is_whole, PySem.W.mg_of X G a10, k10, F10.binds (ps := ["thing"]) fun _ _ _ _ _ _ us hl => match us, hl with | [_], _ => rfl⟩
  have F11 := fun_mk (st := s_are_groups) l11 c11 k11
  have C_are_groups : Cal l.prog w K mg base 2 "are_groups" ["loader", "thing", "most"] g_are_groups := ⟨_, _, ok_are_groups (P := l.prog) (w := w) (base := base) T F11 C_is_whole, PySem.W.mg_of X G a11, k11, F11.binds (ps := ["loader", "thing", "most"]) fun _ _ _ _ _ _ us hl => match us, hl with | [_, _, _], _ => rfl⟩
  have F12 := fun_mk (st := s_loaded) l12 c12 k12
  have C_loaded : Cal l.prog w K mg base 2 "loaded" ["loader", "rows"] g_loaded := ⟨_, _, ok_loaded (P := l.prog) (w := w) (base := base) T F12 C_next_of, PySem.W.mg_of X G a12, k12, F12.binds (ps := ["loader", "rows"]) fun _ _ _ _ _ _ us hl => match us, hl with | [_, _], _ => rfl⟩
  have F13 := fun_mk (st := s_parted) l13 c13 k13
  have C_parted : Cal l.prog w K mg base 2 "parted" ["text", "sign"] g_parted := ⟨_, _, ok_parted (P := l.prog) (w := w) (base := base) T F13 C_number_in, PySem.W.mg_of X G a13, k13, F13.binds (ps := ["text", "sign"]) fun _ _ _ _ _ _ us hl => match us, hl with | [_, _], _ => rfl⟩
  have F14 := fun_mk (st := s_law_pick) l14 c14 k14
  have C_law_pick : Cal l.prog w K mg base 2 "_law_pick" ["script", "town", "some"] g_law_pick := ⟨_, _, ok_law_pick (P := l.prog) (w := w) (base := base) T F14 C_law_draw, PySem.W.mg_of X G a14, k14, F14.binds (ps := ["script", "town", "some"]) fun _ _ _ _ _ _ us hl => match us, hl with | [_, _, _], _ => rfl⟩
  have F15 := fun_mk (st := s_law_loader) l15 c15 k15
  have C_law_loader : Cal l.prog w K mg base 2 "_law_loader" ["script", "town", "most_seats"] g_law_loader := ⟨_, _, ok_law_loader (P := l.prog) (w := w) (base := base) T F15 C_law_draw, PySem.W.mg_of X G a15, k15, F15.binds (ps := ["script", "town", "most_seats"]) fun _ _ _ _ _ _ us hl => match us, hl with | [_, _, _], _ => rfl⟩
  have F16 := fun_mk (st := s_law_groups) l16 c16 k16
  have C_law_groups : Cal l.prog w K mg base 2 "_law_groups" ["script", "town", "seats", "most_groups"] g_law_groups := ⟨_, _, ok_law_groups (P := l.prog) (w := w) (base := base) T F16 C_law_draw, PySem.W.mg_of X G a16, k16, F16.binds (ps := ["script", "town", "seats", "most_groups"]) fun _ _ _ _ _ _ us hl => match us, hl with | [_, _, _, _], _ => rfl⟩
  have F17 := fun_mk (st := s_look_loader) l17 c17 k17
  have C_look_loader : Cal l.prog w K mg base 3 "look_loader" ["loader"] g_look_loader := ⟨_, _, ok_look_loader (P := l.prog) (w := w) (base := base) T F17 C_is_loader, PySem.W.mg_of X G a17, k17, F17.binds (ps := ["loader"]) fun _ _ _ _ _ _ us hl => match us, hl with | [_], _ => rfl⟩
  have F18 := fun_mk (st := s_all_loaded) l18 c18 k18
  have C_all_loaded : Cal l.prog w K mg base 3 "all_loaded" ["loader", "line"] g_all_loaded := ⟨_, _, ok_all_loaded (P := l.prog) (w := w) (base := base) T F18 C_loaded, PySem.W.mg_of X G a18, k18, F18.binds (ps := ["loader", "line"]) fun _ _ _ _ _ _ us hl => match us, hl with | [_, _], _ => rfl⟩
  have F19 := fun_mk (st := s_is_beat) l19 c19 k19
  have C_is_beat : Cal l.prog w K mg base 3 "is_beat" ["loader", "thing"] g_is_beat := ⟨_, _, ok_is_beat (P := l.prog) (w := w) (base := base) T F19 C_are_groups C_is_whole, PySem.W.mg_of X G a19, k19, F19.binds (ps := ["loader", "thing"]) fun _ _ _ _ _ _ us hl => match us, hl with | [_, _], _ => rfl⟩
  have F20 := fun_mk (st := s_read_loader) l20 c20 k20
  have C_read_loader : Cal l.prog w K mg base 3 "read_loader" ["text"] g_read_loader := ⟨_, _, ok_read_loader (P := l.prog) (w := w) (base := base) T F20 C_number_in C_is_loader C_text_of, PySem.W.mg_of X G a20, k20, F20.binds (ps := ["text"]) fun _ _ _ _ _ _ us hl => match us, hl with | [_], _ => rfl⟩
  have F21 := fun_mk (st := s_beat_in) l21 c21 k21
  have C_beat_in : Cal l.prog w K mg base 3 "beat_in" ["word"] g_beat_in := ⟨_, _, ok_beat_in (P := l.prog) (w := w) (base := base) T F21 C_parted C_number_in, PySem.W.mg_of X G a21, k21, F21.binds (ps := ["word"]) fun _ _ _ _ _ _ us hl => match us, hl with | [_], _ => rfl⟩
  have F22 := fun_mk (st := s_law_day) l22 c22 k22
  have C_law_day : Cal l.prog w K mg base 3 "_law_day" ["script", "town", "loader", "most_beats"] g_law_day := ⟨_, _, ok_law_day (P := l.prog) (w := w) (base := base) T F22 C_law_draw C_law_groups C_law_pick, PySem.W.mg_of X G a22, k22, F22.binds (ps := ["script", "town", "loader", "most_beats"]) fun _ _ _ _ _ _ us hl => match us, hl with | [_, _, _, _], _ => rfl⟩
  have F23 := fun_mk (st := s_look_line) l23 c23 k23
  have C_look_line : Cal l.prog w K mg base 4 "look_line" ["loader", "line"] g_look_line := ⟨_, _, ok_look_line (P := l.prog) (w := w) (base := base) T F23 C_look_loader C_are_groups, PySem.W.mg_of X G a23, k23, F23.binds (ps := ["loader", "line"]) fun _ _ _ _ _ _ us hl => match us, hl with | [_, _], _ => rfl⟩
  have F24 := fun_mk (st := s_all_chairs) l24 c24 k24
  have C_all_chairs : Cal l.prog w K mg base 4 "all_chairs" ["loader", "line"] g_all_chairs := ⟨_, _, ok_all_chairs (P := l.prog) (w := w) (base := base) T F24 C_all_loaded, PySem.W.mg_of X G a24, k24, F24.binds (ps := ["loader", "line"]) fun _ _ _ _ _ _ us hl => match us, hl with | [_, _], _ => rfl⟩
  have F25 := fun_mk (st := s_is_good) l25 c25 k25
  have C_is_good : Cal l.prog w K mg base 4 "is_good" ["loader", "thing"] g_is_good := ⟨_, _, ok_is_good (P := l.prog) (w := w) (base := base) T F25 C_is_beat, PySem.W.mg_of X G a25, k25, F25.binds (ps := ["loader", "thing"]) fun _ _ _ _ _ _ us hl => match us, hl with | [_, _], _ => rfl⟩
  have F26 := fun_mk (st := s_loader_text) l26 c26 k26
  have C_loader_text : Cal l.prog w K mg base 4 "loader_text" ["loader"] g_loader_text := ⟨_, _, ok_loader_text (P := l.prog) (w := w) (base := base) T F26 C_look_loader C_text_of, PySem.W.mg_of X G a26, k26, F26.binds (ps := ["loader"]) fun _ _ _ _ _ _ us hl => match us, hl with | [_], _ => rfl⟩
  have F27 := fun_mk (st := s_read_line) l27 c27 k27
  have C_read_line : Cal l.prog w K mg base 4 "read_line" ["loader", "text"] g_read_line := ⟨_, _, ok_read_line (P := l.prog) (w := w) (base := base) T F27 C_look_loader C_parted C_are_groups, PySem.W.mg_of X G a27, k27, F27.binds (ps := ["loader", "text"]) fun _ _ _ _ _ _ us hl => match us, hl with | [_, _], _ => rfl⟩
  have F28 := fun_mk (st := s_chairs) l28 c28 k28
  have C_chairs : Cal l.prog w K mg base 5 "chairs" ["loader", "line"] g_chairs := ⟨_, _, ok_chairs (P := l.prog) (w := w) (base := base) T F28 C_look_line C_all_chairs, PySem.W.mg_of X G a28, k28, F28.binds (ps := ["loader", "line"]) fun _ _ _ _ _ _ us hl => match us, hl with | [_, _], _ => rfl⟩
  have F29 := fun_mk (st := s_look_day) l29 c29 k29
  have C_look_day : Cal l.prog w K mg base 5 "look_day" ["loader", "day"] g_look_day := ⟨_, _, ok_look_day (P := l.prog) (w := w) (base := base) T F29 C_look_loader C_is_good, PySem.W.mg_of X G a29, k29, F29.binds (ps := ["loader", "day"]) fun _ _ _ _ _ _ us hl => match us, hl with | [_, _], _ => rfl⟩
  have F30 := fun_mk (st := s_line_text) l30 c30 k30
  have C_line_text : Cal l.prog w K mg base 5 "line_text" ["loader", "line"] g_line_text := ⟨_, _, ok_line_text (P := l.prog) (w := w) (base := base) T F30 C_look_line C_joined, PySem.W.mg_of X G a30, k30, F30.binds (ps := ["loader", "line"]) fun _ _ _ _ _ _ us hl => match us, hl with | [_, _], _ => rfl⟩
  have F31 := fun_mk (st := s_chairs_text) l31 c31 k31
  have C_chairs_text : Cal l.prog w K mg base 5 "chairs_text" ["loader", "line"] g_chairs_text := ⟨_, _, ok_chairs_text (P := l.prog) (w := w) (base := base) T F31 C_look_line C_all_chairs C_joined, PySem.W.mg_of X G a31, k31, F31.binds (ps := ["loader", "line"]) fun _ _ _ _ _ _ us hl => match us, hl with | [_, _], _ => rfl⟩
  have F32 := fun_mk (st := s_read_day) l32 c32 k32
  have C_read_day : Cal l.prog w K mg base 5 "read_day" ["loader", "text"] g_read_day := ⟨_, _, ok_read_day (P := l.prog) (w := w) (base := base) T F32 C_look_loader C_beat_in C_is_good, PySem.W.mg_of X G a32, k32, F32.binds (ps := ["loader", "text"]) fun _ _ _ _ _ _ us hl => match us, hl with | [_, _], _ => rfl⟩
  have F33 := fun_mk (st := s_day_text) l33 c33 k33
  have C_day_text : Cal l.prog w K mg base 6 "day_text" ["loader", "day"] g_day_text := ⟨_, _, ok_day_text (P := l.prog) (w := w) (base := base) T F33 C_look_day C_joined, PySem.W.mg_of X G a33, k33, F33.binds (ps := ["loader", "day"]) fun _ _ _ _ _ _ us hl => match us, hl with | [_, _], _ => rfl⟩
  have F34 := fun_mk (st := s_law_one) l34 c34 k34
  have C_law_one : Cal l.prog w K mg base 7 "_law_one" ["how", "some"] g_law_one := ⟨_, _, ok_law_one (P := l.prog) (w := w) (base := base) T F34 C_loader_text C_read_loader C_line_text C_read_line C_day_text C_read_day, PySem.W.mg_of X G a34, k34, F34.binds (ps := ["how", "some"]) fun _ _ _ _ _ _ us hl => match us, hl with | [_, _], _ => rfl⟩
  have F35 := fun_mk (st := s_law_told) l35 c35 k35
  have C_law_told : Cal l.prog w K mg base 8 "_law_told" ["way", "some"] g_law_told := ⟨_, _, ok_law_told (P := l.prog) (w := w) (base := base) T F35 C_law_one C_law_word, PySem.W.mg_of X G a35, k35, F35.binds (ps := ["way", "some"]) fun _ _ _ _ _ _ us hl => match us, hl with | [_, _], _ => rfl⟩
  have F36 := fun_mk (st := s_law) l36 c36 k36
  exact law_of (ok_law (P := l.prog) (w := w) (base := base) T F36 C_law_town C_law_loader C_law_groups C_law_day C_law_sizes C_loader_text C_line_text C_day_text C_read_loader C_read_line C_read_day C_chairs C_chairs_text C_law_draw C_law_pick C_law_told C_law_refused) law_ok
end Lw
open PySem PySem.W PyProof.Rows
set_option maxHeartbeats 0 in
theorem PySem.Challenge.cw_chairline_k84_whole_texts_holds : PySem.Challenge.rw_chairline_k84_whole_texts.Holds := by
  w_on; o_law; k_head; (case hw => w_witness2)
  k_fill
  refine L2.walk_of (l := PySem.Challenge.rw_chairline_k84_whole_texts) (n := 63) (k := 9) (x := "script") (CX := fun _ => L2.CX0) (sp := fun w => DL.spLaw _) rfl (by decide) rfl ⟨rfl, by decide, by decide⟩ (fun w h Y => PySem.W.kIn_of Y) ?F (fun _ _ a ns hl hO hS => ⟨a, ns, rfl, hS, hl, hO, fun _ => rfl⟩) (fun _ _ _ _ _ h => h)
  case F =>
    intro w mg fa h KX G hmg
    refine' Lw.all_mk KX G hmg ?a0 ?l0 ?c0 ?k0 ?a1 ?l1 ?c1 ?k1 ?a2 ?l2 ?c2 ?k2 ?a3 ?l3 ?c3 ?k3 ?a4 ?l4 ?c4 ?k4 ?a5 ?l5 ?c5 ?k5 ?a6 ?l6 ?c6 ?k6 ?a7 ?l7 ?c7 ?k7 ?a8 ?l8 ?c8 ?k8 ?a9 ?l9 ?c9 ?k9 ?a10 ?l10 ?c10 ?k10 ?a11 ?l11 ?c11 ?k11 ?a12 ?l12 ?c12 ?k12 ?a13 ?l13 ?c13 ?k13 ?a14 ?l14 ?c14 ?k14 ?a15 ?l15 ?c15 ?k15 ?a16 ?l16 ?c16 ?k16 ?a17 ?l17 ?c17 ?k17 ?a18 ?l18 ?c18 ?k18 ?a19 ?l19 ?c19 ?k19 ?a20 ?l20 ?c20 ?k20 ?a21 ?l21 ?c21 ?k21 ?a22 ?l22 ?c22 ?k22 ?a23 ?l23 ?c23 ?k23 ?a24 ?l24 ?c24 ?k24 ?a25 ?l25 ?c25 ?k25 ?a26 ?l26 ?c26 ?k26 ?a27 ?l27 ?c27 ?k27 ?a28 ?l28 ?c28 ?k28 ?a29 ?l29 ?c29 ?k29 ?a30 ?l30 ?c30 ?k30 ?a31 ?l31 ?c31 ?k31 ?a32 ?l32 ?c32 ?k32 ?a33 ?l33 ?c33 ?k33 ?a34 ?l34 ?c34 ?k34 ?a35 ?l35 ?c35 ?k35 ?a36 ?l36 ?c36 ?k36 ?z0 ?z1 ?z2 ?z3 ?z4 ?z5 ?z6 ?z7 ?z8 ?z9 ?z10 ?z11 ?z12 ?z13 ?z14 ?z28 ?x28 ?y28 ?b28 ?t28 ?z29 ?x29 ?y29 ?b29 ?t29 ?z30 ?x30 ?y30 ?b30 ?t30 ?z31 ?x31 ?y31 ?b31 ?t31 ?nQ0 ?tQ0 ?dQ0 ?bQ0 ?gQ0 ?hQ0 ?cQ0 ?mQ0 ?vQ0 ?nQ1 ?tQ1 ?dQ1 ?bQ1 ?gQ1 ?hQ1 ?cQ1 ?mQ1 ?vQ1 ?nQ2 ?tQ2 ?dQ2 ?bQ2 ?gQ2 ?hQ2 ?cQ2 ?mQ2 ?vQ2 ?nQ3 ?tQ3 ?dQ3 ?bQ3 ?gQ3 ?hQ3 ?cQ3 ?mQ3 ?vQ3 ?nQ4 ?tQ4 ?dQ4 ?nQ5 ?tQ5 ?dQ5 ?nQ6 ?tQ6 ?dQ6 ?nQ7 ?tQ7 ?dQ7 ?nQ8 ?tQ8 ?dQ8 ?nQ9 ?tQ9 ?dQ9 ?nQ10 ?tQ10 ?dQ10 ?nQ11 ?tQ11 ?dQ11 ?bQ11 ?hgc ?htc ?sQ0Q2 ?eQ0Q2 ?sQ0Q1 ?eQ0Q1 ?sQ0Q4 ?eQ0Q4 ?sQ0Q5 ?eQ0Q5 ?sQ0Q6 ?eQ0Q6 ?sQ0Q7 ?eQ0Q7 ?sQ0Q8 ?eQ0Q8 ?sQ0Q9 ?eQ0Q9 ?sQ0Q10 ?eQ0Q10 ?sQ0Q3 ?eQ0Q3 ?sQ1Q2 ?eQ1Q2 ?sQ1Q4 ?eQ1Q4 ?sQ1Q5 ?eQ1Q5 ?sQ1Q6 ?eQ1Q6 ?sQ1Q7 ?eQ1Q7 ?sQ1Q0 ?eQ1Q0 ?sQ1Q8 ?eQ1Q8 ?sQ1Q9 ?eQ1Q9 ?sQ1Q10 ?eQ1Q10 ?sQ1Q3 ?eQ1Q3 ?sQ2Q1 ?eQ2Q1 ?sQ2Q4 ?eQ2Q4 ?sQ2Q5 ?eQ2Q5 ?sQ2Q6 ?eQ2Q6 ?sQ2Q7 ?eQ2Q7 ?sQ2Q0 ?eQ2Q0 ?sQ2Q8 ?eQ2Q8 ?sQ2Q9 ?eQ2Q9 ?sQ2Q10 ?eQ2Q10 ?sQ2Q3 ?eQ2Q3 ?sQ3Q2 ?eQ3Q2 ?sQ3Q1 ?eQ3Q1 ?sQ3Q4 ?eQ3Q4 ?sQ3Q5 ?eQ3Q5 ?sQ3Q6 ?eQ3Q6 ?sQ3Q7 ?eQ3Q7 ?sQ3Q0 ?eQ3Q0 ?sQ3Q8 ?eQ3Q8 ?sQ3Q9 ?eQ3Q9 ?sQ3Q10 ?eQ3Q10 ?sQ0Q11 ?sQ1Q11 ?sQ2Q11 ?sQ3Q11
    (case a0 => k_is)
    (case l0 => k_is)
    (case c0 => k_is)
    (case k0 => k_is)
    (case a1 => k_is)
    (case l1 => k_is)
    (case c1 => k_is)
    (case k1 => k_is)
    (case a2 => k_is)
    (case l2 => k_is)
    (case c2 => k_is)
    (case k2 => k_is)
    (case a3 => k_is)
    (case l3 => k_is)
    (case c3 => k_is)
    (case k3 => k_is)
    (case a4 => k_is)
    (case l4 => k_is)
    (case c4 => k_is)
    (case k4 => k_is)
    (case a5 => k_is)
    (case l5 => k_is)
    (case c5 => k_is)
    (case k5 => k_is)
    (case a6 => k_is)
    (case l6 => k_is)
    (case c6 => k_is)
    (case k6 => k_is)
    (case a7 => k_is)
    (case l7 => k_is)
    (case c7 => k_is)
    (case k7 => k_is)
    (case a8 => k_is)
    (case l8 => k_is)
    (case c8 => k_is)
    (case k8 => k_is)
    (case a9 => k_is)
    (case l9 => k_is)
    (case c9 => k_is)
    (case k9 => k_is)
    (case a10 => k_is)
    (case l10 => k_is)
    (case c10 => k_is)
    (case k10 => k_is)
    (case a11 => k_is)
    (case l11 => k_is)
    (case c11 => k_is)
    (case k11 => k_is)
    (case a12 => k_is)
    (case l12 => k_is)
    (case c12 => k_is)
    (case k12 => k_is)
    (case a13 => k_is)
    (case l13 => k_is)
    (case c13 => k_is)
    (case k13 => k_is)
    (case a14 => k_is)
    (case l14 => k_is)
    (case c14 => k_is)
    (case k14 => k_is)
    (case a15 => k_is)
    (case l15 => k_is)
    (case c15 => k_is)
    (case k15 => k_is)
    (case a16 => k_is)
    (case l16 => k_is)
    (case c16 => k_is)
    (case k16 => k_is)
    (case a17 => k_is)
    (case l17 => k_is)
    (case c17 => k_is)
    (case k17 => k_is)
    (case a18 => k_is)
    (case l18 => k_is)
    (case c18 => k_is)
    (case k18 => k_is)
    (case a19 => k_is)
    (case l19 => k_is)
    (case c19 => k_is)
    (case k19 => k_is)
    (case a20 => k_is)
    (case l20 => k_is)
    (case c20 => k_is)
    (case k20 => k_is)
    (case a21 => k_is)
    (case l21 => k_is)
    (case c21 => k_is)
    (case k21 => k_is)
    (case a22 => k_is)
    (case l22 => k_is)
    (case c22 => k_is)
    (case k22 => k_is)
    (case a23 => k_is)
    (case l23 => k_is)
    (case c23 => k_is)
    (case k23 => k_is)
    (case a24 => k_is)
    (case l24 => k_is)
    (case c24 => k_is)
    (case k24 => k_is)
    (case a25 => k_is)
    (case l25 => k_is)
    (case c25 => k_is)
    (case k25 => k_is)
    (case a26 => k_is)
    (case l26 => k_is)
    (case c26 => k_is)
    (case k26 => k_is)
    (case a27 => k_is)
    (case l27 => k_is)
    (case c27 => k_is)
    (case k27 => k_is)
    (case a28 => k_is)
    (case l28 => k_is)
    (case c28 => k_is)
    (case k28 => k_is)
    (case a29 => k_is)
    (case l29 => k_is)
    (case c29 => k_is)
    (case k29 => k_is)
    (case a30 => k_is)
    (case l30 => k_is)
    (case c30 => k_is)
    (case k30 => k_is)
    (case a31 => k_is)
    (case l31 => k_is)
    (case c31 => k_is)
    (case k31 => k_is)
    (case a32 => k_is)
    (case l32 => k_is)
    (case c32 => k_is)
    (case k32 => k_is)
    (case a33 => k_is)
    (case l33 => k_is)
    (case c33 => k_is)
    (case k33 => k_is)
    (case a34 => k_is)
    (case l34 => k_is)
    (case c34 => k_is)
    (case k34 => k_is)
    (case a35 => k_is)
    (case l35 => k_is)
    (case c35 => k_is)
    (case k35 => k_is)
    (case a36 => k_is)
    (case l36 => k_is)
    (case c36 => k_is)
    (case k36 => k_is)
    (case z0 => k_is)
    (case z1 => k_is)
    (case z2 => k_is)
    (case z3 => k_is)
    (case z4 => k_is)
    (case z5 => k_is)
    (case z6 => k_is)
    (case z7 => k_is)
    (case z8 => k_is)
    (case z9 => k_is)
    (case z10 => k_is)
    (case z11 => k_is)
    (case z12 => k_is)
    (case z13 => k_is)
    (case z14 => k_is)
    (case z28 => k_is)
    (case x28 => k_exc)
    (case y28 => k_is)
    (case b28 => k_is)
    (case t28 => k_is)
    (case z29 => k_is)
    (case x29 => k_exc)
    (case y29 => k_is)
    (case b29 => k_is)
    (case t29 => k_is)
    (case z30 => k_is)
    (case x30 => k_exc)
    (case y30 => k_is)
    (case b30 => k_is)
    (case t30 => k_is)
    (case z31 => k_is)
    (case x31 => k_exc)
    (case y31 => k_is)
    (case b31 => k_is)
    (case t31 => k_is)
    (case nQ0 => k_is)
    (case tQ0 => k_is)
    (case dQ0 => k_is)
    (case bQ0 => k_is)
    (case gQ0 => k_is)
    (case hQ0 => k_is)
    (case cQ0 => k_is)
    (case mQ0 => k_is)
    (case vQ0 => k_is)
    (case nQ1 => k_is)
    (case tQ1 => k_is)
    (case dQ1 => k_is)
    (case bQ1 => k_is)
    (case gQ1 => k_is)
    (case hQ1 => k_is)
    (case cQ1 => k_is)
    (case mQ1 => k_is)
    (case vQ1 => k_is)
    (case nQ2 => k_is)
    (case tQ2 => k_is)
    (case dQ2 => k_is)
    (case bQ2 => k_is)
    (case gQ2 => k_is)
    (case hQ2 => k_is)
    (case cQ2 => k_is)
    (case mQ2 => k_is)
    (case vQ2 => k_is)
    (case nQ3 => k_is)
    (case tQ3 => k_is)
    (case dQ3 => k_is)
    (case bQ3 => k_is)
    (case gQ3 => k_is)
    (case hQ3 => k_is)
    (case cQ3 => k_is)
    (case mQ3 => k_is)
    (case vQ3 => k_is)
    (case nQ4 => k_is)
    (case tQ4 => k_is)
    (case dQ4 => k_is)
    (case nQ5 => k_is)
    (case tQ5 => k_is)
    (case dQ5 => k_is)
    (case nQ6 => k_is)
    (case tQ6 => k_is)
    (case dQ6 => k_is)
    (case nQ7 => k_is)
    (case tQ7 => k_is)
    (case dQ7 => k_is)
    (case nQ8 => k_is)
    (case tQ8 => k_is)
    (case dQ8 => k_is)
    (case nQ9 => k_is)
    (case tQ9 => k_is)
    (case dQ9 => k_is)
    (case nQ10 => k_is)
    (case tQ10 => k_is)
    (case dQ10 => k_is)
    (case nQ11 => k_is)
    (case tQ11 => k_is)
    (case dQ11 => k_is)
    (case bQ11 => k_is)
    (case hgc => k_is)
    (case htc => k_is)
    (case sQ0Q2 => k_is)
    (case eQ0Q2 => decide)
    (case sQ0Q1 => k_is)
    (case eQ0Q1 => decide)
    (case sQ0Q4 => k_is)
    (case eQ0Q4 => decide)
    (case sQ0Q5 => k_is)
    (case eQ0Q5 => decide)
    (case sQ0Q6 => k_is)
    (case eQ0Q6 => decide)
    (case sQ0Q7 => k_is)
    (case eQ0Q7 => decide)
    (case sQ0Q8 => k_is)
    (case eQ0Q8 => decide)
    (case sQ0Q9 => k_is)
    (case eQ0Q9 => decide)
    (case sQ0Q10 => k_is)
    (case eQ0Q10 => decide)
    (case sQ0Q3 => k_is)
    (case eQ0Q3 => decide)
    (case sQ1Q2 => k_is)
    (case eQ1Q2 => decide)
    (case sQ1Q4 => k_is)
    (case eQ1Q4 => decide)
    (case sQ1Q5 => k_is)
    (case eQ1Q5 => decide)
    (case sQ1Q6 => k_is)
    (case eQ1Q6 => decide)
    (case sQ1Q7 => k_is)
    (case eQ1Q7 => decide)
    (case sQ1Q0 => k_is)
    (case eQ1Q0 => decide)
    (case sQ1Q8 => k_is)
    (case eQ1Q8 => decide)
    (case sQ1Q9 => k_is)
    (case eQ1Q9 => decide)
    (case sQ1Q10 => k_is)
    (case eQ1Q10 => decide)
    (case sQ1Q3 => k_is)
    (case eQ1Q3 => decide)
    (case sQ2Q1 => k_is)
    (case eQ2Q1 => decide)
    (case sQ2Q4 => k_is)
    (case eQ2Q4 => decide)
    (case sQ2Q5 => k_is)
    (case eQ2Q5 => decide)
    (case sQ2Q6 => k_is)
    (case eQ2Q6 => decide)
    (case sQ2Q7 => k_is)
    (case eQ2Q7 => decide)
    (case sQ2Q0 => k_is)
    (case eQ2Q0 => decide)
    (case sQ2Q8 => k_is)
    (case eQ2Q8 => decide)
    (case sQ2Q9 => k_is)
    (case eQ2Q9 => decide)
    (case sQ2Q10 => k_is)
    (case eQ2Q10 => decide)
    (case sQ2Q3 => k_is)
    (case eQ2Q3 => decide)
    (case sQ3Q2 => k_is)
    (case eQ3Q2 => decide)
    (case sQ3Q1 => k_is)
    (case eQ3Q1 => decide)
    (case sQ3Q4 => k_is)
    (case eQ3Q4 => decide)
    (case sQ3Q5 => k_is)
    (case eQ3Q5 => decide)
    (case sQ3Q6 => k_is)
    (case eQ3Q6 => decide)
    (case sQ3Q7 => k_is)
    (case eQ3Q7 => decide)
    (case sQ3Q0 => k_is)
    (case eQ3Q0 => decide)
    (case sQ3Q8 => k_is)
    (case eQ3Q8 => decide)
    (case sQ3Q9 => k_is)
    (case eQ3Q9 => decide)
    (case sQ3Q10 => k_is)
    (case eQ3Q10 => decide)
    (case sQ0Q11 => k_is)
    (case sQ1Q11 => k_is)
    (case sQ2Q11 => k_is)
    (case sQ3Q11 => k_is)
