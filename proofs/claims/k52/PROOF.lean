import PyProof.Rows.All
import HandS.ForMost
import HandS.ForExc
import HandS.CallSlots
import HandS.IsInst
import KE.KDictKeyed
import HandS.TupAny
import HandS.TupMul
import HandS.TupLe
import HandS.SortInts
import HandS.TupSets
import HandS.Deep
import HandS.Style
import HandS.Zip
import HandS.Conv
import HandS.Flow
import KE.GoesEnum
import HandS.ExcIs
import KE.KRevSl
import KE.KDictDisplayH
import HandS.FStr
import HandS.Text
import HandS.CallRecv
import KE.KDictSum
import PySem.Challenge.RW_chairline_k52_days_by_hand
set_option Elab.async false
set_option linter.all false
set_option maxRecDepth 100000
set_option maxHeartbeats 8000000
/-! The data layer: values as plain data, owned lists, what an expression tells of them. -/
namespace DL
open PySem PySem.Spec PyProof.Rows L2

/-! ### data -/
inductive D where
  | non | bl (b : Bool) | int (i : Int) | str (x : Str) | tup (l : List D) | lst (l : List D) | ty (n : String)
  /-- a class or a def of the module by its name; true: an error that was caught, by its class's name -/
  | nam (b : Bool) (c : Str)
  /-- the script -/
  | scr (ns : List Int)
  /-- a dict whose keys are tuples of ints -/
  | dic (ks : List (List Int)) (ds : List D)
  /-- a dict whose keys are ints (true), or tuples of ints, bools, None and such tuples (false) -/
  | dix (k : Bool) (ks ds : List D)
  /-- a thing of a class of the module, by the class's name, its attributes, what they hold -/
  | ins (c : Str) (ns : List Str) (ds : List D)

/-- an error of the class at C that was caught, kept at a -/
def CaO (C a : Addr) : HO := .ext fun h => ∃ (oe : Obj) (vs : Array Value), h.get? a = some oe ∧ Zc (.ref C) none oe ∧ oe.data = .fields vs

def keyI (k : List Int) : List Key := k.map .inl
/-! keys -/
mutual
def keyOf : D → NestedKey
  | .bl b => .num (if b = true then 1 else 0)
  | .int i => .num i
  | .tup l => .tup (keyOfs l)
  | _ => .none
def keyOfs : List D → List NestedKey
  | [] => []
  | d :: ds => keyOf d :: keyOfs ds
end
mutual
def plainK : D → Bool
  | .non => true
  | .bl _ => true
  | .int _ => true
  | .tup l => plainKs l
  | _ => false
def plainKs : List D → Bool
  | [] => true
  | d :: ds => plainK d && plainKs ds
end
def keyD : D → Bool
  | .tup l => plainKs l && decide ((keyOf (.tup l)).depth ≤ 8)
  | _ => false
mutual
def hash0 : NestedKey → Int
  | .none => reduceHash 0xFCA86420
  | .num i => hashInt i
  | .text _ => 0
  | .tup ks => reduceHash (Builtin.Tuple.tupleHashOf (hash0s ks))
def hash0s : List NestedKey → List Int
  | [] => []
  | k :: ks => hash0 k :: hash0s ks
end
mutual
theorem hash_key (w : World) : ∀ d : D, plainK d = true → (keyOf d).hash w = hash0 (keyOf d)
  | .non, _ => by simp [keyOf, NestedKey.hash, hash0]
  | .bl b, _ => by simp [keyOf, NestedKey.hash, hash0]
  | .int i, _ => by simp [keyOf, NestedKey.hash, hash0]
  | .tup l, h => by
    have h : plainKs l = true := by simpa [plainK] using h
    simp only [keyOf, NestedKey.hash, hash0, hash_keys w l h]
  | .str _, h => by simp [plainK] at h
  | .lst _, h => by simp [plainK] at h
  | .ty _, h => by simp [plainK] at h
  | .nam _ _, h => by simp [plainK] at h
  | .scr _, h => by simp [plainK] at h
  | .dic _ _, h => by simp [plainK] at h
  | .dix _ _ _, h => by simp [plainK] at h
  | .ins _ _ _, h => by simp [plainK] at h
theorem hash_keys (w : World) : ∀ l : List D, plainKs l = true → NestedKey.hashes w (keyOfs l) = hash0s (keyOfs l)
  | [], _ => by simp [keyOfs, NestedKey.hashes, hash0s]
  | d :: ds, h => by
    have h : plainK d = true ∧ plainKs ds = true := by simpa [plainKs] using h
    simp only [keyOfs, NestedKey.hashes, hash0s, hash_key w d h.1, hash_keys w ds h.2]
end
theorem hash_kd (w : World) {d : D} (h : keyD d = true) : (keyOf d).hash w = hash0 (keyOf d) := by
  cases d with
  | tup l =>
    have h : (plainKs l && decide ((keyOf (.tup l)).depth ≤ 8)) = true := h
    rw [Bool.and_eq_true] at h
    exact hash_key w (.tup l) (by simpa [plainK] using h.1)
  | _ => cases h
/-- a dict with the entries xs -/
def NdO (a : Addr) (xs : List (NestedKey × Addr × Value)) : HO := .ext fun h => (a == sysModules) = false ∧ ∃ o es ep, h.get? a = some o ∧ o.ExactDict ∧ o.data = .dict es ep ∧ es.toList = xs.map (fun x => (⟨hash0 x.1, .ref x.2.1, x.2.2⟩ : DictEntry)) ∧ (xs.map (·.1)).Nodup
def DxO (k : Bool) (a : Addr) (us vs : List V) (ks : List D) (o : HO) : Prop := match k with
  | true => ∃ kk : List Int, us = kk.map V.int ∧ ks = kk.map D.int ∧ vs.length = kk.length ∧ o = .dK ((kk.map Sum.inl).zip vs)
  | false => ∃ xs : List (NestedKey × Addr × Value), o = NdO a xs ∧ us = xs.map (fun x => V.ref x.2.1) ∧ Vals vs (xs.map (·.2.2)) ∧ xs.map (·.1) = ks.map keyOf ∧ ks.all keyD = true
mutual
inductive RepD (K : PySem.W.Frag) (F : Hp) : V → D → Prop where
  | non : RepD K F .non .non
  | bl (b : Bool) : RepD K F (.bl b) (.bl b)
  | int (i : Int) : RepD K F (.int i) (.int i)
  | str (x : Str) : RepD K F (.str x) (.str x)
  | ty (n : String) : RepD K F (.ty n) (.ty n)
  | glob {C : Addr} {c : Str} : PySem.W.nsIn K mainGlobals c = some (some (.ref C)) → RepD K F (.ref C) (.nam false c)
  | exn {a C : Addr} {c : Str} : PySem.W.nsIn K mainGlobals c = some (some (.ref C)) → F a = some (CaO C a) → RepD K F (.ref a) (.nam true c)
  | scr {a : Addr} {ns : List Int} : SqL K F a (ns.map V.int) → RepD K F (.ref a) (.scr ns)
  | tup {a : Addr} {vs : List V} {ds : List D} : F a = some (.tup vs) → RepDs K F vs ds → RepD K F (.ref a) (.tup ds)
  | dic {a : Addr} {kvs : List (List Key × V)} {ks : List (List Int)} {ds : List D} : F a = some (.dT kvs) → kvs.map (·.1) = ks.map keyI → RepDs K F (kvs.map (·.2)) ds → RepD K F (.ref a) (.dic ks ds)
  | dix {a : Addr} {o : HO} {k : Bool} {us vs : List V} {ks ds : List D} : F a = some o → DxO k a us vs ks o → RepDs K F us ks → RepDs K F vs ds → RepD K F (.ref a) (.dix k ks ds)
  | ins {a dx C : Addr} {c : Str} {ns : List Str} {vs : List V} {ds : List D} : PySem.W.nsIn K mainGlobals c = some (some (.ref C)) → F a = some (.ins C dx (ns.zip vs)) → vs.length ≤ ns.length → RepDs K F vs ds → RepD K F (.ref a) (.ins c ns ds)
  | lst {a : Addr} {vs : List V} {ds : List D} : Rd F a (.lst vs) → RepDs K F vs ds → RepD K F (.ref a) (.lst ds)
inductive RepDs (K : PySem.W.Frag) (F : Hp) : List V → List D → Prop where
  | nil : RepDs K F [] []
  | cons {v : V} {d : D} {vs : List V} {ds : List D} : RepD K F v d → RepDs K F vs ds → RepDs K F (v :: vs) (d :: ds)
end

theorem sameL {H H' : Hp} {a : Addr} {u : HO} (e : Same H H') (h : Rd H a u) : Rd H' a u := by
  rcases h with h | ⟨o, h⟩
  · exact .inl (e _ _ h)
  · exact .inr ⟨o, e _ _ h⟩
theorem sameT {K : PySem.W.Frag} {H H' : Hp} {a : Addr} {xs : List V} (e : Same H H') (h : SqT K H a xs) : SqT K H' a xs := by
  rcases h with (h | ⟨o, h⟩) | h
  · exact .inl (.inl (e _ _ h))
  · exact .inl (.inr ⟨o, e _ _ h⟩)
  · exact .inr h

mutual
theorem RepD.mono {K : PySem.W.Frag} {F F' : Hp} (e : Same F F') : ∀ {v : V} {d : D}, RepD K F v d → RepD K F' v d
  | _, _, .non => .non
  | _, _, .bl b => .bl b
  | _, _, .int i => .int i
  | _, _, .str x => .str x
  | _, _, .ty n => .ty n
  | _, _, .glob h => .glob h
  | _, _, .exn h q => .exn h (e _ _ q)
  | _, _, .scr h => .scr (e.seq h)
  | _, _, .tup h r => .tup (e _ _ h) (RepDs.mono e r)
  | _, _, .dic h k r => .dic (e _ _ h) k (RepDs.mono e r)
  | _, _, .dix h k q r => .dix (e _ _ h) k (RepDs.mono e q) (RepDs.mono e r)
  | _, _, .ins h k l r => .ins h (e _ _ k) l (RepDs.mono e r)
  | _, _, .lst h r => .lst (sameL e h) (RepDs.mono e r)
theorem RepDs.mono {K : PySem.W.Frag} {F F' : Hp} (e : Same F F') : ∀ {vs : List V} {ds : List D}, RepDs K F vs ds → RepDs K F' vs ds
  | _, _, .nil => .nil
  | _, _, .cons h r => .cons (RepD.mono e h) (RepDs.mono e r)
end
section
variable {K : PySem.W.Frag} {F : Hp}
theorem RepDs.length : ∀ {vs : List V} {ds : List D}, RepDs K F vs ds → vs.length = ds.length
  | _, _, .nil => rfl
  | _, _, .cons _ r => by rw [List.length_cons, List.length_cons, RepDs.length r]
theorem RepDs.get : ∀ {vs : List V} {ds : List D} {i : Nat} {d : D}, RepDs K F vs ds → ds[i]? = some d → ∃ v, vs[i]? = some v ∧ RepD K F v d
  | _, _, _, _, .nil, e => by simp at e
  | _, _, 0, _, .cons h _, e => by simp at e; subst e; exact ⟨_, rfl, h⟩
  | _, _, i + 1, _, .cons _ r, e => by
    obtain ⟨v, h1, h2⟩ := RepDs.get (i := i) r (by simpa using e)
    exact ⟨v, by simpa using h1, h2⟩
theorem RepDs.getv : ∀ {vs : List V} {ds : List D} {i : Nat} {v : V}, RepDs K F vs ds → vs[i]? = some v → ∃ d, ds[i]? = some d ∧ RepD K F v d
  | _, _, _, _, .nil, e => by simp at e
  | _, _, 0, _, .cons h _, e => by simp at e; subst e; exact ⟨_, rfl, h⟩
  | _, _, i + 1, _, .cons _ r, e => by
    obtain ⟨v, h1, h2⟩ := RepDs.getv (i := i) r (by simpa using e)
    exact ⟨v, by simpa using h1, h2⟩
theorem RepDs.append : ∀ {vs us : List V} {ds es : List D}, RepDs K F vs ds → RepDs K F us es → RepDs K F (vs ++ us) (ds ++ es)
  | _, _, _, _, .nil, r => r
  | _, _, _, _, .cons h t, r => .cons h (RepDs.append t r)
theorem RepDs.take : ∀ {vs : List V} {ds : List D} (n : Nat), RepDs K F vs ds → RepDs K F (vs.take n) (ds.take n)
  | _, _, 0, _ => .nil
  | _, _, _ + 1, .nil => .nil
  | _, _, n + 1, .cons h r => .cons h (RepDs.take n r)
theorem RepDs.drop : ∀ {vs : List V} {ds : List D} (n : Nat), RepDs K F vs ds → RepDs K F (vs.drop n) (ds.drop n)
  | _, _, 0, r => r
  | _, _, _ + 1, .nil => .nil
  | _, _, n + 1, .cons _ r => RepDs.drop n r
theorem RepDs.set {v : V} {d : D} (h : RepD K F v d) : ∀ {vs : List V} {ds : List D} (n : Nat), RepDs K F vs ds → RepDs K F (vs.set n v) (ds.set n d)
  | _, _, _, .nil => .nil
  | _, _, 0, .cons _ r => .cons h r
  | _, _, n + 1, .cons q r => .cons q (RepDs.set h n r)
theorem RepDs.reverse : ∀ {vs : List V} {ds : List D}, RepDs K F vs ds → RepDs K F vs.reverse ds.reverse
  | _, _, .nil => .nil
  | _, _, .cons h r => by
    rw [List.reverse_cons, List.reverse_cons]
    exact (RepDs.reverse r).append (.cons h .nil)
theorem RepDs.of_ints : ∀ ns : List Int, RepDs K F (ns.map V.int) (ns.map D.int)
  | [] => .nil
  | n :: r => .cons (.int n) (RepDs.of_ints r)
theorem RepDs.ints : ∀ {vs : List V} {ns : List Int}, RepDs K F vs (ns.map D.int) → vs = ns.map V.int
  | _, [], .nil => rfl
  | _, n :: r, .cons (.int _) t => by rw [List.map_cons, ← RepDs.ints t]
end

/-! ### what a name may hold: data for good, or a list of its own -/
/-- what an attribute may hold -/
inductive W0 where
  | v (d : D)
  | l (ds : List D)
  | d (k : Bool) (ks ds : List D)
inductive Xt where
  /-- a dict that nobody else holds -/
  | d (k : Bool) (ks ds : List D)
  /-- a thing of a class that nobody else holds; true: handed in by the caller -/
  | o (b : Bool) (c : Str) (ns : List Str) (ws : List W0)
  /-- a tuple of such things as nobody else holds -/
  | t (ws : List W0)
inductive W where
  | v (d : D)
  /-- a list that nobody else holds; true: handed in by the caller, who gets it back -/
  | l (b : Bool) (ds : List D)
  /-- a dict that nobody else holds -/
  | m (ks : List (List Int)) (ds : List D)
  | x (q : Xt)

abbrev Fp := Addr → Prop
def RepW0 (K : PySem.W.Frag) (F H : Hp) (v : V) (w : W0) (p : Fp) : Prop := match w with
  | .v d => (∀ a, ¬ p a) ∧ RepD K F v d
  | .l ds => ∃ a vs, v = .ref a ∧ (∀ b, p b ↔ b = a) ∧ H a = some (.lst vs) ∧ F a = none ∧ RepDs K F vs ds
  | .d k ks ds => ∃ a o us vs, v = .ref a ∧ (∀ b, p b ↔ b = a) ∧ H a = some o ∧ F a = none ∧ DxO k a us vs ks o ∧ RepDs K F us ks ∧ RepDs K F vs ds
def RepW0s (K : PySem.W.Frag) (F H : Hp) : List V → List W0 → Fp → Prop
  | [], [], p => ∀ a, ¬ p a
  | v :: vs, w :: ws, p => ∃ p1 p2 : Fp, (∀ a, p a ↔ p1 a ∨ p2 a) ∧ (∀ a, p1 a → ¬ p2 a) ∧ RepW0 K F H v w p1 ∧ RepW0s K F H vs ws p2
  | _, _, _ => False
def RepX (K : PySem.W.Frag) (F H : Hp) (v : V) (q : Xt) (p : Fp) : Prop := match q with
  | .d k ks ds => RepW0 K F H v (.d k ks ds) p
  | .o _ c ns ws => ∃ a dx C vs, ∃ p0 : Fp, v = .ref a ∧ PySem.W.nsIn K mainGlobals c = some (some (.ref C)) ∧ H a = some (.ins C dx (ns.zip vs)) ∧ H dx = some (.own a) ∧ F a = none ∧ F dx = none ∧ vs.length ≤ ns.length ∧ RepW0s K F H vs ws p0 ∧
      (∀ b, p b ↔ (b = a ∨ b = dx) ∨ p0 b) ∧ ¬ p0 a ∧ ¬ p0 dx
  | .t ws => ∃ a vs, v = .ref a ∧ F a = some (.tup vs) ∧ RepW0s K F H vs ws p
def RepW (K : PySem.W.Frag) (F H : Hp) (v : V) (w : W) (p : Fp) : Prop := match w with
  | .v d => (∀ a, ¬ p a) ∧ RepD K F v d
  | .l _ ds => ∃ a vs, v = .ref a ∧ (∀ b, p b ↔ b = a) ∧ H a = some (.lst vs) ∧ F a = none ∧ RepDs K F vs ds
  | .m ks ds => ∃ a kvs, v = .ref a ∧ (∀ b, p b ↔ b = a) ∧ H a = some (.dT kvs) ∧ F a = none ∧ kvs.map (·.1) = ks.map keyI ∧ RepDs K F (kvs.map (·.2)) ds
  | .x q => RepX K F H v q p

theorem RepW0.there {K : PySem.W.Frag} {F H : Hp} {v : V} {w : W0} {p : Fp} (h : RepW0 K F H v w p) {a : Addr} (q : p a) : (∃ o, H a = some o) ∧ F a = none := by
  cases w with
  | v d => exact absurd q (h.1 a)
  | l ds =>
    obtain ⟨c, vs, _, hp, hc, hf, _⟩ := h
    obtain rfl := (hp a).mp q
    exact ⟨⟨_, hc⟩, hf⟩
  | d k ks ds =>
    obtain ⟨c, o, us, vs, _, hp, hc, hf, _⟩ := h
    obtain rfl := (hp a).mp q
    exact ⟨⟨_, hc⟩, hf⟩
theorem RepW0.frame {K : PySem.W.Frag} {F F' H H' : Hp} {v : V} {w : W0} {p : Fp} (h : RepW0 K F H v w p) (e : Same F F') (k : ∀ a o, p a → H a = some o → H' a = some o) (n : ∀ a, p a → F' a = none) : RepW0 K F' H' v w p := by
  cases w with
  | v d => exact ⟨h.1, h.2.mono e⟩
  | l ds =>
    obtain ⟨c, vs, rfl, hp, hc, hf, r⟩ := h
    have pc := (hp c).mpr rfl
    exact ⟨c, vs, rfl, hp, k c _ pc hc, n c pc, r.mono e⟩
  | d kk ks ds =>
    obtain ⟨c, o, us, vs, rfl, hp, hc, hf, hk, r1, r2⟩ := h
    have pc := (hp c).mpr rfl
    exact ⟨c, o, us, vs, rfl, hp, k c _ pc hc, n c pc, hk, r1.mono e, r2.mono e⟩
theorem RepW0s.there {K : PySem.W.Frag} {F H : Hp} : ∀ {vs : List V} {ws : List W0} {p : Fp}, RepW0s K F H vs ws p → ∀ {a : Addr}, p a → (∃ o, H a = some o) ∧ F a = none
  | [], [], _, h, a, q => absurd q (h a)
  | v :: vs, w :: ws, _, h, a, q => by
    obtain ⟨p1, p2, hp, _, r1, r2⟩ := h
    rcases (hp a).mp q with z | z
    · exact r1.there z
    · exact RepW0s.there r2 z
  | [], _ :: _, _, h, _, _ => h.elim
  | _ :: _, [], _, h, _, _ => h.elim
theorem RepW0s.frame {K : PySem.W.Frag} {F F' H H' : Hp} (e : Same F F') : ∀ {vs : List V} {ws : List W0} {p : Fp}, RepW0s K F H vs ws p → (∀ a o, p a → H a = some o → H' a = some o) → (∀ a, p a → F' a = none) → RepW0s K F' H' vs ws p
  | [], [], _, h, _, _ => h
  | v :: vs, w :: ws, _, h, k, n => by
    obtain ⟨p1, p2, hp, hd, r1, r2⟩ := h
    exact ⟨p1, p2, hp, hd, r1.frame e (fun a o q => k a o ((hp a).mpr (.inl q))) (fun a q => n a ((hp a).mpr (.inl q))), RepW0s.frame e r2 (fun a o q => k a o ((hp a).mpr (.inr q))) (fun a q => n a ((hp a).mpr (.inr q)))⟩
  | [], _ :: _, _, h, _, _ => h.elim
  | _ :: _, [], _, h, _, _ => h.elim
theorem RepW0s.length {K : PySem.W.Frag} {F H : Hp} : ∀ {vs : List V} {ws : List W0} {p : Fp}, RepW0s K F H vs ws p → vs.length = ws.length
  | [], [], _, _ => rfl
  | _ :: _, _ :: _, _, h => by
    obtain ⟨_, _, _, _, _, r2⟩ := h
    rw [List.length_cons, List.length_cons, RepW0s.length r2]
  | [], _ :: _, _, h => h.elim
  | _ :: _, [], _, h => h.elim
theorem RepX.there {K : PySem.W.Frag} {F H : Hp} {v : V} {x : Xt} {p : Fp} (h : RepX K F H v x p) {a : Addr} (q : p a) : (∃ o, H a = some o) ∧ F a = none := by
  cases x with
  | d k ks ds => exact RepW0.there (w := .d k ks ds) h q
  | o b c ns ws =>
    obtain ⟨c, dx, C, vs, p0, _, _, h1, h2, f1, f2, _, r, hp, _⟩ := h
    rcases (hp a).mp q with (z | z) | z
    · rw [z]; exact ⟨⟨_, h1⟩, f1⟩
    · rw [z]; exact ⟨⟨_, h2⟩, f2⟩
    · exact r.there z
  | t ws =>
    obtain ⟨c, vs, _, _, r⟩ := h
    exact r.there q
theorem RepX.frame {K : PySem.W.Frag} {F F' H H' : Hp} {v : V} {x : Xt} {p : Fp} (h : RepX K F H v x p) (e : Same F F') (k : ∀ a o, p a → H a = some o → H' a = some o) (n : ∀ a, p a → F' a = none) : RepX K F' H' v x p := by
  cases x with
  | d kk ks ds => exact RepW0.frame (w := .d kk ks ds) h e k n
  | o b c ns ws =>
    obtain ⟨c, dx, C, vs, p0, e1, e2, h1, h2, f1, f2, hl, r, hp, n1, n2⟩ := h
    have pa := (hp c).mpr (.inl (.inl rfl))
    have pd := (hp dx).mpr (.inl (.inr rfl))
    exact ⟨c, dx, C, vs, p0, e1, e2, k _ _ pa h1, k _ _ pd h2, n _ pa, n _ pd, hl, r.frame e (fun a o q => k a o ((hp a).mpr (.inr q))) (fun a q => n a ((hp a).mpr (.inr q))), hp, n1, n2⟩
  | t ws =>
    obtain ⟨c, vs, e1, h1, r⟩ := h
    exact ⟨c, vs, e1, e _ _ h1, r.frame e k n⟩
theorem RepW.there {K : PySem.W.Frag} {F H : Hp} {v : V} {w : W} {p : Fp} (h : RepW K F H v w p) {a : Addr} (q : p a) : (∃ o, H a = some o) ∧ F a = none := by
  cases w with
  | v d => exact absurd q (h.1 a)
  | l b ds =>
    obtain ⟨c, vs, _, hp, hc, hf, _⟩ := h
    obtain rfl := (hp a).mp q
    exact ⟨⟨_, hc⟩, hf⟩
  | m ks ds =>
    obtain ⟨c, vs, _, hp, hc, hf, _⟩ := h
    obtain rfl := (hp a).mp q
    exact ⟨⟨_, hc⟩, hf⟩
  | x y => exact RepX.there h q
theorem RepW.frame {K : PySem.W.Frag} {F F' H H' : Hp} {v : V} {w : W} {p : Fp} (h : RepW K F H v w p) (e : Same F F') (k : ∀ a o, p a → H a = some o → H' a = some o) (n : ∀ a, p a → F' a = none) : RepW K F' H' v w p := by
  cases w with
  | v d => exact ⟨h.1, h.2.mono e⟩
  | l b ds =>
    obtain ⟨c, vs, rfl, hp, hc, hf, r⟩ := h
    have pc := (hp c).mpr rfl
    exact ⟨c, vs, rfl, hp, k c _ pc hc, n c pc, r.mono e⟩
  | m ks ds =>
    obtain ⟨c, vs, rfl, hp, hc, hf, hk, r⟩ := h
    have pc := (hp c).mpr rfl
    exact ⟨c, vs, rfl, hp, k c _ pc hc, n c pc, hk, r.mono e⟩
  | x y => exact RepX.frame h e k n

abbrev DEnv := List (Option W)
inductive U where
  | w (w : W)
  /-- what the i-th name holds -/
  | b (i : Nat)
def RepU (K : PySem.W.Frag) (F H : Hp) (σ : L2.St) (v : V) (u : U) (p : Fp) : Prop := match u with
  | .w w => RepW K F H v w p
  | .b i => (∀ a, ¬ p a) ∧ σ[i]? = some (some v)

structure Sit (K : PySem.W.Frag) (F : Hp) (σ : L2.St) (H : Hp) (env : DEnv) (own : Nat → Fp) : Prop where
  ex : Same F H
  len : env.length = σ.length
  rep : ∀ i w, env[i]? = some (some w) → ∃ v, σ[i]? = some (some v) ∧ RepW K F H v w (own i)
  emp : ∀ i a, own i a → ∃ w, env[i]? = some (some w)
  dis : ∀ i j a, own i a → own j a → i = j
def all (own : Nat → Fp) : Fp := fun a => ∃ i, own i a

structure Step (F H : Hp) (fp : Fp) (F' H' : Hp) (fp' : Fp) : Prop where
  ex : Same F F'
  keep : ∀ a o, H a = some o → ¬ fp a → H' a = some o
  new : ∀ a, fp' a → fp a ∨ H a = none
  frz : ∀ a o, F' a = some o → F a = none → fp a ∨ H a = none

section
variable {F H F1 H1 F2 H2 : Hp} {fp fp1 fp2 : Fp}
theorem Step.refl : Step F H fp F H fp := ⟨Same.refl _, fun _ _ h _ => h, fun _ h => .inl h, fun _ _ h h' => by rw [h] at h'; cases h'⟩
theorem Step.gone (s : Step F H fp F1 H1 fp1) {a : Addr} (h : H1 a = none) : fp a ∨ H a = none := by
  by_cases q : fp a
  · exact .inl q
  · cases e : H a with
    | none => exact .inr rfl
    | some o => rw [s.keep a o e q] at h; cases h
theorem Step.trans (s : Step F H fp F1 H1 fp1) (t : Step F1 H1 fp1 F2 H2 fp2) : Step F H fp F2 H2 fp2 where
  ex := s.ex.trans t.ex
  keep := fun a o h n => t.keep a o (s.keep a o h n) fun q => by
    rcases s.new a q with z | z
    · exact n z
    · rw [h] at z; cases z
  new := fun a h => by
    rcases t.new a h with z | z
    · exact s.new a z
    · exact s.gone z
  frz := fun a o h n => by
    cases e : F1 a with
    | some u => exact s.frz a u e n
    | none =>
      rcases t.frz a o h e with z | z
      · exact s.new a z
      · exact s.gone z
/-- more that is owned, untouched -/
theorem Step.more (s : Step F H fp F1 H1 fp1) (p : Fp) : Step F H (fun a => fp a ∨ p a) F1 H1 (fun a => fp1 a ∨ p a) where
  ex := s.ex
  keep := fun a o h n => s.keep a o h fun q => n (.inl q)
  new := fun a h => by
    rcases h with h | h
    · rcases s.new a h with z | z
      · exact .inl (.inl z)
      · exact .inr z
    · exact .inl (.inr h)
  frz := fun a o h n => by
    rcases s.frz a o h n with z | z
    · exact .inl (.inl z)
    · exact .inr z
theorem Step.sub (s : Step F H fp F1 H1 fp1) (h : ∀ a, fp2 a → fp1 a) : Step F H fp F1 H1 fp2 := ⟨s.ex, s.keep, fun a q => s.new a (h a q), s.frz⟩
theorem Step.sup (s : Step F H fp F1 H1 fp1) (h : ∀ a, fp a → fp2 a) : Step F H fp2 F1 H1 fp1 :=
  ⟨s.ex, fun a o q n => s.keep a o q fun z => n (h a z), fun a q => (s.new a q).imp_left (h a), fun a o q n => (s.frz a o q n).imp_left (h a)⟩
end

section
variable {K : PySem.W.Frag} {F H F1 H1 : Hp} {σ : L2.St} {env : DEnv} {own : Nat → Fp}
theorem Sit.there (S : Sit K F σ H env own) {a : Addr} (q : all own a) : (∃ o, H a = some o) ∧ F a = none := by
  obtain ⟨i, h⟩ := q
  obtain ⟨w, e⟩ := S.emp i a h
  obtain ⟨v, _, r⟩ := S.rep i w e
  exact r.there h
/-- something owned elsewhere persists -/
theorem RepW.stepW {v : V} {w : W} {p fp fp1 : Fp} (r : RepW K F H v w p) (d : ∀ a, p a → ¬ fp a) (s : Step F H fp F1 H1 fp1) : RepW K F1 H1 v w p ∧ ∀ a, p a → ¬ fp1 a := by
  refine ⟨r.frame s.ex (fun a o q e => s.keep a o e (d a q)) fun a q => ?_, fun a q z => ?_⟩
  · obtain ⟨⟨o, e⟩, hf⟩ := r.there q
    cases z : F1 a with
    | none => rfl
    | some u =>
      rcases s.frz a u z hf with y | y
      · exact absurd y (d a q)
      · rw [e] at y; cases y
  · obtain ⟨⟨o, e⟩, hf⟩ := r.there q
    rcases s.new a z with y | y
    · exact d a q y
    · rw [e] at y; cases y
theorem RepU.stepU {v : V} {u : U} {p fp fp1 : Fp} (r : RepU K F H σ v u p) (d : ∀ a, p a → ¬ fp a) (s : Step F H fp F1 H1 fp1) : RepU K F1 H1 σ v u p ∧ ∀ a, p a → ¬ fp1 a := by
  cases u with
  | w w => exact RepW.stepW r d s
  | b i => exact ⟨r, fun a q => absurd q (r.1 a)⟩

/-- the data of what was told -/
def datW : W → D
  | .v d => d
  | .l _ ds => .lst ds
  | .m ks ds => .dic ks ds
  | .x (.d k ks ds) => .dix k ks ds
  | .x _ => .non
def W.opq : W → Bool
  | .x (.o _ _ _ _) => true
  | .x (.t _) => true
  | _ => false
def dat (env : DEnv) : U → Option D
  | .w w => if w.opq then none else some (datW w)
  | .b i => match env[i]? with
    | some (some w) => if w.opq then none else some (datW w)
    | _ => none
/-- what may be read as data just now -/
def View (K : PySem.W.Frag) (F H : Hp) (v : V) (d : D) : Prop := match d with
  | .lst ds => ∃ a vs, v = .ref a ∧ Rd H a (.lst vs) ∧ RepDs K F vs ds
  | .dic ks ds => ∃ a kvs, v = .ref a ∧ H a = some (.dT kvs) ∧ kvs.map (·.1) = ks.map keyI ∧ RepDs K F (kvs.map (·.2)) ds
  | .dix k ks ds => ∃ a o us vs, v = .ref a ∧ H a = some o ∧ DxO k a us vs ks o ∧ RepDs K F us ks ∧ RepDs K F vs ds
  | d => RepD K F v d
theorem View.of {v : V} {d : D} (e : Same F H) (r : RepD K F v d) : View K F H v d := by
  cases r with
  | lst h q => exact ⟨_, _, rfl, sameL e h, q⟩
  | dic h k q => exact ⟨_, _, rfl, e _ _ h, k, q⟩
  | dix h k q r => exact ⟨_, _, _, _, rfl, e _ _ h, k, q, r⟩
  | ins h k l q => exact RepD.ins h k l q
  | _ => first | exact .non | exact .bl _ | exact .int _ | exact .str _ | exact .ty _ | (rename_i h; exact .glob h) | (rename_i h q; exact .exn h q) | (rename_i h; exact .scr h) | (rename_i h q; exact .tup h q)
theorem View.mono {v : V} {d : D} (h : View K F H v d) (e : Same F F1) (k : Same H H1) : View K F1 H1 v d := by
  cases d with
  | lst ds => obtain ⟨a, vs, rfl, q, r⟩ := h; exact ⟨a, vs, rfl, sameL k q, r.mono e⟩
  | dic ks ds => obtain ⟨a, vs, rfl, q, hk, r⟩ := h; exact ⟨a, vs, rfl, k _ _ q, hk, r.mono e⟩
  | dix kk ks ds => obtain ⟨a, o, us, vs, rfl, q, hk, r1, r2⟩ := h; exact ⟨a, o, us, vs, rfl, k _ _ q, hk, r1.mono e, r2.mono e⟩
  | _ => exact RepD.mono e h
theorem RepW.view {v : V} {w : W} {p : Fp} (e : Same F H) (r : RepW K F H v w p) (ho : w.opq = false) : View K F H v (datW w) := by
  cases w with
  | v d => exact View.of e r.2
  | l b ds =>
    obtain ⟨a, vs, rfl, _, hc, _, q⟩ := r
    exact ⟨a, vs, rfl, .inl hc, q⟩
  | m ks ds =>
    obtain ⟨a, vs, rfl, _, hc, _, hk, q⟩ := r
    exact ⟨a, vs, rfl, hc, hk, q⟩
  | x y =>
    cases y with
    | d k ks ds =>
      obtain ⟨a, o, us, vs, rfl, _, hc, _, hk, r1, r2⟩ := r
      exact ⟨a, o, us, vs, rfl, hc, hk, r1, r2⟩
    | o b c ns ws => cases ho
    | t ws => cases ho
theorem RepU.view {v : V} {u : U} {p : Fp} {d : D} (S : Sit K F σ H env own) (r : RepU K F H σ v u p) (h : dat env u = some d) : View K F H v d := by
  cases u with
  | w w =>
    have h : (if w.opq then none else some (datW w)) = some d := h
    cases ho : w.opq with
    | true => rw [ho, if_pos rfl] at h; cases h
    | false =>
      rw [ho, if_neg Bool.false_ne_true] at h
      have e : datW w = d := Option.some.inj h
      subst e
      exact RepW.view S.ex r ho
  | b i =>
    have h : (match env[i]? with | some (some w) => (if w.opq then none else some (datW w)) | _ => none) = some d := h
    split at h
    · rename_i w hw
      cases ho : w.opq with
      | true => rw [ho, if_pos rfl] at h; cases h
      | false =>
        rw [ho, if_neg Bool.false_ne_true] at h
        obtain ⟨v', e1, r'⟩ := S.rep i w hw
        have e : datW w = d := Option.some.inj h
        subst e
        have e2 : v' = v := by
          rw [r.2] at e1
          injection e1 with e1
          injection e1 with e1
          exact e1.symm
        subst e2
        exact RepW.view S.ex r' ho
    · cases h
end
end DL

namespace DL
open PySem PySem.Spec PyProof.Rows L2

/-! ### what a run tells -/
inductive R (α : Type) where
  | ok (a : α) (env : DEnv)
  | raise (c : Str) (env : DEnv)
  | stuck
abbrev M (α : Type) := DEnv → R α
def R.bind {α β : Type} (r : R α) (k : α → DEnv → R β) : R β := match r with
  | .ok a e => k a e
  | .raise c e => .raise c e
  | .stuck => .stuck
@[simp] theorem R.bind_ok {α β : Type} (a : α) (e : DEnv) (k : α → DEnv → R β) : (R.ok a e).bind k = k a e := Eq.trans rfl rfl
@[simp] theorem R.bind_raise {α β : Type} (c : Str) (e : DEnv) (k : α → DEnv → R β) : (R.raise c e).bind k = .raise c e := Eq.trans rfl rfl
@[simp] theorem R.bind_stuck {α β : Type} (k : α → DEnv → R β) : (R.stuck).bind k = .stuck := Eq.trans rfl rfl

structure OutR (K : PySem.W.Frag) (F H : Hp) (own : Nat → Fp) (σ' : L2.St) (env' : DEnv) (F' H' : Hp) (own' : Nat → Fp) : Prop where
  S : Sit K F' σ' H' env' own'
  s : Step F H (all own) F' H' (all own')
structure Out (K : PySem.W.Frag) (F H : Hp) (own : Nat → Fp) (σ' : L2.St) (u : U) (v : V) (env' : DEnv) (F' H' : Hp) (own' : Nat → Fp) (p : Fp) : Prop where
  S : Sit K F' σ' H' env' own'
  r : RepU K F' H' σ' v u p
  d : ∀ a, p a → ¬ all own' a
  s : Step F H (all own) F' H' (fun a => all own' a ∨ p a)
structure Out2 (K : PySem.W.Frag) (F H : Hp) (own : Nat → Fp) (σ' : L2.St) (u1 u2 : U) (v1 v2 : V) (env' : DEnv) (F' H' : Hp) (own' : Nat → Fp) (p1 p2 : Fp) : Prop where
  S : Sit K F' σ' H' env' own'
  r1 : RepU K F' H' σ' v1 u1 p1
  r2 : RepU K F' H' σ' v2 u2 p2
  d1 : ∀ a, p1 a → ¬ all own' a
  d2 : ∀ a, p2 a → ¬ all own' a
  d12 : ∀ a, p1 a → ¬ p2 a
  s : Step F H (all own) F' H' (fun a => (all own' a ∨ p2 a) ∨ p1 a)

/-- no other slots were stored to -/
def Only (is : List Nat) (σ σ' : L2.St) : Prop := σ'.length = σ.length ∧ ∀ j : Nat, j ∉ is → σ'[j]? = σ[j]?
theorem Only.refl {is : List Nat} {σ : L2.St} : Only is σ σ := ⟨rfl, fun _ _ => rfl⟩
theorem Only.trans {is js : List Nat} {σ σ1 σ2 : L2.St} (a : Only is σ σ1) (b : Only js σ1 σ2) : Only (is ++ js) σ σ2 :=
  ⟨b.1.trans a.1, fun j h => (b.2 j fun z => h (List.mem_append_right _ z)).trans (a.2 j fun z => h (List.mem_append_left _ z))⟩
theorem Only.sub {is js : List Nat} {σ σ' : L2.St} (a : Only is σ σ') (h : ∀ i ∈ is, i ∈ js) : Only js σ σ' := ⟨a.1, fun j n => a.2 j fun z => n (h j z)⟩
theorem Only.left {is : List Nat} (js : List Nat) {σ σ' : L2.St} (a : Only is σ σ') : Only (is ++ js) σ σ' := a.sub fun _ h => List.mem_append_left _ h
theorem Only.right {js : List Nat} (is : List Nat) {σ σ' : L2.St} (a : Only js σ σ') : Only (is ++ js) σ σ' := a.sub fun _ h => List.mem_append_right _ h
theorem Only.set {i : Nat} {σ : L2.St} {v : Option V} : Only [i] σ (σ.set i v) := ⟨List.length_set, fun j hj => List.getElem?_set_ne fun z => hj (by simp [z])⟩
theorem Only.join {is : List Nat} {σ σ1 σ2 : L2.St} (a : Only is σ σ1) (b : Only is σ1 σ2) : Only is σ σ2 := (a.trans b).sub fun i h => (List.mem_append.mp h).elim id id
section
variable (K : PySem.W.Frag) (mg : Str → Option Value) (Wx : WX)
/-- the reading of an expression that tells f -/
def tOf (f : M U) : TE := fun σ H Q => ∃ F env own, Sit K F σ H env own ∧ match f env with
  | .ok u env' => ∀ v F' H' own' p, Out K F H own σ u v env' F' H' own' p → Q v H'
  | .raise c env' => ∀ C F' H' own', mg c = some (.ref C) → OutR K F H own σ env' F' H' own' → Wx (.ref C) none σ H'
  | .stuck => False
/-- of a test -/
def ttOf (f : M Bool) : TT := fun σ H Q => ∃ F env own, Sit K F σ H env own ∧ match f env with
  | .ok b env' => ∀ F' H' own', OutR K F H own σ env' F' H' own' → Q b H'
  | .raise c env' => ∀ C F' H' own', mg c = some (.ref C) → OutR K F H own σ env' F' H' own' → Wx (.ref C) none σ H'
  | .stuck => False
/-- how a statement ends -/
inductive Fl where
  | next | brk | cont | ret (u : U)
def sOf (is : List Nat) (f : M Fl) : TS := fun E σ H => ∃ F env own, Sit K F σ H env own ∧ match f env with
  | .ok .next env' => ∀ σ' F' H' own', Only is σ σ' → OutR K F H own σ' env' F' H' own' → E.nx σ' H'
  | .ok .brk env' => ∀ σ' F' H' own', Only is σ σ' → OutR K F H own σ' env' F' H' own' → E.bk σ' H'
  | .ok .cont env' => ∀ σ' F' H' own', Only is σ σ' → OutR K F H own σ' env' F' H' own' → E.ct σ' H'
  | .ok (.ret u) env' => ∀ v σ' F' H' own' p, Only is σ σ' → Out K F H own σ' u v env' F' H' own' p → E.rt v H'
  | .raise c env' => ∀ C σ' F' H' own', Only is σ σ' → mg c = some (.ref C) → OutR K F H own σ' env' F' H' own' → Wx (.ref C) none σ' H'
  | .stuck => False
end

abbrev EvS (X : Cx) (Wx : WX) (e : Expr) (f : M U) : Prop := PE X e (tOf X.K X.mg Wx f)
abbrev TtS (X : Cx) (Wx : WX) (e : Expr) (f : M Bool) : Prop := PT X e (ttOf X.K X.mg Wx f)
abbrev StS (X : Cx) (Wx : WX) (st : Stmt) (is : List Nat) (f : M Fl) : Prop := PS X st (sOf X.K X.mg Wx is f)
abbrev SsS (X : Cx) (Wx : WX) (st : List Stmt) (is : List Nat) (f : M Fl) : Prop := PSs X st (sOf X.K X.mg Wx is f)

theorem PE.imp {X : Cx} {e : Expr} {t t' : TE} (h : PE X e t) (i : ∀ σ H Q, t' σ H Q → t σ H Q) : PE X e t' := ⟨fun pins s σ H Q I q => h.run pins s σ H Q I (i σ H Q q)⟩
theorem PT.imp {X : Cx} {e : Expr} {t t' : TT} (h : PT X e t) (i : ∀ σ H Q, t' σ H Q → t σ H Q) : PT X e t' := ⟨fun pins s σ H Q I q => h.run pins s σ H Q I (i σ H Q q)⟩
theorem PW.imp {X : Cx} {e : Expr} {t t' : TT} (h : PW X e t) (i : ∀ σ H Q, t' σ H Q → t σ H Q) : PW X e t' := ⟨fun wh pins s σ H Q I q => h.run wh pins s σ H Q I (i σ H Q q)⟩
theorem PS.imp {X : Cx} {e : Stmt} {t t' : TS} (h : PS X e t) (i : ∀ D σ H, t' D σ H → t D σ H) : PS X e t' := ⟨fun pins s σ H D I q => h.run pins s σ H D I (i D σ H q)⟩
theorem PSs.imp {X : Cx} {e : List Stmt} {t t' : TS} (h : PSs X e t) (i : ∀ D σ H, t' D σ H → t D σ H) : PSs X e t' := ⟨fun pins s σ H D I q => h.run pins s σ H D I (i D σ H q)⟩

section
variable {K : PySem.W.Frag} {mg : Str → Option Value} {Wx : WX} {F H F1 H1 F2 H2 : Hp} {σ σ1 σ2 : L2.St} {env env1 env2 : DEnv} {own own1 own2 : Nat → Fp}

theorem OutR.refl (S : Sit K F σ H env own) : OutR K F H own σ env F H own := ⟨S, Step.refl⟩
theorem OutR.trans (a : OutR K F H own σ1 env1 F1 H1 own1) (b : OutR K F1 H1 own1 σ2 env2 F2 H2 own2) : OutR K F H own σ2 env2 F2 H2 own2 := ⟨b.S, a.s.trans b.s⟩
theorem OutR.out {u : U} {v : V} {p : Fp} (a : OutR K F H own σ1 env1 F1 H1 own1) (b : Out K F1 H1 own1 σ2 u v env2 F2 H2 own2 p) : Out K F H own σ2 u v env2 F2 H2 own2 p := ⟨b.S, b.r, b.d, a.s.trans b.s⟩
/-- what was told is dropped -/
theorem Out.drop {u : U} {v : V} {p : Fp} (b : Out K F H own σ2 u v env2 F2 H2 own2 p) : OutR K F H own σ2 env2 F2 H2 own2 := ⟨b.S, b.s.sub fun _ h => .inl h⟩
/-- then something is run, what was told stays -/
theorem Out.then {u : U} {v : V} {p : Fp} (a : Out K F H own σ u v env1 F1 H1 own1 p) (b : OutR K F1 H1 own1 σ env2 F2 H2 own2) : Out K F H own σ u v env2 F2 H2 own2 p := by
  obtain ⟨r, d⟩ := a.r.stepU a.d b.s
  exact ⟨b.S, r, d, a.s.trans (b.s.more p)⟩
theorem Out.out2 {u1 u2 : U} {v1 v2 : V} {p1 p2 : Fp} (a : Out K F H own σ u1 v1 env1 F1 H1 own1 p1) (b : Out K F1 H1 own1 σ u2 v2 env2 F2 H2 own2 p2) : Out2 K F H own σ u1 u2 v1 v2 env2 F2 H2 own2 p1 p2 := by
  obtain ⟨r, d⟩ := a.r.stepU a.d b.s
  exact ⟨b.S, r, b.r, fun a q z => d a q (.inl z), b.d, fun a q z => d a q (.inr z), a.s.trans (b.s.more p1)⟩
theorem Out2.drop {u1 u2 : U} {v1 v2 : V} {p1 p2 : Fp} (a : Out2 K F H own σ u1 u2 v1 v2 env1 F1 H1 own1 p1 p2) : OutR K F H own σ env1 F1 H1 own1 := ⟨a.S, a.s.sub fun _ h => .inl (.inl h)⟩
theorem Out2.fst {u1 u2 : U} {v1 v2 : V} {p1 p2 : Fp} (a : Out2 K F H own σ u1 u2 v1 v2 env1 F1 H1 own1 p1 p2) : Out K F H own σ u1 v1 env1 F1 H1 own1 p1 := ⟨a.S, a.r1, a.d1, a.s.sub fun _ h => h.imp_left .inl⟩
theorem Out2.snd {u1 u2 : U} {v1 v2 : V} {p1 p2 : Fp} (a : Out2 K F H own σ u1 u2 v1 v2 env1 F1 H1 own1 p1 p2) : Out K F H own σ u2 v2 env1 F1 H1 own1 p2 := ⟨a.S, a.r2, a.d2, a.s.sub fun _ h => .inl h⟩

/-- run fa at a state, then go on -/
theorem tOf_use {fa : M U} {Q : VK} (S : Sit K F σ H env own)
    (hok : ∀ u env1, fa env = .ok u env1 → ∀ v F1 H1 own1 p, Out K F H own σ u v env1 F1 H1 own1 p → Q v H1)
    (hr : ∀ c env1, fa env = .raise c env1 → ∀ C F1 H1 own1, mg c = some (.ref C) → OutR K F H own σ env1 F1 H1 own1 → Wx (.ref C) none σ H1)
    (hs : fa env ≠ .stuck) : tOf K mg Wx fa σ H Q := by
  refine ⟨F, env, own, S, ?_⟩
  cases e : fa env with
  | ok u env1 => exact hok u env1 e
  | raise c env1 => exact hr c env1 e
  | stuck => exact hs e
theorem ttOf_use {fa : M Bool} {Q : Bool → Hp → Prop} (S : Sit K F σ H env own)
    (hok : ∀ b env1, fa env = .ok b env1 → ∀ F1 H1 own1, OutR K F H own σ env1 F1 H1 own1 → Q b H1)
    (hr : ∀ c env1, fa env = .raise c env1 → ∀ C F1 H1 own1, mg c = some (.ref C) → OutR K F H own σ env1 F1 H1 own1 → Wx (.ref C) none σ H1)
    (hs : fa env ≠ .stuck) : ttOf K mg Wx fa σ H Q := by
  refine ⟨F, env, own, S, ?_⟩
  cases e : fa env with
  | ok u env1 => exact hok u env1 e
  | raise c env1 => exact hr c env1 e
  | stuck => exact hs e

/-- something then k: run fa, then what k says is left -/
theorem tOf_bind {β : Type} {fa : M U} {k : U → M β} {P : R β → Hp → Hp → (Nat → Fp) → Prop} {Q : VK} (S : Sit K F σ H env own) (h : P ((fa env).bind k) F H own)
    (hp : ∀ c env', P (.raise c env') F H own → ∀ C F1 H1 own1, mg c = some (.ref C) → OutR K F H own σ env' F1 H1 own1 → Wx (.ref C) none σ H1) (hn : ¬ P .stuck F H own)
    (hok : ∀ u env1, fa env = .ok u env1 → P (k u env1) F H own → ∀ v F1 H1 own1 p, Out K F H own σ u v env1 F1 H1 own1 p → Q v H1) : tOf K mg Wx fa σ H Q := by
  refine tOf_use S (fun u env1 e => hok u env1 e (by rw [e] at h; exact h)) (fun c env1 e => hp c env1 (by rw [e] at h; exact h)) (fun e => hn (by rw [e] at h; exact h))
end
end DL

namespace DL
open PySem PySem.Spec PyProof.Rows L2

/-! ### lists of expressions -/
def RepUs (K : PySem.W.Frag) (F H : Hp) (σ : L2.St) : List V → List U → Fp → Prop
  | [], [], p => ∀ a, ¬ p a
  | v :: vs, u :: us, p => ∃ p1 p2 : Fp, (∀ a, p a ↔ p1 a ∨ p2 a) ∧ (∀ a, p1 a → ¬ p2 a) ∧ RepU K F H σ v u p1 ∧ RepUs K F H σ vs us p2
  | _, _, _ => False
structure OutL (K : PySem.W.Frag) (F H : Hp) (own : Nat → Fp) (σ' : L2.St) (us : List U) (vs : List V) (env' : DEnv) (F' H' : Hp) (own' : Nat → Fp) (p : Fp) : Prop where
  S : Sit K F' σ' H' env' own'
  r : RepUs K F' H' σ' vs us p
  d : ∀ a, p a → ¬ all own' a
  s : Step F H (all own) F' H' (fun a => all own' a ∨ p a)
def aOf (K : PySem.W.Frag) (mg : Str → Option Value) (Wx : WX) (f : M (List U)) : TA := fun σ H Q => ∃ F env own, Sit K F σ H env own ∧ match f env with
  | .ok us env' => ∀ vs F' H' own' p, OutL K F H own σ us vs env' F' H' own' p → Q vs H'
  | .raise c env' => ∀ C F' H' own', mg c = some (.ref C) → OutR K F H own σ env' F' H' own' → Wx (.ref C) none σ H'
  | .stuck => False
def evs : List (M U) → M (List U)
  | [], env => .ok [] env
  | f :: fs, env => (f env).bind fun u e1 => (evs fs e1).bind fun us e2 => .ok (u :: us) e2
abbrev EaS (X : Cx) (Wx : WX) (es : List Expr) (fs : List (M U)) : Prop := PA X es (aOf X.K X.mg Wx (evs fs))
theorem PA.imp {X : Cx} {e : List Expr} {t t' : TA} (h : PA X e t) (i : ∀ σ H Q, t' σ H Q → t σ H Q) : PA X e t' := ⟨fun pos pins s σ H Q I q => h.run pos pins s σ H Q I (i σ H Q q)⟩

section
variable {K : PySem.W.Frag} {mg : Str → Option Value} {Wx : WX} {F H F1 H1 F2 H2 : Hp} {σ σ1 σ2 : L2.St} {env env1 env2 : DEnv} {own own1 own2 : Nat → Fp}
theorem RepUs.stepU : ∀ {vs : List V} {us : List U} {p fp fp1 : Fp}, RepUs K F H σ vs us p → (∀ a, p a → ¬ fp a) → Step F H fp F1 H1 fp1 → RepUs K F1 H1 σ vs us p ∧ ∀ a, p a → ¬ fp1 a
  | [], [], p, fp, fp1, r, d, s => ⟨r, fun a q => absurd q (r a)⟩
  | v :: vs, u :: us, p, fp, fp1, r, d, s => by
    obtain ⟨p1, p2, hp, hd, r1, r2⟩ := r
    obtain ⟨a1, b1⟩ := RepU.stepU r1 (fun a q => d a ((hp a).mpr (.inl q))) s
    obtain ⟨a2, b2⟩ := RepUs.stepU r2 (fun a q => d a ((hp a).mpr (.inr q))) s
    refine ⟨⟨p1, p2, hp, hd, a1, a2⟩, fun a q => ?_⟩
    rcases (hp a).mp q with z | z
    · exact b1 a z
    · exact b2 a z
  | [], _ :: _, _, _, _, r, _, _ => r.elim
  | _ :: _, [], _, _, _, r, _, _ => r.elim
theorem RepUs.length : ∀ {vs : List V} {us : List U} {p : Fp}, RepUs K F H σ vs us p → vs.length = us.length
  | [], [], _, _ => rfl
  | v :: vs, u :: us, _, r => by
    obtain ⟨_, _, _, _, _, r2⟩ := r
    rw [List.length_cons, List.length_cons, RepUs.length r2]
  | [], _ :: _, _, r => r.elim
  | _ :: _, [], _, r => r.elim
theorem OutL.nil (S : Sit K F σ H env own) : OutL K F H own σ [] [] env F H own (fun _ => False) := ⟨S, fun _ h => h, fun _ h => h.elim, Step.refl.sub fun _ h => h.elim id False.elim⟩
theorem Out.cons {u : U} {v : V} {us : List U} {vs : List V} {p p2 : Fp} (a : Out K F H own σ u v env1 F1 H1 own1 p) (b : OutL K F1 H1 own1 σ us vs env2 F2 H2 own2 p2) : OutL K F H own σ (u :: us) (v :: vs) env2 F2 H2 own2 (fun a => p a ∨ p2 a) := by
  obtain ⟨r, d⟩ := a.r.stepU a.d b.s
  refine ⟨b.S, ⟨p, p2, fun _ => Iff.rfl, fun a q z => d a q (.inr z), r, b.r⟩, fun a q z => ?_, (a.s.trans (b.s.more p)).sub fun a q => ?_⟩
  · rcases q with q | q
    · exact d a q (.inl z)
    · exact b.d a q z
  · rcases q with q | q | q
    · exact .inl (.inl q)
    · exact .inr q
    · exact .inl (.inr q)
theorem OutL.drop {us : List U} {vs : List V} {p : Fp} (b : OutL K F H own σ2 us vs env2 F2 H2 own2 p) : OutR K F H own σ2 env2 F2 H2 own2 := ⟨b.S, b.s.sub fun _ h => .inl h⟩
theorem OutL.one {u : U} {vs : List V} {p : Fp} (b : OutL K F H own σ2 [u] vs env2 F2 H2 own2 p) : ∃ v, vs = [v] ∧ Out K F H own σ2 u v env2 F2 H2 own2 p := by
  obtain ⟨S, r, d, s⟩ := b
  match vs, r with
  | [v], ⟨p1, p2, hp, hd, r1, r2⟩ =>
    have e : ∀ a, p a ↔ p1 a := fun a => (hp a).trans ⟨fun z => z.elim id fun y => absurd y (r2 a), .inl⟩
    have e' : p = p1 := funext fun a => propext (e a)
    subst e'
    exact ⟨v, rfl, S, r1, d, s⟩
  | _ :: _ :: _, ⟨_, _, _, _, _, r2⟩ => exact r2.elim
end

section
variable {X : Cx} {Wx : WX} {e : Expr} {es : List Expr} {f : M U} {fs : List (M U)} {pos : Pos}
theorem ea_nil : EaS X Wx [] [] := PA.imp pa_nil fun σ H Q h => by
  obtain ⟨F, env, own, S, h⟩ := h
  exact h [] F H own _ (OutL.nil S)
theorem ea_cons (ha : EvS X Wx e f) (hr : EaS X Wx es fs) (hs : starEach (e :: es) X.env = (false, eval e X.env) :: starEach es X.env := by rfl) : EaS X Wx (e :: es) (f :: fs) := PA.imp (pa_cons ha hr hs) fun σ H Q h => by
  obtain ⟨F, env, own, S, h⟩ := h
  unfold evs at h
  refine tOf_use S (fun u env1 e1 v F1 H1 own1 p O1 => ?_) (fun c env1 e1 C F1 H1 own1 => ?_) (fun e1 => ?_)
  · rw [e1, R.bind_ok] at h
    refine ⟨F1, env1, own1, O1.S, ?_⟩
    cases e2 : evs fs env1 with
    | ok us env2 =>
      rw [e2] at h
      exact fun vs F2 H2 own2 p2 O2 => h _ _ _ _ _ (O1.cons O2)
    | raise c env2 =>
      rw [e2] at h
      exact fun C F2 H2 own2 hm O2 => h C F2 H2 own2 hm (O1.drop.trans O2)
    | stuck =>
      rw [e2] at h
      exact h
  · rw [e1] at h
    exact h C F1 H1 own1
  · rw [e1] at h
    exact h
end

/-! ### pure operations on data -/
structure Grow (F H F' H' : Hp) (p : Fp) : Prop where
  exF : Same F F'
  exH : Same H H'
  sub : Same F' H'
  fr : ∀ a o, F' a = some o → F a = none → H a = none
  np : ∀ a, p a → H a = none
section
variable {K : PySem.W.Frag} {F H F1 H1 F2 H2 : Hp} {σ : L2.St} {env env1 : DEnv} {own own1 : Nat → Fp} {p : Fp}
theorem Grow.refl (e : Same F H) : Grow F H F H (fun _ => False) := ⟨Same.refl _, Same.refl _, e, fun a o h n => (by rw [h] at n; cases n), fun _ h => h.elim⟩
/-- a new thing, for good -/
theorem Grow.data {q : Addr} {o : HO} (e : Same F H) (hq : H q = none) : Grow F H (upd F q o) (upd H q o) (fun _ => False) where
  exF := fun a u h => by
    have : a ≠ q := fun z => by subst z; rw [e _ _ h] at hq; cases hq
    rw [upd_ne this]; exact h
  exH := fun a u h => by rw [upd_ne (ne_of_none h hq)]; exact h
  sub := fun a u h => by
    by_cases z : a = q
    · subst z; rw [upd_same] at h ⊢; exact h
    · rw [upd_ne z] at h ⊢; exact e _ _ h
  fr := fun a u h n => by
    by_cases z : a = q
    · subst z; exact hq
    · rw [upd_ne z, n] at h; cases h
  np := fun _ h => h.elim
/-- a new thing, of its own -/
theorem Grow.ofOwn {q : Addr} {o : HO} (e : Same F H) (hq : H q = none) : Grow F H F (upd H q o) (fun a => a = q) where
  exF := Same.refl _
  exH := fun a u h => by rw [upd_ne (ne_of_none h hq)]; exact h
  sub := fun a u h => by rw [upd_ne (ne_of_none (e _ _ h) hq)]; exact e _ _ h
  fr := fun a u h n => by rw [h] at n; cases n
  np := fun a h => by rw [h]; exact hq
theorem Grow.sit (g : Grow F H F1 H1 p) (S : Sit K F σ H env own) : Sit K F1 σ H1 env own where
  ex := g.sub
  len := S.len
  rep := fun i w h => by
    obtain ⟨v, e, r⟩ := S.rep i w h
    refine ⟨v, e, r.frame g.exF (fun a o _ q => g.exH a o q) fun a q => ?_⟩
    obtain ⟨⟨o, e1⟩, e2⟩ := r.there q
    cases z : F1 a with
    | none => rfl
    | some u => rw [g.fr a u z e2] at e1; cases e1
  emp := S.emp
  dis := S.dis
theorem Grow.step (g : Grow F H F1 H1 p) (own : Nat → Fp) : Step F H (all own) F1 H1 (fun a => all own a ∨ p a) where
  ex := g.exF
  keep := fun a o h _ => g.exH a o h
  new := fun a h => h.imp_right (g.np a)
  frz := fun a o h n => .inr (g.fr a o h n)
theorem Grow.out {v : V} {w : W} (g : Grow F1 H1 F2 H2 p) (O : OutR K F H own σ env1 F1 H1 own1) (r : RepW K F2 H2 v w p) : Out K F H own σ (.w w) v env1 F2 H2 own1 p := by
  refine ⟨g.sit O.S, r, fun a q z => ?_, O.s.trans (g.step own1)⟩
  obtain ⟨⟨o, e⟩, _⟩ := O.S.there z
  rw [g.np a q] at e
  cases e
end

def datL (env : DEnv) : List U → Option (List D)
  | [] => some []
  | u :: us => match dat env u, datL env us with
    | some d, some ds => some (d :: ds)
    | _, _ => none
inductive Views (K : PySem.W.Frag) (F H : Hp) : List V → List D → Prop where
  | nil : Views K F H [] []
  | cons {v : V} {d : D} {vs : List V} {ds : List D} : View K F H v d → Views K F H vs ds → Views K F H (v :: vs) (d :: ds)
theorem RepUs.views {K : PySem.W.Frag} {F H : Hp} {σ : L2.St} {env : DEnv} {own : Nat → Fp} (S : Sit K F σ H env own) : ∀ {vs : List V} {us : List U} {p : Fp} {ds : List D}, RepUs K F H σ vs us p → datL env us = some ds → Views K F H vs ds
  | [], [], p, ds, r, h => by cases h; exact .nil
  | v :: vs, u :: us, p, ds, r, h => by
    obtain ⟨p1, p2, _, _, r1, r2⟩ := r
    have h : (match dat env u, datL env us with | some d, some ds => some (d :: ds) | _, _ => none) = some ds := h
    split at h
    · rename_i d ds' h1 h2
      cases h
      exact .cons (RepU.view S r1 h1) (RepUs.views S r2 h2)
    · cases h
  | [], _ :: _, _, _, r, _ => r.elim
  | _ :: _, [], _, _, r, _ => r.elim
theorem Views.one {K : PySem.W.Frag} {F H : Hp} {vs : List V} {d : D} (h : Views K F H vs [d]) : ∃ v, vs = [v] ∧ View K F H v d := by
  cases h with
  | cons a b => cases b; exact ⟨_, rfl, a⟩
theorem Views.two {K : PySem.W.Frag} {F H : Hp} {vs : List V} {d e : D} (h : Views K F H vs [d, e]) : ∃ v u, vs = [v, u] ∧ View K F H v d ∧ View K F H u e := by
  cases h with
  | cons a b =>
    obtain ⟨u, rfl, q⟩ := b.one
    exact ⟨_, _, rfl, a, q⟩

/-- what a reading of an operation on values tells, by data -/
def CaD (K : PySem.W.Frag) (r : List V → Hp → VK → Prop) (g : List D → Option W) : Prop :=
  ∀ (F H : Hp) (vs : List V) (ds : List D) (w : W) (Q : VK), Same F H → Views K F H vs ds → g ds = some w → (∀ v F' H' p, Grow F H F' H' p → RepW K F' H' v w p → Q v H') → r vs H Q
def opN (g : List D → Option W) (fs : List (M U)) : M U := fun env => (evs fs env).bind fun us e1 => match datL e1 us with
  | some ds => match g ds with
    | some w => .ok (.w w) e1
    | none => .stuck
  | none => .stuck
/-- as one reads arguments, then does -/
theorem aOf_op {K : PySem.W.Frag} {mg : Str → Option Value} {Wx : WX} {r : List V → Hp → VK → Prop} {g : List D → Option W} {fs : List (M U)} {σ : L2.St} {H : Hp} {Q : VK} (c : CaD K r g) (h : tOf K mg Wx (opN g fs) σ H Q) :
    aOf K mg Wx (evs fs) σ H fun vs H1 => r vs H1 Q := by
  obtain ⟨F, env, own, S, h⟩ := h
  refine ⟨F, env, own, S, ?_⟩
  unfold opN at h
  cases e : evs fs env with
  | stuck => rw [e] at h; exact h
  | raise c env1 => rw [e] at h; exact h
  | ok us env1 =>
    rw [e, R.bind_ok] at h
    intro vs F1 H1 own1 p O
    cases e1 : datL env1 us with
    | none => rw [e1] at h; exact h.elim
    | some ds =>
      rw [e1] at h
      dsimp only at h
      cases e2 : g ds with
      | none => rw [e2] at h; exact h.elim
      | some w =>
        rw [e2] at h
        exact c F1 H1 vs ds w Q O.S.ex (RepUs.views O.S O.r e1) e2 fun v F' H' p' gr rw' => h v F' H' own1 p' (gr.out O.drop rw')
section
variable {K : PySem.W.Frag} {mg : Str → Option Value} {Wx : WX} {fa fb fc : M U} {σ : L2.St} {H : Hp}
theorem aOf_1 {Q : List V → Hp → Prop} (h : aOf K mg Wx (evs [fa]) σ H Q) : tOf K mg Wx fa σ H fun x H1 => Q [x] H1 := by
  obtain ⟨F, env, own, S, h⟩ := h
  unfold evs at h
  refine tOf_use S (fun u env1 e1 v F1 H1 own1 p O1 => ?_) (fun c env1 e1 C F1 H1 own1 => ?_) (fun e1 => ?_)
  · rw [e1] at h
    refine h _ _ _ _ _ (O1.cons (OutL.nil O1.S))
  · rw [e1] at h
    exact h C F1 H1 own1
  · rw [e1] at h
    exact h
theorem aOf_cons {fs : List (M U)} {Q : List V → Hp → Prop} (h : aOf K mg Wx (evs (fa :: fs)) σ H Q) : tOf K mg Wx fa σ H fun x H1 => aOf K mg Wx (evs fs) σ H1 fun xs H2 => Q (x :: xs) H2 := by
  obtain ⟨F, env, own, S, h⟩ := h
  unfold evs at h
  refine tOf_use S (fun u env1 e1 v F1 H1 own1 p O1 => ?_) (fun c env1 e1 C F1 H1 own1 => ?_) (fun e1 => ?_)
  · rw [e1, R.bind_ok] at h
    refine ⟨F1, env1, own1, O1.S, ?_⟩
    cases e2 : evs fs env1 with
    | ok us env2 =>
      rw [e2] at h
      exact fun vs F2 H2 own2 p2 O2 => h _ _ _ _ _ (O1.cons O2)
    | raise c env2 =>
      rw [e2] at h
      exact fun C F2 H2 own2 hm O2 => h C F2 H2 own2 hm (O1.drop.trans O2)
    | stuck =>
      rw [e2] at h
      exact h
  · rw [e1] at h
    exact h C F1 H1 own1
  · rw [e1] at h
    exact h
theorem tOf_mono {Q Q' : VK} (h : tOf K mg Wx fa σ H Q) (i : ∀ v H, Q v H → Q' v H) : tOf K mg Wx fa σ H Q' := by
  obtain ⟨F, env, own, S, h⟩ := h
  refine ⟨F, env, own, S, ?_⟩
  cases e : fa env with
  | ok u env1 => rw [e] at h; exact fun v F1 H1 own1 p O => i _ _ (h v F1 H1 own1 p O)
  | raise c env1 => rw [e] at h; exact h
  | stuck => rw [e] at h; exact h
theorem aOf_2 {Q : List V → Hp → Prop} (h : aOf K mg Wx (evs [fa, fb]) σ H Q) : tOf K mg Wx fa σ H fun x H1 => tOf K mg Wx fb σ H1 fun y H2 => Q [x, y] H2 :=
  tOf_mono (aOf_cons h) fun _ _ q => aOf_1 q
theorem aOf_3 {Q : List V → Hp → Prop} (h : aOf K mg Wx (evs [fa, fb, fc]) σ H Q) : tOf K mg Wx fa σ H fun x H1 => tOf K mg Wx fb σ H1 fun y H2 => tOf K mg Wx fc σ H2 fun z H3 => Q [x, y, z] H3 :=
  tOf_mono (aOf_cons h) fun _ _ q => aOf_2 q
end

section
variable {X : Cx} {Wx : WX} {a b c : Expr} {fa fb fc : M U} {pos p : Pos} {es : List Expr} {e : Expr} {fs : List (M U)} {g : List D → Option W}
def r2 (r : R2) : List V → Hp → VK → Prop := fun vs H Q => ∃ x y, vs = [x, y] ∧ r x y H Q
def r1 (r : V → Hp → VK → Prop) : List V → Hp → VK → Prop := fun vs H Q => ∃ x, vs = [x] ∧ r x H Q
theorem r2_two {r : R2} {x y : V} {H : Hp} {Q : VK} (h : r2 r [x, y] H Q) : r x y H Q := by
  obtain ⟨_, _, e, h⟩ := h; cases e; exact h
theorem r1_one {r : V → Hp → VK → Prop} {x : V} {H : Hp} {Q : VK} (h : r1 r [x] H Q) : r x H Q := by
  obtain ⟨_, e, h⟩ := h; cases e; exact h
theorem e_bin {op : Operator} {r : R2} (ho : OpR X (binaryOp op) r) (cd : CaD X.K (r2 r) g) (ha : EvS X Wx a fa) (hb : EvS X Wx b fb) : EvS X Wx (.BinOp a op b pos) (opN g [fa, fb]) :=
  PE.imp (pe_op ho ha hb) fun σ H Q h => tOf_mono (aOf_2 (aOf_op cd h)) fun _ _ q => tOf_mono q fun _ _ z => r2_two z
theorem e_un {op : UnaryOp} {r : V → Hp → VK → Prop} (ho : UnR X (unaryOp op) r) (cd : CaD X.K (r1 r) g) (ha : EvS X Wx a fa) : EvS X Wx (.UnaryOp op a pos) (opN g [fa]) :=
  PE.imp (pe_un ho ha) fun σ H Q h => tOf_mono (aOf_1 (aOf_op cd h)) fun _ _ q => r1_one q
theorem e_cmp {op : CmpOp} {r : R2} (ho : OpR X (compareOp op) r) (cd : CaD X.K (r2 r) g) (ha : EvS X Wx a fa) (hb : EvS X Wx b fb) (hm : behindInMarks op b = false) : EvS X Wx (.Compare a [op] [b] pos) (opN g [fa, fb]) :=
  PE.imp (pe_cmpR ho ha hb hm) fun σ H Q h => tOf_mono (aOf_2 (aOf_op cd h)) fun _ _ q => tOf_mono q fun _ _ z => r2_two z
theorem e_ix {r : R2} (ho : IxR X r) (cd : CaD X.K (r2 r) g) (ha : EvS X Wx a fa) (hb : EvS X Wx b fb) (hs : PlainIx b) : EvS X Wx (.Subscript a b pos) (opN g [fa, fb]) :=
  PE.imp (pe_ix ho ha hb hs) fun σ H Q h => tOf_mono (aOf_2 (aOf_op cd h)) fun _ _ q => tOf_mono q fun _ _ z => r2_two z
theorem e_callB {id : String} {x : Str} {r : List V → Hp → VK → Prop} (hc : CallR X (.builtin id) r) (cd : CaD X.K r g) (hg : Gl X x) (hm : X.mg x = none) (hv : bootBuiltins x = some (.builtin id)) (ha : EaS X Wx (e :: es) fs) (hn : x ≠ "__name__" := by decide) (hdb : (x == ("__debug__" : Str)) = false := by decide)
    (he : starEach (e :: es) X.env = (false, eval e X.env) :: starEach es X.env := by rfl) (hpl : (backTo pos (starEach es X.env)).any (·.1) = false := by rfl) : EvS X Wx (.Call (.Name x p) (e :: es) [] pos) (opN g fs) :=
  PE.imp (pe_callB hc hg hm hv ha hn hdb he hpl) fun σ H Q h => aOf_op cd h
theorem e_callTy {T : String} {x : Str} {r : List V → Hp → VK → Prop} (hc : CallR X (.type T) r) (cd : CaD X.K r g) (hg : Gl X x) (hm : X.mg x = none) (hv : bootBuiltins x = some (.type T)) (ha : EaS X Wx (e :: es) fs) (hn : x ≠ "__name__" := by decide) (hdb : (x == ("__debug__" : Str)) = false := by decide)
    (he : starEach (e :: es) X.env = (false, eval e X.env) :: starEach es X.env := by rfl) (hpl : (backTo pos (starEach es X.env)).any (·.1) = false := by rfl) : EvS X Wx (.Call (.Name x p) (e :: es) [] pos) (opN g fs) :=
  PE.imp (pe_callTy hc hg hm hv ha hn hdb he hpl) fun σ H Q h => aOf_op cd h
end
end DL

namespace DL
open PySem PySem.Spec PyProof.Rows L2

theorem sz {n : Nat} (h : n ≤ 1000000) : n ≤ sizeLine := Nat.le_trans h (by decide)
theorem szl {n : Nat} (h : n < 1000000) : n < sizeLine := Nat.lt_of_lt_of_le h (by decide)

section
variable {K : PySem.W.Frag} {F H : Hp}
theorem View.int {v : V} {i : Int} (h : View K F H v (.int i)) : v = .int i := by
  cases (show RepD K F v (.int i) from h); rfl
theorem View.bl {v : V} {b : Bool} (h : View K F H v (.bl b)) : v = .bl b := by
  cases (show RepD K F v (.bl b) from h); rfl
theorem View.str {v : V} {x : Str} (h : View K F H v (.str x)) : v = .str x := by
  cases (show RepD K F v (.str x) from h); rfl
theorem View.non {v : V} (h : View K F H v .non) : v = .non := by
  cases (show RepD K F v .non from h); rfl
theorem View.tup {v : V} {ds : List D} (e : Same F H) (h : View K F H v (.tup ds)) : ∃ a vs, v = .ref a ∧ F a = some (.tup vs) ∧ SqT K H a vs ∧ RepDs K F vs ds := by
  cases (show RepD K F v (.tup ds) from h) with
  | tup q r => exact ⟨_, _, rfl, q, SqT.of (e _ _ q), r⟩
theorem View.scr {v : V} {ns : List Int} (e : Same F H) (h : View K F H v (.scr ns)) : ∃ a, v = .ref a ∧ SqL K H a (ns.map V.int) := by
  cases (show RepD K F v (.scr ns) from h) with
  | scr q => exact ⟨_, rfl, e.seq q⟩
theorem View.lst {v : V} {ds : List D} (h : View K F H v (.lst ds)) : ∃ a vs, v = .ref a ∧ Rd H a (.lst vs) ∧ RepDs K F vs ds := h
/-- what comes of an operation: data that is no object, or a new object -/
theorem RepW.ofInt {F' H' : Hp} (i : Int) : RepW K F' H' (.int i) (.v (.int i)) (fun _ => False) := ⟨fun _ h => h, .int i⟩
theorem RepW.ofBl {F' H' : Hp} (b : Bool) : RepW K F' H' (.bl b) (.v (.bl b)) (fun _ => False) := ⟨fun _ h => h, .bl b⟩
theorem RepW.ofStr {F' H' : Hp} (x : Str) : RepW K F' H' (.str x) (.v (.str x)) (fun _ => False) := ⟨fun _ h => h, .str x⟩
theorem RepW.ofNon {F' H' : Hp} : RepW K F' H' .non (.v .non) (fun _ => False) := ⟨fun _ h => h, .non⟩
theorem RepW.ofRep {F' H' : Hp} {v : V} {d : D} (h : RepD K F' v d) : RepW K F' H' v (.v d) (fun _ => False) := ⟨fun _ h => h, h⟩
variable {Q : VK}
theorem fin_int {i : Int} (e : Same F H) (q : ∀ v F' H' p, Grow F H F' H' p → RepW K F' H' v (.v (.int i)) p → Q v H') : Q (.int i) H := q _ _ _ _ (Grow.refl e) (RepW.ofInt i)
theorem fin_bl {i : Bool} (e : Same F H) (q : ∀ v F' H' p, Grow F H F' H' p → RepW K F' H' v (.v (.bl i)) p → Q v H') : Q (.bl i) H := q _ _ _ _ (Grow.refl e) (RepW.ofBl i)
theorem fin_str {i : Str} (e : Same F H) (q : ∀ v F' H' p, Grow F H F' H' p → RepW K F' H' v (.v (.str i)) p → Q v H') : Q (.str i) H := q _ _ _ _ (Grow.refl e) (RepW.ofStr i)
theorem fin_rep {v : V} {d : D} (e : Same F H) (r : RepD K F v d) (q : ∀ v F' H' p, Grow F H F' H' p → RepW K F' H' v (.v d) p → Q v H') : Q v H := q _ _ _ _ (Grow.refl e) (RepW.ofRep r)
theorem same_upd {q : Addr} {o : HO} (hq : F q = none) : Same F (upd F q o) := fun a u h => by
  rw [upd_ne (ne_of_none h hq)]; exact h
theorem sub_none (e : Same F H) {q : Addr} (hq : H q = none) : F q = none := e.free hq
theorem fin_tup {vs : List V} {ds : List D} (e : Same F H) (r : RepDs K F vs ds) (q : ∀ v F' H' p, Grow F H F' H' p → RepW K F' H' v (.v (.tup ds)) p → Q v H') : ∀ p, H p = none → Q (.ref p) (upd H p (.tup vs)) := fun p hp =>
  q _ _ _ _ (Grow.data e hp) (RepW.ofRep (.tup upd_same (r.mono (same_upd (sub_none e hp)))))
theorem fin_lst {vs : List V} {ds : List D} (e : Same F H) (r : RepDs K F vs ds) (q : ∀ v F' H' p, Grow F H F' H' p → RepW K F' H' v (.l false ds) p → Q v H') : ∀ p, H p = none → Q (.ref p) (upd H p (.lst vs)) := fun p hp =>
  q _ _ _ _ (Grow.ofOwn e hp) ⟨p, vs, rfl, fun _ => Iff.rfl, upd_same, sub_none e hp, r⟩
end

/-! ### arithmetic -/
def gAdd : List D → Option W
  | [.int i, .int j] => some (.v (.int (i + j)))
  | [.str x, .str y] => if x.length + y.length ≤ 1000000 then some (.v (.str (x ++ y))) else none
  | [.tup xs, .tup ys] => if xs.length + ys.length ≤ 1000000 then some (.v (.tup (xs ++ ys))) else none
  | [.lst xs, .lst ys] => if xs.length + ys.length ≤ 1000000 then some (.l false (xs ++ ys)) else none
  | _ => none
def gSub : List D → Option W
  | [.int i, .int j] => some (.v (.int (i - j)))
  | _ => none
def gMul : List D → Option W
  | [.int i, .int j] => if i.natAbs < 2 ^ 64 ∨ j.natAbs < 2 ^ 64 then some (.v (.int (i * j))) else none
  | [.lst xs, .int k] => if 0 ≤ k ∧ k ≤ 1000 ∧ xs.length ≤ 1000 then some (.l false (List.replicate k.toNat xs).flatten) else none
  | [.tup xs, .int k] => if 1 ≤ k ∧ k ≤ 1000 ∧ xs.length ≤ 1000 ∧ xs ≠ [] then some (.v (.tup (List.replicate k.toNat xs).flatten)) else none
  | _ => none
def gDiv : List D → Option W
  | [.int i, .int j] => if 0 < j ∧ j < 1073741824 then some (.v (.int (i / j))) else none
  | _ => none
def gMod : List D → Option W
  | [.int i, .int j] => if 0 < j then some (.v (.int (i % j))) else none
  | _ => none
def gPow : List D → Option W
  | [.int i, .int j] => if 0 ≤ j ∧ j ≤ 1000 ∧ i.natAbs < 2 ^ 64 then some (.v (.int (i ^ j.toNat))) else none
  | _ => none
def gNeg : List D → Option W
  | [.int i] => some (.v (.int (-i)))
  | _ => none

/-- list + list, of what may be read -/
def rCatR : R2 := fun x y H Q => ∃ l b xs zs, x = .ref l ∧ y = .ref b ∧ Rd H l (.lst xs) ∧ Rd H b (.lst zs) ∧ xs.length + zs.length ≤ sizeLine ∧ ∀ p, H p = none → Q (.ref p) (upd H p (.lst (xs ++ zs)))
section
variable {X : Cx}
theorem op_catR : OpR X (binaryOp .Add) rCatR := by
  intro pins s σ H x y v u Q I rx ry h
  obtain ⟨l, b, xs, zs, rfl, rfl, hH, hB, hz, q⟩ := h
  cases rx
  cases ry
  obtain ⟨z, its, n, r, e⟩ := hH.ok I.hok
  obtain ⟨z2, its2, n2, r2, e2⟩ := hB.ok I.hok
  have hl := r.length
  have hl2 := r2.length
  refine PySem.P.add_list e e2 ?_ (by rw [List.size_toArray, List.size_toArray]; omega)
  have ea : its.toArray ++ its2.toArray = (its ++ its2).toArray := by simp
  rw [ea]
  exact ⟨.ref _, _, I.lnew (t' := s.toks) (r.append r2) (by rw [List.length_append]; omega), rfl, q _ I.fresh⟩
def rAddA (K : PySem.W.Frag) : R2 := fun x y H Q => (rI0 fun i j => .int (i + j)) x y H Q ∨ (fun x y H Q => (fun x y H Q => ∃ i j, x = .str i ∧ y = .str j ∧ i.length + j.length ≤ sizeLine ∧ Q (.str (i ++ j)) H) x y H Q ∨ (fun x y H Q => rCatA K x y H Q ∨ rCatR x y H Q) x y H Q) x y H Q
theorem op_addA : OpR X (binaryOp .Add) (rAddA X.K) := op_add.or (op_add_str.or (op_catA.or op_catR))
end
theorem cd_add {K : PySem.W.Frag} : CaD K (r2 (rAddA K)) gAdd := by
  intro F H vs ds w Q e vw hg q
  unfold gAdd at hg
  split at hg
  · rename_i i j
    obtain ⟨x, y, rfl, hx, hy⟩ := vw.two
    cases hg
    exact ⟨x, y, rfl, .inl ⟨i, j, hx.int, hy.int, fin_int e q⟩⟩
  · rename_i i j
    obtain ⟨x, y, rfl, hx, hy⟩ := vw.two
    split at hg
    · rename_i hl
      cases hg
      exact ⟨x, y, rfl, .inr (.inl ⟨i, j, hx.str, hy.str, sz hl, fin_str e q⟩)⟩
    · cases hg
  · rename_i xs ys
    obtain ⟨x, y, rfl, hx, hy⟩ := vw.two
    split at hg
    · rename_i hl
      cases hg
      obtain ⟨a, vs, rfl, f1, h1, r1⟩ := hx.tup e
      obtain ⟨b, us, rfl, f2, h2, r2⟩ := hy.tup e
      have el1 := r1.length
      have el2 := r2.length
      refine ⟨_, _, rfl, .inr (.inr (.inl ⟨a, b, vs, us, rfl, rfl, h1, h2, by rw [el1, el2]; exact sz hl, fun z => ?_, fun z1 z2 => ?_, fun _ _ => fin_tup e (r1.append r2) q⟩))⟩
      · subst z
        cases r1
        exact fin_rep e (.tup f2 r2) q
      · subst z2
        cases r2
        rw [List.append_nil] at q
        exact fin_rep e (.tup f1 r1) q
    · cases hg
  · rename_i xs ys
    obtain ⟨x, y, rfl, hx, hy⟩ := vw.two
    split at hg
    · rename_i hl
      cases hg
      obtain ⟨a, vs, rfl, h1, r1⟩ := hx.lst
      obtain ⟨b, us, rfl, h2, r2⟩ := hy.lst
      refine ⟨_, _, rfl, .inr (.inr (.inr ⟨a, b, vs, us, rfl, rfl, h1, h2, by rw [r1.length, r2.length]; exact sz hl, fin_lst e (r1.append r2) q⟩))⟩
    · cases hg
  · cases hg
theorem cd_sub {K : PySem.W.Frag} : CaD K (r2 (rI0 fun i j => .int (i - j))) gSub := by
  intro F H vs ds w Q e vw hg q
  unfold gSub at hg
  split at hg
  · rename_i i j
    obtain ⟨x, y, rfl, hx, hy⟩ := vw.two
    cases hg
    exact ⟨x, y, rfl, i, j, hx.int, hy.int, fin_int e q⟩
  · cases hg
theorem cd_div {K : PySem.W.Frag} : CaD K (r2 (rI CDiv fun i j => .int (i / j))) gDiv := by
  intro F H vs ds w Q e vw hg q
  unfold gDiv at hg
  split at hg
  · rename_i i j
    obtain ⟨x, y, rfl, hx, hy⟩ := vw.two
    split at hg
    · rename_i hc
      cases hg
      exact ⟨x, y, rfl, i, j, hx.int, hy.int, hc, fin_int e q⟩
    · cases hg
  · cases hg
theorem cd_mod {K : PySem.W.Frag} : CaD K (r2 (rI (fun _ j => 0 < j) fun i j => .int (i % j))) gMod := by
  intro F H vs ds w Q e vw hg q
  unfold gMod at hg
  split at hg
  · rename_i i j
    obtain ⟨x, y, rfl, hx, hy⟩ := vw.two
    split at hg
    · rename_i hc
      cases hg
      exact ⟨x, y, rfl, i, j, hx.int, hy.int, hc, fin_int e q⟩
    · cases hg
  · cases hg
theorem cd_pow {K : PySem.W.Frag} : CaD K (r2 (rI CPow fun i j => .int (i ^ j.toNat))) gPow := by
  intro F H vs ds w Q e vw hg q
  unfold gPow at hg
  split at hg
  · rename_i i j
    obtain ⟨x, y, rfl, hx, hy⟩ := vw.two
    split at hg
    · rename_i hc
      cases hg
      exact ⟨x, y, rfl, i, j, hx.int, hy.int, ⟨hc.1, by omega, hc.2.2⟩, fin_int e q⟩
    · cases hg
  · cases hg
theorem cd_neg {K : PySem.W.Frag} : CaD K (r1 (rU fun i => .int (-i))) gNeg := by
  intro F H vs ds w Q e vw hg q
  unfold gNeg at hg
  split at hg
  · rename_i i
    obtain ⟨x, rfl, hx⟩ := vw.one
    cases hg
    exact ⟨x, rfl, i, hx.int, fin_int e q⟩
  · cases hg

/-! ### times -/
theorem RepDs.rep {K : PySem.W.Frag} {F : Hp} {vs : List V} {ds : List D} (r : RepDs K F vs ds) : ∀ n : Nat, RepDs K F (List.replicate n vs).flatten (List.replicate n ds).flatten
  | 0 => .nil
  | n + 1 => by
    rw [List.replicate_succ, List.flatten_cons, List.replicate_succ, List.flatten_cons]
    exact r.append (r.rep n)
/-! ### comparisons of ints -/
def gCmp (f : Int → Int → Bool) : List D → Option W
  | [.int i, .int j] => some (.v (.bl (f i j)))
  | _ => none
theorem cd_cmp {K : PySem.W.Frag} {f : Int → Int → Bool} : CaD K (r2 (rI0 fun i j => .bl (f i j))) (gCmp f) := by
  intro F H vs ds w Q e vw hg q
  unfold gCmp at hg
  split at hg
  · rename_i i j
    obtain ⟨x, y, rfl, hx, hy⟩ := vw.two
    cases hg
    exact ⟨x, y, rfl, i, j, hx.int, hy.int, fin_bl e q⟩
  · cases hg
abbrev gLt := gCmp fun i j => decide (i < j)
abbrev gLe := gCmp fun i j => decide (i ≤ j)
abbrev gGt := gCmp fun i j => decide (j < i)
abbrev gGe := gCmp fun i j => decide (j ≤ i)

/-! ### == and != of data -/
mutual
def toPy : D → PyData
  | .non => .none
  | .bl b => .bool b
  | .int i => .int i
  | .str x => .str x
  | .tup l => .tuple (toPys l)
  | .lst l => .list (toPys l)
  | .nam _ _ => .none
  | .ty _ => .none
  | .scr ns => .list (ns.map PyData.int)
  | .dic _ _ => .none
  | .dix _ _ _ => .none
  | .ins _ _ _ => .none
def toPys : List D → List PyData
  | [] => []
  | d :: ds => toPy d :: toPys ds
end
/-- data through and through, nested no deeper than n -/
def fine : Nat → D → Bool
  | 0, _ => false
  | n + 1, .tup l => l.all (fine n)
  | n + 1, .lst l => l.all (fine n)
  | _ + 1, .nam _ _ => false
  | _ + 1, .ty _ => false
  | _ + 1, .dic _ _ => false
  | _ + 1, .dix _ _ _ => false
  | _ + 1, .ins _ _ _ => false
  | n + 1, .scr _ => decide (1 ≤ n)
  | _ + 1, .str x => PyData.strOk x
  | _ + 1, _ => true
theorem toPys_map : ∀ l : List D, toPys l = l.map toPy
  | [] => rfl
  | d :: ds => by rw [toPys, toPys_map ds]; rfl
theorem canLayAll_of {l : List PyData} (h : ∀ d ∈ l, d.canLay0 = true) : PyData.canLayAll0 l = true := by
  induction l with
  | nil => rfl
  | cons a r ih =>
    rw [PyData.canLayAll0, h a List.mem_cons_self, ih fun d m => h d (List.mem_cons_of_mem _ m)]
    rfl
theorem depthAll_of {l : List PyData} {n : Nat} (h : ∀ d ∈ l, d.depth ≤ n) : PyData.depthAll l ≤ n := by
  induction l with
  | nil => exact Nat.zero_le _
  | cons a r ih =>
    rw [PyData.depthAll]
    exact Nat.max_le.mpr ⟨h a List.mem_cons_self, ih fun d m => h d (List.mem_cons_of_mem _ m)⟩
theorem fine_lay : ∀ (n : Nat) (d : D), fine n d = true → (toPy d).canLay0 = true ∧ (toPy d).depth ≤ n
  | 0, _, h => by cases h
  | n + 1, .non, _ => ⟨rfl, by simp [toPy, PyData.depth]⟩
  | n + 1, .bl b, _ => ⟨rfl, by simp [toPy, PyData.depth]⟩
  | n + 1, .int i, _ => ⟨rfl, by simp [toPy, PyData.depth]⟩
  | n + 1, .str x, h => ⟨h, by simp [toPy, PyData.depth]⟩
  | n + 1, .nam _ _, h => by cases h
  | n + 1, .ty x, h => by cases h
  | n + 1, .dic _ _, h => by cases h
  | n + 1, .dix _ _ _, h => by cases h
  | n + 1, .ins _ _ _, h => by cases h
  | 1, .scr ns, h => by cases h
  | n + 2, .scr ns, h => by
    rw [toPy]
    refine ⟨canLayAll_of fun d m => ?_, ?_⟩
    · obtain ⟨x, _, rfl⟩ := List.mem_map.mp m; rfl
    · rw [PyData.depth]
      have := depthAll_of (l := ns.map PyData.int) (n := 1) fun d m => by
        obtain ⟨x, _, rfl⟩ := List.mem_map.mp m; simp [PyData.depth]
      omega
  | n + 1, .tup l, h => by
    have h : l.all (fine n) = true := h
    rw [List.all_eq_true] at h
    rw [toPy, toPys_map]
    have key : ∀ d ∈ l.map toPy, d.canLay0 = true ∧ d.depth ≤ n := fun d m => by
      obtain ⟨x, hx, rfl⟩ := List.mem_map.mp m
      exact fine_lay n x (h x hx)
    exact ⟨canLayAll_of fun d m => (key d m).1, by rw [PyData.depth]; have := depthAll_of fun d m => (key d m).2; omega⟩
  | n + 1, .lst l, h => by
    have h : l.all (fine n) = true := h
    rw [List.all_eq_true] at h
    rw [toPy, toPys_map]
    have key : ∀ d ∈ l.map toPy, d.canLay0 = true ∧ d.depth ≤ n := fun d m => by
      obtain ⟨x, hx, rfl⟩ := List.mem_map.mp m
      exact fine_lay n x (h x hx)
    exact ⟨canLayAll_of fun d m => (key d m).1, by rw [PyData.depth]; have := depthAll_of fun d m => (key d m).2; omega⟩
theorem fine_shaped {d : D} (h : fine 60 d = true) : SeqAt.shaped (toPy d) = true := by
  obtain ⟨h1, h2⟩ := fine_lay 60 d h
  unfold SeqAt.shaped
  rw [h1, decide_eq_true (show (toPy d).depth ≤ 64 by omega)]
  rfl
theorem dp_ints {K : PySem.W.Frag} {H : Hp} : ∀ ns : List Int, DpAll K H (ns.map V.int) (ns.map PyData.int)
  | [] => .nil
  | n :: r => .cons (.int n) (dp_ints r)
mutual
theorem RepD.dp {K : PySem.W.Frag} {F H : Hp} (e : Same F H) : ∀ {n : Nat} {v : V} {d : D}, RepD K F v d → fine n d = true → Dp K H v (toPy d)
  | _, _, _, .non, _ => .non
  | _, _, _, .bl b, _ => .bl b
  | _, _, _, .int i, _ => .int i
  | _, _, _, .str x, _ => .str x
  | 0, _, _, .ty n, h => by cases h
  | 0, _, _, .dic _ _ _, h => by cases h
  | n + 1, _, _, .dic _ _ _, h => by cases h
  | 0, _, _, .dix _ _ _ _, h => by cases h
  | n + 1, _, _, .dix _ _ _ _, h => by cases h
  | 0, _, _, .ins _ _ _ _, h => by cases h
  | n + 1, _, _, .ins _ _ _ _, h => by cases h
  | n + 1, _, _, .ty _, h => by cases h
  | 0, _, _, .glob _, h => by cases h
  | n + 1, _, _, .glob _, h => by cases h
  | 0, _, _, .exn _ _, h => by cases h
  | n + 1, _, _, .exn _ _, h => by cases h
  | _, _, _, .scr q, _ => .lst (e.seq q) (dp_ints _)
  | 0, _, _, .tup q r, h => by cases h
  | 0, _, _, .lst q r, h => by cases h
  | n + 1, _, _, .tup q r, h => .tup (SqT.of (e _ _ q)) (RepDs.dp e r (by have h : List.all _ (fine n) = true := h; rw [List.all_eq_true] at h; exact h))
  | n + 1, _, _, .lst q r, h => .lst (.inl (sameL e q)) (RepDs.dp e r (by have h : List.all _ (fine n) = true := h; rw [List.all_eq_true] at h; exact h))
theorem RepDs.dp {K : PySem.W.Frag} {F H : Hp} (e : Same F H) : ∀ {n : Nat} {vs : List V} {ds : List D}, RepDs K F vs ds → (∀ d ∈ ds, fine n d = true) → DpAll K H vs (toPys ds)
  | _, _, _, .nil, _ => .nil
  | _, _, _, .cons h r, a => .cons (RepD.dp e h (a _ List.mem_cons_self)) (RepDs.dp e r fun d m => a d (List.mem_cons_of_mem _ m))
end
theorem View.dp {K : PySem.W.Frag} {F H : Hp} {n : Nat} {v : V} {d : D} (e : Same F H) (h : View K F H v d) (hf : fine n d = true) : Dp K H v (toPy d) := by
  cases d with
  | lst ds =>
    obtain ⟨a, vs, rfl, q, r⟩ := h
    cases n with
    | zero => cases hf
    | succ n =>
      exact .lst (.inl q) (RepDs.dp e r (by have hf : ds.all (fine n) = true := hf; rw [List.all_eq_true] at hf; exact hf))
  | dic ks ds => cases n <;> cases hf
  | dix k ks ds => cases n <;> cases hf
  | _ => exact RepD.dp e h hf
def deq (a b : D) : Bool := PyData.eqv (toPy a) (toPy b)
def gEq : List D → Option W
  | [a, b] => if fine 60 a && fine 60 b then some (.v (.bl (deq a b))) else none
  | _ => none
def gNe : List D → Option W
  | [a, b] => if fine 60 a && fine 60 b then some (.v (.bl (!deq a b))) else none
  | _ => none
theorem cd_eq {K : PySem.W.Frag} : CaD K (r2 (rEqD K)) gEq := by
  intro F H vs ds w Q e vw hg q
  unfold gEq at hg
  split at hg
  · rename_i a b
    obtain ⟨x, y, rfl, hx, hy⟩ := vw.two
    split at hg
    · rename_i hf
      cases hg
      obtain ⟨h1, h2⟩ := Bool.and_eq_true_iff.mp hf
      exact ⟨x, y, rfl, toPy a, toPy b, hx.dp e h1, hy.dp e h2, fine_shaped h1, fine_shaped h2, fin_bl e q⟩
    · cases hg
  · cases hg
theorem cd_ne {K : PySem.W.Frag} : CaD K (r2 (rNeD K)) gNe := by
  intro F H vs ds w Q e vw hg q
  unfold gNe at hg
  split at hg
  · rename_i a b
    obtain ⟨x, y, rfl, hx, hy⟩ := vw.two
    split at hg
    · rename_i hf
      cases hg
      obtain ⟨h1, h2⟩ := Bool.and_eq_true_iff.mp hf
      exact ⟨x, y, rfl, toPy a, toPy b, hx.dp e h1, hy.dp e h2, fine_shaped h1, fine_shaped h2, fin_bl e q⟩
    · cases hg
  · cases hg
end DL

namespace DL
open PySem PySem.Spec PyProof.Rows L2

/-! ### times -/
section
variable {X : Cx}
/-- list * int, of what may be read -/
def rRepR : R2 := fun x y H Q => ∃ l k xs, x = .ref l ∧ y = .int k ∧ Rd H l (.lst xs) ∧ -(2 ^ 63) ≤ k ∧ k < 2 ^ 63 ∧ xs.length * k.toNat ≤ sizeLine ∧
  ∀ p, H p = none → Q (.ref p) (upd H p (.lst (List.replicate k.toNat xs).flatten))
theorem op_repR : OpR X (binaryOp .Mult) rRepR := by
  intro pins s σ H x y v u Q I rx ry h
  obtain ⟨l, k, xs, rfl, rfl, hH, h1, h2, hz, q⟩ := h
  cases rx
  obtain ⟨t, rfl⟩ := ry
  obtain ⟨z, its, n, r, e⟩ := hH.ok I.hok
  have hl := r.length
  have hlen : its.toArray.size * k.toNat ≤ sizeLine := by rw [List.size_toArray, ← hl]; exact hz
  have hcap : ¬ its.toArray.size * k.toNat > (2 ^ 63 - 1) / 8 := by
    have : (sizeLine : Nat) ≤ (2 ^ 63 - 1) / 8 := by decide
    omega
  have hfit : ¬ (!Builtin.List.listFitsIndex k) = true := by
    rw [fitsIndex_both h1 h2]
    exact Bool.false_ne_true
  have hlong : ¬ Builtin.List.listTooLong (its.toArray.size * k.toNat) = true := by
    rw [notLongL hlen]
    exact Bool.false_ne_true
  have hnew : List.foldl (fun x1 x2 => x1 ++ x2) #[] (List.replicate (if its.toArray.isEmpty = true then 0 else k.toNat) its.toArray) = (List.replicate k.toNat its).flatten.toArray := by
    have f0 : ∀ m : Nat, List.foldl (fun x1 x2 => x1 ++ x2) #[] (List.replicate m its.toArray) = (List.replicate m its).flatten.toArray := fun m => by
      have := foldl_rep its m []
      rw [List.nil_append] at this
      exact this
    rw [f0]
    cases its with
    | nil => simp
    | cons a r' => rw [if_neg (by simp)]
  refine wpAny_binaryOp_repeat_ref (T := "list") (U := "int") (by decide) ⟨_, e, rfl⟩ (fun s' => typeIs_int s' k t) noFill_list_mul F.fills_int_mul F.slot_int_rmul repeat_list F.slot_int_index.lookup
    (call_meets F.slot_int_rmul (typeIs_int s k t) F.entry_int_rmul (F.args_int_rmul_2 _ _) (int___rmul___int_list k t l its.toArray n)
      ⟨e, rfl, ⟨_, e, rfl⟩, call_meets F.slot_list_mul ⟨_, e, rfl⟩ F.entry_list_mul (F.args_list_mul_2 _ _) (AutoListH.list___mul___list_int_3 l its.toArray n k t hfit hcap hlong) ⟨e, ?_⟩⟩)
  rw [hnew]
  exact ⟨.ref _, _, I.lnew (t' := s.toks) (r.rep k.toNat) (by rw [PyProof.Rows.lm_len_rep_flat, Nat.mul_comm]; exact hz), rfl, q _ I.fresh⟩
/-- tuple * 1 is the tuple itself -/
theorem tuple_mul1 (l : Addr) (items : Array Value) (n : Nat) (dd : Option Addr) (sl : Array (Option Value)) (u : Tok) :
    Meets (Builtin.«tuple.__mul__» ⟨[.ref l, .int 1 u], []⟩) (fun _ R s => s.heap.get? l = some { cls := .type "tuple", dict := dd, data := .seq items n, slots := sl } ∧ R (.ok (.ret (Value.ref l))) s) :=
  .of_wp fun prog w A R s h => by
    obtain ⟨hp, g, d, tk, os⟩ := s
    obtain ⟨hl, h⟩ := h
    have f1 := AutoSeq1.idx_int
    wp_walk using wpAny_loadPart' hl
    repeat (first
      | (refine wpAny_ite_false (by decide) ?_; wp_walk using wpAny_loadPart' hl)
      | (refine wpAny_ite_true (decide_eq_true (by simp)) ?_; wp_walk using wpAny_loadPart' hl))
    exact ⟨_, rfl, h⟩
def rRepT1 (K : PySem.W.Frag) : R2 := fun x y H Q => ∃ l xs, x = .ref l ∧ y = .int 1 ∧ SqT K H l xs ∧ Q (.ref l) H
theorem op_repT1 : OpR X (binaryOp .Mult) (rRepT1 X.K) := by
  intro pins s σ H x y v u Q I rx ry h
  obtain ⟨l, xs, rfl, rfl, hT, q⟩ := h
  cases rx
  obtain ⟨t, rfl⟩ := ry
  obtain ⟨its, r, ⟨⟨cls, dd, data, sl⟩, ho, hc, n, hd⟩, hs⟩ := I.tuple hT
  simp only at hc hd
  subst hc hd
  refine wpAny_binaryOp_repeat_ref (T := "tuple") (U := "int") (by decide) ⟨_, ho, rfl⟩ (fun s' => typeIs_int s' 1 t) noFill_tuple_mul F.fills_int_mul F.slot_int_rmul repeat_tuple F.slot_int_index.lookup
    (call_meets F.slot_int_rmul (typeIs_int s 1 t) F.entry_int_rmul (F.args_int_rmul_2 _ _) (int_rmul_tuple 1 t l its.toArray n dd sl)
      ⟨ho, rfl, ⟨_, ho, rfl⟩, call_meets F.slot_tuple_mul ⟨_, ho, rfl⟩ F.entry_tuple_mul (F.args_tuple_mul_2 _ _) (tuple_mul1 l its.toArray n dd sl t) ⟨ho, ?_⟩⟩)
  exact ⟨.ref l, H, I, rfl, q⟩
def rMulA (K : PySem.W.Frag) : R2 := fun x y H Q => (rI CMul fun i j => .int (i * j)) x y H Q ∨ (fun x y H Q => rRepR x y H Q ∨ (fun x y H Q => rRepT K x y H Q ∨ rRepT1 K x y H Q) x y H Q) x y H Q
theorem op_mulA : OpR X (binaryOp .Mult) (rMulA X.K) := op_mul.or (op_repR.or (op_repT.or op_repT1))
end
theorem cd_mul {K : PySem.W.Frag} : CaD K (r2 (rMulA K)) gMul := by
  intro F H vs ds w Q e vw hg q
  unfold gMul at hg
  split at hg
  · rename_i i j
    obtain ⟨x, y, rfl, hx, hy⟩ := vw.two
    split at hg
    · rename_i hc
      cases hg
      refine ⟨x, y, rfl, .inl ⟨i, j, hx.int, hy.int, ?_, fin_int e q⟩⟩
      rcases hc with h | h
      · exact .inl ⟨by omega, by omega⟩
      · exact .inr ⟨by omega, by omega⟩
    · cases hg
  · rename_i xs k
    obtain ⟨x, y, rfl, hx, hy⟩ := vw.two
    split at hg
    · rename_i hc
      cases hg
      obtain ⟨a, vs, rfl, h1, r1⟩ := hx.lst
      obtain rfl := hy.int
      have el := r1.length
      by_cases hk : -(2 ^ 63) ≤ k
      · refine ⟨_, _, rfl, .inr (.inl ⟨a, k, vs, rfl, rfl, h1, hk, by omega, ?_, fin_lst e (r1.rep _) q⟩)⟩
        have : vs.length * k.toNat ≤ 1000 * 1000 := Nat.mul_le_mul (by omega) (by omega)
        exact sz (by omega)
      · exfalso
        omega
    · cases hg
  · rename_i xs k
    obtain ⟨x, y, rfl, hx, hy⟩ := vw.two
    split at hg
    · rename_i hc
      cases hg
      obtain ⟨a, vs, rfl, f1, h1, r1⟩ := hx.tup e
      obtain rfl := hy.int
      have el := r1.length
      by_cases hk : k = 1
      · subst hk
        refine ⟨_, _, rfl, .inr (.inr (.inr ⟨a, vs, rfl, rfl, h1, ?_⟩))⟩
        have e1 : (List.replicate (1 : Int).toNat xs).flatten = xs := by
          show (List.replicate 1 xs).flatten = xs
          simp
        rw [e1] at q
        exact fin_rep e (.tup f1 r1) q
      · refine ⟨_, _, rfl, .inr (.inr (.inl ⟨a, k, vs, rfl, rfl, h1, fun z => ?_, by omega, by omega, by omega, fin_tup e (r1.rep _) q⟩))⟩
        subst z
        cases r1
        exact hc.2.2.2 rfl
    · cases hg
  · cases hg

/-! ### items -/
def gIx : List D → Option W
  | [.lst ds, .int i] => (atI ds i).map .v
  | [.tup ds, .int i] => (atI ds i).map .v
  | [.scr ns, .int i] => (atI ns i).map fun n => .v (.int n)
  | [.str x, .int i] => if x.length ≤ 1000000 then (atI x.cps.toList i).map fun c => .v (.str ⟨#[c]⟩) else none
  | _ => none
theorem atI_rep {K : PySem.W.Frag} {F : Hp} {vs : List V} {ds : List D} {i : Int} {d : D} (r : RepDs K F vs ds) (h : atI ds i = some d) : ∃ v, atI vs i = some v ∧ RepD K F v d := by
  unfold atI at h ⊢
  rw [r.length]
  cases e : ixN ds.length i with
  | none => rw [e] at h; cases h
  | some j =>
    rw [e] at h
    exact r.get h
theorem cd_ix {K : PySem.W.Frag} : CaD K (r2 (rIx K)) gIx := by
  intro F H vs ds w Q e vw hg q
  unfold gIx at hg
  split at hg
  · rename_i xs i
    obtain ⟨x, y, rfl, hx, hy⟩ := vw.two
    obtain ⟨d, h1, rfl⟩ := Option.map_eq_some_iff.mp hg
    obtain ⟨a, us, rfl, h2, r⟩ := hx.lst
    obtain ⟨v, h3, r3⟩ := atI_rep r h1
    exact ⟨_, _, rfl, .inl ⟨a, us, i, v, rfl, hy.int, .inl h2, h3, fin_rep e r3 q⟩⟩
  · rename_i xs i
    obtain ⟨x, y, rfl, hx, hy⟩ := vw.two
    obtain ⟨d, h1, rfl⟩ := Option.map_eq_some_iff.mp hg
    obtain ⟨a, us, rfl, _, h2, r⟩ := hx.tup e
    obtain ⟨v, h3, r3⟩ := atI_rep r h1
    exact ⟨_, _, rfl, .inr (.inl ⟨a, us, i, v, rfl, hy.int, h2, h3, fin_rep e r3 q⟩)⟩
  · rename_i ns i
    obtain ⟨x, y, rfl, hx, hy⟩ := vw.two
    obtain ⟨n, h1, rfl⟩ := Option.map_eq_some_iff.mp hg
    obtain ⟨a, rfl, h2⟩ := hx.scr e
    refine ⟨_, _, rfl, .inl ⟨a, _, i, .int n, rfl, hy.int, h2, ?_, fin_int e q⟩⟩
    unfold atI at h1 ⊢
    rw [List.length_map]
    cases e1 : ixN ns.length i with
    | none => rw [e1] at h1; cases h1
    | some j =>
      rw [e1] at h1
      have h1 : ns[j]? = some n := h1
      show (ns.map V.int)[j]? = some (.int n)
      rw [List.getElem?_map, h1]; rfl
  · rename_i z i
    obtain ⟨x, y, rfl, hx, hy⟩ := vw.two
    split at hg
    · rename_i hl
      obtain ⟨c, h1, rfl⟩ := Option.map_eq_some_iff.mp hg
      exact ⟨_, _, rfl, .inr (.inr ⟨z, i, c, hx.str, hy.int, sz hl, h1, fin_str e q⟩)⟩
    · cases hg
  · cases hg

/-! ### slices -/
def cutA {α : Type} (xs : List α) (lo hi : Option Int) : List α := (xs.drop (HT.sIx xs.length 0 lo)).take (HT.sIx xs.length xs.length hi - HT.sIx xs.length 0 lo)
theorem RepDs.cut {K : PySem.W.Frag} {F : Hp} {vs : List V} {ds : List D} (r : RepDs K F vs ds) (lo hi : Option Int) : RepDs K F (cutV vs lo hi) (cutA ds lo hi) := by
  unfold cutV cutA
  rw [r.length]
  exact (r.drop _).take _
def rSlAll (K : PySem.W.Frag) : V → Option Int → Option Int → Hp → VK → Prop := fun x lo hi H Q => rSlL K x lo hi H Q ∨ rSlA K x lo hi H Q
theorem sl_all {X : Cx} : SlR X (rSlAll X.K) := sl_list.or sl_tupA
def gSl (lo hi : Option Int) : D → Option W
  | .lst ds => some (.l false (cutA ds lo hi))
  | .tup ds => some (.v (.tup (cutA ds lo hi)))
  | _ => none
theorem sl_sem {K : PySem.W.Frag} {F H : Hp} {x : V} {d : D} {lo hi : Option Int} {w : W} {Q : VK} (e : Same F H) (hx : View K F H x d) (hg : gSl lo hi d = some w) (q : ∀ v F' H' p, Grow F H F' H' p → RepW K F' H' v w p → Q v H') : rSlAll K x lo hi H Q := by
  cases d with
  | lst ds =>
    cases hg
    obtain ⟨a, us, rfl, h2, r⟩ := hx.lst
    exact .inl ⟨a, us, rfl, .inl h2, fin_lst e (r.cut lo hi) q⟩
  | tup ds =>
    cases hg
    obtain ⟨a, us, rfl, f1, h2, r⟩ := hx.tup e
    refine .inr ⟨a, us, rfl, h2, fun z => ?_, fun _ => fin_tup e (r.cut lo hi) q⟩
    have e1 : cutA ds lo hi = ds := by
      unfold cutA
      rw [r.length] at z
      rw [z.1, z.2]
      simp
    rw [e1] at q
    exact fin_rep e (.tup f1 r) q
  | _ => cases hg
def gSlB : List D → Option W
  | [d, .int i, .int j] => gSl (some i) (some j) d
  | _ => none
def gSlL : List D → Option W
  | [d, .int i] => gSl (some i) none d
  | _ => none
def gSlH : List D → Option W
  | [d, .int i] => gSl none (some i) d
  | _ => none
section
variable {X : Cx} {Wx : WX} {a lo hi : Expr} {fa fl fh : M U} {pos p2 : Pos}
def rB (K : PySem.W.Frag) : List V → Hp → VK → Prop := fun vs H Q => ∃ x i j, vs = [x, .int i, .int j] ∧ rSlAll K x (some i) (some j) H Q
def rL (K : PySem.W.Frag) : List V → Hp → VK → Prop := fun vs H Q => ∃ x i, vs = [x, .int i] ∧ rSlAll K x (some i) none H Q
def rH (K : PySem.W.Frag) : List V → Hp → VK → Prop := fun vs H Q => ∃ x i, vs = [x, .int i] ∧ rSlAll K x none (some i) H Q
theorem cd_slB {K : PySem.W.Frag} : CaD K (rB K) gSlB := by
  intro F H vs ds w Q e vw hg q
  unfold gSlB at hg
  split at hg
  · rename_i d i j
    cases vw with
    | cons h1 h2 =>
      obtain ⟨x, y, rfl, hx, hy⟩ := h2.two
      obtain rfl := hx.int
      obtain rfl := hy.int
      exact ⟨_, i, j, rfl, sl_sem e h1 hg q⟩
  · cases hg
theorem cd_slL {K : PySem.W.Frag} : CaD K (rL K) gSlL := by
  intro F H vs ds w Q e vw hg q
  unfold gSlL at hg
  split at hg
  · rename_i d i
    obtain ⟨x, y, rfl, hx, hy⟩ := vw.two
    obtain rfl := hy.int
    exact ⟨_, i, rfl, sl_sem e hx hg q⟩
  · cases hg
theorem cd_slH {K : PySem.W.Frag} : CaD K (rH K) gSlH := by
  intro F H vs ds w Q e vw hg q
  unfold gSlH at hg
  split at hg
  · rename_i d i
    obtain ⟨x, y, rfl, hx, hy⟩ := vw.two
    obtain rfl := hy.int
    exact ⟨_, i, rfl, sl_sem e hx hg q⟩
  · cases hg
theorem e_slL (ha : EvS X Wx a fa) (hl : EvS X Wx lo fl) : EvS X Wx (.Subscript a (.Slice (some lo) none none p2) pos) (opN gSlL [fa, fl]) :=
  PE.imp (pe_slice sl_all ha (po_some hl) po_none) fun σ H Q h => tOf_mono (aOf_2 (aOf_op cd_slL h)) fun _ _ q => tOf_mono q fun _ _ z => by
    obtain ⟨x, i, e, z⟩ := z
    cases e
    exact ⟨i, rfl, z⟩
theorem e_slH (ha : EvS X Wx a fa) (hl : EvS X Wx hi fh) : EvS X Wx (.Subscript a (.Slice none (some hi) none p2) pos) (opN gSlH [fa, fh]) :=
  PE.imp (pe_slice sl_all ha po_none (po_some hl)) fun σ H Q h => tOf_mono (aOf_2 (aOf_op cd_slH h)) fun _ _ q => tOf_mono q fun _ _ z => by
    obtain ⟨x, i, e, z⟩ := z
    cases e
    exact ⟨i, rfl, z⟩
def intOnly (f : M U) : M U := fun env => (f env).bind fun u e => match u with
  | .w (.v (.int _)) => .ok u e
  | _ => .stuck
theorem tOf_int {K : PySem.W.Frag} {mg : Str → Option Value} {f : M U} {σ : L2.St} {H : Hp} {Q : VK} (h : tOf K mg Wx (intOnly f) σ H Q) : tOf K mg Wx f σ H fun v H1 => ∃ i, v = .int i ∧ Q (.int i) H1 := by
  obtain ⟨F, env, own, S, h⟩ := h
  unfold intOnly at h
  refine tOf_use S (fun u env1 e1 v F1 H1 own1 p O1 => ?_) (fun c env1 e1 C F1 H1 own1 => ?_) (fun e1 => ?_)
  · rw [e1, R.bind_ok] at h
    split at h
    · rename_i r u' e' heq
      split at heq
      · rename_i i
        cases heq
        obtain ⟨_, hr⟩ := O1.r
        cases hr
        exact ⟨i, rfl, h _ _ _ _ _ O1⟩
      · cases heq
    · rename_i heq
      split at heq <;> cases heq
    · exact h.elim
  · rw [e1] at h
    exact h C F1 H1 own1
  · rw [e1] at h
    exact h
theorem e_slB (ha : EvS X Wx a fa) (hl : EvS X Wx lo fl) (hh : EvS X Wx hi fh) : EvS X Wx (.Subscript a (.Slice (some lo) (some hi) none p2) pos) (opN gSlB [fa, intOnly fl, fh]) :=
  PE.imp (pe_slice sl_all ha (po_some hl) (po_some hh)) fun σ H Q h => tOf_mono (aOf_cons (aOf_op cd_slB h)) fun _ _ q => tOf_mono (tOf_int (aOf_cons q)) fun v _ q => by
    obtain ⟨i, rfl, q⟩ := q
    refine ⟨i, rfl, tOf_mono (aOf_1 q) fun _ _ z => ?_⟩
    obtain ⟨x, i', j, e, z⟩ := z
    cases e
    exact ⟨j, rfl, z⟩
end

/-! ### names, constants -/
def eVar (i : Nat) : M U := fun env => match env[i]? with
  | some (some (.v d)) => .ok (.w (.v d)) env
  | some (some (.l _ _)) => .ok (.b i) env
  | some (some (.m _ _)) => .ok (.b i) env
  | some (some (.x _)) => .ok (.b i) env
  | _ => .stuck
def eD (d : D) : M U := fun env => .ok (.w (.v d)) env
section
variable {X : Cx} {Wx : WX} {pos : Pos}
theorem tOf_here {K : PySem.W.Frag} {mg : Str → Option Value} {F : Hp} {env : DEnv} {own : Nat → Fp} {σ : L2.St} {H : Hp} {w : W} {v : V} {Q : VK} {P : V → Hp → Prop} (S : Sit K F σ H env own) (r : RepW K F H v w (fun _ => False)) (h : ∀ v F' H' own' p, Out K F H own σ (.w w) v env F' H' own' p → Q v H') : Q v H :=
  h v F H own _ ⟨S, r, fun _ z => z.elim, Step.refl.sub fun _ z => z.elim id False.elim⟩
theorem e_var (i : Nat) {x : Str} (hN : X.N[i]? = some x := by rfl) (hv : Vis X.env.scope x := by first | exact Or.inl rfl | exact Or.inr (Or.inl rfl) | exact Or.inr (Or.inr rfl)) (hd : (x == ("__debug__" : Str)) = false := by decide)
    (hcd : (x == ("__classdict__" : Str)) = false := by decide) : EvS X Wx (.Name x pos) (eVar i) := PE.imp (pe_var hN hv hd hcd) fun σ H Q h => by
  obtain ⟨F, env, own, S, h⟩ := h
  unfold eVar at h
  split at h
  · rename_i u env' heq
    split at heq
    · rename_i d hw
      cases heq
      obtain ⟨v, hs, r⟩ := S.rep i _ hw
      exact ⟨v, hs, h v F H own (fun _ => False) ⟨S, ⟨fun _ z => z, r.2⟩, fun _ z => z.elim, Step.refl.sub fun _ z => z.elim id False.elim⟩⟩
    · rename_i b ds hw
      cases heq
      obtain ⟨v, hs, r⟩ := S.rep i _ hw
      exact ⟨v, hs, h v F H own (fun _ => False) ⟨S, ⟨fun _ z => z, hs⟩, fun _ z => z.elim, Step.refl.sub fun _ z => z.elim id False.elim⟩⟩
    · rename_i b ds hw
      cases heq
      obtain ⟨v, hs, r⟩ := S.rep i _ hw
      exact ⟨v, hs, h v F H own (fun _ => False) ⟨S, ⟨fun _ z => z, hs⟩, fun _ z => z.elim, Step.refl.sub fun _ z => z.elim id False.elim⟩⟩
    · rename_i b hw
      cases heq
      obtain ⟨v, hs, r⟩ := S.rep i _ hw
      exact ⟨v, hs, h v F H own (fun _ => False) ⟨S, ⟨fun _ z => z, hs⟩, fun _ z => z.elim, Step.refl.sub fun _ z => z.elim id False.elim⟩⟩
    · cases heq
  · rename_i heq
    split at heq <;> cases heq
  · exact h.elim
theorem e_const {e : Expr} {v : V} {d : D} (he : PE X e (tC v)) (r : ∀ F, RepD X.K F v d) : EvS X Wx e (eD d) := PE.imp he fun σ H Q h => by
  obtain ⟨F, env, own, S, h⟩ := h
  exact h v F H own (fun _ => False) ⟨S, ⟨fun _ z => z, r F⟩, fun _ z => z.elim, Step.refl.sub fun _ z => z.elim id False.elim⟩
theorem e_int {i : Int} {j : Nat} : EvS X Wx (.Constant (.int i) j pos) (eD (.int i)) := e_const pe_int fun _ => .int i
theorem e_bl {i : Bool} {j : Nat} : EvS X Wx (.Constant (.bool i) j pos) (eD (.bl i)) := e_const pe_bl fun _ => .bl i
theorem e_non {j : Nat} : EvS X Wx (.Constant .none j pos) (eD .non) := e_const pe_non fun _ => .non
theorem e_str {x : Str} {j : Nat} : EvS X Wx (.Constant (.str x) j pos) (eD (.str x)) := e_const pe_str fun _ => .str x
theorem e_glob {x : Str} {v : V} {d : D} {u : Value} (hg : Gl X x) (hm : X.mg x = some u) (r : RelV v u) (rd : ∀ F, RepD X.K F v d) (hd : (x == ("__debug__" : Str)) = false := by decide) : EvS X Wx (.Name x pos) (eD d) := e_const (pe_glob hg hm r hd) rd
theorem e_bltn {x : Str} {v : V} {d : D} {u : Value} (hg : Gl X x) (hm : X.mg x = none) (hv : bootBuiltins x = some u) (r : RelV v u) (rd : ∀ F, RepD X.K F v d) (hn : x ≠ "__name__" := by decide) (hd : (x == ("__debug__" : Str)) = false := by decide) : EvS X Wx (.Name x pos) (eD d) := e_const (pe_bltn hg hm hv r hn hd) rd
end
end DL

namespace DL
open PySem PySem.Spec PyProof.Rows L2

/-! ### for good -/
def frz1 (env : DEnv) : U → Option (D × DEnv)
  | .w w => if w.opq then none else some (datW w, env)
  | .b i => match env[i]? with
    | some (some (.v d)) => some (d, env)
    | some (some (.l false ds)) => some (.lst ds, env.set i (some (.v (.lst ds))))
    | some (some (.m ks ds)) => some (.dic ks ds, env.set i (some (.v (.dic ks ds))))
    | some (some (.x (.d k ks ds))) => some (.dix k ks ds, env.set i (some (.v (.dix k ks ds))))
    | _ => none
def frzs (env : DEnv) : List U → Option (List D × DEnv)
  | [] => some ([], env)
  | u :: us => match frz1 env u with
    | some (d, e1) => match frzs e1 us with
      | some (ds, e2) => some (d :: ds, e2)
      | none => none
    | none => none
section
variable {K : PySem.W.Frag} {F H F1 H1 : Hp} {σ : L2.St} {env env' : DEnv} {own own1 : Nat → Fp} {p : Fp}
theorem Sit.noF (S : Sit K F σ H env own) {a : Addr} {i : Nat} (h : own i a) : F a = none := (S.there ⟨i, h⟩).2
/-- a list of nobody's name is let stand for good -/
theorem Sit.frzT (S : Sit K F σ H env own) {a : Addr} {ho : HO} (hH : H a = some ho) (hF : F a = none) (d : ¬ all own a) : Sit K (upd F a ho) σ H env own where
  ex := fun x o h => by
    by_cases z : x = a
    · subst z; rw [upd_same] at h; rw [hH]; exact h
    · rw [upd_ne z] at h; exact S.ex x o h
  len := S.len
  rep := fun i w h => by
    obtain ⟨v, e, r⟩ := S.rep i w h
    refine ⟨v, e, r.frame (same_upd hF) (fun _ _ _ q => q) fun x q => ?_⟩
    have ne : x ≠ a := fun z => d ⟨i, z ▸ q⟩
    rw [upd_ne ne]
    exact S.noF q
  emp := S.emp
  dis := S.dis
/-- what the i-th name alone holds is let stand for good -/
theorem Sit.frzN {i : Nat} {a : Addr} {ho : HO} {w : W} {d : D} {p : Fp} (S : Sit K F σ H env own) (hw : env[i]? = some (some w)) (hσ : σ[i]? = some (some (.ref a))) (hp : ∀ x, own i x ↔ x = a) (hH : H a = some ho) (hF : F a = none) (rd : RepD K (upd F a ho) (.ref a) d) :
    ∃ own', Sit K (upd F a ho) σ H (env.set i (some (.v d))) own' ∧ Step F H (fun a => all own a ∨ p a) (upd F a ho) H (all own') := by
  have pa := (hp a).mpr rfl
  have hi : i < env.length := (List.getElem?_eq_some_iff.mp hw).1
  refine ⟨fun j x => j ≠ i ∧ own j x, ⟨fun x o h => ?_, by rw [List.length_set]; exact S.len, fun j w h => ?_, fun j x h => ?_, fun j k x h1 h2 => S.dis j k x h1.2 h2.2⟩, same_upd hF, fun _ _ h _ => h, fun x z => ?_, fun x o h n => ?_⟩
  · by_cases z : x = a
    · subst z; rw [upd_same] at h; rw [hH]; exact h
    · rw [upd_ne z] at h; exact S.ex x o h
  · by_cases z : j = i
    · subst z
      rw [List.getElem?_set_self hi] at h
      cases h
      exact ⟨.ref a, hσ, fun x y => y.1 rfl, rd⟩
    · rw [List.getElem?_set_ne (Ne.symm z)] at h
      obtain ⟨v, e, r2⟩ := S.rep j w h
      refine ⟨v, e, ?_⟩
      have e3 : (fun x => j ≠ i ∧ own j x) = own j := funext fun x => propext ⟨fun y => y.2, fun y => ⟨z, y⟩⟩
      show RepW K _ H v w (fun x => j ≠ i ∧ own j x)
      rw [e3]
      refine r2.frame (same_upd hF) (fun _ _ _ q => q) fun x q => ?_
      have ne : x ≠ a := fun y => z (S.dis j i x q ((hp x).mpr y))
      rw [upd_ne ne]
      exact S.noF q
  · obtain ⟨w, e⟩ := S.emp j x h.2
    exact ⟨w, by rw [List.getElem?_set_ne (Ne.symm h.1)]; exact e⟩
  · obtain ⟨j, _, y⟩ := z
    exact .inl (.inl ⟨j, y⟩)
  · by_cases z : x = a
    · subst z; exact .inl (.inl ⟨i, pa⟩)
    · rw [upd_ne z, n] at h; cases h
theorem frz1_ok {v : V} {u : U} {d : D} (S : Sit K F σ H env own) (r : RepU K F H σ v u p) (dj : ∀ a, p a → ¬ all own a) (h : frz1 env u = some (d, env')) :
    ∃ F' own', Sit K F' σ H env' own' ∧ RepD K F' v d ∧ Step F H (fun a => all own a ∨ p a) F' H (all own') := by
  have refl : Step F H (fun a => all own a ∨ p a) F H (all own) := Step.refl.sub fun _ z => .inl z
  cases u with
  | w w =>
    have h : (if w.opq then none else some (datW w, env)) = some (d, env') := h
    cases ho : w.opq with
    | true => rw [ho, if_pos rfl] at h; cases h
    | false =>
    rw [ho, if_neg Bool.false_ne_true] at h
    cases h
    cases w with
    | x y =>
      cases y with
      | o b c ns ws => cases ho
      | t ws => cases ho
      | d k ks ds =>
        obtain ⟨a, o, us, vs, rfl, hp, hH, hF, hk, r1, r2⟩ := r
        have pa := (hp a).mpr rfl
        refine ⟨upd F a o, own, S.frzT hH hF (dj a pa), .dix upd_same hk (r1.mono (same_upd hF)) (r2.mono (same_upd hF)), same_upd hF, fun _ _ h _ => h, fun _ z => .inl (.inl z), fun x o h n => ?_⟩
        by_cases z : x = a
        · subst z; exact .inl (.inr pa)
        · rw [upd_ne z, n] at h; cases h
    | v d => exact ⟨F, own, S, r.2, refl⟩
    | l b ds =>
      obtain ⟨a, vs, rfl, hp, hH, hF, rr⟩ := r
      have pa := (hp a).mpr rfl
      refine ⟨upd F a (.lst vs), own, S.frzT hH hF (dj a pa), .lst (.inl upd_same) (rr.mono (same_upd hF)), same_upd hF, fun _ _ h _ => h, fun _ z => .inl (.inl z), fun x o h n => ?_⟩
      by_cases z : x = a
      · subst z; exact .inl (.inr pa)
      · rw [upd_ne z, n] at h; cases h
    | m ks ds =>
      obtain ⟨a, vs, rfl, hp, hH, hF, hk, rr⟩ := r
      have pa := (hp a).mpr rfl
      refine ⟨upd F a (.dT vs), own, S.frzT hH hF (dj a pa), .dic upd_same hk (rr.mono (same_upd hF)), same_upd hF, fun _ _ h _ => h, fun _ z => .inl (.inl z), fun x o h n => ?_⟩
      by_cases z : x = a
      · subst z; exact .inl (.inr pa)
      · rw [upd_ne z, n] at h; cases h
  | b i =>
    have h : (match env[i]? with | some (some (.v d)) => some (d, env) | some (some (.l false ds)) => some (.lst ds, env.set i (some (.v (.lst ds)))) | some (some (.m ks ds)) => some (.dic ks ds, env.set i (some (.v (.dic ks ds)))) | some (some (.x (.d k ks ds))) => some (.dix k ks ds, env.set i (some (.v (.dix k ks ds)))) | _ => none) = some (d, env') := h
    split at h
    · rename_i d' hw
      cases h
      obtain ⟨v', e1, r'⟩ := S.rep i _ hw
      have e2 : v' = v := by
        rw [r.2] at e1
        injection e1 with e1
        injection e1 with e1
        exact e1.symm
      subst e2
      exact ⟨F, own, S, r'.2, refl⟩
    · rename_i ds hw
      cases h
      obtain ⟨v', e1, r'⟩ := S.rep i _ hw
      have e2 : v' = v := by
        rw [r.2] at e1
        injection e1 with e1
        injection e1 with e1
        exact e1.symm
      subst e2
      obtain ⟨a, vs, rfl, hp, hH, hF, rr⟩ := r'
      have pa := (hp a).mpr rfl
      have hi : i < env.length := (List.getElem?_eq_some_iff.mp hw).1
      refine ⟨upd F a (.lst vs), fun j x => j ≠ i ∧ own j x, ⟨fun x o h => ?_, by rw [List.length_set]; exact S.len, fun j w h => ?_, fun j x h => ?_, fun j k x h1 h2 => S.dis j k x h1.2 h2.2⟩, .lst (.inl upd_same) (rr.mono (same_upd hF)), same_upd hF, fun _ _ h _ => h, fun x z => ?_, fun x o h n => ?_⟩
      · by_cases z : x = a
        · subst z; rw [upd_same] at h; rw [hH]; exact h
        · rw [upd_ne z] at h; exact S.ex x o h
      · by_cases z : j = i
        · subst z
          rw [List.getElem?_set_self hi] at h
          cases h
          exact ⟨.ref a, r.2, fun x y => y.1 rfl, .lst (.inl upd_same) (rr.mono (same_upd hF))⟩
        · rw [List.getElem?_set_ne (Ne.symm z)] at h
          obtain ⟨v, e, r2⟩ := S.rep j w h
          refine ⟨v, e, ?_⟩
          have e3 : (fun x => j ≠ i ∧ own j x) = own j := funext fun x => propext ⟨fun y => y.2, fun y => ⟨z, y⟩⟩
          show RepW K _ H v w (fun x => j ≠ i ∧ own j x)
          rw [e3]
          refine r2.frame (same_upd hF) (fun _ _ _ q => q) fun x q => ?_
          have ne : x ≠ a := fun y => z (S.dis j i x q ((hp x).mpr y))
          rw [upd_ne ne]
          exact S.noF q
      · obtain ⟨w, e⟩ := S.emp j x h.2
        exact ⟨w, by rw [List.getElem?_set_ne (Ne.symm h.1)]; exact e⟩
      · obtain ⟨j, _, y⟩ := z
        exact .inl (.inl ⟨j, y⟩)
      · by_cases z : x = a
        · subst z; exact .inl (.inl ⟨i, pa⟩)
        · rw [upd_ne z, n] at h; cases h
    · rename_i ks ds hw
      cases h
      obtain ⟨v', e1, r'⟩ := S.rep i _ hw
      have e2 : v' = v := by
        rw [r.2] at e1
        injection e1 with e1
        injection e1 with e1
        exact e1.symm
      subst e2
      obtain ⟨a, vs, rfl, hp, hH, hF, hk, rr⟩ := r'
      have pa := (hp a).mpr rfl
      have hi : i < env.length := (List.getElem?_eq_some_iff.mp hw).1
      refine ⟨upd F a (.dT vs), fun j x => j ≠ i ∧ own j x, ⟨fun x o h => ?_, by rw [List.length_set]; exact S.len, fun j w h => ?_, fun j x h => ?_, fun j k x h1 h2 => S.dis j k x h1.2 h2.2⟩, .dic upd_same hk (rr.mono (same_upd hF)), same_upd hF, fun _ _ h _ => h, fun x z => ?_, fun x o h n => ?_⟩
      · by_cases z : x = a
        · subst z; rw [upd_same] at h; rw [hH]; exact h
        · rw [upd_ne z] at h; exact S.ex x o h
      · by_cases z : j = i
        · subst z
          rw [List.getElem?_set_self hi] at h
          cases h
          exact ⟨.ref a, r.2, fun x y => y.1 rfl, .dic upd_same hk (rr.mono (same_upd hF))⟩
        · rw [List.getElem?_set_ne (Ne.symm z)] at h
          obtain ⟨v, e, r2⟩ := S.rep j w h
          refine ⟨v, e, ?_⟩
          have e3 : (fun x => j ≠ i ∧ own j x) = own j := funext fun x => propext ⟨fun y => y.2, fun y => ⟨z, y⟩⟩
          show RepW K _ H v w (fun x => j ≠ i ∧ own j x)
          rw [e3]
          refine r2.frame (same_upd hF) (fun _ _ _ q => q) fun x q => ?_
          have ne : x ≠ a := fun y => z (S.dis j i x q ((hp x).mpr y))
          rw [upd_ne ne]
          exact S.noF q
      · obtain ⟨w, e⟩ := S.emp j x h.2
        exact ⟨w, by rw [List.getElem?_set_ne (Ne.symm h.1)]; exact e⟩
      · obtain ⟨j, _, y⟩ := z
        exact .inl (.inl ⟨j, y⟩)
      · by_cases z : x = a
        · subst z; exact .inl (.inl ⟨i, pa⟩)
        · rw [upd_ne z, n] at h; cases h
    · rename_i k ks ds hw
      cases h
      obtain ⟨v', e1, r'⟩ := S.rep i _ hw
      have e2 : v' = v := by
        rw [r.2] at e1
        injection e1 with e1
        injection e1 with e1
        exact e1.symm
      subst e2
      obtain ⟨a, o, us, vs, rfl, hp, hH, hF, hk, r1, r2⟩ := r'
      have rd : RepD K (upd F a o) (.ref a) (.dix k ks ds) := .dix upd_same hk (r1.mono (same_upd hF)) (r2.mono (same_upd hF))
      obtain ⟨own', S', st⟩ := S.frzN (p := p) hw e1 hp hH hF rd
      exact ⟨_, own', S', rd, st⟩
    · cases h
theorem frzs_ok : ∀ {us : List U} {vs : List V} {ds : List D} {F : Hp} {env env' : DEnv} {own : Nat → Fp} {p : Fp}, Sit K F σ H env own → RepUs K F H σ vs us p → (∀ a, p a → ¬ all own a) → frzs env us = some (ds, env') →
    ∃ F' own', Sit K F' σ H env' own' ∧ RepDs K F' vs ds ∧ Step F H (fun a => all own a ∨ p a) F' H (all own')
  | [], [], ds, F, env, env', own, p, S, r, dj, h => by
    cases h
    exact ⟨F, own, S, .nil, Step.refl.sub fun _ z => .inl z⟩
  | u :: us, v :: vs, ds, F, env, env', own, p, S, r, dj, h => by
    obtain ⟨p1, p2, hp, hd, r1, r2⟩ := r
    have h : (match frz1 env u with | some (d, e1) => (match frzs e1 us with | some (ds, e2) => some (d :: ds, e2) | none => none) | none => none) = some (ds, env') := h
    split at h
    · rename_i d e1 h1
      split at h
      · rename_i ds2 e2 h2
        cases h
        obtain ⟨F1, own1, S1, rd1, s1⟩ := frz1_ok S r1 (fun a q => dj a ((hp a).mpr (.inl q))) h1
        obtain ⟨r2', dj2⟩ := RepUs.stepU r2 (fun a q z => by
          rcases z with z | z
          · exact dj a ((hp a).mpr (.inr q)) z
          · exact hd a z q) s1
        obtain ⟨F2, own2, S2, rd2, s2⟩ := frzs_ok S1 r2' dj2 h2
        refine ⟨F2, own2, S2, .cons (rd1.mono s2.ex) rd2, ((s1.more p2).trans s2).sup fun a z => ?_⟩
        rcases z with (z | z) | z
        · exact .inl z
        · exact .inr ((hp a).mpr (.inl z))
        · exact .inr ((hp a).mpr (.inr z))
      · cases h
    · cases h
  | [], _ :: _, _, _, _, _, _, _, _, r, _, _ => r.elim
  | _ :: _, [], _, _, _, _, _, _, _, r, _, _ => r.elim
theorem OutL.frz {F2 : Hp} {us : List U} {vs : List V} {ds : List D} (O : OutL K F H own σ us vs env F1 H1 own1 p) (h : frzs env us = some (ds, env')) : ∃ F2 own2, RepDs K F2 vs ds ∧ OutR K F H own σ env' F2 H1 own2 := by
  obtain ⟨F2, own2, S2, r2, s2⟩ := frzs_ok O.S O.r O.d h
  exact ⟨F2, own2, r2, S2, O.s.trans s2⟩
theorem Out.frz {u : U} {v : V} {d : D} (O : Out K F H own σ u v env F1 H1 own1 p) (h : frz1 env u = some (d, env')) : ∃ F2 own2, RepD K F2 v d ∧ OutR K F H own σ env' F2 H1 own2 := by
  obtain ⟨F2, own2, S2, r2, s2⟩ := frz1_ok O.S O.r O.d h
  exact ⟨F2, own2, r2, S2, O.s.trans s2⟩
end

/-! ### displays -/
def dTup (fs : List (M U)) : M U := fun env => (evs fs env).bind fun us e1 => match frzs e1 us with
  | some (ds, e2) => if ds.length ≤ 1000000 then .ok (.w (.v (.tup ds))) e2 else .stuck
  | none => .stuck
def dLst (fs : List (M U)) : M U := fun env => (evs fs env).bind fun us e1 => match frzs e1 us with
  | some (ds, e2) => if ds.length ≤ 1000000 then .ok (.w (.l false ds)) e2 else .stuck
  | none => .stuck
section
variable {X : Cx} {Wx : WX} {es : List Expr} {fs : List (M U)} {pos : Pos}
theorem e_tup {k : Nat} (ha : EaS X Wx es fs) : EvS X Wx (.Tuple es k pos) (dTup fs) := PE.imp (pe_tup ha) fun σ H Q h => by
  obtain ⟨F, env, own, S, h⟩ := h
  refine ⟨F, env, own, S, ?_⟩
  unfold dTup at h
  cases e : evs fs env with
  | stuck => rw [e] at h; exact h
  | raise c env1 => rw [e] at h; exact h
  | ok us env1 =>
    rw [e, R.bind_ok] at h
    intro vs F1 H1 own1 p O
    cases e1 : frzs env1 us with
    | none => rw [e1] at h; exact h.elim
    | some pr =>
      obtain ⟨ds, e2⟩ := pr
      rw [e1] at h
      dsimp only at h
      obtain ⟨F2, own2, r2, O2⟩ := O.frz (F2 := F) e1
      by_cases hl : ds.length ≤ 1000000
      · rw [if_pos hl] at h
        refine ⟨by rw [r2.length]; exact sz hl, fun q hq => ?_⟩
        have g : Grow F2 H1 (upd F2 q (.tup vs)) (upd H1 q (.tup vs)) _ := Grow.data O2.S.ex hq
        exact h _ _ _ _ _ (g.out O2 (RepW.ofRep (.tup (upd_same) (r2.mono (same_upd (sub_none O2.S.ex hq))))))
      · rw [if_neg hl] at h; exact h.elim
theorem e_lst (ha : EaS X Wx es fs) : EvS X Wx (.List es pos) (dLst fs) := PE.imp (pe_lst ha) fun σ H Q h => by
  obtain ⟨F, env, own, S, h⟩ := h
  refine ⟨F, env, own, S, ?_⟩
  unfold dLst at h
  cases e : evs fs env with
  | stuck => rw [e] at h; exact h
  | raise c env1 => rw [e] at h; exact h
  | ok us env1 =>
    rw [e, R.bind_ok] at h
    intro vs F1 H1 own1 p O
    cases e1 : frzs env1 us with
    | none => rw [e1] at h; exact h.elim
    | some pr =>
      obtain ⟨ds, e2⟩ := pr
      rw [e1] at h
      dsimp only at h
      obtain ⟨F2, own2, r2, O2⟩ := O.frz (F2 := F) e1
      by_cases hl : ds.length ≤ 1000000
      · rw [if_pos hl] at h
        refine ⟨by rw [r2.length]; exact sz hl, fun q hq => ?_⟩
        have g : Grow F2 H1 F2 (upd H1 q (.lst vs)) _ := Grow.ofOwn O2.S.ex hq
        exact h _ _ _ _ _ (g.out O2 ⟨q, vs, rfl, fun _ => Iff.rfl, upd_same, sub_none O2.S.ex hq, r2⟩)
      · rw [if_neg hl] at h; exact h.elim
end

/-! ### tests -/
def tst (f : M U) : M Bool := fun env => (f env).bind fun u e1 => match dat e1 u with
  | some (.bl b) => .ok b e1
  | _ => .stuck
section
variable {K : PySem.W.Frag} {mg : Str → Option Value} {Wx : WX} {f : M U} {σ : L2.St} {H : Hp}
theorem tOf_tst {Q : Bool → Hp → Prop} (h : ttOf K mg Wx (tst f) σ H Q) : tOf K mg Wx f σ H fun x H1 => ∃ c, x = .bl c ∧ Q c H1 := by
  obtain ⟨F, env, own, S, h⟩ := h
  unfold tst at h
  refine tOf_use S (fun u env1 e1 v F1 H1 own1 p O1 => ?_) (fun c env1 e1 C F1 H1 own1 => ?_) (fun e1 => ?_)
  · rw [e1, R.bind_ok] at h
    cases e2 : dat env1 u with
    | none => rw [e2] at h; exact h.elim
    | some d =>
      rw [e2] at h
      have vw := RepU.view O1.S O1.r e2
      cases d with
      | bl b => exact ⟨b, vw.bl, h _ _ _ O1.drop⟩
      | _ => exact h.elim
  · rw [e1] at h
    exact h C F1 H1 own1
  · rw [e1] at h
    exact h
end
section
variable {X : Cx} {Wx : WX} {a b e : Expr} {fa fb : M U} {ta tb : M Bool} {pos : Pos} {g : List D → Option W} {rest : List Expr}
theorem t_val (h : EvS X Wx e fa) (he : ∀ whole, isTrue e X.env whole = (do let v ← whole; standAt e.pos; holding [v] (truthy v)) := by intro _; rfl) : TtS X Wx e (tst fa) := PT.imp (pt_val h he) fun σ H Q q => tOf_tst q
theorem t_cmp {op : CmpOp} {r : R2} (ho : OpR X (compareOp op) r) (cd : CaD X.K (r2 r) g) (ha : EvS X Wx a fa) (hb : EvS X Wx b fb) (hm : behindInMarks op b = false) : TtS X Wx (.Compare a [op] [b] pos) (tst (opN g [fa, fb])) :=
  PT.imp (pt_cmpR ho ha hb hm) fun σ H Q h => tOf_mono (aOf_2 (aOf_op cd (tOf_tst h))) fun _ _ q => tOf_mono q fun _ _ z => r2_two z
theorem ttOf_bind {K : PySem.W.Frag} {mg : Str → Option Value} {β : Type} {f : M Bool} {σ : L2.St} {H F : Hp} {env : DEnv} {own : Nat → Fp} {Q : Bool → Hp → Prop} (S : Sit K F σ H env own)
    (hok : ∀ b env1, f env = .ok b env1 → ∀ F1 H1 own1, OutR K F H own σ env1 F1 H1 own1 → Q b H1)
    (hr : ∀ c env1, f env = .raise c env1 → ∀ C F1 H1 own1, mg c = some (.ref C) → OutR K F H own σ env1 F1 H1 own1 → Wx (.ref C) none σ H1)
    (hs : f env ≠ .stuck) : ttOf K mg Wx f σ H Q := ttOf_use S hok hr hs
def tAndD (t u : M Bool) : M Bool := fun env => (t env).bind fun b e1 => if b then u e1 else .ok false e1
def tOrD (t u : M Bool) : M Bool := fun env => (t env).bind fun b e1 => if b then .ok true e1 else u e1
def tNotD (t : M Bool) : M Bool := fun env => (t env).bind fun b e1 => .ok (!b) e1
abbrev TwS (X : Cx) (Wx : WX) (e : Expr) (f : M Bool) : Prop := PW X e (ttOf X.K X.mg Wx f)
theorem w_and1 (ha : TtS X Wx a ta) : TwS X Wx (.BoolOp .And [a] pos) ta := pw_and1 ha
theorem w_or1 (ha : TtS X Wx a ta) : TwS X Wx (.BoolOp .Or [a] pos) ta := pw_or1 ha
theorem w_and (ha : TtS X Wx a ta) (hb : TwS X Wx (.BoolOp .And (b :: rest) pos) tb) : TwS X Wx (.BoolOp .And (a :: b :: rest) pos) (tAndD ta tb) := PW.imp (pw_and ha hb) fun σ H Q h => by
  obtain ⟨F, env, own, S, h⟩ := h
  unfold tAndD at h
  refine ttOf_use S (fun c env1 e1 F1 H1 own1 O1 => ?_) (fun c env1 e1 C F1 H1 own1 => ?_) (fun e1 => ?_)
  · rw [e1, R.bind_ok] at h
    cases c with
    | true =>
      rw [if_pos rfl] at h
      show ttOf _ _ _ _ _ _ _
      refine ⟨F1, env1, own1, O1.S, ?_⟩
      cases e2 : tb env1 with
      | ok u env2 => rw [e2] at h; exact fun F2 H2 own2 O2 => h _ _ _ (O1.trans O2)
      | raise c env2 => rw [e2] at h; exact fun C F2 H2 own2 hm O2 => h C F2 H2 own2 hm (O1.trans O2)
      | stuck => rw [e2] at h; exact h
    | false =>
      rw [if_neg Bool.false_ne_true] at h
      exact h F1 H1 own1 O1
  · rw [e1] at h
    exact h C F1 H1 own1
  · rw [e1] at h
    exact h
theorem w_or (ha : TtS X Wx a ta) (hb : TwS X Wx (.BoolOp .Or (b :: rest) pos) tb) : TwS X Wx (.BoolOp .Or (a :: b :: rest) pos) (tOrD ta tb) := PW.imp (pw_or ha hb) fun σ H Q h => by
  obtain ⟨F, env, own, S, h⟩ := h
  unfold tOrD at h
  refine ttOf_use S (fun c env1 e1 F1 H1 own1 O1 => ?_) (fun c env1 e1 C F1 H1 own1 => ?_) (fun e1 => ?_)
  · rw [e1, R.bind_ok] at h
    cases c with
    | false =>
      rw [if_neg Bool.false_ne_true] at h
      show ttOf _ _ _ _ _ _ _
      refine ⟨F1, env1, own1, O1.S, ?_⟩
      cases e2 : tb env1 with
      | ok u env2 => rw [e2] at h; exact fun F2 H2 own2 O2 => h _ _ _ (O1.trans O2)
      | raise c env2 => rw [e2] at h; exact fun C F2 H2 own2 hm O2 => h C F2 H2 own2 hm (O1.trans O2)
      | stuck => rw [e2] at h; exact h
    | true =>
      rw [if_pos rfl] at h
      exact h F1 H1 own1 O1
  · rw [e1] at h
    exact h C F1 H1 own1
  · rw [e1] at h
    exact h
theorem t_w (h : TwS X Wx a ta) : TtS X Wx a ta := PW.pt h
theorem t_not (ha : TtS X Wx a ta) : TtS X Wx (.UnaryOp .Not a pos) (tNotD ta) := PT.imp (pt_not ha) fun σ H Q h => by
  obtain ⟨F, env, own, S, h⟩ := h
  unfold tNotD at h
  refine ttOf_use S (fun c env1 e1 F1 H1 own1 O1 => ?_) (fun c env1 e1 C F1 H1 own1 => ?_) (fun e1 => ?_)
  · rw [e1, R.bind_ok] at h
    exact h F1 H1 own1 O1
  · rw [e1] at h
    exact h C F1 H1 own1
  · rw [e1] at h
    exact h
/-! as values -/
def vAnd (fa fb : M U) : M U := fun env => (fa env).bind fun u e1 => match dat e1 u with
  | some (.bl b) => if b then fb e1 else .ok (.w (.v (.bl false))) e1
  | _ => .stuck
def vOr (fa fb : M U) : M U := fun env => (fa env).bind fun u e1 => match dat e1 u with
  | some (.bl b) => if b then .ok (.w (.v (.bl true))) e1 else fb e1
  | _ => .stuck
def gNot : List D → Option W
  | [.bl b] => some (.v (.bl (!b)))
  | _ => none
theorem tOf_after {K : PySem.W.Frag} {mg : Str → Option Value} {fb : M U} {σ : L2.St} {F H F1 H1 : Hp} {env1 : DEnv} {own own1 : Nat → Fp} {Q : VK} (O1 : OutR K F H own σ env1 F1 H1 own1)
    (h : match fb env1 with
      | .ok u env' => ∀ v F' H' own' p, Out K F H own σ u v env' F' H' own' p → Q v H'
      | .raise c env' => ∀ C F' H' own', mg c = some (.ref C) → OutR K F H own σ env' F' H' own' → Wx (.ref C) none σ H'
      | .stuck => False) : tOf K mg Wx fb σ H1 Q := by
  refine ⟨F1, env1, own1, O1.S, ?_⟩
  cases e2 : fb env1 with
  | ok u env2 => rw [e2] at h; exact fun v F2 H2 own2 p O2 => h _ _ _ _ _ (O1.out O2)
  | raise c env2 => rw [e2] at h; exact fun C F2 H2 own2 hm O2 => h C F2 H2 own2 hm (O1.trans O2)
  | stuck => rw [e2] at h; exact h
theorem e_one {op : BoolOp} (h : EvS X Wx a fa) : EvS X Wx (.BoolOp op [a] pos) fa := pe_one h
theorem e_and (ha : EvS X Wx a fa) (hb : EvS X Wx (.BoolOp .And (b :: rest) pos) fb) : EvS X Wx (.BoolOp .And (a :: b :: rest) pos) (vAnd fa fb) := PE.imp (pe_and ha hb) fun σ H Q h => by
  obtain ⟨F, env, own, S, h⟩ := h
  unfold vAnd at h
  refine tOf_use S (fun u env1 e1 v F1 H1 own1 p O1 => ?_) (fun c env1 e1 C F1 H1 own1 => ?_) (fun e1 => ?_)
  · rw [e1, R.bind_ok] at h
    cases e2 : dat env1 u with
    | none => rw [e2] at h; exact h.elim
    | some d =>
      rw [e2] at h
      have vw := RepU.view O1.S O1.r e2
      cases d with
      | bl b =>
        refine ⟨b, vw.bl, ?_⟩
        cases b with
        | true => exact tOf_after O1.drop h
        | false => exact h _ _ _ _ _ ((Grow.refl O1.S.ex).out O1.drop (RepW.ofBl false))
      | _ => exact h.elim
  · rw [e1] at h
    exact h C F1 H1 own1
  · rw [e1] at h
    exact h
theorem e_or (ha : EvS X Wx a fa) (hb : EvS X Wx (.BoolOp .Or (b :: rest) pos) fb) : EvS X Wx (.BoolOp .Or (a :: b :: rest) pos) (vOr fa fb) := PE.imp (pe_or ha hb) fun σ H Q h => by
  obtain ⟨F, env, own, S, h⟩ := h
  unfold vOr at h
  refine tOf_use S (fun u env1 e1 v F1 H1 own1 p O1 => ?_) (fun c env1 e1 C F1 H1 own1 => ?_) (fun e1 => ?_)
  · rw [e1, R.bind_ok] at h
    cases e2 : dat env1 u with
    | none => rw [e2] at h; exact h.elim
    | some d =>
      rw [e2] at h
      have vw := RepU.view O1.S O1.r e2
      cases d with
      | bl b =>
        refine ⟨b, vw.bl, ?_⟩
        cases b with
        | false => exact tOf_after O1.drop h
        | true => exact h _ _ _ _ _ ((Grow.refl O1.S.ex).out O1.drop (RepW.ofBl true))
      | _ => exact h.elim
  · rw [e1] at h
    exact h C F1 H1 own1
  · rw [e1] at h
    exact h
theorem e_not (ha : EvS X Wx a fa) : EvS X Wx (.UnaryOp .Not a pos) (opN gNot [fa]) := PE.imp (pe_not ha) fun σ H Q h => by
  have cd : CaD X.K (fun vs H Q => ∃ c, vs = [.bl c] ∧ Q (.bl (!c)) H) gNot := by
    intro F H vs ds w Q e vw hg q
    unfold gNot at hg
    split at hg
    · rename_i b
      obtain ⟨x, rfl, hx⟩ := vw.one
      cases hg
      exact ⟨b, by rw [hx.bl], fin_bl e q⟩
    · cases hg
  exact tOf_mono (aOf_1 (aOf_op cd h)) fun x _ q => by
    obtain ⟨c, e, q⟩ := q
    cases e
    exact ⟨c, rfl, q⟩
def eIf (t : M Bool) (fa fb : M U) : M U := fun env => (t env).bind fun b e1 => if b then fa e1 else fb e1
theorem e_if {c : Expr} (hc : TtS X Wx c ta) (ha : EvS X Wx a fa) (hb : EvS X Wx b fb) : EvS X Wx (.IfExp c a b pos) (eIf ta fa fb) := PE.imp (pe_ifExp hc ha hb) fun σ H Q h => by
  obtain ⟨F, env, own, S, h⟩ := h
  unfold eIf at h
  refine ttOf_use S (fun c env1 e1 F1 H1 own1 O1 => ?_) (fun c env1 e1 C F1 H1 own1 => ?_) (fun e1 => ?_)
  · rw [e1, R.bind_ok] at h
    cases c with
    | true => exact tOf_after O1 h
    | false => exact tOf_after O1 h
  · rw [e1] at h
    exact h C F1 H1 own1
  · rw [e1] at h
    exact h
end
end DL

namespace DL
open PySem PySem.Spec PyProof.Rows L2

/-! ### lists of ints, of truths -/
def intOf : D → Option Int
  | .int i => some i
  | _ => none
def intsOf : List D → Option (List Int)
  | [] => some []
  | .int i :: ds => (intsOf ds).map (i :: ·)
  | _ :: _ => none
def blsOf : List D → Option (List Bool)
  | [] => some []
  | .bl i :: ds => (blsOf ds).map (i :: ·)
  | _ :: _ => none
theorem intsOf_eq : ∀ {ds : List D} {ns : List Int}, intsOf ds = some ns → ds = ns.map D.int
  | [], _, h => by cases h; rfl
  | .int i :: ds, _, h => by
    obtain ⟨ms, h1, rfl⟩ := Option.map_eq_some_iff.mp h
    rw [intsOf_eq h1]; rfl
  | .non :: _, _, h => by cases h
  | .bl _ :: _, _, h => by cases h
  | .str _ :: _, _, h => by cases h
  | .tup _ :: _, _, h => by cases h
  | .lst _ :: _, _, h => by cases h
  | .nam _ _ :: _, _, h => by cases h
  | .ty _ :: _, _, h => by cases h
  | .scr _ :: _, _, h => by cases h
  | .dic _ _ :: _, _, h => by cases h
  | .dix _ _ _ :: _, _, h => by cases h
  | .ins _ _ _ :: _, _, h => by cases h
theorem blsOf_eq : ∀ {ds : List D} {ns : List Bool}, blsOf ds = some ns → ds = ns.map D.bl
  | [], _, h => by cases h; rfl
  | .bl i :: ds, _, h => by
    obtain ⟨ms, h1, rfl⟩ := Option.map_eq_some_iff.mp h
    rw [blsOf_eq h1]; rfl
  | .non :: _, _, h => by cases h
  | .int _ :: _, _, h => by cases h
  | .str _ :: _, _, h => by cases h
  | .tup _ :: _, _, h => by cases h
  | .lst _ :: _, _, h => by cases h
  | .nam _ _ :: _, _, h => by cases h
  | .ty _ :: _, _, h => by cases h
  | .scr _ :: _, _, h => by cases h
  | .dic _ _ :: _, _, h => by cases h
  | .dix _ _ _ :: _, _, h => by cases h
  | .ins _ _ _ :: _, _, h => by cases h
@[simp] theorem intsOf_map (ns : List Int) : intsOf (ns.map D.int) = some ns := by
  induction ns with
  | nil => rfl
  | cons n r ih => rw [List.map_cons]; show (intsOf (r.map D.int)).map _ = _; rw [ih]; rfl
@[simp] theorem blsOf_map (ns : List Bool) : blsOf (ns.map D.bl) = some ns := by
  induction ns with
  | nil => rfl
  | cons n r ih => rw [List.map_cons]; show (blsOf (r.map D.bl)).map _ = _; rw [ih]; rfl
theorem RepDs.bls {K : PySem.W.Frag} {F : Hp} : ∀ {vs : List V} {ns : List Bool}, RepDs K F vs (ns.map D.bl) → vs = ns.map V.bl
  | _, [], .nil => rfl
  | _, n :: r, .cons (.bl _) t => by rw [List.map_cons, ← RepDs.bls t]

/-! ### len, list, tuple -/
def gLen : List D → Option W
  | [.lst ds] => some (.v (.int ds.length))
  | [.tup ds] => some (.v (.int ds.length))
  | [.scr ns] => some (.v (.int ns.length))
  | [.str x] => if x.length ≤ 1000000 then some (.v (.int x.length)) else none
  | _ => none
theorem CallR.or {X : Cx} {f : Value} {r r' : List V → Hp → VK → Prop} (h : CallR X f r) (h' : CallR X f r') : CallR X f (fun vs H Q => r vs H Q ∨ r' vs H Q) := by
  intro pins s σ H xs us Q I rx q
  rcases q with q | q
  · exact h pins s σ H xs us Q I rx q
  · exact h' pins s σ H xs us Q I rx q
section
variable {X : Cx} {K : PySem.W.Frag}
def rLenA (K : PySem.W.Frag) : List V → Hp → VK → Prop := fun vs H Q => (∃ p ys, vs = [.ref p] ∧ (SqL K H p ys ∨ SqT K H p ys) ∧ Q (.int ys.length) H) ∨ (∃ z, vs = [.str z] ∧ z.length ≤ sizeLine ∧ Q (.int z.length) H)
theorem call_lenA : CallR X (.builtin "len") (rLenA X.K) := CallR.or call_len_seq call_len_str
theorem cd_len : CaD K (rLenA K) gLen := by
  intro F H vs ds w Q e vw hg q
  unfold gLen at hg
  split at hg
  · obtain ⟨x, rfl, hx⟩ := vw.one
    cases hg
    obtain ⟨a, us, rfl, h2, r⟩ := hx.lst
    exact .inl ⟨a, us, rfl, .inl (.inl h2), by rw [r.length]; exact fin_int e q⟩
  · obtain ⟨x, rfl, hx⟩ := vw.one
    cases hg
    obtain ⟨a, us, rfl, _, h2, r⟩ := hx.tup e
    exact .inl ⟨a, us, rfl, .inr h2, by rw [r.length]; exact fin_int e q⟩
  · rename_i ns
    obtain ⟨x, rfl, hx⟩ := vw.one
    cases hg
    obtain ⟨a, rfl, h2⟩ := hx.scr e
    exact .inl ⟨a, _, rfl, .inl h2, by rw [List.length_map]; exact fin_int e q⟩
  · rename_i z
    obtain ⟨x, rfl, hx⟩ := vw.one
    split at hg
    · rename_i hl
      cases hg
      exact .inr ⟨z, by rw [hx.str], sz hl, fin_int e q⟩
    · cases hg
  · cases hg
def gList : List D → Option W
  | [.lst ds] => some (.l false ds)
  | [.tup ds] => some (.l false ds)
  | [.scr ns] => some (.l false (ns.map D.int))
  | _ => none
theorem cd_list : CaD K (fun xs H Q => ∃ p ys, xs = [.ref p] ∧ (SqL K H p ys ∨ SqT K H p ys) ∧ ∀ l, H l = none → Q (.ref l) (upd H l (.lst ys))) gList := by
  intro F H vs ds w Q e vw hg q
  unfold gList at hg
  split at hg
  · obtain ⟨x, rfl, hx⟩ := vw.one
    cases hg
    obtain ⟨a, us, rfl, h2, r⟩ := hx.lst
    exact ⟨a, us, rfl, .inl (.inl h2), fin_lst e r q⟩
  · obtain ⟨x, rfl, hx⟩ := vw.one
    cases hg
    obtain ⟨a, us, rfl, _, h2, r⟩ := hx.tup e
    exact ⟨a, us, rfl, .inr h2, fin_lst e r q⟩
  · obtain ⟨x, rfl, hx⟩ := vw.one
    cases hg
    obtain ⟨a, rfl, h2⟩ := hx.scr e
    exact ⟨a, _, rfl, .inl h2, fin_lst e (RepDs.of_ints _) q⟩
  · cases hg
def gTuple : List D → Option W
  | [.lst ds] => some (.v (.tup ds))
  | [.tup ds] => some (.v (.tup ds))
  | _ => none
theorem cd_tuple : CaD K (fun xs H Q => ∃ p ys, xs = [.ref p] ∧ ((SqL K H p ys ∧ ∀ l, H l = none → Q (.ref l) (upd H l (.tup ys))) ∨ (SqT K H p ys ∧ Q (.ref p) H))) gTuple := by
  intro F H vs ds w Q e vw hg q
  unfold gTuple at hg
  split at hg
  · obtain ⟨x, rfl, hx⟩ := vw.one
    cases hg
    obtain ⟨a, us, rfl, h2, r⟩ := hx.lst
    exact ⟨a, us, rfl, .inl ⟨.inl h2, fin_tup e r q⟩⟩
  · obtain ⟨x, rfl, hx⟩ := vw.one
    cases hg
    obtain ⟨a, us, rfl, f1, h2, r⟩ := hx.tup e
    exact ⟨a, us, rfl, .inr ⟨h2, fin_rep e (.tup f1 r) q⟩⟩
  · cases hg
end

/-! ### sum, min, max, all, any -/
section
variable {prog : Program} {w : World} {A : Around} {E : Value → Shared → Prop} {s : Shared} {l : Addr}
theorem sum_intTup {xs : Array (Int × Tok)} {Q : Value → Shared → Prop} (hh : A.handled = none) (hl : s.heap.IsTuple l (intItems xs))
    (h : ∀ h' tk t', (∀ b o, s.heap.get? b = some o → h'.get? b = some o) → Q (.int (preSum (numAt xs) xs.size) t') { s with heap := h', toks := tk }) :
    wpAny (model prog w) A (call (.builtin "sum") [.ref l]) Q E s := by
  have hlt : l < s.heap.objs.size := by obtain ⟨_, e, _⟩ := hl; exact Heap.lt_size e
  refine call_sum_walkG (wpAny_pyIter_tuple hl ?_)
  refine ⟨_, [s.heap.objs.size, l], [s.heap.objs.size], _, _, _, numAt xs, rfl, Walks.tuple (A := A.in1) hh _ l (Nat.ne_of_lt hlt) (intItems xs), ⟨⟨_, Heap.get?_push_size _ rfl, rfl, rfl⟩, hl.push _⟩, fun b hb => ?_, (fun _ _ => intItems_at), fun h' tk t' hk => ?_⟩
  · show b < (s.heap.push _).objs.size
    rw [Heap.size_push]
    rcases List.mem_cons.mp hb with rfl | hb
    · exact Nat.lt_succ_self _
    · rcases List.mem_cons.mp hb with rfl | hb
      · exact Nat.lt_succ_of_lt hlt
      · cases hb
  · have hold : ∀ d o, s.heap.get? d = some o → h'.get? d = some o := fun d o e => by
      refine hk d o (fun hm => ?_) (Heap.get?_push_of_some _ e)
      rcases List.mem_cons.mp hm with e1 | hm
      · have := Heap.lt_size e; rw [e1] at this; exact Nat.lt_irrefl _ this
      · cases hm
    have := h h' tk t' hold
    simpa [intItems] using this
theorem sum_rawT {its : List Value} {ns : List Int} {Q : Value → Shared → Prop} (hh : A.handled = none) (hl : s.heap.IsTuple l its.toArray) (hi : IntsAre its ns)
    (h : ∀ h' tk t', (∀ b o, s.heap.get? b = some o → h'.get? b = some o) → Q (.int ns.sum t') { s with heap := h', toks := tk }) : wpAny (model prog w) A (call (.builtin "sum") [.ref l]) Q E s := by
  obtain ⟨xs, e⟩ := hi.allInts.items
  have hn : numsOf (intItems xs).toList = ns := by rw [← e]; exact hi.numsOf
  rw [nums_intItems] at hn
  rw [e] at hl
  refine sum_intTup hh hl fun h' tk t' hk => ?_
  have := h h' tk t' hk
  rw [preSum_eq, List.take_of_length_le (by simp), hn]; exact this
end
section
variable {X : Cx} {K : PySem.W.Frag}
def rSumT (K : PySem.W.Frag) : List V → Hp → VK → Prop := fun vs H Q => ∃ (a : Addr) (ns : List Int), vs = [V.ref a] ∧ SqT K H a (ns.map V.int) ∧ Q (.int ns.sum) H
theorem cr_sumT (hc : X.calm = true) : CallR X (.builtin "sum") (rSumT X.K) := by
  intro pins s σ H vs us Q I r h
  obtain ⟨a, ns, rfl, hs, q⟩ := h
  obtain ⟨its, rv, hl, _⟩ := I.tuple hs
  rw [Vals.ref1 r]
  exact sum_rawT (I.ok.hd hc) hl rv.ints fun h' tk t' hk => ⟨.int _, H, I.kept hk, ⟨_, rfl⟩, q⟩
def rSumA (K : PySem.W.Frag) : List V → Hp → VK → Prop := fun vs H Q => rSum K vs H Q ∨ rSumT K vs H Q
theorem cr_sumA (hc : X.calm = true) : CallR X (.builtin "sum") (rSumA X.K) := CallR.or (cr_sum hc) (cr_sumT hc)
def gSum : List D → Option W
  | [.lst ds] => (intsOf ds).map fun ns => .v (.int ns.sum)
  | [.tup ds] => (intsOf ds).map fun ns => .v (.int ns.sum)
  | _ => none
theorem cd_sum : CaD K (rSumA K) gSum := by
  intro F H vs ds w Q e vw hg q
  unfold gSum at hg
  split at hg
  · obtain ⟨x, rfl, hx⟩ := vw.one
    obtain ⟨ns, h1, rfl⟩ := Option.map_eq_some_iff.mp hg
    obtain ⟨a, us, rfl, h2, r⟩ := hx.lst
    rw [intsOf_eq h1] at r
    have := r.ints
    subst this
    exact .inl ⟨a, ns, rfl, .inl h2, fin_int e q⟩
  · obtain ⟨x, rfl, hx⟩ := vw.one
    obtain ⟨ns, h1, rfl⟩ := Option.map_eq_some_iff.mp hg
    obtain ⟨a, us, rfl, _, h2, r⟩ := hx.tup e
    rw [intsOf_eq h1] at r
    have := r.ints
    subst this
    exact .inr ⟨a, ns, rfl, h2, fin_int e q⟩
  · cases hg
def gAll : List D → Option W
  | [.lst ds] => (blsOf ds).map fun ns => .v (.bl (ns.all id))
  | _ => none
def gAny : List D → Option W
  | [.lst ds] => (blsOf ds).map fun ns => .v (.bl (ns.any id))
  | _ => none
theorem cd_all : CaD K (rAll K) gAll := by
  intro F H vs ds w Q e vw hg q
  unfold gAll at hg
  split at hg
  · obtain ⟨x, rfl, hx⟩ := vw.one
    obtain ⟨ns, h1, rfl⟩ := Option.map_eq_some_iff.mp hg
    obtain ⟨a, us, rfl, h2, r⟩ := hx.lst
    rw [blsOf_eq h1] at r
    have := r.bls
    subst this
    exact ⟨a, ns, rfl, .inl h2, fin_bl e q⟩
  · cases hg
theorem cd_any : CaD K (rAny K) gAny := by
  intro F H vs ds w Q e vw hg q
  unfold gAny at hg
  split at hg
  · obtain ⟨x, rfl, hx⟩ := vw.one
    obtain ⟨ns, h1, rfl⟩ := Option.map_eq_some_iff.mp hg
    obtain ⟨a, us, rfl, h2, r⟩ := hx.lst
    rw [blsOf_eq h1] at r
    have := r.bls
    subst this
    exact ⟨a, ns, rfl, .inl h2, fin_bl e q⟩
  · cases hg
/-! min and max of two, of three, of a list -/
def imax : List Int → Int
  | [] => 0
  | [x] => x
  | x :: y :: r => let m := imax (y :: r); if m > x then m else x
def imin : List Int → Int
  | [] => 0
  | [x] => x
  | x :: y :: r => let m := imin (y :: r); if m < x then m else x
theorem imax_spec : ∀ (x : Int) (r : List Int), imax (x :: r) ∈ x :: r ∧ ∀ y ∈ x :: r, y ≤ imax (x :: r)
  | x, [] => ⟨by simp [imax], fun y h => by simp at h; subst h; simp [imax]⟩
  | x, y :: r => by
    obtain ⟨h1, h2⟩ := imax_spec y r
    have e : imax (x :: y :: r) = if imax (y :: r) > x then imax (y :: r) else x := rfl
    by_cases c : imax (y :: r) > x
    · rw [e, if_pos c]
      refine ⟨List.mem_cons_of_mem _ h1, fun z hz => ?_⟩
      rcases List.mem_cons.mp hz with rfl | hz
      · omega
      · exact h2 z hz
    · rw [e, if_neg c]
      refine ⟨List.mem_cons_self, fun z hz => ?_⟩
      rcases List.mem_cons.mp hz with rfl | hz
      · omega
      · have := h2 z hz; omega
theorem imin_spec : ∀ (x : Int) (r : List Int), imin (x :: r) ∈ x :: r ∧ ∀ y ∈ x :: r, imin (x :: r) ≤ y
  | x, [] => ⟨by simp [imin], fun y h => by simp at h; subst h; simp [imin]⟩
  | x, y :: r => by
    obtain ⟨h1, h2⟩ := imin_spec y r
    have e : imin (x :: y :: r) = if imin (y :: r) < x then imin (y :: r) else x := rfl
    by_cases c : imin (y :: r) < x
    · rw [e, if_pos c]
      refine ⟨List.mem_cons_of_mem _ h1, fun z hz => ?_⟩
      rcases List.mem_cons.mp hz with rfl | hz
      · omega
      · exact h2 z hz
    · rw [e, if_neg c]
      refine ⟨List.mem_cons_self, fun z hz => ?_⟩
      rcases List.mem_cons.mp hz with rfl | hz
      · omega
      · have := h2 z hz; omega
def gMax : List D → Option W
  | [.int i, .int j] => some (.v (.int (if j > i then j else i)))
  | [.lst ds] => match intsOf ds with
    | some (n :: ns) => some (.v (.int (imax (n :: ns))))
    | _ => none
  | _ => none
def gMin : List D → Option W
  | [.int i, .int j] => some (.v (.int (if j < i then j else i)))
  | [.int i, .int j, .int k] => some (.v (.int (if j < i then (if k < j then k else j) else (if k < i then k else i))))
  | [.lst ds] => match intsOf ds with
    | some (n :: ns) => some (.v (.int (imin (n :: ns))))
    | _ => none
  | _ => none
def rMaxA (K : PySem.W.Frag) : List V → Hp → VK → Prop := fun vs H Q => (∃ i j, vs = [.int i, .int j] ∧ Q (.int (if j > i then j else i)) H) ∨ rMax K vs H Q
theorem call_maxA (hc : X.calm = true) : CallR X (.builtin "max") (rMaxA X.K) := CallR.or (call_max2 hc) (cr_max hc)
def rMin3 : List V → Hp → VK → Prop := fun vs H Q => ∃ i j k, vs = [.int i, .int j, .int k] ∧ Q (.int (if j < i then (if k < j then k else j) else (if k < i then k else i))) H
theorem call_min3 (hc : X.calm = true) : CallR X (.builtin "min") rMin3 := by
  intro pins s σ H xs us Q I r h
  obtain ⟨i, j, k, rfl, q⟩ := h
  cases r with
  | cons r1 r => cases r with
    | cons r2 r => cases r with
      | cons r3 r =>
        cases r
        obtain ⟨t, rfl⟩ := r1
        obtain ⟨t2, rfl⟩ := r2
        obtain ⟨t3, rfl⟩ := r3
        refine min_three_ints (I.ok.hd hc) fun h' tk hk => ?_
        refine ⟨.int _, H, I.kept hk, ?_, q⟩
        by_cases c1 : j < i
        · by_cases c2 : k < j
          · exact ⟨t3, by rw [if_pos c1, if_pos c2, if_pos c1, if_pos c2]⟩
          · exact ⟨t2, by rw [if_pos c1, if_neg c2, if_pos c1, if_neg c2]⟩
        · by_cases c2 : k < i
          · exact ⟨t3, by rw [if_neg c1, if_pos c2, if_neg c1, if_pos c2]⟩
          · exact ⟨t, by rw [if_neg c1, if_neg c2, if_neg c1, if_neg c2]⟩
def rMinA (K : PySem.W.Frag) : List V → Hp → VK → Prop := fun vs H Q => (fun vs H Q => (∃ i j, vs = [.int i, .int j] ∧ Q (.int (if j < i then j else i)) H) ∨ rMin K vs H Q) vs H Q ∨ rMin3 vs H Q
theorem call_minA (hc : X.calm = true) : CallR X (.builtin "min") (rMinA X.K) := CallR.or (CallR.or (call_min2 hc) (cr_min hc)) (call_min3 hc)
theorem cd_max : CaD K (rMaxA K) gMax := by
  intro F H vs ds w Q e vw hg q
  unfold gMax at hg
  split at hg
  · rename_i i j
    obtain ⟨x, y, rfl, hx, hy⟩ := vw.two
    cases hg
    exact .inl ⟨i, j, by rw [hx.int, hy.int], fin_int e q⟩
  · obtain ⟨x, rfl, hx⟩ := vw.one
    split at hg
    · rename_i n ns h1
      cases hg
      obtain ⟨a, us, rfl, h2, r⟩ := hx.lst
      rw [intsOf_eq h1] at r
      have := r.ints
      subst this
      refine .inr ⟨a, n :: ns, rfl, .inl h2, by simp, fun m hm hx => ?_⟩
      obtain ⟨s1, s2⟩ := imax_spec n ns
      have em : m = imax (n :: ns) := Int.le_antisymm (s2 m hm) (hx _ s1)
      rw [em]
      exact fin_int e q
    · cases hg
  · cases hg
theorem cd_min : CaD K (rMinA K) gMin := by
  intro F H vs ds w Q e vw hg q
  unfold gMin at hg
  split at hg
  · rename_i i j
    obtain ⟨x, y, rfl, hx, hy⟩ := vw.two
    cases hg
    exact .inl (.inl ⟨i, j, by rw [hx.int, hy.int], fin_int e q⟩)
  · rename_i i j k
    cases vw with
    | cons h1 h2 =>
      obtain ⟨x, y, rfl, hx, hy⟩ := h2.two
      cases hg
      exact .inr ⟨i, j, k, by rw [h1.int, hx.int, hy.int], fin_int e q⟩
  · obtain ⟨x, rfl, hx⟩ := vw.one
    split at hg
    · rename_i n ns h1
      cases hg
      obtain ⟨a, us, rfl, h2, r⟩ := hx.lst
      rw [intsOf_eq h1] at r
      have := r.ints
      subst this
      refine .inl (.inr ⟨a, n :: ns, rfl, .inl h2, by simp, fun m hm hx => ?_⟩)
      obtain ⟨s1, s2⟩ := imin_spec n ns
      have em : m = imin (n :: ns) := Int.le_antisymm (hx _ s1) (s2 m hm)
      rw [em]
      exact fin_int e q
    · cases hg
  · cases hg
end

/-! ### sorted, of ints -/
def insI (x : Int) : List Int → List Int
  | [] => [x]
  | y :: r => if x ≤ y then x :: y :: r else y :: insI x r
def sortI : List Int → List Int
  | [] => []
  | x :: r => insI x (sortI r)
theorem insI_perm (x : Int) : ∀ l : List Int, (insI x l).Perm (x :: l)
  | [] => List.Perm.refl _
  | y :: r => by
    unfold insI
    by_cases c : x ≤ y
    · rw [if_pos c]
    · rw [if_neg c]
      exact ((insI_perm x r).cons y).trans (List.Perm.swap x y r)
theorem sortI_perm : ∀ l : List Int, (sortI l).Perm l
  | [] => List.Perm.refl _
  | x :: r => (insI_perm x (sortI r)).trans ((sortI_perm r).cons x)
theorem insI_sorted (x : Int) : ∀ l : List Int, l.Pairwise (· ≤ ·) → (insI x l).Pairwise (· ≤ ·)
  | [], _ => List.pairwise_singleton _ _
  | y :: r, h => by
    obtain ⟨h1, h2⟩ := List.pairwise_cons.mp h
    unfold insI
    by_cases c : x ≤ y
    · rw [if_pos c]
      refine List.pairwise_cons.mpr ⟨fun z hz => ?_, h⟩
      rcases List.mem_cons.mp hz with rfl | hz
      · exact c
      · have := h1 z hz; omega
    · rw [if_neg c]
      refine List.pairwise_cons.mpr ⟨fun z hz => ?_, insI_sorted x r h2⟩
      rcases List.mem_cons.mp ((insI_perm x r).mem_iff.mp hz) with rfl | hz
      · omega
      · exact h1 z hz
theorem sortI_sorted : ∀ l : List Int, (sortI l).Pairwise (· ≤ ·)
  | [] => List.Pairwise.nil
  | x :: r => insI_sorted x _ (sortI_sorted r)
theorem sorted_uniq : ∀ {l m : List Int}, l.Pairwise (· ≤ ·) → m.Pairwise (· ≤ ·) → l.Perm m → l = m := fun h1 h2 p => p.eq_of_pairwise (fun a b _ _ x y => Int.le_antisymm x y) h1 h2
def gSortI : List D → Option W
  | [.lst ds] => (intsOf ds).map fun ns => .l false ((sortI ns).map D.int)
  | _ => none
theorem cd_sortI {K : PySem.W.Frag} : CaD K (rSortedI K) gSortI := by
  intro F H vs ds w Q e vw hg q
  unfold gSortI at hg
  split at hg
  · obtain ⟨x, rfl, hx⟩ := vw.one
    obtain ⟨ns, h1, rfl⟩ := Option.map_eq_some_iff.mp hg
    obtain ⟨a, us, rfl, h2, r⟩ := hx.lst
    rw [intsOf_eq h1] at r
    have := r.ints
    subst this
    refine ⟨a, ns, rfl, .inl h2, fun ns' p hp hs hn => ?_⟩
    have en : ns' = sortI ns := sorted_uniq hs (sortI_sorted ns) (hp.trans (sortI_perm ns).symm)
    subst en
    exact fin_lst e (RepDs.of_ints _) q p hn
  · cases hg

/-! ### is -/
def isNonD : D → Bool
  | .non => true
  | _ => false
def gIs : List D → Option W
  | [.bl a, .bl b] => some (.v (.bl (decide (a = b))))
  | [d, .non] => some (.v (.bl (isNonD d)))
  | _ => none
def gIsNot : List D → Option W
  | [.bl a, .bl b] => some (.v (.bl (!decide (a = b))))
  | [d, .non] => some (.v (.bl (!isNonD d)))
  | _ => none
section
variable {X : Cx} {K : PySem.W.Frag}
def rIsA : R2 := fun x y H Q => rIsB x y H Q ∨ (y = .non ∧ Q (.bl (decide (x = .non))) H)
def rIsNotA : R2 := fun x y H Q => rNotB x y H Q ∨ (y = .non ∧ Q (.bl (!decide (x = .non))) H)
theorem op_isA : OpR X (compareOp .Is) rIsA := op_isBl.or op_isN
theorem op_isNotA : OpR X (compareOp .IsNot) rIsNotA := op_notBl.or op_notN
theorem View.isNon {F H : Hp} {v : V} {d : D} (h : View K F H v d) : decide (v = .non) = isNonD d := by
  cases d with
  | lst ds => obtain ⟨a, _, rfl, _⟩ := h; rfl
  | dic ks ds => obtain ⟨a, _, rfl, _⟩ := h; rfl
  | dix k ks ds => obtain ⟨a, _, _, _, rfl, _⟩ := h; rfl
  | ins c ns ds => cases (show RepD K F v (.ins c ns ds) from h); rfl
  | non => rw [View.non h]; rfl
  | bl b => rw [View.bl h]; rfl
  | int i => rw [View.int h]; rfl
  | str x => rw [View.str h]; rfl
  | tup l => cases (show RepD K F v (.tup l) from h); rfl
  | nam a c => cases (show RepD K F v (.nam a c) from h) <;> rfl
  | ty n => cases (show RepD K F v (.ty n) from h); rfl
  | scr n => cases (show RepD K F v (.scr n) from h); rfl
theorem cd_is : CaD K (r2 rIsA) gIs := by
  intro F H vs ds w Q e vw hg q
  unfold gIs at hg
  split at hg
  · rename_i a b
    obtain ⟨x, y, rfl, hx, hy⟩ := vw.two
    cases hg
    exact ⟨_, _, rfl, .inl ⟨a, b, hx.bl, hy.bl, fin_bl e q⟩⟩
  · rename_i d
    obtain ⟨x, y, rfl, hx, hy⟩ := vw.two
    cases hg
    refine ⟨_, _, rfl, .inr ⟨hy.non, ?_⟩⟩
    rw [hx.isNon]
    exact fin_bl e q
  · cases hg
theorem cd_isNot : CaD K (r2 rIsNotA) gIsNot := by
  intro F H vs ds w Q e vw hg q
  unfold gIsNot at hg
  split at hg
  · rename_i a b
    obtain ⟨x, y, rfl, hx, hy⟩ := vw.two
    cases hg
    exact ⟨_, _, rfl, .inl ⟨a, b, hx.bl, hy.bl, fin_bl e q⟩⟩
  · rename_i d
    obtain ⟨x, y, rfl, hx, hy⟩ := vw.two
    cases hg
    refine ⟨_, _, rfl, .inr ⟨hy.non, ?_⟩⟩
    rw [hx.isNon]
    exact fin_bl e q
  · cases hg
end

/-! ### in, not in -/
def flatD : D → Bool
  | .non => true
  | .bl _ => true
  | .int _ => true
  | .str _ => true
  | _ => false
/-- what may be asked to be among the items of a list (of any data), of a tuple (of flat things) -/
def memD (x : D) : D → Option Bool
  | .lst ds => if fine 60 x && fine 60 (.lst ds) then some (ds.any fun z => deq z x) else none
  | .tup ds => if flatD x && ds.all flatD then some (ds.any fun z => deq z x) else none
  | _ => none
def gIn : List D → Option W
  | [x, c] => (memD x c).map fun b => .v (.bl b)
  | _ => none
def gNotIn : List D → Option W
  | [x, c] => (memD x c).map fun b => .v (.bl (!b))
  | _ => none
theorem flat_rep {K : PySem.W.Frag} {F : Hp} {v : V} {d : D} (h : RepD K F v d) (hf : flatD d = true) : flatV v = true := by
  cases h <;> first | rfl | cases hf
theorem eqV_rep {K : PySem.W.Frag} {F : Hp} {v u : V} {d e : D} (h : RepD K F v d) (hu : RepD K F u e) (hf : flatD d = true) (hg : flatD e = true) : eqV v u = deq d e := by
  cases h <;> (first | (exact absurd (show false = true from hf) Bool.false_ne_true) | (cases hu <;> first | rfl | cases hg))
theorem inV_rep {K : PySem.W.Frag} {F : Hp} {x : V} {d : D} (hx : RepD K F x d) (hf : flatD d = true) : ∀ {vs : List V} {ds : List D}, RepDs K F vs ds → ds.all flatD = true → inV x vs = (ds.any fun z => deq z d) ∧ vs.all flatV = true
  | _, _, .nil, _ => ⟨rfl, rfl⟩
  | _, _, .cons h r, a => by
    rw [List.all_cons, Bool.and_eq_true] at a
    obtain ⟨h1, h2⟩ := inV_rep hx hf r a.2
    unfold inV at h1 ⊢
    rw [List.any_cons, List.any_cons, h1, eqV_rep h hx a.1 hf, List.all_cons, h2, flat_rep h a.1]
    exact ⟨rfl, rfl⟩
theorem View.rep_flat {K : PySem.W.Frag} {F H : Hp} {v : V} {d : D} (h : View K F H v d) (hf : flatD d = true) : RepD K F v d := by
  cases d <;> first | exact h | cases hf
def rInA (K : PySem.W.Frag) : R2 := fun x y H Q => rIn K false x y H Q ∨ rInD K x y H Q
def rNotInA (K : PySem.W.Frag) : R2 := fun x y H Q => rIn K true x y H Q ∨ rNotInD K x y H Q
theorem op_inA {X : Cx} (hu : X.A.units + 65 < cLine) : OpR X (compareOp .In) (rInA X.K) := op_in_seq.or (op_inD hu)
theorem op_notInA {X : Cx} (hu : X.A.units + 65 < cLine) : OpR X (compareOp .NotIn) (rNotInA X.K) := op_notIn_seq.or (op_notInD hu)
theorem any_toPys (d : D) : ∀ ds : List D, ((toPys ds).any fun z => PyData.eqv z (toPy d)) = ds.any fun z => deq z d
  | [] => rfl
  | x :: r => by rw [toPys, List.any_cons, List.any_cons, any_toPys d r]; rfl
theorem cd_in {K : PySem.W.Frag} : CaD K (r2 (rInA K)) gIn := by
  intro F H vs ds w Q e vw hg q
  unfold gIn at hg
  split at hg
  · rename_i d c
    obtain ⟨x, y, rfl, hx, hy⟩ := vw.two
    obtain ⟨b, h1, rfl⟩ := Option.map_eq_some_iff.mp hg
    unfold memD at h1
    split at h1
    · rename_i ds
      split at h1
      · rename_i hf
        cases h1
        obtain ⟨f1, f2⟩ := Bool.and_eq_true_iff.mp hf
        have hd := hy.dp e f2
        refine ⟨_, _, rfl, .inr ⟨toPy d, toPys ds, hx.dp e f1, hd, fine_shaped f1, fine_shaped f2, ?_⟩⟩
        rw [any_toPys]
        exact fin_bl e q
      · cases h1
    · rename_i ds
      split at h1
      · rename_i hf
        cases h1
        obtain ⟨f1, f2⟩ := Bool.and_eq_true_iff.mp hf
        obtain ⟨a, us, rfl, _, h2, r⟩ := hy.tup e
        have rx := hx.rep_flat f1
        obtain ⟨g1, g2⟩ := inV_rep rx f1 r f2
        refine ⟨_, _, rfl, .inl ⟨a, us, rfl, .inr h2, flat_rep rx f1, g2, ?_⟩⟩
        rw [if_neg Bool.false_ne_true, g1]
        exact fin_bl e q
      · cases h1
    · cases h1
  · cases hg
theorem cd_notIn {K : PySem.W.Frag} : CaD K (r2 (rNotInA K)) gNotIn := by
  intro F H vs ds w Q e vw hg q
  unfold gNotIn at hg
  split at hg
  · rename_i d c
    obtain ⟨x, y, rfl, hx, hy⟩ := vw.two
    obtain ⟨b, h1, rfl⟩ := Option.map_eq_some_iff.mp hg
    unfold memD at h1
    split at h1
    · rename_i ds
      split at h1
      · rename_i hf
        cases h1
        obtain ⟨f1, f2⟩ := Bool.and_eq_true_iff.mp hf
        have hd := hy.dp e f2
        refine ⟨_, _, rfl, .inr ⟨toPy d, toPys ds, hx.dp e f1, hd, fine_shaped f1, fine_shaped f2, ?_⟩⟩
        rw [any_toPys]
        exact fin_bl e q
      · cases h1
    · rename_i ds
      split at h1
      · rename_i hf
        cases h1
        obtain ⟨f1, f2⟩ := Bool.and_eq_true_iff.mp hf
        obtain ⟨a, us, rfl, _, h2, r⟩ := hy.tup e
        have rx := hx.rep_flat f1
        obtain ⟨g1, g2⟩ := inV_rep rx f1 r f2
        refine ⟨_, _, rfl, .inl ⟨a, us, rfl, .inr h2, flat_rep rx f1, g2, ?_⟩⟩
        rw [if_pos rfl, g1]
        exact fin_bl e q
      · cases h1
    · cases h1
  · cases hg

/-! ### isinstance -/
def tyName : D → String
  | .non => "NoneType"
  | .bl _ => "bool"
  | .int _ => "int"
  | .str _ => "str"
  | .tup _ => "tuple"
  | .lst _ => "list"
  | _ => ""
def isTy (d : D) (u : String) : Option Bool := match d with
  | .non => if u = "int" ∨ u = "bool" ∨ u = "str" ∨ u = "tuple" ∨ u = "list" ∨ u = "dict" then some false else none
  | .bl _ => if u = "int" ∨ u = "bool" then some true else if u = "str" ∨ u = "tuple" ∨ u = "list" ∨ u = "dict" then some false else none
  | .int _ => if u = "int" then some true else if u = "bool" ∨ u = "str" ∨ u = "tuple" ∨ u = "list" ∨ u = "dict" then some false else none
  | .str _ => if u = "str" then some true else if u = "bool" ∨ u = "int" ∨ u = "tuple" ∨ u = "list" ∨ u = "dict" then some false else none
  | .tup _ => if u = "tuple" then some true else if u = "bool" ∨ u = "int" ∨ u = "str" ∨ u = "list" ∨ u = "dict" then some false else none
  | .lst _ => if u = "list" then some true else if u = "bool" ∨ u = "int" ∨ u = "str" ∨ u = "tuple" ∨ u = "dict" then some false else none
  | _ => none
def gIsi : List D → Option W
  | [d, .ty u] => (isTy d u).map fun b => .v (.bl b)
  | _ => none
theorem kit_all (K : PySem.W.Frag) : ∀ t ∈ ["NoneType", "bool", "int", "str", "tuple", "list"], ∀ u ∈ ["bool", "int", "str", "tuple", "list", "dict"], PySem.W.kitOne K (.type t) (.type u) = some (t == u || (t == "bool" && u == "int")) := by
  intro t ht u hu
  simp only [List.mem_cons, List.mem_nil_iff, or_false] at ht hu
  rcases ht with rfl | rfl | rfl | rfl | rfl | rfl <;> rcases hu with rfl | rfl | rfl | rfl | rfl | rfl <;> rfl
end DL

namespace DL
open PySem PySem.Spec PyProof.Rows L2

section
variable {K : PySem.W.Frag} {F H : Hp}
theorem tyx_list {a : Addr} {vs : List V} (h : Rd H a (.lst vs)) : TyX K H (.ref a) (.type "list") := by
  rcases h with h | ⟨o, h⟩
  · exact .base (.lst h)
  · exact .base (.frz h)
theorem tyx_tuple {a : Addr} {vs : List V} (h : SqT K H a vs) : TyX K H (.ref a) (.type "tuple") := by
  rcases h with (h | ⟨o, h⟩) | ⟨o, its, n, h, c, _⟩
  · exact .base (.tup h)
  · exact .fTuple h
  · exact .kTuple h c
theorem View.ty {v : V} {d : D} (e : Same F H) (h : View K F H v d) {u : String} {b : Bool} (hb : isTy d u = some b) : ∃ t, TyX K H v (.type t) ∧ PySem.W.kitOne K (.type t) (.type u) = some b := by
  have key : ∀ t ∈ ["NoneType", "bool", "int", "str", "tuple", "list"], ∀ u ∈ ["bool", "int", "str", "tuple", "list", "dict"], PySem.W.kitOne K (.type t) (.type u) = some (t == u || (t == "bool" && u == "int")) := kit_all K
  cases d with
  | non =>
    refine ⟨"NoneType", ?_, ?_⟩
    · rw [h.non]; exact .base .non
    · unfold isTy at hb
      dsimp only at hb
      split at hb
      · rename_i hu
        cases hb
        rcases hu with rfl | rfl | rfl | rfl | rfl | rfl <;> exact key _ (by decide) _ (by decide)
      · cases hb
  | bl x =>
    refine ⟨"bool", ?_, ?_⟩
    · rw [h.bl]; exact .base (.bl x)
    · unfold isTy at hb
      dsimp only at hb
      split at hb
      · rename_i hu
        cases hb
        rcases hu with rfl | rfl <;> exact key _ (by decide) _ (by decide)
      · split at hb
        · rename_i hu
          cases hb
          rcases hu with rfl | rfl | rfl | rfl <;> exact key _ (by decide) _ (by decide)
        · cases hb
  | int x =>
    refine ⟨"int", ?_, ?_⟩
    · rw [h.int]; exact .base (.int x)
    · unfold isTy at hb
      dsimp only at hb
      split at hb
      · rename_i hu
        cases hb
        subst hu
        exact key _ (by decide) _ (by decide)
      · split at hb
        · rename_i hu
          cases hb
          rcases hu with rfl | rfl | rfl | rfl | rfl <;> exact key _ (by decide) _ (by decide)
        · cases hb
  | str x =>
    refine ⟨"str", ?_, ?_⟩
    · rw [h.str]; exact .base (.str x)
    · unfold isTy at hb
      dsimp only at hb
      split at hb
      · rename_i hu
        cases hb
        subst hu
        exact key _ (by decide) _ (by decide)
      · split at hb
        · rename_i hu
          cases hb
          rcases hu with rfl | rfl | rfl | rfl | rfl <;> exact key _ (by decide) _ (by decide)
        · cases hb
  | tup x =>
    refine ⟨"tuple", ?_, ?_⟩
    · obtain ⟨a, vs, rfl, _, q, _⟩ := h.tup e
      exact tyx_tuple q
    · unfold isTy at hb
      dsimp only at hb
      split at hb
      · rename_i hu
        cases hb
        subst hu
        exact key _ (by decide) _ (by decide)
      · split at hb
        · rename_i hu
          cases hb
          rcases hu with rfl | rfl | rfl | rfl | rfl <;> exact key _ (by decide) _ (by decide)
        · cases hb
  | lst x =>
    refine ⟨"list", ?_, ?_⟩
    · obtain ⟨a, vs, rfl, q, _⟩ := h.lst
      exact tyx_list q
    · unfold isTy at hb
      dsimp only at hb
      split at hb
      · rename_i hu
        cases hb
        subst hu
        exact key _ (by decide) _ (by decide)
      · split at hb
        · rename_i hu
          cases hb
          rcases hu with rfl | rfl | rfl | rfl | rfl <;> exact key _ (by decide) _ (by decide)
        · cases hb
  | nam x c => cases hb
  | dic ks ds => cases hb
  | dix k ks ds => cases hb
  | ins c ns ds => cases hb
  | ty x => cases hb
  | scr x => cases hb
theorem cd_isi : CaD K (rIsi K) gIsi := by
  intro F H vs ds w Q e vw hg q
  unfold gIsi at hg
  split at hg
  · rename_i d u
    obtain ⟨x, y, rfl, hx, hy⟩ := vw.two
    obtain ⟨b, h1, rfl⟩ := Option.map_eq_some_iff.mp hg
    obtain ⟨t, h2, h3⟩ := hx.ty e h1
    cases (show RepD K F y (.ty u) from hy)
    exact ⟨x, .ty u, .type t, .type u, b, rfl, .ty u, h2, h3, fin_bl e q⟩
  · cases hg
end

/-! ### a op b op' c -/
def vChain (g g' : List D → Option W) (fa fb fc : M U) : M U := fun env => (fa env).bind fun u1 e1 => (fb e1).bind fun u2 e2 => match dat e2 u1, dat e2 u2 with
  | some d1, some d2 => match g [d1, d2] with
    | some (.v (.bl k)) => if k then (fc e2).bind fun u3 e3 => (match dat e3 u2, dat e3 u3 with
        | some d2, some d3 => (match g' [d2, d3] with
          | some w => .ok (.w w) e3
          | none => .stuck)
        | _, _ => .stuck) else .ok (.w (.v (.bl false))) e2
    | _ => .stuck
  | _, _ => .stuck
section
variable {X : Cx} {Wx : WX} {a b c : Expr} {fa fb fc : M U} {pos : Pos} {g g' : List D → Option W}
theorem chain_sem {K : PySem.W.Frag} {mg : Str → Option Value} {r r' : R2} {σ : L2.St} {H : Hp} {Q : VK} (cd : CaD K (r2 r) g) (cd' : CaD K (r2 r') g') (h : tOf K mg Wx (vChain g g' fa fb fc) σ H Q) :
    tChain r r' (tOf K mg Wx fa) (tOf K mg Wx fb) (tOf K mg Wx fc) σ H Q := by
  obtain ⟨F, env, own, S, h⟩ := h
  unfold vChain at h
  refine tOf_use S (fun u1 env1 e1 v1 F1 H1 own1 p1 O1 => ?_) (fun c env1 e1 C F1 H1 own1 => ?_) (fun e1 => ?_)
  · rw [e1, R.bind_ok] at h
    refine tOf_use O1.S (fun u2 env2 e2 v2 F2 H2 own2 p2 O2 => ?_) (fun c env2 e2 C F2 H2 own2 hm O2 => ?_) (fun e2 => ?_)
    · rw [e2, R.bind_ok] at h
      have OO := O1.out2 O2
      cases e3 : dat env2 u1 with
      | none => rw [e3] at h; exact h.elim
      | some d1 =>
        cases e4 : dat env2 u2 with
        | none => rw [e3, e4] at h; exact h.elim
        | some d2 =>
          rw [e3, e4] at h
          dsimp only at h
          cases e5 : g [d1, d2] with
          | none => rw [e5] at h; exact h.elim
          | some w =>
            rw [e5] at h
            cases w with
            | l _ _ => exact h.elim
            | m _ _ => exact h.elim
            | x _ => exact h.elim
            | v d =>
              cases d with
              | bl k =>
                dsimp only at h
                refine r2_two (cd F2 H2 [v1, v2] [d1, d2] _ _ OO.S.ex (.cons (RepU.view OO.S OO.r1 e3) (.cons (RepU.view OO.S OO.r2 e4) .nil)) e5 fun v F' H' p gr rw' => ?_)
                obtain ⟨hp, rr⟩ := rw'
                cases rr
                refine ⟨k, rfl, ?_⟩
                have O3 : Out K F H own σ u2 v2 env2 F' H' own2 p2 := by
                  have O2' := OO.snd
                  refine ⟨gr.sit OO.S, ?_, O2'.d, ?_⟩
                  · have st := (gr.step own2).sub (fp2 := all own2) fun _ z => .inl z
                    exact (RepU.stepU O2'.r O2'.d st).1
                  · have st := (gr.step own2).sub (fp2 := all own2) fun _ z => .inl z
                    exact O2'.s.trans (st.more p2)
                cases k with
                | false =>
                  rw [if_neg Bool.false_ne_true] at h ⊢
                  exact h _ _ _ _ _ (gr.out OO.drop ⟨hp, .bl false⟩)
                | true =>
                  rw [if_pos rfl] at h ⊢
                  refine tOf_use O3.S (fun u3 env3 e6 v3 F3 H3 own3 p3 O4 => ?_) (fun c env3 e6 C F3 H3 own3 hm O4 => ?_) (fun e6 => ?_)
                  · rw [e6, R.bind_ok] at h
                    have O5 := O3.out2 O4
                    cases e7 : dat env3 u2 with
                    | none => rw [e7] at h; exact h.elim
                    | some d2' =>
                      cases e8 : dat env3 u3 with
                      | none => rw [e7, e8] at h; exact h.elim
                      | some d3 =>
                        rw [e7, e8] at h
                        dsimp only at h
                        cases e9 : g' [d2', d3] with
                        | none => rw [e9] at h; exact h.elim
                        | some w =>
                          rw [e9] at h
                          refine r2_two (cd' F3 H3 [v2, v3] [d2', d3] _ _ O5.S.ex (.cons (RepU.view O5.S O5.r1 e7) (.cons (RepU.view O5.S O5.r2 e8) .nil)) e9 fun v F'' H'' p gr' rw'' => ?_)
                          exact h _ _ _ _ _ (gr'.out O5.drop rw'')
                  · rw [e6] at h
                    exact h C F3 H3 own3 hm (O3.drop.trans O4)
                  · rw [e6] at h
                    exact h
              | _ => exact h.elim
    · rw [e2] at h
      exact h C F2 H2 own2 hm (O1.drop.trans O2)
    · rw [e2] at h
      exact h
  · rw [e1] at h
    exact h C F1 H1 own1
  · rw [e1] at h
    exact h
theorem e_chain {op op' : CmpOp} {r r' : R2} (ho : OpR X (compareOp op) r) (ho' : OpR X (compareOp op') r') (cd : CaD X.K (r2 r) g) (cd' : CaD X.K (r2 r') g') (ha : EvS X Wx a fa) (hb : EvS X Wx b fb) (hc : EvS X Wx c fc)
    (hm : lastMarks [op, op'] [b, c] = false := by with_unfolding_all rfl) : EvS X Wx (.Compare a [op, op'] [b, c] pos) (vChain g g' fa fb fc) :=
  PE.imp (pe_chain ho ho' ha hb hc hm) fun σ H Q h => chain_sem cd cd' h
theorem t_chain {op op' : CmpOp} {r r' : R2} (ho : OpR X (compareOp op) r) (ho' : OpR X (compareOp op') r') (cd : CaD X.K (r2 r) g) (cd' : CaD X.K (r2 r') g') (ha : EvS X Wx a fa) (hb : EvS X Wx b fb) (hc : EvS X Wx c fc)
    (hm : lastMarks [op, op'] [b, c] = false := by with_unfolding_all rfl) : TtS X Wx (.Compare a [op, op'] [b, c] pos) (tst (vChain g g' fa fb fc)) :=
  PT.imp (pt_chain ho ho' ha hb hc hm) fun σ H Q h => chain_sem cd cd' (tOf_tst h)
end
end DL

namespace DL
open PySem PySem.Spec PyProof.Rows L2

/-! ### what a def tells -/
inductive RF where
  | ok (w : W) (ws : List W)
  | raise (c : Str) (ws : List W)
  | stuck
abbrev ASit (K : PySem.W.Frag) (F H : Hp) (vs : List V) (ws : List W) (own : Nat → Fp) : Prop := Sit K F (vs.map some) H (ws.map some) own
structure OutF (K : PySem.W.Frag) (F H : Hp) (own : Nat → Fp) (vs : List V) (ws : List W) (w : W) (v : V) (F' H' : Hp) (own' : Nat → Fp) (p : Fp) : Prop where
  S : ASit K F' H' vs ws own'
  r : RepW K F' H' v w p
  d : ∀ a, p a → ¬ all own' a
  s : Step F H (all own) F' H' (fun a => all own' a ∨ p a)
def spOf (K : PySem.W.Frag) (mg : Str → Option Value) (n : Nat) (g : List W → RF) : Sp := fun vs H Q E => vs.length = n ∧ ∃ F ws own, ASit K F H vs ws own ∧ match g ws with
  | .ok w ws' => ∀ v F' H' own' p, OutF K F H own vs ws' w v F' H' own' p → Q v H'
  | .raise c ws' => ∀ C F' H' own', mg c = some (.ref C) → ASit K F' H' vs ws' own' → Step F H (all own) F' H' (all own') → E (.ref C) none H'
  | .stuck => False
abbrev FnS (P : Program) (w : World) (K : PySem.W.Frag) (mg : Str → Option Value) (base : Heap) (k : Nat) (f : Addr) (fd : FuncData) (ps : List Str) (g : List W → RF) : Prop :=
  FnOk P w K mg base (L2.CX P w) k f fd ps (spOf K mg ps.length g)
/-- a def that is known to tell g tells whatever g tells where it isn't stuck -/
theorem FnS.weak {P : Program} {w : World} {K : PySem.W.Frag} {mg : Str → Option Value} {base : Heap} {k : Nat} {f : Addr} {fd : FuncData} {ps : List Str} {g g' : List W → RF} (h : FnS P w K mg base k f fd ps g) (e : ∀ ws, g' ws ≠ .stuck → g ws = g' ws) :
    FnS P w K mg base k f fd ps g' := FnOk.imp h fun vs H Q E q => by
  obtain ⟨hl, F, ws, own, S, q⟩ := q
  refine ⟨hl, F, ws, own, S, ?_⟩
  by_cases hs : g' ws = .stuck
  · rw [hs] at q; exact q.elim
  · rw [e ws hs]; exact q

/-! ### handing in arguments -/
def frzM : List (Option Nat) → DEnv → List U → Option (List (Option D) × DEnv)
  | [], env, [] => some ([], env)
  | none :: ms, env, u :: us => match frz1 env u with
    | some (d, e1) => match frzM ms e1 us with
      | some (l, e2) => some (some d :: l, e2)
      | none => none
    | none => none
  | some i :: ms, env, .b j :: us => if i = j then (match frzM ms env us with
      | some (l, e2) => some (none :: l, e2)
      | none => none) else none
  | _, _, _ => none
def takeW (env : DEnv) : List (Option Nat) → List (Option D) → Option (List W)
  | [], [] => some []
  | none :: ms, some d :: l => match takeW env ms l with
    | some ws => some (.v d :: ws)
    | none => none
  | some i :: ms, none :: l => match env[i]? with
    | some (some (.l _ ds)) => (match takeW env ms l with
      | some ws => some (.l true ds :: ws)
      | none => none)
    | some (some (.x (.o _ c ns fs))) => (match takeW env ms l with
      | some ws => some (.x (.o true c ns fs) :: ws)
      | none => none)
    | _ => none
  | _, _ => none
def putW : List (Option Nat) → List W → DEnv → Option DEnv
  | [], [], env => some env
  | none :: ms, _ :: ws, env => putW ms ws env
  | some i :: ms, .l _ ds :: ws, env => match env[i]? with
    | some (some (.l b _)) => putW ms ws (env.set i (some (.l b ds)))
    | _ => none
  | some i :: ms, .x (.o _ c ns fs) :: ws, env => match env[i]? with
    | some (some (.x (.o b _ _ _))) => putW ms ws (env.set i (some (.x (.o b c ns fs))))
    | _ => none
  | _, _, _ => none
def callF (g : List W → RF) (ms : List (Option Nat)) (fs : List (M U)) : M U := fun env => (evs fs env).bind fun us e1 => match frzM ms e1 us with
  | some (l, e2) => match takeW e2 ms l with
    | some ws => match g ws with
      | .ok w ws' => (match putW ms ws' e2 with
        | some e3 => .ok (.w w) e3
        | none => .stuck)
      | .raise c ws' => (match putW ms ws' e2 with
        | some e3 => .raise c e3
        | none => .stuck)
      | .stuck => .stuck
    | none => .stuck
  | none => .stuck

section
variable {K : PySem.W.Frag} {H : Hp} {σ : L2.St}
/-- how the handed in things lie behind the freezing -/
inductive Hand (K : PySem.W.Frag) (F : Hp) (σ : L2.St) : List (Option Nat) → List V → List (Option D) → Prop where
  | nil : Hand K F σ [] [] []
  | dat {ms : List (Option Nat)} {vs : List V} {l : List (Option D)} {v : V} {d : D} : RepD K F v d → Hand K F σ ms vs l → Hand K F σ (none :: ms) (v :: vs) (some d :: l)
  | bor {ms : List (Option Nat)} {vs : List V} {l : List (Option D)} {v : V} {i : Nat} : σ[i]? = some (some v) → Hand K F σ ms vs l → Hand K F σ (some i :: ms) (v :: vs) (none :: l)
theorem Hand.mono {F F' : Hp} (e : Same F F') : ∀ {ms : List (Option Nat)} {vs : List V} {l : List (Option D)}, Hand K F σ ms vs l → Hand K F' σ ms vs l
  | _, _, _, .nil => .nil
  | _, _, _, .dat r h => .dat (r.mono e) (h.mono e)
  | _, _, _, .bor r h => .bor r (h.mono e)
theorem Hand.len {F : Hp} : ∀ {ms : List (Option Nat)} {vs : List V} {l : List (Option D)}, Hand K F σ ms vs l → ms.length = vs.length
  | _, _, _, .nil => rfl
  | _, _, _, .dat _ h => by rw [List.length_cons, List.length_cons, h.len]
  | _, _, _, .bor _ h => by rw [List.length_cons, List.length_cons, h.len]
theorem Hand.slot {F : Hp} : ∀ {ms : List (Option Nat)} {vs : List V} {l : List (Option D)} {j i : Nat}, Hand K F σ ms vs l → ms[j]? = some (some i) → ∃ v, vs[j]? = some v ∧ σ[i]? = some (some v)
  | _, _, _, j, _, .nil, e => by simp at e
  | _, _, _, 0, _, .dat _ h, e => by simp at e
  | _, _, _, j + 1, _, .dat _ h, e => by
    obtain ⟨v, h1, h2⟩ := Hand.slot (j := j) h (by simpa using e)
    exact ⟨v, by simpa using h1, h2⟩
  | _, _, _, 0, _, .bor r h, e => by simp at e; subst e; exact ⟨_, rfl, r⟩
  | _, _, _, j + 1, _, .bor _ h, e => by
    obtain ⟨v, h1, h2⟩ := Hand.slot (j := j) h (by simpa using e)
    exact ⟨v, by simpa using h1, h2⟩
theorem frzM_ok : ∀ {ms : List (Option Nat)} {us : List U} {vs : List V} {l : List (Option D)} {F : Hp} {env env' : DEnv} {own : Nat → Fp} {p : Fp}, Sit K F σ H env own → RepUs K F H σ vs us p → (∀ a, p a → ¬ all own a) → frzM ms env us = some (l, env') →
    ∃ F' own', Sit K F' σ H env' own' ∧ Hand K F' σ ms vs l ∧ Step F H (fun a => all own a ∨ p a) F' H (all own')
  | [], [], [], l, F, env, env', own, p, S, r, dj, h => by
    cases h
    exact ⟨F, own, S, .nil, Step.refl.sub fun _ z => .inl z⟩
  | none :: ms, u :: us, v :: vs, l, F, env, env', own, p, S, r, dj, h => by
    obtain ⟨p1, p2, hp, hd, r1, r2⟩ := r
    have h : (match frz1 env u with | some (d, e1) => (match frzM ms e1 us with | some (l, e2) => some (some d :: l, e2) | none => none) | none => none) = some (l, env') := h
    split at h
    · rename_i d e1 h1
      split at h
      · rename_i l2 e2 h2
        cases h
        obtain ⟨F1, own1, S1, rd1, s1⟩ := frz1_ok S r1 (fun a q => dj a ((hp a).mpr (.inl q))) h1
        obtain ⟨r2', dj2⟩ := RepUs.stepU r2 (fun a q z => by
          rcases z with z | z
          · exact dj a ((hp a).mpr (.inr q)) z
          · exact hd a z q) s1
        obtain ⟨F2, own2, S2, rd2, s2⟩ := frzM_ok S1 r2' dj2 h2
        refine ⟨F2, own2, S2, .dat (rd1.mono s2.ex) rd2, ((s1.more p2).trans s2).sup fun a z => ?_⟩
        rcases z with (z | z) | z
        · exact .inl z
        · exact .inr ((hp a).mpr (.inl z))
        · exact .inr ((hp a).mpr (.inr z))
      · cases h
    · cases h
  | some i :: ms, .b j :: us, v :: vs, l, F, env, env', own, p, S, r, dj, h => by
    obtain ⟨p1, p2, hp, hd, r1, r2⟩ := r
    replace h : (if i = j then (match frzM ms env us with | some (l, e2) => some (none :: l, e2) | none => none) else none) = some (l, env') := h
    by_cases hij : i = j
    · rw [if_pos hij] at h
      subst hij
      split at h
      · rename_i l2 e2 h2
        cases h
        obtain ⟨F2, own2, S2, rd2, s2⟩ := frzM_ok S r2 (fun a q => dj a ((hp a).mpr (.inr q))) h2
        refine ⟨F2, own2, S2, .bor r1.2 rd2, s2.sup fun a z => z.imp_right fun y => (hp a).mpr (.inr y)⟩
      · cases h
    · rw [if_neg hij] at h; cases h
  | some _ :: _, .w _ :: _, _, _, _, _, _, _, _, _, _, _, h => by cases h
  | [], _ :: _, _, _, _, _, _, _, _, _, _, _, h => by cases h
  | none :: _, [], _, _, _, _, _, _, _, _, _, _, h => by cases h
  | some _ :: _, [], _, _, _, _, _, _, _, _, _, _, h => by cases h
  | [], [], _ :: _, _, _, _, _, _, _, _, r, _, _ => r.elim
  | none :: _, _ :: _, [], _, _, _, _, _, _, _, r, _, _ => r.elim
  | some _ :: _, .b _ :: _, [], _, _, _, _, _, _, _, r, _, _ => r.elim
/-- what is taken -/
theorem takeW_ok {F : Hp} {env : DEnv} {own : Nat → Fp} (S : Sit K F σ H env own) : ∀ {ms : List (Option Nat)} {vs : List V} {l : List (Option D)} {ws : List W}, Hand K F σ ms vs l → takeW env ms l = some ws →
    ws.length = vs.length ∧ ∀ (j : Nat) (w : W), ws[j]? = some w → ∃ v, vs[j]? = some v ∧ ((ms[j]? = some none ∧ ∃ d, w = .v d ∧ RepD K F v d) ∨ ∃ i, ms[j]? = some (some i) ∧ RepW K F H v w (own i) ∧ ∃ w', env[i]? = some (some w'))
  | _, _, _, _, .nil, h => by
    cases h
    exact ⟨rfl, fun j w e => by simp at e⟩
  | _, _, _, ws, .dat (ms := ms) (vs := vs) (l := l) (v := v) (d := d) r hh, h => by
    have h : (match takeW env ms l with | some ws => some (W.v d :: ws) | none => none) = some ws := h
    split at h
    · rename_i ws2 h2
      cases h
      obtain ⟨hl, hj⟩ := takeW_ok S hh h2
      refine ⟨by rw [List.length_cons, List.length_cons, hl], fun j w e => ?_⟩
      cases j with
      | zero =>
        simp at e
        subst e
        exact ⟨v, rfl, .inl ⟨rfl, d, rfl, r⟩⟩
      | succ j => exact hj j w (by simpa using e)
    · cases h
  | _, _, _, ws, .bor (ms := ms) (vs := vs) (l := l) (v := v) (i := i) r hh, h => by
    have h : (match env[i]? with | some (some (.l _ ds)) => (match takeW env ms l with | some ws => some (W.l true ds :: ws) | none => none) | some (some (.x (.o _ c ns fs))) => (match takeW env ms l with | some ws => some (W.x (.o true c ns fs) :: ws) | none => none) | _ => none) = some ws := h
    split at h
    · rename_i b ds hw
      split at h
      · rename_i ws2 h2
        cases h
        obtain ⟨hl, hj⟩ := takeW_ok S hh h2
        refine ⟨by rw [List.length_cons, List.length_cons, hl], fun j w e => ?_⟩
        cases j with
        | zero =>
          simp at e
          subst e
          obtain ⟨v', e1, r'⟩ := S.rep i _ hw
          rw [r] at e1
          cases e1
          exact ⟨v, rfl, .inr ⟨i, rfl, r', _, hw⟩⟩
        | succ j => exact hj j w (by simpa using e)
      · cases h
    · rename_i b c ns fs hw
      split at h
      · rename_i ws2 h2
        cases h
        obtain ⟨hl, hj⟩ := takeW_ok S hh h2
        refine ⟨by rw [List.length_cons, List.length_cons, hl], fun j w e => ?_⟩
        cases j with
        | zero =>
          simp at e
          subst e
          obtain ⟨v', e1, r'⟩ := S.rep i _ hw
          rw [r] at e1
          cases e1
          exact ⟨v, rfl, .inr ⟨i, rfl, r', _, hw⟩⟩
        | succ j => exact hj j w (by simpa using e)
      · cases h
    · cases h
/-- as good in the place of the other -/
def SameRep (w w' : W) : Prop := ∀ (K : PySem.W.Frag) (F H : Hp) (v : V) (p : Fp), RepW K F H v w p → RepW K F H v w' p
/-- what is put back -/
theorem putW_ok : ∀ {ms : List (Option Nat)} {ws : List W} {env env' : DEnv}, (ms.filterMap id).Nodup → putW ms ws env = some env' →
    env'.length = env.length ∧ (∀ i, (∀ j : Nat, ms[j]? ≠ some (some i)) → env'[i]? = env[i]?) ∧ ∀ (j i : Nat), ms[j]? = some (some i) → ∃ w w', ws[j]? = some w ∧ env'[i]? = some (some w') ∧ SameRep w w'
  | [], [], env, env', nd, h => by
    cases h
    exact ⟨rfl, fun _ _ => rfl, fun j i e => by simp at e⟩
  | none :: ms, w :: ws, env, env', nd, h => by
    obtain ⟨h1, h2, h3⟩ := putW_ok (ms := ms) (ws := ws) (env := env) (env' := env') (by simpa using nd) h
    refine ⟨h1, fun i hi => h2 i fun j e => hi (j + 1) (by simpa using e), fun j i e => ?_⟩
    cases j with
    | zero => simp at e
    | succ j =>
      obtain ⟨w1, w2, e1, e2, e3⟩ := h3 j i (by simpa using e)
      exact ⟨w1, w2, by simpa using e1, e2, e3⟩
  | some i :: ms, .x (.o b0 c ns fs) :: ws, env, env', nd, h => by
    have h : (match env[i]? with | some (some (.x (.o b _ _ _))) => putW ms ws (env.set i (some (.x (.o b c ns fs)))) | _ => none) = some env' := h
    have nd' : i ∉ ms.filterMap id ∧ (ms.filterMap id).Nodup := by
      have : (i :: ms.filterMap id).Nodup := by simpa using nd
      exact List.nodup_cons.mp this
    split at h
    · rename_i b c0 ns0 fs0 hw
      obtain ⟨h1, h2, h3⟩ := putW_ok nd'.2 h
      have hi : i < env.length := (List.getElem?_eq_some_iff.mp hw).1
      have no : ∀ j : Nat, ms[j]? ≠ some (some i) := fun j e => nd'.1 (List.mem_filterMap.mpr ⟨some i, List.mem_of_getElem? e, rfl⟩)
      refine ⟨by rw [h1, List.length_set], fun k hk => ?_, fun j k e => ?_⟩
      · have ne : k ≠ i := fun z => hk 0 (by simp [z])
        rw [h2 k fun j e => hk (j + 1) (by simpa using e), List.getElem?_set_ne (Ne.symm ne)]
      · cases j with
        | zero =>
          simp at e
          subst e
          refine ⟨.x (.o b0 c ns fs), .x (.o b c ns fs), rfl, ?_, fun _ _ _ _ _ r => r⟩
          rw [h2 i no, List.getElem?_set_self hi]
        | succ j =>
          obtain ⟨w1, w2, e1, e2, e3⟩ := h3 j k (by simpa using e)
          exact ⟨w1, w2, by simpa using e1, e2, e3⟩
    · cases h
  | some i :: ms, .l b0 ds :: ws, env, env', nd, h => by
    have h : (match env[i]? with | some (some (.l b _)) => putW ms ws (env.set i (some (.l b ds))) | _ => none) = some env' := h
    have nd' : i ∉ ms.filterMap id ∧ (ms.filterMap id).Nodup := by
      have : (i :: ms.filterMap id).Nodup := by simpa using nd
      exact List.nodup_cons.mp this
    split at h
    · rename_i b ds0 hw
      obtain ⟨h1, h2, h3⟩ := putW_ok nd'.2 h
      have hi : i < env.length := (List.getElem?_eq_some_iff.mp hw).1
      have no : ∀ j : Nat, ms[j]? ≠ some (some i) := fun j e => nd'.1 (List.mem_filterMap.mpr ⟨some i, List.mem_of_getElem? e, rfl⟩)
      refine ⟨by rw [h1, List.length_set], fun k hk => ?_, fun j k e => ?_⟩
      · have ne : k ≠ i := fun z => hk 0 (by simp [z])
        rw [h2 k fun j e => hk (j + 1) (by simpa using e), List.getElem?_set_ne (Ne.symm ne)]
      · cases j with
        | zero =>
          simp at e
          subst e
          refine ⟨.l b0 ds, .l b ds, rfl, ?_, fun _ _ _ _ _ r => r⟩
          rw [h2 i no, List.getElem?_set_self hi]
        | succ j =>
          obtain ⟨w1, w2, e1, e2, e3⟩ := h3 j k (by simpa using e)
          exact ⟨w1, w2, by simpa using e1, e2, e3⟩
    · cases h
  | some _ :: _, .v _ :: _, _, _, _, h => by cases h
  | some _ :: _, .m _ _ :: _, _, _, _, h => by cases h
  | some _ :: _, .x (.d _ _ _) :: _, _, _, _, h => by cases h
  | some _ :: _, .x (.t _) :: _, _, _, _, h => by cases h
  | [], _ :: _, _, _, _, h => by cases h
  | none :: _, [], _, _, _, h => by cases h
  | some _ :: _, [], _, _, _, h => by cases h
theorem ms_inj : ∀ {ms : List (Option Nat)} {j k i : Nat}, (ms.filterMap id).Nodup → ms[j]? = some (some i) → ms[k]? = some (some i) → j = k
  | [], j, k, i, _, e, _ => by simp at e
  | none :: ms, 0, _, i, _, e, _ => by simp at e
  | none :: ms, j + 1, 0, i, _, _, e => by simp at e
  | none :: ms, j + 1, k + 1, i, nd, e1, e2 => by
    have q := ms_inj (ms := ms) (j := j) (k := k) (i := i) (by simpa using nd) (by simpa using e1) (by simpa using e2)
    omega
  | some x :: ms, 0, 0, i, _, _, _ => rfl
  | some x :: ms, 0, k + 1, i, nd, e1, e2 => by
    have : (x :: ms.filterMap id).Nodup := by simpa using nd
    simp at e1
    subst e1
    have hm : x ∈ ms.filterMap id := List.mem_filterMap.mpr ⟨some x, List.mem_of_getElem? (i := k) (by simpa using e2), rfl⟩
    exact absurd hm (List.nodup_cons.mp this).1
  | some x :: ms, j + 1, 0, i, nd, e1, e2 => by
    have : (x :: ms.filterMap id).Nodup := by simpa using nd
    simp at e2
    subst e2
    have hm : x ∈ ms.filterMap id := List.mem_filterMap.mpr ⟨some x, List.mem_of_getElem? (i := j) (by simpa using e1), rfl⟩
    exact absurd hm (List.nodup_cons.mp this).1
  | some x :: ms, j + 1, k + 1, i, nd, e1, e2 => by
    have : (x :: ms.filterMap id).Nodup := by simpa using nd
    have q := ms_inj (ms := ms) (j := j) (k := k) (i := i) (List.nodup_cons.mp this).2 (by simpa using e1) (by simpa using e2)
    omega
theorem get_map_some {α : Type} {l : List α} {i : Nat} {x : α} (h : (l.map some)[i]? = some (some x)) : l[i]? = some x := by
  rw [List.getElem?_map] at h
  cases e : l[i]? with
  | none => rw [e] at h; cases h
  | some y => rw [e] at h; cases h; rfl
theorem get_some_map {α : Type} {l : List α} {i : Nat} {x : α} (h : l[i]? = some x) : (l.map some)[i]? = some (some x) := by
  rw [List.getElem?_map, h]; rfl

/-- what the callee is handed -/
def ownA (ms : List (Option Nat)) (own : Nat → Fp) : Nat → Fp := fun j a => ∃ i, ms[j]? = some (some i) ∧ own i a
/-- what the caller has behind the call -/
def ownC (ms : List (Option Nat)) (own ownA' : Nat → Fp) : Nat → Fp := fun i a => (∃ j : Nat, ms[j]? = some (some i) ∧ ownA' j a) ∨ ((∀ j : Nat, ms[j]? ≠ some (some i)) ∧ own i a)
theorem ownA_sub {ms : List (Option Nat)} {own : Nat → Fp} {a : Addr} (h : all (ownA ms own) a) : all own a := by
  obtain ⟨j, i, _, h⟩ := h
  exact ⟨i, h⟩
theorem sit_in {F : Hp} {env : DEnv} {own : Nat → Fp} {ms : List (Option Nat)} {vs : List V} {l : List (Option D)} {ws : List W} (nd : (ms.filterMap id).Nodup) (S : Sit K F σ H env own) (hh : Hand K F σ ms vs l) (ht : takeW env ms l = some ws) : ASit K F H vs ws (ownA ms own) := by
  obtain ⟨hl, hj⟩ := takeW_ok S hh ht
  refine ⟨S.ex, by rw [List.length_map, List.length_map, hl], fun j w e => ?_, fun j a h => ?_, fun j k a h1 h2 => ?_⟩
  · obtain ⟨v, e1, h⟩ := hj j w (get_map_some e)
    refine ⟨v, get_some_map e1, ?_⟩
    rcases h with ⟨hn, d, rfl, r⟩ | ⟨i, hm, r, _⟩
    · refine ⟨fun a z => ?_, r⟩
      obtain ⟨i, e2, _⟩ := z
      rw [hn] at e2
      cases e2
    · have e3 : ownA ms own j = own i := funext fun a => propext ⟨fun ⟨i', e4, z⟩ => by rw [hm] at e4; cases e4; exact z, fun z => ⟨i, hm, z⟩⟩
      rw [e3]
      exact r
  · obtain ⟨i, e, _⟩ := h
    have hjl : j < ws.length := by rw [hl, ← hh.len]; exact (List.getElem?_eq_some_iff.mp e).1
    exact ⟨ws[j], get_some_map (List.getElem?_eq_getElem hjl)⟩
  · obtain ⟨i, e1, z1⟩ := h1
    obtain ⟨i', e2, z2⟩ := h2
    have := S.dis i i' a z1 z2
    subst this
    exact ms_inj nd e1 e2
theorem sit_out {F H1 F3 H3 : Hp} {env env3 : DEnv} {own ownA' : Nat → Fp} {ms : List (Option Nat)} {vs : List V} {l : List (Option D)} {ws' : List W} {fpx : Fp} (nd : (ms.filterMap id).Nodup) (S : Sit K F σ H1 env own) (hh : Hand K F σ ms vs l)
    (S' : ASit K F3 H3 vs ws' ownA') (s : Step F H1 (all (ownA ms own)) F3 H3 fpx) (hx : ∀ a, all ownA' a → fpx a) (hp : putW ms ws' env = some env3) :
    Sit K F3 σ H3 env3 (ownC ms own ownA') ∧ Step F H1 (all own) F3 H3 (fun a => all (ownC ms own ownA') a ∨ fpx a) := by
  obtain ⟨p1, p2, p3⟩ := putW_ok nd hp
  have keyN : ∀ i a, (∀ j : Nat, ms[j]? ≠ some (some i)) → own i a → ¬ all (ownA ms own) a := fun i a hn hi z => by
    obtain ⟨j, i', e, z⟩ := z
    have := S.dis i i' a hi z
    subst this
    exact hn j e
  refine ⟨⟨S'.ex, by rw [p1]; exact S.len, fun i w e => ?_, fun i a h => ?_, fun i k a h1 h2 => ?_⟩, s.ex, fun a o h n => s.keep a o h fun z => n (ownA_sub z), fun a h => ?_, fun a o h n => (s.frz a o h n).imp_left ownA_sub⟩
  · by_cases hb : ∃ j : Nat, ms[j]? = some (some i)
    · obtain ⟨j, hj⟩ := hb
      obtain ⟨w1, w2, e1, e2, e3⟩ := p3 j i hj
      rw [e] at e2
      cases e2
      obtain ⟨v, hv, r⟩ := S'.rep j _ (get_some_map e1)
      replace r := e3 _ _ _ _ _ r
      obtain ⟨v', hv', hs⟩ := hh.slot hj
      have ev := get_map_some hv
      rw [hv'] at ev
      cases ev
      refine ⟨_, hs, ?_⟩
      have e3 : ownC ms own ownA' i = ownA' j := funext fun a => propext ⟨fun z => by
        rcases z with ⟨j', e4, z⟩ | ⟨z, _⟩
        · rw [ms_inj nd hj e4]; exact z
        · exact absurd hj (z j), fun z => .inl ⟨j, hj, z⟩⟩
      rw [e3]
      exact r
    · have hn : ∀ j : Nat, ms[j]? ≠ some (some i) := fun j z => hb ⟨j, z⟩
      rw [p2 i hn] at e
      obtain ⟨v, hv, r⟩ := S.rep i w e
      refine ⟨v, hv, ?_⟩
      have e3 : ownC ms own ownA' i = own i := funext fun a => propext ⟨fun z => by
        rcases z with ⟨j', e4, z⟩ | ⟨_, z⟩
        · exact absurd e4 (hn j')
        · exact z, fun z => .inr ⟨hn, z⟩⟩
      rw [e3]
      exact (RepW.stepW r (fun a q => keyN i a hn q) s).1
  · rcases h with ⟨j, e, z⟩ | ⟨hn, z⟩
    · obtain ⟨w1, w2, e1, e2, e3⟩ := p3 j i e
      exact ⟨_, e2⟩
    · obtain ⟨w, e⟩ := S.emp i a z
      exact ⟨w, by rw [p2 i hn]; exact e⟩
  · have mix : ∀ {i k : Nat} {j : Nat}, ms[j]? = some (some i) → ownA' j a → (∀ j : Nat, ms[j]? ≠ some (some k)) → own k a → False := fun {i k j} e z hn y => by
      rcases s.new a (hx a ⟨j, z⟩) with q | q
      · exact keyN k a hn y q
      · obtain ⟨⟨o, e⟩, _⟩ := S.there ⟨k, y⟩
        rw [q] at e
        cases e
    rcases h1 with ⟨j, e1, z1⟩ | ⟨n1, z1⟩ <;> rcases h2 with ⟨j', e2, z2⟩ | ⟨n2, z2⟩
    · have := S'.dis j j' a z1 z2
      subst this
      rw [e1] at e2
      cases e2
      rfl
    · exact (mix e1 z1 n2 z2).elim
    · exact (mix e2 z2 n1 z1).elim
    · exact S.dis i k a z1 z2
  · rcases h with ⟨i, z⟩ | z
    · rcases z with ⟨j, e, z⟩ | ⟨_, z⟩
      · exact (s.new a (hx a ⟨j, z⟩)).imp_left ownA_sub
      · exact .inl ⟨i, z⟩
    · exact (s.new a z).imp_left ownA_sub
end

section
variable {X : Cx} {Wx : WX} {k : Nat} {f : Addr} {fd : FuncData} {ps : List Str} {g : List W → RF} {x : Str} {p pos : Pos} {e : Expr} {es : List Expr} {fs : List (M U)} {ms : List (Option Nat)}
theorem call_sem {K : PySem.W.Frag} {mg : Str → Option Value} {n : Nat} {σ : L2.St} {H : Hp} {Q : VK} (nd : (ms.filterMap id).Nodup) (hn : ms.length = n) (h : tOf K mg Wx (callF g ms fs) σ H Q) :
    aOf K mg Wx (evs fs) σ H fun vs H1 => spOf K mg n g (vs ++ []) H1 Q (fun c d H' => Wx c d σ H') := by
  obtain ⟨F, env, own, S, h⟩ := h
  refine ⟨F, env, own, S, ?_⟩
  unfold callF at h
  cases e : evs fs env with
  | stuck => rw [e] at h; exact h
  | raise c env1 => rw [e] at h; exact h
  | ok us env1 =>
    rw [e, R.bind_ok] at h
    intro vs F1 H1 own1 q O
    rw [List.append_nil]
    cases e1 : frzM ms env1 us with
    | none => rw [e1] at h; exact h.elim
    | some pr =>
      obtain ⟨l, e2⟩ := pr
      rw [e1] at h
      dsimp only at h
      cases e3 : takeW e2 ms l with
      | none => rw [e3] at h; exact h.elim
      | some ws =>
        rw [e3] at h
        dsimp only at h
        obtain ⟨F2, own2, S2, hh, s2⟩ := frzM_ok O.S O.r O.d e1
        have s02 := O.s.trans s2
        refine ⟨by rw [← hh.len]; exact hn, F2, ws, ownA ms own2, sit_in nd S2 hh e3, ?_⟩
        cases e4 : g ws with
        | stuck => rw [e4] at h; exact h
        | ok w ws' =>
          rw [e4] at h
          dsimp only at h
          intro v F3 H3 ownA' pw O3
          cases e5 : putW ms ws' e2 with
          | none => rw [e5] at h; exact h.elim
          | some env3 =>
            rw [e5] at h
            obtain ⟨S4, s4⟩ := sit_out nd S2 hh O3.S O3.s (fun a z => .inl z) e5
            refine h v F3 H3 (ownC ms own2 ownA') pw ⟨S4, O3.r, fun a z y => ?_, (s02.trans s4).sub fun a z => z.imp_right .inr⟩
            obtain ⟨i, y⟩ := y
            rcases y with ⟨j, _, y⟩ | ⟨hnn, y⟩
            · exact O3.d a z ⟨j, y⟩
            · rcases O3.s.new a (.inr z) with q | q
              · obtain ⟨j, i', e6, q⟩ := q
                have := S2.dis i i' a y q
                subst this
                exact hnn j e6
              · obtain ⟨⟨o, e6⟩, _⟩ := S2.there ⟨i, y⟩
                rw [q] at e6
                cases e6
        | raise c ws' =>
          rw [e4] at h
          dsimp only at h
          intro C F3 H3 ownA' hm S3 s3
          cases e5 : putW ms ws' e2 with
          | none => rw [e5] at h; exact h.elim
          | some env3 =>
            rw [e5] at h
            obtain ⟨S4, s4⟩ := sit_out nd S2 hh S3 s3 (fun a z => z) e5
            exact h C F3 H3 (ownC ms own2 ownA') hm ⟨S4, (s02.trans s4).sub fun a z => .inl z⟩
theorem e_call (G : FnS X.prog X.w X.K X.mg X.base k f fd ps g) (tk : Takes X Wx) (hr : Room k X.A) (hg : Gl X x) (hm : X.mg x = some (.ref f)) (hk : PySem.W.keepIn X.K (.ref f) = true) (hb : Binds X.K fd ps []) (ha : EaS X Wx (e :: es) fs)
    (nd : (ms.filterMap id).Nodup) (hn : ms.length = ps.length) (hdb : (x == ("__debug__" : Str)) = false := by decide) (he : starEach (e :: es) X.env = (false, eval e X.env) :: starEach es X.env := by rfl) (hpl : (backTo pos (starEach es X.env)).any (·.1) = false := by rfl) :
    EvS X Wx (.Call (.Name x p) (e :: es) [] pos) (callF g ms fs) :=
  PE.imp (pe_callSD (E := fun σ c d H' => Wx c d σ H') G hr hg hm hk hb .nil (fun σ => passAt tk σ) ha hdb he hpl) fun σ H Q h => call_sem nd hn h
end
end DL

/-! enumerate(tuple) -/
namespace PySem
set_option maxHeartbeats 1000000 in
theorem dl_enum_newB {v : Value} {o : Obj} {H : Heap → Prop} (B : Begins v o H) :
    Meets (Builtin.«enumerate.__new__» ⟨[.type "enumerate", v], []⟩) (fun _ R s => H s.heap ∧
      R (.ok (.ret (.ref (s.heap.push o).objs.size))) { s with heap := (s.heap.push o).push { cls := .type "enumerate", data := .fields #[.none, .bool false, .ref s.heap.objs.size, rawInt 0, .none, .none] } }) :=
  .of_wp fun prog w A R s h => by
    obtain ⟨hp, g, d, tk, os⟩ := s; obtain ⟨h1, h⟩ := h
    have hsub := sub_enumerate
    have q1 : ∀ {A' : Around} {E : Value → Shared → Prop} {Q : Value → Shared → Prop}, Q (.ref hp.objs.size) ⟨hp.push o, g, d, tk, os⟩ → wpAny (model prog w) A' (pyIter v) Q E ⟨hp, g, d, tk, os⟩ :=
      fun q => B.iter prog w _ _ ⟨hp, g, d, tk, os⟩ _ h1 q
    wp_walk using q1
    refine wpAny_stack_any fun st => wpAny_pure ?_
    split
    · rename_i c _ _ _ _ _
      cases (c == Value.type "enumerate")
      · wp_walk using q1
        exact ⟨_, rfl, h⟩
      · wp_walk using q1
        exact ⟨_, rfl, h⟩
    · wp_walk using q1
      exact ⟨_, rfl, h⟩
section
variable {prog : Program} {w : World} {A : Around} {E : Value → Shared → Prop} {s : Shared}
theorem dl_enum_begins {v : Value} {o : Obj} {H : Heap → Prop} {Q : Value → Shared → Prop} (B : Begins v o H) (h1 : H s.heap)
    (h : ∀ h', IsEnum h' (s.heap.objs.size + 1) s.heap.objs.size 0 .none → h'.get? s.heap.objs.size = some o → h'.objs.size = s.heap.objs.size + 2 →
      (∀ b o, s.heap.get? b = some o → h'.get? b = some o) → Q (.ref (s.heap.objs.size + 1)) { s with heap := h' }) :
    wpAny (model prog w) A (call (.type "enumerate") [v]) Q E s := by
  refine callType_new F.called_enumerate (by decide) (F.typeCall_enumerate_1 _) (F.newCall_enumerate_1 _) (fun obj => F.args_object_init_2 obj _) F.entry_enumerate_new
    (dl_enum_newB B) ⟨h1, ?_⟩
  have hz : (s.heap.push o).objs.size = s.heap.objs.size + 1 := Heap.size_push ..
  show _ ∧ _
  rw [hz]
  have he : IsEnum ((s.heap.push o).push { cls := .type "enumerate", data := .fields #[.none, .bool false, .ref s.heap.objs.size, rawInt 0, .none, .none] }) (s.heap.objs.size + 1) s.heap.objs.size 0 .none := by
    have := Heap.get?_push_size (s.heap.push o) (o := { cls := .type "enumerate", data := .fields #[.none, .bool false, .ref s.heap.objs.size, rawInt 0, .none, .none] }) rfl
    rw [hz] at this; exact this
  refine ⟨⟨_, he, rfl⟩, h _ he (Heap.get?_push_of_some _ (Heap.get?_push_size _ B.free)) (by rw [Heap.size_push, hz]) fun b o x => Heap.get?_push_of_some _ (Heap.get?_push_of_some _ x)⟩
end
end PySem
namespace DL
open PySem PySem.Spec PyProof.Rows L2
def IteT (K : PySem.W.Frag) (a : Addr) : It :=
  ⟨fun i H => ∃ (xs : List V) (x : V), SqT K H a xs ∧ xs[i]? = some x, fun i H v H' => ∃ T x, v = .ref T ∧ H T = none ∧ H' = upd H T (.tup [.int (i : Nat), x]) ∧ ∀ xs, SqT K H a xs → xs[i]? = some x, fun i H => ∃ xs : List V, SqT K H a xs ∧ xs.length = i⟩
theorem turn_enumT {P : Program} {w : World} {K : PySem.W.Frag} {elts : List Expr} {kk : Nat} {tpos : Pos} (a e it : Addr) (items : Array Value) :
    Turn P w K (.Tuple elts kk tpos) (IteT K a) [e, it] e (fun i h => (∃ old, IsEnum h e it ((i : Nat) : Int) old) ∧ h.IsTupleIter it a i ∧ e ≠ it ∧ a ≠ it ∧ e ≠ a) where
  mem := by simp
  obj := fun i h st b hb => by
    obtain ⟨⟨old, he⟩, ⟨o, ho, hc, hd⟩, _⟩ := st
    have e' : b = e ∨ b = it := by simpa using hb
    rcases e' with z | z
    · rw [z]; exact ⟨_, he, fun v q => nomatch q⟩
    · rw [z]; exact ⟨o, ho, fun v q => by rw [hd] at q; cases q⟩
  keep := fun i h h' st k => let ⟨⟨old, he⟩, hi, hne⟩ := st; ⟨⟨old, k e (by simp) _ he⟩, hi.at fun o q => k it (by simp) o q, hne⟩
  item := by
    intro X hP hw hK hc i pins s σ H E I hf st hg
    subst hP hw hK
    obtain ⟨⟨old, he⟩, hit, hne, hne2, hne3⟩ := st
    obtain ⟨xs, x, hq, hx⟩ := hg
    obtain ⟨its, rv, p, hz⟩ := I.tuple hq
    obtain ⟨u, hu, ru⟩ := rv.get hx
    have hel : e < s.heap.objs.size := Heap.lt_size he
    have hil : it < s.heap.objs.size := by obtain ⟨_, q, _⟩ := hit; exact Heap.lt_size q
    have hi : i < its.toArray.size := by
      rw [List.size_toArray]
      exact (List.getElem?_eq_some_iff.mp hu).1
    refine wpAny_pyNext_enum_itemD (Draws.tuple (A := X.A.in1) (I.ok.hd hc) it a hne2 its.toArray) he ⟨hit, p⟩ hi hne (by simp [hne, hne3]) fun u' h' tk hu' ho hst' hT hsz hk => ?_
    have eu : u' = u := by
      have : its.toArray[i]? = some u' := hu'
      have q : its[i]? = some u' := by simpa using this
      rw [hu] at q
      exact (Option.some.inj q).symm
    subst eu
    refine ⟨_, rfl, wpAny_letOwnedTupleGo_enum (s := { s with heap := h', toks := tk + 1 }) ho fun h'' he' sb => ?_⟩
    have hT2 : h''.get? s.heap.objs.size = some { cls := .type "tuple", data := .seq #[.int i tk, u'] } := (sb.2 _ (Nat.ne_of_gt hel)).trans hT
    have new : ObjOk X.prog X.w (upd H s.heap.objs.size (.tup [.int (i : Nat), x])) h'' s.heap.objs.size (.tup [.int (i : Nat), x]) :=
      ⟨by show 2 ≤ sizeLine; decide, [.int i tk, u'], .cons ⟨_, rfl⟩ (.cons ru .nil), ⟨_, hT2, rfl, _, rfl⟩⟩
    have I1 : Inv X pins σ (upd H s.heap.objs.size (.tup [.int (i : Nat), x])) { s with heap := h'', toks := tk + 1 } :=
      I.turnedNew (ch := [e, it]) (fun b ob hb q => (sb.2 b (fun z => hb (by simp [z]))).trans (hk b ob (fun z => hb (by simp [z])) (fun z => hb (by simp [z])) q)) hf (Nat.le_refl _) new
    refine ⟨.ref s.heap.objs.size, _, I1, rfl, ⟨_, x, rfl, I.hok.fresh (Nat.le_refl _), rfl, fun ys hy => by rw [I.tuple_inj hy hq]; exact hx⟩, ⟨⟨u', ?_⟩, hst'.1.at fun o q => (sb.2 it (Ne.symm hne)).trans q, hne, hne2, hne3⟩, fun b hb => ?_⟩
    · have e1 : ((i + 1 : Nat) : Int) = (i : Int) + 1 := by omega
      rw [e1]; exact he'
    · have hb' : b < s.heap.objs.size := by
        have e' : b = e ∨ b = it := by simpa using hb
        rcases e' with z | z
        · rw [z]; exact hel
        · rw [z]; exact hil
      rw [upd_ne (Nat.ne_of_lt hb')]
      exact (hf b hb).1
  done := by
    intro X hP hw hK hc i pins s σ H E I hf st hg
    subst hP hw hK
    obtain ⟨⟨old, he⟩, hit, hne, hne2, hne3⟩ := st
    obtain ⟨xs, hq, hx⟩ := hg
    obtain ⟨its, rv, p, hz⟩ := I.tuple hq
    obtain ⟨f0, f1, f2, f3, f4, f5⟩ := hf it (by simp)
    have hl := rv.length
    have hst : s.heap.IsTupleIter it a its.toArray.size ∧ s.heap.IsTuple a its.toArray := by
      rw [List.size_toArray, ← hl, hx]
      exact ⟨hit, p⟩
    exact wpAny_pyNext_enum_endD (Draws.tuple (A := X.A.in1) (I.ok.hd hc) it a hne2 its.toArray) he hst fun h' eb => ⟨rfl, I.turned (t' := s.toks) (fun b o hb q => eb b o hb q) f0 f1 f3 f4 f5⟩
  self := fun A i s Q E st h => let ⟨⟨_, he⟩, _⟩ := st; wpAny_pyIter_enum he h
/-- enumerate of a list or a tuple -/
def iEnumA (K : PySem.W.Frag) (ta : TA) : TI := fun σ H R => ta σ H fun vs H1 => ∃ a xs, vs = [.ref a] ∧ ((SqL K H1 a xs ∧ R (Ite K a) H1) ∨ (SqT K H1 a xs ∧ R (IteT K a) H1))
theorem pi_enumA {X : Cx} {e : Expr} {ta : TA} {p pos tpos : Pos} {elts : List Expr} {kk : Nat} (hg : Gl X "enumerate") (hm : X.mg "enumerate" = none) (ha : PA X [e] ta) (hs : starEach [e] X.env = [(false, eval e X.env)] := by rfl) :
    PI X (.Tuple elts kk tpos) (.Call (.Name "enumerate" p) [e] [] pos) (iEnumA X.K ta) := by
  refine ⟨fun pins s σ H R I h => ?_⟩
  refine Call_ (ld_blt I hg hm boot_enumerate (PyProof.Rows.callWith_type1 (thn (ha.run pos pins s σ H _ I h) fun us s1 ⟨vs, H1, I1, r1, q1⟩ => ?_) hs rfl))
  obtain ⟨a, xs, ex, q⟩ := q1
  subst ex
  cases r1 with
  | cons r rr =>
    cases rr
    cases r
    rcases q with ⟨hq, q⟩ | ⟨hq, q⟩
    · obtain ⟨its, rv, p', hz⟩ := I1.list hq
      refine call_enumerate_list p'.isList fun h' he hit hsz hk => wpAny_pyIter_enum he ?_
      have I2 : Inv X pins σ H1 { s1 with heap := h' } := I1.kept (t' := s1.toks) hk
      refine ⟨s1.heap.objs.size + 1, [s1.heap.objs.size + 1, s1.heap.objs.size], _, _, H1, rfl, I2, turn_enum a (s1.heap.objs.size + 1) s1.heap.objs.size, ⟨⟨.none, he⟩, hit, Nat.succ_ne_self _⟩, fun b hb => ?_, q⟩
      have e' : b = s1.heap.objs.size + 1 ∨ b = s1.heap.objs.size := by simpa using hb
      have hle : s1.heap.objs.size ≤ b := by
        rcases e' with z | z
        · rw [z]; exact Nat.le_add_right _ _
        · rw [z]; exact Nat.le_refl _
      exact I1.fpOk hle (I1.hok.fresh hle)
    · obtain ⟨its, rv, p', hz⟩ := I1.tuple hq
      have hal : a < s1.heap.objs.size := by obtain ⟨_, e, _⟩ := p'; exact Heap.lt_size e
      refine dl_enum_begins (begins_tuple a its.toArray) p' fun h' he hit hsz hk => wpAny_pyIter_enum he ?_
      have I2 : Inv X pins σ H1 { s1 with heap := h' } := I1.kept (t' := s1.toks) hk
      refine ⟨s1.heap.objs.size + 1, [s1.heap.objs.size + 1, s1.heap.objs.size], _, _, H1, rfl, I2, turn_enumT a (s1.heap.objs.size + 1) s1.heap.objs.size its.toArray, ⟨⟨.none, he⟩, ⟨_, hit, rfl, rfl⟩, Nat.succ_ne_self _, Nat.ne_of_lt hal, Nat.ne_of_gt (Nat.lt_succ_of_lt hal)⟩, fun b hb => ?_, q⟩
      have e' : b = s1.heap.objs.size + 1 ∨ b = s1.heap.objs.size := by simpa using hb
      have hle : s1.heap.objs.size ≤ b := by
        rcases e' with z | z
        · rw [z]; exact Nat.le_add_right _ _
        · rw [z]; exact Nat.le_refl _
      exact I1.fpOk hle (I1.hok.fresh hle)
/-- a list or a tuple walked -/
def iSeq (K : PySem.W.Frag) (tl : TE) : TI := fun σ H R => tl σ H fun x H1 => ∃ a xs, x = .ref a ∧ ((SqL K H1 a xs ∧ R (Itl K a) H1) ∨ (SqT K H1 a xs ∧ R (Itt K a) H1))
theorem pi_seq {X : Cx} {tg l : Expr} {tl : TE} (hl : PE X l tl) : PI X tg l (iSeq X.K tl) := by
  refine ⟨fun pins s σ H R I h => ?_⟩
  refine thn (hl.run pins s σ H _ I h) fun v s1 ⟨x, H1, I1, r1, q1⟩ => ?_
  obtain ⟨a, xs, e, q⟩ := q1
  subst e
  cases r1
  rcases q with ⟨hq, q⟩ | ⟨hq, q⟩
  · obtain ⟨its, rv, p, hz⟩ := I1.list hq
    refine wpAny_pyIter_list p.isList ?_
    refine ⟨s1.heap.objs.size, [s1.heap.objs.size], _, _, H1, rfl, I1.kept (t' := s1.toks) fun b o e => Heap.get?_push_of_some _ e, turn_list a _, ⟨_, Heap.get?_push_size _ rfl, rfl, rfl⟩, fun b hb => ?_, q⟩
    have e : b = s1.heap.objs.size := by simpa using hb
    subst e
    exact I1.fpOk (Nat.le_refl _) (I1.hok.fresh (Nat.le_refl _))
  · obtain ⟨its, rv, p, hz⟩ := I1.tuple hq
    refine wpAny_pyIter_tuple (show s1.heap.IsTuple a its.toArray from p) ?_
    refine ⟨s1.heap.objs.size, [s1.heap.objs.size], _, _, H1, rfl, I1.kept (t' := s1.toks) fun b o e => Heap.get?_push_of_some _ e, turn_tuple a _, ⟨_, Heap.get?_push_size _ rfl, rfl, rfl⟩, fun b hb => ?_, q⟩
    have e : b = s1.heap.objs.size := by simpa using hb
    subst e
    exact I1.fpOk (Nat.le_refl _) (I1.hok.fresh (Nat.le_refl _))
end DL

namespace DL
open PySem PySem.Spec PyProof.Rows L2

/-! ### names stored -/
def ownU (env : DEnv) : U → Option (W × DEnv)
  | .w (.v d) => some (.v d, env)
  | .w (.l _ ds) => some (.l false ds, env)
  | .w (.m ks ds) => some (.m ks ds, env)
  | .w (.x (.d k ks ds)) => some (.x (.d k ks ds), env)
  | .w (.x (.o _ c ns fs)) => some (.x (.o false c ns fs), env)
  | .w (.x (.t _)) => none
  | .b i => match frz1 env (.b i) with
    | some (d, e) => some (.v d, e)
    | none => none
def setS (i : Nat) (w : W) (env : DEnv) : Option DEnv := match env[i]? with
  | some (some (.l true _)) => none
  | some (some (.x (.o true _ _ _))) => none
  | some _ => some (env.set i (some w))
  | none => none
section
variable {K : PySem.W.Frag} {F H F1 H1 : Hp} {σ σ1 : L2.St} {env env1 env' : DEnv} {own own1 : Nat → Fp} {p : Fp}
theorem ownU_ok {u : U} {v : V} {w : W} (O : Out K F H own σ u v env1 F1 H1 own1 p) (h : ownU env1 u = some (w, env')) : ∃ F2 own2 p2, Out K F H own σ (.w w) v env' F2 H1 own2 p2 := by
  cases u with
  | w x =>
    cases x with
    | v d => cases h; exact ⟨F1, own1, p, O⟩
    | l b ds =>
      cases h
      exact ⟨F1, own1, p, O.S, O.r, O.d, O.s⟩
    | m ks ds => cases h; exact ⟨F1, own1, p, O⟩
    | x y =>
      cases y with
      | d k ks ds => cases h; exact ⟨F1, own1, p, O⟩
      | o b c ns fs => cases h; exact ⟨F1, own1, p, O.S, O.r, O.d, O.s⟩
      | t fs => cases h
  | b i =>
    have h : (match frz1 env1 (.b i) with | some (d, e) => some (W.v d, e) | none => none) = some (w, env') := h
    split at h
    · rename_i d e he
      cases h
      obtain ⟨F2, own2, r2, O2⟩ := O.frz he
      exact ⟨F2, own2, _, (Grow.refl O2.S.ex).out O2 (RepW.ofRep r2)⟩
    · cases h
theorem setS_ok {i : Nat} {v : V} {w : W} (S : Sit K F σ H env own) (r : RepW K F H v w p) (d : ∀ a, p a → ¬ all own a) (h : setS i w env = some env') : ∃ own', Sit K F (σ.set i (some v)) H env' own' ∧ ∀ a, all own' a → all own a ∨ p a := by
  have hi : i < env.length ∧ env' = env.set i (some w) := by
    unfold setS at h
    split at h
    · cases h
    · cases h
    · rename_i x hx
      cases h
      exact ⟨(List.getElem?_eq_some_iff.mp hx).1, rfl⟩
    · cases h
  obtain ⟨hi, rfl⟩ := hi
  have hσ : i < σ.length := by rw [← S.len]; exact hi
  refine ⟨fun j a => (j = i ∧ p a) ∨ (j ≠ i ∧ own j a), ⟨S.ex, by rw [List.length_set, List.length_set]; exact S.len, fun j w' e => ?_, fun j a z => ?_, fun j k a z1 z2 => ?_⟩, fun a z => ?_⟩
  · by_cases hj : j = i
    · subst hj
      rw [List.getElem?_set_self hi] at e
      cases e
      refine ⟨v, List.getElem?_set_self hσ, ?_⟩
      have e2 : (fun a => (j = j ∧ p a) ∨ (j ≠ j ∧ own j a)) = p := funext fun a => propext ⟨fun z => z.elim (fun y => y.2) fun y => absurd rfl y.1, fun z => .inl ⟨rfl, z⟩⟩
      show RepW K F H v w (fun a => (j = j ∧ p a) ∨ (j ≠ j ∧ own j a))
      rw [e2]
      exact r
    · rw [List.getElem?_set_ne (Ne.symm hj)] at e
      obtain ⟨v', e1, r'⟩ := S.rep j w' e
      refine ⟨v', by rw [List.getElem?_set_ne (Ne.symm hj)]; exact e1, ?_⟩
      have e2 : (fun a => (j = i ∧ p a) ∨ (j ≠ i ∧ own j a)) = own j := funext fun a => propext ⟨fun z => z.elim (fun y => absurd y.1 hj) fun y => y.2, fun z => .inr ⟨hj, z⟩⟩
      show RepW K F H v' w' (fun a => (j = i ∧ p a) ∨ (j ≠ i ∧ own j a))
      rw [e2]
      exact r'
  · rcases z with ⟨rfl, _⟩ | ⟨hj, z⟩
    · exact ⟨w, List.getElem?_set_self hi⟩
    · obtain ⟨w', e⟩ := S.emp j a z
      exact ⟨w', by rw [List.getElem?_set_ne (Ne.symm hj)]; exact e⟩
  · rcases z1 with ⟨h1, y1⟩ | ⟨h1, y1⟩ <;> rcases z2 with ⟨h2, y2⟩ | ⟨h2, y2⟩
    · rw [h1, h2]
    · exact absurd ⟨k, y2⟩ (d a y1)
    · exact absurd ⟨j, y1⟩ (d a y2)
    · exact S.dis j k a y1 y2
  · obtain ⟨j, z⟩ := z
    rcases z with ⟨_, z⟩ | ⟨_, z⟩
    · exact .inr z
    · exact .inl ⟨j, z⟩
theorem Out.set {i : Nat} {v : V} {w : W} (O : Out K F H own σ (.w w) v env1 F1 H1 own1 p) (h : setS i w env1 = some env') : ∃ own', OutR K F H own (σ.set i (some v)) env' F1 H1 own' := by
  obtain ⟨own', S', hs⟩ := setS_ok O.S O.r O.d h
  exact ⟨own', S', O.s.sub fun a z => hs a z⟩
end

/-! ### targets -/
abbrev MT := D → DEnv → Option DEnv
abbrev MTs := List D → DEnv → Option DEnv
def gOf (K : PySem.W.Frag) (is : List Nat) (m : MT) : TG := fun v σ H Q => ∃ F env own d, Sit K F σ H env own ∧ RepD K F v d ∧ match m d env with
  | some env' => ∀ σ' F' H' own', Only is σ σ' → OutR K F H own σ' env' F' H' own' → Q σ' H'
  | none => False
def gsOf (K : PySem.W.Frag) (is : List Nat) (m : MTs) : TGs := fun vs σ H Q => ∃ F env own ds, Sit K F σ H env own ∧ RepDs K F vs ds ∧ match m ds env with
  | some env' => ∀ σ' F' H' own', Only is σ σ' → OutR K F H own σ' env' F' H' own' → Q σ' H'
  | none => False
abbrev TgS (X : Cx) (tg : Expr) (is : List Nat) (m : MT) : Prop := PG X tg (gOf X.K is m)
abbrev TgsS (X : Cx) (tgs : List Expr) (is : List Nat) (m : MTs) : Prop := PGs X tgs (gsOf X.K is m)
theorem PG.imp {X : Cx} {e : Expr} {t t' : TG} (h : PG X e t) (i : ∀ v σ H Q, t' v σ H Q → t v σ H Q) : PG X e t' := ⟨fun pins s σ H v u Q I r q => h.run pins s σ H v u Q I r (i v σ H Q q)⟩
theorem PGs.imp {X : Cx} {e : List Expr} {t t' : TGs} (h : PGs X e t) (i : ∀ v σ H Q, t' v σ H Q → t v σ H Q) : PGs X e t' := ⟨fun pins s σ H v u Q I r q => h.run pins s σ H v u Q I r (i v σ H Q q)⟩
def mName (i : Nat) : MT := fun d env => setS i (.v d) env
def mNil : MTs := fun ds env => match ds with
  | [] => some env
  | _ => none
def mCons (m : MT) (ms : MTs) : MTs := fun ds env => match ds with
  | d :: r => (m d env).bind fun e => ms r e
  | [] => none
def mTup (ms : MTs) (n : Nat) : MT := fun d env => match d with
  | .tup ds => if ds.length = n then ms ds env else none
  | _ => none
section
variable {X : Cx} {pos : Pos}
theorem g_name {i : Nat} {x : Str} (hN : X.N.Nodup) (hi : X.N[i]? = some x) (hx : Loc X.env.scope x) (hf : X.fn x = true ∨ X.env.scope.names.lookup x = some .local := by first | exact .inl rfl | exact .inr rfl | assumption) : TgS X (.Name x pos) [i] (mName i) := PG.imp (pg_name hN hi hx hf) fun v σ H Q h => by
  obtain ⟨F, env, own, d, S, r, h⟩ := h
  unfold mName at h
  cases e : setS i (.v d) env with
  | none => rw [e] at h; exact h.elim
  | some env' =>
    rw [e] at h
    obtain ⟨own', O⟩ := ((Grow.refl S.ex).out (OutR.refl S) (RepW.ofRep r)).set e
    exact h _ _ _ _ ⟨List.length_set, fun j hj => List.getElem?_set_ne fun z => hj (by simp [z])⟩ O
theorem gs_nil : TgsS X [] [] mNil := PGs.imp pgs_nil fun vs σ H Q h => by
  obtain ⟨F, env, own, ds, S, r, h⟩ := h
  unfold mNil at h
  cases r with
  | nil => exact ⟨rfl, h _ _ _ _ Only.refl (OutR.refl S)⟩
  | cons _ _ => exact h.elim
theorem gs_cons {e : Expr} {es : List Expr} {is js : List Nat} {m : MT} {ms : MTs} (h1 : TgS X e is m) (h2 : TgsS X es js ms) (hs : (assignEach (e :: es) X.env).map (·.2) = assign e X.env :: (assignEach es X.env).map (·.2) := by rfl) : TgsS X (e :: es) (is ++ js) (mCons m ms) := PGs.imp (pgs_cons h1 h2 hs) fun vs σ H Q h => by
  obtain ⟨F, env, own, ds, S, r, h⟩ := h
  unfold mCons at h
  cases r with
  | nil => exact h.elim
  | cons rd rs =>
    rename_i v d vs ds
    dsimp only at h
    refine ⟨v, vs, rfl, F, env, own, d, S, rd, ?_⟩
    cases e1 : m d env with
    | none => rw [e1] at h; exact h
    | some env1 =>
      rw [e1, Option.bind_some] at h
      intro σ1 F1 H1 own1 y1 O1
      refine ⟨F1, env1, own1, ds, O1.S, rs.mono O1.s.ex, ?_⟩
      cases e2 : ms ds env1 with
      | none => rw [e2] at h; exact h
      | some env2 =>
        rw [e2] at h
        exact fun σ2 F2 H2 own2 y2 O2 => h _ _ _ _ (y1.trans y2) (O1.trans O2)
theorem g_tup {es : List Expr} {k n : Nat} {is : List Nat} {ms : MTs} (hc : X.calm = true) (h : TgsS X es is ms) (hn : (assignEach es X.env).length = n := by rfl) (hst : (assignEach es X.env).findIdx? (·.1) = none := by rfl) : TgS X (.Tuple es k pos) is (mTup ms n) := PG.imp (pg_tup hc h hn hst) fun v σ H Q h => by
  obtain ⟨F, env, own, d, S, r, h⟩ := h
  unfold mTup at h
  cases r with
  | tup q rs =>
    rename_i a vs ds
    dsimp only at h
    by_cases hl : ds.length = n
    · rw [if_pos hl] at h
      exact ⟨a, vs, rfl, SqT.of (S.ex _ _ q), by rw [rs.length]; exact hl, F, env, own, ds, S, rs, h⟩
    · rw [if_neg hl] at h; exact h.elim
  | _ => exact h.elim
end

/-! ### what is walked -/
structure Feeds (K : PySem.W.Frag) (J : It) (F0 : Hp) (ds : List D) : Prop where
  go : ∀ F H i, Same F0 F → Same F H → i < ds.length → J.go i H
  yld : ∀ F H i x H' d, Same F0 F → Same F H → ds[i]? = some d → J.yld i H x H' → ∃ F', Grow F H F' H' (fun _ => False) ∧ RepD K F' x d
  stop : ∀ F H, Same F0 F → Same F H → J.stop ds.length H
def iOf (K : PySem.W.Frag) (mg : Str → Option Value) (Wx : WX) (f : M (List D)) : TI := fun σ H R => ∃ F env own, Sit K F σ H env own ∧ match f env with
  | .ok ds env' => ∀ J F' H' own', OutR K F H own σ env' F' H' own' → Feeds K J F' ds → R J H'
  | .raise c env' => ∀ C F' H' own', mg c = some (.ref C) → OutR K F H own σ env' F' H' own' → Wx (.ref C) none σ H'
  | .stuck => False
abbrev ItS (X : Cx) (Wx : WX) (tg e : Expr) (f : M (List D)) : Prop := PI X tg e (iOf X.K X.mg Wx f)
theorem PI.imp {X : Cx} {tg e : Expr} {t t' : TI} (h : PI X tg e t) (i : ∀ σ H R, t' σ H R → t σ H R) : PI X tg e t' := ⟨fun pins s σ H R I q => h.run pins s σ H R I (i σ H R q)⟩
def seqOf : D → Option (List D)
  | .lst ds => some ds
  | .tup ds => some ds
  | _ => none
def iterSeq (f : M U) : M (List D) := fun env => (f env).bind fun u e1 => match frz1 e1 u with
  | some (d, e2) => (match seqOf d with
    | some ds => .ok ds e2
    | none => .stuck)
  | none => .stuck
def pairs0 (ds : List D) : List D := (ds.zipIdx).map fun p => .tup [.int (p.2 : Nat), p.1]
def iterEnum (f : M U) : M (List D) := fun env => (iterSeq f env).bind fun ds e => .ok (pairs0 ds) e
def rangeD (lo hi : Int) : List D := (List.range (hi - lo).toNat).map fun i => .int (lo + (i : Nat))
def iterR1 (f : M U) : M (List D) := fun env => (evs [f] env).bind fun us e1 => match datL e1 us with
  | some [.int n] => if -(2 ^ 62) ≤ n ∧ n < 2 ^ 62 then .ok (rangeD 0 n) e1 else .stuck
  | _ => .stuck
def iterR2 (f g : M U) : M (List D) := fun env => (evs [f, g] env).bind fun us e1 => match datL e1 us with
  | some [.int m, .int n] => if (-(2 ^ 62) ≤ m ∧ m < 2 ^ 62) ∧ (-(2 ^ 62) ≤ n ∧ n < 2 ^ 62) then .ok (rangeD m n) e1 else .stuck
  | _ => .stuck
section
variable {X : Cx} {Wx : WX} {tg e a b : Expr} {f fa fb : M U} {pos p tpos : Pos}
theorem feeds_l {K : PySem.W.Frag} {F0 : Hp} {a : Addr} {vs : List V} {ds : List D} (h : Rd F0 a (.lst vs)) (r : RepDs K F0 vs ds) : Feeds K (Itl K a) F0 ds where
  go := fun F H i e1 e2 hi => by
    have hv : i < vs.length := by rw [r.length]; exact hi
    exact ⟨vs, vs[i], .inl (sameL (e1.trans e2) h), List.getElem?_eq_getElem hv⟩
  yld := fun F H i x H' d e1 e2 hd y => by
    obtain ⟨rfl, y⟩ := y
    obtain ⟨v, h1, h2⟩ := r.get hd
    have := y vs (.inl (sameL (e1.trans e2) h))
    rw [h1] at this
    cases this
    exact ⟨F, Grow.refl e2, h2.mono e1⟩
  stop := fun F H e1 e2 => ⟨vs, .inl (sameL (e1.trans e2) h), Nat.le_of_eq r.length⟩
theorem feeds_t {K : PySem.W.Frag} {F0 : Hp} {a : Addr} {vs : List V} {ds : List D} (h : SqT K F0 a vs) (r : RepDs K F0 vs ds) : Feeds K (Itt K a) F0 ds where
  go := fun F H i e1 e2 hi => by
    have hv : i < vs.length := by rw [r.length]; exact hi
    exact ⟨vs, vs[i], sameT (e1.trans e2) h, List.getElem?_eq_getElem hv⟩
  yld := fun F H i x H' d e1 e2 hd y => by
    obtain ⟨rfl, y⟩ := y
    obtain ⟨v, h1, h2⟩ := r.get hd
    have := y vs (sameT (e1.trans e2) h)
    rw [h1] at this
    cases this
    exact ⟨F, Grow.refl e2, h2.mono e1⟩
  stop := fun F H e1 e2 => ⟨vs, sameT (e1.trans e2) h, Nat.le_of_eq r.length⟩
theorem pairs0_get {ds : List D} {i : Nat} {d : D} (h : (pairs0 ds)[i]? = some d) : ∃ x, ds[i]? = some x ∧ d = .tup [.int (i : Nat), x] := by
  unfold pairs0 at h
  rw [List.getElem?_map, List.getElem?_zipIdx] at h
  cases e : ds[i]? with
  | none => rw [e] at h; cases h
  | some x => rw [e] at h; simp at h; exact ⟨x, rfl, h.symm⟩
theorem pairs0_len (ds : List D) : (pairs0 ds).length = ds.length := by unfold pairs0; simp
theorem feeds_el {K : PySem.W.Frag} {F0 : Hp} {a : Addr} {vs : List V} {ds : List D} (h : Rd F0 a (.lst vs)) (r : RepDs K F0 vs ds) : Feeds K (Ite K a) F0 (pairs0 ds) where
  go := fun F H i e1 e2 hi => by
    rw [pairs0_len] at hi
    have hv : i < vs.length := by rw [r.length]; exact hi
    exact ⟨vs, vs[i], .inl (sameL (e1.trans e2) h), List.getElem?_eq_getElem hv⟩
  yld := fun F H i x H' d e1 e2 hd y => by
    obtain ⟨T, x, rfl, nT, rfl, y⟩ := y
    obtain ⟨dx, hx, rfl⟩ := pairs0_get hd
    obtain ⟨v, h1, h2⟩ := r.get hx
    have := y vs (.inl (sameL (e1.trans e2) h))
    rw [h1] at this
    cases this
    exact ⟨upd F T (.tup [.int (i : Nat), x]), Grow.data e2 nT, .tup upd_same (.cons (.int _) (.cons ((h2.mono e1).mono (same_upd (sub_none e2 nT))) .nil))⟩
  stop := fun F H e1 e2 => ⟨vs, .inl (sameL (e1.trans e2) h), by rw [pairs0_len]; exact Nat.le_of_eq r.length⟩
theorem feeds_et {K : PySem.W.Frag} {F0 : Hp} {a : Addr} {vs : List V} {ds : List D} (h : SqT K F0 a vs) (r : RepDs K F0 vs ds) : Feeds K (IteT K a) F0 (pairs0 ds) where
  go := fun F H i e1 e2 hi => by
    rw [pairs0_len] at hi
    have hv : i < vs.length := by rw [r.length]; exact hi
    exact ⟨vs, vs[i], sameT (e1.trans e2) h, List.getElem?_eq_getElem hv⟩
  yld := fun F H i x H' d e1 e2 hd y => by
    obtain ⟨T, x, rfl, nT, rfl, y⟩ := y
    obtain ⟨dx, hx, rfl⟩ := pairs0_get hd
    obtain ⟨v, h1, h2⟩ := r.get hx
    have := y vs (sameT (e1.trans e2) h)
    rw [h1] at this
    cases this
    exact ⟨upd F T (.tup [.int (i : Nat), x]), Grow.data e2 nT, .tup upd_same (.cons (.int _) (.cons ((h2.mono e1).mono (same_upd (sub_none e2 nT))) .nil))⟩
  stop := fun F H e1 e2 => ⟨vs, sameT (e1.trans e2) h, by rw [pairs0_len]; exact r.length⟩
theorem feeds_r {K : PySem.W.Frag} {F0 : Hp} {lo hi : Int} : Feeds K (Itr lo (hi - lo).toNat) F0 (rangeD lo hi) where
  go := fun F H i _ _ h => by
    show i < _
    unfold rangeD at h
    simpa using h
  yld := fun F H i x H' d e1 e2 hd y => by
    obtain ⟨rfl, rfl⟩ := y
    unfold rangeD at hd
    rw [List.getElem?_map] at hd
    cases e : (List.range (hi - lo).toNat)[i]? with
    | none => rw [e] at hd; cases hd
    | some j =>
      rw [e] at hd
      have : j = i := by
        obtain ⟨h1, h2⟩ := List.getElem?_eq_some_iff.mp e
        simpa using h2.symm
      subst this
      cases hd
      exact ⟨F, Grow.refl e2, .int _⟩
  stop := fun F H _ _ => by
    show _ ≤ _
    unfold rangeD
    simp
theorem i_seq (h : EvS X Wx e f) : ItS X Wx tg e (iterSeq f) := PI.imp (pi_seq h) fun σ H RR h => by
  obtain ⟨F, env, own, S, h⟩ := h
  unfold iterSeq at h
  refine tOf_use S (fun u env1 e1 v F1 H1 own1 p O1 => ?_) (fun c env1 e1 C F1 H1 own1 => ?_) (fun e1 => ?_)
  · rw [e1, R.bind_ok] at h
    cases e2 : frz1 env1 u with
    | none => rw [e2] at h; exact h.elim
    | some pr =>
      obtain ⟨d, env2⟩ := pr
      rw [e2] at h
      dsimp only at h
      obtain ⟨F2, own2, r2, O2⟩ := O1.frz e2
      cases r2 with
      | lst q rs => exact ⟨_, _, rfl, .inl ⟨.inl (sameL O2.S.ex q), h _ _ _ _ O2 (feeds_l q rs)⟩⟩
      | tup q rs => exact ⟨_, _, rfl, .inr ⟨SqT.of (O2.S.ex _ _ q), h _ _ _ _ O2 (feeds_t (SqT.of q) rs)⟩⟩
      | _ => exact h.elim
  · rw [e1] at h
    exact h C F1 H1 own1
  · rw [e1] at h
    exact h
theorem i_enum {elts : List Expr} {kk : Nat} (hg : Gl X "enumerate") (hm : X.mg "enumerate" = none) (ha : EvS X Wx e f) (hs : starEach [e] X.env = [(false, eval e X.env)] := by rfl) : ItS X Wx (.Tuple elts kk tpos) (.Call (.Name "enumerate" p) [e] [] pos) (iterEnum f) :=
  PI.imp (pi_enumA hg hm (pa_cons ha pa_nil (by rw [hs]; rfl)) hs) fun σ H RR h => by
  obtain ⟨F, env, own, S, h⟩ := h
  unfold iterEnum iterSeq at h
  refine tOf_use S (fun u env1 e1 v F1 H1 own1 p O1 => ?_) (fun c env1 e1 C F1 H1 own1 => ?_) (fun e1 => ?_)
  · rw [e1, R.bind_ok] at h
    cases e2 : frz1 env1 u with
    | none => rw [e2] at h; exact h.elim
    | some pr =>
      obtain ⟨d, env2⟩ := pr
      rw [e2] at h
      dsimp only at h
      obtain ⟨F2, own2, r2, O2⟩ := O1.frz e2
      cases r2 with
      | lst q rs => exact ⟨_, _, rfl, .inl ⟨.inl (sameL O2.S.ex q), h _ _ _ _ O2 (feeds_el q rs)⟩⟩
      | tup q rs => exact ⟨_, _, rfl, .inr ⟨SqT.of (O2.S.ex _ _ q), h _ _ _ _ O2 (feeds_et (SqT.of q) rs)⟩⟩
      | _ => exact h.elim
  · rw [e1] at h
    exact h C F1 H1 own1
  · rw [e1] at h
    exact h
theorem i_range1 (hg : Gl X "range") (hm : X.mg "range" = none) (ha : EvS X Wx a fa) (hs : starEach [a] X.env = [(false, eval a X.env)] := by rfl) : ItS X Wx tg (.Call (.Name "range" p) [a] [] pos) (iterR1 fa) :=
  PI.imp (pi_range1 hg hm (show EaS X Wx [a] [fa] from ea_cons ha ea_nil (by rw [hs]; rfl)) hs) fun σ H RR h => by
  obtain ⟨F, env, own, S, h⟩ := h
  refine ⟨F, env, own, S, ?_⟩
  unfold iterR1 at h
  cases e : evs [fa] env with
  | stuck => rw [e] at h; exact h
  | raise c env1 => rw [e] at h; exact h
  | ok us env1 =>
    rw [e, R.bind_ok] at h
    intro vs F1 H1 own1 q O
    cases e1 : datL env1 us with
    | none => rw [e1] at h; exact h.elim
    | some ds =>
      rw [e1] at h
      have vw := RepUs.views O.S O.r e1
      split at h
      · rename_i ds' env' heq
        split at heq
        · rename_i n hn
          cases hn
          split at heq
          · rename_i hb
            cases heq
            obtain ⟨x, rfl, hx⟩ := vw.one
            refine ⟨n, by rw [hx.int], hb.1, hb.2, ?_⟩
            have := h _ _ _ _ O.drop (feeds_r (K := X.K) (F0 := F1) (lo := 0) (hi := n))
            simpa using this
          · cases heq
        · cases heq
      · rename_i heq
        split at heq
        · split at heq <;> cases heq
        · cases heq
      · exact h.elim
theorem i_range2 (hg : Gl X "range") (hm : X.mg "range" = none) (ha : EvS X Wx a fa) (hb : EvS X Wx b fb) (hs : starEach [a, b] X.env = [(false, eval a X.env), (false, eval b X.env)] := by rfl) (hs2 : starEach [b] X.env = [(false, eval b X.env)] := by rfl) : ItS X Wx tg (.Call (.Name "range" p) [a, b] [] pos) (iterR2 fa fb) :=
  PI.imp (pi_range2 hg hm (show EaS X Wx [a, b] [fa, fb] from ea_cons ha (ea_cons hb ea_nil (by rw [hs2]; rfl)) (by rw [hs, hs2])) hs hs2) fun σ H RR h => by
  obtain ⟨F, env, own, S, h⟩ := h
  refine ⟨F, env, own, S, ?_⟩
  unfold iterR2 at h
  cases e : evs [fa, fb] env with
  | stuck => rw [e] at h; exact h
  | raise c env1 => rw [e] at h; exact h
  | ok us env1 =>
    rw [e, R.bind_ok] at h
    intro vs F1 H1 own1 q O
    cases e1 : datL env1 us with
    | none => rw [e1] at h; exact h.elim
    | some ds =>
      rw [e1] at h
      have vw := RepUs.views O.S O.r e1
      split at h
      · rename_i ds' env' heq
        split at heq
        · rename_i m n hn
          cases hn
          split at heq
          · rename_i hb
            cases heq
            obtain ⟨x, y, rfl, hx, hy⟩ := vw.two
            exact ⟨m, n, by rw [hx.int, hy.int], ⟨hb.1.1, hb.1.2, hb.2.1, hb.2.2⟩, h _ _ _ _ O.drop feeds_r⟩
          · cases heq
        · cases heq
      · rename_i heq
        split at heq
        · split at heq <;> cases heq
        · cases heq
      · exact h.elim
end
end DL

namespace DL
open PySem PySem.Spec PyProof.Rows L2

/-! ### statements -/
/-- what is wanted behind a statement that tells r -/
def Po (K : PySem.W.Frag) (mg : Str → Option Value) (Wx : WX) (is : List Nat) (E : Ends) (σ : L2.St) (F H : Hp) (own : Nat → Fp) (r : R Fl) : Prop := match r with
  | .ok .next env' => ∀ σ' F' H' own', Only is σ σ' → OutR K F H own σ' env' F' H' own' → E.nx σ' H'
  | .ok .brk env' => ∀ σ' F' H' own', Only is σ σ' → OutR K F H own σ' env' F' H' own' → E.bk σ' H'
  | .ok .cont env' => ∀ σ' F' H' own', Only is σ σ' → OutR K F H own σ' env' F' H' own' → E.ct σ' H'
  | .ok (.ret u) env' => ∀ v σ' F' H' own' p, Only is σ σ' → Out K F H own σ' u v env' F' H' own' p → E.rt v H'
  | .raise c env' => ∀ C σ' F' H' own', Only is σ σ' → mg c = some (.ref C) → OutR K F H own σ' env' F' H' own' → Wx (.ref C) none σ' H'
  | .stuck => False
section
variable {K : PySem.W.Frag} {mg : Str → Option Value} {Wx : WX} {E E' : Ends} {F H F1 H1 : Hp} {σ σ1 : L2.St} {env env1 : DEnv} {own own1 : Nat → Fp} {f : M Fl} {r : R Fl} {is js : List Nat}
theorem sOf_iff : sOf K mg Wx is f E σ H ↔ ∃ F env own, Sit K F σ H env own ∧ Po K mg Wx is E σ F H own (f env) := Iff.rfl
/-- later -/
theorem Po.after (O : OutR K F H own σ1 env1 F1 H1 own1) (hy : ∀ σ2, Only js σ1 σ2 → Only is σ σ2) (h : Po K mg Wx is E σ F H own r) : Po K mg Wx js E σ1 F1 H1 own1 r := by
  unfold Po at h ⊢
  split at h
  · exact fun σ' F' H' own' y O' => h σ' F' H' own' (hy _ y) (O.trans O')
  · exact fun σ' F' H' own' y O' => h σ' F' H' own' (hy _ y) (O.trans O')
  · exact fun σ' F' H' own' y O' => h σ' F' H' own' (hy _ y) (O.trans O')
  · exact fun v σ' F' H' own' p y O' => h v σ' F' H' own' p (hy _ y) (O.out O')
  · exact fun C σ' F' H' own' y hm O' => h C σ' F' H' own' (hy _ y) hm (O.trans O')
  · exact h
theorem sOf_after (O : OutR K F H own σ1 env1 F1 H1 own1) (hy : ∀ σ2, Only js σ1 σ2 → Only is σ σ2) (h : Po K mg Wx is E σ F H own (f env1)) : sOf K mg Wx js f E σ1 H1 := ⟨F1, env1, own1, O.S, h.after O hy⟩
end

def sNext : M Fl := fun env => .ok .next env
def sBrk : M Fl := fun env => .ok .brk env
def sCont : M Fl := fun env => .ok .cont env
def sSeq (a b : M Fl) : M Fl := fun env => (a env).bind fun fl e => match fl with
  | .next => b e
  | fl => .ok fl e
def sSet (i : Nat) (f : M U) : M Fl := fun env => (f env).bind fun u e1 => match ownU e1 u with
  | some (w, e2) => (match setS i w e2 with
    | some e3 => .ok .next e3
    | none => .stuck)
  | none => .stuck
def sTgt (m : MT) (f : M U) : M Fl := fun env => (f env).bind fun u e1 => match frz1 e1 u with
  | some (d, e2) => (match m d e2 with
    | some e3 => .ok .next e3
    | none => .stuck)
  | none => .stuck
def sExpr (f : M U) : M Fl := fun env => (f env).bind fun _ e => .ok .next e
def sRet (f : M U) : M Fl := fun env => (f env).bind fun u e => .ok (.ret u) e
def sIf (t : M Bool) (a b : M Fl) : M Fl := fun env => (t env).bind fun c e => if c then a e else b e
def sRaise (c : Str) : M Fl := fun env => .raise c env
section
variable {X : Cx} {Wx : WX} {st : Stmt} {sts : List Stmt} {is js : List Nat} {f g : M Fl} {e c : Expr} {fe : M U} {t : M Bool} {pos pos' : Pos}
theorem ss_nil : SsS X Wx [] [] sNext := PSs.imp pss_nil fun E σ H h => by
  obtain ⟨F, env, own, S, h⟩ := h
  exact h _ _ _ _ Only.refl (OutR.refl S)
theorem ss_one (h : StS X Wx st is f) : SsS X Wx [st] is f := pss_one h
theorem ss_cons (h1 : StS X Wx st is f) (h2 : SsS X Wx sts js g) : SsS X Wx (st :: sts) (is ++ js) (sSeq f g) := PSs.imp (pss_cons h1 h2) fun E σ H h => by
  obtain ⟨F, env, own, S, h⟩ := h
  refine ⟨F, env, own, S, ?_⟩
  unfold sSeq at h
  cases e : f env with
  | stuck => rw [e] at h; exact h
  | raise _ _ => rw [e] at h; exact fun C σ' F' H' own' y hm O => h C σ' F' H' own' (y.left js) hm O
  | ok fl env1 =>
    rw [e, R.bind_ok] at h
    cases fl with
    | next => exact fun σ' F' H' own' y O => sOf_after O (fun σ2 z => y.trans z) h
    | brk => exact fun σ' F' H' own' y O => h σ' F' H' own' (y.left js) O
    | cont => exact fun σ' F' H' own' y O => h σ' F' H' own' (y.left js) O
    | ret _ => exact fun v σ' F' H' own' p y O => h v σ' F' H' own' p (y.left js) O
theorem s_pass : StS X Wx (.Pass pos) [] sNext := PS.imp ps_pass fun E σ H h => by
  obtain ⟨F, env, own, S, h⟩ := h
  exact h _ _ _ _ Only.refl (OutR.refl S)
theorem s_brk : StS X Wx (.Break pos) [] sBrk := PS.imp ps_break fun E σ H h => by
  obtain ⟨F, env, own, S, h⟩ := h
  exact h _ _ _ _ Only.refl (OutR.refl S)
theorem s_cont : StS X Wx (.Continue pos) [] sCont := PS.imp ps_continue fun E σ H h => by
  obtain ⟨F, env, own, S, h⟩ := h
  exact h _ _ _ _ Only.refl (OutR.refl S)
theorem s_set {i : Nat} {x : Str} (hN : X.N.Nodup) (hi : X.N[i]? = some x) (hx : Loc X.env.scope x) (he : EvS X Wx e fe) (hs : swapsWith e (some (.Name x pos')) pos.line X.env = pure false := by rfl) (hf : X.fn x = true ∨ X.env.scope.names.lookup x = some .local := by first | exact .inl rfl | exact .inr rfl | assumption) :
    StS X Wx (.Assign [.Name x pos'] e pos) [i] (sSet i fe) := PS.imp (ps_set hN hi hx he hs hf) fun E σ H h => by
  obtain ⟨F, env, own, S, h⟩ := h
  unfold sSet at h
  refine tOf_use S (fun u env1 e1 v F1 H1 own1 p O1 => ?_) (fun c env1 e1 C F1 H1 own1 => ?_) (fun e1 => ?_)
  · rw [e1, R.bind_ok] at h
    cases e2 : ownU env1 u with
    | none => rw [e2] at h; exact h.elim
    | some pr =>
      obtain ⟨w, env2⟩ := pr
      rw [e2] at h
      dsimp only at h
      obtain ⟨F2, own2, p2, O2⟩ := ownU_ok O1 e2
      cases e3 : setS i w env2 with
      | none => rw [e3] at h; exact h.elim
      | some env3 =>
        rw [e3] at h
        obtain ⟨own3, O3⟩ := O2.set e3
        exact h _ _ _ _ Only.set O3
  · rw [e1] at h
    exact h C σ F1 H1 own1 Only.refl
  · rw [e1] at h
    exact h
theorem s_tgt {tg : Expr} {is : List Nat} {m : MT} (he : EvS X Wx e fe) (hg : TgS X tg is m) (hs : swapsWithSole [tg] e pos.line X.env = pure false := by rfl) (hw : swappedStores [tg] e X.env = pure none := by rfl)
    (h1 : (assignEach [tg] X.env).map (·.2) = [assign tg X.env] := by rfl) : StS X Wx (.Assign [tg] e pos) is (sTgt m fe) := PS.imp (ps_asg he hg hs hw h1) fun E σ H h => by
  obtain ⟨F, env, own, S, h⟩ := h
  unfold sTgt at h
  refine tOf_use S (fun u env1 e1 v F1 H1 own1 p O1 => ?_) (fun c env1 e1 C F1 H1 own1 => ?_) (fun e1 => ?_)
  · rw [e1, R.bind_ok] at h
    cases e2 : frz1 env1 u with
    | none => rw [e2] at h; exact h.elim
    | some pr =>
      obtain ⟨d, env2⟩ := pr
      rw [e2] at h
      dsimp only at h
      obtain ⟨F2, own2, r2, O2⟩ := O1.frz e2
      refine ⟨F2, env2, own2, d, O2.S, r2, ?_⟩
      cases e3 : m d env2 with
      | none => rw [e3] at h; exact h
      | some env3 =>
        rw [e3] at h
        exact fun σ' F' H' own' y O3 => h _ _ _ _ y (O2.trans O3)
  · rw [e1] at h
    exact h C σ F1 H1 own1 Only.refl
  · rw [e1] at h
    exact h
theorem s_expr (he : EvS X Wx e fe) (hs : swapsWith e none pos.line X.env = pure false := by rfl) : StS X Wx (.Expr e pos) [] (sExpr fe) := PS.imp (ps_expr he hs) fun E σ H h => by
  obtain ⟨F, env, own, S, h⟩ := h
  unfold sExpr at h
  refine tOf_use S (fun u env1 e1 v F1 H1 own1 p O1 => ?_) (fun c env1 e1 C F1 H1 own1 => ?_) (fun e1 => ?_)
  · rw [e1, R.bind_ok] at h
    exact h _ _ _ _ Only.refl O1.drop
  · rw [e1] at h
    exact h C σ F1 H1 own1 Only.refl
  · rw [e1] at h
    exact h
theorem s_ret (he : EvS X Wx e fe) : StS X Wx (.Return (some e) pos) [] (sRet fe) := PS.imp (ps_ret he) fun E σ H h => by
  obtain ⟨F, env, own, S, h⟩ := h
  unfold sRet at h
  refine tOf_use S (fun u env1 e1 v F1 H1 own1 p O1 => ?_) (fun c env1 e1 C F1 H1 own1 => ?_) (fun e1 => ?_)
  · rw [e1, R.bind_ok] at h
    exact h _ _ _ _ _ _ Only.refl O1
  · rw [e1] at h
    exact h C σ F1 H1 own1 Only.refl
  · rw [e1] at h
    exact h
theorem s_if {a b : List Stmt} (hc : TtS X Wx c t) (ha : SsS X Wx a is f) (hb : SsS X Wx b js g) : StS X Wx (.If c a b pos) (is ++ js) (sIf t f g) := PS.imp (ps_if hc ha hb) fun E σ H h => by
  obtain ⟨F, env, own, S, h⟩ := h
  unfold sIf at h
  refine ttOf_use S (fun c env1 e1 F1 H1 own1 O1 => ?_) (fun c env1 e1 C F1 H1 own1 => ?_) (fun e1 => ?_)
  · rw [e1, R.bind_ok] at h
    cases c with
    | true => exact sOf_after O1 (fun σ2 y => y.left js) h
    | false => exact sOf_after O1 (fun σ2 y => y.right is) h
  · rw [e1] at h
    exact h C σ F1 H1 own1 Only.refl
  · rw [e1] at h
    exact h
end

/-! ### while -/
def whileN (t : M Bool) (b : M Fl) : Nat → M Fl
  | 0, _ => .stuck
  | n + 1, env => (t env).bind fun c e1 => if c then (b e1).bind fun fl e2 => (match fl with
      | .next => whileN t b n e2
      | .cont => whileN t b n e2
      | .brk => .ok .next e2
      | .ret u => .ok (.ret u) e2) else .ok .next e1
theorem R.bind_ns {α β : Type} {r : R α} {k k' : α → DEnv → R β} (h : r.bind k ≠ .stuck) (e : ∀ a env, k a env ≠ .stuck → k' a env = k a env) : r.bind k' = r.bind k := by
  cases r with
  | ok a env => exact e a env h
  | raise _ _ => rfl
  | stuck => rfl
theorem whileN_mono (t : M Bool) (b : M Fl) : ∀ (n : Nat) (env : DEnv), whileN t b n env ≠ .stuck → whileN t b (n + 1) env = whileN t b n env
  | 0, env, h => absurd rfl h
  | n + 1, env, h => by
    rw [whileN] at h
    rw [whileN, whileN]
    refine R.bind_ns h fun c e1 h1 => ?_
    cases c with
    | false => rfl
    | true =>
      rw [if_pos rfl] at h1
      rw [if_pos rfl, if_pos rfl]
      refine R.bind_ns h1 fun fl e2 h2 => ?_
      cases fl with
      | next => exact whileN_mono t b n e2 h2
      | cont => exact whileN_mono t b n e2 h2
      | brk => rfl
      | ret _ => rfl
theorem whileN_le (t : M Bool) (b : M Fl) {n m : Nat} {env : DEnv} (h : whileN t b n env ≠ .stuck) (l : n ≤ m) : whileN t b m env = whileN t b n env := by
  induction m with
  | zero => rw [Nat.le_zero.mp l]
  | succ m ih =>
    rcases Nat.lt_or_ge n (m + 1) with q | q
    · have e := ih (Nat.le_of_lt_succ q)
      rw [whileN_mono t b m env (by rw [e]; exact h), e]
    · rw [Nat.le_antisymm l q]
open Classical in
noncomputable def sWhile (t : M Bool) (b : M Fl) : M Fl := fun env => if h : ∃ n, whileN t b n env ≠ .stuck then whileN t b (choose h) env else .stuck
theorem sWhile_eq {t : M Bool} {b : M Fl} {n : Nat} {env : DEnv} {r : R Fl} (h : whileN t b n env = r) (hr : r ≠ .stuck) : sWhile t b env = r := by
  have ex : ∃ n, whileN t b n env ≠ .stuck := ⟨n, by rw [h]; exact hr⟩
  unfold sWhile
  rw [dif_pos ex]
  have hc := Classical.choose_spec ex
  rcases Nat.le_total (Classical.choose ex) n with l | l
  · rw [← whileN_le t b hc l, h]
  · rw [whileN_le t b (by rw [h]; exact hr) l, h]
theorem sWhile_step {t : M Bool} {b : M Fl} {env : DEnv} : sWhile t b env = (t env).bind fun c e1 => if c then (b e1).bind fun fl e2 => (match fl with
      | .next => sWhile t b e2
      | .cont => sWhile t b e2
      | .brk => .ok .next e2
      | .ret u => .ok (.ret u) e2) else .ok .next e1 := by
  by_cases ex : ∃ n, whileN t b n env ≠ .stuck
  · obtain ⟨n, hn⟩ := ex
    rw [sWhile_eq rfl hn]
    cases n with
    | zero => exact absurd rfl hn
    | succ n =>
      rw [whileN] at hn ⊢
      symm
      refine R.bind_ns hn fun c e1 h1 => ?_
      cases c with
      | false => rfl
      | true =>
        rw [if_pos rfl] at h1
        rw [if_pos rfl, if_pos rfl]
        refine R.bind_ns h1 fun fl e2 h2 => ?_
        cases fl with
        | next => exact sWhile_eq rfl h2
        | cont => exact sWhile_eq rfl h2
        | brk => rfl
        | ret _ => rfl
  · have e : sWhile t b env = .stuck := by
      unfold sWhile
      rw [dif_neg ex]
    rw [e]
    cases e1 : t env with
    | stuck => rfl
    | raise c env1 => exact absurd ⟨1, by rw [whileN, e1]; exact fun z => nomatch z⟩ ex
    | ok c env1 =>
      rw [R.bind_ok]
      cases c with
      | false => exact absurd ⟨1, by rw [whileN, e1]; exact fun z => nomatch z⟩ ex
      | true =>
        rw [if_pos rfl]
        cases e2 : b env1 with
        | stuck => rfl
        | raise c env2 => exact absurd ⟨1, by rw [whileN, e1, R.bind_ok, if_pos rfl, e2]; exact fun z => nomatch z⟩ ex
        | ok fl env2 =>
          rw [R.bind_ok]
          have key : ∀ fl', (fl' = Fl.next ∨ fl' = Fl.cont) → b env1 = .ok fl' env2 → sWhile t b env2 = .stuck := fun fl' hf hb => by
            unfold sWhile
            rw [dif_neg]
            rintro ⟨n, hn⟩
            refine ex ⟨n + 1, ?_⟩
            rw [whileN, e1, R.bind_ok, if_pos rfl, hb, R.bind_ok]
            rcases hf with rfl | rfl <;> exact hn
          cases fl with
          | next => exact (key .next (.inl rfl) e2).symm
          | cont => exact (key .cont (.inr rfl) e2).symm
          | brk => exact absurd ⟨1, by rw [whileN, e1, R.bind_ok, if_pos rfl, e2]; exact fun z => nomatch z⟩ ex
          | ret u => exact absurd ⟨1, by rw [whileN, e1, R.bind_ok, if_pos rfl, e2]; exact fun z => nomatch z⟩ ex
section
variable {X : Cx} {Wx : WX} {c : Expr} {body : List Stmt} {is : List Nat} {t : M Bool} {b : M Fl} {pos : Pos}
theorem s_while (hp : PassesOwn (model X.prog X.w) X.A X.env X.xe) (hc : TtS X Wx c t) (hb : SsS X Wx body is b) : StS X Wx (.While c body [] pos) is (sWhile t b) := PS.imp (ps_while hp hc hb) fun E σ H h => by
  obtain ⟨F, env, own, S, h⟩ := h
  have h : Po X.K X.mg Wx is E σ F H own (sWhile t b env) := h
  have ns : sWhile t b env ≠ .stuck := fun z => by rw [z] at h; exact h
  obtain ⟨n0, hn0⟩ : ∃ n, whileN t b n env = sWhile t b env := by
    by_cases ex : ∃ n, whileN t b n env ≠ .stuck
    · obtain ⟨n, hn⟩ := ex
      exact ⟨n, (sWhile_eq rfl hn).symm⟩
    · exact absurd (by unfold sWhile; rw [dif_neg ex]) ns
  generalize sWhile t b env = r at h ns hn0
  refine ⟨fun m σ1 H1 => Only is σ σ1 ∧ ∃ F1 env1 own1, OutR X.K F H own σ1 env1 F1 H1 own1 ∧ whileN t b m env1 = r, ⟨n0, Only.refl, F, env, own, OutR.refl S, hn0⟩, ?_⟩
  rintro m σ1 H1 ⟨y1, F1, env1, own1, O1, hm⟩
  cases m with
  | zero => exact absurd hm.symm ns
  | succ m =>
    rw [whileN] at hm
    refine ttOf_use O1.S (fun c env2 e2 F2 H2 own2 O2 => ?_) (fun c env2 e2 C F2 H2 own2 hmg O2 => ?_) (fun e2 => ?_)
    · rw [e2, R.bind_ok] at hm
      cases c with
      | false =>
        rw [if_neg Bool.false_ne_true] at hm ⊢
        rw [← hm] at h
        exact h _ _ _ _ y1 (O1.trans O2)
      | true =>
        rw [if_pos rfl] at hm ⊢
        refine ⟨fun σ' H' => Only is σ σ' ∧ ∃ F' env' own', OutR X.K F H own σ' env' F' H' own' ∧ whileN t b m env' = r, fun σ' H' q => ⟨m, Nat.lt_succ_self _, q⟩, ?_⟩
        refine ⟨F2, env2, own2, O2.S, ?_⟩
        have O12 := O1.trans O2
        cases e3 : b env2 with
        | stuck => rw [e3] at hm; exact absurd hm.symm ns
        | raise c env3 =>
          rw [e3, R.bind_raise] at hm
          rw [← hm] at h
          exact fun C σ' F' H' own' y3 hmg O3 => h C σ' F' H' own' (y1.join y3) hmg (O12.trans O3)
        | ok fl env3 =>
          rw [e3, R.bind_ok] at hm
          cases fl with
          | next => exact fun σ' F' H' own' y3 O3 => ⟨y1.join y3, F', env3, own', O12.trans O3, hm⟩
          | cont => exact fun σ' F' H' own' y3 O3 => ⟨y1.join y3, F', env3, own', O12.trans O3, hm⟩
          | brk =>
            have hm : R.ok Fl.next env3 = r := hm
            rw [← hm] at h
            exact fun σ' F' H' own' y3 O3 => h _ _ _ _ (y1.join y3) (O12.trans O3)
          | ret u =>
            have hm : R.ok (Fl.ret u) env3 = r := hm
            rw [← hm] at h
            exact fun v σ' F' H' own' p y3 O3 => h _ _ _ _ _ _ (y1.join y3) (O12.out O3)
    · rw [e2, R.bind_raise] at hm
      rw [← hm] at h
      exact h C σ1 F2 H2 own2 y1 hmg (O1.trans O2)
    · rw [e2] at hm
      exact ns hm.symm
end

/-! ### for -/
def forD (m : MT) (b : M Fl) : List D → M Fl
  | [], env => .ok .next env
  | d :: ds, env => match m d env with
    | some e1 => (b e1).bind fun fl e2 => (match fl with
      | .next => forD m b ds e2
      | .cont => forD m b ds e2
      | .brk => .ok .next e2
      | .ret u => .ok (.ret u) e2)
    | none => .stuck
def sFor (it : M (List D)) (m : MT) (b : M Fl) : M Fl := fun env => (it env).bind fun ds e => forD m b ds e
section
variable {X : Cx} {Wx : WX} {tg iter : Expr} {is js : List Nat} {body : List Stmt} {it : M (List D)} {m : MT} {b : M Fl} {pos : Pos}
theorem s_for (hp : PassesOwn (model X.prog X.w) X.A X.env X.xe) (hc : X.calm = true) (hi : ItS X Wx tg iter it) (hg : TgS X tg is m) (hb : SsS X Wx body js b)
    (hs : ∀ x, foldedSetIterable iter X.env x = pure x := by intro _; rfl) : StS X Wx (.For tg iter body [] pos) (is ++ js) (sFor it m b) := PS.imp (ps_for hp hc hi hg hb hs) fun E σ H h => by
  obtain ⟨F, env, own, S, h⟩ := h
  have h : Po X.K X.mg Wx (is ++ js) E σ F H own (sFor it m b env) := h
  refine ⟨F, env, own, S, ?_⟩
  unfold sFor at h
  cases e : it env with
  | stuck => rw [e] at h; exact h
  | raise c env1 => rw [e] at h; exact fun C F' H' own' => h C σ F' H' own' Only.refl
  | ok ds env1 =>
    rw [e, R.bind_ok] at h
    intro J F1 H1 own1 O1 fd
    have ns : forD m b ds env1 ≠ .stuck := fun z => by rw [z] at h; exact h
    generalize hr : forD m b ds env1 = r at h ns
    refine ⟨fun i k σ2 H2 => k = ds.length - i ∧ i ≤ ds.length ∧ Only (is ++ js) σ σ2 ∧ ∃ F2 env2 own2, OutR X.K F H own σ2 env2 F2 H2 own2 ∧ Same F1 F2 ∧ forD m b (ds.drop i) env2 = r, ⟨ds.length, by simp, Nat.zero_le _, Only.refl, F1, env1, own1, O1, Same.refl _, hr⟩, ?_⟩
    rintro i k σ2 H2 ⟨rfl, hi, y2, F2, env2, own2, O2, s12, hq⟩
    by_cases hlt : i < ds.length
    · refine .inr ⟨fd.go F2 H2 i s12 O2.S.ex hlt, fun σ' H' => Only (is ++ js) σ σ' ∧ ∃ F' env' own', OutR X.K F H own σ' env' F' H' own' ∧ Same F1 F' ∧ forD m b (ds.drop (i + 1)) env' = r, fun σ' H' ⟨y', F', env', own', O', s', q⟩ => ⟨ds.length - (i + 1), by omega, rfl, hlt, y', F', env', own', O', s', q⟩, fun x H' y => ?_⟩
      have hd : ds[i]? = some ds[i] := List.getElem?_eq_getElem hlt
      obtain ⟨F3, gr, r3⟩ := fd.yld F2 H2 i x H' ds[i] s12 O2.S.ex hd y
      have hdr : ds.drop i = ds[i] :: ds.drop (i + 1) := List.drop_eq_getElem_cons hlt
      rw [hdr, forD] at hq
      have O3 : OutR X.K F H own σ2 env2 F3 H' own2 := ⟨gr.sit O2.S, O2.s.trans ((gr.step own2).sub fun _ z => .inl z)⟩
      refine ⟨F3, env2, own2, ds[i], O3.S, r3, ?_⟩
      cases e3 : m ds[i] env2 with
      | none => rw [e3] at hq; exact ns hq.symm
      | some env3 =>
        rw [e3] at hq
        dsimp only at hq
        intro σ4 F4 H4 own4 y4 O4
        have y24 : Only (is ++ js) σ σ4 := y2.join (y4.left js)
        have O34 := O3.trans O4
        refine ⟨F4, env3, own4, O4.S, ?_⟩
        cases e5 : b env3 with
        | stuck => rw [e5] at hq; exact absurd hq.symm ns
        | raise c env5 =>
          rw [e5, R.bind_raise] at hq
          rw [← hq] at h
          exact fun C σ' F' H' own' y5 hmg O5 => h C σ' F' H' own' (y24.join (y5.right is)) hmg (O34.trans O5)
        | ok fl env5 =>
          rw [e5, R.bind_ok] at hq
          have s14 : Same F1 F4 := (s12.trans gr.exF).trans O4.s.ex
          cases fl with
          | next => exact fun σ' F' H' own' y5 O5 => ⟨y24.join (y5.right is), F', env5, own', O34.trans O5, s14.trans O5.s.ex, hq⟩
          | cont => exact fun σ' F' H' own' y5 O5 => ⟨y24.join (y5.right is), F', env5, own', O34.trans O5, s14.trans O5.s.ex, hq⟩
          | brk =>
            have hq : R.ok Fl.next env5 = r := hq
            rw [← hq] at h
            exact fun σ' F' H' own' y5 O5 => h _ _ _ _ (y24.join (y5.right is)) (O34.trans O5)
          | ret u =>
            have hq : R.ok (Fl.ret u) env5 = r := hq
            rw [← hq] at h
            exact fun v σ' F' H' own' p y5 O5 => h _ _ _ _ _ _ (y24.join (y5.right is)) (O34.out O5)
    · have ei : i = ds.length := by omega
      subst ei
      refine .inl ⟨fd.stop F2 H2 s12 O2.S.ex, ?_⟩
      rw [List.drop_length] at hq
      have hq : R.ok Fl.next env2 = r := hq
      rw [← hq] at h
      exact h _ _ _ _ y2 O2
end
end DL

namespace DL
open PySem PySem.Spec PyProof.Rows L2

/-! ### comprehensions -/
def wipeA {α : Type} (l : List (Option α)) : List Nat → List (Option α)
  | [] => l
  | v :: vs => (wipeA l vs).set v none
theorem wipe_eq (σ : L2.St) : ∀ vs : List Nat, wipe σ vs = wipeA σ vs
  | [] => rfl
  | v :: vs => by rw [wipe, wipeA, wipe_eq σ vs]
theorem wipeA_len {α : Type} (l : List (Option α)) : ∀ vs : List Nat, (wipeA l vs).length = l.length
  | [] => rfl
  | v :: vs => by rw [wipeA, List.length_set, wipeA_len l vs]
theorem wipeA_out {α : Type} {l : List (Option α)} {i : Nat} : ∀ {vs : List Nat}, i ∉ vs → (wipeA l vs)[i]? = l[i]?
  | [], _ => rfl
  | v :: vs, h => by
    rw [wipeA, List.getElem?_set_ne (fun z => h (by simp [z])), wipeA_out fun z => h (List.mem_cons_of_mem _ z)]
theorem wipeA_in {α : Type} {l : List (Option α)} {i : Nat} : ∀ {vs : List Nat}, i ∈ vs → ∀ x, (wipeA l vs)[i]? ≠ some (some x)
  | [], h, _ => by cases h
  | v :: vs, h, x => by
    rw [wipeA]
    by_cases e : v = i
    · subst e
      by_cases hl : v < (wipeA l vs).length
      · rw [List.getElem?_set_self hl]; exact fun z => nomatch z
      · rw [List.getElem?_eq_none (by simpa using hl)]; exact fun z => nomatch z
    · rw [List.getElem?_set_ne e]
      rcases List.mem_cons.mp h with z | z
      · exact absurd z.symm e
      · exact wipeA_in z x
theorem wipeA_some {α : Type} {l : List (Option α)} {i : Nat} {x : α} {vs : List Nat} (h : (wipeA l vs)[i]? = some (some x)) : l[i]? = some (some x) ∧ i ∉ vs := by
  by_cases hi : i ∈ vs
  · exact absurd h (wipeA_in hi x)
  · rw [wipeA_out hi] at h; exact ⟨h, hi⟩
theorem ext_get {α : Type} {l m : List α} (h : ∀ i : Nat, l[i]? = m[i]?) : l = m := List.ext_getElem? h
theorem wipe_only {σ σ' : L2.St} {is vs : List Nat} (o : Only is σ σ') (hs : ∀ i ∈ is, i ∈ vs) : wipe σ' vs = wipe σ vs := by
  rw [wipe_eq, wipe_eq]
  refine ext_get fun i => ?_
  by_cases hi : i ∈ vs
  · have key : ∀ l : L2.St, l.length = σ.length → (wipeA l vs)[i]? = if i < σ.length then some none else none := fun l hl => by
      by_cases c : i < σ.length
      · rw [if_pos c]
        have hc : i < (wipeA l vs).length := by rw [wipeA_len, hl]; exact c
        rw [List.getElem?_eq_getElem hc]
        cases e : (wipeA l vs)[i] with
        | none => rfl
        | some x => exact absurd (by rw [List.getElem?_eq_getElem hc, e]) (wipeA_in (l := l) hi x)
      · rw [if_neg c]
        exact List.getElem?_eq_none (by rw [wipeA_len, hl]; omega)
    rw [key σ' o.1, key σ rfl]
  · rw [wipeA_out hi, wipeA_out hi]
    exact o.2 i fun z => hi (hs i z)
theorem wipe_wipe {σ : L2.St} {vs : List Nat} : wipe (wipe σ vs) vs = wipe σ vs :=
  wipe_only (is := vs) ⟨wipe_length σ vs, fun j h => by rw [wipe_eq, wipeA_out h]⟩ fun _ h => h
/-- the names of a comprehension hold data, if anything, ahead of it -/
def dataAt (env : DEnv) (vs : List Nat) : Bool := vs.all fun v => match env[v]? with
  | some (some (.l _ _)) => false
  | some (some (.m _ _)) => false
  | some (some (.x _)) => false
  | _ => true
def unwipe (e1 : DEnv) : List Nat → DEnv → DEnv
  | [], e2 => e2
  | v :: vs, e2 => (unwipe e1 vs e2).set v ((e1[v]?).getD none)
theorem unwipe_len (e1 e2 : DEnv) : ∀ vs : List Nat, (unwipe e1 vs e2).length = e2.length
  | [] => rfl
  | v :: vs => by rw [unwipe, List.length_set, unwipe_len e1 e2 vs]
theorem unwipe_out {e1 e2 : DEnv} {i : Nat} : ∀ {vs : List Nat}, i ∉ vs → (unwipe e1 vs e2)[i]? = e2[i]?
  | [], _ => rfl
  | v :: vs, h => by
    rw [unwipe, List.getElem?_set_ne (fun z => h (by simp [z])), unwipe_out fun z => h (List.mem_cons_of_mem _ z)]
theorem unwipe_in {e1 e2 : DEnv} {i : Nat} {w : W} : ∀ {vs : List Nat}, i ∈ vs → (unwipe e1 vs e2)[i]? = some (some w) → e1[i]? = some (some w)
  | [], h, _ => by cases h
  | v :: vs, h, q => by
    rw [unwipe] at q
    by_cases e : v = i
    · subst e
      by_cases hl : v < (unwipe e1 vs e2).length
      · rw [List.getElem?_set_self hl] at q
        cases z : e1[v]? with
        | none => rw [z] at q; cases q
        | some x => rw [z] at q; simpa using q
      · rw [List.getElem?_eq_none (by simpa using hl)] at q; cases q
    · rw [List.getElem?_set_ne e] at q
      rcases List.mem_cons.mp h with z | z
      · exact absurd z.symm e
      · exact unwipe_in z q
def compD (vs : List Nat) (m : MT) (t : M Bool) (f : M U) : List D → M (List D)
  | [], env => .ok [] env
  | d :: ds, env => match m d env with
    | none => .stuck
    | some e1 => (t e1).bind fun b e2 => if b then (f e2).bind fun u e3 => (match frz1 e3 u with
        | some (y, e4) => (compD vs m t f ds (wipeA e4 vs)).bind fun ys e5 => .ok (y :: ys) e5
        | none => .stuck) else compD vs m t f ds (wipeA e2 vs)
def eComp (it : M (List D)) (vs : List Nat) (m : MT) (t : M Bool) (f : M U) : M U := fun env => (it env).bind fun ds e1 => if dataAt e1 vs then (match compD vs m t f ds (wipeA e1 vs) with
  | .ok ys e2 => if ds.length ≤ 1000000 then .ok (.w (.l false ys)) (unwipe e1 vs e2) else .stuck
  | _ => .stuck) else .stuck
abbrev Wx0 : WX := fun _ _ _ _ => False
def tYesD : M Bool := fun env => .ok true env
section
variable {K : PySem.W.Frag} {F H : Hp} {σ : L2.St} {env : DEnv} {own : Nat → Fp} {vs : List Nat}
theorem dataAt_no (S : Sit K F σ H env own) (h : dataAt env vs = true) {i : Nat} (hi : i ∈ vs) (a : Addr) : ¬ own i a := fun z => by
  obtain ⟨w, e⟩ := S.emp i a z
  unfold dataAt at h
  rw [List.all_eq_true] at h
  have := h i hi
  rw [e] at this
  obtain ⟨v, _, r⟩ := S.rep i w e
  cases w with
  | v d => exact r.1 a z
  | l _ _ => cases this
  | m _ _ => cases this
  | x _ => cases this
theorem Sit.wipe (S : Sit K F σ H env own) (h : ∀ i ∈ vs, ∀ a, ¬ own i a) : Sit K F (L2.wipe σ vs) H (wipeA env vs) own where
  ex := S.ex
  len := by rw [wipe_eq, wipeA_len, wipeA_len]; exact S.len
  rep := fun i w e => by
    obtain ⟨e1, hi⟩ := wipeA_some e
    obtain ⟨v, hv, r⟩ := S.rep i w e1
    exact ⟨v, by rw [wipe_eq, wipeA_out hi]; exact hv, r⟩
  emp := fun i a z => by
    have hi : i ∉ vs := fun q => h i q a z
    obtain ⟨w, e⟩ := S.emp i a z
    exact ⟨w, by rw [wipeA_out hi]; exact e⟩
  dis := S.dis
/-- what one turn leaves is wiped: whatever it owned there is let go -/
def ownW (vs : List Nat) (own : Nat → Fp) : Nat → Fp := fun i a => i ∉ vs ∧ own i a
theorem ownW_sub {a : Addr} (h : all (ownW vs own) a) : all own a := by
  obtain ⟨i, _, z⟩ := h
  exact ⟨i, z⟩
theorem Sit.wipe2 (S : Sit K F σ H env own) : Sit K F (L2.wipe σ vs) H (wipeA env vs) (ownW vs own) where
  ex := S.ex
  len := by rw [wipe_eq, wipeA_len, wipeA_len]; exact S.len
  rep := fun i w e => by
    obtain ⟨e1, hi⟩ := wipeA_some e
    obtain ⟨v, hv, r⟩ := S.rep i w e1
    refine ⟨v, by rw [wipe_eq, wipeA_out hi]; exact hv, ?_⟩
    have e3 : ownW vs own i = own i := funext fun a => propext ⟨fun z => z.2, fun z => ⟨hi, z⟩⟩
    rw [e3]
    exact r
  emp := fun i a z => by
    obtain ⟨w, e⟩ := S.emp i a z.2
    exact ⟨w, by rw [wipeA_out z.1]; exact e⟩
  dis := fun i j a z1 z2 => S.dis i j a z1.2 z2.2
theorem unwipe_sit {F1 F2 H1 H2 : Hp} {env1 env2 : DEnv} {own1 own2 : Nat → Fp} (S1 : Sit K F1 σ H1 env1 own1) (h1 : dataAt env1 vs = true) (e12 : Same F1 F2) (S2 : Sit K F2 (L2.wipe σ vs) H2 env2 own2) :
    Sit K F2 σ H2 (unwipe env1 vs env2) (ownW vs own2) where
  ex := S2.ex
  len := by rw [unwipe_len, S2.len, wipe_eq, wipeA_len]
  rep := fun i w e => by
    by_cases hi : i ∈ vs
    · have e1 := unwipe_in hi e
      obtain ⟨v, hv, r⟩ := S1.rep i w e1
      refine ⟨v, hv, ?_⟩
      cases w with
      | v d => exact ⟨fun a z => z.1 hi, r.2.mono e12⟩
      | l _ _ =>
        unfold dataAt at h1
        rw [List.all_eq_true] at h1
        have := h1 i hi
        rw [e1] at this
        cases this
      | m _ _ =>
        unfold dataAt at h1
        rw [List.all_eq_true] at h1
        have := h1 i hi
        rw [e1] at this
        cases this
      | x _ =>
        unfold dataAt at h1
        rw [List.all_eq_true] at h1
        have := h1 i hi
        rw [e1] at this
        cases this
    · rw [unwipe_out hi] at e
      obtain ⟨v, hv, r⟩ := S2.rep i w e
      refine ⟨v, ?_, ?_⟩
      · rw [wipe_eq, wipeA_out hi] at hv; exact hv
      · have e3 : ownW vs own2 i = own2 i := funext fun a => propext ⟨fun z => z.2, fun z => ⟨hi, z⟩⟩
        rw [e3]
        exact r
  emp := fun i a z => by
    obtain ⟨w, e⟩ := S2.emp i a z.2
    exact ⟨w, by rw [unwipe_out z.1]; exact e⟩
  dis := fun i j a z1 z2 => S2.dis i j a z1.2 z2.2
end
/-- where a turn of a comprehension stands: the list at P holds ys so far -/
structure Mid (K : PySem.W.Frag) (F0 H0 : Hp) (own0 : Nat → Fp) (P : Addr) (σ' : L2.St) (env' : DEnv) (F' H' : Hp) (own' : Nat → Fp) (ys : List D) : Prop where
  S : Sit K F' σ' H' env' own'
  at' : ∃ vs, H' P = some (.lst vs) ∧ RepDs K F' vs ys
  fr : F' P = none
  no : ¬ all own' P
  s : Step F0 H0 (all own0) F' H' (fun a => all own' a ∨ a = P)
section
variable {K : PySem.W.Frag} {F0 H0 F1 H1 F2 H2 : Hp} {own0 own1 own2 : Nat → Fp} {P : Addr} {σ1 σ2 : L2.St} {env1 env2 : DEnv} {ys : List D}
theorem Mid.step (M : Mid K F0 H0 own0 P σ1 env1 F1 H1 own1 ys) (O : OutR K F1 H1 own1 σ2 env2 F2 H2 own2) : Mid K F0 H0 own0 P σ2 env2 F2 H2 own2 ys := by
  obtain ⟨vs, hP, r⟩ := M.at'
  refine ⟨O.S, ⟨vs, O.s.keep P _ hP M.no, r.mono O.s.ex⟩, ?_, fun z => ?_, ?_⟩
  · cases e : F2 P with
    | none => rfl
    | some o =>
      rcases O.s.frz P o e M.fr with z | z
      · exact absurd z M.no
      · rw [hP] at z; cases z
  · rcases O.s.new P z with y | y
    · exact M.no y
    · rw [hP] at y; cases y
  · exact M.s.trans (O.s.more fun a => a = P)
/-- one more item -/
theorem Mid.push {v : V} {d : D} (M : Mid K F0 H0 own0 P σ1 env1 F1 H1 own1 ys) (r : RepD K F1 v d) (vs : List V) (hP : H1 P = some (.lst vs)) : Mid K F0 H0 own0 P σ1 env1 F1 (upd H1 P (.lst (vs ++ [v]))) own1 (ys ++ [d]) := by
  obtain ⟨vs', hP', rr⟩ := M.at'
  rw [hP] at hP'
  cases hP'
  have keep : ∀ a o, a ≠ P → H1 a = some o → upd H1 P (.lst (vs ++ [v])) a = some o := fun a o ne h => by rw [upd_ne ne]; exact h
  refine ⟨⟨fun a o h => ?_, M.S.len, fun i w e => ?_, M.S.emp, M.S.dis⟩, ⟨_, upd_same, rr.append (.cons r .nil)⟩, M.fr, M.no, M.s.ex, fun a o h n => ?_, M.s.new, M.s.frz⟩
  · have ne : a ≠ P := fun z => by rw [z, M.fr] at h; cases h
    exact keep a o ne (M.S.ex a o h)
  · obtain ⟨u, hu, ru⟩ := M.S.rep i w e
    refine ⟨u, hu, ru.frame (Same.refl _) (fun a o q h => keep a o (fun z => M.no (z ▸ ⟨i, q⟩)) h) fun a q => (ru.there q).2⟩
  · have h1 := M.s.keep a o h n
    have ne : a ≠ P := fun z => by
      rcases M.s.new P (.inr rfl) with y | y
      · exact n (z ▸ y)
      · rw [z] at h; rw [y] at h; cases h
    exact keep a o ne h1
end
theorem comp_sem {K : PySem.W.Frag} {mg : Str → Option Value} {Wx : WX} {it : M (List D)} {is vs : List Nat} {m : MT} {t : M Bool} {f : M U} {σ : L2.St} {H : Hp} {Q : VK} (hsub : ∀ i ∈ is, i ∈ vs) (h : tOf K mg Wx (eComp it vs m t f) σ H Q) :
    tLc (iOf K mg Wx it) (gOf K is m) (ttOf K mg Wx0 t) (tOf K mg Wx0 f) vs σ H Q := by
  obtain ⟨F, env, own, S, h⟩ := h
  unfold eComp at h
  refine ⟨F, env, own, S, ?_⟩
  cases e : it env with
  | stuck => rw [e] at h; exact h
  | raise c env1 => rw [e] at h; exact h
  | ok ds env1 =>
    rw [e, R.bind_ok] at h
    intro J F1 H1 own1 O1 fd P hP
    by_cases hda : dataAt env1 vs = true
    · rw [if_pos hda] at h
      cases ec : compD vs m t f ds (wipeA env1 vs) with
      | stuck => rw [ec] at h; exact h.elim
      | raise _ _ => rw [ec] at h; exact h.elim
      | ok yall efin =>
        rw [ec] at h
        dsimp only at h
        by_cases hlen : ds.length ≤ 1000000
        · rw [if_pos hlen] at h
          -- the start
          have S1w := O1.S.wipe (vs := vs) fun i hi a => dataAt_no O1.S hda hi a
          have g0 : Grow F1 H1 F1 (upd H1 P (.lst [])) (fun a => a = P) := Grow.ofOwn O1.S.ex hP
          have M0 : Mid K F1 H1 own1 P (wipe σ vs) (wipeA env1 vs) F1 (upd H1 P (.lst [])) own1 [] := by
            refine ⟨g0.sit S1w, ⟨[], upd_same, .nil⟩, sub_none O1.S.ex hP, fun z => ?_, g0.step own1⟩
            obtain ⟨⟨o, e2⟩, _⟩ := O1.S.there z
            rw [hP] at e2
            cases e2
          refine ⟨fun i k H' => k = ds.length - i ∧ i ≤ ds.length ∧ ∃ F' env' own' ys, ys.length ≤ i ∧ Same F1 F' ∧ Mid K F1 H1 own1 P (wipe σ vs) env' F' H' own' ys ∧ ∃ rest, compD vs m t f (ds.drop i) env' = .ok rest efin ∧ ys ++ rest = yall,
            ⟨ds.length, by simp, Nat.zero_le _, F1, wipeA env1 vs, own1, [], Nat.zero_le _, Same.refl _, M0, yall, ec, rfl⟩, ?_⟩
          rintro i k H' ⟨rfl, hi, F', env', own', ys, hyl, s1, M, rest, hr, hy⟩
          by_cases hlt : i < ds.length
          · refine .inr ⟨fd.go F' H' i s1 M.S.ex hlt, fun H'' => i + 1 ≤ ds.length ∧ ∃ F' env' own' ys, ys.length ≤ i + 1 ∧ Same F1 F' ∧ Mid K F1 H1 own1 P (wipe σ vs) env' F' H'' own' ys ∧ ∃ rest, compD vs m t f (ds.drop (i + 1)) env' = .ok rest efin ∧ ys ++ rest = yall,
              fun H'' q => ⟨ds.length - (i + 1), by omega, rfl, q.1, q.2⟩, fun x H'' y => ?_⟩
            have hd : ds[i]? = some ds[i] := List.getElem?_eq_getElem hlt
            obtain ⟨F3, gr, r3⟩ := fd.yld F' H' i x H'' ds[i] s1 M.S.ex hd y
            have hdr : ds.drop i = ds[i] :: ds.drop (i + 1) := List.drop_eq_getElem_cons hlt
            rw [hdr, compD] at hr
            have M3 : Mid K F1 H1 own1 P (wipe σ vs) env' F3 H'' own' ys := M.step ⟨gr.sit M.S, (gr.step own').sub fun _ z => .inl z⟩
            refine ⟨F3, env', own', ds[i], M3.S, r3, ?_⟩
            cases e3 : m ds[i] env' with
            | none => rw [e3] at hr; cases hr
            | some ea =>
              rw [e3] at hr
              dsimp only at hr
              intro σ4 F4 H4 own4 o4 O4
              have w4 : wipe σ4 vs = wipe σ vs := (wipe_only o4 hsub).trans wipe_wipe
              refine ⟨w4, ?_⟩
              have M4 := M3.step O4
              have s4 : Same F1 F4 := (s1.trans gr.exF).trans O4.s.ex
              refine ttOf_use O4.S (fun b eb ebt F5 H5 own5 O5 => ?_) (fun c eb ebt => ?_) (fun ebt => ?_)
              · rw [ebt, R.bind_ok] at hr
                have M5 := M4.step O5
                have s5 := s4.trans O5.s.ex
                cases b with
                | false =>
                  rw [if_neg Bool.false_ne_true] at hr ⊢
                  have O6 : OutR K F5 H5 own5 (wipe σ vs) (wipeA eb vs) F5 H5 (ownW vs own5) := by
                    rw [← w4]
                    exact ⟨O5.S.wipe2, Step.refl.sub fun a z => ownW_sub z⟩
                  exact ⟨hlt, F5, _, _, ys, by omega, s5, M5.step O6, rest, hr, hy⟩
                | true =>
                  rw [if_pos rfl] at hr ⊢
                  refine tOf_use O5.S (fun u ec' eu v F6 H6 own6 p O6 => ?_) (fun c ec' eu => ?_) (fun eu => ?_)
                  · rw [eu, R.bind_ok] at hr
                    cases ef : frz1 ec' u with
                    | none => rw [ef] at hr; cases hr
                    | some pr =>
                      obtain ⟨yd, ed⟩ := pr
                      rw [ef] at hr
                      dsimp only at hr
                      obtain ⟨F7, own7, r7, O7⟩ := O6.frz ef
                      have M7 := M5.step O7
                      have s7 := s5.trans O7.s.ex
                      cases eg : compD vs m t f (ds.drop (i + 1)) (wipeA ed vs) with
                      | stuck => rw [eg] at hr; cases hr
                      | raise _ _ => rw [eg] at hr; cases hr
                      | ok rest2 ee =>
                        rw [eg, R.bind_ok] at hr
                        cases hr
                        obtain ⟨avs, hP7, rr7⟩ := M7.at'
                        have hal := rr7.length
                        refine ⟨avs, hP7, by rw [hal]; exact szl (by omega), hlt, F7, wipeA ed vs, ownW vs own7, ys ++ [yd], by rw [List.length_append]; simp; omega, s7, ?_, rest2, eg, by rw [List.append_assoc]; exact hy⟩
                        have M8 := M7.push r7 avs hP7
                        have O8 : OutR K F7 (upd H6 P (.lst (avs ++ [v]))) own7 (wipe σ vs) (wipeA ed vs) F7 (upd H6 P (.lst (avs ++ [v]))) (ownW vs own7) := by
                          rw [← w4]
                          exact ⟨M8.S.wipe2, Step.refl.sub fun a z => ownW_sub z⟩
                        exact M8.step O8
                  · rw [eu] at hr; cases hr
                  · rw [eu] at hr; cases hr
              · rw [ebt] at hr; cases hr
              · rw [ebt] at hr; cases hr
          · have ei : i = ds.length := by omega
            subst ei
            refine .inl ⟨fd.stop F' H' s1 M.S.ex, ?_⟩
            rw [List.drop_length, compD] at hr
            cases hr
            rw [List.append_nil] at hy
            subst hy
            obtain ⟨avs, hPE, rr⟩ := M.at'
            have SF := unwipe_sit O1.S hda s1 M.S
            refine h (.ref P) F' H' (ownW vs own') (fun a => a = P) ⟨SF, ⟨P, avs, rfl, fun _ => Iff.rfl, hPE, M.fr, rr⟩, fun a z y => ?_, ?_⟩
            · have z' : a = P := z
              subst z'
              exact M.no (ownW_sub y)
            · exact (O1.s.trans M.s).sub fun a z => z.imp_left ownW_sub
        · rw [if_neg hlen] at h; exact h.elim
    · rw [if_neg hda] at h; exact h.elim
section
variable {X : Cx} {Wx : WX} {elt tg iter c : Expr} {scope : Scope} {own : List (Str × Nat)} {pos : Pos} {it : M (List D)} {is : List Nat} {m : MT} {t : M Bool} {f : M U}
theorem tt_yes {K : PySem.W.Frag} {mg : Str → Option Value} {σ : L2.St} {H : Hp} {Q : Bool → Hp → Prop} (h : ttOf K mg Wx0 tYesD σ H Q) : tYes σ H Q := by
  obtain ⟨F, env, own, S, h⟩ := h
  exact h _ _ _ (OutR.refl S)
theorem PTs.imp {X : Cx} {e : List Expr} {t t' : TT} (h : PTs X e t) (i : ∀ σ H Q, t' σ H Q → t σ H Q) : PTs X e t' := ⟨fun pins s σ H Q I q => h.run pins s σ H Q I (i σ H Q q)⟩
/-- [elt for tg in iter] -/
theorem e_comp (hc : X.calm = true) (hN : X.N.Nodup) (hi : ItS X Wx tg iter it) (ok : BlkOk X.N X.env.scope scope own)
    (hg : ∀ (s : Shared) (H : Hp) (C : Addr) (cl : List (Str × Addr)) (fp : List Addr), TgS (X.blk s H scope (compEnvC scope cl C X.env) fp) tg is m)
    (he : ∀ (s : Shared) (H : Hp) (C : Addr) (cl : List (Str × Addr)) (fp : List Addr), EvS (X.blk s H scope (compEnvC scope cl C X.env) fp) Wx0 elt f) (hsub : ∀ i ∈ is, i ∈ own.map (·.2)) (hs : ∀ x, foldedSetIterable iter X.env x = pure x := by intro _; rfl) :
    EvS X Wx (.ListComp elt [⟨tg, iter, [], 0⟩] scope pos) (eComp it (own.map (·.2)) m tYesD f) :=
  PE.imp (pe_lc hc hN hi ok hg (fun s H C cl fp => (PTs.imp pts_nil fun σ H Q q => tt_yes q : PTs _ [] (ttOf X.K X.mg Wx0 tYesD))) he hs) fun σ H Q h => comp_sem hsub h
/-- [elt for tg in iter if c] -/
theorem e_compIf (hc : X.calm = true) (hN : X.N.Nodup) (hi : ItS X Wx tg iter it) (ok : BlkOk X.N X.env.scope scope own)
    (hg : ∀ (s : Shared) (H : Hp) (C : Addr) (cl : List (Str × Addr)) (fp : List Addr), TgS (X.blk s H scope (compEnvC scope cl C X.env) fp) tg is m)
    (ht : ∀ (s : Shared) (H : Hp) (C : Addr) (cl : List (Str × Addr)) (fp : List Addr), TtS (X.blk s H scope (compEnvC scope cl C X.env) fp) Wx0 c t)
    (he : ∀ (s : Shared) (H : Hp) (C : Addr) (cl : List (Str × Addr)) (fp : List Addr), EvS (X.blk s H scope (compEnvC scope cl C X.env) fp) Wx0 elt f) (hsub : ∀ i ∈ is, i ∈ own.map (·.2)) (hs : ∀ x, foldedSetIterable iter X.env x = pure x := by intro _; rfl) :
    EvS X Wx (.ListComp elt [⟨tg, iter, [c], 0⟩] scope pos) (eComp it (own.map (·.2)) m t f) :=
  PE.imp (pe_lc hc hN hi ok hg (fun s H C cl fp => pts_one (ht s H C cl fp)) he hs) fun σ H Q h => comp_sem hsub h
end
end DL

namespace DL
open PySem PySem.Spec PyProof.Rows L2

/-! ### y = [..] -/
theorem set_sem {K : PySem.W.Frag} {mg : Str → Option Value} {Wx : WX} {i : Nat} {fe : M U} {E : Ends} {σ : L2.St} {H : Hp} (h : sOf K mg Wx [i] (sSet i fe) E σ H) : tAsg (tOf K mg Wx fe) (gName i) E σ H := by
  obtain ⟨F, env, own, S, h⟩ := h
  unfold sSet at h
  refine tOf_use S (fun u env1 e1 v F1 H1 own1 p O1 => ?_) (fun c env1 e1 C F1 H1 own1 => ?_) (fun e1 => ?_)
  · rw [e1, R.bind_ok] at h
    cases e2 : ownU env1 u with
    | none => rw [e2] at h; exact h.elim
    | some pr =>
      obtain ⟨w, env2⟩ := pr
      rw [e2] at h
      dsimp only at h
      obtain ⟨F2, own2, p2, O2⟩ := ownU_ok O1 e2
      cases e3 : setS i w env2 with
      | none => rw [e3] at h; exact h.elim
      | some env3 =>
        rw [e3] at h
        obtain ⟨own3, O3⟩ := O2.set e3
        exact h _ _ _ _ Only.set O3
  · rw [e1] at h
    exact h C σ F1 H1 own1 Only.refl
  · rw [e1] at h
    exact h
section
variable {X : Cx} {Wx : WX} {elt tg iter c : Expr} {scope : Scope} {own : List (Str × Nat)} {pos spos py : Pos} {it : M (List D)} {is : List Nat} {m : MT} {t : M Bool} {f : M U} {i : Nat} {y : Str}
theorem s_comp (hc : X.calm = true) (hN : X.N.Nodup) (hy : X.N[i]? = some y) (hyl : X.env.scope.names.lookup y = some .local)
    (hsw : swapsWith (.ListComp elt [⟨tg, iter, [], 0⟩] scope pos) (some (.Name y py)) spos.line X.env = pure true) (hi : ItS X Wx tg iter it) (ok : BlkOk X.N X.env.scope scope own)
    (hg : ∀ (s : Shared) (H : Hp) (C : Addr) (cl : List (Str × Addr)) (fp : List Addr), TgS (X.blk s H scope (compEnvC scope cl C X.env) fp) tg is m)
    (he : ∀ (s : Shared) (H : Hp) (C : Addr) (cl : List (Str × Addr)) (fp : List Addr), EvS (X.blk s H scope (compEnvC scope cl C X.env) fp) Wx0 elt f) (hsub : ∀ i ∈ is, i ∈ own.map (·.2)) (hs : ∀ x, foldedSetIterable iter X.env x = pure x := by intro _; rfl) :
    StS X Wx (.Assign [.Name y py] (.ListComp elt [⟨tg, iter, [], 0⟩] scope pos) spos) [i] (sSet i (eComp it (own.map (·.2)) m tYesD f)) :=
  PS.imp (ps_setLc hc hN hy hyl hsw hi ok hg (fun s H C cl fp => (PTs.imp pts_nil fun σ H Q q => tt_yes q : PTs _ [] (ttOf X.K X.mg Wx0 tYesD))) he hs) fun E σ H h => comp_sem hsub (set_sem h)
theorem s_compIf (hc : X.calm = true) (hN : X.N.Nodup) (hy : X.N[i]? = some y) (hyl : X.env.scope.names.lookup y = some .local)
    (hsw : swapsWith (.ListComp elt [⟨tg, iter, [c], 0⟩] scope pos) (some (.Name y py)) spos.line X.env = pure true) (hi : ItS X Wx tg iter it) (ok : BlkOk X.N X.env.scope scope own)
    (hg : ∀ (s : Shared) (H : Hp) (C : Addr) (cl : List (Str × Addr)) (fp : List Addr), TgS (X.blk s H scope (compEnvC scope cl C X.env) fp) tg is m)
    (ht : ∀ (s : Shared) (H : Hp) (C : Addr) (cl : List (Str × Addr)) (fp : List Addr), TtS (X.blk s H scope (compEnvC scope cl C X.env) fp) Wx0 c t)
    (he : ∀ (s : Shared) (H : Hp) (C : Addr) (cl : List (Str × Addr)) (fp : List Addr), EvS (X.blk s H scope (compEnvC scope cl C X.env) fp) Wx0 elt f) (hsub : ∀ i ∈ is, i ∈ own.map (·.2)) (hs : ∀ x, foldedSetIterable iter X.env x = pure x := by intro _; rfl) :
    StS X Wx (.Assign [.Name y py] (.ListComp elt [⟨tg, iter, [c], 0⟩] scope pos) spos) [i] (sSet i (eComp it (own.map (·.2)) m t f)) :=
  PS.imp (ps_setLc hc hN hy hyl hsw hi ok hg (fun s H C cl fp => pts_one (ht s H C cl fp)) he hs) fun E σ H h => comp_sem hsub (set_sem h)
end

/-! ### a list of one's own changed -/
section
variable {K : PySem.W.Frag} {F H : Hp} {σ : L2.St} {env : DEnv} {own : Nat → Fp}
theorem Sit.mut {i : Nat} {a : Addr} {b : Bool} {ds ds' : List D} {vs' : List V} (S : Sit K F σ H env own) (he : env[i]? = some (some (.l b ds))) (hσ : σ[i]? = some (some (.ref a))) (r : RepDs K F vs' ds') :
    OutR K F H own σ (env.set i (some (.l b ds'))) F (upd H a (.lst vs')) own := by
  obtain ⟨v, hv, a', vs, ev, hp, hH, hF, r0⟩ := S.rep i _ he
  rw [hσ] at hv
  cases hv
  cases ev
  have hi : i < env.length := (List.getElem?_eq_some_iff.mp he).1
  have pa : own i a := (hp a).mpr rfl
  refine ⟨⟨fun x o h => ?_, by rw [List.length_set]; exact S.len, fun j w e => ?_, fun j x z => ?_, S.dis⟩, Same.refl _, fun x o h n => ?_, fun x z => .inl z, fun x o h n => by rw [h] at n; cases n⟩
  · have ne : x ≠ a := fun z => by rw [z, hF] at h; cases h
    rw [upd_ne ne]
    exact S.ex x o h
  · by_cases hj : j = i
    · subst hj
      rw [List.getElem?_set_self hi] at e
      cases e
      exact ⟨.ref a, hσ, a, vs', rfl, hp, upd_same, hF, r⟩
    · rw [List.getElem?_set_ne (Ne.symm hj)] at e
      obtain ⟨u, hu, ru⟩ := S.rep j w e
      refine ⟨u, hu, ru.frame (Same.refl _) (fun x o q h => ?_) fun x q => (ru.there q).2⟩
      have ne : x ≠ a := fun z => hj (S.dis j i x q (z ▸ pa))
      rw [upd_ne ne]
      exact h
  · by_cases hj : j = i
    · subst hj; exact ⟨_, List.getElem?_set_self hi⟩
    · obtain ⟨w, e⟩ := S.emp j x z
      exact ⟨w, by rw [List.getElem?_set_ne (Ne.symm hj)]; exact e⟩
  · have ne : x ≠ a := fun z => n (z ▸ ⟨i, pa⟩)
    rw [upd_ne ne]
    exact h
end
/-- x.append(e), x in the i-th slot -/
def eApp (i : Nat) (fe : M U) : M U := fun env => match env[i]? with
  | some (some (.l _ _)) => (fe env).bind fun u e1 => (match frz1 e1 u with
    | some (d, e2) => (match e2[i]? with
      | some (some (.l b ds)) => if ds.length < 1000000 then .ok (.w (.v .non)) (e2.set i (some (.l b (ds ++ [d])))) else .stuck
      | _ => .stuck)
    | none => .stuck)
  | _ => .stuck
/-- x[k] = e -/
def sStore (i : Nat) (fk fe : M U) : M Fl := fun env => match env[i]? with
  | some (some (.l _ _)) => (fe env).bind fun u e1 => (fk e1).bind fun uk e2 => (match frz1 e2 u with
    | some (d, e3) => (match dat e3 uk, e3[i]? with
      | some (.int n), some (some (.l b ds)) => (match ixN ds.length n with
        | some j => .ok .next (e3.set i (some (.l b (ds.set j d))))
        | none => .stuck)
      | _, _ => .stuck)
    | none => .stuck)
  | _ => .stuck
section
variable {X : Cx} {Wx : WX} {e k : Expr} {fe fk : M U} {i : Nat} {x : Str} {pos p1 apos cpos tpos : Pos}
theorem e_app (hN : X.N[i]? = some x := by rfl) (hv : Vis X.env.scope x := by first | exact Or.inl rfl | exact Or.inr (Or.inl rfl) | exact Or.inr (Or.inr rfl)) (hd : (x == ("__debug__" : Str)) = false := by decide) (hcd : (x == ("__classdict__" : Str)) = false := by decide) (he : EvS X Wx e fe)
    (hs0 : starEach [e] X.env = (false, eval e X.env) :: starEach [] X.env := by rfl)
    (hbase : attributeBase (.Name x p1) "append" X.env (eval (.Name x p1) X.env) = eval (.Name x p1) X.env := by rfl)
    (hfew : ((backTo cpos (starEach [e] X.env)).all (fun x => !x.1) && (backToKw cpos (keywordEach [] X.env)).all (fun x => x.1.isSome)
      && decide ([e].length + ([] : List Keyword).length + (if ([] : List Keyword).isEmpty then 0 else 1) < 30)) = true := by rfl)
    (hline : (apos.endLine == cpos.line) = true := by rfl) (hplain : (backTo cpos (starEach [] X.env)).any (·.1) = false := by rfl) :
    EvS X Wx (.Call (.Attribute (.Name x p1) "append" apos) [e] [] cpos) (eApp i fe) :=
  PE.imp (pe_bm PySem.F.plainAttrs_list PySem.F.slot_list_append PySem.F.type_list_append mt_append (pe_var hN hv hd hcd) (pa_cons he pa_nil hs0) hbase hfew hline hs0 hplain) fun σ H Q h => by
  obtain ⟨F, env, own, S, h⟩ := h
  unfold eApp at h
  split at h
  · rename_i u env' heq
    split at heq
    · rename_i b ds hw
      obtain ⟨v, hv, a, vs, rfl, hp, hH, hF, r0⟩ := S.rep i _ hw
      refine ⟨.ref a, hv, Or.inl ⟨rfl, vs, .inl (.inl hH)⟩, ?_⟩
      refine tOf_use S (fun u' env1 e1 v1 F1 H1 own1 p O1 => ?_) (fun c env1 e1 C F1 H1 own1 => ?_) (fun e1 => ?_)
      · rw [e1, R.bind_ok] at heq
        split at heq
        · rename_i d env2 e2
          split at heq
          · rename_i b2 ds2 hw2
            split at heq
            · rename_i hl
              cases heq
              obtain ⟨F2, own2, r2, O2⟩ := O1.frz e2
              obtain ⟨v2, hv2, a2, vs2, ev2, hp2, hH2, hF2, r3⟩ := O2.S.rep i _ hw2
              rw [hv] at hv2
              cases hv2
              cases ev2
              refine ⟨a, vs2, v1, rfl, rfl, hH2, by rw [r3.length]; exact szl hl, ?_⟩
              have O3 := O2.S.mut hw2 hv (r3.append (.cons r2 .nil))
              exact h _ _ _ _ _ ((Grow.refl O3.S.ex).out (O2.trans O3) RepW.ofNon)
            · cases heq
          · cases heq
        · cases heq
      · rw [e1] at heq; cases heq
      · rw [e1] at heq; cases heq
    · cases heq
  · rename_i c env' heq
    split at heq
    · rename_i b ds hw
      obtain ⟨v, hv, a, vs, rfl, hp, hH, hF, r0⟩ := S.rep i _ hw
      refine ⟨.ref a, hv, Or.inl ⟨rfl, vs, .inl (.inl hH)⟩, ?_⟩
      refine tOf_use S (fun u' env1 e1 v1 F1 H1 own1 p O1 => ?_) (fun c env1 e1 C F1 H1 own1 => ?_) (fun e1 => ?_)
      · rw [e1, R.bind_ok] at heq
        split at heq
        · split at heq
          · split at heq <;> cases heq
          · cases heq
        · cases heq
      · rw [e1, R.bind_raise] at heq
        cases heq
        exact h C F1 H1 own1
      · rw [e1] at heq; cases heq
    · cases heq
  · exact h.elim
theorem s_store (hN : X.N[i]? = some x := by rfl) (hv : Vis X.env.scope x := by first | exact Or.inl rfl | exact Or.inr (Or.inl rfl) | exact Or.inr (Or.inr rfl)) (hd : (x == ("__debug__" : Str)) = false := by decide) (hcd : (x == ("__classdict__" : Str)) = false := by decide) (he : EvS X Wx e fe) (hk : EvS X Wx k fk)
    (ha : ∀ v, assign (.Subscript (.Name x p1) k tpos) X.env v = (do
      let ov ← holding [v] (eval (.Name x p1) X.env)
      let iv ← holding [v, ov] (eval k X.env)
      standAt tpos
      holding [v, ov, iv] (setItem ov iv v)
      release [v, ov, iv] []) := by intro _; rfl)
    (hs : swapsWithSole [.Subscript (.Name x p1) k tpos] e pos.line X.env = pure false := by rfl) (hw : swappedStores [.Subscript (.Name x p1) k tpos] e X.env = pure none := by rfl)
    (h1 : (assignEach [.Subscript (.Name x p1) k tpos] X.env).map (·.2) = [assign (.Subscript (.Name x p1) k tpos) X.env] := by rfl) :
    StS X Wx (.Assign [.Subscript (.Name x p1) k tpos] e pos) [] (sStore i fk fe) :=
  PS.imp (ps_asg he (pg_sub (pe_var hN hv hd hcd) hk set_list ha) hs hw h1) fun E σ H h => by
  obtain ⟨F, env, own, S, h⟩ := h
  have h : Po X.K X.mg Wx [] E σ F H own (sStore i fk fe env) := h
  cases hw0 : env[i]? with
  | none => unfold sStore at h; rw [hw0] at h; exact h.elim
  | some ow =>
    cases ow with
    | none => unfold sStore at h; rw [hw0] at h; exact h.elim
    | some w0 =>
      cases w0 with
      | v d => unfold sStore at h; rw [hw0] at h; exact h.elim
      | m ks ds => unfold sStore at h; rw [hw0] at h; exact h.elim
      | x _ => unfold sStore at h; rw [hw0] at h; exact h.elim
      | l b0 ds0 =>
        unfold sStore at h
        rw [hw0] at h
        dsimp only at h
        obtain ⟨v, hv, a, vs, rfl, hp, hH, hF, r0⟩ := S.rep i _ hw0
        refine tOf_use S (fun u env1 e1 v1 F1 H1 own1 p O1 => ?_) (fun c env1 e1 C F1 H1 own1 hm O1 => ?_) (fun e1 => ?_)
        · rw [e1, R.bind_ok] at h
          refine ⟨.ref a, hv, ?_⟩
          refine tOf_use O1.S (fun uk env2 e2 vk F2 H2 own2 p2 O2 => ?_) (fun c env2 e2 C F2 H2 own2 hm O2 => ?_) (fun e2 => ?_)
          · rw [e2, R.bind_ok] at h
            have OO := O1.out2 O2
            cases e3 : frz1 env2 u with
            | none => rw [e3] at h; exact h.elim
            | some pr =>
              obtain ⟨d, env3⟩ := pr
              rw [e3] at h
              dsimp only at h
              obtain ⟨F3, own3, S3, r3, s3⟩ := frz1_ok OO.S OO.r1 OO.d1 e3
              have st := OO.s.trans ((s3.more p2).sup fun x z => by
                rcases z with (z | z) | z
                · exact .inl (.inl z)
                · exact .inr z
                · exact .inl (.inr z))
              obtain ⟨rk, dk⟩ := RepU.stepU OO.r2 (fun x q z => by
                rcases z with z | z
                · exact OO.d2 x q z
                · exact OO.d12 x z q) s3
              have O3 : OutR X.K F H own σ env3 F3 H2 own3 := ⟨S3, st.sub fun x z => .inl z⟩
              cases e4 : dat env3 uk with
              | none => rw [e4] at h; exact h.elim
              | some dk' =>
                have vw := RepU.view S3 rk e4
                cases dk' with
                | int n =>
                  cases e5 : env3[i]? with
                  | none => rw [e4, e5] at h; exact h.elim
                  | some ow =>
                    cases ow with
                    | none => rw [e4, e5] at h; exact h.elim
                    | some w =>
                      cases w with
                      | v _ => rw [e4, e5] at h; exact h.elim
                      | m _ _ => rw [e4, e5] at h; exact h.elim
                      | x _ => rw [e4, e5] at h; exact h.elim
                      | l b ds =>
                        rw [e4, e5] at h
                        dsimp only at h
                        cases e6 : ixN ds.length n with
                        | none => rw [e6] at h; exact h.elim
                        | some j =>
                          rw [e6] at h
                          obtain ⟨v2, hv2, a2, vs2, ev2, hp2, hH2, hF2, r4⟩ := S3.rep i _ e5
                          rw [hv] at hv2
                          cases hv2
                          cases ev2
                          refine ⟨a, vs2, n, j, rfl, vw.int, hH2, by rw [r4.length]; exact e6, ?_⟩
                          exact h _ _ _ _ Only.refl (O3.trans (S3.mut e5 hv (r4.set r3 j)))
                | _ => rw [e4] at h; exact h.elim
          · rw [e2] at h
            exact h C σ F2 H2 own2 Only.refl hm (O1.drop.trans O2)
          · rw [e2] at h
            exact h
        · rw [e1] at h
          exact h C σ F1 H1 own1 Only.refl hm O1
        · rw [e1] at h
          exact h
end

/-! ### raise -/
section
variable {X : Cx} {Wx : WX} {C : Addr} {bmB : List Value} {B newId initId : String} {x m : Str} {j : Nat} {p p2 pos pos' : Pos}
theorem s_raise (hc : X.calm = true) (tk : Takes X Wx) (Fb : ExcBaseFacts B newId initId bmB) (q : PySem.W.excIn X.K C bmB newId = true) (gC : X.mg x = some (.ref C)) (kC : PySem.W.keepIn X.K (.ref C) = true) (r : Raises X (.ref C)) (hg : Gl X x)
    (hdb : (x == ("__debug__" : Str)) = false := by decide) : StS X Wx (.Raise (some (.Call (.Name x p) [.Constant (.str m) j p2] [] pos)) none pos') [] (sRaise x) :=
  PS.imp (ps_raise hc tk (pmk_own Fb q gC kC r hg hdb)) fun E σ H h => by
  obtain ⟨F, env, own, S, h⟩ := h
  exact h C σ F H own Only.refl gC (OutR.refl S)
end

/-! ### a def -/
def bor : W → W
  | .v d => .v d
  | .l _ ds => .l true ds
  | .m ks ds => .m ks ds
  | .x (.o _ c ns fs) => .x (.o true c ns fs)
  | .x y => .x y
def retW (env : DEnv) : U → Option W
  | .w (.v d) => some (.v d)
  | .w (.l _ ds) => some (.l false ds)
  | .w (.m ks ds) => some (.m ks ds)
  | .w (.x (.o _ c ns fs)) => some (.x (.o false c ns fs))
  | .w (.x y) => some (.x y)
  | .b i => match env[i]? with
    | some (some (.v d)) => some (.v d)
    | some (some (.l false ds)) => some (.l false ds)
    | some (some (.x (.o false c ns fs))) => some (.x (.o false c ns fs))
    | _ => none
def backs (env : DEnv) : Nat → List W → Option (List W)
  | _, [] => some []
  | j, .v d :: ws => match backs env (j + 1) ws with
    | some r => some (.v d :: r)
    | none => none
  | j, .l b _ :: ws => match env[j]? with
    | some (some (.l true ds)) => (match backs env (j + 1) ws with
      | some r => some (.l b ds :: r)
      | none => none)
    | _ => none
  | j, .x (.o b _ _ _) :: ws => match env[j]? with
    | some (some (.x (.o true c ns fs))) => (match backs env (j + 1) ws with
      | some r => some (.x (.o b c ns fs) :: r)
      | none => none)
    | _ => none
  | _, .m _ _ :: _ => none
  | _, .x (.d _ _ _) :: _ => none
  | _, .x (.t _) :: _ => none
/-- what is stored to is no list that was handed in -/
def keeps (is : List Nat) (ws : List W) : Bool := is.all fun j => match ws[j]? with
  | some (.l _ _) => false
  | some (.x _) => false
  | _ => true
def lentT : W → Bool
  | .l true _ => true
  | .x (.o true _ _ _) => true
  | _ => false
/-- what is lent -/
def lent : W → Bool
  | .l _ _ => true
  | .x (.o _ _ _ _) => true
  | _ => false
/-- what a body that tells f makes of a def with np parameters and nl names -/
def mkFn (is : List Nat) (np nl : Nat) (f : M Fl) : List W → RF := fun ws => if keeps is ws = true ∧ ws.length = np then (match f (ws.map (fun w => some (bor w)) ++ List.replicate (nl - np) none) with
  | .ok (.ret u) env => (match retW env u, backs env 0 ws with
    | some w, some ws' => .ok w ws'
    | _, _ => .stuck)
  | .ok .next env => (match backs env 0 ws with
    | some ws' => .ok (.v .non) ws'
    | none => .stuck)
  | .raise c env => (match backs env 0 ws with
    | some ws' => .raise c ws'
    | none => .stuck)
  | _ => .stuck) else .stuck
section
variable {K : PySem.W.Frag} {F H F1 H1 : Hp} {vs : List V} {ws ws' : List W} {own own1 : Nat → Fp} {σ1 : L2.St} {env1 : DEnv}
theorem RepW.bor {v : V} {w : W} {p : Fp} (r : RepW K F H v w p) : RepW K F H v (DL.bor w) p := by
  cases w with
  | v d => exact r
  | l b ds => exact r
  | m ks ds => exact r
  | x y => cases y <;> exact r
theorem sit_start {n : Nat} (S : ASit K F H vs ws own) : Sit K F (vs.map some ++ List.replicate n none) H (ws.map (fun w => some (DL.bor w)) ++ List.replicate n none) own := by
  have hl : ws.length = vs.length := by have := S.len; simpa using this
  refine ⟨S.ex, by simp [hl], fun i w e => ?_, fun i a z => ?_, S.dis⟩
  · by_cases hi : i < ws.length
    · rw [List.getElem?_append_left (by simpa using hi), List.getElem?_map, List.getElem?_eq_getElem hi] at e
      have e' : DL.bor ws[i] = w := by simpa using e
      subst e'
      obtain ⟨v, hv, r⟩ := S.rep i ws[i] (get_some_map (List.getElem?_eq_getElem hi))
      refine ⟨v, ?_, r.bor⟩
      rw [List.getElem?_append_left (by rw [List.length_map, ← hl]; exact hi)]
      exact hv
    · rw [List.getElem?_append_right (by simpa using Nat.le_of_not_lt hi), List.getElem?_replicate] at e
      split at e <;> cases e
  · obtain ⟨w, e⟩ := S.emp i a z
    have hi : i < ws.length := by
      have := (List.getElem?_eq_some_iff.mp (get_map_some e)).1
      exact this
    refine ⟨DL.bor ws[i], ?_⟩
    rw [List.getElem?_append_left (by simpa using hi), List.getElem?_map, List.getElem?_eq_getElem hi]
    rfl
theorem backs_ok : ∀ {ws ws' : List W} {j : Nat}, backs env1 j ws = some ws' → ws'.length = ws.length ∧ ∀ (i : Nat) (w : W), ws'[i]? = some w → (∃ d, w = .v d ∧ ws[i]? = some (.v d)) ∨ ∃ w0 w1, ws[i]? = some w0 ∧ lent w0 = true ∧ env1[j + i]? = some (some w1) ∧ lentT w1 = true ∧ SameRep w1 w
  | [], ws', j, h => by
    cases h
    exact ⟨rfl, fun i w e => by simp at e⟩
  | .v d :: ws, ws', j, h => by
    have h : (match backs env1 (j + 1) ws with | some r => some (W.v d :: r) | none => none) = some ws' := h
    split at h
    · rename_i r hr
      cases h
      obtain ⟨h1, h2⟩ := backs_ok hr
      refine ⟨by rw [List.length_cons, List.length_cons, h1], fun i w e => ?_⟩
      cases i with
      | zero => simp at e; subst e; exact .inl ⟨d, rfl, rfl⟩
      | succ i =>
        have := h2 i w (by simpa using e)
        rw [show j + (i + 1) = j + 1 + i by omega]
        simpa using this
    · cases h
  | .m _ _ :: _, _, _, h => by cases h
  | .x (.d _ _ _) :: _, _, _, h => by cases h
  | .x (.t _) :: _, _, _, h => by cases h
  | .x (.o b c0 ns0 fs0) :: ws, ws', j, h => by
    have h : (match env1[j]? with | some (some (.x (.o true c ns fs))) => (match backs env1 (j + 1) ws with | some r => some (W.x (.o b c ns fs) :: r) | none => none) | _ => none) = some ws' := h
    split at h
    · rename_i c ns fs hw
      split at h
      · rename_i r hr
        cases h
        obtain ⟨h1, h2⟩ := backs_ok hr
        refine ⟨by rw [List.length_cons, List.length_cons, h1], fun i w e => ?_⟩
        cases i with
        | zero => simp at e; subst e; exact .inr ⟨_, .x (.o true c ns fs), rfl, rfl, by simpa using hw, rfl, fun _ _ _ _ _ r => r⟩
        | succ i =>
          have := h2 i w (by simpa using e)
          rw [show j + (i + 1) = j + 1 + i by omega]
          simpa using this
      · cases h
    · cases h
  | .l b ds0 :: ws, ws', j, h => by
    have h : (match env1[j]? with | some (some (.l true ds)) => (match backs env1 (j + 1) ws with | some r => some (W.l b ds :: r) | none => none) | _ => none) = some ws' := h
    split at h
    · rename_i ds hw
      split at h
      · rename_i r hr
        cases h
        obtain ⟨h1, h2⟩ := backs_ok hr
        refine ⟨by rw [List.length_cons, List.length_cons, h1], fun i w e => ?_⟩
        cases i with
        | zero => simp at e; subst e; exact .inr ⟨_, .l true ds, rfl, rfl, by simpa using hw, rfl, fun _ _ _ _ _ r => r⟩
        | succ i =>
          have := h2 i w (by simpa using e)
          rw [show j + (i + 1) = j + 1 + i by omega]
          simpa using this
      · cases h
    · cases h
/-- what the def's own frame has left of its parameters -/
def ownP (ws : List W) (own : Nat → Fp) : Nat → Fp := fun j a => (∃ w0, ws[j]? = some w0 ∧ lent w0 = true) ∧ own j a
theorem sit_end {is : List Nat} {n : Nat} (S : ASit K F H vs ws own) (O : OutR K F H own σ1 env1 F1 H1 own1) (y : Only is (vs.map some ++ List.replicate n none) σ1) (hb : backs env1 0 ws = some ws') (hno : ∀ (j : Nat) w0, ws[j]? = some w0 → lent w0 = true → j ∉ is) : ASit K F1 H1 vs ws' (ownP ws own1) := by
  obtain ⟨h1, h2⟩ := backs_ok hb
  have hl : ws.length = vs.length := by have := S.len; simpa using this
  refine ⟨O.S.ex, by simp [h1, hl], fun i w e => ?_, fun i a z => ?_, fun i k a z1 z2 => O.S.dis i k a z1.2 z2.2⟩
  · rcases h2 i w (get_map_some e) with ⟨d, rfl, e2⟩ | ⟨w0, w1, e2, hlt, e3, _, sr⟩
    · obtain ⟨v, hv, r⟩ := S.rep i _ (get_some_map e2)
      refine ⟨v, hv, fun a z => ?_, r.2.mono O.s.ex⟩
      obtain ⟨⟨w0, e3, hq⟩, _⟩ := z
      rw [e2] at e3
      cases e3
      cases hq
    · rw [Nat.zero_add] at e3
      obtain ⟨v, hv, r⟩ := O.S.rep i _ e3
      obtain ⟨v0, hv0, _⟩ := S.rep i _ (get_some_map e2)
      have hi : i < vs.length := by rw [← hl]; exact (List.getElem?_eq_some_iff.mp e2).1
      have ev : v = v0 := by
        rw [y.2 i (hno i _ e2 hlt), List.getElem?_append_left (by simpa using hi), hv0] at hv
        cases hv
        rfl
      subst ev
      refine ⟨v, hv0, ?_⟩
      have e4 : ownP ws own1 i = own1 i := funext fun a => propext ⟨fun z => z.2, fun z => ⟨⟨_, e2, hlt⟩, z⟩⟩
      rw [e4]
      exact sr _ _ _ _ _ r
  · obtain ⟨⟨w0, e2, _⟩, _⟩ := z
    have hi : i < ws'.length := by rw [h1]; exact (List.getElem?_eq_some_iff.mp e2).1
    exact ⟨ws'[i], get_some_map (List.getElem?_eq_getElem hi)⟩
theorem ownP_sub {a : Addr} (h : all (ownP ws own) a) : all own a := by
  obtain ⟨i, _, z⟩ := h
  exact ⟨i, z⟩
end
section
variable {P : Program} {w : World} {K : PySem.W.Frag} {mg : Str → Option Value} {base : Heap}
theorem fn_ok {x qual : Str} {st : Stmt} {f : Addr} {fd : FuncData} {N ps : List Str} {k : Nat} {is : List Nat} {fb : M Fl} (F : Fun K x qual st f fd) (S : FnScope N ps (defScope st))
    (hb : ∀ (cdv : Value) (A : Around) (outer : List Env) (s : Shared) (H : Hp) (E : XK), Room k (A.deeper (envOfC qual (defScope st) s.heap.objs.size f cdv)) →
      SsS (cxOf (L2.CX P w) P w K mg base N qual (defScope st) f cdv A outer s H E) (fun c d _ H => E c d H) (defBody st) is fb)
    : FnS P w K mg base (k + 1) f fd ps (mkFn is ps.length N.length fb) := by
  refine F.okX S (fun vs H Q E h => h.1) (fun cdv A outer s H vs Q E hr h => ?_)
  obtain ⟨hl, F0, ws, own, SA, h⟩ := h
  have hno : keeps is ws = true := by
    cases e : keeps is ws with
    | true => rfl
    | false =>
      unfold mkFn at h
      rw [e, if_neg (fun z => Bool.false_ne_true z.1)] at h
      exact h.elim
  have hno' : ∀ (j : Nat) w0, ws[j]? = some w0 → lent w0 = true → j ∉ is := fun j w0 e hq z => by
    unfold keeps at hno
    rw [List.all_eq_true] at hno
    have := hno j z
    rw [e] at this
    cases w0 with
    | l b ds => cases this
    | x y => cases this
    | v d => cases hq
    | m ks ds => cases hq
  refine ⟨_, hb cdv A outer s H E hr, F0, ws.map (fun w => some (bor w)) ++ List.replicate (N.length - ps.length) none, own, ?_, ?_⟩
  · show Sit K F0 (L2.start N vs) H _ own
    unfold L2.start
    rw [hl]
    exact sit_start SA
  · have hwl : ws.length = ps.length := by have := SA.len; simp at this; omega
    unfold mkFn at h
    rw [if_pos ⟨hno, hwl⟩] at h
    have e0 : L2.start N vs = vs.map some ++ List.replicate (N.length - ps.length) none := by unfold L2.start; rw [hl]
    generalize hr2 : fb (ws.map (fun w => some (bor w)) ++ List.replicate (N.length - ps.length) none) = r at h ⊢
    rw [e0]
    cases r with
    | stuck => exact h
    | raise c env1 =>
      dsimp only at h
      intro C σ' F' H' own' y hm O
      cases e : backs env1 0 ws with
      | none => rw [e] at h; exact h.elim
      | some ws' =>
        rw [e] at h
        exact h C F' H' (ownP ws own') hm (sit_end SA O y e hno') (O.s.sub fun a z => ownP_sub z)
    | ok fl env1 =>
      cases fl with
      | brk => exact h.elim
      | cont => exact h.elim
      | next =>
        dsimp only at h
        intro σ' F' H' own' y O
        cases e : backs env1 0 ws with
        | none => rw [e] at h; exact h.elim
        | some ws' =>
          rw [e] at h
          exact h .non F' H' (ownP ws own') (fun _ => False) ⟨sit_end SA O y e hno', RepW.ofNon, fun _ z => z.elim, O.s.sub fun a z => z.elim ownP_sub False.elim⟩
      | ret u =>
        dsimp only at h
        intro v σ' F' H' own' p y O
        cases e1 : retW env1 u with
        | none => rw [e1] at h; exact h.elim
        | some wr =>
          cases e : backs env1 0 ws with
          | none => rw [e1, e] at h; exact h.elim
          | some ws' =>
            rw [e1, e] at h
            dsimp only at h
            have SE := sit_end SA O.drop y e hno'
            cases u with
            | w x =>
              have hx : RepW K F' H' v wr p := by
                cases x with
                | v d => cases e1; exact O.r
                | l b ds => cases e1; exact O.r
                | m ks ds => cases e1; exact O.r
                | x y => cases y <;> (cases e1; exact O.r)
              exact h v F' H' (ownP ws own') p ⟨SE, hx, fun a z q => O.d a z (ownP_sub q), O.s.sub fun a z => z.imp_left ownP_sub⟩
            | b i =>
              have e1 : (match env1[i]? with | some (some (.v d)) => some (W.v d) | some (some (.l false ds)) => some (.l false ds) | some (some (.x (.o false c ns fs))) => some (.x (.o false c ns fs)) | _ => none) = some wr := e1
              obtain ⟨hp, hv⟩ := O.r
              split at e1
              · rename_i d hw
                cases e1
                obtain ⟨v', hv', r⟩ := O.S.rep i _ hw
                rw [hv] at hv'
                cases hv'
                exact h v F' H' (ownP ws own') (fun _ => False) ⟨SE, RepW.ofRep r.2, fun _ z => z.elim, O.s.sub fun a z => z.elim (fun q => .inl (ownP_sub q)) False.elim⟩
              · rename_i ds hw
                cases e1
                obtain ⟨v', hv', r⟩ := O.S.rep i _ hw
                rw [hv] at hv'
                cases hv'
                refine h v F' H' (ownP ws own') (own' i) ⟨SE, r, fun a z q => ?_, O.s.sub fun a z => ?_⟩
                · obtain ⟨j, ⟨w0, e2, hq⟩, q⟩ := q
                  have := O.S.dis i j a z q
                  subst this
                  obtain ⟨h1, h2⟩ := backs_ok e
                  have hi : i < ws'.length := by rw [h1]; exact (List.getElem?_eq_some_iff.mp e2).1
                  rcases h2 i ws'[i] (List.getElem?_eq_getElem hi) with ⟨d, _, e3⟩ | ⟨_, w1, _, _, e3, e4, _⟩
                  · rw [e2] at e3; cases e3; cases hq
                  · rw [Nat.zero_add, hw] at e3; cases e3; cases e4
                · rcases z with z | z
                  · exact .inl (ownP_sub z)
                  · exact .inl ⟨i, z⟩
              · rename_i c ns fs hw
                cases e1
                obtain ⟨v', hv', r⟩ := O.S.rep i _ hw
                rw [hv] at hv'
                cases hv'
                refine h v F' H' (ownP ws own') (own' i) ⟨SE, r, fun a z q => ?_, O.s.sub fun a z => ?_⟩
                · obtain ⟨j, ⟨w0, e2, hq⟩, q⟩ := q
                  have := O.S.dis i j a z q
                  subst this
                  obtain ⟨h1, h2⟩ := backs_ok e
                  have hi : i < ws'.length := by rw [h1]; exact (List.getElem?_eq_some_iff.mp e2).1
                  rcases h2 i ws'[i] (List.getElem?_eq_getElem hi) with ⟨d, _, e3⟩ | ⟨_, w1, _, _, e3, e4, _⟩
                  · rw [e2] at e3; cases e3; cases hq
                  · rw [Nat.zero_add, hw] at e3; cases e3; cases e4
                · rcases z with z | z
                  · exact .inl (ownP_sub z)
                  · exact .inl ⟨i, z⟩
              · cases e1
end
end DL

namespace DL
open PySem PySem.Spec PyProof.Rows L2

/-! ### two fors -/
def compD2 (vs vs1 : List Nat) (m : MT) (it1 : M (List D)) (m1 : MT) (f : M U) : List D → M (List D)
  | [], env => .ok [] env
  | d :: ds, env => match m d env with
    | none => .stuck
    | some e1 => (it1 e1).bind fun ds1 e2 => (compD vs1 m1 tYesD f ds1 (wipeA e2 vs1)).bind fun ys e3 => (compD2 vs vs1 m it1 m1 f ds (wipeA e3 vs)).bind fun zs e4 => .ok (ys ++ zs) e4
def eComp2 (it : M (List D)) (vs vs1 : List Nat) (m : MT) (it1 : M (List D)) (m1 : MT) (f : M U) : M U := fun env => (it env).bind fun ds e1 => if dataAt e1 vs then (match compD2 vs vs1 m it1 m1 f ds (wipeA e1 vs) with
  | .ok ys e2 => if ys.length ≤ 1000000 then .ok (.w (.l false ys)) (unwipe e1 vs e2) else .stuck
  | _ => .stuck) else .stuck
theorem comp2_sem {K : PySem.W.Frag} {mg : Str → Option Value} {Wx : WX} {it it1 : M (List D)} {is is1 vs vs1 : List Nat} {m m1 : MT} {f : M U} {σ : L2.St} {H : Hp} {Q : VK} (hsub : ∀ i ∈ is, i ∈ vs) (hsub1 : ∀ i ∈ is1, i ∈ vs1) (hv : ∀ i ∈ vs1, i ∈ vs) (h : tOf K mg Wx (eComp2 it vs vs1 m it1 m1 f) σ H Q) :
    tLc2 (iOf K mg Wx it) (gOf K is m) (ttOf K mg Wx0 tYesD) (iOf K mg Wx0 it1) (gOf K is1 m1) (ttOf K mg Wx0 tYesD) (tOf K mg Wx0 f) vs vs1 σ H Q := by
  obtain ⟨F, env, own, S, h⟩ := h
  unfold eComp2 at h
  refine ⟨F, env, own, S, ?_⟩
  cases e : it env with
  | stuck => rw [e] at h; exact h
  | raise c env1 => rw [e] at h; exact h
  | ok ds env1 =>
    rw [e, R.bind_ok] at h
    intro J F1 H1 own1 O1 fd P hP
    by_cases hda : dataAt env1 vs = true
    · rw [if_pos hda] at h
      cases ec : compD2 vs vs1 m it1 m1 f ds (wipeA env1 vs) with
      | stuck => rw [ec] at h; exact h.elim
      | raise _ _ => rw [ec] at h; exact h.elim
      | ok yall efin =>
        rw [ec] at h
        dsimp only at h
        by_cases hlen : yall.length ≤ 1000000
        · rw [if_pos hlen] at h
          have S1w := O1.S.wipe (vs := vs) fun i hi a => dataAt_no O1.S hda hi a
          have g0 : Grow F1 H1 F1 (upd H1 P (.lst [])) (fun a => a = P) := Grow.ofOwn O1.S.ex hP
          have M0 : Mid K F1 H1 own1 P (wipe σ vs) (wipeA env1 vs) F1 (upd H1 P (.lst [])) own1 [] := by
            refine ⟨g0.sit S1w, ⟨[], upd_same, .nil⟩, sub_none O1.S.ex hP, fun z => ?_, g0.step own1⟩
            obtain ⟨⟨o, e2⟩, _⟩ := O1.S.there z
            rw [hP] at e2
            cases e2
          refine ⟨fun i k H' => k = ds.length - i ∧ i ≤ ds.length ∧ ∃ F' env' own' ys, Same F1 F' ∧ Mid K F1 H1 own1 P (wipe σ vs) env' F' H' own' ys ∧ ∃ rest, compD2 vs vs1 m it1 m1 f (ds.drop i) env' = .ok rest efin ∧ ys ++ rest = yall,
            ⟨ds.length, by simp, Nat.zero_le _, F1, wipeA env1 vs, own1, [], Same.refl _, M0, yall, ec, rfl⟩, ?_⟩
          rintro i k H' ⟨rfl, hi, F', env', own', ys, s1, M, rest, hr, hy⟩
          by_cases hlt : i < ds.length
          · refine .inr ⟨fd.go F' H' i s1 M.S.ex hlt, fun H'' => i + 1 ≤ ds.length ∧ ∃ F' env' own' ys, Same F1 F' ∧ Mid K F1 H1 own1 P (wipe σ vs) env' F' H'' own' ys ∧ ∃ rest, compD2 vs vs1 m it1 m1 f (ds.drop (i + 1)) env' = .ok rest efin ∧ ys ++ rest = yall,
              fun H'' q => ⟨ds.length - (i + 1), by omega, rfl, q.1, q.2⟩, fun x H'' y => ?_⟩
            have hd : ds[i]? = some ds[i] := List.getElem?_eq_getElem hlt
            obtain ⟨F3, gr, r3⟩ := fd.yld F' H' i x H'' ds[i] s1 M.S.ex hd y
            have hdr : ds.drop i = ds[i] :: ds.drop (i + 1) := List.drop_eq_getElem_cons hlt
            rw [hdr, compD2] at hr
            have M3 : Mid K F1 H1 own1 P (wipe σ vs) env' F3 H'' own' ys := M.step ⟨gr.sit M.S, (gr.step own').sub fun _ z => .inl z⟩
            refine ⟨F3, env', own', ds[i], M3.S, r3, ?_⟩
            cases e3 : m ds[i] env' with
            | none => rw [e3] at hr; cases hr
            | some ea =>
              rw [e3] at hr
              dsimp only at hr
              intro σ4 F4 H4 own4 o4 O4
              have w4 : wipe σ4 vs = wipe σ vs := (wipe_only o4 hsub).trans wipe_wipe
              refine ⟨w4, ?_⟩
              have M4 := M3.step O4
              have s4 : Same F1 F4 := (s1.trans gr.exF).trans O4.s.ex
              refine ⟨F4, ea, own4, O4.S, ?_⟩
              show ∀ F' H' own', OutR K F4 H4 own4 σ4 ea F' H' own' → _
              intro F5 H5 own5 O5
              have M5 := M4.step O5
              have s5 := s4.trans O5.s.ex
              rw [if_pos rfl]
              refine ⟨F5, ea, own5, O5.S, ?_⟩
              cases ei : it1 ea with
              | stuck => rw [ei] at hr; cases hr
              | raise _ _ => rw [ei] at hr; cases hr
              | ok ds1 eb =>
                rw [ei, R.bind_ok] at hr
                intro J1 F6 H6 own6 O6 fd1
                have M6 := M5.step O6
                have s6 := s5.trans O6.s.ex
                cases ej : compD vs1 m1 tYesD f ds1 (wipeA eb vs1) with
                | stuck => rw [ej] at hr; cases hr
                | raise _ _ => rw [ej] at hr; cases hr
                | ok yin ein =>
                  rw [ej, R.bind_ok] at hr
                  cases ek : compD2 vs vs1 m it1 m1 f (ds.drop (i + 1)) (wipeA ein vs) with
                  | stuck => rw [ek] at hr; cases hr
                  | raise _ _ => rw [ek] at hr; cases hr
                  | ok rest2 ee =>
                    rw [ek, R.bind_ok] at hr
                    cases hr
                    -- the inner loop
                    have M7 : Mid K F1 H1 own1 P (wipe σ4 vs1) (wipeA eb vs1) F6 H6 (ownW vs1 own6) ys := M6.step ⟨O6.S.wipe2, Step.refl.sub fun a z => ownW_sub z⟩
                    refine ⟨fun j k H' => k = ds1.length - j ∧ j ≤ ds1.length ∧ ∃ F' env' own' ys', Same F6 F' ∧ Mid K F1 H1 own1 P (wipe σ4 vs1) env' F' H' own' ys' ∧ ∃ rest, compD vs1 m1 tYesD f (ds1.drop j) env' = .ok rest ein ∧ ys' ++ rest = ys ++ yin,
                      ⟨ds1.length, by simp, Nat.zero_le _, F6, wipeA eb vs1, ownW vs1 own6, ys, Same.refl _, M7, yin, ej, rfl⟩, ?_⟩
                    rintro j k H8 ⟨rfl, hj, F8, env8, own8, ys8, s68, M8, rest8, hr8, hy8⟩
                    by_cases hlt1 : j < ds1.length
                    · refine .inr ⟨fd1.go F8 H8 j s68 M8.S.ex hlt1, fun H'' => j + 1 ≤ ds1.length ∧ ∃ F' env' own' ys', Same F6 F' ∧ Mid K F1 H1 own1 P (wipe σ4 vs1) env' F' H'' own' ys' ∧ ∃ rest, compD vs1 m1 tYesD f (ds1.drop (j + 1)) env' = .ok rest ein ∧ ys' ++ rest = ys ++ yin,
                        fun H'' q => ⟨ds1.length - (j + 1), by omega, rfl, q.1, q.2⟩, fun x H9 y => ?_⟩
                      have hd1 : ds1[j]? = some ds1[j] := List.getElem?_eq_getElem hlt1
                      obtain ⟨F9, gr9, r9⟩ := fd1.yld F8 H8 j x H9 ds1[j] s68 M8.S.ex hd1 y
                      have hdr1 : ds1.drop j = ds1[j] :: ds1.drop (j + 1) := List.drop_eq_getElem_cons hlt1
                      rw [hdr1, compD] at hr8
                      have M9 : Mid K F1 H1 own1 P (wipe σ4 vs1) env8 F9 H9 own8 ys8 := M8.step ⟨gr9.sit M8.S, (gr9.step own8).sub fun _ z => .inl z⟩
                      refine ⟨F9, env8, own8, ds1[j], M9.S, r9, ?_⟩
                      cases e10 : m1 ds1[j] env8 with
                      | none => rw [e10] at hr8; cases hr8
                      | some ec1 =>
                        rw [e10] at hr8
                        dsimp only at hr8
                        intro σ10 F10 H10 own10 o10 O10
                        have w10 : wipe σ10 vs1 = wipe σ4 vs1 := (wipe_only o10 hsub1).trans wipe_wipe
                        refine ⟨w10, ?_⟩
                        have M10 := M9.step O10
                        have s10 : Same F6 F10 := (s68.trans gr9.exF).trans O10.s.ex
                        refine ⟨F10, ec1, own10, O10.S, ?_⟩
                        show ∀ F' H' own', OutR K F10 H10 own10 σ10 ec1 F' H' own' → _
                        intro F11 H11 own11 O11
                        have M11 := M10.step O11
                        have s11 := s10.trans O11.s.ex
                        rw [if_pos rfl]
                        rw [show tYesD ec1 = .ok true ec1 from rfl, R.bind_ok, if_pos rfl] at hr8
                        refine tOf_use O11.S (fun u eu1 eu v F12 H12 own12 p O12 => ?_) (fun c eu1 eu => ?_) (fun eu => ?_)
                        · rw [eu, R.bind_ok] at hr8
                          cases ef : frz1 eu1 u with
                          | none => rw [ef] at hr8; cases hr8
                          | some pr =>
                            obtain ⟨yd, ed⟩ := pr
                            rw [ef] at hr8
                            dsimp only at hr8
                            obtain ⟨F13, own13, r13, O13⟩ := O12.frz ef
                            have M13 := M11.step O13
                            have s13 := s11.trans O13.s.ex
                            cases eg : compD vs1 m1 tYesD f (ds1.drop (j + 1)) (wipeA ed vs1) with
                            | stuck => rw [eg] at hr8; cases hr8
                            | raise _ _ => rw [eg] at hr8; cases hr8
                            | ok rest9 ee9 =>
                              rw [eg, R.bind_ok] at hr8
                              cases hr8
                              obtain ⟨avs, hP13, rr13⟩ := M13.at'
                              have hal := rr13.length
                              have hll : ys8.length < 1000000 := by
                                have q1 := congrArg List.length hy8
                                have q2 := congrArg List.length hy
                                simp only [List.length_append, List.length_cons] at q1 q2
                                omega
                              refine ⟨avs, hP13, by rw [hal]; exact szl hll, hlt1, F13, wipeA ed vs1, ownW vs1 own13, ys8 ++ [yd], s13, ?_, rest9, eg, by rw [List.append_assoc]; exact hy8⟩
                              have M14 := M13.push r13 avs hP13
                              have O14 : OutR K F13 (upd H12 P (.lst (avs ++ [v]))) own13 (wipe σ4 vs1) (wipeA ed vs1) F13 (upd H12 P (.lst (avs ++ [v]))) (ownW vs1 own13) := by
                                rw [← w10]
                                exact ⟨M14.S.wipe2, Step.refl.sub fun a z => ownW_sub z⟩
                              exact M14.step O14
                        · rw [eu] at hr8; cases hr8
                        · rw [eu] at hr8; cases hr8
                    · have ej' : j = ds1.length := by omega
                      subst ej'
                      rw [List.drop_length, compD] at hr8
                      cases hr8
                      rw [List.append_nil] at hy8
                      subst hy8
                      refine .inl ⟨fd1.stop F8 H8 s68 M8.S.ex, hlt, F8, wipeA ein vs, ownW vs own8, ys ++ yin, s6.trans s68, ?_, rest2, ek, by rw [List.append_assoc]; exact hy⟩
                      have w8 : wipe (wipe σ4 vs1) vs = wipe σ vs := by
                        rw [← w4]
                        exact wipe_only (is := vs1) ⟨wipe_length σ4 vs1, fun q hq => by rw [wipe_eq, wipeA_out hq]⟩ hv
                      have O15 : OutR K F8 H8 own8 (wipe σ vs) (wipeA ein vs) F8 H8 (ownW vs own8) := by
                        rw [← w8]
                        exact ⟨M8.S.wipe2, Step.refl.sub fun a z => ownW_sub z⟩
                      exact M8.step O15
          · have ei : i = ds.length := by omega
            subst ei
            refine .inl ⟨fd.stop F' H' s1 M.S.ex, ?_⟩
            rw [List.drop_length, compD2] at hr
            cases hr
            rw [List.append_nil] at hy
            subst hy
            obtain ⟨avs, hPE, rr⟩ := M.at'
            have SF := unwipe_sit O1.S hda s1 M.S
            refine h (.ref P) F' H' (ownW vs own') (fun a => a = P) ⟨SF, ⟨P, avs, rfl, fun _ => Iff.rfl, hPE, M.fr, rr⟩, fun a z y => ?_, ?_⟩
            · have z' : a = P := z
              subst z'
              exact M.no (ownW_sub y)
            · exact (O1.s.trans M.s).sub fun a z => z.imp_left ownW_sub
        · rw [if_neg hlen] at h; exact h.elim
    · rw [if_neg hda] at h; exact h.elim
section
variable {X : Cx} {Wx : WX} {elt tg iter tg1 iter1 : Expr} {scope : Scope} {own : List (Str × Nat)} {vs1 is is1 : List Nat} {pos : Pos} {it it1 : M (List D)} {m m1 : MT} {f : M U}
theorem e_comp2 (hc : X.calm = true) (hN : X.N.Nodup) (hi : ItS X Wx tg iter it) (ok : BlkOk X.N X.env.scope scope own) (hv : ∀ i ∈ vs1, i ∈ own.map (·.2))
    (hg : ∀ (s : Shared) (H : Hp) (C : Addr) (cl : List (Str × Addr)) (fp : List Addr), TgS (X.blk s H scope (compEnvC scope cl C X.env) fp) tg is m)
    (hi1 : ∀ (s : Shared) (H : Hp) (C : Addr) (cl : List (Str × Addr)) (fp : List Addr), ItS (X.blk s H scope (compEnvC scope cl C X.env) fp) Wx0 tg1 iter1 it1)
    (hg1 : ∀ (s : Shared) (H : Hp) (C : Addr) (cl : List (Str × Addr)) (fp : List Addr), TgS (X.blk s H scope (compEnvC scope cl C X.env) fp) tg1 is1 m1)
    (he : ∀ (s : Shared) (H : Hp) (C : Addr) (cl : List (Str × Addr)) (fp : List Addr), EvS (X.blk s H scope (compEnvC scope cl C X.env) fp) Wx0 elt f) (hsub : ∀ i ∈ is, i ∈ own.map (·.2)) (hsub1 : ∀ i ∈ is1, i ∈ vs1)
    (hs : ∀ x, foldedSetIterable iter X.env x = pure x := by intro _; rfl) (hs1 : ∀ env x, foldedSetIterable iter1 env x = pure x := by intro _ _; rfl) :
    EvS X Wx (.ListComp elt [⟨tg, iter, [], 0⟩, ⟨tg1, iter1, [], 0⟩] scope pos) (eComp2 it (own.map (·.2)) vs1 m it1 m1 f) :=
  PE.imp (pe_lc2 hc hN hi ok hv hg (fun s H C cl fp => (PTs.imp pts_nil fun σ H Q q => tt_yes q : PTs _ [] (ttOf X.K X.mg Wx0 tYesD))) hi1 hg1 (fun s H C cl fp => (PTs.imp pts_nil fun σ H Q q => tt_yes q : PTs _ [] (ttOf X.K X.mg Wx0 tYesD))) he hs hs1) fun σ H Q h => comp2_sem hsub hsub1 hv h
end

/-! ### a, b = x, y -/
def sPar (i j : Nat) (fs : List (M U)) : M Fl := fun env => (evs fs env).bind fun us e1 => match frzs e1 us with
  | some ([d1, d2], e2) => (match setS i (.v d1) e2 with
    | some e3 => (match setS j (.v d2) e3 with
      | some e4 => .ok .next e4
      | none => .stuck)
    | none => .stuck)
  | _ => .stuck
section
variable {X : Cx} {Wx : WX} {i j : Nat} {x y : Str} {a b : Expr} {fa fb : M U} {px py pt pos : Pos} {kt k2 : Nat} {pt2 : Pos}
theorem s_par (hc : X.calm = true) (hN : X.N.Nodup) (hi : X.N[i]? = some x) (hj : X.N[j]? = some y) (hij : i ≠ j)
    (hx : X.env.scope.names.lookup x = some .local) (hy : X.env.scope.names.lookup y = some .local) (ha : EaS X Wx [a, b] [fa, fb])
    (hw : swappedStores [.Tuple [.Name x px, .Name y py] kt pt] (.Tuple [a, b] k2 pt2) X.env = pure (some [x, y]))
    (hs : swapsWithSole [.Tuple [.Name x px, .Name y py] kt pt] (.Tuple [a, b] k2 pt2) pos.line X.env = pure false := by rfl) :
    StS X Wx (.Assign [.Tuple [.Name x px, .Name y py] kt pt] (.Tuple [a, b] k2 pt2) pos) [i, j] (sPar i j [fa, fb]) :=
  PS.imp (ps_par hc hN hi hj hij hx hy ha hw hs) fun E σ H h => by
  obtain ⟨F, env, own, S, h⟩ := h
  have h : Po X.K X.mg Wx [i, j] E σ F H own (sPar i j [fa, fb] env) := h
  refine ⟨F, env, own, S, ?_⟩
  unfold sPar at h
  cases e : evs [fa, fb] env with
  | stuck => rw [e] at h; exact h
  | raise c env1 => rw [e] at h; exact fun C F' H' own' => h C σ F' H' own' Only.refl
  | ok us env1 =>
    rw [e, R.bind_ok] at h
    intro vs F1 H1 own1 p O
    cases e1 : frzs env1 us with
    | none => rw [e1] at h; exact h.elim
    | some pr =>
      obtain ⟨ds, e2⟩ := pr
      rw [e1] at h
      obtain ⟨F2, own2, r2, O2⟩ := O.frz (F2 := F) e1
      match ds, r2, h with
      | [d1, d2], .cons r1 (.cons r2 .nil), h =>
        rename_i v1 v2
        dsimp only at h
        refine ⟨v1, v2, rfl, ?_⟩
        cases e3 : setS i (.v d1) e2 with
        | none => rw [e3] at h; exact h.elim
        | some env3 =>
          rw [e3] at h
          dsimp only at h
          cases e4 : setS j (.v d2) env3 with
          | none => rw [e4] at h; exact h.elim
          | some env4 =>
            rw [e4] at h
            obtain ⟨own3, O3⟩ := ((Grow.refl O2.S.ex).out O2 (RepW.ofRep (H' := H1) r1)).set e3
            obtain ⟨own4, O4⟩ := ((Grow.refl O3.S.ex).out O3 (RepW.ofRep (H' := H1) r2)).set e4
            exact h _ _ _ _ (Only.set.trans Only.set) O4
      | [], _, h => exact h.elim
      | [_], _, h => exact h.elim
      | _ :: _ :: _ :: _, _, h => exact h.elim
end

/-! ### list(range(..)), tuple(range(..)) -/
def gRg (mk : List D → W) : List D → Option W
  | [.int n] => if -(2 ^ 62) ≤ n ∧ n ≤ 1000000 then some (mk (rangeD 0 n)) else none
  | [.int m, .int n] => if (-(2 ^ 62) ≤ m ∧ m < 2 ^ 62) ∧ (-(2 ^ 62) ≤ n ∧ n < 2 ^ 62) ∧ n - m ≤ 1000000 then some (mk (rangeD m n)) else none
  | _ => none
abbrev mkT (ds : List D) : W := .v (.tup ds)
abbrev mkL (ds : List D) : W := .l false ds
theorem rep_rg {K : PySem.W.Frag} {F : Hp} (a b : Int) : RepDs K F (rgV a b) (rangeD a b) := by
  unfold rgV rangeD
  induction (List.range (b - a).toNat) with
  | nil => exact .nil
  | cons x r ih => exact .cons (.int _) ih
section
variable {X : Cx} {Wx : WX} {a b : Expr} {fa fb : M U} {pos p p2 pos2 : Pos}
def rRg1 (K : PySem.W.Frag) (o : List V → HO) : List V → Hp → VK → Prop := fun vs H Q => ∃ n, vs = [.int n] ∧ RgOk 0 n ∧ ∀ q, H q = none → Q (.ref q) (upd H q (o (rgV 0 n)))
def rRg2 (K : PySem.W.Frag) (o : List V → HO) : List V → Hp → VK → Prop := fun vs H Q => ∃ m n, vs = [.int m, .int n] ∧ RgOk m n ∧ ∀ q, H q = none → Q (.ref q) (upd H q (o (rgV m n)))
theorem cd_rgT1 {K : PySem.W.Frag} : CaD K (fun vs H Q => ∀ n, vs = [.int n] → rRg1 K .tup vs H Q) (gRg mkT) := by
  intro F H vs ds w Q e vw hg q n hn
  subst hn
  unfold gRg at hg
  split at hg
  · rename_i n'
    split at hg
    · rename_i hb
      cases hg
      obtain ⟨x, ex, hx⟩ := vw.one
      cases ex
      cases hx.int
      exact ⟨n, rfl, ⟨by decide, by decide, hb.1, by omega, by omega⟩, fin_tup e (rep_rg 0 n) q⟩
    · cases hg
  · obtain ⟨x, y, ex, _⟩ := vw.two
    cases ex
  · cases hg
theorem tOf_ints1 {K : PySem.W.Frag} {mg : Str → Option Value} {mk : List D → W} {σ : L2.St} {H : Hp} {Q : VK} {o : List V → HO} (hfin : ∀ {F H : Hp} {a b : Int} {Q : VK}, Same F H → (∀ v F' H' p, Grow F H F' H' p → RepW K F' H' v (mk (rangeD a b)) p → Q v H') → ∀ p, H p = none → Q (.ref p) (upd H p (o (rgV a b))))
    (h : tOf K mg Wx (opN (gRg mk) [fa]) σ H Q) : tOf K mg Wx fa σ H fun x H1 => ∃ n, x = .int n ∧ RgOk 0 n ∧ ∀ q, H1 q = none → Q (.ref q) (upd H1 q (o (rgV 0 n))) := by
  have cd : CaD K (fun vs H Q => ∃ x, vs = [x] ∧ ∃ n, x = .int n ∧ RgOk 0 n ∧ ∀ q, H q = none → Q (.ref q) (upd H q (o (rgV 0 n))))  (fun ds => match ds with | [_] => gRg mk ds | _ => none) := by
    intro F H vs ds w Q e vw hg q
    match ds, vw, hg with
    | [d], vw, hg =>
      obtain ⟨x, rfl, hx⟩ := vw.one
      refine ⟨x, rfl, ?_⟩
      replace hg : gRg mk [d] = some w := hg
      unfold gRg at hg
      split at hg
      · rename_i n heq
        cases heq
        split at hg
        · rename_i hb
          cases hg
          exact ⟨n, hx.int, ⟨by decide, by decide, hb.1, by omega, by omega⟩, hfin e q⟩
        · cases hg
      · rename_i heq; cases heq
      · cases hg
  have h' : tOf K mg Wx (opN (fun ds => match ds with | [_] => gRg mk ds | _ => none) [fa]) σ H Q := by
    have e : opN (fun ds => match ds with | [_] => gRg mk ds | _ => none) [fa] = opN (gRg mk) [fa] := by
      funext env
      unfold opN evs evs
      cases fa env with
      | stuck => rfl
      | raise _ _ => rfl
      | ok u e1 =>
        simp only [R.bind_ok, datL]
        cases dat e1 u with
        | none => rfl
        | some d => rfl
    rw [e]; exact h
  exact tOf_mono (aOf_1 (aOf_op cd h')) fun x _ q => by
    obtain ⟨x', e, q⟩ := q
    cases e
    exact q
theorem tOf_ints2 {K : PySem.W.Frag} {mg : Str → Option Value} {mk : List D → W} {σ : L2.St} {H : Hp} {Q : VK} {o : List V → HO} (hfin : ∀ {F H : Hp} {a b : Int} {Q : VK}, Same F H → (∀ v F' H' p, Grow F H F' H' p → RepW K F' H' v (mk (rangeD a b)) p → Q v H') → ∀ p, H p = none → Q (.ref p) (upd H p (o (rgV a b))))
    (h : tOf K mg Wx (opN (gRg mk) [fa, fb]) σ H Q) : tOf K mg Wx fa σ H fun x H1 => tOf K mg Wx fb σ H1 fun y H2 => ∃ m n, x = .int m ∧ y = .int n ∧ RgOk m n ∧ ∀ q, H2 q = none → Q (.ref q) (upd H2 q (o (rgV m n))) := by
  have cd : CaD K (fun vs H Q => ∃ x y, vs = [x, y] ∧ ∃ m n, x = .int m ∧ y = .int n ∧ RgOk m n ∧ ∀ q, H q = none → Q (.ref q) (upd H q (o (rgV m n))))  (fun ds => match ds with | [_, _] => gRg mk ds | _ => none) := by
    intro F H vs ds w Q e vw hg q
    match ds, vw, hg with
    | [d, d2], vw, hg =>
      obtain ⟨x, y, rfl, hx, hy⟩ := vw.two
      refine ⟨x, y, rfl, ?_⟩
      replace hg : gRg mk [d, d2] = some w := hg
      unfold gRg at hg
      split at hg
      · rename_i heq; cases heq
      · rename_i m n heq
        cases heq
        split at hg
        · rename_i hb
          cases hg
          exact ⟨m, n, hx.int, hy.int, ⟨hb.1.1, hb.1.2, hb.2.1.1, hb.2.1.2, by omega⟩, hfin e q⟩
        · cases hg
      · cases hg
  have h' : tOf K mg Wx (opN (fun ds => match ds with | [_, _] => gRg mk ds | _ => none) [fa, fb]) σ H Q := by
    have e : opN (fun ds => match ds with | [_, _] => gRg mk ds | _ => none) [fa, fb] = opN (gRg mk) [fa, fb] := by
      funext env
      unfold opN evs evs evs
      cases fa env with
      | stuck => rfl
      | raise _ _ => rfl
      | ok u e1 =>
        simp only [R.bind_ok]
        cases fb e1 with
        | stuck => rfl
        | raise _ _ => rfl
        | ok u2 e2 =>
          simp only [R.bind_ok, datL]
          cases dat e2 u with
          | none => rfl
          | some d =>
            cases dat e2 u2 with
            | none => rfl
            | some d2 => rfl
    rw [e]; exact h
  exact tOf_mono (aOf_2 (aOf_op cd h')) fun x _ q => tOf_mono q fun y _ q => by
    obtain ⟨x', y', e, q⟩ := q
    cases e
    exact q
theorem e_tupRg1 (hc : X.calm = true) (hgt : Gl X "tuple") (hmt : X.mg "tuple" = none) (hg : Gl X "range") (hm : X.mg "range" = none) (ha : EvS X Wx a fa) (na : starEach [a] X.env = (false, eval a X.env) :: starEach [] X.env := by rfl)
    (na2 : starEach [.Call (.Name "range" p2) [a] [] pos2] X.env = (false, eval (.Call (.Name "range" p2) [a] [] pos2) X.env) :: starEach [] X.env := by rfl) : EvS X Wx (.Call (.Name "tuple" p) [.Call (.Name "range" p2) [a] [] pos2] [] pos) (opN (gRg mkT) [fa]) :=
  PE.imp (pe_tupRg hc hgt hmt (prg_1 hg hm ha na) na2) fun σ H Q h => tOf_mono (tOf_ints1 (fun e q => fin_tup e (rep_rg _ _) q) h) fun x _ q => by
    obtain ⟨n, rfl, ok, q⟩ := q
    exact ⟨n, rfl, ok, q⟩
theorem e_lstRg1 (hc : X.calm = true) (hgt : Gl X "list") (hmt : X.mg "list" = none) (hg : Gl X "range") (hm : X.mg "range" = none) (ha : EvS X Wx a fa) (na : starEach [a] X.env = (false, eval a X.env) :: starEach [] X.env := by rfl)
    (na2 : starEach [.Call (.Name "range" p2) [a] [] pos2] X.env = (false, eval (.Call (.Name "range" p2) [a] [] pos2) X.env) :: starEach [] X.env := by rfl) : EvS X Wx (.Call (.Name "list" p) [.Call (.Name "range" p2) [a] [] pos2] [] pos) (opN (gRg mkL) [fa]) :=
  PE.imp (pe_listRg hc hgt hmt (prg_1 hg hm ha na) na2) fun σ H Q h => tOf_mono (tOf_ints1 (fun e q => fin_lst e (rep_rg _ _) q) h) fun x _ q => by
    obtain ⟨n, rfl, ok, q⟩ := q
    exact ⟨n, rfl, ok, q⟩
theorem e_tupRg2 (hc : X.calm = true) (hgt : Gl X "tuple") (hmt : X.mg "tuple" = none) (hg : Gl X "range") (hm : X.mg "range" = none) (ha : EvS X Wx a fa) (hb : EvS X Wx b fb) (na : starEach [a, b] X.env = (false, eval a X.env) :: starEach [b] X.env := by rfl)
    (nb : starEach [b] X.env = (false, eval b X.env) :: starEach [] X.env := by rfl) (hp : (backTo pos2 (starEach [b] X.env)).any (·.1) = false := by rfl)
    (na2 : starEach [.Call (.Name "range" p2) [a, b] [] pos2] X.env = (false, eval (.Call (.Name "range" p2) [a, b] [] pos2) X.env) :: starEach [] X.env := by rfl) : EvS X Wx (.Call (.Name "tuple" p) [.Call (.Name "range" p2) [a, b] [] pos2] [] pos) (opN (gRg mkT) [fa, fb]) :=
  PE.imp (pe_tupRg hc hgt hmt (prg_2 hg hm ha hb na nb hp) na2) fun σ H Q h => tOf_mono (tOf_ints2 (fun e q => fin_tup e (rep_rg _ _) q) h) fun x _ q => tOf_mono q fun y _ q => by
    obtain ⟨m, n, rfl, rfl, ok, q⟩ := q
    exact ⟨m, n, rfl, rfl, ok, q⟩
theorem e_lstRg2 (hc : X.calm = true) (hgt : Gl X "list") (hmt : X.mg "list" = none) (hg : Gl X "range") (hm : X.mg "range" = none) (ha : EvS X Wx a fa) (hb : EvS X Wx b fb) (na : starEach [a, b] X.env = (false, eval a X.env) :: starEach [b] X.env := by rfl)
    (nb : starEach [b] X.env = (false, eval b X.env) :: starEach [] X.env := by rfl) (hp : (backTo pos2 (starEach [b] X.env)).any (·.1) = false := by rfl)
    (na2 : starEach [.Call (.Name "range" p2) [a, b] [] pos2] X.env = (false, eval (.Call (.Name "range" p2) [a, b] [] pos2) X.env) :: starEach [] X.env := by rfl) : EvS X Wx (.Call (.Name "list" p) [.Call (.Name "range" p2) [a, b] [] pos2] [] pos) (opN (gRg mkL) [fa, fb]) :=
  PE.imp (pe_listRg hc hgt hmt (prg_2 hg hm ha hb na nb hp) na2) fun σ H Q h => tOf_mono (tOf_ints2 (fun e q => fin_lst e (rep_rg _ _) q) h) fun x _ q => tOf_mono q fun y _ q => by
    obtain ⟨m, n, rfl, rfl, ok, q⟩ := q
    exact ⟨m, n, rfl, rfl, ok, q⟩
end
end DL

namespace DL
open PySem PySem.Spec PyProof.Rows L2

/-! ### range(a, b, c), c above 0 -/
def rangeC (lo c : Int) (n : Nat) : List D := (List.range n).map fun i => .int (lo + (i : Nat) * c)
def iterR3 (f g h : M U) : M (List D) := fun env => (evs [f, g, h] env).bind fun us e1 => match datL e1 us with
  | some [.int a, .int b, .int c] => if 0 < c ∧ c < 1000000 ∧ (0 ≤ a ∧ a ≤ 1000000) ∧ (0 ≤ b ∧ b ≤ 1000000) then .ok (rangeC a c (if b ≤ a then 0 else ((b - a - 1) / c + 1).toNat)) e1 else .stuck
  | _ => .stuck
theorem feeds_c {K : PySem.W.Frag} {F0 : Hp} {lo c : Int} {n : Nat} : Feeds K (Itc lo c n) F0 (rangeC lo c n) where
  go := fun F H i _ _ h => by
    show i < _
    unfold rangeC at h
    simpa using h
  yld := fun F H i x H' d e1 e2 hd y => by
    obtain ⟨rfl, rfl⟩ := y
    unfold rangeC at hd
    rw [List.getElem?_map] at hd
    cases e : (List.range n)[i]? with
    | none => rw [e] at hd; cases hd
    | some j =>
      rw [e] at hd
      have : j = i := by
        obtain ⟨h1, h2⟩ := List.getElem?_eq_some_iff.mp e
        simpa using h2.symm
      subst this
      cases hd
      exact ⟨F, Grow.refl e2, .int _⟩
  stop := fun F H _ _ => by
    show _ ≤ _
    unfold rangeC
    simp
theorem rgc_ok {a b c : Int} (h : 0 < c ∧ c < 1000000 ∧ (0 ≤ a ∧ a ≤ 1000000) ∧ (0 ≤ b ∧ b ≤ 1000000)) : RgC a b c (if b ≤ a then 0 else ((b - a - 1) / c + 1).toNat) := by
  obtain ⟨h1, h2, ⟨h3, h4⟩, ⟨h5, h6⟩⟩ := h
  have hz : Builtin.Range.rangeSize a b c = ((if b ≤ a then 0 else ((b - a - 1) / c + 1).toNat : Nat) : Int) := by
    unfold Builtin.Range.rangeSize
    by_cases q : b ≤ a
    · simp [h1, q, Int.not_lt.mpr q]
    · have : 0 ≤ (b - a - 1) / c := Int.ediv_nonneg (by omega) (by omega)
      have ef : (b - a - 1).fdiv c = (b - a - 1) / c := Int.fdiv_eq_ediv_of_nonneg _ (by omega)
      simp [h1, q, Int.not_le.mp q]
      omega
  refine ⟨by omega, by omega, ?_, hz⟩
  have hn : 0 ≤ Builtin.Range.rangeSize a b c ∧ Builtin.Range.rangeSize a b c ≤ 1000001 := by
    unfold Builtin.Range.rangeSize
    rw [if_pos h1]
    split
    · have q1 : 0 ≤ (b - a - 1) / c := Int.ediv_nonneg (by omega) (by omega)
      have q2 : (b - a - 1) / c ≤ b - a - 1 := Int.ediv_le_self _ (by omega)
      omega
    · omega
  unfold Builtin.Range.small
  generalize Builtin.Range.rangeSize a b c = z at hn
  simp only [Builtin.Range.rangeFitsLong, Bool.and_eq_true, Bool.or_eq_true, decide_eq_true_eq, beq_iff_eq, show c > 0 from h1, if_true]
  omega
section
variable {X : Cx} {Wx : WX} {tg a b c : Expr} {fa fb fc : M U} {p pos : Pos}
theorem i_range3 (hg : Gl X "range") (hm : X.mg "range" = none) (ha : EvS X Wx a fa) (hb : EvS X Wx b fb) (hc : EvS X Wx c fc) (hs : starEach [a, b, c] X.env = (false, eval a X.env) :: starEach [b, c] X.env := by rfl) (hs2 : starEach [b, c] X.env = (false, eval b X.env) :: starEach [c] X.env := by rfl) (hs3 : starEach [c] X.env = (false, eval c X.env) :: starEach [] X.env := by rfl)
    (hpl : (backTo pos (starEach [b, c] X.env)).any (·.1) = false := by rfl) : ItS X Wx tg (.Call (.Name "range" p) [a, b, c] [] pos) (iterR3 fa fb fc) :=
  PI.imp (pi_range3 hg hm (show EaS X Wx [a, b, c] [fa, fb, fc] from ea_cons ha (ea_cons hb (ea_cons hc ea_nil hs3) hs2) hs) hs hpl) fun σ H RR h => by
  obtain ⟨F, env, own, S, h⟩ := h
  refine ⟨F, env, own, S, ?_⟩
  unfold iterR3 at h
  cases e : evs [fa, fb, fc] env with
  | stuck => rw [e] at h; exact h
  | raise c env1 => rw [e] at h; exact h
  | ok us env1 =>
    rw [e, R.bind_ok] at h
    intro vs F1 H1 own1 q O
    cases e1 : datL env1 us with
    | none => rw [e1] at h; exact h.elim
    | some ds =>
      rw [e1] at h
      have vw := RepUs.views O.S O.r e1
      split at h
      · rename_i ds' env' heq
        split at heq
        · rename_i i j k hn
          cases hn
          split at heq
          · rename_i hb
            cases heq
            cases vw with
            | cons h1 h2 =>
              obtain ⟨x, y, rfl, hx, hy⟩ := h2.two
              exact ⟨i, j, k, _, by rw [h1.int, hx.int, hy.int], rgc_ok hb, h _ _ _ _ O.drop feeds_c⟩
          · cases heq
        · cases heq
      · rename_i heq
        split at heq
        · split at heq <;> cases heq
        · cases heq
      · exact h.elim
end

/-! ### list.index, list.count -/
def idxD (d : D) : List D → Option Nat
  | [] => none
  | x :: r => if deq x d then some 0 else (idxD d r).map (· + 1)
def gIdx : List D → Option W
  | [.lst ds, d] => if fine 60 (.lst ds) && fine 60 d then (idxD d ds).map fun n => .v (.int (n : Nat)) else none
  | _ => none
theorem idxD_spec {d : D} : ∀ {ds : List D} {n : Nat}, idxD d ds = some n → ∃ x, ds[n]? = some x ∧ deq x d = true ∧ ∀ m x', m < n → ds[m]? = some x' → deq x' d = false
  | [], n, h => by cases h
  | x :: r, n, h => by
    unfold idxD at h
    by_cases c : deq x d = true
    · rw [if_pos c] at h
      cases h
      exact ⟨x, rfl, c, fun m x' hm => absurd hm (Nat.not_lt_zero _)⟩
    · rw [if_neg c] at h
      obtain ⟨k, h1, rfl⟩ := Option.map_eq_some_iff.mp h
      obtain ⟨y, h2, h3, h4⟩ := idxD_spec h1
      refine ⟨y, by simpa using h2, h3, fun m x' hm e => ?_⟩
      cases m with
      | zero =>
        simp at e
        subst e
        cases q : deq x d with
        | true => exact absurd q c
        | false => rfl
      | succ m => exact h4 m x' (by omega) (by simpa using e)
theorem toPys_get : ∀ {ds : List D} {n : Nat} {x : D}, ds[n]? = some x → (toPys ds)[n]? = some (toPy x) := fun {ds n x} h => by
  rw [toPys_map, List.getElem?_map, h]; rfl
theorem toPys_get' {ds : List D} {n : Nat} {z : PyData} (h : (toPys ds)[n]? = some z) : ∃ x, ds[n]? = some x ∧ z = toPy x := by
  rw [toPys_map, List.getElem?_map] at h
  cases e : ds[n]? with
  | none => rw [e] at h; cases h
  | some x => rw [e] at h; cases h; exact ⟨x, rfl, rfl⟩
/-- o.m(e): the receiver a list; what it tells, by data; nothing is changed -/
def opM (g : List D → Option W) (fo fe : M U) : M U := fun env => (fo env).bind fun u0 e0 => match dat e0 u0 with
  | some (.lst _) => (fe e0).bind fun u e1 => (match dat e1 u0, dat e1 u with
    | some d0, some d => (match g [d0, d] with
      | some w => .ok (.w w) e1
      | none => .stuck)
    | _, _ => .stuck)
  | _ => .stuck
def rM (r : V → List V → Hp → VK → Prop) : List V → Hp → VK → Prop := fun vs H Q => ∃ x y, vs = [x, y] ∧ r x [y] H Q
theorem meth_sem {K : PySem.W.Frag} {mg : Str → Option Value} {Wx : WX} {r : V → List V → Hp → VK → Prop} {g : List D → Option W} {fo fe : M U} {σ : L2.St} {H : Hp} {Q : VK} (cd : CaD K (rM r) g) (h : tOf K mg Wx (opM g fo fe) σ H Q) :
    tBM K "list" r (tOf K mg Wx fo) (tCons (tOf K mg Wx fe) tNil) σ H Q := by
  obtain ⟨F, env, own, S, h⟩ := h
  unfold opM at h
  refine tOf_use S (fun u0 env0 e0 v0 F0 H0 own0 p0 O0 => ?_) (fun c env1 e1 C F1 H1 own1 => ?_) (fun e1 => ?_)
  · rw [e0, R.bind_ok] at h
    cases ed : dat env0 u0 with
    | none => rw [ed] at h; exact h.elim
    | some d0 =>
      rw [ed] at h
      cases d0 with
      | lst ds0 =>
        dsimp only at h
        obtain ⟨a, vs, rfl, hr, _⟩ := (RepU.view O0.S O0.r ed).lst
        refine ⟨Or.inl ⟨rfl, vs, .inl hr⟩, ?_⟩
        refine tOf_use O0.S (fun u env1 e1 v F1 H1 own1 p1 O1 => ?_) (fun c env1 e1 C F1 H1 own1 hm O1 => ?_) (fun e1 => ?_)
        · rw [e1, R.bind_ok] at h
          have OO := O0.out2 O1
          cases e2 : dat env1 u0 with
          | none => rw [e2] at h; exact h.elim
          | some d1 =>
            cases e3 : dat env1 u with
            | none => rw [e2, e3] at h; exact h.elim
            | some d =>
              rw [e2, e3] at h
              dsimp only at h
              cases e4 : g [d1, d] with
              | none => rw [e4] at h; exact h.elim
              | some w =>
                rw [e4] at h
                obtain ⟨x, y, ex, q⟩ := cd F1 H1 [.ref a, v] [d1, d] w Q OO.S.ex (.cons (RepU.view OO.S OO.r1 e2) (.cons (RepU.view OO.S OO.r2 e3) .nil)) e4 fun v' F' H' p gr rw' => h _ _ _ _ _ (gr.out OO.drop rw')
                cases ex
                exact q
        · rw [e1] at h
          exact h C F1 H1 own1 hm (O0.drop.trans O1)
        · rw [e1] at h
          exact h
      | _ => exact h.elim
  · rw [e1] at h
    exact h C F1 H1 own1
  · rw [e1] at h
    exact h
theorem cd_idx {K : PySem.W.Frag} : CaD K (rM (rIndexD K)) gIdx := by
  intro F H vs ds w Q e vw hg q
  unfold gIdx at hg
  split at hg
  · rename_i xs d
    obtain ⟨x, y, rfl, hx, hy⟩ := vw.two
    split at hg
    · rename_i hf
      obtain ⟨f1, f2⟩ := Bool.and_eq_true_iff.mp hf
      obtain ⟨n, h1, rfl⟩ := Option.map_eq_some_iff.mp hg
      obtain ⟨z, h2, h3, h4⟩ := idxD_spec h1
      have hd := hx.dp e f1
      obtain ⟨a, us, rfl, _⟩ := hx.lst
      exact ⟨_, _, rfl, a, y, toPy d, toPys xs, n, toPy z, rfl, rfl, hd, hy.dp e f2, fine_shaped f1, fine_shaped f2, toPys_get h2, h3, fun m z' hm hz => by
        obtain ⟨x', e1, rfl⟩ := toPys_get' hz
        exact h4 m x' hm e1, fin_int e q⟩
    · cases hg
  · cases hg
def gCnt : List D → Option W
  | [.lst ds, .int k] => (intsOf ds).map fun ns => .v (.int ((ns.count k : Nat) : Int))
  | _ => none
theorem cd_cnt {K : PySem.W.Frag} : CaD K (rM (rCntI K)) gCnt := by
  intro F H vs ds w Q e vw hg q
  unfold gCnt at hg
  split at hg
  · rename_i xs k
    obtain ⟨x, y, rfl, hx, hy⟩ := vw.two
    obtain ⟨ns, h1, rfl⟩ := Option.map_eq_some_iff.mp hg
    obtain ⟨a, us, rfl, h2, r⟩ := hx.lst
    rw [intsOf_eq h1] at r
    have := r.ints
    subst this
    exact ⟨_, _, rfl, a, ns, k, rfl, by rw [hy.int], .inl h2, fin_int e q⟩
  · cases hg
section
variable {X : Cx} {Wx : WX} {o e : Expr} {fo fe : M U} {apos cpos : Pos} {name : Str} {id : String} {r : V → List V → Hp → VK → Prop} {g : List D → Option W}
theorem e_meth (slot : Slot "list" name id) (hty : typeOf (.builtin id) = pure (.type "method_descriptor")) (hm : MtR X id r) (cd : CaD X.K (rM r) g) (ho : EvS X Wx o fo) (he : EvS X Wx e fe)
    (hs0 : starEach [e] X.env = (false, eval e X.env) :: starEach [] X.env := by rfl)
    (hbase : attributeBase o name X.env (eval o X.env) = eval o X.env := by rfl)
    (hfew : ((backTo cpos (starEach [e] X.env)).all (fun x => !x.1) && (backToKw cpos (keywordEach [] X.env)).all (fun x => x.1.isSome)
      && decide ([e].length + ([] : List Keyword).length + (if ([] : List Keyword).isEmpty then 0 else 1) < 30)) = true := by rfl)
    (hline : (apos.endLine == cpos.line) = true := by rfl) (hplain : (backTo cpos (starEach [] X.env)).any (·.1) = false := by rfl) :
    EvS X Wx (.Call (.Attribute o name apos) [e] [] cpos) (opM g fo fe) :=
  PE.imp (pe_bm PySem.F.plainAttrs_list slot hty hm ho (pa_cons he pa_nil hs0) hbase hfew hline hs0 hplain) fun σ H Q h => meth_sem cd h
end

/-! ### sorted, of tuples of ints -/
theorem RepDs.perm {K : PySem.W.Frag} {F : Hp} : ∀ {xs ys : List V}, ys.Perm xs → ∀ {ds : List D}, RepDs K F xs ds → ∃ ds', RepDs K F ys ds' ∧ ds'.Perm ds := fun {xs ys} p => by
  induction p with
  | nil => intro ds r; cases r; exact ⟨[], .nil, List.Perm.refl _⟩
  | cons x p ih =>
    intro ds r
    cases r with
    | cons h t =>
      obtain ⟨ds', r', p'⟩ := ih t
      exact ⟨_, .cons h r', p'.cons _⟩
  | swap x y l =>
    intro ds r
    cases r with
    | cons h t => cases t with
      | cons h2 t2 => exact ⟨_, .cons h2 (.cons h t2), List.Perm.swap _ _ _⟩
  | trans p1 p2 ih1 ih2 =>
    intro ds r
    obtain ⟨d1, r1, q1⟩ := ih2 r
    obtain ⟨d2, r2, q2⟩ := ih1 r1
    exact ⟨d2, r2, q2.trans q1⟩
def tupInts : D → Option (List Int)
  | .tup l => intsOf l
  | _ => none
def okT (d : Nat) (B : Int) (x : D) : Bool := match tupInts x with
  | some ns => ns.length == d && ns.all fun m => decide (0 ≤ m) && decide (m < B)
  | none => false
def codeT (B : Int) (x : D) : Int := match tupInts x with
  | some ns => TS.code B ns
  | none => 0
def insT (B : Int) (x : D) : List D → List D
  | [] => [x]
  | y :: r => if codeT B x ≤ codeT B y then x :: y :: r else y :: insT B x r
def sortT (B : Int) : List D → List D
  | [] => []
  | x :: r => insT B x (sortT B r)
theorem insT_perm (B : Int) (x : D) : ∀ l : List D, (insT B x l).Perm (x :: l)
  | [] => List.Perm.refl _
  | y :: r => by
    unfold insT
    by_cases c : codeT B x ≤ codeT B y
    · rw [if_pos c]
    · rw [if_neg c]
      exact ((insT_perm B x r).cons y).trans (List.Perm.swap x y r)
theorem sortT_perm (B : Int) : ∀ l : List D, (sortT B l).Perm l
  | [] => List.Perm.refl _
  | x :: r => (insT_perm B x (sortT B r)).trans ((sortT_perm B r).cons x)
theorem insT_sorted (B : Int) (x : D) : ∀ l : List D, l.Pairwise (fun a b => codeT B a ≤ codeT B b) → (insT B x l).Pairwise (fun a b => codeT B a ≤ codeT B b)
  | [], _ => List.pairwise_singleton _ _
  | y :: r, h => by
    obtain ⟨h1, h2⟩ := List.pairwise_cons.mp h
    unfold insT
    by_cases c : codeT B x ≤ codeT B y
    · rw [if_pos c]
      refine List.pairwise_cons.mpr ⟨fun z hz => ?_, h⟩
      rcases List.mem_cons.mp hz with rfl | hz
      · exact c
      · have := h1 z hz; omega
    · rw [if_neg c]
      refine List.pairwise_cons.mpr ⟨fun z hz => ?_, insT_sorted B x r h2⟩
      rcases List.mem_cons.mp ((insT_perm B x r).mem_iff.mp hz) with rfl | hz
      · omega
      · exact h1 z hz
theorem sortT_sorted (B : Int) : ∀ l : List D, (sortT B l).Pairwise (fun a b => codeT B a ≤ codeT B b)
  | [] => List.Pairwise.nil
  | x :: r => insT_sorted B x _ (sortT_sorted B r)
theorem code_inj {B : Int} : ∀ {r q : List Int}, r.length = q.length → TS.Bd B r → TS.Bd B q → TS.code B r = TS.code B q → r = q
  | [], [], _, _, _, _ => rfl
  | [], _ :: _, h, _, _, _ => by cases h
  | _ :: _, [], h, _, _, _ => by cases h
  | d :: r, e :: q, h, hr, hq, hc => by
    have hl : r.length = q.length := by simpa using h
    rcases Int.lt_trichotomy d e with z | z | z
    · have := TS.code_lt hl hr.tail hq.tail z
      omega
    · subst z
      have k1 := TS.code_same (B := B) (d := d) hl
      have k2 := TS.code_same (B := B) (d := d) hl.symm
      have e1 : TS.code B r = TS.code B q := by
        by_cases c : TS.code B r < TS.code B q
        · have := k1.mpr c; omega
        · by_cases c2 : TS.code B q < TS.code B r
          · have := k2.mpr c2; omega
          · omega
      rw [code_inj hl hr.tail hq.tail e1]
    · have := TS.code_lt hl.symm hq.tail hr.tail z
      omega
theorem okT_spec {d : Nat} {B : Int} {x : D} (h : okT d B x = true) : ∃ ns, x = .tup (ns.map D.int) ∧ ns.length = d ∧ TS.Bd B ns ∧ codeT B x = TS.code B ns := by
  unfold okT at h
  cases e : tupInts x with
  | none => rw [e] at h; cases h
  | some ns =>
    rw [e] at h
    obtain ⟨h1, h2⟩ := Bool.and_eq_true_iff.mp h
    refine ⟨ns, ?_, beq_iff_eq.mp h1, fun m hm => ?_, by unfold codeT; rw [e]⟩
    · cases x with
      | tup l => rw [intsOf_eq (show intsOf l = some ns from e)]
      | _ => cases e
    · rw [List.all_eq_true] at h2
      have := h2 m hm
      simp only [Bool.and_eq_true, decide_eq_true_eq] at this
      exact this
def gSortT (d : Nat) (B : Int) : List D → Option W
  | [.lst ds] => if ds.length < 64 ∧ ds.all (okT d B) = true then some (.l false (sortT B ds)) else none
  | _ => none
theorem cd_sortT {K : PySem.W.Frag} {d : Nat} {B : Int} : CaD K (rSortU K d B) (gSortT d B) := by
  intro F H vs ds w Q e vw hg q
  unfold gSortT at hg
  split at hg
  · rename_i xs
    obtain ⟨x, rfl, hx⟩ := vw.one
    split at hg
    · rename_i hc
      cases hg
      obtain ⟨hl, ha⟩ := hc
      rw [List.all_eq_true] at ha
      obtain ⟨a, us, rfl, h2, r⟩ := hx.lst
      have rep : ∀ {v : V} {ns : List Int}, RepD K F v (.tup (ns.map D.int)) → TupI K H v ns := fun {v ns} h => by
        cases h with
        | tup h1 h2 =>
          rw [h2.ints] at h1
          exact ⟨_, rfl, SqT.of (e _ _ h1)⟩
      refine ⟨a, us, rfl, .inl h2, by rw [r.length]; exact hl, fun v hv => ?_, fun ys p hp hs hn => ?_⟩
      · obtain ⟨i, hi⟩ := List.getElem?_of_mem hv
        obtain ⟨dd, h3, h4⟩ := r.getv hi
        obtain ⟨ns, rfl, h5, h6, _⟩ := okT_spec (ha dd (List.mem_of_getElem? h3))
        exact ⟨ns, rep h4, h5, h6⟩
      · obtain ⟨ds', r', p'⟩ := r.perm hp
        have ok' : ∀ y ∈ ds', okT d B y = true := fun y hy => ha y (p'.mem_iff.mp hy)
        have srt : ds'.Pairwise (fun a b => codeT B a ≤ codeT B b) := by
          have key : ∀ {ys : List V} {ds' : List D}, RepDs K F ys ds' → (∀ y ∈ ds', okT d B y = true) → ys.Pairwise (fun x y => ∀ n m, TupI K H x n → TupI K H y m → TS.code B n ≤ TS.code B m) → ds'.Pairwise (fun a b => codeT B a ≤ codeT B b) := by
            intro ys ds' r ok hs
            induction ys generalizing ds' with
            | nil => cases r; exact List.Pairwise.nil
            | cons v vs ih =>
              cases r with
              | cons h t =>
                obtain ⟨s1, s2⟩ := List.pairwise_cons.mp hs
                refine List.pairwise_cons.mpr ⟨fun z hz => ?_, ih t (fun y hy => ok y (List.mem_cons_of_mem _ hy)) s2⟩
                obtain ⟨i, hi⟩ := List.getElem?_of_mem hz
                obtain ⟨u, hu, ru⟩ := t.get hi
                obtain ⟨n1, rfl, _, _, c1⟩ := okT_spec (ok _ List.mem_cons_self)
                obtain ⟨n2, rfl, _, _, c2⟩ := okT_spec (ok z (List.mem_cons_of_mem _ hz))
                rw [c1, c2]
                exact s1 u (List.mem_of_getElem? hu) n1 n2 (rep h) (rep ru)
          exact key r' ok' hs
        have ed : ds' = sortT B xs := (p'.trans (sortT_perm B xs).symm).eq_of_pairwise (fun x y hx hy c1 c2 => by
          obtain ⟨n1, rfl, l1, b1, e1⟩ := okT_spec (ok' x hx)
          obtain ⟨n2, rfl, l2, b2, e2⟩ := okT_spec (ok' y (by
            have : y ∈ ds' ∨ y ∈ sortT B xs := by first | exact .inl hy | exact .inr hy
            rcases this with z | z
            · exact z
            · exact p'.mem_iff.mpr ((sortT_perm B xs).mem_iff.mp z)))
          rw [code_inj (l1.trans l2.symm) b1 b2 (by omega)]) srt (sortT_sorted B xs)
        subst ed
        exact fin_lst e r' q p hn
    · cases hg
  · cases hg
end DL

namespace DL
open PySem PySem.Spec PyProof.Rows L2

/-! ### what a caller knows of a def, of an error's class -/
structure Cal (P : Program) (w : World) (K : PySem.W.Frag) (mg : Str → Option Value) (base : Heap) (k : Nat) (x : Str) (ps : List Str) (g : List W → RF) : Prop where
  ex : ∃ (f : Addr) (fd : FuncData), FnS P w K mg base k f fd ps g ∧ mg x = some (.ref f) ∧ PySem.W.keepIn K (.ref f) = true ∧ Binds K fd ps []
abbrev veMro : List Value := [.type "ValueError", .type "Exception", .type "BaseException", .type "object"]
structure Exn (K : PySem.W.Frag) (mg : Str → Option Value) (x : Str) : Prop where
  ex : ∃ C : Addr, mg x = some (.ref C) ∧ PySem.W.excIn K C veMro "ValueError.__new__" = true ∧ PySem.W.keepIn K (.ref C) = true ∧ PySem.W.subIn K (.ref C) (.type "BaseException") = some true ∧ PySem.W.typeIn K (.ref C) = some (.type "type")
theorem Cal.mono {P : Program} {w : World} {K : PySem.W.Frag} {mg : Str → Option Value} {base : Heap} {j k : Nat} {x : Str} {ps : List Str} {g : List W → RF} (c : Cal P w K mg base j x ps g) (h : j ≤ k) : Cal P w K mg base k x ps g := by
  obtain ⟨f, fd, G, r⟩ := c.ex
  exact ⟨f, fd, G.mono h, r⟩
theorem Cal.weak {P : Program} {w : World} {K : PySem.W.Frag} {mg : Str → Option Value} {base : Heap} {k : Nat} {x : Str} {ps : List Str} {g g' : List W → RF} (c : Cal P w K mg base k x ps g) (e : ∀ ws, g' ws ≠ .stuck → g ws = g' ws) : Cal P w K mg base k x ps g' := by
  obtain ⟨f, fd, G, r⟩ := c.ex
  exact ⟨f, fd, FnS.weak G e, r⟩
section
variable {X : Cx} {Wx : WX} {j k : Nat} {ps : List Str} {g : List W → RF} {x : Str} {p pos pos' p2 : Pos} {e : Expr} {es : List Expr} {fs : List (M U)} {ms : List (Option Nat)}
theorem e_callC (C : Cal X.prog X.w X.K X.mg X.base j x ps g) (tk : Takes X Wx) (hr : Room k X.A) (ha : EaS X Wx (e :: es) fs) (hjk : j ≤ k) (hg : Gl X x := by rfl)
    (nd : (ms.filterMap id).Nodup := by decide) (hn : ms.length = ps.length := by rfl) (hdb : (x == ("__debug__" : Str)) = false := by decide) (he : starEach (e :: es) X.env = (false, eval e X.env) :: starEach es X.env := by rfl) (hpl : (backTo pos (starEach es X.env)).any (·.1) = false := by rfl) :
    EvS X Wx (.Call (.Name x p) (e :: es) [] pos) (callF g ms fs) := by
  obtain ⟨f, fd, G, hm, hk, hb⟩ := C.ex
  exact e_call G tk (hr.mono hjk) hg hm hk hb ha nd hn hdb he hpl
theorem s_raiseC {m : Str} {i : Nat} (C : Exn X.K X.mg x) (tk : Takes X Wx) (hc : X.calm = true := by rfl) (hg : Gl X x := by rfl) (hdb : (x == ("__debug__" : Str)) = false := by decide) :
    StS X Wx (.Raise (some (.Call (.Name x p) [.Constant (.str m) i p2] [] pos)) none pos') [] (sRaise x) := by
  obtain ⟨A, gC, q, kC, bC, tC⟩ := C.ex
  exact s_raise hc tk PySem.F.excBase_ValueError q gC kC (raises_own bC tC) hg hdb
end

theorem hu65 {A : Around} {k : Nat} (hr : Room k A) : A.units + 65 < cLine := by have := hr.un; omega
/-! ### the law -/
def lawOk (g : List W → RF) : Prop := ∀ ns : List Int, ns.length ≤ 63 → ∃ ws, g [.v (.scr ns)] = .ok (.v (.bl true)) ws
def spLaw (K : PySem.W.Frag) : Sp := fun vs H Q _ => ∃ (a : Addr) (ns : List Int), vs = [.ref a] ∧ SqL K H a (ns.map V.int) ∧ ns.length ≤ 63 ∧ (∀ b, H b = none ∨ ∃ o xs, H b = some (.frz o (.lst xs))) ∧ ∀ H', Q (.bl true) H'
theorem law_of {P : Program} {w : World} {K : PySem.W.Frag} {mg : Str → Option Value} {base : Heap} {k : Nat} {f : Addr} {fd : FuncData} {x : Str} {g : List W → RF} (G : FnS P w K mg base k f fd [x] g) (h : lawOk g) : FnOk P w K mg base CX0 k f fd [x] (spLaw K) := by
  refine ⟨fun vs H Q E q => by obtain ⟨a, ns, rfl, _⟩ := q; rfl, fun A outer s H args us vs Q E hr he hb hv hs => ?_⟩
  obtain ⟨a, ns, rfl, hS, hl, hO, q⟩ := hs
  obtain ⟨ws, hg⟩ := h ns hl
  have sp : spOf K mg [x].length g [.ref a] H Q E0 := by
    refine ⟨rfl, H, [.v (.scr ns)], fun _ _ => False, ⟨Same.refl _, rfl, fun i w e => ?_, fun _ _ z => z.elim, fun _ _ _ z => z.elim⟩, ?_⟩
    · cases i with
      | zero => simp at e; subst e; exact ⟨.ref a, rfl, fun _ z => z, .scr hS⟩
      | succ i => simp at e
    · rw [hg]
      intro v F' H' own' p O
      obtain ⟨_, r⟩ := O.r
      cases r
      exact q H'
  refine codeAny_mono (G.run A outer s H args us [.ref a] Q E0 hr he hb hv sp) fun r s' hq => ?_
  cases r with
  | ok fl => cases fl <;> exact hq
  | error e =>
    obtain ⟨_, _, _, _, _, _, _, _, _, _, _, _, z⟩ := (show L2.CX P w outer H s E0 e s' from hq)
    exact z.elim
end DL

namespace DL
open PySem PySem.Spec PyProof.Rows L2
/-! ### telling what a body makes, by simp -/
@[simp ↓] theorem eVar_ap (i : Nat) (env : DEnv) : eVar i env = (match env[i]? with
  | some (some (.v d)) => .ok (.w (.v d)) env
  | some (some (.l _ _)) => .ok (.b i) env
  | some (some (.m _ _)) => .ok (.b i) env
  | some (some (.x _)) => .ok (.b i) env
  | _ => .stuck : R U) := Eq.trans rfl rfl
@[simp ↓] theorem eD_ap (d : D) (env : DEnv) : eD d env = (.ok (.w (.v d)) env : R U) := Eq.trans rfl rfl
@[simp ↓] theorem opN_ap (g : List D → Option W) (fs : List (M U)) (env : DEnv) : opN g fs env = ((evs fs env).bind fun us e1 => match datL e1 us with
  | some ds => match g ds with
    | some w => .ok (.w w) e1
    | none => .stuck
  | none => .stuck : R U) := Eq.trans rfl rfl
@[simp ↓] theorem intOnly_ap (f : M U) (env : DEnv) : intOnly f env = ((f env).bind fun u e => match u with
  | .w (.v (.int _)) => .ok u e
  | _ => .stuck : R U) := Eq.trans rfl rfl
@[simp ↓] theorem dTup_ap (fs : List (M U)) (env : DEnv) : dTup fs env = ((evs fs env).bind fun us e1 => match frzs e1 us with
  | some (ds, e2) => if ds.length ≤ 1000000 then .ok (.w (.v (.tup ds))) e2 else .stuck
  | none => .stuck : R U) := Eq.trans rfl rfl
@[simp ↓] theorem dLst_ap (fs : List (M U)) (env : DEnv) : dLst fs env = ((evs fs env).bind fun us e1 => match frzs e1 us with
  | some (ds, e2) => if ds.length ≤ 1000000 then .ok (.w (.l false ds)) e2 else .stuck
  | none => .stuck : R U) := Eq.trans rfl rfl
@[simp ↓] theorem tst_ap (f : M U) (env : DEnv) : tst f env = ((f env).bind fun u e1 => match dat e1 u with
  | some (.bl b) => .ok b e1
  | _ => .stuck : R Bool) := Eq.trans rfl rfl
@[simp ↓] theorem tAndD_ap (t u : M Bool) (env : DEnv) : tAndD t u env = ((t env).bind fun b e1 => if b then u e1 else .ok false e1 : R Bool) := Eq.trans rfl rfl
@[simp ↓] theorem tOrD_ap (t u : M Bool) (env : DEnv) : tOrD t u env = ((t env).bind fun b e1 => if b then .ok true e1 else u e1 : R Bool) := Eq.trans rfl rfl
@[simp ↓] theorem tNotD_ap (t : M Bool) (env : DEnv) : tNotD t env = ((t env).bind fun b e1 => .ok (!b) e1 : R Bool) := Eq.trans rfl rfl
@[simp ↓] theorem vAnd_ap (fa fb : M U) (env : DEnv) : vAnd fa fb env = ((fa env).bind fun u e1 => match dat e1 u with
  | some (.bl b) => if b then fb e1 else .ok (.w (.v (.bl false))) e1
  | _ => .stuck : R U) := Eq.trans rfl rfl
@[simp ↓] theorem vOr_ap (fa fb : M U) (env : DEnv) : vOr fa fb env = ((fa env).bind fun u e1 => match dat e1 u with
  | some (.bl b) => if b then .ok (.w (.v (.bl true))) e1 else fb e1
  | _ => .stuck : R U) := Eq.trans rfl rfl
@[simp ↓] theorem eIf_ap (t : M Bool) (fa fb : M U) (env : DEnv) : eIf t fa fb env = ((t env).bind fun b e1 => if b then fa e1 else fb e1 : R U) := Eq.trans rfl rfl
@[simp ↓] theorem vChain_ap (g g' : List D → Option W) (fa fb fc : M U) (env : DEnv) : vChain g g' fa fb fc env = ((fa env).bind fun u1 e1 => (fb e1).bind fun u2 e2 => match dat e2 u1, dat e2 u2 with
  | some d1, some d2 => match g [d1, d2] with
    | some (.v (.bl k)) => if k then (fc e2).bind fun u3 e3 => (match dat e3 u2, dat e3 u3 with
        | some d2, some d3 => (match g' [d2, d3] with
          | some w => .ok (.w w) e3
          | none => .stuck)
        | _, _ => .stuck) else .ok (.w (.v (.bl false))) e2
    | _ => .stuck
  | _, _ => .stuck : R U) := Eq.trans rfl rfl
@[simp ↓] theorem callF_ap (g : List W → RF) (ms : List (Option Nat)) (fs : List (M U)) (env : DEnv) : callF g ms fs env = ((evs fs env).bind fun us e1 => match frzM ms e1 us with
  | some (l, e2) => match takeW e2 ms l with
    | some ws => match g ws with
      | .ok w ws' => (match putW ms ws' e2 with
        | some e3 => .ok (.w w) e3
        | none => .stuck)
      | .raise c ws' => (match putW ms ws' e2 with
        | some e3 => .raise c e3
        | none => .stuck)
      | .stuck => .stuck
    | none => .stuck
  | none => .stuck : R U) := Eq.trans rfl rfl
@[simp ↓] theorem iterSeq_ap (f : M U) (env : DEnv) : iterSeq f env = ((f env).bind fun u e1 => match frz1 e1 u with
  | some (d, e2) => (match seqOf d with
    | some ds => .ok ds e2
    | none => .stuck)
  | none => .stuck : R (List D)) := Eq.trans rfl rfl
@[simp ↓] theorem iterEnum_ap (f : M U) (env : DEnv) : iterEnum f env = ((iterSeq f env).bind fun ds e => .ok (pairs0 ds) e : R (List D)) := Eq.trans rfl rfl
@[simp ↓] theorem iterR1_ap (f : M U) (env : DEnv) : iterR1 f env = ((evs [f] env).bind fun us e1 => match datL e1 us with
  | some [.int n] => if -(2 ^ 62) ≤ n ∧ n < 2 ^ 62 then .ok (rangeD 0 n) e1 else .stuck
  | _ => .stuck : R (List D)) := Eq.trans rfl rfl
@[simp ↓] theorem iterR2_ap (f g : M U) (env : DEnv) : iterR2 f g env = ((evs [f, g] env).bind fun us e1 => match datL e1 us with
  | some [.int m, .int n] => if (-(2 ^ 62) ≤ m ∧ m < 2 ^ 62) ∧ (-(2 ^ 62) ≤ n ∧ n < 2 ^ 62) then .ok (rangeD m n) e1 else .stuck
  | _ => .stuck : R (List D)) := Eq.trans rfl rfl
@[simp ↓] theorem iterR3_ap (f g h : M U) (env : DEnv) : iterR3 f g h env = ((evs [f, g, h] env).bind fun us e1 => match datL e1 us with
  | some [.int a, .int b, .int c] => if 0 < c ∧ c < 1000000 ∧ (0 ≤ a ∧ a ≤ 1000000) ∧ (0 ≤ b ∧ b ≤ 1000000) then .ok (rangeC a c (if b ≤ a then 0 else ((b - a - 1) / c + 1).toNat)) e1 else .stuck
  | _ => .stuck : R (List D)) := Eq.trans rfl rfl
@[simp ↓] theorem sNext_ap (env : DEnv) : sNext env = (.ok .next env : R Fl) := Eq.trans rfl rfl
@[simp ↓] theorem sBrk_ap (env : DEnv) : sBrk env = (.ok .brk env : R Fl) := Eq.trans rfl rfl
@[simp ↓] theorem sCont_ap (env : DEnv) : sCont env = (.ok .cont env : R Fl) := Eq.trans rfl rfl
@[simp ↓] theorem sSeq_ap (a b : M Fl) (env : DEnv) : sSeq a b env = ((a env).bind fun fl e => match fl with
  | .next => b e
  | fl => .ok fl e : R Fl) := Eq.trans rfl rfl
@[simp ↓] theorem sSet_ap (i : Nat) (f : M U) (env : DEnv) : sSet i f env = ((f env).bind fun u e1 => match ownU e1 u with
  | some (w, e2) => (match setS i w e2 with
    | some e3 => .ok .next e3
    | none => .stuck)
  | none => .stuck : R Fl) := Eq.trans rfl rfl
@[simp ↓] theorem sTgt_ap (m : MT) (f : M U) (env : DEnv) : sTgt m f env = ((f env).bind fun u e1 => match frz1 e1 u with
  | some (d, e2) => (match m d e2 with
    | some e3 => .ok .next e3
    | none => .stuck)
  | none => .stuck : R Fl) := Eq.trans rfl rfl
@[simp ↓] theorem sExpr_ap (f : M U) (env : DEnv) : sExpr f env = ((f env).bind fun _ e => .ok .next e : R Fl) := Eq.trans rfl rfl
@[simp ↓] theorem sRet_ap (f : M U) (env : DEnv) : sRet f env = ((f env).bind fun u e => .ok (.ret u) e : R Fl) := Eq.trans rfl rfl
@[simp ↓] theorem sIf_ap (t : M Bool) (a b : M Fl) (env : DEnv) : sIf t a b env = ((t env).bind fun c e => if c then a e else b e : R Fl) := Eq.trans rfl rfl
@[simp ↓] theorem sRaise_ap (c : Str) (env : DEnv) : sRaise c env = (.raise c env : R Fl) := Eq.trans rfl rfl
@[simp ↓] theorem sFor_ap (it : M (List D)) (m : MT) (b : M Fl) (env : DEnv) : sFor it m b env = ((it env).bind fun ds e => forD m b ds e : R Fl) := Eq.trans rfl rfl
@[simp ↓] theorem tYesD_ap (env : DEnv) : tYesD env = (.ok true env : R Bool) := Eq.trans rfl rfl
@[simp ↓] theorem eApp_ap (i : Nat) (fe : M U) (env : DEnv) : eApp i fe env = (match env[i]? with
  | some (some (.l _ _)) => (fe env).bind fun u e1 => (match frz1 e1 u with
    | some (d, e2) => (match e2[i]? with
      | some (some (.l b ds)) => if ds.length < 1000000 then .ok (.w (.v .non)) (e2.set i (some (.l b (ds ++ [d])))) else .stuck
      | _ => .stuck)
    | none => .stuck)
  | _ => .stuck : R U) := Eq.trans rfl rfl
@[simp ↓] theorem sStore_ap (i : Nat) (fk fe : M U) (env : DEnv) : sStore i fk fe env = (match env[i]? with
  | some (some (.l _ _)) => (fe env).bind fun u e1 => (fk e1).bind fun uk e2 => (match frz1 e2 u with
    | some (d, e3) => (match dat e3 uk, e3[i]? with
      | some (.int n), some (some (.l b ds)) => (match ixN ds.length n with
        | some j => .ok .next (e3.set i (some (.l b (ds.set j d))))
        | none => .stuck)
      | _, _ => .stuck)
    | none => .stuck)
  | _ => .stuck : R Fl) := Eq.trans rfl rfl
@[simp ↓] theorem mkFn_ap (is : List Nat) (np nl : Nat) (f : M Fl) (ws : List W) : mkFn is np nl f ws = (if keeps is ws = true ∧ ws.length = np then (match f (ws.map (fun w => some (bor w)) ++ List.replicate (nl - np) none) with
  | .ok (.ret u) env => (match retW env u, backs env 0 ws with
    | some w, some ws' => .ok w ws'
    | _, _ => .stuck)
  | .ok .next env => (match backs env 0 ws with
    | some ws' => .ok (.v .non) ws'
    | none => .stuck)
  | .raise c env => (match backs env 0 ws with
    | some ws' => .raise c ws'
    | none => .stuck)
  | _ => .stuck) else .stuck : RF) := Eq.trans rfl rfl
@[simp ↓] theorem sPar_ap (i j : Nat) (fs : List (M U)) (env : DEnv) : sPar i j fs env = ((evs fs env).bind fun us e1 => match frzs e1 us with
  | some ([d1, d2], e2) => (match setS i (.v d1) e2 with
    | some e3 => (match setS j (.v d2) e3 with
      | some e4 => .ok .next e4
      | none => .stuck)
    | none => .stuck)
  | _ => .stuck : R Fl) := Eq.trans rfl rfl
@[simp ↓] theorem opM_ap (g : List D → Option W) (fo fe : M U) (env : DEnv) : opM g fo fe env = ((fo env).bind fun u0 e0 => match dat e0 u0 with
  | some (.lst _) => (fe e0).bind fun u e1 => (match dat e1 u0, dat e1 u with
    | some d0, some d => (match g [d0, d] with
      | some w => .ok (.w w) e1
      | none => .stuck)
    | _, _ => .stuck)
  | _ => .stuck : R U) := Eq.trans rfl rfl
@[simp ↓] theorem eComp_ap (it : M (List D)) (vs : List Nat) (m : MT) (t : M Bool) (f : M U) (env : DEnv) : eComp it vs m t f env = ((it env).bind fun ds e1 => if dataAt e1 vs then (match compD vs m t f ds (wipeA e1 vs) with
  | .ok ys e2 => if ds.length ≤ 1000000 then .ok (.w (.l false ys)) (unwipe e1 vs e2) else .stuck
  | _ => .stuck) else .stuck : R U) := Eq.trans rfl rfl
@[simp ↓] theorem eComp2_ap (it : M (List D)) (vs vs1 : List Nat) (m : MT) (it1 : M (List D)) (m1 : MT) (f : M U) (env : DEnv) : eComp2 it vs vs1 m it1 m1 f env = ((it env).bind fun ds e1 => if dataAt e1 vs then (match compD2 vs vs1 m it1 m1 f ds (wipeA e1 vs) with
  | .ok ys e2 => if ys.length ≤ 1000000 then .ok (.w (.l false ys)) (unwipe e1 vs e2) else .stuck
  | _ => .stuck) else .stuck : R U) := Eq.trans rfl rfl
@[simp ↓] theorem mName_ap (i : Nat) (d : D) (env : DEnv) : mName i d env = (setS i (.v d) env : Option DEnv) := Eq.trans rfl rfl
@[simp ↓] theorem mNil_ap (ds : List D) (env : DEnv) : mNil ds env = (match ds with
  | [] => some env
  | _ => none : Option DEnv) := Eq.trans rfl rfl
@[simp ↓] theorem mCons_ap (m : MT) (ms : MTs) (ds : List D) (env : DEnv) : mCons m ms ds env = (match ds with
  | d :: r => (m d env).bind fun e => ms r e
  | [] => none : Option DEnv) := Eq.trans rfl rfl
@[simp ↓] theorem mTup_ap (ms : MTs) (n : Nat) (d : D) (env : DEnv) : mTup ms n d env = (match d with
  | .tup ds => if ds.length = n then ms ds env else none
  | _ => none : Option DEnv) := Eq.trans rfl rfl
@[simp ↓] theorem evs_nil (env : DEnv) : evs [] env = .ok [] env := Eq.trans rfl rfl
@[simp ↓] theorem evs_cons (f : M U) (fs : List (M U)) (env : DEnv) : evs (f :: fs) env = (f env).bind fun u e1 => (evs fs e1).bind fun us e2 => .ok (u :: us) e2 := Eq.trans rfl rfl
@[simp] theorem datL_c0 (env : DEnv) : datL env ([]) = (some []) := Eq.trans rfl rfl
@[simp] theorem datL_c1 (env : DEnv) (u) (us) : datL env (u :: us) = (match dat env u, datL env us with
    | some d, some ds => some (d :: ds)
    | _, _ => none) := Eq.trans rfl rfl
@[simp] theorem opq_v (d : D) : W.opq (.v d) = false := Eq.trans rfl rfl
@[simp] theorem opq_l (b : Bool) (ds : List D) : W.opq (.l b ds) = false := Eq.trans rfl rfl
@[simp] theorem opq_m (ks : List (List Int)) (ds : List D) : W.opq (.m ks ds) = false := Eq.trans rfl rfl
@[simp] theorem opq_d (k : Bool) (ks ds : List D) : W.opq (.x (.d k ks ds)) = false := Eq.trans rfl rfl
@[simp] theorem opq_o (b : Bool) (c : Str) (ns : List Str) (fs : List W0) : W.opq (.x (.o b c ns fs)) = true := Eq.trans rfl rfl
@[simp] theorem opq_t (fs : List W0) : W.opq (.x (.t fs)) = true := Eq.trans rfl rfl
@[simp] theorem dat_c0 (env : DEnv) (w) : dat env (.w w) = (if w.opq then none else some (datW w)) := Eq.trans rfl rfl
@[simp] theorem dat_c1 (env : DEnv) (i) : dat env (.b i) = (match env[i]? with
    | some (some w) => if w.opq then none else some (datW w)
    | _ => none) := Eq.trans rfl rfl
@[simp] theorem datW_c3 (k : Bool) (ks ds : List D) : datW (.x (.d k ks ds)) = .dix k ks ds := Eq.trans rfl rfl
@[simp] theorem datW_c0  (d) : datW  (.v d) = (d) := by first | exact Eq.trans rfl rfl | (cases d <;> rfl)
@[simp] theorem datW_c1  (u1) (ds) : datW  (.l u1 ds) = (.lst ds) := Eq.trans rfl rfl
@[simp] theorem datW_c2  (ks) (ds) : datW  (.m ks ds) = (.dic ks ds) := Eq.trans rfl rfl
@[simp] theorem frz1_c0 (env : DEnv) (w) : frz1 env (.w w) = (if w.opq then none else some (datW w, env)) := Eq.trans rfl rfl
@[simp] theorem frz1_c1 (env : DEnv) (i) : frz1 env (.b i) = (match env[i]? with
    | some (some (.v d)) => some (d, env)
    | some (some (.l false ds)) => some (.lst ds, env.set i (some (.v (.lst ds))))
    | some (some (.m ks ds)) => some (.dic ks ds, env.set i (some (.v (.dic ks ds))))
    | some (some (.x (.d k ks ds))) => some (.dix k ks ds, env.set i (some (.v (.dix k ks ds))))
    | _ => none) := Eq.trans rfl rfl
@[simp] theorem frzs_c0 (env : DEnv) : frzs env ([]) = (some ([], env)) := Eq.trans rfl rfl
@[simp] theorem frzs_c1 (env : DEnv) (u) (us) : frzs env (u :: us) = (match frz1 env u with
    | some (d, e1) => match frzs e1 us with
      | some (ds, e2) => some (d :: ds, e2)
      | none => none
    | none => none) := Eq.trans rfl rfl
@[simp] theorem frzM_c0  (env) : frzM  ([]) env ([]) = (some ([], env)) := Eq.trans rfl rfl
@[simp] theorem frzM_c1  (ms) (env) (u) (us) : frzM  (none :: ms) env (u :: us) = (match frz1 env u with
    | some (d, e1) => match frzM ms e1 us with
      | some (l, e2) => some (some d :: l, e2)
      | none => none
    | none => none) := Eq.trans rfl rfl
@[simp] theorem frzM_c2  (i) (ms) (env) (j) (us) : frzM  (some i :: ms) env (.b j :: us) = (if i = j then (match frzM ms env us with
      | some (l, e2) => some (none :: l, e2)
      | none => none) else none) := Eq.trans rfl rfl
@[simp] theorem takeW_c0 (env : DEnv) : takeW env ([]) ([]) = (some []) := Eq.trans rfl rfl
@[simp] theorem takeW_c1 (env : DEnv) (ms) (d) (l) : takeW env (none :: ms) (some d :: l) = (match takeW env ms l with
    | some ws => some (.v d :: ws)
    | none => none) := by first | exact Eq.trans rfl rfl | (cases d <;> rfl)
@[simp] theorem takeW_c2 (env : DEnv) (i) (ms) (l) : takeW env (some i :: ms) (none :: l) = (match env[i]? with
    | some (some (.l _ ds)) => (match takeW env ms l with
      | some ws => some (.l true ds :: ws)
      | none => none)
    | some (some (.x (.o _ c ns fs))) => (match takeW env ms l with
      | some ws => some (.x (.o true c ns fs) :: ws)
      | none => none)
    | _ => none) := Eq.trans rfl rfl
@[simp] theorem putW_c3 (i) (ms) (b) (c) (ns) (fs) (ws) (env) : putW (some i :: ms) (.x (.o b c ns fs) :: ws) env = (match env[i]? with
    | some (some (.x (.o b _ _ _))) => putW ms ws (env.set i (some (.x (.o b c ns fs))))
    | _ => none) := Eq.trans rfl rfl
@[simp] theorem putW_c0  (env) : putW  ([]) ([]) env = (some env) := Eq.trans rfl rfl
@[simp] theorem putW_c1  (ms) (u1) (ws) (env) : putW  (none :: ms) (u1 :: ws) env = (putW ms ws env) := Eq.trans rfl rfl
@[simp] theorem putW_c2  (i) (ms) (u1) (ds) (ws) (env) : putW  (some i :: ms) (.l u1 ds :: ws) env = (match env[i]? with
    | some (some (.l b _)) => putW ms ws (env.set i (some (.l b ds)))
    | _ => none) := Eq.trans rfl rfl
@[simp] theorem ownU_c0 (env : DEnv) (d) : ownU env (.w (.v d)) = (some (.v d, env)) := by first | exact Eq.trans rfl rfl | (cases d <;> rfl)
@[simp] theorem ownU_c1 (env : DEnv) (u1) (ds) : ownU env (.w (.l u1 ds)) = (some (.l false ds, env)) := Eq.trans rfl rfl
@[simp] theorem ownU_c3 (env : DEnv) (ks) (ds) : ownU env (.w (.m ks ds)) = (some (.m ks ds, env)) := Eq.trans rfl rfl
@[simp] theorem ownU_c4 (env : DEnv) (k) (ks) (ds) : ownU env (.w (.x (.d k ks ds))) = (some (.x (.d k ks ds), env)) := Eq.trans rfl rfl
@[simp] theorem ownU_c5 (env : DEnv) (b) (c) (ns) (fs) : ownU env (.w (.x (.o b c ns fs))) = (some (.x (.o false c ns fs), env)) := Eq.trans rfl rfl
@[simp] theorem ownU_c2 (env : DEnv) (i) : ownU env (.b i) = (match frz1 env (.b i) with
    | some (d, e) => some (.v d, e)
    | none => none) := Eq.trans rfl rfl
@[simp] theorem seqOf_c0  (ds) : seqOf  (.lst ds) = (some ds) := Eq.trans rfl rfl
@[simp] theorem seqOf_c1  (ds) : seqOf  (.tup ds) = (some ds) := Eq.trans rfl rfl
@[simp] theorem bor_c0  (d) : bor  (.v d) = (.v d) := by first | exact Eq.trans rfl rfl | (cases d <;> rfl)
@[simp] theorem bor_c1  (u1) (ds) : bor  (.l u1 ds) = (.l true ds) := Eq.trans rfl rfl
@[simp] theorem bor_c2 (b) (c) (ns) (fs) : bor (.x (.o b c ns fs)) = (.x (.o true c ns fs)) := Eq.trans rfl rfl
@[simp] theorem retW_c4 (env : DEnv) (b) (c) (ns) (fs) : retW env (.w (.x (.o b c ns fs))) = (some (.x (.o false c ns fs))) := Eq.trans rfl rfl
@[simp] theorem retW_c5 (env : DEnv) (k) (ks) (ds) : retW env (.w (.x (.d k ks ds))) = (some (.x (.d k ks ds))) := Eq.trans rfl rfl
@[simp] theorem retW_c6 (env : DEnv) (fs) : retW env (.w (.x (.t fs))) = (some (.x (.t fs))) := Eq.trans rfl rfl
@[simp] theorem retW_c0 (env : DEnv) (d) : retW env (.w (.v d)) = (some (.v d)) := by first | exact Eq.trans rfl rfl | (cases d <;> rfl)
@[simp] theorem retW_c1 (env : DEnv) (u1) (ds) : retW env (.w (.l u1 ds)) = (some (.l false ds)) := Eq.trans rfl rfl
@[simp] theorem retW_c3 (env : DEnv) (ks) (ds) : retW env (.w (.m ks ds)) = (some (.m ks ds)) := Eq.trans rfl rfl
@[simp] theorem retW_c2 (env : DEnv) (i) : retW env (.b i) = (match env[i]? with
    | some (some (.v d)) => some (.v d)
    | some (some (.l false ds)) => some (.l false ds)
    | some (some (.x (.o false c ns fs))) => some (.x (.o false c ns fs))
    | _ => none) := Eq.trans rfl rfl
@[simp] theorem backs_c3 (env : DEnv) (j) (b) (c0) (n0) (f0) (ws) : backs env j (.x (.o b c0 n0 f0) :: ws) = (match env[j]? with
    | some (some (.x (.o true c ns fs))) => (match backs env (j + 1) ws with
      | some r => some (.x (.o b c ns fs) :: r)
      | none => none)
    | _ => none) := Eq.trans rfl rfl
@[simp] theorem backs_c0 (env : DEnv) (u1) : backs env u1 ([]) = (some []) := Eq.trans rfl rfl
@[simp] theorem backs_c1 (env : DEnv) (j) (d) (ws) : backs env j (.v d :: ws) = (match backs env (j + 1) ws with
    | some r => some (.v d :: r)
    | none => none) := by first | exact Eq.trans rfl rfl | (cases d <;> rfl)
@[simp] theorem backs_c2 (env : DEnv) (j) (b) (u1) (ws) : backs env j (.l b u1 :: ws) = (match env[j]? with
    | some (some (.l true ds)) => (match backs env (j + 1) ws with
      | some r => some (.l b ds :: r)
      | none => none)
    | _ => none) := Eq.trans rfl rfl
@[simp] theorem keeps_df (is : List Nat) (ws : List W) : keeps is ws = (is.all fun j => match ws[j]? with
  | some (.l _ _) => false
  | some (.x _) => false
  | _ => true : Bool) := rfl
@[simp] theorem wipeA_c0 {α : Type} (l : List (Option α)) : wipeA l ([]) = (l) := Eq.trans rfl rfl
@[simp] theorem wipeA_c1 {α : Type} (l : List (Option α)) (v) (vs) : wipeA l (v :: vs) = ((wipeA l vs).set v none) := Eq.trans rfl rfl
@[simp] theorem unwipe_c0 (e1 : DEnv) (e2) : unwipe e1 ([]) e2 = (e2) := Eq.trans rfl rfl
@[simp] theorem unwipe_c1 (e1 : DEnv) (v) (vs) (e2) : unwipe e1 (v :: vs) e2 = ((unwipe e1 vs e2).set v ((e1[v]?).getD none)) := Eq.trans rfl rfl
def okL : Option (Option W) → Bool
  | some (some (.l _ _)) => false
  | some (some (.m _ _)) => false
  | some (some (.x _)) => false
  | _ => true
@[simp] theorem okL_v (d : D) : okL (some (some (.v d))) = true := Eq.trans rfl rfl
@[simp] theorem okL_l (b : Bool) (ds : List D) : okL (some (some (.l b ds))) = false := Eq.trans rfl rfl
@[simp] theorem okL_d (ks : List (List Int)) (ds : List D) : okL (some (some (.m ks ds))) = false := Eq.trans rfl rfl
@[simp] theorem okL_x (y : Xt) : okL (some (some (.x y))) = false := Eq.trans rfl rfl
@[simp] theorem okL_n : okL (some none) = true := Eq.trans rfl rfl
@[simp] theorem okL_m (x : Option D) : okL (some (x.map W.v)) = true := by cases x <;> rfl
@[simp] theorem dataAt_df (env : DEnv) (vs : List Nat) : dataAt env vs = vs.all fun v => okL env[v]? := by
  unfold dataAt okL
  rfl
@[simp] theorem gAdd_c0  (i) (j) : gAdd  ([.int i, .int j]) = (some (.v (.int (i + j)))) := Eq.trans rfl rfl
@[simp] theorem gAdd_c1  (x) (y) : gAdd  ([.str x, .str y]) = (if x.length + y.length ≤ 1000000 then some (.v (.str (x ++ y))) else none) := Eq.trans rfl rfl
@[simp] theorem gAdd_c2  (xs) (ys) : gAdd  ([.tup xs, .tup ys]) = (if xs.length + ys.length ≤ 1000000 then some (.v (.tup (xs ++ ys))) else none) := Eq.trans rfl rfl
@[simp] theorem gAdd_c3  (xs) (ys) : gAdd  ([.lst xs, .lst ys]) = (if xs.length + ys.length ≤ 1000000 then some (.l false (xs ++ ys)) else none) := Eq.trans rfl rfl
@[simp] theorem gSub_c0  (i) (j) : gSub  ([.int i, .int j]) = (some (.v (.int (i - j)))) := Eq.trans rfl rfl
@[simp] theorem gDiv_c0  (i) (j) : gDiv  ([.int i, .int j]) = (if 0 < j ∧ j < 1073741824 then some (.v (.int (i / j))) else none) := Eq.trans rfl rfl
@[simp] theorem gMod_c0  (i) (j) : gMod  ([.int i, .int j]) = (if 0 < j then some (.v (.int (i % j))) else none) := Eq.trans rfl rfl
@[simp] theorem gNeg_c0  (i) : gNeg  ([.int i]) = (some (.v (.int (-i)))) := Eq.trans rfl rfl
@[simp] theorem gCmp_c0 (f : Int → Int → Bool) (i) (j) : gCmp f ([.int i, .int j]) = (some (.v (.bl (f i j)))) := Eq.trans rfl rfl
@[simp] theorem gNot_c0  (b) : gNot  ([.bl b]) = (some (.v (.bl (!b)))) := Eq.trans rfl rfl
@[simp] theorem gLen_c0  (ds) : gLen  ([.lst ds]) = (some (.v (.int ds.length))) := Eq.trans rfl rfl
@[simp] theorem gLen_c1  (ds) : gLen  ([.tup ds]) = (some (.v (.int ds.length))) := Eq.trans rfl rfl
@[simp] theorem gLen_c2  (ns) : gLen  ([.scr ns]) = (some (.v (.int ns.length))) := Eq.trans rfl rfl
@[simp] theorem gLen_c3  (x) : gLen  ([.str x]) = (if x.length ≤ 1000000 then some (.v (.int x.length)) else none) := Eq.trans rfl rfl
@[simp] theorem gList_c0  (ds) : gList  ([.lst ds]) = (some (.l false ds)) := Eq.trans rfl rfl
@[simp] theorem gList_c1  (ds) : gList  ([.tup ds]) = (some (.l false ds)) := Eq.trans rfl rfl
@[simp] theorem gList_c2  (ns) : gList  ([.scr ns]) = (some (.l false (ns.map D.int))) := Eq.trans rfl rfl
@[simp] theorem gTuple_c0  (ds) : gTuple  ([.lst ds]) = (some (.v (.tup ds))) := Eq.trans rfl rfl
@[simp] theorem gTuple_c1  (ds) : gTuple  ([.tup ds]) = (some (.v (.tup ds))) := Eq.trans rfl rfl
@[simp] theorem gIsi_c0  (d) (u) : gIsi  ([d, .ty u]) = ((isTy d u).map fun b => .v (.bl b)) := by first | exact Eq.trans rfl rfl | (cases d <;> rfl)
@[simp] theorem gIx_c0  (ds) (i) : gIx  ([.lst ds, .int i]) = ((atI ds i).map .v) := Eq.trans rfl rfl
@[simp] theorem gIx_c1  (ds) (i) : gIx  ([.tup ds, .int i]) = ((atI ds i).map .v) := Eq.trans rfl rfl
@[simp] theorem gIx_c2  (ns) (i) : gIx  ([.scr ns, .int i]) = ((atI ns i).map fun n => .v (.int n)) := Eq.trans rfl rfl
@[simp] theorem gIx_c3  (x) (i) : gIx  ([.str x, .int i]) = (if x.length ≤ 1000000 then (atI x.cps.toList i).map fun c => .v (.str ⟨#[c]⟩) else none) := Eq.trans rfl rfl
@[simp] theorem gSlB_c0  (d) (i) (j) : gSlB  ([d, .int i, .int j]) = (gSl (some i) (some j) d) := by first | exact Eq.trans rfl rfl | (cases d <;> rfl)
@[simp] theorem gSlL_c0  (d) (i) : gSlL  ([d, .int i]) = (gSl (some i) none d) := by first | exact Eq.trans rfl rfl | (cases d <;> rfl)
@[simp] theorem gSlH_c0  (d) (i) : gSlH  ([d, .int i]) = (gSl none (some i) d) := by first | exact Eq.trans rfl rfl | (cases d <;> rfl)
@[simp] theorem gSl_c0 (lo hi : Option Int) (ds) : gSl lo hi (.lst ds) = (some (.l false (cutA ds lo hi))) := Eq.trans rfl rfl
@[simp] theorem gSl_c1 (lo hi : Option Int) (ds) : gSl lo hi (.tup ds) = (some (.v (.tup (cutA ds lo hi)))) := Eq.trans rfl rfl
@[simp] theorem gIs_c0  (a) (b) : gIs  ([.bl a, .bl b]) = (some (.v (.bl (decide (a = b))))) := Eq.trans rfl rfl
@[simp] theorem gIs_c1  (d) : gIs  ([d, .non]) = (some (.v (.bl (isNonD d)))) := by first | exact Eq.trans rfl rfl | (cases d <;> rfl)
@[simp] theorem gIsNot_c0  (a) (b) : gIsNot  ([.bl a, .bl b]) = (some (.v (.bl (!decide (a = b))))) := Eq.trans rfl rfl
@[simp] theorem gIsNot_c1  (d) : gIsNot  ([d, .non]) = (some (.v (.bl (!isNonD d)))) := by first | exact Eq.trans rfl rfl | (cases d <;> rfl)
@[simp] theorem isNonD_c0  : isNonD  (.non) = (true) := Eq.trans rfl rfl
@[simp] theorem gRg_c0 (mk : List D → W) (n) : gRg mk ([.int n]) = (if -(2 ^ 62) ≤ n ∧ n ≤ 1000000 then some (mk (rangeD 0 n)) else none) := Eq.trans rfl rfl
@[simp] theorem gRg_c1 (mk : List D → W) (m) (n) : gRg mk ([.int m, .int n]) = (if (-(2 ^ 62) ≤ m ∧ m < 2 ^ 62) ∧ (-(2 ^ 62) ≤ n ∧ n < 2 ^ 62) ∧ n - m ≤ 1000000 then some (mk (rangeD m n)) else none) := Eq.trans rfl rfl
@[simp] theorem isNonD_int (i : Int) : isNonD (.int i) = false := Eq.trans rfl rfl
@[simp] theorem isNonD_bl (i : Bool) : isNonD (.bl i) = false := Eq.trans rfl rfl
@[simp] theorem isNonD_str (i : Str) : isNonD (.str i) = false := Eq.trans rfl rfl
@[simp] theorem isNonD_tup (i : List D) : isNonD (.tup i) = false := Eq.trans rfl rfl
@[simp] theorem isNonD_lst (i : List D) : isNonD (.lst i) = false := Eq.trans rfl rfl
def okS : Option W → Bool
  | some (.l true _) => false
  | some (.x (.o true _ _ _)) => false
  | _ => true
def okI : Option (Option W) → Bool
  | none => false
  | some x => okS x
@[simp] theorem okI_some (x : Option W) : okI (some x) = okS x := Eq.trans rfl rfl
@[simp] theorem okI_none : okI none = false := Eq.trans rfl rfl
@[simp] theorem okS_none : okS none = true := Eq.trans rfl rfl
@[simp] theorem okS_v (d : D) : okS (some (.v d)) = true := Eq.trans rfl rfl
@[simp] theorem okS_f (ds : List D) : okS (some (.l false ds)) = true := Eq.trans rfl rfl
@[simp] theorem okS_m (ks : List (List Int)) (ds : List D) : okS (some (.m ks ds)) = true := Eq.trans rfl rfl
@[simp] theorem okS_x1 (c ns fs) : okS (some (.x (.o false c ns fs))) = true := Eq.trans rfl rfl
@[simp] theorem okS_x2 (c ns fs) : okS (some (.x (.o true c ns fs))) = false := Eq.trans rfl rfl
@[simp] theorem okS_x3 (k ks ds) : okS (some (.x (.d k ks ds))) = true := Eq.trans rfl rfl
@[simp] theorem okS_t (ds : List D) : okS (some (.l true ds)) = false := Eq.trans rfl rfl
@[simp] theorem okS_map (x : Option D) : okS (x.map W.v) = true := by cases x <;> rfl
@[simp] theorem setS_def (i : Nat) (w : W) (env : DEnv) : setS i w env = if okI env[i]? then some (env.set i (some w)) else none := by
  unfold setS okI okS
  cases env[i]? with
  | none => rfl
  | some x => match x with
    | none => rfl
    | some (.v d) => rfl
    | some (.l false ds) => rfl
    | some (.l true ds) => rfl
    | some (.m ks ds) => rfl
    | some (.x (.d k ks ds)) => rfl
    | some (.x (.t fs)) => rfl
    | some (.x (.o true c ns fs)) => rfl
    | some (.x (.o false c ns fs)) => rfl
@[simp] theorem isTy_int {i : Int} : isTy (.int i) "int" = some true := by simp [isTy]
@[simp] theorem isTy_intb {i : Int} : isTy (.int i) "bool" = some false := by simp [isTy]
@[simp] theorem isTy_tup {l : List D} : isTy (.tup l) "tuple" = some true := by simp [isTy]
section
variable {vs : List Nat} {m : MT} {t : M Bool} {f : M U} {E0 : DEnv} {α : Type}
theorem comp_map {enc ψ : α → D} : ∀ (xs : List α), (∀ x ∈ xs, ∀ rest, compD vs m t f (enc x :: rest) E0 = (compD vs m t f rest E0).bind fun ys e => .ok (ψ x :: ys) e) → compD vs m t f (xs.map enc) E0 = .ok (xs.map ψ) E0
  | [], _ => rfl
  | x :: xs, h => by
    rw [List.map_cons, h x (List.mem_cons_self ..), comp_map xs fun y hy => h y (List.mem_cons_of_mem _ hy)]
    rfl
theorem comp_filt {enc ψ : α → D} {p : α → Bool} : ∀ (xs : List α), (∀ x ∈ xs, ∀ rest, compD vs m t f (enc x :: rest) E0 = if p x then (compD vs m t f rest E0).bind fun ys e => .ok (ψ x :: ys) e else compD vs m t f rest E0) → compD vs m t f (xs.map enc) E0 = .ok ((xs.filter p).map ψ) E0
  | [], _ => rfl
  | x :: xs, h => by
    have ih := comp_filt xs fun y hy => h y (List.mem_cons_of_mem _ hy)
    rw [List.map_cons, h x (List.mem_cons_self ..), ih]
    by_cases hp : p x
    · rw [if_pos hp, List.filter_cons_of_pos hp]; rfl
    · rw [if_neg hp, List.filter_cons_of_neg hp]
end

@[simp] theorem intsOf_mapS (ns : List Int) : intsOf (ns.map D.int) = some ns := intsOf_map ns
@[simp] theorem blsOf_mapS (ns : List Bool) : blsOf (ns.map D.bl) = some ns := blsOf_map ns
/-! ### slices, items -/
theorem cutA_hi {α : Type} {xs : List α} {n : Int} (h : 0 ≤ n) : cutA xs none (some n) = xs.take n.toNat := by
  obtain ⟨k, rfl⟩ := Int.eq_ofNat_of_zero_le h
  unfold cutA
  rw [HT.sIx_none, HT.sIx_nat]
  simp [List.take_eq_take_iff]
theorem cutA_lo {α : Type} {xs : List α} {n : Int} (h : 0 ≤ n) : cutA xs (some n) none = xs.drop n.toNat := by
  obtain ⟨k, rfl⟩ := Int.eq_ofNat_of_zero_le h
  unfold cutA
  rw [HT.sIx_none, HT.sIx_nat, Int.toNat_natCast]
  rcases Nat.le_total k xs.length with l | l
  · rw [Nat.min_eq_left l]
    exact List.take_of_length_le (by rw [List.length_drop]; exact Nat.le_refl _)
  · rw [Nat.min_eq_right l]
    simp [List.drop_eq_nil_of_le l]
theorem cutA_map {α β : Type} (f : α → β) (xs : List α) (lo hi : Option Int) : cutA (xs.map f) lo hi = (cutA xs lo hi).map f := by
  unfold cutA
  rw [List.length_map, ← List.map_drop, ← List.map_take]
theorem atI_of {α : Type} {xs : List α} {n : Int} (h : 0 ≤ n) : atI xs n = xs[n.toNat]? := by
  unfold atI ixN
  rw [if_pos h]
  by_cases l : n < xs.length
  · rw [if_pos l]; rfl
  · rw [if_neg l, List.getElem?_eq_none (by omega)]; rfl
theorem atI_map {α β : Type} (f : α → β) (xs : List α) (n : Int) : atI (xs.map f) n = (atI xs n).map f := by
  unfold atI
  rw [List.length_map]
  cases ixN xs.length n with
  | none => rfl
  | some j => simp
/-! ### encoded data: equality -/
structure En {α : Type} [DecidableEq α] (e : α → D) (n : Nat) : Prop where
  eq : ∀ x y, deq (e x) (e y) = decide (x = y)
  fn : ∀ x m, n ≤ m → fine m (e x) = true
theorem deq_tups (xs ys : List D) : deq (.tup xs) (.tup ys) = PyData.eqvAll (toPys xs) (toPys ys) := by
  unfold deq; rw [toPy, toPy, PyData.eqv]
theorem deq_lsts (xs ys : List D) : deq (.lst xs) (.lst ys) = PyData.eqvAll (toPys xs) (toPys ys) := by
  unfold deq; rw [toPy, toPy, PyData.eqv]
theorem all_cons (x y : D) (xs ys : List D) : PyData.eqvAll (toPys (x :: xs)) (toPys (y :: ys)) = (deq x y && PyData.eqvAll (toPys xs) (toPys ys)) := by
  rw [toPys, toPys, PyData.eqvAll]; rfl
theorem all_nil : PyData.eqvAll (toPys []) (toPys []) = true := by rw [toPys, PyData.eqvAll]
theorem all_nc (x : D) (xs : List D) : PyData.eqvAll (toPys []) (toPys (x :: xs)) = false := by rw [toPys, toPys, PyData.eqvAll]
theorem all_cn (x : D) (xs : List D) : PyData.eqvAll (toPys (x :: xs)) (toPys []) = false := by rw [toPys, toPys, PyData.eqvAll]
theorem deq_int (i j : Int) : deq (.int i) (.int j) = decide (i = j) := by
  unfold deq; rw [toPy, toPy, PyData.eqv]; rfl
theorem deq_bl (i j : Bool) : deq (.bl i) (.bl j) = decide (i = j) := by
  unfold deq; rw [toPy, toPy, PyData.eqv]; cases i <;> cases j <;> rfl
theorem all_en {α : Type} [DecidableEq α] {e : α → D} {n : Nat} (h : En e n) : ∀ xs ys : List α, PyData.eqvAll (toPys (xs.map e)) (toPys (ys.map e)) = decide (xs = ys)
  | [], [] => by simp [all_nil]
  | [], y :: ys => by simp [all_nc]
  | x :: xs, [] => by simp [all_cn]
  | x :: xs, y :: ys => by
    rw [List.map_cons, List.map_cons, all_cons, all_en h xs ys, h.eq]
    by_cases a : x = y <;> by_cases b : xs = ys <;> simp [a, b]
theorem fine_tup {l : List D} {n : Nat} (h : l.all (fine n) = true) : fine (n + 1) (.tup l) = true := h
theorem fine_lst {l : List D} {n : Nat} (h : l.all (fine n) = true) : fine (n + 1) (.lst l) = true := h
theorem en_int : En D.int 1 := ⟨deq_int, fun x m h => by cases m with | zero => omega | succ m => rfl⟩
theorem en_bl : En D.bl 1 := ⟨deq_bl, fun x m h => by cases m with | zero => omega | succ m => rfl⟩
theorem en_tup {α : Type} [DecidableEq α] {e : α → D} {n : Nat} (h : En e n) : En (fun xs : List α => D.tup (xs.map e)) (n + 1) :=
  ⟨fun x y => by rw [deq_tups, all_en h], fun x m hm => by
    cases m with
    | zero => omega
    | succ m =>
      refine fine_tup ?_
      rw [List.all_eq_true]
      intro z hz
      obtain ⟨w, _, rfl⟩ := List.mem_map.mp hz
      exact h.fn w m (by omega)⟩
theorem en_lst {α : Type} [DecidableEq α] {e : α → D} {n : Nat} (h : En e n) : En (fun xs : List α => D.lst (xs.map e)) (n + 1) :=
  ⟨fun x y => by rw [deq_lsts, all_en h], fun x m hm => by
    cases m with
    | zero => omega
    | succ m =>
      refine fine_lst ?_
      rw [List.all_eq_true]
      intro z hz
      obtain ⟨w, _, rfl⟩ := List.mem_map.mp hz
      exact h.fn w m (by omega)⟩
theorem gEq_en {α : Type} [DecidableEq α] {e : α → D} {n : Nat} (h : En e n) (x y : α) (hn : n ≤ 60 := by decide) : gEq [e x, e y] = some (.v (.bl (decide (x = y)))) := by
  show (if (fine 60 (e x) && fine 60 (e y)) = true then _ else _) = _
  rw [h.fn x 60 hn, h.fn y 60 hn, h.eq]; rfl
theorem gNe_en {α : Type} [DecidableEq α] {e : α → D} {n : Nat} (h : En e n) (x y : α) (hn : n ≤ 60 := by decide) : gNe [e x, e y] = some (.v (.bl (!decide (x = y)))) := by
  show (if (fine 60 (e x) && fine 60 (e y)) = true then _ else _) = _
  rw [h.fn x 60 hn, h.fn y 60 hn, h.eq]; rfl
@[simp] theorem gEq_int (i j : Int) : gEq [.int i, .int j] = some (.v (.bl (decide (i = j)))) := gEq_en en_int i j
@[simp] theorem gNe_int (i j : Int) : gNe [.int i, .int j] = some (.v (.bl (!decide (i = j)))) := gNe_en en_int i j
@[simp] theorem gEq_scr (ns : List Int) : gEq [.scr ns, .lst []] = some (.v (.bl (decide (ns = [])))) := by
  have e : deq (.scr ns) (.lst []) = decide (ns = []) := by
    unfold deq; rw [toPy, toPy, PyData.eqv]
    cases ns with
    | nil => rw [toPys, List.map_nil, PyData.eqvAll]; rfl
    | cons n ns => rw [toPys, List.map_cons, PyData.eqvAll]; simp
  show some (W.v (D.bl (deq (.scr ns) (.lst [])))) = _
  rw [e]
end DL

/-! Errors that are caught and kept: try .. except X as e: y = e; isinstance of what was caught. -/
namespace DL
open PySem PySem.Spec PyProof.Rows L2

theorem caO_ok {P : Program} {w : World} {H : Hp} {h : Heap} {a C : Addr} {oe : Obj} {vs : Array Value} (e : h.get? a = some oe) (z : Zc (.ref C) none oe) (d : oe.data = .fields vs) : ObjOk P w H h a (CaO C a) :=
  ⟨⟨oe, vs, e, z, d⟩, ⟨oe, e⟩, fun _ _ ⟨o, v, q, r⟩ k => ⟨o, v, k o q, r⟩⟩

/-! ### classes and defs by their names -/
structure Nam (K : PySem.W.Frag) (mg : Str → Option Value) (c : Str) : Prop where
  ex : ∃ C : Addr, mg c = some (.ref C) ∧ PySem.W.nsIn K mainGlobals c = some (some (.ref C))
theorem e_nam {X : Cx} {Wx : WX} {c : Str} {pos : Pos} (N : Nam X.K X.mg c) (hg : Gl X c := by rfl) (hd : (c == ("__debug__" : Str)) = false := by decide) : EvS X Wx (.Name c pos) (eD (.nam false c)) := by
  obtain ⟨C, h1, h2⟩ := N.ex
  exact e_glob (v := .ref C) hg h1 rfl (fun _ => .glob h2) hd

/-! ### isinstance of what was caught -/
def excSub (c c' : Str) : Bool := c == c' || c' == "ChairError"
structure ExcTab (K : PySem.W.Frag) (cs ts : List Str) : Prop where
  cls : ∀ c ∈ cs, ∀ C : Addr, PySem.W.nsIn K mainGlobals c = some (some (.ref C)) → ExcC K C ∧ PySem.W.kitOne K (.ref C) (.type "ValueError") = some true
  sub : ∀ c ∈ cs, ∀ c' ∈ ts, ∀ C C' : Addr, PySem.W.nsIn K mainGlobals c = some (some (.ref C)) → PySem.W.nsIn K mainGlobals c' = some (some (.ref C')) → PySem.W.kitOne K (.ref C) (.ref C') = some (excSub c c')
theorem kit_same {K : PySem.W.Frag} {C : Addr} {c : Str} : PySem.W.kitOne K (.ref C) (.ref C) = some (excSub c c) := by
  unfold PySem.W.kitOne
  rw [if_pos (by exact beq_self_eq_true _)]
  unfold excSub
  rw [show (c == c) = true from beq_self_eq_true c]
  rfl
theorem kit_other {K : PySem.W.Frag} {C C' : Addr} {c c' : Str} (ne : (Value.ref C == Value.ref C') = false) (hd : PySem.W.hasDictIn K C' = true) (ht : PySem.W.typeIn K (.ref C') = some (.type "type")) (hs : PySem.W.subIn K (.ref C) (.ref C') = some false) (e : excSub c c' = false := by decide +kernel) : PySem.W.kitOne K (.ref C) (.ref C') = some (excSub c c') := by
  obtain ⟨cd, hc, _⟩ := PySem.W.any_some hd
  unfold PySem.W.kitOne
  rw [if_neg (by rw [ne]; exact Bool.false_ne_true), e]
  show (if ((PySem.W.clsIn K C').isSome && PySem.W.typeIn K (.ref C') == some (.type "type")) = true then PySem.W.subIn K (.ref C) (.ref C') else none) = _
  rw [if_pos (by rw [hc, ht]; rfl)]
  exact hs
theorem kit_ve {K : PySem.W.Frag} {C : Addr} (hs : PySem.W.subIn K (.ref C) (.type "ValueError") = some true) : PySem.W.kitOne K (.ref C) (.type "ValueError") = some true := by
  unfold PySem.W.kitOne
  split
  · rfl
  · show (if PySem.W.kitMeta "ValueError" = true then PySem.W.subIn K (.ref C) (.type "ValueError") else none) = _
    rw [if_pos (by decide +kernel)]
    exact hs
def gIsiE (cs ts : List Str) : List D → Option W
  | [.nam true c, .nam false c'] => if c ∈ cs ∧ c' ∈ ts then some (.v (.bl (excSub c c'))) else none
  | [.nam true c, .ty u] => if c ∈ cs ∧ u = "ValueError" then some (.v (.bl true)) else none
  | _ => none
def rIsX (K : PySem.W.Frag) : List V → Hp → VK → Prop := fun xs H Q => ∃ (a C : Addr) (c : V) (cv : Value) (b : Bool), xs = [.ref a, c] ∧ ClsV c cv ∧ H a = some (CaO C a) ∧ ExcC K C ∧ PySem.W.kitOne K (.ref C) cv = some b ∧ Q (.bl b) H
theorem call_isX {X : Cx} : CallR X (.builtin "isinstance") (rIsX X.K) := by
  intro pins s σ H xs us Q I r h
  obtain ⟨a, C, c, cv, b, rfl, k, ha, eC, e, q⟩ := h
  obtain ⟨u1, u2, rfl, r1, r2⟩ := vals2 r
  cases (show u1 = Value.ref a from r1)
  have e2 := k.eq r2
  subst e2
  obtain ⟨⟨oe, vs, hget, hz, hv⟩, _, _⟩ := (show ObjOk X.prog X.w H s.heap a (CaO C a) from I.hok a _ ha)
  have J : PySem.W.InstAt s.heap a oe C none := by
    obtain ⟨oc, od, oda, osl⟩ := oe
    obtain ⟨z1, z2⟩ := hz
    simp only at z1 z2 hv
    subst z1 z2 hv
    exact ⟨hget, rfl, rfl, trivial⟩
  exact PySem.W.kia_one (PySem.W.handS_kitx_exc eC.hg eC.hk eC.hs eC.hd eC.ha eC.hn eC.ht eC.hm) I.kIn J e (fun z => nomatch z) fun tk => ⟨.bl b, H, I.tok tk, rfl, q⟩
theorem cd_isX {K : PySem.W.Frag} {cs ts : List Str} (T : ExcTab K cs ts) : CaD K (rIsX K) (gIsiE cs ts) := by
  intro F H vs ds w Q e vw hg q
  unfold gIsiE at hg
  split at hg
  · rename_i c c'
    obtain ⟨x, y, rfl, hx, hy⟩ := vw.two
    split at hg
    · rename_i hm
      cases hg
      cases (show RepD K F x (.nam true c) from hx) with
      | @exn a C _ hn ha =>
        cases (show RepD K F y (.nam false c') from hy) with
        | @glob C' _ hn' => exact ⟨a, C, _, .ref C', _, rfl, .own C', e _ _ ha, (T.cls c hm.1 C hn).1, T.sub c hm.1 c' hm.2 C C' hn hn', fin_bl e q⟩
    · cases hg
  · rename_i c u
    obtain ⟨x, y, rfl, hx, hy⟩ := vw.two
    split at hg
    · rename_i hm
      cases hg
      cases (show RepD K F x (.nam true c) from hx) with
      | @exn a C _ hn ha =>
        obtain ⟨hc, rfl⟩ := hm
        cases (show RepD K F y (.ty "ValueError") from hy)
        exact ⟨a, C, _, .type "ValueError", _, rfl, .ty _, e _ _ ha, (T.cls c hc C hn).1, (T.cls c hc C hn).2, fin_bl e q⟩
    · cases hg
  · cases hg

/-! ### list.count of bools -/
def eqb (k : Bool) (v : Value) : Bool := match v with
  | .bool n => n == k
  | _ => false
def gCntB : List D → Option W
  | [.lst ds, .bl k] => (blsOf ds).map fun ns => .v (.int ((ns.count k : Nat) : Int))
  | _ => none
def rCntB (K : PySem.W.Frag) : V → List V → Hp → VK → Prop := fun x xs H Q => ∃ (p : Addr) (ns : List Bool) (k : Bool), x = .ref p ∧ xs = [.bl k] ∧ SqL K H p (ns.map V.bl) ∧ Q (.int (ns.count k : Nat)) H
theorem vals_bls : ∀ {ns : List Bool} {us : List Value}, Vals (ns.map V.bl) us → us = ns.map Value.bool
  | [], _, .nil => rfl
  | n :: ns, _, .cons r t => by
    rw [vals_bls t]
    cases (show _ = Value.bool n from r)
    rfl
theorem mt_bcount {X : Cx} : MtR X "list.count" (rCntB X.K) := by
  intro pins s σ H x xs v us Q I rx rxs h
  obtain ⟨p, ns, k, rfl, rfl, hs, q⟩ := h
  cases rx
  obtain ⟨u, rfl, ru⟩ := rxs.one
  cases (show u = Value.bool k from ru)
  obtain ⟨its, rv, ⟨⟨cls, dd, data, sl⟩, n, ho, hc, hdn, hd⟩, hlen⟩ := I.list hs
  simp only at hc hd
  subst hc hd
  have hi := vals_bls rv
  subst hi
  refine call_meets PySem.F.slot_list_count ⟨_, ho, rfl⟩ PySem.F.entry_list_count (PySem.F.args_list_count_2 _ _) (SeqAt.list_countAt p (ns.map Value.bool).toArray n dd sl (.bool k) (eqb k)) ⟨ho, fun y hy => ?_, ?_⟩
  · have hy : y ∈ ns.map Value.bool := by simpa using hy
    obtain ⟨b, _, rfl⟩ := List.mem_map.mp hy
    exact SeqAt.EqAt.bool_bool b k
  · have ec : (ns.map Value.bool).countP (eqb k) = ns.count k := by
      rw [List.countP_map]
      rfl
    refine ⟨.int (ns.count k : Nat), H, I.tok _, ⟨s.toks, ?_⟩, q⟩
    show Value.int (((ns.map Value.bool).countP (eqb k) : Nat) : Int) s.toks = Value.int ((ns.count k : Nat) : Int) s.toks
    rw [ec]
theorem bls_rep {K : PySem.W.Frag} {F : Hp} : ∀ {vs : List V} {ns : List Bool}, RepDs K F vs (ns.map D.bl) → vs = ns.map V.bl
  | _, [], .nil => rfl
  | _, n :: r, .cons (.bl _) t => by rw [List.map_cons, ← bls_rep t]
theorem cd_cntB {K : PySem.W.Frag} : CaD K (rM (rCntB K)) gCntB := by
  intro F H vs ds w Q e vw hg q
  unfold gCntB at hg
  split at hg
  · rename_i xs k
    obtain ⟨x, y, rfl, hx, hy⟩ := vw.two
    obtain ⟨ns, h1, rfl⟩ := Option.map_eq_some_iff.mp hg
    obtain ⟨a, us, rfl, h2, r⟩ := hx.lst
    rw [blsOf_eq h1] at r
    have := bls_rep r
    subst this
    exact ⟨_, _, rfl, a, ns, k, rfl, by rw [hy.bl], .inl h2, fin_int e q⟩
  · cases hg

/-! ### try .. except x as n: y = n -/
structure CatTab (K : PySem.W.Frag) (mg : Str → Option Value) (x : Str) (cs : List Str) : Prop where
  ex : ∃ C0 : Addr, mg x = some (.ref C0) ∧ ∀ c ∈ cs, ∃ C : Addr, PySem.W.nsIn K mainGlobals c = some (some (.ref C)) ∧ mg c = some (.ref C) ∧ PySem.W.exmOne K (.ref C) (.ref C0) = some true
def clrS (i : Nat) (env : DEnv) : Option DEnv := match env[i]? with
  | some (some (.l true _)) => none
  | some _ => some (env.set i none)
  | none => none
/-- i: the clause's name; j: the name that keeps it -/
def sTry (cs : List Str) (i j : Nat) (fb : M Fl) : M Fl := fun env => match fb env with
  | .raise c e1 => if c ∈ cs then (match setS j (.v (.nam true c)) e1 with
      | some e2 => (match clrS i e2 with
        | some e3 => .ok .next e3
        | none => .stuck)
      | none => .stuck) else .stuck
  | r => r
theorem clrS_ok {K : PySem.W.Frag} {F H : Hp} {σ : L2.St} {env env' : DEnv} {own : Nat → Fp} {i : Nat} (S : Sit K F σ H env own) (h : clrS i env = some env') : ∃ own', Sit K F (σ.set i none) H env' own' ∧ ∀ a, all own' a → all own a := by
  have hi : i < env.length ∧ env' = env.set i none := by
    unfold clrS at h
    split at h
    · cases h
    · rename_i x hx
      cases h
      exact ⟨(List.getElem?_eq_some_iff.mp hx).1, rfl⟩
    · cases h
  obtain ⟨hi, rfl⟩ := hi
  have hσ : i < σ.length := by rw [← S.len]; exact hi
  refine ⟨fun j a => j ≠ i ∧ own j a, ⟨S.ex, by rw [List.length_set, List.length_set]; exact S.len, fun j w e => ?_, fun j a z => ?_, fun j k a z1 z2 => S.dis j k a z1.2 z2.2⟩, fun a ⟨j, z⟩ => ⟨j, z.2⟩⟩
  · have hj : j ≠ i := fun z => by
      subst z
      rw [List.getElem?_set_self hi] at e
      cases e
    rw [List.getElem?_set_ne (Ne.symm hj)] at e
    obtain ⟨v, h1, h2⟩ := S.rep j w e
    refine ⟨v, by rw [List.getElem?_set_ne (Ne.symm hj)]; exact h1, ?_⟩
    have e3 : (fun a => j ≠ i ∧ own j a) = own j := funext fun a => propext ⟨fun z => z.2, fun z => ⟨hj, z⟩⟩
    rw [e3]
    exact h2
  · obtain ⟨w, e⟩ := S.emp j a z.2
    exact ⟨w, by rw [List.getElem?_set_ne (Ne.symm z.1)]; exact e⟩

section
variable {X : Cx} {pins : List (Addr × Obj)} {σ : L2.St} {H : Hp} {s : Shared}
/-- an object that nothing of ours knows is known from now on -/
theorem inv_adopt {a : Addr} {o : HO} (I : Inv X pins σ H s) (na : H a = none) (n0 : X.s_0.heap.get? a = none) (nL : a ≠ X.env.locals) (nC : ∀ y c, X.env.cells.lookup y = some c → c ≠ a) (np : ∀ p ∈ X.pn ++ pins, p.1 ≠ a)
    (no : ∀ b, o ≠ .own b) (h : ObjOk X.prog X.w (upd H a o) s.heap a o) : Inv X pins σ (upd H a o) s where
  ok := I.ok
  os := I.os
  bare := I.bare
  base := { keep := I.base.keep, slot := I.base.slot, there := I.base.there
            free := fun b u q n x => by
              have ne : b ≠ a := fun z => by rw [z, n0] at q; cases q
              rw [upd_ne ne]
              exact I.base.free b u q n x
            tups := fun b xs q => by
              have r := I.base.tups b xs q
              rw [upd_ne (ne_of_none r na)]
              exact r
            frzs := fun b u xs q => by
              have r := I.base.frzs b u xs q
              rw [upd_ne (ne_of_none r na)]
              exact r
            tbls := fun b ps q => by
              obtain ⟨m, r⟩ := I.base.tbls b ps q
              exact ⟨m, by rw [upd_ne (ne_of_none r na)]; exact r⟩ }
  loc := I.loc
  cell := I.cell
  free := by rw [upd_ne (Ne.symm nL)]; exact I.free
  freeC := fun y c e => by rw [upd_ne (nC y c e)]; exact I.freeC y c e
  pin := fun p hp => by
    obtain ⟨h1, h2, h3⟩ := I.pin p hp
    exact ⟨h1, by rw [upd_ne (np p hp)]; exact h2, h3⟩
  hok := fun b u e => by
    by_cases hb : b = a
    · subst hb
      rw [upd_same] at e
      cases e
      exact h
    · rw [upd_ne hb] at e
      refine (I.hok b u e).stay (fun _ _ _ q => q) (fun c q => ?_) fun c xs q => ?_
      · rw [upd_ne (ne_of_none q na)]; exact q
      · rw [upd_ne (ne_of_none q na)]; exact q
  len := I.len
end

section
variable {X : Cx} {Wx : WX} {x n y : Str} {i j : Nat} {is : List Nat} {cs : List Str} {body : List Stmt} {fb : M Fl} {np p1 p2 p3 pos pos' : Pos}
/-- what is wished for where the body raises -/
def wKeep (mg : Str → Option Value) (cs : List Str) (i j : Nat) (D : Ends) : WX := fun cls d σ H => d = none ∧ ∃ c C, c ∈ cs ∧ cls = .ref C ∧ mg c = some (.ref C) ∧ ∀ a, H a = none → D.nx ((σ.set j (some (.ref a))).set i none) (upd H a (CaO C a))
theorem s_try (hs : X.stack = X.env :: X.outer) (hf : X.env.frame = some X.env.locals) (hex : X.ex = []) (hN : X.N.Nodup) (hi : X.N[i]? = some n) (hln : X.env.kindOf n = some .local) (hj : X.N[j]? = some y) (hlj : X.env.kindOf y = some .local) (hij : i ≠ j) (hg : Gl X x) (ct : CatTab X.K X.mg x cs)
    (hb : ∀ (W : WX) (pn : List (Addr × Obj)) (xe : Value → Shared → Prop), Takes (X.tr pn xe) W → PassesOwn (model X.prog X.w) X.A X.env xe → SsS (X.tr pn xe) W body is fb)
    (hdb : (x == ("__debug__" : Str)) = false := by decide) (hdn : (n == ("__debug__" : Str)) = false := by decide) (hcn : (n == ("__classdict__" : Str)) = false := by decide)
    (hsw : swapsWith (.Name n p2) (some (.Name y p1)) p3.line X.env = pure false := by rfl) :
    StS X Wx (.Try body [.ExceptHandler (some (.Name x np)) (some n) [.Assign [.Name y p1] (.Name n p2) p3] pos'] [] [] pos) (is ++ [j, i]) (sTry cs i j fb) := by
  obtain ⟨C0, hC0, hcs⟩ := ct.ex
  refine ⟨fun pins s σ H D I h => ?_⟩
  obtain ⟨F, env, own, S, h⟩ := h
  have ok := I.ok
  have hfr : X.A.frames = some (X.env :: X.outer) := by rw [ok.frames, hs]
  have hbody : sOf X.K X.mg (wKeep X.mg cs i j D) is fb D σ H := by
    refine ⟨F, env, own, S, ?_⟩
    unfold sTry at h
    cases e : fb env with
    | stuck => rw [e] at h; exact h
    | ok fl e1 =>
      rw [e] at h
      cases fl with
      | next => exact fun σ' F' H' own' o r => h σ' F' H' own' (o.left _) r
      | brk => exact fun σ' F' H' own' o r => h σ' F' H' own' (o.left _) r
      | cont => exact fun σ' F' H' own' o r => h σ' F' H' own' (o.left _) r
      | ret u => exact fun v σ' F' H' own' p o r => h v σ' F' H' own' p (o.left _) r
    | raise c e1 =>
      rw [e] at h
      dsimp only at h
      by_cases hc : c ∈ cs
      · rw [if_pos hc] at h
        cases e2 : setS j (.v (.nam true c)) e1 with
        | none => rw [e2] at h; exact h.elim
        | some env2 =>
          rw [e2] at h
          dsimp only at h
          cases e3 : clrS i env2 with
          | none => rw [e3] at h; exact h.elim
          | some env3 =>
            rw [e3] at h
            intro C σ' F' H' own' o mgC O
            refine ⟨rfl, c, C, hc, rfl, mgC, fun a na => ?_⟩
            obtain ⟨C', hns, mgC', _⟩ := hcs c hc
            have eC : C' = C := by rw [mgC'] at mgC; cases mgC; rfl
            subst eC
            have g := Grow.data (o := CaO C' a) O.S.ex na
            have S1 := g.sit O.S
            obtain ⟨own2, S2, k2⟩ := setS_ok (v := .ref a) (w := .v (.nam true c)) S1 (p := fun _ => False) ⟨fun _ z => z, RepD.exn hns upd_same⟩ (fun _ z => z.elim) e2
            obtain ⟨own3, S3, k3⟩ := clrS_ok S2 e3
            refine h _ _ _ own3 (o.trans ((Only.set (i := j)).trans (Only.set (i := i)))) ⟨S3, O.s.trans ((g.step own').sub fun b z => ?_)⟩
            exact (k2 b (k3 b z)).elim Or.inl fun z => z.elim
      · rw [if_neg hc] at h
        exact h.elim
  refine wpAny_Try_except ?_
  refine wpAny_mono ((hb (wKeep X.mg cs i j D) (X.pn ++ pins) (fun ev t1 => wpAny (model X.prog X.w) X.A (noteFrame ev X.env) (fun _ t2 => wpAny (model X.prog X.w) X.A (setFlight ev none) (fun _ t3 =>
    wpAny (model X.prog X.w) X.A (handleBy ev X.env [.ExceptHandler (some (.Name x np)) (some n) [.Assign [.Name y p1] (.Name n p2) p3] pos']) (SP X pins D) X.xe t3) X.xe t2) X.xe t1) (fun u t xx => ?_) PassesOwn.looking).run [] s σ H D (I.toTry _) hbody) (fun fl t hsp => ?_) (fun _ _ z => z)
  · obtain ⟨a, B, sI, pi, σ1, H1, cls, dd, rfl, J1, nb, up, sky, na, os, ag, rfl, c, C, hc, rfl, mgC, hnx⟩ := xx
    obtain ⟨C', hns, mgC', hexm⟩ := hcs c hc
    have eC : C' = C := by rw [mgC'] at mgC; cases mgC; rfl
    subst eC
    have J : Inv X pins σ1 H1 sI := J1.ofTry ok
    rw [show (X.tr (X.pn ++ pins) (fun ev t1 => wpAny (model X.prog X.w) X.A (noteFrame ev X.env) (fun _ t2 => wpAny (model X.prog X.w) X.A (setFlight ev none) (fun _ t3 => wpAny (model X.prog X.w) X.A (handleBy ev X.env [.ExceptHandler (some (.Name x np)) (some n) [.Assign [.Name y p1] (.Name n p2) p3] pos']) (SP X pins D) X.xe t3) X.xe t2) X.xe t1)).stack = X.env :: X.outer from hs] at sky
    have nb' : ∀ b o, sI.heap.get? b = some o → b ∉ frs (X.env :: X.outer) → B.get? b = some o := fun b o q z => nb b o q (by rw [show (X.tr (X.pn ++ pins) _).stack = X.env :: X.outer from hs]; exact z)
    refine Sky.land Zc.steady hfr hf sky fun g1 w1 v1 => ?_
    have K1 : Inv X pins σ1 H1 { t with heap := g1 } := J.landed nb w1.1 (up.trans v1) os ag
    obtain ⟨o1, a1, q1, z1, d1⟩ := w1.there
    have nfr : a ∉ frs (X.env :: X.outer) := fun hm => by
      obtain ⟨_, o', e', hnf⟩ := w1.2.2.1.mem hm
      rw [q1] at e'
      cases e'
      exact hnf _ d1
    have nL : a ≠ X.env.locals := fun z => nfr (List.mem_filterMap.mpr ⟨X.env, List.mem_cons_self, by rw [hf, z]⟩)
    have nF : a ∉ X.fs := fun hm => by
      obtain ⟨ev, he, q⟩ := List.mem_filterMap.mp hm
      exact nfr (List.mem_filterMap.mpr ⟨ev, List.mem_cons_of_mem _ he, q⟩)
    have nB : B.get? a = none := w1.2.1
    have nI : sI.heap.get? a = none := by
      cases q : sI.heap.get? a with
      | none => rfl
      | some o => rw [nb' a o q nfr] at nB; cases nB
    have n0 : X.s_0.heap.get? a = none := by
      cases q : X.s_0.heap.get? a with
      | none => rfl
      | some o =>
        obtain ⟨o', q'⟩ := J.base.there a o q (by rw [hex]; exact List.not_mem_nil)
        rw [nI] at q'
        cases q'
    have npn : ∀ p ∈ X.pn ++ pins, p.1 ≠ a := fun p hp z => by
      have q := (J.pin p hp).1
      rw [z, nI] at q
      cases q
    have nC : ∀ v c, X.env.cells.lookup v = some c → c ≠ a := fun v c q z => by
      obtain ⟨u, r⟩ := J.cell v c q
      obtain ⟨o, r1, _⟩ := r
      rw [z, nI] at r1
      cases r1
    refine wpAny_handleBy_cons (codeAny_handlers_test ?_) (by intro q; cases q)
    have typ : PySem.W.Looks (model X.prog X.w) g1 (typeOf (.ref a)) (.ref C') := fun A Q E s k q => wpAny_typeOf_ref (k _ _ q1) (by rw [z1.1]; exact q)
    have mat := PySem.W.exm_one (M := model X.prog X.w) K1.kIn typ hexm
    refine ld_glob (X := X.suite a ((a, o1) :: (X.pn ++ pins))) (K1.suite q1 d1 na nL nF) hg hC0 (mat.here ?_) hdb
    refine codeAny_handlers_suite_as ?_
    refine HandSPX.lands_againZ w1 fun g2 w2 v2 => ?_
    have K2 : Inv X pins σ1 H1 { t with heap := g2 } := J.landed nb w2.1 ((up.trans v1).trans v2) os ag
    obtain ⟨o2, a2, q2, z2, d2⟩ := w2.there
    refine store_ok (X := X.suite a ((a, o2) :: (X.pn ++ pins))) (v := .ref a) (K2.suite q2 d2 na nL nF) hN hi (.inl hln) rfl (fun t5 K5 => ?_) (.inr hln)
    have hset : PSs (X.suite a ((a, o2) :: (X.pn ++ pins))) [.Assign [.Name y p1] (.Name n p2) p3] (tAsg (tVar i) (gName j)) := pss_one (ps_set hN hj (.inl hlj) (pe_var hi (.inl hln) hdn hcn) hsw (.inr hlj))
    have hil : i < σ1.length := by rw [J.len]; exact (List.getElem?_eq_some_iff.mp hi).1
    refine wpAny_mono (hset.run [] t5 _ H1 { nx := fun σ6 H6 => σ6 = (σ1.set i (some (.ref a))).set j (some (.ref a)) ∧ H6 = H1, rt := fun _ _ => False } K5 ?_) (fun fl t6 hsp => ?_) (fun _ _ z => z.elim)
    · exact ⟨.ref a, List.getElem?_set_self hil, rfl, rfl⟩
    · cases fl with
      | next =>
        obtain ⟨σ6, H6, K6, rfl, rfl⟩ := hsp
        obtain ⟨g6, _⟩ := K6.pin (a, o2) (List.mem_append_left _ List.mem_cons_self)
        have K7 := inv_adopt (a := a) (o := CaO C' a) (K6.unsuite ok) na n0 nL nC npn (fun b z => by cases z) (caO_ok g6 z2 d2)
        refine gone_ok K7 hN hi hln fun t8 K8 => ⟨_, _, K8, ?_⟩
        have es : ((σ1.set i (some (V.ref a))).set j (some (.ref a))).set i none = (σ1.set j (some (.ref a))).set i none := by
          rw [List.set_comm _ _ hij, List.set_set]
        rw [es]
        exact hnx a na
      | brk => obtain ⟨_, _, _, z⟩ := hsp; exact z.elim
      | cont => obtain ⟨_, _, _, z⟩ := hsp; exact z.elim
      | ret u => obtain ⟨_, _, _, _, _, z⟩ := hsp; exact z.elim
  · cases fl with
    | next =>
      obtain ⟨σ', H', K', q⟩ := hsp
      exact wpAny_execs_nil ⟨σ', H', K'.ofTry ok, q⟩
    | brk =>
      obtain ⟨σ', H', K', q⟩ := hsp
      exact ⟨σ', H', K'.ofTry ok, q⟩
    | cont =>
      obtain ⟨σ', H', K', q⟩ := hsp
      exact ⟨σ', H', K'.ofTry ok, q⟩
    | ret u =>
      obtain ⟨v, σ', H', K', r, q⟩ := hsp
      exact ⟨v, σ', H', K'.ofTry ok, r, q⟩
end
end DL

/-! e[::-1] of lists and tuples -/
namespace DL
open PySem PySem.Spec PyProof.Rows L2

section
variable {prog : Program} {w : World} {A : Around} {E : Value → Shared → Prop} {s : Shared}
theorem adjust_rev (n : Nat) : Builtin.Slice.sliceAdjust none none (-1) (n : Int) = ((n : Int) - 1, -1) := by
  unfold Builtin.Slice.sliceAdjust
  simp
theorem places_rev (n : Nat) : Builtin.Slice.slicePlaces ((n : Int) - 1) (-1) (-1) = n := by
  unfold Builtin.Slice.slicePlaces
  have h1 : ¬ ((-1 : Int) > 0) := by decide
  rw [if_neg h1]
  by_cases h : (n : Int) - 1 > -1
  · rw [if_pos h, show (- -1 : Int) = 1 by decide, Int.ediv_one]
    omega
  · rw [if_neg h]
    omega
theorem applied_rev {sl : Addr} {t : Tok} {n : Nat} {Q : Int × Int × Nat → Shared → Prop} (hs : s.heap.IsSliceOf sl .none .none (.int (-1) t)) (h : Q ((n : Int) - 1, -1, n) s) : wpAny (model prog w) A (Builtin.Slice.sliceApplied (.ref sl) (pure (n : Int))) Q E s := by
  obtain ⟨os, hos, hcs, hds⟩ := id hs
  unfold Builtin.Slice.sliceApplied Builtin.Slice.sliceFields
  refine wpAny_bind (wpAny_bind (wpAny_field hos hds (x := .none) rfl (wpAny_bind (wpAny_field hos hds (x := .none) rfl (wpAny_bind (wpAny_field hos hds (x := .int (-1) t) rfl (wpAny_pure ?_)))))))
  refine wpAny_bind (slicePart_int ?_)
  show wpAny _ _ (if ((-1 : Int) == 0) = true then _ else _) _ _ s
  rw [if_neg (by decide)]
  refine wpAny_bind (slicePart_none (wpAny_bind (slicePart_none (wpAny_bind (wpAny_pure ?_)))))
  show wpAny _ _ (match Builtin.Slice.sliceAdjust none none (-1) (n : Int) with | (lo, hi) => pure (lo, (-1 : Int), Builtin.Slice.slicePlaces lo hi (-1))) _ _ s
  rw [adjust_rev n]
  show wpAny _ _ (pure ((n : Int) - 1, (-1 : Int), Builtin.Slice.slicePlaces ((n : Int) - 1) (-1) (-1))) _ _ s
  rw [places_rev]
  exact wpAny_pure h
theorem pick_rev (xs : Array Value) : ((List.range xs.size).filterMap fun (m : Nat) => xs[(((xs.size : Int) - 1) + (m : Int) * -1).toNat]?).toArray = xs.toList.reverse.toArray := by
  have e : (List.range xs.size).filterMap (fun (m : Nat) => xs[(((xs.size : Int) - 1) + (m : Int) * -1).toNat]?) = ((List.range xs.size).map fun k => xs.size - 1 - k).filterMap (xs[·]?) := by
    rw [List.filterMap_map]
    congr 1
    funext m
    show xs[(((xs.size : Int) - 1) + (m : Int) * -1).toNat]? = xs[xs.size - 1 - m]?
    rw [show (((xs.size : Int) - 1) + (m : Int) * -1).toNat = xs.size - 1 - m by omega]
  rw [e, PySem.W.krv_range, List.filterMap_reverse, PySem.W.krv_all]
theorem getItem_tuple_rev {t sl : Addr} {items : Array Value} {tk : Tok} {Q : Value → Shared → Prop} (ht : IsTup s.heap t items) (hs : s.heap.IsSliceOf sl .none .none (.int (-1) tk))
    (h : Q (.ref s.heap.objs.size) { s with heap := s.heap.push { cls := .type "tuple", data := .seq items.toList.reverse.toArray } }) (hsz : items.size ≤ sizeLine) : wpAny (model prog w) A (getItem (.ref t) (.ref sl)) Q E s := by
  have hok : sizeOk (.seq items.toList.reverse.toArray) := by
    show items.toList.reverse.toArray.size ≤ sizeLine
    rw [List.size_toArray, List.length_reverse, Array.length_toList]
    exact hsz
  obtain ⟨os, hos, hcs, hds⟩ := id hs
  have hTs : s.TypeIs (.ref sl) "slice" := ⟨os, hos, hcs⟩
  unfold getItem
  try with_reducible refine wpAny_holding ?_
  first | refine wpAny_bind (wpAny_pure ?_) | skip
  refine wpAny_bind (wpAny_sequenceKey ht.typeIs (by decide) ?_)
  refine wpAny_bind (wpAny_callSpecial?_slot (name := Str.ofString "__getitem__") ht.typeIs PyProof.Rows.slot_tuple_getitem
    (wpAny_call_entry PyProof.Rows.slot_tuple_getitem ht.typeIs entry_tuple_getitem ?_ (args_tuple_getitem _ _)))
  show wpAny _ _ (Builtin.Tuple.tupleItemsOf (.ref t) >>= _) _ _ s
  refine wpAny_bind (tupleItemsOf_ ht ?_)
  refine wpAny_bind (wpAny_typeOf hTs ?_)
  rw [if_pos (by decide)]
  refine wpAny_bind (applied_rev hs ?_)
  have hno : ¬ ((((items.size : Int) - 1) == 0 && (-1 : Int) == 1 && items.size == items.size) = true) := by
    intro q
    rw [Bool.and_eq_true, Bool.and_eq_true] at q
    exact absurd q.1.2 (by decide)
  show wpAny _ _ (if (((items.size : Int) - 1) == 0 && (-1 : Int) == 1 && items.size == items.size) = true then _ else _) _ _ s
  rw [if_neg hno, pick_rev]
  first
    | exact wpAny_bind (m := Builtin.Tuple.tupleExact _) (wpAny_newObj_type (wpAny_pure ⟨_, rfl, wpAny_pure h⟩) hok)
    | exact wpAny_bind (m := Builtin.Tuple.tupleExact _) (wpAny_newObj_type (wpAny_bind (wpAny_pure (wpAny_pure ⟨_, rfl, wpAny_pure h⟩))) hok)
    | exact wpAny_bind (wpAny_bind (m := Builtin.Tuple.tupleExact _) (wpAny_newObj_type (wpAny_pure (wpAny_pure ⟨_, rfl, wpAny_pure h⟩)) hok))
    | exact wpAny_bind (wpAny_bind (m := Builtin.Tuple.tupleExact _) (wpAny_newObj_type (wpAny_pure ⟨_, rfl, wpAny_pure h⟩) hok))
end
theorem vals_reverse : ∀ {xs : List V} {us : List Value}, Vals xs us → Vals xs.reverse us.reverse
  | _, _, .nil => .nil
  | _, _, .cons r t => by
    rw [List.reverse_cons, List.reverse_cons]
    exact (vals_reverse t).append (.cons r .nil)
def rRev (K : PySem.W.Frag) (x : V) (H : Hp) (Q : VK) : Prop := ∃ a xs, x = .ref a ∧ ((SqL K H a xs ∧ ∀ p, H p = none → Q (.ref p) (upd H p (.lst xs.reverse))) ∨ (SqT K H a xs ∧ ∀ p, H p = none → Q (.ref p) (upd H p (.tup xs.reverse))))
section
variable {X : Cx} {Wx : WX} {e st : Expr} {te : TE} {fe : M U} {pos p2 q1 q2 : Pos} {j : Nat}
theorem pe_rev (he : PE X e te) (hst : PE X st (tC (.int (-1)))) : PE X (.Subscript e (.Slice none none (some st) p2) pos) (fun σ H Q => te σ H fun x H1 => rRev X.K x H1 Q) := by
  refine ⟨fun pins s σ H Q I h => ?_⟩
  refine Subscript_ (thn (he.run pins s σ H _ I h) fun v s1 ⟨x, H1, I1, r1, q1⟩ => ?_)
  refine wpAny_Slice ?_
  rw [evalPart_none]
  refine wpAny_pure (wpAny_pure ?_)
  rw [evalPart_some]
  refine thn (hst.run pins s1 σ H1 (fun y H2 => y = .int (-1) ∧ H2 = H1) I1 ⟨rfl, rfl⟩) fun u s3 hu => ?_
  obtain ⟨y, H3, I3, r3, rfl, rfl⟩ := hu
  obtain ⟨tk, rfl⟩ := r3
  have I4 : Inv X pins σ H3 { s3 with heap := s3.heap.push { cls := .type "slice", data := .fields #[.none, .none, .int (-1) tk] } } := I3.kept (t' := s3.toks) fun b ob q => Heap.get?_push_of_some _ q
  obtain ⟨a, xs, rfl, hq⟩ := q1
  cases r1
  show wpAny (model X.prog X.w) X.A (subscriptTail e (.Slice none none (some st) p2) (.ref a) (.ref s3.heap.objs.size)) (EP X pins σ Q) X.xe { s3 with heap := s3.heap.push { cls := .type "slice", data := .fields #[.none, .none, .int (-1) tk] } }
  have hsl : ({ s3 with heap := s3.heap.push { cls := .type "slice", data := .fields #[.none, .none, .int (-1) tk] } } : Shared).heap.IsSliceOf s3.heap.objs.size .none .none (.int (-1) tk) := Heap.IsSliceOf.new ..
  generalize ({ s3 with heap := s3.heap.push { cls := .type "slice", data := .fields #[.none, .none, .int (-1) tk] } } : Shared) = s4 at *
  rcases hq with ⟨hl, q⟩ | ⟨ht, q⟩
  · obtain ⟨its, r, hi, hz⟩ := I4.list hl
    have hlen := r.length
    refine tail_any (ops := [.ref a, .ref s3.heap.objs.size]) hi.isList.typeIs slot_list_getitem.lookup ?_ (by with_unfolding_all rfl)
    refine wpAny_getItem_list_slice hi.isList hsl .none .none (.int (-1) tk) (by simp) ?_ (by rw [List.size_toArray] <;> omega)
    rw [PySem.W.krv_pick]
    refine ⟨.ref s4.heap.objs.size, _, I4.laid (t' := s4.toks) (o := .lst xs.reverse) (fun b ob q => Heap.get?_push_of_some _ q) (Nat.le_refl _) ?_, rfl, q _ (I4.hok.fresh (Nat.le_refl _))⟩
    exact ⟨by rw [List.length_reverse]; exact hz, its.reverse, 0, vals_reverse r, Heap.get?_push_size _ rfl⟩
  · obtain ⟨its, r, hi, hz⟩ := I4.tuple ht
    have hlen := r.length
    refine tail_any (ops := [.ref a, .ref s3.heap.objs.size]) hi.typeIs PyProof.Rows.slot_tuple_getitem.lookup ?_ (by with_unfolding_all rfl)
    refine getItem_tuple_rev hi hsl ?_ (by rw [List.size_toArray] <;> omega)
    refine ⟨.ref s4.heap.objs.size, _, I4.laid (t' := s4.toks) (o := .tup xs.reverse) (fun b ob q => Heap.get?_push_of_some _ q) (Nat.le_refl _) ?_, rfl, q _ (I4.hok.fresh (Nat.le_refl _))⟩
    exact ⟨by rw [List.length_reverse]; exact hz, its.reverse, vals_reverse r, IsTup.new _ _⟩
def gRev : List D → Option W
  | [.lst ds] => some (.l false ds.reverse)
  | [.tup ds] => some (.v (.tup ds.reverse))
  | _ => none
theorem cd_rev {K : PySem.W.Frag} : CaD K (fun vs H Q => ∃ x, vs = [x] ∧ rRev K x H Q) gRev := by
  intro F H vs ds w Q e vw hg q
  unfold gRev at hg
  split at hg
  · rename_i ds
    cases hg
    cases vw with
    | cons h1 h2 =>
      cases h2
      obtain ⟨a, us, rfl, h2, r⟩ := h1.lst
      exact ⟨_, rfl, a, us, rfl, .inl ⟨.inl h2, fin_lst e r.reverse q⟩⟩
  · rename_i ds
    cases hg
    cases vw with
    | cons h1 h2 =>
      cases h2
      obtain ⟨a, us, rfl, f1, h2, r⟩ := h1.tup e
      exact ⟨_, rfl, a, us, rfl, .inr ⟨h2, fin_tup e r.reverse q⟩⟩
  · cases hg
theorem pe_m1 : PE X (.UnaryOp .USub (.Constant (.int 1) j q1) q2) (tC (.int (-1))) := by
  exact PE.imp (pe_un un_neg pe_int) fun σ H Q h => ⟨1, rfl, h⟩
theorem e_rev (ha : EvS X Wx e fe) : EvS X Wx (.Subscript e (.Slice none none (some (.UnaryOp .USub (.Constant (.int 1) j q1) q2)) p2) pos) (opN gRev [fe]) :=
  PE.imp (pe_rev ha pe_m1) fun σ H Q h => tOf_mono (aOf_1 (aOf_op cd_rev h)) fun _ _ z => by
    obtain ⟨x, e, z⟩ := z
    cases e
    exact z
end
/-! ### tuple * 0 -/
theorem tuple_mul0 (l : Addr) (a : Value) (r : List Value) (n : Nat) (dd : Option Addr) (sl : Array (Option Value)) (u : Tok) :
    Meets (Builtin.«tuple.__mul__» ⟨[.ref l, .int 0 u], []⟩) (fun _ R s => s.heap.get? l = some { cls := .type "tuple", dict := dd, data := .seq (a :: r).toArray n, slots := sl } ∧ R (.ok (.ret (Value.ref s.heap.objs.size))) { s with heap := s.heap.push { cls := Value.type "tuple", data := Data.seq #[] }, toks := s.toks }) :=
  .of_wp fun prog w A R s h => by
    obtain ⟨hp, g, d, tk, os⟩ := s
    obtain ⟨hl, h⟩ := h
    have f1 := AutoSeq1.idx_int
    have c1 : ((a :: r).toArray.isEmpty || (0 : Int) == 1) = false := rfl
    have c2 : (decide ((0 : Int) ≤ 0) || (a :: r).toArray.isEmpty) = true := rfl
    wp_walk using wpAny_loadPart' hl
    repeat (first
      | (refine wpAny_ite_false (by decide) ?_; wp_walk using wpAny_loadPart' hl)
      | (refine wpAny_ite_false (decide_eq_false (by rw [c1]; exact Bool.false_ne_true)) ?_; wp_walk using wpAny_loadPart' hl)
      | (refine wpAny_ite_true (decide_eq_true c2) ?_; wp_walk using wpAny_loadPart' hl))
    exact ⟨_, rfl, h⟩
def rRepT0 (K : PySem.W.Frag) : R2 := fun x y H Q => ∃ l xs, x = .ref l ∧ y = .int 0 ∧ SqT K H l xs ∧ xs ≠ [] ∧ ∀ p, H p = none → Q (.ref p) (upd H p (.tup []))
theorem op_repT0 {X : Cx} : OpR X (binaryOp .Mult) (rRepT0 X.K) := by
  intro pins s σ H x y v u Q I rx ry h
  obtain ⟨l, xs, rfl, rfl, hT, hne, q⟩ := h
  cases rx
  obtain ⟨t, rfl⟩ := ry
  obtain ⟨its, r, ⟨⟨cls, dd, data, sl⟩, ho, hc, n, hd⟩, hs⟩ := I.tuple hT
  simp only at hc hd
  subst hc hd
  cases its with
  | nil => exact absurd (List.eq_nil_of_length_eq_zero r.length) hne
  | cons a its =>
    refine wpAny_binaryOp_repeat_ref (T := "tuple") (U := "int") (by decide) ⟨_, ho, rfl⟩ (fun s' => typeIs_int s' 0 t) noFill_tuple_mul F.fills_int_mul F.slot_int_rmul repeat_tuple F.slot_int_index.lookup
      (call_meets F.slot_int_rmul (typeIs_int s 0 t) F.entry_int_rmul (F.args_int_rmul_2 _ _) (int_rmul_tuple 0 t l (a :: its).toArray n dd sl)
        ⟨ho, rfl, ⟨_, ho, rfl⟩, call_meets F.slot_tuple_mul ⟨_, ho, rfl⟩ F.entry_tuple_mul (F.args_tuple_mul_2 _ _) (tuple_mul0 l a its n dd sl t) ⟨ho, ?_⟩⟩)
    exact ⟨.ref s.heap.objs.size, _, I.laid (t' := s.toks) (o := .tup []) (fun b ob q => Heap.get?_push_of_some _ q) (Nat.le_refl _) ⟨Nat.zero_le _, [], .nil, IsTup.new _ _⟩, rfl, q _ (I.hok.fresh (Nat.le_refl _))⟩
def rMulZ (K : PySem.W.Frag) : R2 := fun x y H Q => rMulA K x y H Q ∨ rRepT0 K x y H Q
theorem op_mulZ {X : Cx} : OpR X (binaryOp .Mult) (rMulZ X.K) := op_mulA.or op_repT0
def gMulZ : List D → Option W
  | [.tup (d :: ds), .int k] => if k = 0 then some (.v (.tup [])) else gMul [.tup (d :: ds), .int k]
  | ds => gMul ds
theorem cd_mulZ {K : PySem.W.Frag} : CaD K (r2 (rMulZ K)) gMulZ := by
  intro F H vs ds w Q e vw hg q
  have key : gMul ds = some w → r2 (rMulZ K) vs H Q := fun h => by
    obtain ⟨x, y, e1, z⟩ := cd_mul F H vs ds w Q e vw h q
    exact ⟨x, y, e1, .inl z⟩
  unfold gMulZ at hg
  split at hg
  · rename_i d xs k
    by_cases hk : k = 0
    · rw [if_pos hk] at hg
      cases hg
      subst hk
      obtain ⟨x, y, rfl, hx, hy⟩ := vw.two
      obtain ⟨a, us, rfl, f1, h2, r⟩ := hx.tup e
      refine ⟨_, _, rfl, .inr ⟨a, us, rfl, hy.int, h2, fun z => ?_, fin_tup e .nil q⟩⟩
      have := r.length
      rw [z] at this
      simp at this
    · rw [if_neg hk] at hg
      exact key hg
  · exact key hg
end DL

/-! A def that a name holds is called; what is never reached. -/
namespace DL
open PySem PySem.Spec PyProof.Rows L2
def callV (i : Nat) (tab : List (Str × (List W → RF))) (ms : List (Option Nat)) (fs : List (M U)) : M U := fun env => match env[i]? with
  | some (some (.v (.nam false c))) => (match tab.lookup c with
    | some g => callF g ms fs env
    | none => .stuck)
  | _ => .stuck
/-- what a caller knows of the defs that a name may hold -/
def Tab (P : Program) (w : World) (K : PySem.W.Frag) (mg : Str → Option Value) (base : Heap) (j : Nat) (n : Nat) (tab : List (Str × (List W → RF))) : Prop := ∀ c g, (c, g) ∈ tab → Nam K mg c ∧ ∃ ps, ps.length = n ∧ Cal P w K mg base j c ps g
theorem tab_nil {P : Program} {w : World} {K : PySem.W.Frag} {mg : Str → Option Value} {base : Heap} {j n : Nat} : Tab P w K mg base j n [] := fun _ _ h => by cases h
theorem tab_cons {P : Program} {w : World} {K : PySem.W.Frag} {mg : Str → Option Value} {base : Heap} {i j n : Nat} {c : Str} {g : List W → RF} {ps : List Str} {tab : List (Str × (List W → RF))} (N : Nam K mg c) (C : Cal P w K mg base i c ps g) (h : Tab P w K mg base j n tab) (hij : i ≤ j := by decide) (hn : ps.length = n := by rfl) : Tab P w K mg base j n ((c, g) :: tab) := fun c' g' hm => by
  rcases List.mem_cons.mp hm with e | hm
  · cases e
    exact ⟨N, ps, hn, C.mono hij⟩
  · exact h c' g' hm
theorem mem_of_lookup {tab : List (Str × (List W → RF))} {c : Str} {g : List W → RF} (h : tab.lookup c = some g) : (c, g) ∈ tab := by
  induction tab with
  | nil => cases h
  | cons q r ih =>
    obtain ⟨a, b⟩ := q
    rw [List.lookup_cons] at h
    cases e : c == a with
    | true =>
      rw [e] at h
      cases h
      rw [eq_of_beq e]
      exact List.mem_cons_self ..
    | false =>
      rw [e] at h
      exact List.mem_cons_of_mem _ (ih h)
section
variable {X : Cx} {Wx : WX} {i j k n : Nat} {x : Str} {p pos : Pos} {e : Expr} {es : List Expr} {fs : List (M U)} {ms : List (Option Nat)} {tab : List (Str × (List W → RF))}
theorem e_callV (T : Tab X.prog X.w X.K X.mg X.base j n tab) (tk : Takes X Wx) (hr : Room k X.A) (ha : EaS X Wx (e :: es) fs) (hjk : j ≤ k) (hN : X.N[i]? = some x := by rfl) (hv : Vis X.env.scope x := by first | exact Or.inl rfl | exact Or.inr (Or.inl rfl) | exact Or.inr (Or.inr rfl))
    (nd : (ms.filterMap id).Nodup := by decide) (hn : ms.length = n := by rfl) (hdb : (x == ("__debug__" : Str)) = false := by decide) (hcd : (x == ("__classdict__" : Str)) = false := by decide) (he : starEach (e :: es) X.env = (false, eval e X.env) :: starEach es X.env := by rfl) (hpl : (backTo pos (starEach es X.env)).any (·.1) = false := by rfl) :
    EvS X Wx (.Call (.Name x p) (e :: es) [] pos) (callV i tab ms fs) := by
  refine ⟨fun pins s σ H Q I h => ?_⟩
  obtain ⟨F, env, own, S, h⟩ := h
  unfold callV at h
  cases e1 : env[i]? with
  | none => rw [e1] at h; exact h.elim
  | some o =>
    rw [e1] at h
    cases o with
    | none => exact h.elim
    | some wv =>
      cases wv with
      | l b ds => exact h.elim
      | m ks ds => exact h.elim
      | x _ => exact h.elim
      | v d =>
        cases d with
        | nam b c =>
          cases b with
          | true => exact h.elim
          | false =>
            dsimp only at h
            cases e2 : tab.lookup c with
            | none => rw [e2] at h; exact h.elim
            | some g =>
              rw [e2] at h
              obtain ⟨N, ps, hps, C⟩ := T c g (mem_of_lookup e2)
              obtain ⟨f, fd, G, hm, hk, hb⟩ := C.ex
              obtain ⟨C', hm', hns⟩ := N.ex
              rw [hm] at hm'
              cases hm'
              obtain ⟨v, hs, _, rd⟩ := S.rep i _ e1
              have ev : v = .ref f := by
                cases rd with
                | @glob C2 _ hn2 =>
                  rw [hns] at hn2
                  cases hn2
                  rfl
              subst ev
              have ht := call_sem (ms := ms) (fs := fs) (g := g) (Wx := Wx) (K := X.K) (mg := X.mg) (n := ps.length) nd (by omega) (⟨F, env, own, S, h⟩ : tOf X.K X.mg Wx (callF g ms fs) σ H Q)
              refine wpAny_Call_Name_kw (thn ((pe_var (pos := p) hN hv hdb hcd).run pins s σ H (fun v H1 => v = .ref f ∧ H1 = H) I ⟨.ref f, hs, rfl, rfl⟩) fun u s1 z => ?_)
              obtain ⟨v, H1, I1, r1, rfl, rfl⟩ := z
              cases r1
              refine PySem.W.callWith_K (h₀ := X.base) I.ok.mod.kin hk (thn (ha.run pos pins s1 σ _ _ I1 ht) fun us s2 z => ?_) he hpl
              obtain ⟨vs, H2, I2, r, q⟩ := z
              exact ⟨I2.kIn, run_fnSD (E := fun σ c d H' => Wx c d σ H') G (hr.mono hjk) hb .nil (passAt tk σ) I2 r q⟩
        | _ => exact h.elim
/-- never reached -/
def eStuck : M U := fun _ => .stuck
def sStuck : M Fl := fun _ => .stuck
theorem e_stuck {e : Expr} : EvS X Wx e eStuck := ⟨fun pins s σ H Q I h => by
  obtain ⟨F, env, own, S, h⟩ := h
  exact h.elim⟩
theorem s_stuck {st : Stmt} {is : List Nat} : StS X Wx st is sStuck := ⟨fun pins s σ H Q I h => by
  obtain ⟨F, env, own, S, h⟩ := h
  exact h.elim⟩
end
end DL

/-! Dicts whose keys are tuples of ints. -/
namespace DL
open PySem PySem.Spec PyProof.Rows L2

/-! ### plain -/
def dGet : List (List Int) → List D → List Int → Option D
  | k' :: ks, d :: ds, k => if k' = k then some d else dGet ks ds k
  | _, _, _ => none
def dRep : List (List Int) → List D → List Int → D → List D
  | k' :: ks, d' :: ds, k, d => (if k' = k then d else d') :: dRep ks ds k d
  | _, _, _, _ => []
def dPutK (ks : List (List Int)) (k : List Int) : List (List Int) := if k ∈ ks then ks else ks ++ [k]
def dPutD (ks : List (List Int)) (ds : List D) (k : List Int) (d : D) : List D := if k ∈ ks then dRep ks ds k d else ds ++ [d]

/-! ### as HandS has it -/
theorem keyI_inj {k k' : List Int} : keyI k = keyI k' ↔ k = k' := by
  constructor
  · intro h
    unfold keyI at h
    exact (List.map_inj_right (fun a b z => by injection z)).mp h
  · intro h
    rw [h]
theorem keyI_kV (k : List Int) : (keyI k).map kV = k.map V.int := by
  unfold keyI
  rw [List.map_map]
  rfl
section
variable {K : PySem.W.Frag} {F : Hp}
theorem get_rep : ∀ {kvs : List (List Key × V)} {ks : List (List Int)} {ds : List D} (k : List Int), kvs.map (·.1) = ks.map keyI → RepDs K F (kvs.map (·.2)) ds → match dGet ks ds k with
    | some d => ∃ v, valV kvs (keyI k) = some v ∧ RepD K F v d
    | none => valV kvs (keyI k) = none
  | [], ks, ds, k, hk, r => by
    have hk : ks = [] := by cases ks with | nil => rfl | cons a b => simp at hk
    subst hk
    exact valV_nil
  | (k0, v0) :: kvs, ks, ds, k, hk, r => by
    cases ks with
    | nil => simp at hk
    | cons k' ks =>
      simp only [List.map_cons, List.cons.injEq] at hk r
      cases r with
      | @cons _ d _ ds' h t =>
        obtain ⟨e, hk⟩ := hk
        by_cases c : k' = k
        · subst c
          rw [show dGet (k' :: ks) (d :: ds') k' = some d by simp [dGet]]
          exact ⟨v0, valV_pos e, h⟩
        · have := get_rep k hk t
          rw [show dGet (k' :: ks) (d :: ds') k = dGet ks ds' k by simp [dGet, c]]
          have ne : ¬ (k0, v0).1 = keyI k := fun z => c (keyI_inj.mp (e.symm.trans z))
          split at this
          · rw [valV_neg ne]
            exact this
          · rw [valV_neg ne]
            exact this
theorem any_key : ∀ {kvs : List (List Key × V)} {ks : List (List Int)} (k : List Int), kvs.map (·.1) = ks.map keyI → (kvs.any fun kv => decide (kv.1 = keyI k)) = decide (k ∈ ks)
  | [], ks, k, hk => by
    have hk : ks = [] := by cases ks with | nil => rfl | cons a b => simp at hk
    subst hk
    rfl
  | q :: kvs, ks, k, hk => by
    cases ks with
    | nil => simp at hk
    | cons k' ks =>
      simp only [List.map_cons, List.cons.injEq] at hk
      rw [List.any_cons, any_key k hk.2, hk.1]
      by_cases c : k = k'
      · subst c
        simp
      · have : ¬ keyI k' = keyI k := fun z => c (keyI_inj.mp z).symm
        simp [this, c]
theorem put_rep {kvs : List (List Key × V)} {ks : List (List Int)} {ds : List D} (k : List Int) {v : V} {d : D} (hk : kvs.map (·.1) = ks.map keyI) (r : RepDs K F (kvs.map (·.2)) ds) (rv : RepD K F v d) :
    (putK kvs (keyI k) v).map (·.1) = (dPutK ks k).map keyI ∧ RepDs K F ((putK kvs (keyI k) v).map (·.2)) (dPutD ks ds k d) := by
  unfold putK dPutK dPutD
  rw [any_key k hk]
  by_cases c : k ∈ ks
  · rw [decide_eq_true c, if_pos rfl, if_pos c, if_pos c]
    clear c
    induction kvs generalizing ks ds with
    | nil =>
      have hk : ks = [] := by cases ks with | nil => rfl | cons a b => simp at hk
      subst hk
      cases r
      exact ⟨rfl, .nil⟩
    | cons q kvs ih =>
      cases ks with
      | nil => simp at hk
      | cons k' ks =>
        simp only [List.map_cons, List.cons.injEq] at hk r ⊢
        cases r with
        | @cons _ d0 _ ds' h t =>
          obtain ⟨i1, i2⟩ := ih hk.2 t
          have e1 : (if q.1 = keyI k then (q.1, v) else q).1 = q.1 := by split <;> rfl
          refine ⟨⟨e1.trans hk.1, i1⟩, ?_⟩
          rw [dRep]
          refine .cons ?_ i2
          by_cases c : k' = k
          · subst c
            rw [if_pos hk.1, if_pos rfl]
            exact rv
          · have ne : ¬ q.1 = keyI k := fun z => c (keyI_inj.mp (hk.1.symm.trans z))
            rw [if_neg ne, if_neg c]
            exact h
  · rw [decide_eq_false c, if_neg (by simp), if_neg c, if_neg c]
    rw [List.map_append, List.map_append, List.map_append, hk]
    exact ⟨rfl, r.append (.cons rv .nil)⟩
/-- a key, as HandS wants it -/
theorem key_rep {b : V} {es : List D} {k : List Int} (h : RepD K F b (.tup es)) (hi : intsOf es = some k) : ∃ a, b = .ref a ∧ F a = some (.tup ((keyI k).map kV)) := by
  cases h with
  | @tup a vs _ q r =>
    rw [intsOf_eq hi] at r
    have := r.ints
    subst this
    exact ⟨a, rfl, by rw [keyI_kV]; exact q⟩
end

/-! ### d[k], k in d -/
def gDGet : List D → Option W
  | [.dic ks ds, .tup es] => match intsOf es with
    | some k => (dGet ks ds k).map .v
    | none => none
  | _ => none
def gDIn : List D → Option W
  | [.tup es, .dic ks ds] => match intsOf es with
    | some k => some (.v (.bl (dGet ks ds k).isSome))
    | none => none
  | _ => none
def gDNotIn : List D → Option W
  | [.tup es, .dic ks ds] => match intsOf es with
    | some k => some (.v (.bl (!(dGet ks ds k).isSome)))
    | none => none
  | _ => none
def rDGet : R2 := fun x y H Q => ∃ a v, x = .ref a ∧ DGet H a y (some v) ∧ Q v H
def rDIn : R2 := fun y x H Q => ∃ a o, x = .ref a ∧ DGet H a y o ∧ Q (.bl o.isSome) H
def rDNotIn : R2 := fun y x H Q => ∃ a o, x = .ref a ∧ DGet H a y o ∧ Q (.bl (!o.isSome)) H
section
variable {X : Cx} {Wx : WX} {a b : Expr} {fa fb : M U} {pos : Pos}
theorem op_dIn (hu : X.A.units + 1 < cLine) : OpR X (compareOp .In) rDIn := by
  intro pins s σ H y x v u Q I ry rx h
  obtain ⟨a, o, rfl, g, q⟩ := h
  cases (show u = Value.ref a from rx)
  exact d_in hu I g ry fun s3 I3 => ⟨.bl o.isSome, H, I3, rfl, q⟩
theorem op_dNotIn (hu : X.A.units + 1 < cLine) : OpR X (compareOp .NotIn) rDNotIn := by
  intro pins s σ H y x v u Q I ry rx h
  obtain ⟨a, o, rfl, g, q⟩ := h
  cases (show u = Value.ref a from rx)
  exact d_notIn hu I g ry fun s3 I3 => ⟨.bl (!o.isSome), H, I3, rfl, q⟩
theorem dget_view {K : PySem.W.Frag} {F H : Hp} {x y : V} {ks : List (List Int)} {ds es : List D} {k : List Int} (e : Same F H) (hx : View K F H x (.dic ks ds)) (hy : View K F H y (.tup es)) (hi : intsOf es = some k) :
    ∃ a o, x = .ref a ∧ DGet H a y o ∧ match dGet ks ds k with
      | some d => ∃ v, o = some v ∧ RepD K F v d
      | none => o = none := by
  obtain ⟨a, kvs, rfl, hH, hk, r⟩ := hx
  obtain ⟨b, rfl, hb⟩ := key_rep (show RepD K F y (.tup es) from hy) hi
  refine ⟨a, valV kvs (keyI k), rfl, DGet.t hH (e _ _ hb), ?_⟩
  exact get_rep k hk r
theorem cd_dGet {K : PySem.W.Frag} : CaD K (r2 rDGet) gDGet := by
  intro F H vs ds w Q e vw hg q
  unfold gDGet at hg
  split at hg
  · rename_i ks dd es
    obtain ⟨x, y, rfl, hx, hy⟩ := vw.two
    split at hg
    · rename_i k hi
      obtain ⟨d, hd, rfl⟩ := Option.map_eq_some_iff.mp hg
      obtain ⟨a, o, rfl, g, z⟩ := dget_view e hx hy hi
      rw [hd] at z
      obtain ⟨v, rfl, rv⟩ := z
      exact ⟨_, _, rfl, a, v, rfl, g, fin_rep e rv q⟩
    · cases hg
  · cases hg
theorem cd_dIn {K : PySem.W.Frag} : CaD K (r2 rDIn) gDIn := by
  intro F H vs ds w Q e vw hg q
  unfold gDIn at hg
  split at hg
  · rename_i es ks dd
    obtain ⟨x, y, rfl, hx, hy⟩ := vw.two
    split at hg
    · rename_i k hi
      cases hg
      obtain ⟨a, o, rfl, g, z⟩ := dget_view e hy hx hi
      refine ⟨_, _, rfl, a, o, rfl, g, ?_⟩
      have : o.isSome = (dGet ks dd k).isSome := by
        cases hd : dGet ks dd k with
        | some d =>
          rw [hd] at z
          obtain ⟨v, rfl, _⟩ := z
          rfl
        | none =>
          rw [hd] at z
          rw [z]
          rfl
      rw [this]
      exact fin_bl e q
    · cases hg
  · cases hg
theorem cd_dNotIn {K : PySem.W.Frag} : CaD K (r2 rDNotIn) gDNotIn := by
  intro F H vs ds w Q e vw hg q
  unfold gDNotIn at hg
  split at hg
  · rename_i es ks dd
    obtain ⟨x, y, rfl, hx, hy⟩ := vw.two
    split at hg
    · rename_i k hi
      cases hg
      obtain ⟨a, o, rfl, g, z⟩ := dget_view e hy hx hi
      refine ⟨_, _, rfl, a, o, rfl, g, ?_⟩
      have : o.isSome = (dGet ks dd k).isSome := by
        cases hd : dGet ks dd k with
        | some d =>
          rw [hd] at z
          obtain ⟨v, rfl, _⟩ := z
          rfl
        | none =>
          rw [hd] at z
          rw [z]
          rfl
      rw [this]
      exact fin_bl e q
    · cases hg
  · cases hg
theorem e_dget (hu : X.A.units + 1 < cLine) (ha : EvS X Wx a fa) (hb : EvS X Wx b fb) (hs : NoSl b := by intro _ _; rfl) : EvS X Wx (.Subscript a b pos) (opN gDGet [fa, fb]) :=
  PE.imp (pe_dget hu ha hb hs) fun σ H Q h => tOf_mono (aOf_2 (aOf_op cd_dGet h)) fun _ _ q => tOf_mono q fun _ _ z => r2_two z
/-! ### {} -/
def eDNew : M U := fun env => .ok (.w (.m [] [])) env
theorem e_dnew : EvS X Wx (.Dict [] [] pos) eDNew := PE.imp pe_dnewT fun σ H Q h => by
  obtain ⟨F, env, own, S, h⟩ := h
  intro p hp
  have g : Grow F H F (upd H p (.dT [])) (fun a => a = p) := Grow.ofOwn S.ex hp
  exact h (.ref p) F (upd H p (.dT [])) own (fun a => a = p) (g.out (OutR.refl S) ⟨p, [], rfl, fun _ => Iff.rfl, upd_same, sub_none S.ex hp, rfl, .nil⟩)
end
/-! ### d[k] = e -/
section
variable {K : PySem.W.Frag} {F H : Hp} {σ : L2.St} {env : DEnv} {own : Nat → Fp}
theorem Sit.mutM {i : Nat} {a : Addr} {ks ks' : List (List Int)} {ds ds' : List D} {kvs' : List (List Key × V)} (S : Sit K F σ H env own) (he : env[i]? = some (some (.m ks ds))) (hσ : σ[i]? = some (some (.ref a))) (hk' : kvs'.map (·.1) = ks'.map keyI) (r : RepDs K F (kvs'.map (·.2)) ds') :
    OutR K F H own σ (env.set i (some (.m ks' ds'))) F (upd H a (.dT kvs')) own := by
  obtain ⟨v, hv, a', vs, ev, hp, hH, hF, hk, r0⟩ := S.rep i _ he
  rw [hσ] at hv
  cases hv
  cases ev
  have hi : i < env.length := (List.getElem?_eq_some_iff.mp he).1
  have pa : own i a := (hp a).mpr rfl
  refine ⟨⟨fun x o h => ?_, by rw [List.length_set]; exact S.len, fun j w e => ?_, fun j x z => ?_, S.dis⟩, Same.refl _, fun x o h n => ?_, fun x z => .inl z, fun x o h n => by rw [h] at n; cases n⟩
  · have ne : x ≠ a := fun z => by rw [z, hF] at h; cases h
    rw [upd_ne ne]
    exact S.ex x o h
  · by_cases hj : j = i
    · subst hj
      rw [List.getElem?_set_self hi] at e
      cases e
      exact ⟨.ref a, hσ, a, kvs', rfl, hp, upd_same, hF, hk', r⟩
    · rw [List.getElem?_set_ne (Ne.symm hj)] at e
      obtain ⟨u, hu, ru⟩ := S.rep j w e
      refine ⟨u, hu, ru.frame (Same.refl _) (fun x o q h => ?_) fun x q => (ru.there q).2⟩
      have ne : x ≠ a := fun z => hj (S.dis j i x q (z ▸ pa))
      rw [upd_ne ne]
      exact h
  · by_cases hj : j = i
    · subst hj; exact ⟨_, List.getElem?_set_self hi⟩
    · obtain ⟨w, e⟩ := S.emp j x z
      exact ⟨w, by rw [List.getElem?_set_ne (Ne.symm hj)]; exact e⟩
  · have ne : x ≠ a := fun z => n (z ▸ ⟨i, pa⟩)
    rw [upd_ne ne]
    exact h
end
def sStoreD (i : Nat) (fk fe : M U) : M Fl := fun env => match env[i]? with
  | some (some (.m _ _)) => (fe env).bind fun u e1 => (fk e1).bind fun uk e2 => (match frz1 e2 u with
    | some (d, e3) => (match dat e3 uk, e3[i]? with
      | some (.tup es), some (some (.m ks ds)) => (match intsOf es with
        | some k => if ds.length < 1000000 then .ok .next (e3.set i (some (.m (dPutK ks k) (dPutD ks ds k d)))) else .stuck
        | none => .stuck)
      | _, _ => .stuck)
    | none => .stuck)
  | _ => .stuck
section
variable {X : Cx} {Wx : WX} {e k : Expr} {fe fk : M U} {i : Nat} {x : Str} {pos p1 tpos : Pos}
theorem s_storeD (hu : X.A.units + 1 < cLine) (he : EvS X Wx e fe) (hk : EvS X Wx k fk) (hN : X.N[i]? = some x := by rfl) (hv : Vis X.env.scope x := by first | exact Or.inl rfl | exact Or.inr (Or.inl rfl) | exact Or.inr (Or.inr rfl)) (hd : (x == ("__debug__" : Str)) = false := by decide) (hcd : (x == ("__classdict__" : Str)) = false := by decide)
    (hs : swapsWith e (some (.Subscript (.Name x p1) k tpos)) pos.line X.env = pure false := by rfl) :
    StS X Wx (.Assign [.Subscript (.Name x p1) k tpos] e pos) [] (sStoreD i fk fe) :=
  PS.imp (ps_dput hu (pe_var hN hv hd hcd) hk he hs) fun E σ H h => by
  obtain ⟨F, env, own, S, h⟩ := h
  have h : Po X.K X.mg Wx [] E σ F H own (sStoreD i fk fe env) := h
  cases hw0 : env[i]? with
  | none => unfold sStoreD at h; rw [hw0] at h; exact h.elim
  | some ow =>
    cases ow with
    | none => unfold sStoreD at h; rw [hw0] at h; exact h.elim
    | some w0 =>
      cases w0 with
      | v d => unfold sStoreD at h; rw [hw0] at h; exact h.elim
      | l b ds => unfold sStoreD at h; rw [hw0] at h; exact h.elim
      | x _ => unfold sStoreD at h; rw [hw0] at h; exact h.elim
      | m ks0 ds0 =>
        unfold sStoreD at h
        rw [hw0] at h
        dsimp only at h
        obtain ⟨v, hv, a, vs, rfl, hp, hH, hF, hk0, r0⟩ := S.rep i _ hw0
        refine tOf_use S (fun u env1 e1 v1 F1 H1 own1 p O1 => ?_) (fun c env1 e1 C F1 H1 own1 hm O1 => ?_) (fun e1 => ?_)
        · rw [e1, R.bind_ok] at h
          refine ⟨.ref a, hv, ?_⟩
          refine tOf_use O1.S (fun uk env2 e2 vk F2 H2 own2 p2 O2 => ?_) (fun c env2 e2 C F2 H2 own2 hm O2 => ?_) (fun e2 => ?_)
          · rw [e2, R.bind_ok] at h
            have OO := O1.out2 O2
            cases e3 : frz1 env2 u with
            | none => rw [e3] at h; exact h.elim
            | some pr =>
              obtain ⟨d, env3⟩ := pr
              rw [e3] at h
              dsimp only at h
              obtain ⟨F3, own3, S3, r3, s3⟩ := frz1_ok OO.S OO.r1 OO.d1 e3
              have st := OO.s.trans ((s3.more p2).sup fun x z => by
                rcases z with (z | z) | z
                · exact .inl (.inl z)
                · exact .inr z
                · exact .inl (.inr z))
              obtain ⟨rk, dk⟩ := RepU.stepU OO.r2 (fun x q z => by
                rcases z with z | z
                · exact OO.d2 x q z
                · exact OO.d12 x z q) s3
              have O3 : OutR X.K F H own σ env3 F3 H2 own3 := ⟨S3, st.sub fun x z => .inl z⟩
              cases e4 : dat env3 uk with
              | none => rw [e4] at h; exact h.elim
              | some dk' =>
                have vw := RepU.view S3 rk e4
                cases dk' with
                | tup es =>
                  cases e5 : env3[i]? with
                  | none => rw [e4, e5] at h; exact h.elim
                  | some ow =>
                    cases ow with
                    | none => rw [e4, e5] at h; exact h.elim
                    | some w =>
                      cases w with
                      | v _ => rw [e4, e5] at h; exact h.elim
                      | l _ _ => rw [e4, e5] at h; exact h.elim
                      | x _ => rw [e4, e5] at h; exact h.elim
                      | m ks ds =>
                        rw [e4, e5] at h
                        dsimp only at h
                        cases e6 : intsOf es with
                        | none => rw [e6] at h; exact h.elim
                        | some k =>
                          rw [e6] at h
                          dsimp only at h
                          split at h
                          · rename_i hlen
                            obtain ⟨v2, hv2, a2, kvs2, ev2, hp2, hH2, hF2, hk2, r4⟩ := S3.rep i _ e5
                            rw [hv] at hv2
                            cases hv2
                            cases ev2
                            obtain ⟨b, hb, hbF⟩ := key_rep (show RepD X.K F3 vk (.tup es) from vw) e6
                            subst hb
                            obtain ⟨q1, q2⟩ := put_rep k hk2 r4 r3
                            have hl2 : kvs2.length < sizeLine := by
                              have := r4.length
                              rw [List.length_map] at this
                              rw [this]
                              exact szl hlen
                            exact ⟨a, _, rfl, DPut.t hH2 (S3.ex _ _ hbF) hl2, h _ _ _ _ Only.refl (O3.trans (S3.mutM e5 hv q1 q2))⟩
                          · exact h.elim
                | _ => rw [e4] at h; exact h.elim
          · rw [e2] at h
            exact h C σ F2 H2 own2 Only.refl hm (O1.drop.trans O2)
          · rw [e2] at h
            exact h
        · rw [e1] at h
          exact h C σ F1 H1 own1 Only.refl hm O1
        · rw [e1] at h
          exact h
end
/-! ### {k: c} -/
def tDisp1 (tk : TE) (c : Int) : TE := fun σ H Q => ∀ p, H p = none → tk σ (upd H p (.dT [])) fun x H1 => ∃ b kk, x = .ref b ∧ H1 b = some (.tup (kk.map kV)) ∧ H1 p = some (.dT []) ∧ Q (.ref p) (upd H1 p (.dT [(kk, .int c)]))
section
variable {X : Cx} {Wx : WX} {k : Expr} {tk : TE} {fk : M U} {c : Int} {j : Nat} {pos p2 : Pos}
theorem pe_disp1 (hu : X.A.units + 1 < cLine) (hk : PE X k tk) : PE X (.Dict [some k] [.Constant (.int c) j p2] pos) (tDisp1 tk c) := by
  refine ⟨fun pins s σ H Q I q => ?_⟩
  have hn := I.hok.fresh (Nat.le_refl s.heap.objs.size)
  have I1 := I.laid (a := s.heap.objs.size) (o := .dT []) (h' := s.heap.push { cls := .type "dict", data := .dict #[] }) (t' := s.toks) (fun _ _ q => Heap.get?_push_of_some _ q) (Nat.le_refl _) (dt_empty s.heap I.big)
  have hlen := pairTrees_length [some k] [.Constant (.int c) j p2] X.env pos rfl rfl
  have h0 : pairTrees [some k] [.Constant (.int c) j p2] X.env pos ≠ [] := fun z => by
    rw [z] at hlen
    cases hlen
  have hl1 : (pairTrees [some k] [.Constant (.int c) j p2] X.env pos).length ≤ 15 := by
    rw [hlen]
    show 1 ≤ 15
    decide
  rw [arm_eval_Dict, zip_pairTrees [some k] [.Constant (.int c) j p2] X.env pos rfl rfl, dictDisplay_pairs _ h0 (by omega)]
  refine wpAny_bind (wpAny_standAt (wpAny_bind (wpAny_subDictH (knd := tupleKind (mixKind X.prog X.w)) (Q := fun d s' => wpAny (model X.prog X.w) X.A (pure (Value.ref d)) (EP X pins σ Q) X.xe s') ?_ hl1 ?_)))
  · show X.A.units < cLine
    omega
  · refine pairTrees_cons_walk (thn (hk.run pins _ σ _ _ I1 (q _ hn)) fun u s1 z => ?_)
    obtain ⟨x, H1, I2, rx, b, kk, rfl, hb, hp, hq⟩ := z
    cases (show u = Value.ref b from rx)
    refine thn (pe_int.run pins s1 σ H1 (fun y H2 => y = .int c ∧ H2 = H1) I2 ⟨rfl, rfl⟩) fun w2 s2 z => ?_
    obtain ⟨y, H2, I3, ry, rfl, rfl⟩ := z
    refine pairTrees_nil_walk ?_
    obtain ⟨z, hd, xs, rel, dd⟩ := dt_of I3.hok hp
    cases rel
    refine ⟨[(kk, b, w2)], ⟨rfl, rfl, key_of I3.hok hb, trivial⟩, dd, fun h' tk' dk hs => wpAny_pure ?_⟩
    obtain ⟨q', es, ep, hq', h2, h3, h4, _, h5⟩ := dk
    have hb' : upd H2 s.heap.objs.size (.dT [(kk, .int c)]) b = some (.tup (kk.map kV)) := by
      rw [upd_ne (ne_of hb hp (fun z => nomatch z))]
      exact hb
    have ok : ObjOk X.prog X.w (upd H2 s.heap.objs.size (.dT [(kk, .int c)])) h' s.heap.objs.size (.dT [(kk, .int c)]) :=
      ⟨by show 1 ≤ sizeLine; decide, hd, [(kk, b, w2)], .cons ⟨rfl, hb', ry⟩ .nil, q', es, ep, hq', h2, h3, h4, h5⟩
    exact ⟨.ref s.heap.objs.size, _, d_write I3 (by rw [hp]; exact True.intro) hs ⟨q', hq'⟩ ok, rfl, hq⟩
def eDict1 (fk : M U) (c : Int) : M U := fun env => (fk env).bind fun u e1 => match dat e1 u with
  | some (.tup es) => (match intsOf es with
    | some k => .ok (.w (.m [k] [.int c])) e1
    | none => .stuck)
  | _ => .stuck
theorem e_disp1 (hu : X.A.units + 1 < cLine) (hk : EvS X Wx k fk) : EvS X Wx (.Dict [some k] [.Constant (.int c) j p2] pos) (eDict1 fk c) := PE.imp (pe_disp1 hu hk) fun σ H Q h => by
  obtain ⟨F, env, own, S, h⟩ := h
  intro p hp
  have g : Grow F H F (upd H p (.dT [])) (fun a => a = p) := Grow.ofOwn S.ex hp
  have S' := g.sit S
  have npo : ¬ all own p := fun z => by
    obtain ⟨⟨o, e⟩, _⟩ := S.there z
    rw [hp] at e
    cases e
  unfold eDict1 at h
  refine tOf_use S' (fun u env1 e1 v F1 H1 own1 p1 O1 => ?_) (fun c' env1 e1 C F1 H1 own1 hm O1 => ?_) (fun e1 => ?_)
  · rw [e1, R.bind_ok] at h
    cases e2 : dat env1 u with
    | none => rw [e2] at h; exact h.elim
    | some dd =>
      rw [e2] at h
      have vw := RepU.view O1.S O1.r e2
      cases dd with
      | tup es =>
        dsimp only at h
        cases e3 : intsOf es with
        | none => rw [e3] at h; exact h.elim
        | some kk =>
          rw [e3] at h
          obtain ⟨b, rfl, hb⟩ := key_rep (show RepD X.K F1 v (.tup es) from vw) e3
          have hp1 : H1 p = some (.dT []) := O1.s.keep p _ upd_same npo
          have np1 : ¬ all own1 p := fun z => by
            rcases O1.s.new p (.inl z) with y | y
            · exact npo y
            · rw [upd_same] at y
              cases y
          have nF1 : F1 p = none := by
            cases q : F1 p with
            | none => rfl
            | some o =>
              rcases O1.s.frz p o q (sub_none S.ex hp) with y | y
              · exact absurd y npo
              · rw [upd_same] at y
                cases y
          refine ⟨b, keyI kk, rfl, O1.S.ex _ _ hb, hp1, ?_⟩
          refine h (.ref p) F1 (upd H1 p (.dT [(keyI kk, .int c)])) own1 (fun a => a = p) ⟨⟨fun x o q => ?_, O1.S.len, fun i w q => ?_, O1.S.emp, O1.S.dis⟩, ⟨p, [(keyI kk, .int c)], rfl, fun _ => Iff.rfl, upd_same, nF1, rfl, .cons (.int c) .nil⟩, fun a z => by rw [z]; exact np1, O1.s.ex, fun a o q n => ?_, fun a z => ?_, fun a o q n => ?_⟩
          · have ne : x ≠ p := fun z => by rw [z, nF1] at q; cases q
            rw [upd_ne ne]
            exact O1.S.ex x o q
          · obtain ⟨v2, hv2, r2⟩ := O1.S.rep i w q
            refine ⟨v2, hv2, r2.frame (Same.refl _) (fun x o q h => ?_) fun x q => (r2.there q).2⟩
            have ne : x ≠ p := fun z => np1 ⟨i, z ▸ q⟩
            rw [upd_ne ne]
            exact h
          · have ne : a ≠ p := fun z => by rw [z, hp] at q; cases q
            rw [upd_ne ne]
            exact O1.s.keep a o (by rw [upd_ne ne]; exact q) n
          · rcases z with z | z
            · rcases O1.s.new a (.inl z) with y | y
              · exact .inl y
              · by_cases c : a = p
                · rw [c]; exact .inr hp
                · rw [upd_ne c] at y
                  exact .inr y
            · rw [z]; exact .inr hp
          · rcases O1.s.frz a o q n with y | y
            · exact .inl y
            · by_cases c : a = p
              · rw [c]; exact .inr hp
              · rw [upd_ne c] at y
                exact .inr y
      | _ => exact h.elim
  · rw [e1] at h
    refine h C F1 H1 own1 hm ⟨O1.S, O1.s.ex, fun a o q n => ?_, fun a z => ?_, fun a o q n => ?_⟩
    · have ne : a ≠ p := fun z => by rw [z, hp] at q; cases q
      exact O1.s.keep a o (by rw [upd_ne ne]; exact q) n
    · rcases O1.s.new a z with y | y
      · exact .inl y
      · by_cases c : a = p
        · rw [c]; exact .inr hp
        · rw [upd_ne c] at y
          exact .inr y
    · rcases O1.s.frz a o q n with y | y
      · exact .inl y
      · by_cases c : a = p
        · rw [c]; exact .inr hp
        · rw [upd_ne c] at y
          exact .inr y
  · rw [e1] at h
    exact h
end
end DL

/-! Texts. -/
namespace DL
open PySem PySem.Spec PyProof.Rows L2

def strsOf : List D → Option (List Str)
  | [] => some []
  | .str x :: r => (strsOf r).map (x :: ·)
  | _ => none
theorem strsOf_eq : ∀ {ds : List D} {ys : List Str}, strsOf ds = some ys → ds = ys.map D.str
  | [], ys, h => by cases h; rfl
  | .str x :: r, ys, h => by
    have h : (strsOf r).map (x :: ·) = some ys := h
    obtain ⟨zs, h1, rfl⟩ := Option.map_eq_some_iff.mp h
    rw [strsOf_eq h1]
    rfl
  | .non :: _, _, h => by cases h
  | .bl _ :: _, _, h => by cases h
  | .int _ :: _, _, h => by cases h
  | .tup _ :: _, _, h => by cases h
  | .lst _ :: _, _, h => by cases h
  | .ty _ :: _, _, h => by cases h
  | .nam _ _ :: _, _, h => by cases h
  | .scr _ :: _, _, h => by cases h
  | .dic _ _ :: _, _, h => by cases h
  | .dix _ _ _ :: _, _, h => by cases h
  | .ins _ _ _ :: _, _, h => by cases h
theorem strsOf_map : ∀ ys : List Str, strsOf (ys.map D.str) = some ys
  | [] => rfl
  | y :: r => by
    show (strsOf (r.map D.str)).map (y :: ·) = some (y :: r)
    rw [strsOf_map r]
    rfl
theorem RepDs.strs {K : PySem.W.Frag} {F : Hp} : ∀ {vs : List V} {ys : List Str}, RepDs K F vs (ys.map D.str) → vs = ys.map V.str
  | _, [], .nil => rfl
  | _, _ :: _, .cons (.str _) t => by rw [List.map_cons, ← RepDs.strs t]
theorem RepDs.of_strs {K : PySem.W.Frag} {F : Hp} : ∀ ys : List Str, RepDs K F (ys.map V.str) (ys.map D.str)
  | [] => .nil
  | n :: r => .cons (.str n) (RepDs.of_strs r)
theorem szm {n : Nat} (h : n ≤ 1000000) : n ≤ sizeLine := Nat.le_trans h (by decide)
theorem szm2 {n : Nat} (h : n ≤ 1000000) : n + 2 ≤ sizeLine := Nat.le_trans (Nat.add_le_add_right h 2) (by decide)
/-! ### o.m(e), o a text -/
def opMS (g : List D → Option W) (fo fe : M U) : M U := fun env => (fo env).bind fun u0 e0 => match dat e0 u0 with
  | some (.str _) => (fe e0).bind fun u e1 => (match dat e1 u0, dat e1 u with
    | some d0, some d => (match g [d0, d] with
      | some w => .ok (.w w) e1
      | none => .stuck)
    | _, _ => .stuck)
  | _ => .stuck
theorem meth_semS {K : PySem.W.Frag} {mg : Str → Option Value} {Wx : WX} {r : V → List V → Hp → VK → Prop} {g : List D → Option W} {fo fe : M U} {σ : L2.St} {H : Hp} {Q : VK} (cd : CaD K (rM r) g) (h : tOf K mg Wx (opMS g fo fe) σ H Q) :
    tM1 r (tOf K mg Wx fo) (tOf K mg Wx fe) σ H Q := by
  obtain ⟨F, env, own, S, h⟩ := h
  unfold opMS at h
  refine tOf_use S (fun u0 env0 e0 v0 F0 H0 own0 p0 O0 => ?_) (fun c env1 e1 C F1 H1 own1 => ?_) (fun e1 => ?_)
  · rw [e0, R.bind_ok] at h
    cases ed : dat env0 u0 with
    | none => rw [ed] at h; exact h.elim
    | some d0 =>
      rw [ed] at h
      cases d0 with
      | str x0 =>
        dsimp only at h
        have hx := (RepU.view O0.S O0.r ed).str
        refine ⟨⟨x0, hx⟩, ?_⟩
        refine tOf_use O0.S (fun u env1 e1 v F1 H1 own1 p1 O1 => ?_) (fun c env1 e1 C F1 H1 own1 hm O1 => ?_) (fun e1 => ?_)
        · rw [e1, R.bind_ok] at h
          have OO := O0.out2 O1
          cases e2 : dat env1 u0 with
          | none => rw [e2] at h; exact h.elim
          | some d1 =>
            cases e3 : dat env1 u with
            | none => rw [e2, e3] at h; exact h.elim
            | some d =>
              rw [e2, e3] at h
              dsimp only at h
              cases e4 : g [d1, d] with
              | none => rw [e4] at h; exact h.elim
              | some w =>
                rw [e4] at h
                obtain ⟨x, y, ex, q⟩ := cd F1 H1 [v0, v] [d1, d] w Q OO.S.ex (.cons (RepU.view OO.S OO.r1 e2) (.cons (RepU.view OO.S OO.r2 e3) .nil)) e4 fun v' F' H' p gr rw' => h _ _ _ _ _ (gr.out OO.drop rw')
                cases ex
                exact q
        · rw [e1] at h
          exact h C F1 H1 own1 hm (O0.drop.trans O1)
        · rw [e1] at h
          exact h
      | _ => exact h.elim
  · rw [e1] at h
    exact h C F1 H1 own1
  · rw [e1] at h
    exact h

def gSplit : List D → Option W
  | [.str a, .str b] => if (b.length == 0) = false ∧ a.length ≤ 1000000 then some (.l false ((Txt.split a b).map D.str)) else none
  | _ => none
def gPart : List D → Option W
  | [.str a, .str b] => if (b.length == 0) = false ∧ a.length ≤ 1000000 then some (.v (.tup [.str (Txt.partition a b).1, .str (Txt.partition a b).2.1, .str (Txt.partition a b).2.2])) else none
  | _ => none
def gJoin : List D → Option W
  | [.str a, .lst ds] => match strsOf ds with
    | some ys => if (ys.map (·.length)).sum + ys.length * a.length ≤ 1000000 then some (.v (.str (Txt.join a ys))) else none
    | none => none
  | _ => none
def rSplitS : V → List V → Hp → VK → Prop := fun x xs H Q => ∃ a b, x = .str a ∧ xs = [.str b] ∧ (b.length == 0) = false ∧ a.length + 2 ≤ sizeLine ∧ rNewStrs (Txt.split a b) H Q
def rPartS : V → List V → Hp → VK → Prop := fun x xs H Q => ∃ a b, x = .str a ∧ xs = [.str b] ∧ (b.length == 0) = false ∧ a.length ≤ sizeLine ∧
  ∀ p, H p = none → Q (.ref p) (upd H p (.tup [.str (Txt.partition a b).1, .str (Txt.partition a b).2.1, .str (Txt.partition a b).2.2]))
def rJoinS (K : PySem.W.Frag) : V → List V → Hp → VK → Prop := fun x xs H Q => ∃ a p, ∃ ys : List Str, x = .str a ∧ xs = [.ref p] ∧ (SqL K H p (ys.map V.str) ∨ SqT K H p (ys.map V.str)) ∧
  (ys.map (·.length)).sum + ys.length * a.length ≤ 16777216 ∧ Q (.str (Txt.join a ys)) H
theorem cd_split {K : PySem.W.Frag} : CaD K (rM rSplitS) gSplit := by
  intro F H vs ds w Q e vw hg q
  unfold gSplit at hg
  split at hg
  · rename_i a b
    obtain ⟨x, y, rfl, hx, hy⟩ := vw.two
    split at hg
    · rename_i hc
      cases hg
      refine ⟨x, y, rfl, a, b, hx.str, by rw [hy.str], hc.1, szm2 hc.2, ?_⟩
      exact fin_lst e (RepDs.of_strs _) q
    · cases hg
  · cases hg
theorem cd_part {K : PySem.W.Frag} : CaD K (rM rPartS) gPart := by
  intro F H vs ds w Q e vw hg q
  unfold gPart at hg
  split at hg
  · rename_i a b
    obtain ⟨x, y, rfl, hx, hy⟩ := vw.two
    split at hg
    · rename_i hc
      cases hg
      refine ⟨x, y, rfl, a, b, hx.str, by rw [hy.str], hc.1, szm hc.2, ?_⟩
      exact fin_tup e (.cons (.str _) (.cons (.str _) (.cons (.str _) .nil))) q
    · cases hg
  · cases hg
theorem cd_join {K : PySem.W.Frag} : CaD K (rM (rJoinS K)) gJoin := by
  intro F H vs ds w Q e vw hg q
  unfold gJoin at hg
  split at hg
  · rename_i a es
    obtain ⟨x, y, rfl, hx, hy⟩ := vw.two
    split at hg
    · rename_i ys hys
      split at hg
      · rename_i hc
        cases hg
        obtain ⟨p, us, rfl, h2, r⟩ := hy.lst
        rw [strsOf_eq hys] at r
        have := r.strs
        subst this
        exact ⟨x, _, rfl, a, p, ys, hx.str, rfl, .inl (.inl h2), Nat.le_trans hc (by decide), fin_str e q⟩
      · cases hg
    · cases hg
  · cases hg
section
variable {X : Cx} {Wx : WX} {o e : Expr} {fo fe : M U} {apos pos : Pos}
theorem e_split (ho : EvS X Wx o fo) (he : EvS X Wx e fe) (hs : starEach [e] X.env = [(false, eval e X.env)] := by rfl) (hbase : attributeBase o "split" X.env (eval o X.env) = eval o X.env := by rfl) (hline : (apos.endLine == pos.line) = true := by rfl) :
    EvS X Wx (.Call (.Attribute o "split" apos) [e] [] pos) (opMS gSplit fo fe) := PE.imp (pe_split ho he hs hbase hline) fun σ H Q h => meth_semS cd_split h
theorem e_part (ho : EvS X Wx o fo) (he : EvS X Wx e fe) (hs : starEach [e] X.env = [(false, eval e X.env)] := by rfl) (hbase : attributeBase o "partition" X.env (eval o X.env) = eval o X.env := by rfl) (hline : (apos.endLine == pos.line) = true := by rfl) :
    EvS X Wx (.Call (.Attribute o "partition" apos) [e] [] pos) (opMS gPart fo fe) := PE.imp (pe_partition ho he hs hbase hline) fun σ H Q h => meth_semS cd_part h
theorem e_join (ho : EvS X Wx o fo) (he : EvS X Wx e fe) (hs : starEach [e] X.env = [(false, eval e X.env)] := by rfl) (hbase : attributeBase o "join" X.env (eval o X.env) = eval o X.env := by rfl) (hline : (apos.endLine == pos.line) = true := by rfl) :
    EvS X Wx (.Call (.Attribute o "join" apos) [e] [] pos) (opMS gJoin fo fe) := PE.imp (pe_join ho he hs hbase hline) fun σ H Q h => meth_semS cd_join h
end

/-! ### int(text), str(int), sign in text, text[a:], text[:b] -/
def gIntS : List D → Option W
  | [.str a] => match PySem.intText? a with
    | some n => if a.length ≤ 640 then some (.v (.int n)) else none
    | none => none
  | _ => none
theorem cd_intS {K : PySem.W.Frag} : CaD K (fun xs H Q => ∃ a n, xs = [.str a] ∧ PySem.intText? a = some n ∧ a.length ≤ 640 ∧ Q (.int n) H) gIntS := by
  intro F H vs ds w Q e vw hg q
  unfold gIntS at hg
  split at hg
  · rename_i a
    obtain ⟨x, rfl, hx⟩ := vw.one
    split at hg
    · rename_i n hn
      split at hg
      · rename_i hc
        cases hg
        exact ⟨a, n, by rw [hx.str], hn, hc, fin_int e q⟩
      · cases hg
    · cases hg
  · cases hg
def gStrI : List D → Option W
  | [.int i] => if i.natAbs.log2 < 1920 then some (.v (.str (toString i))) else none
  | _ => none
theorem cd_strI {K : PySem.W.Frag} : CaD K (fun xs H Q => ∃ i : Int, xs = [.int i] ∧ i.natAbs.log2 < 1920 ∧ Q (.str (toString i)) H) gStrI := by
  intro F H vs ds w Q e vw hg q
  unfold gStrI at hg
  split at hg
  · rename_i i
    obtain ⟨x, rfl, hx⟩ := vw.one
    split at hg
    · rename_i hc
      cases hg
      exact ⟨i, by rw [hx.int], hc, fin_str e q⟩
    · cases hg
  · cases hg
def gInS : List D → Option W
  | [.str x, .str z] => if x.length = 1 then some (.v (.bl (decide (x.cps.toList.headD 0 ∈ z.cps.toList)))) else none
  | _ => none
def rInS : R2 := fun x y H Q => ∃ (c : Nat) (z : Str), x = .str ⟨#[c]⟩ ∧ y = .str z ∧ Q (.bl (decide (c ∈ z.cps.toList))) H
theorem str_one {x : Str} (h : x.length = 1) : x = ⟨#[x.cps.toList.headD 0]⟩ := by
  obtain ⟨⟨l⟩⟩ := x
  have h : l.length = 1 := h
  match l, h with
  | [c], _ => rfl
theorem cd_inS {K : PySem.W.Frag} : CaD K (r2 rInS) gInS := by
  intro F H vs ds w Q e vw hg q
  unfold gInS at hg
  split at hg
  · rename_i x z
    obtain ⟨u, v, rfl, hx, hy⟩ := vw.two
    split at hg
    · rename_i hc
      cases hg
      exact ⟨u, v, rfl, _, z, by rw [hx.str]; exact congrArg V.str (str_one hc), hy.str, fin_bl e q⟩
    · cases hg
  · cases hg
def gSlS (lo hi : Option Int) : D → Option W
  | .str z => if z.length ≤ 1000000 then some (.v (.str (cutS z lo hi))) else none
  | _ => none
theorem slS_sem {K : PySem.W.Frag} {F H : Hp} {v : V} {d : D} {w : W} {lo hi : Option Int} {Q : VK} (e : Same F H) (hx : View K F H v d) (hg : gSlS lo hi d = some w) (q : ∀ v F' H' p, Grow F H F' H' p → RepW K F' H' v w p → Q v H') : rSlS v lo hi H Q := by
  cases d with
  | str z =>
    have hg : (if z.length ≤ 1000000 then some (W.v (.str (cutS z lo hi))) else none) = some w := hg
    split at hg
    · rename_i hc
      cases hg
      exact ⟨z, hx.str, szm hc, fin_str e q⟩
    · cases hg
  | _ => cases hg
def gSlLS : List D → Option W
  | [d, .int i] => gSlS (some i) none d
  | _ => none
def gSlHS : List D → Option W
  | [d, .int i] => gSlS none (some i) d
  | _ => none
def rLS : List V → Hp → VK → Prop := fun vs H Q => ∃ x i, vs = [x, .int i] ∧ rSlS x (some i) none H Q
def rHS : List V → Hp → VK → Prop := fun vs H Q => ∃ x i, vs = [x, .int i] ∧ rSlS x none (some i) H Q
theorem cd_slLS {K : PySem.W.Frag} : CaD K rLS gSlLS := by
  intro F H vs ds w Q e vw hg q
  unfold gSlLS at hg
  split at hg
  · rename_i d i
    obtain ⟨x, y, rfl, hx, hy⟩ := vw.two
    obtain rfl := hy.int
    exact ⟨_, i, rfl, slS_sem e hx hg q⟩
  · cases hg
theorem cd_slHS {K : PySem.W.Frag} : CaD K rHS gSlHS := by
  intro F H vs ds w Q e vw hg q
  unfold gSlHS at hg
  split at hg
  · rename_i d i
    obtain ⟨x, y, rfl, hx, hy⟩ := vw.two
    obtain rfl := hy.int
    exact ⟨_, i, rfl, slS_sem e hx hg q⟩
  · cases hg
section
variable {X : Cx} {Wx : WX} {a lo hi : Expr} {fa fl fh : M U} {pos p2 : Pos}
theorem e_slLS (ha : EvS X Wx a fa) (hl : EvS X Wx lo fl) : EvS X Wx (.Subscript a (.Slice (some lo) none none p2) pos) (opN gSlLS [fa, fl]) :=
  PE.imp (pe_slice sl_str ha (po_some hl) po_none) fun σ H Q h => tOf_mono (aOf_2 (aOf_op cd_slLS h)) fun _ _ q => tOf_mono q fun _ _ z => by
    obtain ⟨x, i, e, z⟩ := z
    cases e
    exact ⟨i, rfl, z⟩
theorem e_slHS (ha : EvS X Wx a fa) (hl : EvS X Wx hi fh) : EvS X Wx (.Subscript a (.Slice none (some hi) none p2) pos) (opN gSlHS [fa, fh]) :=
  PE.imp (pe_slice sl_str ha po_none (po_some hl)) fun σ H Q h => tOf_mono (aOf_2 (aOf_op cd_slHS h)) fun _ _ q => tOf_mono q fun _ _ z => by
    obtain ⟨x, i, e, z⟩ := z
    cases e
    exact ⟨i, rfl, z⟩
end

/-! ### f'..' -/
def eFmt (f : M U) : M U := fun env => (f env).bind fun u e1 => match dat e1 u with
  | some (.str y) => if y.length ≤ 1000000 then .ok (.w (.v (.str y))) e1 else .stuck
  | some (.int i) => if i.natAbs.log2 < 1920 then .ok (.w (.v (.str (toString i)))) e1 else .stuck
  | _ => .stuck
def eJs : List (M U) → Str → M U
  | [], acc, env => .ok (.w (.v (.str acc))) env
  | f :: fs, acc, env => (f env).bind fun u e1 => match u with
    | .w (.v (.str y)) => if (acc ++ y).length ≤ 1000000 then eJs fs (acc ++ y) e1 else .stuck
    | _ => .stuck
section
variable {X : Cx} {Wx : WX} {e : Expr} {f : M U} {pos : Pos}
theorem e_fmt (he : EvS X Wx e f) : EvS X Wx (.FormattedValue e (-1) none pos) (eFmt f) := PE.imp (pe_fmt he) fun σ H Q h => by
  obtain ⟨F, env, own, S, h⟩ := h
  unfold eFmt at h
  refine tOf_use S (fun u env1 e1 v F1 H1 own1 p O1 => ?_) (fun c env1 e1 C F1 H1 own1 => ?_) (fun e1 => ?_)
  · rw [e1, R.bind_ok] at h
    cases ed : dat env1 u with
    | none => rw [ed] at h; exact h.elim
    | some d =>
      rw [ed] at h
      have vw := RepU.view O1.S O1.r ed
      cases d with
      | str y =>
        dsimp only at h
        split at h
        · rename_i hc
          refine .inl ⟨y, vw.str, szm (by split at hc <;> first | assumption | cases hc), ?_⟩
          split at hc
          · cases hc
            exact h _ _ _ _ _ ((Grow.refl O1.S.ex).out O1.drop (RepW.ofRep (.str y)))
          · cases hc
        · rename_i hc
          split at hc <;> cases hc
        · exact h.elim
      | int i =>
        dsimp only at h
        split at h
        · rename_i hc
          refine .inr ⟨i, vw.int, (by split at hc <;> first | assumption | cases hc), ?_⟩
          split at hc
          · cases hc
            exact h _ _ _ _ _ ((Grow.refl O1.S.ex).out O1.drop (RepW.ofRep (.str _)))
          · cases hc
        · rename_i hc
          split at hc <;> cases hc
        · exact h.elim
      | _ => exact h.elim
  · rw [e1] at h
    exact h C F1 H1 own1
  · rw [e1] at h
    exact h
theorem js_sem {K : PySem.W.Frag} {mg : Str → Option Value} {σ : L2.St} {Q : VK} : ∀ {fs : List (M U)} {acc : Str} {H : Hp}, tOf K mg Wx (eJs fs acc) σ H Q → tJs (fs.map (tOf K mg Wx)) acc σ H fun out H1 => Q (.str out) H1
  | [], acc, H, h => by
    obtain ⟨F, env, own, S, h⟩ := h
    exact h _ _ _ _ _ ((Grow.refl S.ex).out (OutR.refl S) (RepW.ofRep (.str acc)))
  | f :: fs, acc, H, h => by
    obtain ⟨F, env, own, S, h⟩ := h
    unfold eJs at h
    show tOf K mg Wx f σ H _
    refine tOf_use S (fun u env1 e1 v F1 H1 own1 p O1 => ?_) (fun c env1 e1 C F1 H1 own1 => ?_) (fun e1 => ?_)
    · rw [e1, R.bind_ok] at h
      match u, O1, h with
      | .w (.v (.str y)), O1, h =>
        dsimp only at h
        obtain ⟨_, hr⟩ := O1.r
        cases hr
        by_cases hc : (acc ++ y).length ≤ 1000000
        · rw [if_pos hc] at h
          refine ⟨y, rfl, szm hc, js_sem ⟨F1, env1, own1, O1.S, ?_⟩⟩
          cases e2 : eJs fs (acc ++ y) env1 with
          | ok u2 env2 =>
            rw [e2] at h
            exact fun v2 F2 H2 own2 p2 O2 => h _ _ _ _ _ (O1.drop.out O2)
          | raise c env2 =>
            rw [e2] at h
            exact fun C F2 H2 own2 hm O2 => h C F2 H2 own2 hm (O1.drop.trans O2)
          | stuck =>
            rw [e2] at h
            exact h
        · rw [if_neg hc] at h
          exact h.elim
      | .b _, _, h => exact h.elim
      | .w (.l _ _), _, h => exact h.elim
      | .w (.m _ _), _, h => exact h.elim
      | .w (.x _), _, h => exact h.elim
      | .w (.v .non), _, h => exact h.elim
      | .w (.v (.bl _)), _, h => exact h.elim
      | .w (.v (.int _)), _, h => exact h.elim
      | .w (.v (.tup _)), _, h => exact h.elim
      | .w (.v (.lst _)), _, h => exact h.elim
      | .w (.v (.ty _)), _, h => exact h.elim
      | .w (.v (.nam _ _)), _, h => exact h.elim
      | .w (.v (.scr _)), _, h => exact h.elim
      | .w (.v (.dic _ _)), _, h => exact h.elim
      | .w (.v (.dix _ _ _)), _, h => exact h.elim
      | .w (.v (.ins _ _ _)), _, h => exact h.elim
    · rw [e1] at h
      exact h C F1 H1 own1
    · rw [e1] at h
      exact h
abbrev EjS (X : Cx) (Wx : WX) (es : List Expr) (fs : List (M U)) : Prop := PJ X es (fs.map (tOf X.K X.mg Wx))
theorem ej_nil : EjS X Wx [] [] := PJ.nil
theorem ej_cons {es : List Expr} {fs : List (M U)} (h : EvS X Wx e f) (r : EjS X Wx es fs) : EjS X Wx (e :: es) (f :: fs) := PJ.cons h r
theorem e_joined {v1 v2 : Expr} {rest : List Expr} {fs : List (M U)} (h : EjS X Wx (v1 :: v2 :: rest) fs) : EvS X Wx (.JoinedStr (v1 :: v2 :: rest) pos) (eJs fs Str.empty) := PE.imp (pe_joined h) fun σ H Q q => js_sem q
end
/-! ### telling, by simp -/
@[simp ↓] theorem opMS_ap (g : List D → Option W) (fo fe : M U) (env : DEnv) : opMS g fo fe env = ((fo env).bind fun u0 e0 => match dat e0 u0 with
  | some (.str _) => (fe e0).bind fun u e1 => (match dat e1 u0, dat e1 u with
    | some d0, some d => (match g [d0, d] with
      | some w => .ok (.w w) e1
      | none => .stuck)
    | _, _ => .stuck)
  | _ => .stuck : R U) := Eq.trans rfl rfl
@[simp ↓] theorem eFmt_ap (f : M U) (env : DEnv) : eFmt f env = ((f env).bind fun u e1 => match dat e1 u with
  | some (.str y) => if y.length ≤ 1000000 then .ok (.w (.v (.str y))) e1 else .stuck
  | some (.int i) => if i.natAbs.log2 < 1920 then .ok (.w (.v (.str (toString i)))) e1 else .stuck
  | _ => .stuck : R U) := Eq.trans rfl rfl
@[simp ↓] theorem eJs_nil (acc : Str) (env : DEnv) : eJs [] acc env = (.ok (.w (.v (.str acc))) env : R U) := by rw [eJs]
@[simp ↓] theorem eJs_cons (f : M U) (fs : List (M U)) (acc : Str) (env : DEnv) : eJs (f :: fs) acc env = ((f env).bind fun u e1 => match u with
    | .w (.v (.str y)) => if (acc ++ y).length ≤ 1000000 then eJs fs (acc ++ y) e1 else .stuck
    | _ => .stuck : R U) := by rw [eJs]
@[simp] theorem gSplit_c (a b : Str) : gSplit [.str a, .str b] = if (b.length == 0) = false ∧ a.length ≤ 1000000 then some (.l false ((Txt.split a b).map D.str)) else none := Eq.trans rfl rfl
@[simp] theorem gPart_c (a b : Str) : gPart [.str a, .str b] = if (b.length == 0) = false ∧ a.length ≤ 1000000 then some (.v (.tup [.str (Txt.partition a b).1, .str (Txt.partition a b).2.1, .str (Txt.partition a b).2.2])) else none := Eq.trans rfl rfl
theorem gJoin_strs (a : Str) (ys : List Str) : gJoin [.str a, .lst (ys.map D.str)] = if (ys.map (·.length)).sum + ys.length * a.length ≤ 1000000 then some (.v (.str (Txt.join a ys))) else none := by
  show (match strsOf (ys.map D.str) with
    | some ys => if (ys.map (fun y : Str => y.length)).sum + ys.length * a.length ≤ 1000000 then some (W.v (.str (Txt.join a ys))) else none
    | none => none) = _
  rw [strsOf_map]
@[simp] theorem gIntS_c (a : Str) : gIntS [.str a] = match PySem.intText? a with
    | some n => if a.length ≤ 640 then some (.v (.int n)) else none
    | none => none := Eq.trans rfl rfl
@[simp] theorem gStrI_c (i : Int) : gStrI [.int i] = if i.natAbs.log2 < 1920 then some (.v (.str (toString i))) else none := Eq.trans rfl rfl
theorem gInS_c (x z : Str) : gInS [.str x, .str z] = if x.length = 1 then some (.v (.bl (decide (x.cps.toList.headD 0 ∈ z.cps.toList)))) else none := Eq.trans rfl rfl
@[simp] theorem gSlLS_c (z : Str) (i : Int) : gSlLS [.str z, .int i] = if z.length ≤ 1000000 then some (.v (.str (cutS z (some i) none))) else none := Eq.trans rfl rfl
@[simp] theorem gSlHS_c (z : Str) (i : Int) : gSlHS [.str z, .int i] = if z.length ≤ 1000000 then some (.v (.str (cutS z none (some i)))) else none := Eq.trans rfl rfl
theorem deq_str (x y : Str) : deq (.str x) (.str y) = decide (x = y) := by
  unfold deq
  simp [toPy]
  try rfl
def asc (x : Str) : Prop := ∀ c ∈ x.cps.toList, c < 128
theorem asc_ok {x : Str} (h : asc x) : PyData.strOk x = true := by
  unfold PyData.strOk
  rw [Array.all_eq_true_iff_forall_mem]
  intro c hc
  have := h c (Array.mem_toList_iff.mpr hc)
  simp
  omega
theorem gEq_str {i j : Str} (hi : asc i) (hj : asc j) : gEq [.str i, .str j] = some (.v (.bl (decide (i = j)))) := by
  show (if (fine 60 (.str i) && fine 60 (.str j)) = true then _ else _) = _
  rw [show fine 60 (.str i) = true from asc_ok hi, show fine 60 (.str j) = true from asc_ok hj, Bool.and_self, if_pos rfl, deq_str]
theorem gNe_str {i j : Str} (hi : asc i) (hj : asc j) : gNe [.str i, .str j] = some (.v (.bl (!decide (i = j)))) := by
  show (if (fine 60 (.str i) && fine 60 (.str j)) = true then _ else _) = _
  rw [show fine 60 (.str i) = true from asc_ok hi, show fine 60 (.str j) = true from asc_ok hj, Bool.and_self, if_pos rfl, deq_str]
end DL

/-! What only adds to the heap: expressions that change nothing that stands. -/
namespace DL
open PySem PySem.Spec PyProof.Rows L2

section
variable {K : PySem.W.Frag} {F H F1 H1 F2 H2 : Hp} {σ : L2.St} {env : DEnv} {own : Nat → Fp} {p p1 p2 : Fp}
theorem Grow.gone (g : Grow F H F1 H1 p) {a : Addr} (h : H1 a = none) : H a = none := by
  cases e : H a with
  | none => rfl
  | some o => rw [g.exH a o e] at h; cases h
theorem Grow.trans (g : Grow F H F1 H1 p1) (k : Grow F1 H1 F2 H2 p2) : Grow F H F2 H2 p2 where
  exF := g.exF.trans k.exF
  exH := g.exH.trans k.exH
  sub := k.sub
  fr := fun a o h n => by
    cases e : F1 a with
    | some u => exact g.fr a u e n
    | none => exact g.gone (k.fr a o h e)
  np := fun a h => g.gone (k.np a h)
/-- what stood before, or was told, stays -/
theorem Grow.repW {v : V} {w : W} (g : Grow F H F1 H1 p1) (r : RepW K F H v w p) : RepW K F1 H1 v w p := by
  refine r.frame g.exF (fun a o _ q => g.exH a o q) fun a q => ?_
  obtain ⟨⟨o, e1⟩, e2⟩ := r.there q
  cases z : F1 a with
  | none => rfl
  | some u => rw [g.fr a u z e2] at e1; cases e1
theorem Grow.drop (g : Grow F H F1 H1 p) : Grow F H F1 H1 (fun _ => False) := ⟨g.exF, g.exH, g.sub, g.fr, fun _ h => h.elim⟩
end

/-! ### expressions -/
abbrev G := DEnv → Option W
def gOfG (K : PySem.W.Frag) (f : G) : TE := fun σ H Q => ∃ F env own, Sit K F σ H env own ∧ match f env with
  | some w => ∀ v F' H' p, Grow F H F' H' p → RepW K F' H' v w p → Q v H'
  | none => False
abbrev EvG (X : Cx) (e : Expr) (f : G) : Prop := PE X e (gOfG X.K f)
/-- as any expression -/
def eG (f : G) : M U := fun env => match f env with
  | some w => .ok (.w w) env
  | none => .stuck
theorem e_g {X : Cx} {Wx : WX} {e : Expr} {f : G} (h : EvG X e f) : EvS X Wx e (eG f) := PE.imp h fun σ H Q h => by
  obtain ⟨F, env, own, S, h⟩ := h
  refine ⟨F, env, own, S, ?_⟩
  unfold eG at h
  cases e : f env with
  | none => rw [e] at h; exact h.elim
  | some w =>
    rw [e] at h
    exact fun v F' H' p g r => h v F' H' own p (g.out (OutR.refl S) r)
inductive RepWs (K : PySem.W.Frag) (F H : Hp) : List V → List W → Prop where
  | nil : RepWs K F H [] []
  | cons {v : V} {w : W} {vs : List V} {ws : List W} {p : Fp} : RepW K F H v w p → RepWs K F H vs ws → RepWs K F H (v :: vs) (w :: ws)
theorem Grow.repWs {K : PySem.W.Frag} {F H F1 H1 : Hp} {p1 : Fp} (g : Grow F H F1 H1 p1) : ∀ {vs : List V} {ws : List W}, RepWs K F H vs ws → RepWs K F1 H1 vs ws
  | _, _, .nil => .nil
  | _, _, .cons r t => .cons (g.repW r) (Grow.repWs g t)
def evsG : List G → DEnv → Option (List W)
  | [], _ => some []
  | f :: fs, env => match f env, evsG fs env with
    | some w, some ws => some (w :: ws)
    | _, _ => none
def aOfG (K : PySem.W.Frag) (f : DEnv → Option (List W)) : TA := fun σ H Q => ∃ F env own, Sit K F σ H env own ∧ match f env with
  | some ws => ∀ vs F' H', Grow F H F' H' (fun _ => False) → RepWs K F' H' vs ws → Q vs H'
  | none => False
abbrev EaG (X : Cx) (es : List Expr) (fs : List G) : Prop := PA X es (aOfG X.K (evsG fs))
def datWs : List W → Option (List D)
  | [] => some []
  | w :: ws => if w.opq then none else (datWs ws).map (datW w :: ·)
theorem RepWs.views {K : PySem.W.Frag} {F H : Hp} (e : Same F H) : ∀ {vs : List V} {ws : List W} {ds : List D}, RepWs K F H vs ws → datWs ws = some ds → Views K F H vs ds
  | _, _, _, .nil, h => by cases h; exact .nil
  | _, _, _, .cons (w := w) (ws := ws) r t, h => by
    have h : (if w.opq then none else (datWs ws).map (datW w :: ·)) = some _ := h
    cases ho : w.opq with
    | true => rw [ho, if_pos rfl] at h; cases h
    | false =>
      rw [ho, if_neg Bool.false_ne_true] at h
      obtain ⟨ds, h1, rfl⟩ := Option.map_eq_some_iff.mp h
      exact .cons (RepW.view e r ho) (RepWs.views e t h1)
def opG (g : List D → Option W) (fs : List G) : G := fun env => match evsG fs env with
  | some ws => match datWs ws with
    | some ds => g ds
    | none => none
  | none => none
section
variable {X : Cx} {e : Expr} {es : List Expr} {f : G} {fs : List G}
theorem ga_nil : EaG X [] [] := PA.imp pa_nil fun σ H Q h => by
  obtain ⟨F, env, own, S, h⟩ := h
  exact h [] F H (Grow.refl S.ex) .nil
theorem ga_cons (ha : EvG X e f) (hr : EaG X es fs) (hs : starEach (e :: es) X.env = (false, eval e X.env) :: starEach es X.env := by rfl) : EaG X (e :: es) (f :: fs) := PA.imp (pa_cons ha hr hs) fun σ H Q h => by
  obtain ⟨F, env, own, S, h⟩ := h
  unfold evsG at h
  refine ⟨F, env, own, S, ?_⟩
  cases e1 : f env with
  | none => rw [e1] at h; exact h.elim
  | some w =>
    cases e2 : evsG fs env with
    | none => rw [e1, e2] at h; exact h.elim
    | some ws =>
      rw [e1, e2] at h
      intro v F1 H1 p g r
      refine ⟨F1, env, own, g.sit S, ?_⟩
      rw [e2]
      intro vs F2 H2 g2 rs
      exact h _ _ _ (g.drop.trans g2) (.cons (g2.repW r) rs)
theorem aOfG_op {K : PySem.W.Frag} {r : List V → Hp → VK → Prop} {g : List D → Option W} {fs : List G} {σ : L2.St} {H : Hp} {Q : VK} (c : CaD K r g) (h : gOfG K (opG g fs) σ H Q) : aOfG K (evsG fs) σ H fun vs H1 => r vs H1 Q := by
  obtain ⟨F, env, own, S, h⟩ := h
  refine ⟨F, env, own, S, ?_⟩
  unfold opG at h
  cases e : evsG fs env with
  | none => rw [e] at h; exact h.elim
  | some ws =>
    rw [e] at h
    dsimp only at h
    intro vs F1 H1 gr rs
    cases e1 : datWs ws with
    | none => rw [e1] at h; exact h.elim
    | some ds =>
      rw [e1] at h
      dsimp only at h
      cases e2 : g ds with
      | none => rw [e2] at h; exact h.elim
      | some w =>
        rw [e2] at h
        exact c F1 H1 vs ds w Q gr.sub (rs.views gr.sub e1) e2 fun v F' H' p' g' rw' => h v F' H' p' (gr.trans g') rw'
theorem aOfG_1 {K : PySem.W.Frag} {fa : G} {σ : L2.St} {H : Hp} {Q : List V → Hp → Prop} (h : aOfG K (evsG [fa]) σ H Q) : gOfG K fa σ H fun x H1 => Q [x] H1 := by
  obtain ⟨F, env, own, S, h⟩ := h
  refine ⟨F, env, own, S, ?_⟩
  unfold evsG at h
  cases e : fa env with
  | none => rw [e] at h; exact h.elim
  | some w =>
    rw [e] at h
    exact fun v F' H' p g r => h [v] F' H' g.drop (.cons r .nil)
theorem aOfG_cons {K : PySem.W.Frag} {fa : G} {fs : List G} {σ : L2.St} {H : Hp} {Q : List V → Hp → Prop} (h : aOfG K (evsG (fa :: fs)) σ H Q) : gOfG K fa σ H fun x H1 => aOfG K (evsG fs) σ H1 fun xs H2 => Q (x :: xs) H2 := by
  obtain ⟨F, env, own, S, h⟩ := h
  refine ⟨F, env, own, S, ?_⟩
  unfold evsG at h
  cases e : fa env with
  | none => rw [e] at h; exact h.elim
  | some w =>
    rw [e] at h
    intro v F1 H1 p g r
    refine ⟨F1, env, own, g.sit S, ?_⟩
    cases e2 : evsG fs env with
    | none => rw [e2] at h; exact h.elim
    | some ws =>
      rw [e2] at h
      exact fun vs F2 H2 g2 rs => h _ _ _ (g.drop.trans g2) (.cons (g2.repW r) rs)
theorem gOfG_mono {K : PySem.W.Frag} {fa : G} {σ : L2.St} {H : Hp} {Q Q' : VK} (h : gOfG K fa σ H Q) (i : ∀ v H, Q v H → Q' v H) : gOfG K fa σ H Q' := by
  obtain ⟨F, env, own, S, h⟩ := h
  refine ⟨F, env, own, S, ?_⟩
  cases e : fa env with
  | none => rw [e] at h; exact h
  | some w => rw [e] at h; exact fun v F1 H1 p g r => i _ _ (h v F1 H1 p g r)
theorem aOfG_2 {K : PySem.W.Frag} {fa fb : G} {σ : L2.St} {H : Hp} {Q : List V → Hp → Prop} (h : aOfG K (evsG [fa, fb]) σ H Q) : gOfG K fa σ H fun x H1 => gOfG K fb σ H1 fun y H2 => Q [x, y] H2 :=
  gOfG_mono (aOfG_cons h) fun _ _ q => aOfG_1 q
end
section
variable {X : Cx} {a b : Expr} {fa fb : G} {pos p : Pos} {es : List Expr} {e : Expr} {fs : List G} {g : List D → Option W}
theorem g_bin {op : Operator} {r : R2} (ho : OpR X (binaryOp op) r) (cd : CaD X.K (r2 r) g) (ha : EvG X a fa) (hb : EvG X b fb) : EvG X (.BinOp a op b pos) (opG g [fa, fb]) :=
  PE.imp (pe_op ho ha hb) fun σ H Q h => gOfG_mono (aOfG_2 (aOfG_op cd h)) fun _ _ q => gOfG_mono q fun _ _ z => r2_two z
theorem g_un {op : UnaryOp} {r : V → Hp → VK → Prop} (ho : UnR X (unaryOp op) r) (cd : CaD X.K (r1 r) g) (ha : EvG X a fa) : EvG X (.UnaryOp op a pos) (opG g [fa]) :=
  PE.imp (pe_un ho ha) fun σ H Q h => gOfG_mono (aOfG_1 (aOfG_op cd h)) fun _ _ q => r1_one q
theorem g_cmp {op : CmpOp} {r : R2} (ho : OpR X (compareOp op) r) (cd : CaD X.K (r2 r) g) (ha : EvG X a fa) (hb : EvG X b fb) (hm : behindInMarks op b = false) : EvG X (.Compare a [op] [b] pos) (opG g [fa, fb]) :=
  PE.imp (pe_cmpR ho ha hb hm) fun σ H Q h => gOfG_mono (aOfG_2 (aOfG_op cd h)) fun _ _ q => gOfG_mono q fun _ _ z => r2_two z
theorem g_ix {r : R2} (ho : IxR X r) (cd : CaD X.K (r2 r) g) (ha : EvG X a fa) (hb : EvG X b fb) (hs : PlainIx b) : EvG X (.Subscript a b pos) (opG g [fa, fb]) :=
  PE.imp (pe_ix ho ha hb hs) fun σ H Q h => gOfG_mono (aOfG_2 (aOfG_op cd h)) fun _ _ q => gOfG_mono q fun _ _ z => r2_two z
theorem g_callB {id : String} {x : Str} {r : List V → Hp → VK → Prop} (hc : CallR X (.builtin id) r) (cd : CaD X.K r g) (hg : Gl X x) (hm : X.mg x = none) (hv : bootBuiltins x = some (.builtin id)) (ha : EaG X (e :: es) fs) (hn : x ≠ "__name__" := by decide) (hdb : (x == ("__debug__" : Str)) = false := by decide)
    (he : starEach (e :: es) X.env = (false, eval e X.env) :: starEach es X.env := by rfl) (hpl : (backTo pos (starEach es X.env)).any (·.1) = false := by rfl) : EvG X (.Call (.Name x p) (e :: es) [] pos) (opG g fs) :=
  PE.imp (pe_callB hc hg hm hv ha hn hdb he hpl) fun σ H Q h => aOfG_op cd h
theorem g_callTy {T : String} {x : Str} {r : List V → Hp → VK → Prop} (hc : CallR X (.type T) r) (cd : CaD X.K r g) (hg : Gl X x) (hm : X.mg x = none) (hv : bootBuiltins x = some (.type T)) (ha : EaG X (e :: es) fs) (hn : x ≠ "__name__" := by decide) (hdb : (x == ("__debug__" : Str)) = false := by decide)
    (he : starEach (e :: es) X.env = (false, eval e X.env) :: starEach es X.env := by rfl) (hpl : (backTo pos (starEach es X.env)).any (·.1) = false := by rfl) : EvG X (.Call (.Name x p) (e :: es) [] pos) (opG g fs) :=
  PE.imp (pe_callTy hc hg hm hv ha hn hdb he hpl) fun σ H Q h => aOfG_op cd h
/-- a constant -/
def cG (d : D) : G := fun _ => some (.v d)
theorem g_const {v : V} {d : D} (he : PE X e (tC v)) (r : ∀ F, RepD X.K F v d) : EvG X e (cG d) := PE.imp he fun σ H Q h => by
  obtain ⟨F, env, own, S, h⟩ := h
  exact h v F H (fun _ => False) (Grow.refl S.ex) (RepW.ofRep (r F))
theorem g_int {i : Int} {j : Nat} : EvG X (.Constant (.int i) j pos) (cG (.int i)) := g_const pe_int fun _ => .int i
theorem g_bl {i : Bool} {j : Nat} : EvG X (.Constant (.bool i) j pos) (cG (.bl i)) := g_const pe_bl fun _ => .bl i
theorem g_non {j : Nat} : EvG X (.Constant .none j pos) (cG .non) := g_const pe_non fun _ => .non
/-- a name that holds data -/
def vG (i : Nat) : G := fun env => match env[i]? with
  | some (some (.v d)) => some (.v d)
  | _ => none
theorem g_var (i : Nat) {x : Str} (hN : X.N[i]? = some x := by rfl) (hv : Vis X.env.scope x := by first | exact Or.inl rfl | exact Or.inr (Or.inl rfl) | exact Or.inr (Or.inr rfl)) (hd : (x == ("__debug__" : Str)) = false := by decide)
    (hcd : (x == ("__classdict__" : Str)) = false := by decide) : EvG X (.Name x pos) (vG i) := PE.imp (pe_var hN hv hd hcd) fun σ H Q h => by
  obtain ⟨F, env, own, S, h⟩ := h
  unfold vG at h
  split at h
  · rename_i w heq
    split at heq
    · rename_i d hw
      cases heq
      obtain ⟨v, hs, r⟩ := S.rep i _ hw
      exact ⟨v, hs, h v F H (fun _ => False) (Grow.refl S.ex) (RepW.ofRep r.2)⟩
    · cases heq
  · exact h.elim
end
end DL

/-! Things of classes: their attributes. -/
namespace DL
open PySem PySem.Spec PyProof.Rows L2

/-! ### names and values side by side -/
theorem lookup_zip : ∀ {ns : List Str} {vs : List V} {j : Nat} {f : Str}, ns.Nodup → ns[j]? = some f → (ns.zip vs).lookup f = vs[j]?
  | [], _, _, _, _, h => by simp at h
  | n :: ns, [], j, f, _, _ => by simp
  | n :: ns, v :: vs, 0, f, nd, h => by
    have : n = f := by simpa using h
    subst this
    simp
  | n :: ns, v :: vs, j + 1, f, nd, h => by
    have hm : f ∈ ns := List.mem_of_getElem? (i := j) (by simpa using h)
    have ne : ¬ f = n := fun z => (List.nodup_cons.mp nd).1 (z ▸ hm)
    have hb : (f == n) = false := beq_eq_false_iff_ne.mpr ne
    rw [List.zip_cons_cons, List.lookup_cons, hb, List.getElem?_cons_succ]
    exact lookup_zip (List.nodup_cons.mp nd).2 (by simpa using h)
theorem lookup_zip_none {m : Str} : ∀ {ns : List Str} {vs : List V}, m ∉ ns → (ns.zip vs).lookup m = none
  | [], _, _ => by simp
  | n :: ns, [], _ => by simp
  | n :: ns, v :: vs, h => by
    have hb : (m == n) = false := beq_eq_false_iff_ne.mpr fun z => h (by simp [z])
    rw [List.zip_cons_cons, List.lookup_cons, hb]
    exact lookup_zip_none fun z => h (List.mem_cons_of_mem _ z)
theorem putF_set {y : V} : ∀ {ns : List Str} {vs : List V} {j : Nat} {f : Str}, ns.Nodup → ns[j]? = some f → j < vs.length → putF f y (ns.zip vs) = ns.zip (vs.set j y)
  | [], _, _, _, _, h, _ => by simp at h
  | n :: ns, [], j, f, _, _, hj => by simp at hj
  | n :: ns, v :: vs, 0, f, nd, h, _ => by
    have : n = f := by simpa using h
    subst this
    rw [List.zip_cons_cons, putF, if_pos rfl]
    rfl
  | n :: ns, v :: vs, j + 1, f, nd, h, hj => by
    have hm : f ∈ ns := List.mem_of_getElem? (i := j) (by simpa using h)
    have ne : ¬ n = f := fun z => (List.nodup_cons.mp nd).1 (z ▸ hm)
    rw [List.zip_cons_cons, putF, if_neg ne, List.set_cons_succ, List.zip_cons_cons, putF_set (List.nodup_cons.mp nd).2 (by simpa using h) (by simpa using hj)]
theorem putF_new {y : V} : ∀ {ns : List Str} {vs : List V} {f : Str}, ns.Nodup → ns[vs.length]? = some f → putF f y (ns.zip vs) = ns.zip (vs ++ [y])
  | [], _, _, _, h => by simp at h
  | n :: ns, [], f, _, h => by
    have : n = f := by simpa using h
    subst this
    simp [putF]
  | n :: ns, v :: vs, f, nd, h => by
    have hm : f ∈ ns := List.mem_of_getElem? (i := vs.length) (by simpa using h)
    have ne : ¬ n = f := fun z => (List.nodup_cons.mp nd).1 (z ▸ hm)
    rw [List.zip_cons_cons, putF, if_neg ne, List.cons_append, List.zip_cons_cons, putF_new (List.nodup_cons.mp nd).2 (by simpa using h)]

/-! ### what is known of a class -/
structure ClsF (K : PySem.W.Frag) (c : Str) (ns : List Str) : Prop where
  ex : ∃ C, PySem.W.nsIn K mainGlobals c = some (some (.ref C)) ∧ Cls K C ∧ ∀ f ∈ ns, NoAttr K C f
def datW0 : W0 → D
  | .v d => d
  | .l ds => .lst ds
  | .d k ks ds => .dix k ks ds
section
variable {K : PySem.W.Frag} {F H F1 H1 : Hp} {σ : L2.St} {env : DEnv} {own : Nat → Fp} {p : Fp}
theorem RepW0.view {v : V} {w : W0} {p : Fp} (e : Same F H) (r : RepW0 K F H v w p) : View K F H v (datW0 w) := by
  cases w with
  | v d => exact View.of e r.2
  | l ds =>
    obtain ⟨a, vs, rfl, _, hc, _, q⟩ := r
    exact ⟨a, vs, rfl, .inl hc, q⟩
  | d k ks ds =>
    obtain ⟨a, o, us, vs, rfl, _, hc, _, hk, r1, r2⟩ := r
    exact ⟨a, o, us, vs, rfl, hc, hk, r1, r2⟩
theorem RepW0s.get : ∀ {vs : List V} {ws : List W0} {p : Fp} {j : Nat} {w : W0}, RepW0s K F H vs ws p → ws[j]? = some w → ∃ v, ∃ q : Fp, vs[j]? = some v ∧ RepW0 K F H v w q ∧ ∀ a, q a → p a
  | [], [], _, _, _, _, h => by simp at h
  | v :: vs, w :: ws, p, 0, w', r, h => by
    obtain ⟨p1, p2, hp, _, r1, _⟩ := r
    simp at h
    subst h
    exact ⟨v, p1, rfl, r1, fun a z => (hp a).mpr (.inl z)⟩
  | v :: vs, w :: ws, p, j + 1, w', r, h => by
    obtain ⟨p1, p2, hp, _, _, r2⟩ := r
    obtain ⟨v', q, h1, h2, h3⟩ := RepW0s.get r2 (j := j) (by simpa using h)
    exact ⟨v', q, by simpa using h1, h2, fun a z => (hp a).mpr (.inr (h3 a z))⟩
  | [], _ :: _, _, _, _, r, _ => r.elim
  | _ :: _, [], _, _, _, r, _ => r.elim
/-- what the i-th name's attribute holds -/
theorem Sit.fld {i j : Nat} {b : Bool} {c f : Str} {ns : List Str} {ws : List W0} {w : W0} (S : Sit K F σ H env own) (T : ClsF K c ns) (nd : ns.Nodup) (hf : ns[j]? = some f) (hw : env[i]? = some (some (.x (.o b c ns ws)))) (hj : ws[j]? = some w) :
    ∃ a C dx fs v, ∃ q : Fp, σ[i]? = some (some (.ref a)) ∧ H a = some (.ins C dx fs) ∧ Cls K C ∧ NoAttr K C f ∧ fs.lookup f = some v ∧ RepW0 K F H v w q := by
  obtain ⟨v, hv, a, dx, C, vs, p0, rfl, hc, h1, h2, f1, f2, hl, r, hp, n1, n2⟩ := S.rep i _ hw
  obtain ⟨C', hc', cl, na⟩ := T.ex
  rw [hc] at hc'
  cases hc'
  obtain ⟨v, q, hvj, rv, _⟩ := r.get hj
  exact ⟨a, C, dx, _, v, q, hv, h1, cl, na f (List.mem_of_getElem? hf), by rw [lookup_zip nd hf]; exact hvj, rv⟩
end
/-! ### what is read as it stands -/
def vOf (K : PySem.W.Frag) (f : DEnv → Option D) : TE := fun σ H Q => ∃ F env own, Sit K F σ H env own ∧ match f env with
  | some d => ∀ v, View K F H v d → Q v H
  | none => False
abbrev EvV (X : Cx) (e : Expr) (f : DEnv → Option D) : Prop := PE X e (vOf X.K f)
def nameV (i : Nat) : DEnv → Option D := fun env => dat env (.b i)
def fldW (i : Nat) (c : Str) (ns : List Str) (j : Nat) (env : DEnv) : Option W0 := match env[i]? with
  | some (some (.x (.o _ c' ns' ws))) => if c' = c ∧ ns' = ns then ws[j]? else none
  | _ => none
def fldV (i : Nat) (c : Str) (ns : List Str) (j : Nat) : DEnv → Option D := fun env => (fldW i c ns j env).map datW0
def fG (i : Nat) (c : Str) (ns : List Str) (j : Nat) : G := fun env => match fldW i c ns j env with
  | some (.v d) => some (.v d)
  | _ => none
theorem fldW_some {i j : Nat} {c : Str} {ns : List Str} {env : DEnv} {w : W0} (h : fldW i c ns j env = some w) : ∃ b ws, env[i]? = some (some (.x (.o b c ns ws))) ∧ ws[j]? = some w := by
  unfold fldW at h
  split at h
  · rename_i b c' ns' ws hw
    split at h
    · rename_i hc
      obtain ⟨rfl, rfl⟩ := hc
      exact ⟨b, ws, hw, h⟩
    · cases h
  · cases h
section
variable {X : Cx} {i j : Nat} {x c f : Str} {ns : List Str} {pos p : Pos}
theorem v_var (hN : X.N[i]? = some x := by rfl) (hv : Vis X.env.scope x := by first | exact Or.inl rfl | exact Or.inr (Or.inl rfl) | exact Or.inr (Or.inr rfl)) (hd : (x == ("__debug__" : Str)) = false := by decide) (hcd : (x == ("__classdict__" : Str)) = false := by decide) :
    EvV X (.Name x pos) (nameV i) := PE.imp (pe_var hN hv hd hcd) fun σ H Q h => by
  obtain ⟨F, env, own, S, h⟩ := h
  unfold nameV at h
  cases e : dat env (.b i) with
  | none => rw [e] at h; exact h.elim
  | some d =>
    rw [e] at h
    have e0 := e
    have e : (match env[i]? with | some (some w) => (if w.opq then none else some (datW w)) | _ => none) = some d := e
    split at e
    · rename_i w hw
      obtain ⟨v, hs, r⟩ := S.rep i _ hw
      exact ⟨v, hs, h v (RepU.view S (u := .b i) (p := fun _ => False) ⟨fun _ z => z, hs⟩ e0)⟩
    · cases e
theorem v_fld (T : ClsF X.K c ns) (nd : ns.Nodup) (hf : ns[j]? = some f) (hN : X.N[i]? = some x := by rfl) (hv : Vis X.env.scope x := by first | exact Or.inl rfl | exact Or.inr (Or.inl rfl) | exact Or.inr (Or.inr rfl)) (hd : (x == ("__debug__" : Str)) = false := by decide) (hcd : (x == ("__classdict__" : Str)) = false := by decide)
    (hb : attributeBase (.Name x p) f X.env (eval (.Name x p) X.env) = eval (.Name x p) X.env := by rfl) : EvV X (.Attribute (.Name x p) f pos) (fldV i c ns j) := PE.imp (pe_fld (pe_var hN hv hd hcd) hb) fun σ H Q h => by
  obtain ⟨F, env, own, S, h⟩ := h
  unfold fldV at h
  cases e : fldW i c ns j env with
  | none => rw [e] at h; exact h.elim
  | some w =>
    rw [e] at h
    obtain ⟨b, ws, hw, hj⟩ := fldW_some e
    obtain ⟨a, C, dx, fs, v, q, h1, h2, h3, h4, h5, r⟩ := S.fld T nd hf hw hj
    exact ⟨.ref a, h1, a, C, dx, fs, v, rfl, h2, h3, h4, h5, h v (r.view S.ex)⟩
theorem g_fld (T : ClsF X.K c ns) (nd : ns.Nodup) (hf : ns[j]? = some f) (hN : X.N[i]? = some x := by rfl) (hv : Vis X.env.scope x := by first | exact Or.inl rfl | exact Or.inr (Or.inl rfl) | exact Or.inr (Or.inr rfl)) (hd : (x == ("__debug__" : Str)) = false := by decide) (hcd : (x == ("__classdict__" : Str)) = false := by decide)
    (hb : attributeBase (.Name x p) f X.env (eval (.Name x p) X.env) = eval (.Name x p) X.env := by rfl) : EvG X (.Attribute (.Name x p) f pos) (fG i c ns j) := PE.imp (pe_fld (pe_var hN hv hd hcd) hb) fun σ H Q h => by
  obtain ⟨F, env, own, S, h⟩ := h
  unfold fG at h
  split at h
  · rename_i w heq
    split at heq
    · rename_i d e
      cases heq
      obtain ⟨b, ws, hw, hj⟩ := fldW_some e
      obtain ⟨a, C, dx, fs, v, q, h1, h2, h3, h4, h5, r⟩ := S.fld T nd hf hw hj
      exact ⟨.ref a, h1, a, C, dx, fs, v, rfl, h2, h3, h4, h5, h v F H (fun _ => False) (Grow.refl S.ex) (RepW.ofRep r.2)⟩
    · cases heq
  · exact h.elim
end
/-! ### operations whose first part is read as it stands -/
def opV (g : List D → Option W) (fv : DEnv → Option D) (fs : List G) : G := fun env => match fv env, evsG fs env with
  | some d, some ws => match datWs ws with
    | some ds => g (d :: ds)
    | none => none
  | _, _ => none
/-- the first part last -/
def opVr (g : List D → Option W) (fa : G) (fv : DEnv → Option D) : G := fun env => match fa env, fv env with
  | some w, some d => if w.opq then none else g [datW w, d]
  | _, _ => none
section
variable {K : PySem.W.Frag} {r : List V → Hp → VK → Prop} {g : List D → Option W} {fv : DEnv → Option D} {fs : List G} {σ : L2.St} {H : Hp} {Q : VK}
theorem opV_sem (c : CaD K r g) (h : gOfG K (opV g fv fs) σ H Q) : vOf K fv σ H fun v H1 => aOfG K (evsG fs) σ H1 fun vs H2 => r (v :: vs) H2 Q := by
  obtain ⟨F, env, own, S, h⟩ := h
  refine ⟨F, env, own, S, ?_⟩
  unfold opV at h
  cases e : fv env with
  | none => rw [e] at h; exact h.elim
  | some d =>
    rw [e] at h
    intro v vw
    refine ⟨F, env, own, S, ?_⟩
    cases e1 : evsG fs env with
    | none => rw [e1] at h; exact h.elim
    | some ws =>
      rw [e1] at h
      dsimp only at h
      intro vs F1 H1 gr rs
      cases e2 : datWs ws with
      | none => rw [e2] at h; exact h.elim
      | some ds =>
        rw [e2] at h
        dsimp only at h
        cases e3 : g (d :: ds) with
        | none => rw [e3] at h; exact h.elim
        | some w =>
          rw [e3] at h
          exact c F1 H1 (v :: vs) (d :: ds) w Q gr.sub (.cons (vw.mono gr.exF gr.exH) (rs.views gr.sub e2)) e3 fun v F' H' p' g' rw' => h v F' H' p' (gr.trans g') rw'
theorem opVr_sem {fa : G} (c : CaD K r g) (h : gOfG K (opVr g fa fv) σ H Q) : gOfG K fa σ H fun x H1 => vOf K fv σ H1 fun v H2 => r [x, v] H2 Q := by
  obtain ⟨F, env, own, S, h⟩ := h
  refine ⟨F, env, own, S, ?_⟩
  unfold opVr at h
  cases e : fa env with
  | none => rw [e] at h; exact h.elim
  | some w =>
    rw [e] at h
    intro x F1 H1 p gr rx
    refine ⟨F1, env, own, gr.sit S, ?_⟩
    cases e1 : fv env with
    | none => rw [e1] at h; exact h.elim
    | some d =>
      rw [e1] at h
      dsimp only at h
      intro v vw
      cases ho : w.opq with
      | true => rw [ho, if_pos rfl] at h; exact h.elim
      | false =>
        rw [ho, if_neg Bool.false_ne_true] at h
        cases e3 : g [datW w, d] with
        | none => rw [e3] at h; exact h.elim
        | some w' =>
          rw [e3] at h
          exact c F1 H1 [x, v] [datW w, d] w' Q gr.sub (.cons (RepW.view gr.sub rx ho) (.cons vw .nil)) e3 fun v F' H' p' g' rw' => h v F' H' p' (gr.trans g') rw'
end
section
variable {X : Cx} {a b lo hi : Expr} {fv : DEnv → Option D} {fb fl fh : G} {pos p p2 : Pos} {g : List D → Option W}
theorem vOf_mono {K : PySem.W.Frag} {σ : L2.St} {H : Hp} {Q Q' : VK} (h : vOf K fv σ H Q) (i : ∀ v H, Q v H → Q' v H) : vOf K fv σ H Q' := by
  obtain ⟨F, env, own, S, h⟩ := h
  refine ⟨F, env, own, S, ?_⟩
  cases e : fv env with
  | none => rw [e] at h; exact h
  | some w => rw [e] at h; exact fun v q => i _ _ (h v q)
theorem aOfG_0 {K : PySem.W.Frag} {σ : L2.St} {H : Hp} {Q : List V → Hp → Prop} (h : aOfG K (evsG []) σ H Q) : Q [] H := by
  obtain ⟨F, env, own, S, h⟩ := h
  exact h [] F H (Grow.refl S.ex) .nil
/-- f(a), a built-in -/
theorem gv_callB {id : String} {x : Str} {r : List V → Hp → VK → Prop} (hc : CallR X (.builtin id) r) (cd : CaD X.K r g) (hg : Gl X x) (hm : X.mg x = none) (hv : bootBuiltins x = some (.builtin id)) (ha : EvV X a fv) (hn : x ≠ "__name__" := by decide) (hdb : (x == ("__debug__" : Str)) = false := by decide)
    (he : starEach [a] X.env = (false, eval a X.env) :: starEach [] X.env := by rfl) (hpl : (backTo pos (starEach [] X.env)).any (·.1) = false := by rfl) : EvG X (.Call (.Name x p) [a] [] pos) (opV g fv []) :=
  PE.imp (pe_callB hc hg hm hv (pa_cons ha pa_nil he) hn hdb he hpl) fun σ H Q h => vOf_mono (opV_sem cd h) fun _ _ q => aOfG_0 q
theorem gv_ix {r : R2} (ho : IxR X r) (cd : CaD X.K (r2 r) g) (ha : EvV X a fv) (hb : EvG X b fb) (hs : PlainIx b) : EvG X (.Subscript a b pos) (opV g fv [fb]) :=
  PE.imp (pe_ix ho ha hb hs) fun σ H Q h => vOf_mono (opV_sem cd h) fun _ _ q => gOfG_mono (aOfG_1 q) fun _ _ z => r2_two z
theorem gv_cmpL {op : CmpOp} {r : R2} (ho : OpR X (compareOp op) r) (cd : CaD X.K (r2 r) g) (ha : EvV X a fv) (hb : EvG X b fb) (hm : behindInMarks op b = false) : EvG X (.Compare a [op] [b] pos) (opV g fv [fb]) :=
  PE.imp (pe_cmpR ho ha hb hm) fun σ H Q h => vOf_mono (opV_sem cd h) fun _ _ q => gOfG_mono (aOfG_1 q) fun _ _ z => r2_two z
theorem gv_cmpR {op : CmpOp} {r : R2} (ho : OpR X (compareOp op) r) (cd : CaD X.K (r2 r) g) (ha : EvG X a fb) (hb : EvV X b fv) (hm : behindInMarks op b = false) : EvG X (.Compare a [op] [b] pos) (opVr g fb fv) :=
  PE.imp (pe_cmpR ho ha hb hm) fun σ H Q h => gOfG_mono (opVr_sem cd h) fun _ _ q => vOf_mono q fun _ _ z => r2_two z
theorem gv_slL (ha : EvV X a fv) (hl : EvG X lo fl) : EvG X (.Subscript a (.Slice (some lo) none none p2) pos) (opV gSlL fv [fl]) :=
  PE.imp (pe_slice sl_all ha (po_some hl) po_none) fun σ H Q h => vOf_mono (opV_sem cd_slL h) fun _ _ q => gOfG_mono (aOfG_1 q) fun _ _ z => by
    obtain ⟨x, i, e, z⟩ := z
    cases e
    exact ⟨i, rfl, z⟩
theorem gv_slH (ha : EvV X a fv) (hl : EvG X hi fh) : EvG X (.Subscript a (.Slice none (some hi) none p2) pos) (opV gSlH fv [fh]) :=
  PE.imp (pe_slice sl_all ha po_none (po_some hl)) fun σ H Q h => vOf_mono (opV_sem cd_slH h) fun _ _ q => gOfG_mono (aOfG_1 q) fun _ _ z => by
    obtain ⟨x, i, e, z⟩ := z
    cases e
    exact ⟨i, rfl, z⟩
end
/-! ### a tuple of data -/
def allV : List W → Option (List D)
  | [] => some []
  | .v d :: ws => (allV ws).map (d :: ·)
  | _ => none
theorem RepWs.allV {K : PySem.W.Frag} {F H : Hp} : ∀ {vs : List V} {ws : List W} {ds : List D}, RepWs K F H vs ws → DL.allV ws = some ds → RepDs K F vs ds
  | _, _, _, .nil, h => by cases h; exact .nil
  | _, .v d :: ws, _, .cons r t, h => by
    have h : (DL.allV ws).map (d :: ·) = some _ := h
    obtain ⟨ds, h1, rfl⟩ := Option.map_eq_some_iff.mp h
    exact .cons r.2 (RepWs.allV t h1)
  | _, .l _ _ :: _, _, .cons r t, h => by cases h
  | _, .m _ _ :: _, _, .cons r t, h => by cases h
  | _, .x _ :: _, _, .cons r t, h => by cases h
def tupG (fs : List G) : G := fun env => match evsG fs env with
  | some ws => (match allV ws with
    | some ds => if ds.length ≤ 1000000 then some (.v (.tup ds)) else none
    | none => none)
  | none => none
theorem gg_tup {X : Cx} {es : List Expr} {fs : List G} {n : Nat} {pos : Pos} (h : EaG X es fs) : EvG X (.Tuple es n pos) (tupG fs) := PE.imp (pe_tup h) fun σ H Q h => by
  obtain ⟨F, env, own, S, h⟩ := h
  refine ⟨F, env, own, S, ?_⟩
  unfold tupG at h
  cases e : evsG fs env with
  | none => rw [e] at h; exact h.elim
  | some ws =>
    rw [e] at h
    dsimp only at h
    intro vs F1 H1 gr rs
    cases e1 : allV ws with
    | none => rw [e1] at h; exact h.elim
    | some ds =>
      rw [e1] at h
      dsimp only at h
      have rd := rs.allV e1
      by_cases hl : ds.length ≤ 1000000
      · rw [if_pos hl] at h
        exact ⟨szm (by rw [rd.length]; exact hl), fin_tup gr.sub rd fun v F' H' p g' r' => h v F' H' p (gr.trans g') r'⟩
      · rw [if_neg hl] at h
        exact h.elim
end DL

/-! Things of classes: their attributes stored, and changed in place. -/
namespace DL
open PySem PySem.Spec PyProof.Rows L2
section
variable {K : PySem.W.Frag} {F H F1 H1 F' H' : Hp} {σ : L2.St} {env : DEnv} {own : Nat → Fp} {p t : Fp}
/-- what was made is let stand for good -/
theorem Grow.frz {v : V} {w : W} (g : Grow F H F1 H1 p) (r : RepW K F1 H1 v w p) (ho : w.opq = false) : ∃ F2, Grow F H F2 H1 (fun _ => False) ∧ RepD K F2 v (datW w) := by
  have key : ∀ {a : Addr} {o : HO}, p a → H1 a = some o → F1 a = none → Grow F H (upd F1 a o) H1 (fun _ => False) := fun {a o} pa h1 f1 => by
    have ha := g.np a pa
    refine ⟨g.exF.trans (same_upd f1), g.exH, fun x u h => ?_, fun x u h n => ?_, fun _ h => h.elim⟩
    · by_cases z : x = a
      · subst z; rw [upd_same] at h; rw [h1]; exact h
      · rw [upd_ne z] at h; exact g.sub x u h
    · by_cases z : x = a
      · rw [z]; exact ha
      · rw [upd_ne z] at h; exact g.fr x u h n
  cases w with
  | v d => exact ⟨F1, g.drop, r.2⟩
  | l b ds =>
    obtain ⟨a, vs, rfl, hp, hH, hF, rr⟩ := r
    exact ⟨_, key ((hp a).mpr rfl) hH hF, .lst (.inl upd_same) (rr.mono (same_upd hF))⟩
  | m ks ds =>
    obtain ⟨a, vs, rfl, hp, hH, hF, hk, rr⟩ := r
    exact ⟨_, key ((hp a).mpr rfl) hH hF, .dic upd_same hk (rr.mono (same_upd hF))⟩
  | x y =>
    cases y with
    | d k ks ds =>
      obtain ⟨a, o, us, vs, rfl, hp, hH, hF, hk, r1, r2⟩ := r
      exact ⟨_, key ((hp a).mpr rfl) hH hF, .dix upd_same hk (r1.mono (same_upd hF)) (r2.mono (same_upd hF))⟩
    | o b c ns ws => cases ho
    | t ws => cases ho
/-- what the i-th name holds is another one -/
theorem Sit.repl {i : Nat} {v : V} {w : W} {p' : Fp} (S : Sit K F σ H env own) (hi : i < env.length) (hσ : σ[i]? = some (some v)) (dt : ∀ a, t a → ¬ all own a) (ex : Same F' H') (exF : Same F F')
    (keep : ∀ a o, H a = some o → ¬ own i a → ¬ t a → H' a = some o) (fr : ∀ a o, F' a = some o → F a = none → H a = none ∨ own i a ∨ t a) (r : RepW K F' H' v w p') (np : ∀ a, p' a → H a = none ∨ own i a ∨ t a) :
    ∃ own', Sit K F' σ H' (env.set i (some w)) own' ∧ Step F H (fun a => all own a ∨ t a) F' H' (all own') := by
  have other : ∀ j a, j ≠ i → own j a → ¬ (H a = none ∨ own i a ∨ t a) := fun j a hj h z => by
    rcases z with z | z | z
    · obtain ⟨⟨o, e⟩, _⟩ := S.there ⟨j, h⟩
      rw [z] at e
      cases e
    · exact hj (S.dis j i a h z)
    · exact dt a z ⟨j, h⟩
  refine ⟨fun j a => (j = i ∧ p' a) ∨ (j ≠ i ∧ own j a), ⟨ex, by rw [List.length_set]; exact S.len, fun j w' e => ?_, fun j a z => ?_, fun j k a z1 z2 => ?_⟩, exF, fun a o h n => keep a o h (fun z => n (.inl ⟨i, z⟩)) (fun z => n (.inr z)), fun a z => ?_, fun a o h n => ?_⟩
  · by_cases hj : j = i
    · subst hj
      rw [List.getElem?_set_self hi] at e
      cases e
      refine ⟨v, hσ, ?_⟩
      have e2 : (fun a => (j = j ∧ p' a) ∨ (j ≠ j ∧ own j a)) = p' := funext fun a => propext ⟨fun z => z.elim (fun y => y.2) fun y => absurd rfl y.1, fun z => .inl ⟨rfl, z⟩⟩
      show RepW K F' H' v w (fun a => (j = j ∧ p' a) ∨ (j ≠ j ∧ own j a))
      rw [e2]
      exact r
    · rw [List.getElem?_set_ne (Ne.symm hj)] at e
      obtain ⟨v', e1, r'⟩ := S.rep j w' e
      refine ⟨v', e1, ?_⟩
      have e2 : (fun a => (j = i ∧ p' a) ∨ (j ≠ i ∧ own j a)) = own j := funext fun a => propext ⟨fun z => z.elim (fun y => absurd y.1 hj) fun y => y.2, fun z => .inr ⟨hj, z⟩⟩
      show RepW K F' H' v' w' (fun a => (j = i ∧ p' a) ∨ (j ≠ i ∧ own j a))
      rw [e2]
      refine r'.frame exF (fun a o q h => keep a o h (fun z => other j a hj q (.inr (.inl z))) (fun z => other j a hj q (.inr (.inr z)))) fun a q => ?_
      cases z : F' a with
      | none => rfl
      | some u => exact absurd (fr a u z (r'.there q).2) (other j a hj q)
  · rcases z with ⟨rfl, _⟩ | ⟨hj, z⟩
    · exact ⟨w, List.getElem?_set_self hi⟩
    · obtain ⟨w', e⟩ := S.emp j a z
      exact ⟨w', by rw [List.getElem?_set_ne (Ne.symm hj)]; exact e⟩
  · rcases z1 with ⟨h1, y1⟩ | ⟨h1, y1⟩ <;> rcases z2 with ⟨h2, y2⟩ | ⟨h2, y2⟩
    · rw [h1, h2]
    · exact absurd (np a y1) (other k a h2 y2)
    · exact absurd (np a y2) (other j a h1 y1)
    · exact S.dis j k a y1 y2
  · obtain ⟨j, z⟩ := z
    rcases z with ⟨_, z⟩ | ⟨_, z⟩
    · rcases np a z with y | y | y
      · exact .inr y
      · exact .inl (.inl ⟨i, y⟩)
      · exact .inl (.inr y)
    · exact .inl (.inl ⟨j, z⟩)
  · rcases fr a o h n with y | y | y
    · exact .inr y
    · exact .inl (.inl ⟨i, y⟩)
    · exact .inl (.inr y)
/-- one of what the attributes hold is another one -/
theorem RepW0s.upd : ∀ {vs : List V} {ws : List W0} {p : Fp} {j : Nat} {w : W0}, RepW0s K F H vs ws p → ws[j]? = some w → ∃ v, ∃ q : Fp, vs[j]? = some v ∧ RepW0 K F H v w q ∧ (∀ a, q a → p a) ∧
    ∀ {F' H' : Hp} {v' : V} {w' : W0} {q' : Fp}, Same F F' → (∀ a o, p a → ¬ q a → H a = some o → H' a = some o) → (∀ a, p a → ¬ q a → F' a = none) → RepW0 K F' H' v' w' q' → (∀ a, q' a → p a → q a) → RepW0s K F' H' (vs.set j v') (ws.set j w') (fun a => (p a ∧ ¬ q a) ∨ q' a)
  | [], [], _, _, _, _, h => by simp at h
  | v :: vs, w :: ws, p, 0, w0, r, h => by
    obtain ⟨p1, p2, hp, hd, r1, r2⟩ := r
    simp at h
    subst h
    refine ⟨v, p1, rfl, r1, fun a z => (hp a).mpr (.inl z), fun {F' H' v' w' q'} e k n rw' dq => ?_⟩
    refine ⟨q', p2, fun a => ⟨fun z => ?_, fun z => ?_⟩, fun a z y => hd a (dq a z ((hp a).mpr (.inr y))) y, rw', r2.frame e (fun a o z => k a o ((hp a).mpr (.inr z)) fun y => hd a y z) (fun a z => n a ((hp a).mpr (.inr z)) fun y => hd a y z)⟩
    · rcases z with ⟨z, y⟩ | z
      · rcases (hp a).mp z with x | x
        · exact absurd x y
        · exact .inr x
      · exact .inl z
    · rcases z with z | z
      · exact .inr z
      · exact .inl ⟨(hp a).mpr (.inr z), fun y => hd a y z⟩
  | v :: vs, w :: ws, p, j + 1, w0, r, h => by
    obtain ⟨p1, p2, hp, hd, r1, r2⟩ := r
    obtain ⟨v0, q, h1, h2, h3, h4⟩ := RepW0s.upd r2 (j := j) (by simpa using h)
    refine ⟨v0, q, by simpa using h1, h2, fun a z => (hp a).mpr (.inr (h3 a z)), fun {F' H' v' w' q'} e k n rw' dq => ?_⟩
    have h5 := h4 e (fun a o z y => k a o ((hp a).mpr (.inr z)) y) (fun a z y => n a ((hp a).mpr (.inr z)) y) rw' (fun a z y => dq a z ((hp a).mpr (.inr y)))
    have nq : ∀ a, p1 a → ¬ q a := fun a z y => hd a z (h3 a y)
    refine ⟨p1, fun a => (p2 a ∧ ¬ q a) ∨ q' a, fun a => ⟨fun z => ?_, fun z => ?_⟩, fun a z y => ?_, r1.frame e (fun a o z => k a o ((hp a).mpr (.inl z)) (nq a z)) (fun a z => n a ((hp a).mpr (.inl z)) (nq a z)), h5⟩
    · rcases z with ⟨z, y⟩ | z
      · rcases (hp a).mp z with x | x
        · exact .inl x
        · exact .inr (.inl ⟨x, y⟩)
      · exact .inr (.inr z)
    · rcases z with z | ⟨z, y⟩ | z
      · exact .inl ⟨(hp a).mpr (.inl z), nq a z⟩
      · exact .inl ⟨(hp a).mpr (.inr z), y⟩
      · exact .inr z
    · rcases y with ⟨y, _⟩ | y
      · exact hd a z y
      · exact nq a z (dq a y ((hp a).mpr (.inl z)))
  | [], _ :: _, _, _, _, r, _ => r.elim
  | _ :: _, [], _, _, _, r, _ => r.elim
theorem RepW0s.snoc : ∀ {vs : List V} {ws : List W0} {p q : Fp} {v : V} {w : W0}, RepW0s K F H vs ws p → RepW0 K F H v w q → (∀ a, q a → ¬ p a) → RepW0s K F H (vs ++ [v]) (ws ++ [w]) (fun a => p a ∨ q a)
  | [], [], p, q, v, w, r, rw', d => ⟨q, fun _ => False, fun a => ⟨fun z => z.elim (fun y => absurd y (r a)) .inl, fun z => z.elim .inr False.elim⟩, fun _ _ z => z, rw', fun _ z => z⟩
  | v0 :: vs, w0 :: ws, p, q, v, w, r, rw', d => by
    obtain ⟨p1, p2, hp, hd, r1, r2⟩ := r
    refine ⟨p1, fun a => p2 a ∨ q a, fun a => ⟨fun z => ?_, fun z => ?_⟩, fun a z y => ?_, r1, RepW0s.snoc r2 rw' fun a z y => d a z ((hp a).mpr (.inr y))⟩
    · rcases z with z | z
      · rcases (hp a).mp z with y | y
        · exact .inl y
        · exact .inr (.inl y)
      · exact .inr (.inr z)
    · rcases z with z | z | z
      · exact .inl ((hp a).mpr (.inl z))
      · exact .inl ((hp a).mpr (.inr z))
      · exact .inr z
    · rcases y with y | y
      · exact hd a z y
      · exact d a y ((hp a).mpr (.inl z))
  | [], _ :: _, _, _, _, _, r, _, _ => r.elim
  | _ :: _, [], _, _, _, _, r, _, _ => r.elim
end

/-! ### x.f.append(e) -/
def eAppF (i : Nat) (c : Str) (ns : List Str) (j : Nat) (fe : G) : M U := fun env => match env[i]? with
  | some (some (.x (.o b c' ns' ws))) => if c' = c ∧ ns' = ns then (match ws[j]?, fe env with
    | some (.l ds), some w => if w.opq = false ∧ ds.length < 1000000 then .ok (.w (.v .non)) (env.set i (some (.x (.o b c ns (ws.set j (.l (ds ++ [datW w]))))))) else .stuck
    | _, _ => .stuck) else .stuck
  | _ => .stuck
section
variable {X : Cx} {Wx : WX} {e : Expr} {fe : G} {i j : Nat} {x c f : Str} {ns : List Str} {p1 p2 apos cpos : Pos}
theorem e_appF (T : ClsF X.K c ns) (nd : ns.Nodup) (hf : ns[j]? = some f) (he : EvG X e fe) (hN : X.N[i]? = some x := by rfl) (hv : Vis X.env.scope x := by first | exact Or.inl rfl | exact Or.inr (Or.inl rfl) | exact Or.inr (Or.inr rfl)) (hd : (x == ("__debug__" : Str)) = false := by decide) (hcd : (x == ("__classdict__" : Str)) = false := by decide)
    (hb : attributeBase (.Name x p1) f X.env (eval (.Name x p1) X.env) = eval (.Name x p1) X.env := by rfl)
    (hs0 : starEach [e] X.env = (false, eval e X.env) :: starEach [] X.env := by rfl)
    (hbase : attributeBase (.Attribute (.Name x p1) f p2) "append" X.env (eval (.Attribute (.Name x p1) f p2) X.env) = eval (.Attribute (.Name x p1) f p2) X.env := by rfl)
    (hfew : ((backTo cpos (starEach [e] X.env)).all (fun x => !x.1) && (backToKw cpos (keywordEach [] X.env)).all (fun x => x.1.isSome)
      && decide ([e].length + ([] : List Keyword).length + (if ([] : List Keyword).isEmpty then 0 else 1) < 30)) = true := by rfl)
    (hline : (apos.endLine == cpos.line) = true := by rfl) (hplain : (backTo cpos (starEach [] X.env)).any (·.1) = false := by rfl) :
    EvS X Wx (.Call (.Attribute (.Attribute (.Name x p1) f p2) "append" apos) [e] [] cpos) (eAppF i c ns j fe) :=
  PE.imp (pe_bm PySem.F.plainAttrs_list PySem.F.slot_list_append PySem.F.type_list_append mt_append (pe_fld (pe_var hN hv hd hcd) hb) (pa_cons he pa_nil hs0) hbase hfew hline hs0 hplain) fun σ H Q h => by
  obtain ⟨F, env, own, S, h⟩ := h
  unfold eAppF at h
  cases hw : env[i]? with
  | none => rw [hw] at h; exact h.elim
  | some ow =>
    rw [hw] at h
    match ow, hw, h with
    | some (.x (.o b c' ns' ws)), hw, h =>
      dsimp only at h
      by_cases hc : c' = c ∧ ns' = ns
      · rw [if_pos hc] at h
        obtain ⟨rfl, rfl⟩ := hc
        cases hj : ws[j]? with
        | none => rw [hj] at h; exact h.elim
        | some w0 =>
          cases w0 with
          | v d => rw [hj] at h; exact h.elim
          | d k ks ds => rw [hj] at h; exact h.elim
          | l ds =>
            cases hfe : fe env with
            | none => rw [hj, hfe] at h; exact h.elim
            | some w =>
              rw [hj, hfe] at h
              dsimp only at h
              by_cases hcond : w.opq = false ∧ ds.length < 1000000
              · rw [if_pos hcond] at h
                obtain ⟨vv, hvv, a, dx, C, vs, p0, rfl, hcC, h1, h2, f1, f2, hl, r, hp, n1, n2⟩ := S.rep i _ hw
                obtain ⟨C', hc', cl, na⟩ := T.ex
                rw [hcC] at hc'
                cases hc'
                obtain ⟨v, q, hvj, rv, hqp, hupd⟩ := r.upd hj
                obtain ⟨lb, us, rfl, hq, hlH, hlF, rus⟩ := rv
                have ql := (hq lb).mpr rfl
                refine ⟨.ref a, hvv, a, C, dx, _, .ref lb, rfl, h1, cl, na f (List.mem_of_getElem? hf), by rw [lookup_zip nd hf]; exact hvj, ?_⟩
                refine ⟨Or.inl ⟨rfl, us, .inl (.inl hlH)⟩, ?_⟩
                refine ⟨F, env, own, S, ?_⟩
                rw [hfe]
                intro y F1 H1 pw gr ry
                obtain ⟨F2, g2, rd⟩ := gr.frz ry hcond.1
                have none2 : ∀ b, (∃ o, H b = some o) → F b = none → F2 b = none := fun b ⟨o, e⟩ n => by
                  cases z : F2 b with
                  | none => rfl
                  | some u => rw [g2.fr b u z n] at e; cases e
                have hl1 : H1 lb = some (.lst us) := g2.exH _ _ hlH
                refine ⟨lb, us, y, rfl, rfl, hl1, by rw [rus.length]; exact szl hcond.2, ?_⟩
                have hal : a ≠ lb := fun z => n1 (z ▸ hqp lb ql)
                have hdl : dx ≠ lb := fun z => n2 (z ▸ hqp lb ql)
                have rw2 : RepW0 X.K F2 (upd H1 lb (.lst (us ++ [y]))) (.ref lb) (.l (ds ++ [datW w])) q := ⟨lb, us ++ [y], rfl, hq, upd_same, none2 lb ⟨_, hlH⟩ hlF, (rus.mono g2.exF).append (.cons rd .nil)⟩
                have r2 := hupd (H' := upd H1 lb (.lst (us ++ [y]))) g2.exF (fun b o _ nq e => by rw [upd_ne (fun z => nq ((hq b).mpr z))]; exact g2.exH b o e) (fun b pb _ => none2 b (r.there pb).1 (r.there pb).2) rw2 (fun b z _ => z)
                have evs : vs.set j (.ref lb) = vs := by
                  obtain ⟨hjl, e⟩ := List.getElem?_eq_some_iff.mp hvj
                  rw [← e, List.set_getElem_self]
                rw [evs] at r2
                have hp2 : (fun b => (p0 b ∧ ¬ q b) ∨ q b) = p0 := funext fun b => propext ⟨fun z => z.elim (fun y => y.1) (hqp b), fun z => (Classical.em (q b)).elim .inr fun y => .inl ⟨z, y⟩⟩
                rw [hp2] at r2
                have hi : i < env.length := (List.getElem?_eq_some_iff.mp hw).1
                have RX : RepW X.K F2 (upd H1 lb (.lst (us ++ [y]))) (.ref a) (.x (.o b c' ns' (ws.set j (.l (ds ++ [datW w]))))) (own i) :=
                  ⟨a, dx, C, vs, p0, rfl, hcC, by rw [upd_ne hal]; exact g2.exH _ _ h1, by rw [upd_ne hdl]; exact g2.exH _ _ h2, none2 a ⟨_, h1⟩ f1, none2 dx ⟨_, h2⟩ f2, hl, r2, hp, n1, n2⟩
                obtain ⟨own', S', st⟩ := S.repl (t := fun _ => False) (F' := F2) (H' := upd H1 lb (.lst (us ++ [y]))) hi hvv (fun _ z => z.elim)
                  (fun b o e => by
                    have : b ≠ lb := fun z => by rw [z, none2 lb ⟨_, hlH⟩ hlF] at e; cases e
                    rw [upd_ne this]; exact g2.sub b o e) g2.exF
                  (fun b o e no _ => by
                    have : b ≠ lb := fun z => no ((hp b).mpr (.inr (z ▸ hqp lb ql)))
                    rw [upd_ne this]; exact g2.exH b o e)
                  (fun b o e n => .inl (g2.fr b o e n)) RX (fun b z => .inr (.inl z))
                exact h .non F2 (upd H1 lb (.lst (us ++ [y]))) own' (fun _ => False) ((Grow.refl S'.ex).out ⟨S', st.sup fun a z => z.elim id False.elim⟩ RepW.ofNon)
              · rw [if_neg hcond] at h
                exact h.elim
      · rw [if_neg hc] at h
        exact h.elim
    | none, _, h => exact h.elim
    | some (.v _), _, h => exact h.elim
    | some (.l _ _), _, h => exact h.elim
    | some (.m _ _), _, h => exact h.elim
    | some (.x (.d _ _ _)), _, h => exact h.elim
    | some (.x (.t _)), _, h => exact h.elim
end
end DL

namespace DL
open PySem PySem.Spec PyProof.Rows L2
/-! ### x.f = e -/
def toW0 : W → Option W0
  | .v d => some (.v d)
  | .l _ ds => some (.l ds)
  | .x (.d k ks ds) => some (.d k ks ds)
  | _ => none
theorem RepW.toW0 {K : PySem.W.Frag} {F H : Hp} {v : V} {w : W} {w0 : W0} {p : Fp} (r : RepW K F H v w p) (h : DL.toW0 w = some w0) : RepW0 K F H v w0 p := by
  cases w with
  | v d => cases h; exact r
  | l b ds => cases h; exact r
  | m ks ds => cases h
  | x y =>
    cases y with
    | d k ks ds => cases h; exact r
    | o b c ns ws => cases h
    | t ws => cases h
def putFd (j : Nat) (w : W0) (ws : List W0) : Option (List W0) := if j < ws.length then some (ws.set j w) else if j = ws.length then some (ws ++ [w]) else none
def storeF (i : Nat) (c : Str) (ns : List Str) (j : Nat) (w : W) (env : DEnv) : Option DEnv := match toW0 w, env[i]? with
  | some w0, some (some (.x (.o b c' ns' ws))) => if c' = c ∧ ns' = ns then (match putFd j w0 ws with
    | some ws' => some (env.set i (some (.x (.o b c ns ws'))))
    | none => none) else none
  | _, _ => none
def sFldS (i : Nat) (c : Str) (ns : List Str) (j : Nat) (fe : M U) : M Fl := fun env => (fe env).bind fun u e1 => match ownU e1 u with
  | some (w, e2) => (match storeF i c ns j w e2 with
    | some e3 => .ok .next e3
    | none => .stuck)
  | none => .stuck
section
variable {K : PySem.W.Frag} {F H : Hp} {σ : L2.St} {env env' : DEnv} {own : Nat → Fp} {p : Fp}
/-- an attribute is stored to -/
theorem Sit.storeF {i j : Nat} {c f : Str} {ns : List Str} {y : V} {w : W} (S : Sit K F σ H env own) (T : ClsF K c ns) (nd : ns.Nodup) (hf : ns[j]? = some f) (ry : RepW K F H y w p) (dp : ∀ a, p a → ¬ all own a) (h : DL.storeF i c ns j w env = some env') :
    ∃ a C dx fs, σ[i]? = some (some (.ref a)) ∧ H a = some (.ins C dx fs) ∧ Cls K C ∧ NoAttr K C f ∧ fs.length ≤ ns.length ∧ ∃ own', Sit K F σ (upd H a (.ins C dx (putF f y fs))) env' own' ∧ Step F H (fun a => all own a ∨ p a) F (upd H a (.ins C dx (putF f y fs))) (all own') := by
  unfold DL.storeF at h
  split at h
  · rename_i w0 b c' ns' ws hw0 hw
    split at h
    · rename_i hc
      obtain ⟨rfl, rfl⟩ := hc
      split at h
      · rename_i ws' hput
        cases h
        obtain ⟨vv, hvv, a, dx, C, vs, p0, rfl, hcC, h1, h2, f1, f2, hl, r, hp, n1, n2⟩ := S.rep i _ hw
        obtain ⟨C', hc', cl, na⟩ := T.ex
        rw [hcC] at hc'
        cases hc'
        have hi : i < env.length := (List.getElem?_eq_some_iff.mp hw).1
        have r0 := ry.toW0 hw0
        have nown : ∀ b, p b → ¬ own i b := fun b z q => dp b z ⟨i, q⟩
        have hai : own i a := (hp a).mpr (.inl (.inl rfl))
        have hdi : own i dx := (hp dx).mpr (.inl (.inr rfl))
        have hpi : ∀ b, p0 b → own i b := fun b z => (hp b).mpr (.inr z)
        have hdx : dx ≠ a := fun z => by rw [z, h1] at h2; cases h2
        refine ⟨a, C, dx, ns'.zip vs, hvv, h1, cl, na f (List.mem_of_getElem? hf), by rw [List.length_zip]; omega, ?_⟩
        have r0' : ∀ fs', RepW0 K F (L2.upd H a (.ins C dx fs')) y w0 p := fun fs' => r0.frame (Same.refl _) (fun b o z e => by rw [upd_ne (show b ≠ a from fun q => nown b z (by rw [q]; exact hai))]; exact e) (fun b z => (r0.there z).2)
        have hlen := r.length
        have fin : ∀ (vs' : List V) (p0' : Fp), putF f y (ns'.zip vs) = ns'.zip vs' → vs'.length ≤ ns'.length → RepW0s K F (L2.upd H a (.ins C dx (ns'.zip vs'))) vs' ws' p0' → (∀ b, p0' b → p0 b ∨ p b) →
            ∃ own', Sit K F σ (L2.upd H a (.ins C dx (putF f y (ns'.zip vs)))) (env.set i (some (.x (.o b c' ns' ws')))) own' ∧ Step F H (fun a => all own a ∨ p a) F (L2.upd H a (.ins C dx (putF f y (ns'.zip vs)))) (all own') := fun vs' p0' e1 e2 rs sub => by
          rw [e1]
          refine S.repl (t := p) (p' := fun b => (b = a ∨ b = dx) ∨ p0' b) hi hvv dp (fun b o e => ?_) (Same.refl _) (fun b o e no _ => ?_) (fun b o e n => by rw [e] at n; cases n) ⟨a, dx, C, vs', p0', rfl, hcC, upd_same, by rw [upd_ne hdx]; exact h2, f1, f2, e2, rs, fun _ => Iff.rfl, fun z => ?_, fun z => ?_⟩ (fun b z => ?_)
          · have : b ≠ a := fun z => by rw [z, f1] at e; cases e
            rw [upd_ne this]
            exact S.ex b o e
          · rw [upd_ne (show b ≠ a from fun z => no (by rw [z]; exact hai))]
            exact e
          · rcases sub a z with q | q
            · exact n1 q
            · exact nown a q hai
          · rcases sub dx z with q | q
            · exact n2 q
            · exact nown dx q hdi
          · rcases z with (z | z) | z
            · rw [z]; exact .inr (.inl hai)
            · rw [z]; exact .inr (.inl hdi)
            · rcases sub b z with q | q
              · exact .inr (.inl (hpi b q))
              · exact .inr (.inr q)
        unfold putFd at hput
        by_cases hj : j < ws.length
        · rw [if_pos hj] at hput
          cases hput
          obtain ⟨v, q, hvj, rv, hqp, hupd⟩ := r.upd (List.getElem?_eq_getElem hj)
          have e1 := putF_set (y := y) nd hf (vs := vs) (by rw [hlen]; exact hj)
          refine fin (vs.set j y) _ e1 (by rw [List.length_set]; exact hl) (hupd (Same.refl _) (fun b o pb _ e => by rw [upd_ne (show b ≠ a from fun z => n1 (z ▸ pb))]; exact e) (fun b pb _ => (r.there pb).2) (r0' _) (fun b z pb => absurd (hpi b pb) (nown b z))) fun b z => ?_
          rcases z with z | z
          · exact .inl z.1
          · exact .inr z
        · rw [if_neg hj] at hput
          by_cases hj2 : j = ws.length
          · rw [if_pos hj2] at hput
            cases hput
            have hjv : j = vs.length := by rw [hlen]; exact hj2
            have e1 := putF_new (y := y) nd (vs := vs) (f := f) (by rw [← hjv]; exact hf)
            have hjn : j < ns'.length := (List.getElem?_eq_some_iff.mp hf).1
            have rf : RepW0s K F (L2.upd H a (.ins C dx (ns'.zip (vs ++ [y])))) vs ws p0 := r.frame (Same.refl _) (fun b o pb e => by rw [upd_ne (show b ≠ a from fun z => n1 (z ▸ pb))]; exact e) (fun b pb => (r.there pb).2)
            exact fin (vs ++ [y]) (fun b => p0 b ∨ p b) e1 (by rw [List.length_append]; show vs.length + 1 ≤ _; omega) (rf.snoc (r0' _) fun b z pb => nown b z (hpi b pb)) fun b z => z
          · rw [if_neg hj2] at hput
            cases hput
      · cases h
    · cases h
  · cases h
end
section
variable {X : Cx} {Wx : WX} {e : Expr} {fe : M U} {i j : Nat} {x c f : Str} {ns : List Str} {p1 p2 pos : Pos}
theorem s_fldS (T : ClsF X.K c ns) (nd : ns.Nodup) (hf : ns[j]? = some f) (hns : ns.length < 1000) (he : EvS X Wx e fe) (hN : X.N[i]? = some x := by rfl) (hv : Vis X.env.scope x := by first | exact Or.inl rfl | exact Or.inr (Or.inl rfl) | exact Or.inr (Or.inr rfl)) (hd : (x == ("__debug__" : Str)) = false := by decide) (hcd : (x == ("__classdict__" : Str)) = false := by decide)
    (hs : swapsWith e (some (.Attribute (.Name x p1) f p2)) pos.line X.env = pure false := by rfl) : StS X Wx (.Assign [.Attribute (.Name x p1) f p2] e pos) [] (sFldS i c ns j fe) :=
  PS.imp (ps_fld (pe_var hN hv hd hcd) he hs) fun E σ H h => by
  obtain ⟨F, env, own, S, h⟩ := h
  have h : Po X.K X.mg Wx [] E σ F H own (sFldS i c ns j fe env) := h
  unfold sFldS at h
  refine tOf_use S (fun u env1 e1 v1 F1 H1 own1 p O1 => ?_) (fun c' env1 e1 C F1 H1 own1 hm O1 => ?_) (fun e1 => ?_)
  · rw [e1, R.bind_ok] at h
    cases e2 : ownU env1 u with
    | none => rw [e2] at h; exact h.elim
    | some pr =>
      obtain ⟨w, env2⟩ := pr
      rw [e2] at h
      dsimp only at h
      obtain ⟨F2, own2, p2', O2⟩ := ownU_ok O1 e2
      cases e3 : storeF i c ns j w env2 with
      | none => rw [e3] at h; exact h.elim
      | some env3 =>
        rw [e3] at h
        obtain ⟨a, C, dx, fs, h1, h2, h3, h4, h5, own3, S3, st⟩ := O2.S.storeF T nd hf O2.r O2.d e3
        exact ⟨.ref a, h1, a, C, dx, fs, rfl, h2, h3, h4, Nat.lt_of_le_of_lt h5 hns, h σ F2 _ own3 Only.refl ⟨S3, O2.s.trans st⟩⟩
  · rw [e1] at h
    exact h C σ F1 H1 own1 Only.refl hm O1
  · rw [e1] at h
    exact h
end
end DL

/-! Dicts whose keys are ints, or tuples of ints, bools, None and such tuples. -/
namespace DL
open PySem PySem.Spec PyProof.Rows L2
/-! ### keys -/
mutual
theorem nest_is {K : PySem.W.Frag} {P : Program} {w : World} {F H : Hp} {h : Heap} (ok : HOk P w H h) (e : Same F H) : ∀ {v : V} {d : D}, RepD K F v d → plainK d = true → ∀ u, RelV v u → NestedIs h (keyOf d) u
  | _, _, .non, _, u, ru => by
    cases (show u = Value.none from ru)
    simp only [keyOf]
    exact .none
  | _, _, .bl b, _, u, ru => by
    cases (show u = Value.bool b from ru)
    simp only [keyOf]
    exact .bool rfl
  | _, _, .int i, _, u, ru => by
    obtain ⟨t, rfl⟩ := ru
    simp only [keyOf]
    exact .int i t
  | _, _, .tup (a := a) q r, hp, u, ru => by
    cases (show u = Value.ref a from ru)
    obtain ⟨_, its, rv, o, ho, hc, n, hd⟩ := ok a _ (e _ _ q)
    simp only [keyOf]
    exact .tup ho hc hd (nest_all ok e r (by simpa [plainK] using hp) its rv)
  | _, _, .str x, hp, _, _ => by simp [plainK] at hp
  | _, _, .ty n, hp, _, _ => by simp [plainK] at hp
  | _, _, .glob _, hp, _, _ => by simp [plainK] at hp
  | _, _, .exn _ _, hp, _, _ => by simp [plainK] at hp
  | _, _, .scr _, hp, _, _ => by simp [plainK] at hp
  | _, _, .dic _ _ _, hp, _, _ => by simp [plainK] at hp
  | _, _, .dix _ _ _ _, hp, _, _ => by simp [plainK] at hp
  | _, _, .ins _ _ _ _, hp, _, _ => by simp [plainK] at hp
  | _, _, .lst _ _, hp, _, _ => by simp [plainK] at hp
theorem nest_all {K : PySem.W.Frag} {P : Program} {w : World} {F H : Hp} {h : Heap} (ok : HOk P w H h) (e : Same F H) : ∀ {vs : List V} {ds : List D}, RepDs K F vs ds → plainKs ds = true → ∀ us, Vals vs us → NestedAll h (keyOfs ds) us
  | _, _, .nil, _, us, ru => by
    cases ru
    simp only [keyOfs]
    exact .nil
  | _, _, .cons r t, hp, us, ru => by
    cases ru with
    | cons r1 r2 =>
      simp only [plainKs, Bool.and_eq_true] at hp
      simp only [keyOfs]
      exact .cons (nest_is ok e r hp.1 _ r1) (nest_all ok e t hp.2 _ r2)
end
/-- at b stands the key k -/
def KeyAt (H : Hp) (k : NestedKey) (b : Addr) : Prop := (∀ (P : Program) (w : World) (h : Heap), HOk P w H h → (nestedKind P w).is h k b) ∧ ∀ w : World, k.hash w = hash0 k
theorem KeyAt.of {K : PySem.W.Frag} {F H : Hp} {v : V} {d : D} (e : Same F H) (r : RepD K F v d) (hk : keyD d = true) : ∃ b, v = .ref b ∧ KeyAt H (keyOf d) b := by
  cases d with
  | tup l =>
    have hk' : (plainKs l && decide ((keyOf (.tup l)).depth ≤ 8)) = true := hk
    simp only [Bool.and_eq_true, decide_eq_true_eq] at hk'
    cases r with
    | tup q rs =>
      rename_i a vs
      exact ⟨a, rfl, fun P w h ok => ⟨nest_is ok e (RepD.tup (K := K) q rs) (by simpa [plainK] using hk'.1) _ rfl, hk'.2⟩, fun w => hash_kd w hk⟩
  | _ => cases hk
/-- a dict with such keys stands at a -/
def XDict (H : Hp) (a : Addr) (xs : List (NestedKey × Addr × Value)) : Prop := H a = some (NdO a xs) ∧ ∀ x ∈ xs, KeyAt H x.1 x.2.1
theorem XDict.ok {X : Cx} {pins : List (Addr × Obj)} {σ : L2.St} {H : Hp} {s : Shared} {a : Addr} {xs : List (NestedKey × Addr × Value)} (I : Inv X pins σ H s) (h : XDict H a xs) : (a == sysModules) = false ∧ s.heap.DictOfH (nestedKind X.prog X.w) a xs := by
  obtain ⟨⟨h0, o, es, ep, h1, h2, h3, h4, h5⟩, _, _⟩ := I.hok a _ h.1
  refine ⟨h0, o, es, ep, h1, h2, h3, ?_, fun x hx => (h.2 x hx).1 _ _ _ I.hok, h5⟩
  rw [h4]
  refine List.map_congr_left fun x hx => ?_
  show (⟨hash0 x.1, _, _⟩ : DictEntry) = ⟨x.1.hash X.w, _, _⟩
  rw [(h.2 x hx).2]
theorem room8 {A : Around} (h : A.units + 65 < cLine) : A.in1.units + 8 < cLine := by
  show A.units + 1 + 8 < cLine
  omega
def rXIn : R2 := fun y x H Q => ∃ a b k xs, x = .ref a ∧ y = .ref b ∧ XDict H a xs ∧ KeyAt H k b ∧ Q (.bl (atKey xs k).isSome) H
def rXNotIn : R2 := fun y x H Q => ∃ a b k xs, x = .ref a ∧ y = .ref b ∧ XDict H a xs ∧ KeyAt H k b ∧ Q (.bl (!(atKey xs k).isSome)) H
section
variable {X : Cx} {pos : Pos}
theorem op_xIn (hu : X.A.units + 65 < cLine) : OpR X (compareOp .In) rXIn := by
  intro pins s σ H y x v u Q I ry rx h
  obtain ⟨a, b, k, xs, rfl, rfl, hd, hk, q⟩ := h
  cases (show u = Value.ref a from rx)
  cases (show v = Value.ref b from ry)
  obtain ⟨h0, dd⟩ := hd.ok I
  exact wpAny_in_heap (room8 hu) (hk.1 _ _ _ I.hok) h0 dd ⟨.bl (atKey xs k).isSome, H, I.tok _, rfl, q⟩
theorem op_xNotIn (hu : X.A.units + 65 < cLine) : OpR X (compareOp .NotIn) rXNotIn := by
  intro pins s σ H y x v u Q I ry rx h
  obtain ⟨a, b, k, xs, rfl, rfl, hd, hk, q⟩ := h
  cases (show u = Value.ref a from rx)
  cases (show v = Value.ref b from ry)
  obtain ⟨h0, dd⟩ := hd.ok I
  show wpAny _ _ (do return Value.bool (!(← contains (.ref a) (.ref b)))) _ _ s
  exact wpAny_bind (wpAny_contains_heap (room8 hu) (hk.1 _ _ _ I.hok) h0 dd (wpAny_pure ⟨.bl (!(atKey xs k).isSome), H, I.tok _, rfl, q⟩))
theorem nd_empty {P : Program} {w : World} {H : Hp} (h : Heap) (hb : sysModules < h.objs.size) : ObjOk P w H (h.push { cls := .type "dict", data := .dict #[] }) h.objs.size (NdO h.objs.size []) := by
  have e : (h.push { cls := .type "dict", data := .dict #[] }).get? h.objs.size = some { cls := .type "dict", data := .dict #[] } := Heap.get?_push_size _ rfl
  refine ⟨⟨beq_eq_false_iff_ne.mpr (Ne.symm (Nat.ne_of_lt hb)), _, #[], 0, e, ⟨rfl, rfl, rfl⟩, rfl, rfl, List.nodup_nil⟩, ⟨_, e⟩, fun h1 h2 q k => ?_⟩
  obtain ⟨q0, o, es, ep, q1, q2⟩ := q
  exact ⟨q0, o, es, ep, k _ q1, q2⟩
def tDNewX : TE := fun _ H Q => ∀ p, H p = none → Q (.ref p) (upd H p (NdO p []))
theorem pe_dnewX : PE X (.Dict [] [] pos) tDNewX := ⟨fun pins s σ H Q I h =>
  wpAny_Dict_empty ⟨.ref s.heap.objs.size, _, I.laid (a := s.heap.objs.size) (o := NdO s.heap.objs.size []) (t' := s.toks) (fun _ _ q => Heap.get?_push_of_some _ q) (Nat.le_refl _) (nd_empty s.heap I.big), rfl, h _ (I.hok.fresh (Nat.le_refl _))⟩⟩
end
def rXGet : R2 := fun x y H Q => ∃ a b k xs v u, x = .ref a ∧ y = .ref b ∧ XDict H a xs ∧ KeyAt H k b ∧ (∃ p, atKey xs k = some (p, u)) ∧ RelV v u ∧ Q v H
def tXGet (td ty : TE) : TE := fun σ H Q => td σ H fun x H1 => ty σ H1 fun y H2 => rXGet x y H2 Q
section
variable {X : Cx} {o i : Expr} {td ty tv : TE} {pos pos' : Pos} {value : Expr}
theorem pe_xget (hu : X.A.units + 65 < cLine) (ho : PE X o td) (hi : PE X i ty) (hs : NoSl i) : PE X (.Subscript o i pos) (tXGet td ty) := by
  refine ⟨fun pins s σ H Q I h => ?_⟩
  refine subD_of PySem.F.slot_dict_getitem.lookup hs (thn (ho.run pins s σ H _ I h) fun u s1 ⟨x, H1, I1, rx, q1⟩ => thn (hi.run pins s1 σ H1 _ I1 q1) fun iv s2 ⟨y, H2, I2, ry, a, b, k, xs, v, val, ex, ey, hd, hk, hp, rv, q2⟩ => ?_)
  subst ex ey
  obtain rfl : u = Value.ref a := rx
  obtain rfl : iv = Value.ref b := ry
  obtain ⟨h0, dd⟩ := hd.ok I2
  obtain ⟨p, hp⟩ := hp
  exact ⟨dd.typeIs, wpAny_getItem_heap (room8 hu) (hk.1 _ _ _ I2.hok) dd hp ⟨v, H2, I2.tok _, rv, q2⟩⟩
/-- d[y] = v -/
def sXPut (td ty tv : TE) : TS := fun D σ H => tv σ H fun v H1 => td σ H1 fun x H2 => ty σ H2 fun y H3 => ∃ a b k xs, x = .ref a ∧ y = .ref b ∧ XDict H3 a xs ∧ KeyAt H3 k b ∧ xs.length ≤ sizeLine ∧ (∀ u, RelV v u → D.nx σ (upd H3 a (NdO a (storedH xs k b u))))
theorem ps_xput (hu : X.A.units + 65 < cLine) (ho : PE X o td) (hi : PE X i ty) (hv : PE X value tv) (hs : swapsWith value (some (.Subscript o i pos')) pos.line X.env = pure false) :
    PS X (.Assign [.Subscript o i pos'] value pos) (sXPut td ty tv) := by
  refine ⟨fun pins s σ H D I h => ?_⟩
  refine wpAny_Assign_Subscript (thn (hv.run pins s σ H _ I h) fun r s1 ⟨v, H1, I1, rv, q1⟩ => thn (ho.run pins s1 σ H1 _ I1 q1) fun u s2 ⟨x, H2, I2, rx, q2⟩ => thn (hi.run pins s2 σ H2 _ I2 q2) fun iv s3 ⟨y, H3, I3, ry, a, b, k, xs, ex, ey, hd, hk, hz, q3⟩ => ?_) hs
  subst ex ey
  obtain rfl : u = Value.ref a := rx
  obtain rfl : iv = Value.ref b := ry
  obtain ⟨h0, dd⟩ := hd.ok I3
  refine wpAny_setItem_heap (hsz := hz) (room8 hu) (hk.1 _ _ _ I3.hok) dd fun h' dd' hsb => ?_
  obtain ⟨q, es, ep, hq, h2, h3, h4, _, h5⟩ := dd'
  have hash : ∀ x ∈ storedH xs k b r, ∀ w : World, x.1.hash w = hash0 x.1 := fun x hx w => by
    unfold storedH at hx
    split at hx
    · obtain ⟨y, hy, rfl⟩ := List.mem_map.mp hx
      unfold putAt
      split <;> exact (hd.2 y hy).2 w
    · rcases List.mem_append.mp hx with z | z
      · exact (hd.2 x z).2 w
      · rw [show x = (k, b, r) by simpa using z]
        exact hk.2 w
  have e4 : es.toList = (storedH xs k b r).map (fun x => (⟨hash0 x.1, .ref x.2.1, x.2.2⟩ : DictEntry)) := by
    rw [h4]
    refine List.map_congr_left fun x hx => ?_
    show (⟨x.1.hash X.w, _, _⟩ : DictEntry) = ⟨hash0 x.1, _, _⟩
    rw [hash x hx]
  have ok : ObjOk X.prog X.w (upd H3 a (NdO a (storedH xs k b r))) h' a (NdO a (storedH xs k b r)) := by
    refine ⟨⟨h0, q, es, ep, hq, h2, h3, e4, h5⟩, ⟨_, hq⟩, fun g1 g2 z kk => ?_⟩
    obtain ⟨z0, o, es, ep, z1, z2⟩ := z
    exact ⟨z0, o, es, ep, kk _ z1, z2⟩
  exact ⟨σ, _, d_write I3 (by rw [hd.1]; exact True.intro) hsb ⟨q, hq⟩ ok, q3 r rv⟩
end
end DL

namespace DL
open PySem PySem.Spec PyProof.Rows L2
/-! ### plain -/
def dixGet : List D → List D → D → Option D
  | k' :: ks, d :: ds, k => if keyOf k' = keyOf k then some d else dixGet ks ds k
  | _, _, _ => none
def dixHas (ks : List D) (k : D) : Bool := ks.any fun k' => decide (keyOf k' = keyOf k)
def dixRep : List D → List D → D → D → List D
  | k' :: ks, d' :: ds, k, d => (if keyOf k' = keyOf k then d else d') :: dixRep ks ds k d
  | _, _, _, _ => []
def dixK (ks : List D) (k : D) : List D := if dixHas ks k then ks else ks ++ [k]
def dixD (ks ds : List D) (k d : D) : List D := if dixHas ks k then dixRep ks ds k d else ds ++ [d]
def okKey : Bool → D → Bool
  | true, .int _ => true
  | false, d => keyD d
  | _, _ => false
section
variable {K : PySem.W.Frag} {F : Hp}
theorem keyOf_int {a b : Int} : keyOf (.int a) = keyOf (.int b) ↔ a = b := by
  simp only [keyOf]
  exact ⟨fun h => by injection h, fun h => by rw [h]⟩
/-! keys that are tuples -/
theorem x_get : ∀ {xs : List (NestedKey × Addr × Value)} {vs : List V} {ks ds : List D} (k : D), Vals vs (xs.map (·.2.2)) → RepDs K F vs ds → xs.map (·.1) = ks.map keyOf → match dixGet ks ds k with
    | some d => ∃ p u v, atKey xs (keyOf k) = some (p, u) ∧ RelV v u ∧ RepD K F v d
    | none => atKey xs (keyOf k) = none
  | [], vs, ks, ds, k, hv, r, hk => by
    have : ks = [] := by cases ks with | nil => rfl | cons a b => simp at hk
    subst this
    rfl
  | x :: xs, vs, ks, ds, k, hv, r, hk => by
    cases ks with
    | nil => simp at hk
    | cons k' ks =>
      rw [List.map_cons] at hv
      cases hv with
      | @cons v u vs us rv hv' =>
        cases r with
        | @cons _ d _ ds' h t =>
          simp only [List.map_cons, List.cons.injEq] at hk
          have ih := x_get k hv' t hk.2
          by_cases c : keyOf k' = keyOf k
          · rw [show dixGet (k' :: ks) (d :: ds') k = some d by simp [dixGet, c]]
            refine ⟨x.2.1, x.2.2, v, ?_, rv, h⟩
            unfold atKey
            rw [List.find?_cons, decide_eq_true (by rw [hk.1]; exact c)]
            rfl
          · rw [show dixGet (k' :: ks) (d :: ds') k = dixGet ks ds' k by simp [dixGet, c]]
            have e : atKey (x :: xs) (keyOf k) = atKey xs (keyOf k) := by
              unfold atKey
              rw [List.find?_cons, decide_eq_false (by rw [hk.1]; exact c)]
            rw [e]
            exact ih
theorem x_has {xs : List (NestedKey × Addr × Value)} {ks : List D} (k : D) (hk : xs.map (·.1) = ks.map keyOf) : (atKey xs (keyOf k)).isSome = dixHas ks k := by
  induction xs generalizing ks with
  | nil =>
    have : ks = [] := by cases ks with | nil => rfl | cons a b => simp at hk
    subst this
    rfl
  | cons x xs ih =>
    cases ks with
    | nil => simp at hk
    | cons k' ks =>
      simp only [List.map_cons, List.cons.injEq] at hk
      have i := ih hk.2
      unfold atKey dixHas at i ⊢
      rw [List.find?_cons, List.any_cons, hk.1]
      by_cases c : keyOf k' = keyOf k
      · rw [decide_eq_true c]; rfl
      · rw [decide_eq_false c, Bool.false_or]; exact i
theorem x_rep {u : Value} {v : V} {d : D} (k : D) (ru : RelV v u) (rd : RepD K F v d) : ∀ {xs : List (NestedKey × Addr × Value)} {vs : List V} {ks ds : List D}, Vals vs (xs.map (·.2.2)) → RepDs K F vs ds → xs.map (·.1) = ks.map keyOf →
    ∃ vs', Vals vs' ((xs.map (putAt (keyOf k) u)).map (·.2.2)) ∧ RepDs K F vs' (dixRep ks ds k d)
  | [], vs, ks, ds, hv, r, hk => by
    have : ks = [] := by cases ks with | nil => rfl | cons a b => simp at hk
    subst this
    exact ⟨[], .nil, .nil⟩
  | x :: xs, vs, ks, ds, hv, r, hk => by
    cases ks with
    | nil => simp at hk
    | cons k' ks =>
      rw [List.map_cons] at hv
      cases hv with
      | @cons v0 u0 vs us rv hv' =>
        cases r with
        | @cons _ d0 _ ds' h t =>
          simp only [List.map_cons, List.cons.injEq] at hk
          obtain ⟨vs', i1, i2⟩ := x_rep k ru rd hv' t hk.2
          rw [dixRep]
          by_cases c : keyOf k' = keyOf k
          · rw [if_pos c, List.map_cons, List.map_cons]
            refine ⟨v :: vs', .cons ?_ i1, .cons rd i2⟩
            unfold putAt
            rw [if_pos (by rw [hk.1]; exact c)]
            exact ru
          · rw [if_neg c, List.map_cons, List.map_cons]
            refine ⟨v0 :: vs', .cons ?_ i1, .cons h i2⟩
            unfold putAt
            rw [if_neg (by rw [hk.1]; exact c)]
            exact rv
theorem put_keys (k : NestedKey) (u : Value) (xs : List (NestedKey × Addr × Value)) : (xs.map (putAt k u)).map (·.1) = xs.map (·.1) ∧ (xs.map (putAt k u)).map (fun x => V.ref x.2.1) = xs.map (fun x => V.ref x.2.1) := by
  constructor
  · rw [List.map_map]
    refine List.map_congr_left fun x _ => ?_
    show (putAt k u x).1 = x.1
    unfold putAt
    split <;> rfl
  · rw [List.map_map]
    refine List.map_congr_left fun x _ => ?_
    show V.ref (putAt k u x).2.1 = V.ref x.2.1
    unfold putAt
    split <;> rfl
theorem vals_one {v : V} {u : Value} (h : RelV v u) : Vals [v] [u] := .cons h .nil
/-- the dict with an entry stored -/
theorem x_put {a b : Addr} {xs : List (NestedKey × Addr × Value)} {us vs : List V} {ks ds : List D} {k d : D} {v : V} {u : Value} (hx : us = xs.map (fun x => V.ref x.2.1) ∧ Vals vs (xs.map (·.2.2)) ∧ xs.map (·.1) = ks.map keyOf ∧ ks.all keyD = true) (ru' : RepDs K F us ks) (rv : RepDs K F vs ds)
    (hk : keyD k = true) (rk : RepD K F (.ref b) k) (ru : RelV v u) (rd : RepD K F v d) :
    ∃ us' vs', DxO false a us' vs' (dixK ks k) (NdO a (storedH xs (keyOf k) b u)) ∧ RepDs K F us' (dixK ks k) ∧ RepDs K F vs' (dixD ks ds k d) := by
  obtain ⟨h1, h2, h3, h4⟩ := hx
  have hh := x_has k h3
  unfold storedH dixK dixD
  rw [hh]
  cases c : dixHas ks k with
  | true =>
    obtain ⟨vs', i1, i2⟩ := x_rep k ru rd h2 rv h3
    obtain ⟨p1, p2⟩ := put_keys (keyOf k) u xs
    simp only [if_pos]
    exact ⟨us, vs', ⟨_, rfl, by rw [p2]; exact h1, i1, by rw [p1]; exact h3, h4⟩, ru', i2⟩
  | false =>
    simp only [Bool.false_eq_true, if_false]
    refine ⟨us ++ [.ref b], vs ++ [v], ⟨_, rfl, by rw [List.map_append, h1]; rfl, by rw [List.map_append]; exact h2.append (vals_one ru), by rw [List.map_append, List.map_append, h3]; rfl, by rw [List.all_append, h4]; simp [hk]⟩, ru'.append (.cons rk .nil), rv.append (.cons rd .nil)⟩
/-! keys that are ints -/
theorem i_get : ∀ {kk : List Int} {vs : List V} {ds : List D} (n : Int), vs.length = kk.length → RepDs K F vs ds → match dixGet (kk.map D.int) ds (.int n) with
    | some d => ∃ v, valV ((kk.map Sum.inl).zip vs : List (Key × V)) (Sum.inl n) = some v ∧ RepD K F v d
    | none => valV ((kk.map Sum.inl).zip vs : List (Key × V)) (Sum.inl n) = none
  | [], vs, ds, n, hl, r => valV_nil
  | k :: kk, vs, ds, n, hl, r => by
    cases r with
    | nil => simp at hl
    | @cons v d vs ds h t =>
      have ih := i_get n (by simpa using hl) t
      by_cases c : k = n
      · subst c
        rw [show dixGet ((k :: kk).map D.int) (d :: ds) (.int k) = some d by simp [dixGet]]
        exact ⟨v, valV_pos rfl, h⟩
      · rw [show dixGet ((k :: kk).map D.int) (d :: ds) (.int n) = dixGet (kk.map D.int) ds (.int n) by simp [dixGet, keyOf_int, c]]
        have ne : ¬ ((Sum.inl k : Key), v).1 = Sum.inl n := fun z => c (Sum.inl.inj z)
        split at ih
        · rename_i d' hd'
          show ∃ v', valV ((Sum.inl k, v) :: (kk.map Sum.inl).zip vs) (Sum.inl n) = some v' ∧ _
          rw [valV_neg ne]
          exact ih
        · rename_i hd'
          show valV ((Sum.inl k, v) :: (kk.map Sum.inl).zip vs) (Sum.inl n) = none
          rw [valV_neg ne]
          exact ih
theorem i_any : ∀ {kk : List Int} {vs : List V} (n : Int), vs.length = kk.length → (((kk.map Sum.inl).zip vs : List (Key × V)).any fun kv => decide (kv.1 = Sum.inl n)) = dixHas (kk.map D.int) (.int n)
  | [], vs, n, hl => rfl
  | k :: kk, [], n, hl => by simp at hl
  | k :: kk, v :: vs, n, hl => by
    have ih := i_any (kk := kk) (vs := vs) n (by simpa using hl)
    unfold dixHas at ih ⊢
    rw [List.map_cons, List.map_cons, List.zip_cons_cons, List.any_cons, List.any_cons, ih]
    congr 1
    by_cases c : k = n
    · subst c; simp
    · rw [decide_eq_false (fun z => c (Sum.inl.inj z)), decide_eq_false (fun z => c (keyOf_int.mp z))]
theorem i_rep {v : V} {d : D} (rd : RepD K F v d) (n : Int) : ∀ {kk : List Int} {vs : List V} {ds : List D}, vs.length = kk.length → RepDs K F vs ds →
    ∃ vs', (((kk.map Sum.inl).zip vs : List (Key × V)).map fun kv => if kv.1 = Sum.inl n then (kv.1, v) else kv) = (kk.map Sum.inl).zip vs' ∧ vs'.length = kk.length ∧ RepDs K F vs' (dixRep (kk.map D.int) ds (.int n) d)
  | [], vs, ds, hl, r => by
    cases r with
    | nil => exact ⟨[], rfl, rfl, .nil⟩
    | cons _ _ => simp at hl
  | k :: kk, vs, ds, hl, r => by
    cases r with
    | nil => simp at hl
    | @cons v0 d0 vs ds h t =>
      obtain ⟨vs', i1, i2, i3⟩ := i_rep rd n (kk := kk) (by simpa using hl) t
      rw [List.map_cons, List.map_cons, List.zip_cons_cons, List.map_cons, i1, dixRep]
      by_cases c : k = n
      · subst c
        rw [if_pos rfl, if_pos rfl]
        exact ⟨v :: vs', rfl, by simp [i2], .cons rd i3⟩
      · rw [if_neg (fun z => c (Sum.inl.inj z)), if_neg (fun z => c (keyOf_int.mp z))]
        exact ⟨v0 :: vs', rfl, by simp [i2], .cons h i3⟩
theorem i_put {a : Addr} {kk : List Int} {vs : List V} {ds : List D} {n : Int} {v : V} {d : D} (hl : vs.length = kk.length) (rv : RepDs K F vs ds) (rd : RepD K F v d) :
    ∃ us' vs', DxO true a us' vs' (dixK (kk.map D.int) (.int n)) (.dK (putK ((kk.map Sum.inl).zip vs) (Sum.inl n) v)) ∧ RepDs K F us' (dixK (kk.map D.int) (.int n)) ∧ RepDs K F vs' (dixD (kk.map D.int) ds (.int n) d) := by
  unfold putK dixK dixD
  rw [i_any n hl]
  cases c : dixHas (kk.map D.int) (.int n) with
  | true =>
    obtain ⟨vs', i1, i2, i3⟩ := i_rep rd n hl rv
    simp only [if_pos]
    exact ⟨kk.map V.int, vs', ⟨kk, rfl, rfl, i2, by rw [i1]⟩, RepDs.of_ints kk, i3⟩
  | false =>
    simp only [Bool.false_eq_true, if_false]
    refine ⟨(kk ++ [n]).map V.int, vs ++ [v], ⟨kk ++ [n], rfl, by simp, by simp [hl], ?_⟩, by rw [show kk.map D.int ++ [D.int n] = (kk ++ [n]).map D.int by simp]; exact RepDs.of_ints _, rv.append (.cons rd .nil)⟩
    rw [List.map_append, List.zip_append (by simp [hl])]
    rfl
end
end DL

namespace DL
open PySem PySem.Spec PyProof.Rows L2
/-! ### d[k], k in d, k not in d -/
def gXGet : List D → Option W
  | [.dix b ks ds, k] => if okKey b k then (dixGet ks ds k).map .v else none
  | _ => none
def gXIn : List D → Option W
  | [k, .dix b ks ds] => if okKey b k then some (.v (.bl (dixGet ks ds k).isSome)) else none
  | _ => none
def gXNotIn : List D → Option W
  | [k, .dix b ks ds] => if okKey b k then some (.v (.bl (!(dixGet ks ds k).isSome))) else none
  | _ => none
section
variable {K : PySem.W.Frag} {F H : Hp}
theorem nd_view {a : Addr} {xs : List (NestedKey × Addr × Value)} {ks : List D} (e : Same F H) (hH : H a = some (NdO a xs)) (r1 : RepDs K F (xs.map (fun x => V.ref x.2.1)) ks) (hk : xs.map (·.1) = ks.map keyOf) (ha : ks.all keyD = true) : XDict H a xs := by
  refine ⟨hH, fun x hx => ?_⟩
  obtain ⟨n, hn, rfl⟩ := List.mem_iff_getElem.mp hx
  have hks : n < ks.length := by
    have := congrArg List.length hk
    rw [List.length_map, List.length_map] at this
    omega
  have e1 : keyOf ks[n] = xs[n].1 := by
    have := congrArg (fun l => l[n]?) hk
    simp only [List.getElem?_map, List.getElem?_eq_getElem hn, List.getElem?_eq_getElem hks, Option.map_some, Option.some.injEq] at this
    exact this.symm
  have e2 : (xs.map fun x => V.ref x.2.1)[n]? = some (.ref xs[n].2.1) := by rw [List.getElem?_map, List.getElem?_eq_getElem hn]; rfl
  obtain ⟨d, h1, h2⟩ := r1.getv e2
  rw [List.getElem?_eq_getElem hks] at h1
  cases h1
  obtain ⟨b', e3, kat'⟩ := KeyAt.of e h2 (List.all_eq_true.mp ha _ (List.getElem_mem hks))
  cases e3
  rw [← e1]
  exact kat'
theorem key_view {y : V} {k : D} (e : Same F H) (hy : View K F H y k) (hkd : keyD k = true) : ∃ bb, y = .ref bb ∧ KeyAt H (keyOf k) bb ∧ RepD K F (.ref bb) k := by
  have rk : RepD K F y k := by
    cases k with
    | tup l => exact hy
    | _ => cases hkd
  obtain ⟨bb, rfl, kat⟩ := KeyAt.of e rk hkd
  exact ⟨bb, rfl, kat, rk⟩
theorem okKey_f {k : D} (ok : okKey false k = true) : keyD k = true := by cases k <;> exact ok
/-- how a dict is looked up -/
theorem dix_view {x y : V} {b : Bool} {ks ds : List D} {k : D} (e : Same F H) (hx : View K F H x (.dix b ks ds)) (hy : View K F H y k) (ok : okKey b k = true) :
    (∃ a o, x = .ref a ∧ DGet H a y o ∧ match dixGet ks ds k with
      | some d => ∃ v, o = some v ∧ RepD K F v d
      | none => o = none) ∨ ∃ a bb xs, x = .ref a ∧ y = .ref bb ∧ XDict H a xs ∧ KeyAt H (keyOf k) bb ∧ match dixGet ks ds k with
      | some d => ∃ p u v, atKey xs (keyOf k) = some (p, u) ∧ RelV v u ∧ RepD K F v d
      | none => atKey xs (keyOf k) = none := by
  obtain ⟨a, o, us, vs, rfl, hH, hD, r1, r2⟩ := hx
  cases b with
  | true =>
    cases k with
    | int n =>
      obtain ⟨kk, rfl, rfl, hl, rfl⟩ := hD
      have := hy.int
      subst this
      exact .inl ⟨a, _, rfl, DGet.k (k := Sum.inl n) hH, i_get n hl r2⟩
    | _ => cases ok
  | false =>
    obtain ⟨xs, rfl, rfl, hv, hk, ha⟩ := hD
    obtain ⟨bb, rfl, kat, _⟩ := key_view e hy (okKey_f ok)
    exact .inr ⟨a, bb, xs, rfl, rfl, nd_view e hH r1 hk ha, kat, x_get k hv r2 hk⟩
end
def rXInA : R2 := fun y x H Q => rDIn y x H Q ∨ rXIn y x H Q
def rXNotInA : R2 := fun y x H Q => rDNotIn y x H Q ∨ rXNotIn y x H Q
section
variable {X : Cx} {K : PySem.W.Frag}
theorem op_xInA (hu : X.A.units + 65 < cLine) : OpR X (compareOp .In) rXInA := (op_dIn (by omega)).or (op_xIn hu)
theorem op_xNotInA (hu : X.A.units + 65 < cLine) : OpR X (compareOp .NotIn) rXNotInA := (op_dNotIn (by omega)).or (op_xNotIn hu)
theorem cd_xIn : CaD K (r2 rXInA) gXIn := by
  intro F H vs ds w Q e vw hg q
  unfold gXIn at hg
  split at hg
  · rename_i k b ks dd
    obtain ⟨x, y, rfl, hx, hy⟩ := vw.two
    split at hg
    · rename_i ok
      cases hg
      refine ⟨_, _, rfl, ?_⟩
      rcases dix_view e hy hx ok with ⟨a, o, rfl, g, z⟩ | ⟨a, bb, xs, rfl, rfl, hd, hk, z⟩
      · refine .inl ⟨a, o, rfl, g, ?_⟩
        have : o.isSome = (dixGet ks dd k).isSome := by
          cases c : dixGet ks dd k with
          | none => rw [c] at z; rw [z]; rfl
          | some d => rw [c] at z; obtain ⟨v, e1, _⟩ := z; rw [e1]; rfl
        rw [this]
        exact fin_bl e q
      · refine .inr ⟨a, bb, _, xs, rfl, rfl, hd, hk, ?_⟩
        have : (atKey xs (keyOf k)).isSome = (dixGet ks dd k).isSome := by
          cases c : dixGet ks dd k with
          | none => rw [c] at z; rw [z]; rfl
          | some d => rw [c] at z; obtain ⟨p, u, v, e1, _⟩ := z; rw [e1]; rfl
        rw [this]
        exact fin_bl e q
    · cases hg
  · cases hg
theorem cd_xNotIn : CaD K (r2 rXNotInA) gXNotIn := by
  intro F H vs ds w Q e vw hg q
  unfold gXNotIn at hg
  split at hg
  · rename_i k b ks dd
    obtain ⟨x, y, rfl, hx, hy⟩ := vw.two
    split at hg
    · rename_i ok
      cases hg
      refine ⟨_, _, rfl, ?_⟩
      rcases dix_view e hy hx ok with ⟨a, o, rfl, g, z⟩ | ⟨a, bb, xs, rfl, rfl, hd, hk, z⟩
      · refine .inl ⟨a, o, rfl, g, ?_⟩
        have : o.isSome = (dixGet ks dd k).isSome := by
          cases c : dixGet ks dd k with
          | none => rw [c] at z; rw [z]; rfl
          | some d => rw [c] at z; obtain ⟨v, e1, _⟩ := z; rw [e1]; rfl
        rw [this]
        exact fin_bl e q
      · refine .inr ⟨a, bb, _, xs, rfl, rfl, hd, hk, ?_⟩
        have : (atKey xs (keyOf k)).isSome = (dixGet ks dd k).isSome := by
          cases c : dixGet ks dd k with
          | none => rw [c] at z; rw [z]; rfl
          | some d => rw [c] at z; obtain ⟨p, u, v, e1, _⟩ := z; rw [e1]; rfl
        rw [this]
        exact fin_bl e q
    · cases hg
  · cases hg
end
/-! d[k] -/
def rXGetA : R2 := fun x y H Q => rDGet x y H Q ∨ rXGet x y H Q
def tXGetA (td ty : TE) : TE := fun σ H Q => td σ H fun x H1 => ty σ H1 fun y H2 => rXGetA x y H2 Q
theorem cd_xGet {K : PySem.W.Frag} : CaD K (r2 rXGetA) gXGet := by
  intro F H vs ds w Q e vw hg q
  unfold gXGet at hg
  split at hg
  · rename_i b ks dd k
    obtain ⟨x, y, rfl, hx, hy⟩ := vw.two
    split at hg
    · rename_i ok
      obtain ⟨d, hd, rfl⟩ := Option.map_eq_some_iff.mp hg
      refine ⟨_, _, rfl, ?_⟩
      rcases dix_view e hx hy ok with ⟨a, o, rfl, g, z⟩ | ⟨a, bb, xs, rfl, rfl, hdx, hk, z⟩
      · rw [hd] at z
        obtain ⟨v, rfl, rv⟩ := z
        exact .inl ⟨a, v, rfl, g, fin_rep e rv q⟩
      · rw [hd] at z
        obtain ⟨p, u, v, e1, rv, rd⟩ := z
        exact .inr ⟨a, bb, _, xs, v, u, rfl, rfl, hdx, hk, ⟨p, e1⟩, rv, fin_rep e rd q⟩
    · cases hg
  · cases hg
section
variable {X : Cx} {Wx : WX} {o i : Expr} {td ty : TE} {fv : DEnv → Option D} {fi : G} {fo fk : M U} {pos : Pos}
theorem pe_xgetA (hu : X.A.units + 65 < cLine) (ho : PE X o td) (hi : PE X i ty) (hs : NoSl i) : PE X (.Subscript o i pos) (tXGetA td ty) := by
  refine ⟨fun pins s σ H Q I h => ?_⟩
  refine subD_of PySem.F.slot_dict_getitem.lookup hs (thn (ho.run pins s σ H _ I h) fun u s1 ⟨x, H1, I1, rx, q1⟩ => thn (hi.run pins s1 σ H1 _ I1 q1) fun iv s2 ⟨y, H2, I2, ry, q2⟩ => ?_)
  rcases q2 with ⟨a, v, ex, g, q2⟩ | ⟨a, b, k, xs, v, val, ex, ey, hd, hk, hp, rv, q2⟩
  · subst ex
    obtain rfl : u = Value.ref a := rx
    exact ⟨dict_typeIs I2 g, d_getItem (by omega) I2 g ry fun w' s3 I3 rw' => ⟨v, H2, I3, rw', q2⟩⟩
  · subst ex ey
    obtain rfl : u = Value.ref a := rx
    obtain rfl : iv = Value.ref b := ry
    obtain ⟨h0, dd⟩ := hd.ok I2
    obtain ⟨p, hp⟩ := hp
    exact ⟨dd.typeIs, wpAny_getItem_heap (room8 hu) (hk.1 _ _ _ I2.hok) dd hp ⟨v, H2, I2.tok _, rv, q2⟩⟩
theorem gv_xget (hu : X.A.units + 65 < cLine) (ho : EvV X o fv) (hi : EvG X i fi) (hs : NoSl i := by intro _ _; rfl) : EvG X (.Subscript o i pos) (opV gXGet fv [fi]) :=
  PE.imp (pe_xgetA hu ho hi hs) fun σ H Q h => vOf_mono (opV_sem cd_xGet h) fun _ _ q => gOfG_mono (aOfG_1 q) fun _ _ z => r2_two z
theorem e_xget (hu : X.A.units + 65 < cLine) (ho : EvS X Wx o fo) (hi : EvS X Wx i fk) (hs : NoSl i := by intro _ _; rfl) : EvS X Wx (.Subscript o i pos) (opN gXGet [fo, fk]) :=
  PE.imp (pe_xgetA hu ho hi hs) fun σ H Q h => tOf_mono (aOf_2 (aOf_op cd_xGet h)) fun _ _ q => tOf_mono q fun _ _ z => r2_two z
end
/-! {} -/
def eXNew (b : Bool) : M U := fun env => .ok (.w (.x (.d b [] []))) env
section
variable {X : Cx} {Wx : WX} {pos : Pos}
theorem e_xnew {b : Bool} : EvS X Wx (.Dict [] [] pos) (eXNew b) := by
  cases b with
  | true =>
    exact PE.imp pe_dnewK fun σ H Q h => by
      obtain ⟨F, env, own, S, h⟩ := h
      intro p hp
      have g : Grow F H F (upd H p (.dK [])) (fun a => a = p) := Grow.ofOwn S.ex hp
      exact h (.ref p) F (upd H p (.dK [])) own (fun a => a = p) (g.out (OutR.refl S) ⟨p, _, [], [], rfl, fun _ => Iff.rfl, upd_same, sub_none S.ex hp, ⟨[], rfl, rfl, rfl, rfl⟩, .nil, .nil⟩)
  | false =>
    exact PE.imp pe_dnewX fun σ H Q h => by
      obtain ⟨F, env, own, S, h⟩ := h
      intro p hp
      have g : Grow F H F (upd H p (NdO p [])) (fun a => a = p) := Grow.ofOwn S.ex hp
      exact h (.ref p) F (upd H p (NdO p [])) own (fun a => a = p) (g.out (OutR.refl S) ⟨p, _, [], [], rfl, fun _ => Iff.rfl, upd_same, sub_none S.ex hp, ⟨[], rfl, rfl, .nil, rfl, rfl⟩, .nil, .nil⟩)
end
/-! d[k] = e -/
def sXPutA (td ty tv : TE) : TS := fun D σ H => tv σ H fun v H1 => td σ H1 fun x H2 => ty σ H2 fun y H3 => (∃ a H4, x = .ref a ∧ DPut H3 a y v H4 ∧ D.nx σ H4) ∨ ∃ a b k xs, x = .ref a ∧ y = .ref b ∧ XDict H3 a xs ∧ KeyAt H3 k b ∧ xs.length ≤ sizeLine ∧ (∀ u, RelV v u → D.nx σ (upd H3 a (NdO a (storedH xs k b u))))
section
variable {X : Cx} {o i : Expr} {td ty tv : TE} {pos pos' : Pos} {value : Expr}
theorem ps_xputA (hu : X.A.units + 65 < cLine) (ho : PE X o td) (hi : PE X i ty) (hv : PE X value tv) (hs : swapsWith value (some (.Subscript o i pos')) pos.line X.env = pure false) :
    PS X (.Assign [.Subscript o i pos'] value pos) (sXPutA td ty tv) := by
  refine ⟨fun pins s σ H D I h => ?_⟩
  refine wpAny_Assign_Subscript (thn (hv.run pins s σ H _ I h) fun r s1 ⟨v, H1, I1, rv, q1⟩ => thn (ho.run pins s1 σ H1 _ I1 q1) fun u s2 ⟨x, H2, I2, rx, q2⟩ => thn (hi.run pins s2 σ H2 _ I2 q2) fun iv s3 ⟨y, H3, I3, ry, q3⟩ => ?_) hs
  rcases q3 with ⟨a, H4, ex, g, q3⟩ | ⟨a, b, k, xs, ex, ey, hd, hk, hz, q3⟩
  · subst ex
    obtain rfl : u = Value.ref a := rx
    exact d_setItem (by omega) I3 g ry rv fun s4 I4 => ⟨σ, H4, I4, q3⟩
  · subst ex ey
    obtain rfl : u = Value.ref a := rx
    obtain rfl : iv = Value.ref b := ry
    obtain ⟨h0, dd⟩ := hd.ok I3
    refine wpAny_setItem_heap (hsz := hz) (room8 hu) (hk.1 _ _ _ I3.hok) dd fun h' dd' hsb => ?_
    obtain ⟨q, es, ep, hq, h2, h3, h4, _, h5⟩ := dd'
    have hash : ∀ x ∈ storedH xs k b r, ∀ w : World, x.1.hash w = hash0 x.1 := fun x hx w => by
      unfold storedH at hx
      split at hx
      · obtain ⟨y, hy, rfl⟩ := List.mem_map.mp hx
        unfold putAt
        split <;> exact (hd.2 y hy).2 w
      · rcases List.mem_append.mp hx with z | z
        · exact (hd.2 x z).2 w
        · rw [show x = (k, b, r) by simpa using z]
          exact hk.2 w
    have e4 : es.toList = (storedH xs k b r).map (fun x => (⟨hash0 x.1, .ref x.2.1, x.2.2⟩ : DictEntry)) := by
      rw [h4]
      refine List.map_congr_left fun x hx => ?_
      show (⟨x.1.hash X.w, _, _⟩ : DictEntry) = ⟨hash0 x.1, _, _⟩
      rw [hash x hx]
    have ok : ObjOk X.prog X.w (upd H3 a (NdO a (storedH xs k b r))) h' a (NdO a (storedH xs k b r)) := by
      refine ⟨⟨h0, q, es, ep, hq, h2, h3, e4, h5⟩, ⟨_, hq⟩, fun g1 g2 z kk => ?_⟩
      obtain ⟨z0, o, es, ep, z1, z2⟩ := z
      exact ⟨z0, o, es, ep, kk _ z1, z2⟩
    exact ⟨σ, _, d_write I3 (by rw [hd.1]; exact True.intro) hsb ⟨q, hq⟩ ok, q3 r rv⟩
end
/-- what the store makes of a dict at a -/
theorem dix_put {K : PySem.W.Frag} {F H : Hp} {a : Addr} {o : HO} {b : Bool} {us vs : List V} {ks ds : List D} {k d : D} {y v : V} {D' : Hp → Prop} (e : Same F H) (hH : H a = some o) (hD : DxO b a us vs ks o) (r1 : RepDs K F us ks) (r2 : RepDs K F vs ds) (ok : okKey b k = true) (ry : View K F H y k) (rd : RepD K F v d) (hz : ds.length < 1000000)
    (fin : ∀ o' us' vs', DxO b a us' vs' (dixK ks k) o' → RepDs K F us' (dixK ks k) → RepDs K F vs' (dixD ks ds k d) → D' (upd H a o')) :
    (∃ H4, DPut H a y v H4 ∧ D' H4) ∨ ∃ bb kk xs, y = .ref bb ∧ XDict H a xs ∧ KeyAt H kk bb ∧ xs.length ≤ sizeLine ∧ (∀ u, RelV v u → D' (upd H a (NdO a (storedH xs kk bb u)))) := by
  have hlen := r2.length
  cases b with
  | true =>
    cases k with
    | int n =>
      obtain ⟨kk, rfl, rfl, hl, rfl⟩ := hD
      have := ry.int
      subst this
      obtain ⟨us', vs', h1, h2, h3⟩ := i_put (a := a) (n := n) hl r2 rd
      refine .inl ⟨_, DPut.k (k := Sum.inl n) hH ?_, fin _ us' vs' h1 h2 h3⟩
      rw [List.length_zip, List.length_map]
      exact szl (by omega)
    | _ => cases ok
  | false =>
    obtain ⟨xs, rfl, rfl, hv, hk, ha⟩ := hD
    obtain ⟨bb, rfl, kat, rk⟩ := key_view e ry (okKey_f ok)
    refine .inr ⟨bb, keyOf k, xs, rfl, nd_view e hH r1 hk ha, kat, ?_, fun u ru => ?_⟩
    · have := hv.length
      rw [List.length_map] at this
      exact szm (by omega)
    · obtain ⟨us', vs', h1, h2, h3⟩ := x_put (a := a) (b := bb) ⟨rfl, hv, hk, ha⟩ r1 r2 (okKey_f ok) rk ru rd
      exact fin _ us' vs' h1 h2 h3
end DL

namespace DL
open PySem PySem.Spec PyProof.Rows L2
/-! ### d[k] = e, d a name -/
def putX (i : Nat) (k d : D) (env : DEnv) : Option DEnv := match env[i]? with
  | some (some (.x (.d b ks ds))) => if okKey b k = true ∧ ds.length < 1000000 then some (env.set i (some (.x (.d b (dixK ks k) (dixD ks ds k d))))) else none
  | _ => none
def sStoreX (i : Nat) (fk : G) (fe : M U) : M Fl := fun env => (fe env).bind fun u e1 => match frz1 e1 u with
  | some (d, e2) => (match fk e2 with
    | some (.v k) => (match putX i k d e2 with
      | some e3 => .ok .next e3
      | none => .stuck)
    | _ => .stuck)
  | none => .stuck
/-! ### x.f[k] = e -/
def putXF (i : Nat) (c : Str) (ns : List Str) (j : Nat) (k d : D) (env : DEnv) : Option DEnv := match env[i]? with
  | some (some (.x (.o bb c' ns' ws))) => if c' = c ∧ ns' = ns then (match ws[j]? with
    | some (.d b ks ds) => if okKey b k = true ∧ ds.length < 1000000 then some (env.set i (some (.x (.o bb c ns (ws.set j (.d b (dixK ks k) (dixD ks ds k d))))))) else none
    | _ => none) else none
  | _ => none
def sStoreXF (i : Nat) (c : Str) (ns : List Str) (j : Nat) (fk : G) (fe : M U) : M Fl := fun env => (fe env).bind fun u e1 => match frz1 e1 u with
  | some (d, e2) => (match fk e2 with
    | some (.v k) => (match putXF i c ns j k d e2 with
      | some e3 => .ok .next e3
      | none => .stuck)
    | _ => .stuck)
  | none => .stuck
section
variable {X : Cx} {Wx : WX} {e k : Expr} {fe : M U} {fk : G} {i j : Nat} {x c f : Str} {ns : List Str} {pos p1 p2 tpos : Pos}
theorem s_storeX (hu : X.A.units + 65 < cLine) (he : EvS X Wx e fe) (hk : EvG X k fk) (hN : X.N[i]? = some x := by rfl) (hv : Vis X.env.scope x := by first | exact Or.inl rfl | exact Or.inr (Or.inl rfl) | exact Or.inr (Or.inr rfl)) (hd : (x == ("__debug__" : Str)) = false := by decide) (hcd : (x == ("__classdict__" : Str)) = false := by decide)
    (hs : swapsWith e (some (.Subscript (.Name x p1) k tpos)) pos.line X.env = pure false := by rfl) :
    StS X Wx (.Assign [.Subscript (.Name x p1) k tpos] e pos) [] (sStoreX i fk fe) :=
  PS.imp (ps_xputA hu (pe_var hN hv hd hcd) hk he hs) fun E σ H h => by
  obtain ⟨F, env, own, S, h⟩ := h
  have h : Po X.K X.mg Wx [] E σ F H own (sStoreX i fk fe env) := h
  unfold sStoreX at h
  refine tOf_use S (fun u env1 e1 v1 F1 H1 own1 p O1 => ?_) (fun c env1 e1 C F1 H1 own1 hm O1 => ?_) (fun e1 => ?_)
  · rw [e1, R.bind_ok] at h
    cases e2 : frz1 env1 u with
    | none => rw [e2] at h; exact h.elim
    | some pr =>
      obtain ⟨d, env2⟩ := pr
      rw [e2] at h
      dsimp only at h
      obtain ⟨F2, own2, r2, O2⟩ := O1.frz e2
      cases e3 : fk env2 with
      | none => rw [e3] at h; exact h.elim
      | some wk =>
        rw [e3] at h
        cases wk with
        | l _ _ => exact h.elim
        | m _ _ => exact h.elim
        | x _ => exact h.elim
        | v kd =>
          dsimp only at h
          cases e4 : putX i kd d env2 with
          | none => rw [e4] at h; exact h.elim
          | some env3 =>
            rw [e4] at h
            dsimp only at h
            unfold putX at e4
            split at e4
            · rename_i b ks ds hw
              split at e4
              · rename_i hcond
                cases e4
                obtain ⟨vv, hvv, a, o, us, vs, rfl, hp, hH, hF, hD, ru, rv⟩ := O2.S.rep i _ hw
                refine ⟨.ref a, hvv, ?_⟩
                refine ⟨F2, env2, own2, O2.S, ?_⟩
                rw [e3]
                intro y F3 H3 pk gr rk
                have S3 := gr.sit O2.S
                obtain ⟨vv3, hvv3, a3, o3, us3, vs3, ev3, hp3, hH3, hF3, hD3, ru3, rv3⟩ := S3.rep i _ hw
                rw [hvv] at hvv3
                cases hvv3
                cases ev3
                have hi : i < env2.length := (List.getElem?_eq_some_iff.mp hw).1
                have key := dix_put (D' := fun H4 => E.nx σ H4) gr.sub hH3 hD3 ru3 rv3 hcond.1 (View.of gr.sub rk.2) (r2.mono gr.exF) hcond.2 fun o' us' vs' h1 h2 h3 => by
                  obtain ⟨own', S', st⟩ := S3.repl (t := fun _ => False) (F' := F3) (H' := upd H3 a o') (w := .x (.d b (dixK ks kd) (dixD ks ds kd d))) (p' := own2 i) hi hvv (fun _ z => z.elim)
                    (fun q u eq => by
                      have : q ≠ a := fun z => by rw [z, hF3] at eq; cases eq
                      rw [upd_ne this]; exact gr.sub q u eq) (Same.refl _)
                    (fun q u eq no _ => by
                      have : q ≠ a := fun z => no ((hp3 q).mpr z)
                      rw [upd_ne this]; exact eq)
                    (fun q u eq n => by rw [eq] at n; cases n) ⟨a, o', us', vs', rfl, hp3, upd_same, hF3, h1, h2, h3⟩ (fun q z => .inr (.inl z))
                  exact h σ F3 (upd H3 a o') own' Only.refl (O2.trans (OutR.trans ⟨S3, (gr.drop.step own2).sub fun _ z => .inl z⟩ ⟨S', st.sup fun _ z => z.elim id False.elim⟩))
                rcases key with ⟨H4, g, q⟩ | ⟨bb, kk, xs, ey, hx, hka, hz, q⟩
                · exact .inl ⟨a, H4, rfl, g, q⟩
                · exact .inr ⟨a, bb, kk, xs, rfl, ey, hx, hka, hz, q⟩
              · cases e4
            · cases e4
  · rw [e1] at h
    exact h C σ F1 H1 own1 Only.refl hm O1
  · rw [e1] at h
    exact h
theorem s_storeXF (hu : X.A.units + 65 < cLine) (T : ClsF X.K c ns) (nd : ns.Nodup) (hf : ns[j]? = some f) (he : EvS X Wx e fe) (hk : EvG X k fk) (hN : X.N[i]? = some x := by rfl) (hv : Vis X.env.scope x := by first | exact Or.inl rfl | exact Or.inr (Or.inl rfl) | exact Or.inr (Or.inr rfl)) (hd : (x == ("__debug__" : Str)) = false := by decide) (hcd : (x == ("__classdict__" : Str)) = false := by decide)
    (hb : attributeBase (.Name x p1) f X.env (eval (.Name x p1) X.env) = eval (.Name x p1) X.env := by rfl)
    (hs : swapsWith e (some (.Subscript (.Attribute (.Name x p1) f p2) k tpos)) pos.line X.env = pure false := by rfl) :
    StS X Wx (.Assign [.Subscript (.Attribute (.Name x p1) f p2) k tpos] e pos) [] (sStoreXF i c ns j fk fe) :=
  PS.imp (ps_xputA hu (pe_fld (pe_var hN hv hd hcd) hb) hk he hs) fun E σ H h => by
  obtain ⟨F, env, own, S, h⟩ := h
  have h : Po X.K X.mg Wx [] E σ F H own (sStoreXF i c ns j fk fe env) := h
  unfold sStoreXF at h
  refine tOf_use S (fun u env1 e1 v1 F1 H1 own1 p O1 => ?_) (fun c env1 e1 C F1 H1 own1 hm O1 => ?_) (fun e1 => ?_)
  · rw [e1, R.bind_ok] at h
    cases e2 : frz1 env1 u with
    | none => rw [e2] at h; exact h.elim
    | some pr =>
      obtain ⟨d, env2⟩ := pr
      rw [e2] at h
      dsimp only at h
      obtain ⟨F2, own2, r2, O2⟩ := O1.frz e2
      cases e3 : fk env2 with
      | none => rw [e3] at h; exact h.elim
      | some wk =>
        rw [e3] at h
        cases wk with
        | l _ _ => exact h.elim
        | m _ _ => exact h.elim
        | x _ => exact h.elim
        | v kd =>
          dsimp only at h
          cases e4 : putXF i c ns j kd d env2 with
          | none => rw [e4] at h; exact h.elim
          | some env3 =>
            rw [e4] at h
            dsimp only at h
            unfold putXF at e4
            split at e4
            · rename_i bb c' ns' ws hw
              split at e4
              · rename_i hc
                obtain ⟨rfl, rfl⟩ := hc
                split at e4
                · rename_i b ks ds hj
                  split at e4
                  · rename_i hcond
                    cases e4
                    obtain ⟨a, C, dx, fs, v0, q0, h1, h2, h3, h4, h5, _⟩ := O2.S.fld T nd hf hw hj
                    refine ⟨.ref a, h1, a, C, dx, fs, v0, rfl, h2, h3, h4, h5, ?_⟩
                    refine ⟨F2, env2, own2, O2.S, ?_⟩
                    rw [e3]
                    intro y F3 H3 pk gr rk
                    have S3 := gr.sit O2.S
                    obtain ⟨vv, hvv, a3, dx3, C3, vs, p0, ev, hcC, g1, g2, f1, f2, hl, r, hp, n1, n2⟩ := S3.rep i _ hw
                    rw [h1] at hvv
                    cases hvv
                    cases ev
                    have ef : fs = ns'.zip vs := by
                      have := gr.exH _ _ h2
                      rw [g1] at this
                      cases this
                      rfl
                    obtain ⟨v, q, hvj, rvv, hqp, hupd⟩ := r.upd hj
                    have ev0 : v0 = v := by
                      rw [ef, lookup_zip nd hf, hvj] at h5
                      cases h5
                      rfl
                    subst ev0
                    obtain ⟨l, o, us, vs', rfl, hq, hlH, hlF, hD, ru, rv⟩ := rvv
                    have ql := (hq l).mpr rfl
                    have hal : a ≠ l := fun z => n1 (z ▸ hqp l ql)
                    have hdl : dx3 ≠ l := fun z => n2 (z ▸ hqp l ql)
                    have hi : i < env2.length := (List.getElem?_eq_some_iff.mp hw).1
                    have key := dix_put (D' := fun H4 => E.nx σ H4) gr.sub hlH hD ru rv hcond.1 (View.of gr.sub rk.2) (r2.mono gr.exF) hcond.2 fun o' us' vs2 k1 k2 k3 => by
                      have rw2 : RepW0 X.K F3 (upd H3 l o') (.ref l) (.d b (dixK ks kd) (dixD ks ds kd d)) q := ⟨l, o', us', vs2, rfl, hq, upd_same, hlF, k1, k2, k3⟩
                      have r3 := hupd (H' := upd H3 l o') (Same.refl _) (fun b o _ nq eb => by rw [upd_ne (fun z => nq ((hq b).mpr z))]; exact eb) (fun b pb _ => (r.there pb).2) rw2 (fun b z _ => z)
                      have evs : vs.set j (.ref l) = vs := by
                        obtain ⟨hjl, ee⟩ := List.getElem?_eq_some_iff.mp hvj
                        rw [← ee, List.set_getElem_self]
                      rw [evs] at r3
                      have hp2 : (fun b => (p0 b ∧ ¬ q b) ∨ q b) = p0 := funext fun b => propext ⟨fun z => z.elim (fun y => y.1) (hqp b), fun z => (Classical.em (q b)).elim .inr fun y => .inl ⟨z, y⟩⟩
                      rw [hp2] at r3
                      have RX : RepW X.K F3 (upd H3 l o') (.ref a) (.x (.o bb c' ns' (ws.set j (.d b (dixK ks kd) (dixD ks ds kd d))))) (own2 i) :=
                        ⟨a, dx3, C3, vs, p0, rfl, hcC, by rw [upd_ne hal]; exact g1, by rw [upd_ne hdl]; exact g2, f1, f2, hl, r3, hp, n1, n2⟩
                      obtain ⟨own', S', st⟩ := S3.repl (t := fun _ => False) (F' := F3) (H' := upd H3 l o') hi h1 (fun _ z => z.elim)
                        (fun b o eb => by
                          have : b ≠ l := fun z => by rw [z, hlF] at eb; cases eb
                          rw [upd_ne this]; exact gr.sub b o eb) (Same.refl _)
                        (fun b o eb no _ => by
                          have : b ≠ l := fun z => no ((hp b).mpr (.inr (z ▸ hqp l ql)))
                          rw [upd_ne this]; exact eb)
                        (fun b o eb n => by rw [eb] at n; cases n) RX (fun b z => .inr (.inl z))
                      exact h σ F3 (upd H3 l o') own' Only.refl (O2.trans (OutR.trans ⟨S3, (gr.drop.step own2).sub fun _ z => .inl z⟩ ⟨S', st.sup fun _ z => z.elim id False.elim⟩))
                    rcases key with ⟨H4, g, q⟩ | ⟨bb', kk, xs, ey, hx, hka, hz, q⟩
                    · exact .inl ⟨l, H4, rfl, g, q⟩
                    · exact .inr ⟨l, bb', kk, xs, rfl, ey, hx, hka, hz, q⟩
                  · cases e4
                · cases e4
              · cases e4
            · cases e4
  · rw [e1] at h
    exact h C σ F1 H1 own1 Only.refl hm O1
  · rw [e1] at h
    exact h
end
end DL

/-! Methods called, things made. -/
namespace DL
open PySem PySem.Spec PyProof.Rows L2
section
variable {X : Cx} {CX : CXT} {k : Nat} {C f : Addr} {fd : FuncData} {ps : List Str} {sp : Sp} {E : L2.St → XK} {x m : Str} {p pos apos : Pos} {e o : Expr} {es : List Expr} {ta : TE} {t : TA}
def tMethS (C : Addr) (m : Str) (sp : Sp) (E : L2.St → XK) (ta : TE) (t : TA) : TE := fun σ H Q => ta σ H fun x H1 => ∃ a dx fs, x = .ref a ∧ H1 a = some (.ins C dx fs) ∧ fs.lookup m = none ∧ t σ H1 fun vs H2 => sp (x :: vs) H2 Q (E σ)
theorem pe_methSD {pl : Sem Bool} (he : PE X o ta) (c : Cls X.K C) (hm : Meth X.K C m f) (F : FnOk X.prog X.w X.K X.mg X.base CX k f fd ps sp) (hr : Room k X.A) (hb : Binds X.K fd ps []) (hx : ∀ σ, PassesAt CX X σ (E σ)) (ha : PA X (e :: es) t)
    (hst : starEach (e :: es) X.env = (false, eval e X.env) :: starEach es X.env := by rfl) (hpl : (backTo pos (starEach es X.env)).any (·.1) = false := by rfl)
    (ht : eval (.Call (.Attribute o m apos) (e :: es) [] pos) X.env = (do
      let ov ← eval o X.env
      standAt apos.atName
      let (f, first) ← holding [ov] (getMethod ov m pl)
      callWith pos f first (backTo pos (starEach (e :: es) X.env)) (backToKw pos (keywordEach [] X.env))) := by rfl) :
    PE X (.Call (.Attribute o m apos) (e :: es) [] pos) (tMethS C m sp E ta t) := by
  refine ⟨fun pins s σ H Q I h => ?_⟩
  refine PySem.W.methodCall_KW (pl := pl) (thn (he.run pins s σ H _ I h) fun u s1 ⟨x, H1, I1, rx, a, dx, fs, ex, ea, l, q⟩ => ?_) ht
  subst ex
  obtain rfl : u = Value.ref a := rx
  refine getmeth_ok I1 ea c hm l ?_
  refine PySem.W.callWith_K (first := [.ref a]) (h₀ := X.base) I.ok.mod.kin hm.kp (thn (ha.run pos pins s1 σ H1 _ I1 q) fun us s2 ⟨vs, H2, I2, r, q2⟩ => ⟨I2.kIn, ?_⟩) hst hpl
  exact run_fnSD (dvs := []) (us := .ref a :: us) (vs := .ref a :: vs) F hr hb .nil (hx σ) I2 (.cons rfl r) (by rw [List.append_nil]; exact q2)
theorem pe_meth0SD {pl : Sem Bool} (he : PE X o ta) (c : Cls X.K C) (hm : Meth X.K C m f) (F : FnOk X.prog X.w X.K X.mg X.base CX k f fd ps sp) (hr : Room k X.A) (hb : Binds X.K fd ps []) (hx : ∀ σ, PassesAt CX X σ (E σ))
    (ht : eval (.Call (.Attribute o m apos) [] [] pos) X.env = (do
      let ov ← eval o X.env
      standAt apos.atName
      let (f, first) ← holding [ov] (getMethod ov m pl)
      callWith pos f first (backTo pos (starEach [] X.env)) (backToKw pos (keywordEach [] X.env))) := by rfl) :
    PE X (.Call (.Attribute o m apos) [] [] pos) (tMethS C m sp E ta tNil) := by
  refine ⟨fun pins s σ H Q I h => ?_⟩
  refine PySem.W.methodCall_KW (pl := pl) (thn (he.run pins s σ H _ I h) fun u s1 ⟨x, H1, I1, rx, a, dx, fs, ex, ea, l, q⟩ => ?_) ht
  subst ex
  obtain rfl : u = Value.ref a := rx
  refine getmeth_ok I1 ea c hm l ?_
  exact PySem.W.callWith_K0 (first := [.ref a]) I1.kIn hm.kp (run_fnSD (dvs := []) (us := [.ref a]) (vs := [.ref a]) F hr hb .nil (hx σ) I1 (.cons rfl .nil) q)
theorem run_makeSD {pins : List (Addr × Obj)} {σ : L2.St} {H : Hp} {s : Shared} {Q : VK} {us : List Value} {vs : List V} (M : Mk X.K C f) (F : FnOk X.prog X.w X.K X.mg X.base CX k f fd ps sp) (hr : Room (k + 1) X.A) (hb : Binds X.K fd ps [])
    (hx : PassesAt CX X σ (E σ)) (I : Inv X pins σ H s) (r : Vals vs us)
    (h : ∀ x dx, H x = none → H dx = none → dx ≠ x → sp (.ref x :: vs) (upd (upd H dx (.own x)) x (.ins C dx [])) (fun v H2 => v = .non ∧ Q (.ref x) H2) (E σ)) :
    wpAny (model X.prog X.w) X.A (call (.ref C) us) (EP X pins σ Q) X.xe s := by
  have hq := h (s.heap.objs.size + 1) s.heap.objs.size (I.hok.fresh (Nat.le_succ _)) (I.hok.fresh (Nat.le_refl _)) (Nat.ne_of_lt (Nat.lt_succ_self _))
  have I2 := Inv.made (C := C) I
  have r2 : Vals (V.ref (s.heap.objs.size + 1) :: vs) (Value.ref (s.heap.objs.size + 1) :: us) := .cons rfl r
  have hl : (Value.ref (s.heap.objs.size + 1) :: us ++ []).length = ps.length := by
    have e := r2.length
    rw [F.len _ _ _ _ hq] at e
    rw [List.append_nil]
    exact e.symm
  have hbb := hb _ (Value.ref (s.heap.objs.size + 1) :: us) I2.kIn hl
  rw [List.append_nil] at hbb
  refine wpAny_call (make_map (f := f) I.kIn M.makes M.init (beq_iff_eq.mp M.fn) (codeAny_mono (F.run _ X.stack _ _ ⟨Value.ref (s.heap.objs.size + 1) :: us, []⟩ (Value.ref (s.heap.objs.size + 1) :: us) _ _ (E σ) (hr.make C us [])
    (I2.env0.make C us []) hbb r2 hq) fun r s' hq' => ?_))
  cases r with
  | error e => exact hx pins _ _ e s' I2 hq'
  | ok fl =>
    cases fl with
    | ret u =>
      obtain ⟨v, H', I3, rv, ev, q3⟩ := I2.after hq'
      subst ev
      exact ⟨rv, ⟨V.ref (s.heap.objs.size + 1), H', I3, rfl, q3⟩⟩
    | next => exact False.elim hq'
    | brk => exact False.elim hq'
    | cont => exact False.elim hq'
def tMakeS (C : Addr) (sp : Sp) (E : L2.St → XK) (t : TA) : TE := fun σ H Q => t σ H fun vs H1 => ∀ x dx, H1 x = none → H1 dx = none → dx ≠ x → sp (.ref x :: vs) (upd (upd H1 dx (.own x)) x (.ins C dx [])) (fun v H2 => v = .non ∧ Q (.ref x) H2) (E σ)
theorem pe_makeSD (M : Mk X.K C f) (F : FnOk X.prog X.w X.K X.mg X.base CX k f fd ps sp) (hr : Room (k + 1) X.A) (hg : Gl X x) (hm : X.mg x = some (.ref C)) (hb : Binds X.K fd ps []) (hx : ∀ σ, PassesAt CX X σ (E σ))
    (ha : PA X (e :: es) t) (hdb : (x == ("__debug__" : Str)) = false := by decide) (he : starEach (e :: es) X.env = (false, eval e X.env) :: starEach es X.env := by rfl) (hpl : (backTo pos (starEach es X.env)).any (·.1) = false := by rfl) :
    PE X (.Call (.Name x p) (e :: es) [] pos) (tMakeS C sp E t) := by
  refine ⟨fun pins s σ H Q I h => ?_⟩
  refine wpAny_Call_Name_kw (ld_glob I hg hm ?_ hdb)
  refine PySem.W.callWith_K (h₀ := X.base) I.ok.mod.kin M.kp (thn (ha.run pos pins s σ H _ I h) fun us s1 ⟨vs, H1, I1, r, q⟩ => ⟨I1.kIn, ?_⟩) he hpl
  exact run_makeSD M F hr hb (hx σ) I1 r q
end
/-! ### o.m(..), o a name -/
structure CalM (P : Program) (w : World) (K : PySem.W.Frag) (mg : Str → Option Value) (base : Heap) (k : Nat) (c m : Str) (ps : List Str) (g : List W → RF) : Prop where
  ex : ∃ (C f : Addr) (fd : FuncData), PySem.W.nsIn K mainGlobals c = some (some (.ref C)) ∧ Cls K C ∧ Meth K C m f ∧ FnS P w K mg base k f fd ps g ∧ Binds K fd ps []
def callM (c : Str) (ns : List Str) (g : List W → RF) (i : Nat) (ms : List (Option Nat)) (fs : List (M U)) : M U := fun env => match env[i]? with
  | some (some (.x (.o _ c' ns' _))) => if c' = c ∧ ns' = ns then callF g (some i :: ms) (eVar i :: fs) env else .stuck
  | _ => .stuck
theorem aOf_var {K : PySem.W.Frag} {mg : Str → Option Value} {Wx : WX} {i : Nat} {fs : List (M U)} {σ : L2.St} {H : Hp} {Z : List V → Hp → Prop} (h : aOf K mg Wx (evs (eVar i :: fs)) σ H Z) : ∃ v, σ[i]? = some (some v) ∧ aOf K mg Wx (evs fs) σ H fun vs H2 => Z (v :: vs) H2 := by
  obtain ⟨F, env, own, S, h⟩ := h
  unfold evs at h
  have key : ∀ (u : U) (v : V), eVar i env = .ok u env → σ[i]? = some (some v) → RepU K F H σ v u (fun _ => False) → aOf K mg Wx (evs fs) σ H fun vs H2 => Z (v :: vs) H2 := fun u v e hv r => by
    rw [e, R.bind_ok] at h
    refine ⟨F, env, own, S, ?_⟩
    have O1 : Out K F H own σ u v env F H own (fun _ => False) := ⟨S, r, fun _ z => z.elim, Step.refl.sub fun _ z => z.elim id False.elim⟩
    cases e2 : evs fs env with
    | ok us env2 =>
      rw [e2] at h
      exact fun vs F2 H2 own2 p2 O2 => h _ _ _ _ _ (O1.cons O2)
    | raise c env2 =>
      rw [e2] at h
      exact h
    | stuck =>
      rw [e2] at h
      exact h
  cases hw : env[i]? with
  | none => rw [show eVar i env = .stuck by unfold eVar; rw [hw]] at h; exact h.elim
  | some ow =>
    cases ow with
    | none => rw [show eVar i env = .stuck by unfold eVar; rw [hw]] at h; exact h.elim
    | some w =>
      obtain ⟨v, hs, r⟩ := S.rep i _ hw
      refine ⟨v, hs, ?_⟩
      cases w with
      | v d => exact key (.w (.v d)) v (by unfold eVar; rw [hw]) hs ⟨fun _ z => z, r.2⟩
      | l b ds => exact key (.b i) v (by unfold eVar; rw [hw]) hs ⟨fun _ z => z, hs⟩
      | m ks ds => exact key (.b i) v (by unfold eVar; rw [hw]) hs ⟨fun _ z => z, hs⟩
      | x y => exact key (.b i) v (by unfold eVar; rw [hw]) hs ⟨fun _ z => z, hs⟩
section
variable {X : Cx} {Wx : WX} {i j k : Nat} {x c m : Str} {ns ps : List Str} {g : List W → RF} {ms : List (Option Nat)} {e : Expr} {es : List Expr} {fs : List (M U)} {p1 apos pos : Pos}
theorem callM_sem {K : PySem.W.Frag} {mg : Str → Option Value} {C : Addr} {σ : L2.St} {H : Hp} {Q : VK} {n : Nat} (hC : PySem.W.nsIn K mainGlobals c = some (some (.ref C))) (hm : m ∉ ns) (nd : ((some i :: ms).filterMap id).Nodup) (hn : (some i :: ms).length = n) (h : tOf K mg Wx (callM c ns g i ms fs) σ H Q) :
    tMethS C m (spOf K mg n g) (fun σ c d H' => Wx c d σ H') (tVar i) (aOf K mg Wx (evs fs)) σ H Q := by
  obtain ⟨F, env, own, S, h⟩ := h
  unfold callM at h
  split at h
  case h_3 => exact h.elim
  all_goals
    rename_i heq
    split at heq
    · rename_i b c' ns' ws hw
      split at heq
      · rename_i hc
        obtain ⟨rfl, rfl⟩ := hc
        obtain ⟨vv, hvv, a, dx, C', vs, p0, rfl, hcC, h1, _⟩ := S.rep i _ hw
        rw [hC] at hcC
        cases hcC
        have h' : tOf K mg Wx (callF g (some i :: ms) (eVar i :: fs)) σ H Q := ⟨F, env, own, S, by rw [heq]; exact h⟩
        obtain ⟨v, hv, ha⟩ := aOf_var (call_sem nd hn h')
        rw [hvv] at hv
        cases hv
        refine ⟨.ref a, hvv, a, dx, _, rfl, h1, lookup_zip_none hm, ?_⟩
        obtain ⟨F9, env9, own9, S9, h9⟩ := ha
        refine ⟨F9, env9, own9, S9, ?_⟩
        cases e9 : evs fs env9 with
        | ok us env2 =>
          rw [e9] at h9
          intro vs F2 H2 own2 p2 O2
          have h10 := h9 vs F2 H2 own2 p2 O2
          dsimp only at h10
          rw [List.append_nil] at h10
          exact h10
        | raise cc env2 => rw [e9] at h9; exact h9
        | stuck => rw [e9] at h9; exact h9
      · cases heq
    · cases heq
theorem e_callM (C : CalM X.prog X.w X.K X.mg X.base j c m ps g) (tk : Takes X Wx) (hr : Room k X.A) (ha : EaS X Wx (e :: es) fs) (hjk : j ≤ k) (hm : m ∉ ns) (hN : X.N[i]? = some x := by rfl) (hv : Vis X.env.scope x := by first | exact Or.inl rfl | exact Or.inr (Or.inl rfl) | exact Or.inr (Or.inr rfl)) (hd : (x == ("__debug__" : Str)) = false := by decide) (hcd : (x == ("__classdict__" : Str)) = false := by decide)
    (nd : ((some i :: ms).filterMap id).Nodup := by decide) (hn : (some i :: ms).length = ps.length := by rfl) (hst : starEach (e :: es) X.env = (false, eval e X.env) :: starEach es X.env := by rfl) (hpl : (backTo pos (starEach es X.env)).any (·.1) = false := by rfl) {pl : Sem Bool}
    (ht : eval (.Call (.Attribute (.Name x p1) m apos) (e :: es) [] pos) X.env = (do
      let ov ← eval (.Name x p1) X.env
      standAt apos.atName
      let (f, first) ← holding [ov] (getMethod ov m pl)
      callWith pos f first (backTo pos (starEach (e :: es) X.env)) (backToKw pos (keywordEach [] X.env))) := by rfl) :
    EvS X Wx (.Call (.Attribute (.Name x p1) m apos) (e :: es) [] pos) (callM c ns g i ms fs) := by
  obtain ⟨CC, f, fd, hC, cl, me, G, hb⟩ := C.ex
  exact PE.imp (pe_methSD (E := fun σ c d H' => Wx c d σ H') (pl := pl) (pe_var hN hv hd hcd) cl me G (hr.mono hjk) hb (fun σ => passAt tk σ) ha hst hpl ht) fun σ H Q h => callM_sem hC hm nd hn h
theorem e_callM0 (C : CalM X.prog X.w X.K X.mg X.base j c m ps g) (tk : Takes X Wx) (hr : Room k X.A) (hjk : j ≤ k) (hm : m ∉ ns) (hN : X.N[i]? = some x := by rfl) (hv : Vis X.env.scope x := by first | exact Or.inl rfl | exact Or.inr (Or.inl rfl) | exact Or.inr (Or.inr rfl)) (hd : (x == ("__debug__" : Str)) = false := by decide) (hcd : (x == ("__classdict__" : Str)) = false := by decide)
    (hn : ps.length = 1 := by rfl) {pl : Sem Bool}
    (ht : eval (.Call (.Attribute (.Name x p1) m apos) [] [] pos) X.env = (do
      let ov ← eval (.Name x p1) X.env
      standAt apos.atName
      let (f, first) ← holding [ov] (getMethod ov m pl)
      callWith pos f first (backTo pos (starEach [] X.env)) (backToKw pos (keywordEach [] X.env))) := by rfl) :
    EvS X Wx (.Call (.Attribute (.Name x p1) m apos) [] [] pos) (callM c ns g i [] []) := by
  obtain ⟨CC, f, fd, hC, cl, me, G, hb⟩ := C.ex
  refine PE.imp (pe_meth0SD (E := fun σ c d H' => Wx c d σ H') (pl := pl) (pe_var hN hv hd hcd) cl me G (hr.mono hjk) hb (fun σ => passAt tk σ) ht) fun σ H Q h => ?_
  obtain ⟨v, h1, a, dx, fs, e1, h2, h3, h4⟩ := callM_sem (n := ps.length) hC hm (ms := []) (by simp) (by rw [hn]; rfl) h
  refine ⟨v, h1, a, dx, fs, e1, h2, h3, ?_⟩
  obtain ⟨F, env, own, S, h4⟩ := h4
  exact h4 [] F H own _ (OutL.nil S)
end
end DL

namespace DL
open PySem PySem.Spec PyProof.Rows L2
section
variable {K : PySem.W.Frag} {F H F1 H1 : Hp} {σ : L2.St} {env : DEnv} {own : Nat → Fp} {fp fp1 : Fp}
/-- what others do with what is not owned here -/
theorem Sit.stepO (S : Sit K F σ H env own) (s : Step F H fp F1 H1 fp1) (d : ∀ a, fp a → ¬ all own a) (ex : Same F1 H1) : Sit K F1 σ H1 env own where
  ex := ex
  len := S.len
  rep := fun i w e => by
    obtain ⟨v, hv, r⟩ := S.rep i w e
    exact ⟨v, hv, (RepW.stepW r (fun a q z => d a z ⟨i, q⟩) s).1⟩
  emp := S.emp
  dis := S.dis
/-- one thing of one's own and data are handed in -/
def own1 (q : Fp) : Nat → Fp := fun j a => j = 0 ∧ q a
theorem sit_one {v0 : V} {w0 : W} {q : Fp} {vs : List V} {ds : List D} (ex : Same F H) (r0 : RepW K F H v0 w0 q) (rd : RepDs K F vs ds) : ASit K F H (v0 :: vs) (w0 :: ds.map .v) (own1 q) := by
  refine ⟨ex, by simp [rd.length], fun i w e => ?_, fun i a z => ?_, fun i j a z1 z2 => by rw [z1.1, z2.1]⟩
  · have e := get_map_some e
    cases i with
    | zero =>
      simp at e
      subst e
      refine ⟨v0, rfl, ?_⟩
      have : own1 q 0 = q := funext fun a => propext ⟨fun z => z.2, fun z => ⟨rfl, z⟩⟩
      rw [this]
      exact r0
    | succ i =>
      rw [List.getElem?_cons_succ, List.getElem?_map] at e
      cases e1 : ds[i]? with
      | none => rw [e1] at e; cases e
      | some d =>
        rw [e1] at e
        cases e
        obtain ⟨v, h1, h2⟩ := rd.get e1
        refine ⟨v, get_some_map (by rw [List.getElem?_cons_succ]; exact h1), ?_⟩
        show (∀ a, ¬ own1 q (i + 1) a) ∧ RepD K F v d
        exact ⟨fun a z => absurd z.1 (Nat.succ_ne_zero i), h2⟩
  · rw [z.1]
    exact ⟨w0, rfl⟩
theorem own1_all {q : Fp} {a : Addr} : all (own1 q) a ↔ q a := ⟨fun ⟨_, _, z⟩ => z, fun z => ⟨0, rfl, z⟩⟩
end
/-! ### C(..) -/
structure CalN (P : Program) (w : World) (K : PySem.W.Frag) (mg : Str → Option Value) (base : Heap) (k : Nat) (c : Str) (ps : List Str) (g : List W → RF) : Prop where
  ex : ∃ (C f : Addr) (fd : FuncData), mg c = some (.ref C) ∧ PySem.W.nsIn K mainGlobals c = some (some (.ref C)) ∧ Mk K C f ∧ FnS P w K mg base k f fd ps g ∧ Binds K fd ps []
def callNew (c : Str) (ns : List Str) (g : List W → RF) (fs : List (M U)) : M U := fun env => (evs fs env).bind fun us e1 => match frzs e1 us with
  | some (ds, e2) => (match g (.x (.o true c ns []) :: ds.map .v) with
    | .ok (.v .non) (.x (.o _ c' ns' ws) :: _) => .ok (.w (.x (.o false c' ns' ws))) e2
    | .raise cc _ => .raise cc e2
    | _ => .stuck)
  | none => .stuck
/-! ### e.m(..), e a thing just made -/
def callTmp (c : Str) (ns : List Str) (g : List W → RF) (fr : M U) (fs : List (M U)) : M U := fun env => (fr env).bind fun u e0 => match u with
  | .w (.x (.o _ c' ns' ws)) => if c' = c ∧ ns' = ns then (evs fs e0).bind fun us e1 => (match frzs e1 us with
    | some (ds, e2) => (match g (.x (.o true c ns ws) :: ds.map .v) with
      | .ok w _ => .ok (.w w) e2
      | .raise cc _ => .raise cc e2
      | .stuck => .stuck)
    | none => .stuck) else .stuck
  | _ => .stuck
section
variable {X : Cx} {Wx : WX} {j k : Nat} {x c m : Str} {ns ps : List Str} {g : List W → RF} {e o : Expr} {es : List Expr} {fr : M U} {fs : List (M U)} {p apos pos : Pos}
theorem callNew_sem {K : PySem.W.Frag} {mg : Str → Option Value} {C : Addr} {σ : L2.St} {H : Hp} {Q : VK} {n : Nat} (hC : PySem.W.nsIn K mainGlobals c = some (some (.ref C))) (hn : fs.length + 1 = n) (h : tOf K mg Wx (callNew c ns g fs) σ H Q) :
    tMakeS C (spOf K mg n g) (fun σ c d H' => Wx c d σ H') (aOf K mg Wx (evs fs)) σ H Q := by
  obtain ⟨F, env, own, S, h⟩ := h
  refine ⟨F, env, own, S, ?_⟩
  unfold callNew at h
  cases e : evs fs env with
  | stuck => rw [e] at h; exact h
  | raise c env1 => rw [e] at h; exact h
  | ok us env1 =>
    rw [e, R.bind_ok] at h
    intro vs F1 H1 own1' p O x dx hx hdx hne
    cases e1 : frzs env1 us with
    | none => rw [e1] at h; exact h.elim
    | some pr =>
      obtain ⟨ds, env2⟩ := pr
      rw [e1] at h
      dsimp only at h
      obtain ⟨F2, own2, S2, rd, s2⟩ := frzs_ok O.S O.r O.d e1
      have f2x : F2 x = none := sub_none S2.ex hx
      have f2d : F2 dx = none := sub_none S2.ex hdx
      let H3 := upd (upd H1 dx (.own x)) x (.ins C dx [])
      have up : ∀ a u, H1 a = some u → H3 a = some u := fun a u q => by
        show upd (upd H1 dx (.own x)) x (.ins C dx []) a = _
        rw [upd_ne (ne_of_none q hx), upd_ne (ne_of_none q hdx)]
        exact q
      have ex3 : Same F2 H3 := fun a u q => up a u (S2.ex a u q)
      have hX : H3 x = some (.ins C dx []) := upd_same
      have hD : H3 dx = some (.own x) := by
        show upd (upd H1 dx (.own x)) x (.ins C dx []) dx = _
        rw [upd_ne hne]
        exact upd_same
      have r0 : RepW K F2 H3 (.ref x) (.x (.o true c ns [])) (fun a => a = x ∨ a = dx) := ⟨x, dx, C, [], fun _ => False, rfl, hC, by rw [List.zip_nil_right]; exact hX, hD, f2x, f2d, Nat.zero_le _, fun _ z => z, fun b => ⟨fun z => .inl z, fun z => z.elim id False.elim⟩, fun z => z, fun z => z⟩
      have SA := sit_one ex3 r0 rd
      have lenE : us.length = fs.length := by
        have : ∀ (fs : List (M U)) (env env1 : DEnv) (us : List U), evs fs env = .ok us env1 → us.length = fs.length := by
          intro fs
          induction fs with
          | nil => intro env env1 us h; unfold evs at h; cases h; rfl
          | cons f fs ih =>
            intro env env1 us h
            unfold evs at h
            cases ef : f env with
            | ok u ea =>
              rw [ef, R.bind_ok] at h
              cases er : evs fs ea with
              | ok us' eb =>
                rw [er, R.bind_ok] at h
                cases h
                rw [List.length_cons, List.length_cons, ih _ _ _ er]
              | raise c eb => rw [er] at h; cases h
              | stuck => rw [er] at h; cases h
            | raise c eb => rw [ef] at h; cases h
            | stuck => rw [ef] at h; cases h
        exact this _ _ _ _ e
      refine ⟨by rw [List.length_cons, O.r.length, lenE]; exact hn, F2, _, _, SA, ?_⟩
      have alloc : Step F2 H1 (fun _ => False) F2 H3 (all (own1 fun a => a = x ∨ a = dx)) := ⟨Same.refl _, fun a u q _ => up a u q, fun a z => .inr (by
        rcases own1_all.mp z with z | z
        · rw [z]; exact hx
        · rw [z]; exact hdx), fun a u q n' => by rw [q] at n'; cases n'⟩
      have sAll := O.s.trans s2
      cases e4 : g (.x (.o true c ns []) :: ds.map .v) with
      | stuck => rw [e4] at h; exact h
      | raise cc ws' =>
        rw [e4] at h
        dsimp only at h
        intro CC F3 H4 ownA' hm S3 s3
        have st := alloc.trans s3
        have S4 := S2.stepO st (fun _ z => z.elim) S3.ex
        refine h CC F3 H4 own2 hm ⟨S4, (sAll.trans ((st.more (all own2)).sup fun a z => z.elim False.elim id)).sub fun a z => .inr z⟩
      | ok w ws' =>
        rw [e4] at h
        match w, ws', e4, h with
        | .v .non, .x (.o b c' ns' ws) :: rest, e4, h =>
          dsimp only at h
          intro v F3 H4 ownA' pw O3
          have st := alloc.trans O3.s
          have S4 := S2.stepO st (fun _ z => z.elim) O3.S.ex
          obtain ⟨_, rv⟩ := O3.r
          cases rv
          refine ⟨rfl, ?_⟩
          obtain ⟨v', hv', rx⟩ := O3.S.rep 0 _ rfl
          have ev : v' = .ref x := by
            have := get_map_some hv'
            simpa using this.symm
          subst ev
          refine h (.ref x) F3 H4 own2 (ownA' 0) ⟨S4, rx, fun a z q => ?_, (sAll.trans ((st.more (all own2)).sup fun a z => z.elim False.elim id)).sub fun a z => ?_⟩
          · rcases st.new a (.inl ⟨0, z⟩) with y | y
            · exact y
            · obtain ⟨⟨o, e5⟩, _⟩ := S2.there q
              rw [y] at e5
              cases e5
          · rcases z with z | z
            · exact .inr z
            · exact .inl (.inl ⟨0, z⟩)
        | .l _ _, _, _, h => exact h.elim
        | .m _ _, _, _, h => exact h.elim
        | .x _, _, _, h => exact h.elim
        | .v (.bl _), _, _, h => exact h.elim
        | .v (.int _), _, _, h => exact h.elim
        | .v (.str _), _, _, h => exact h.elim
        | .v (.tup _), _, _, h => exact h.elim
        | .v (.lst _), _, _, h => exact h.elim
        | .v (.ty _), _, _, h => exact h.elim
        | .v (.nam _ _), _, _, h => exact h.elim
        | .v (.scr _), _, _, h => exact h.elim
        | .v (.dic _ _), _, _, h => exact h.elim
        | .v (.dix _ _ _), _, _, h => exact h.elim
        | .v (.ins _ _ _), _, _, h => exact h.elim
        | .v .non, [], _, h => exact h.elim
        | .v .non, .v _ :: _, _, h => exact h.elim
        | .v .non, .l _ _ :: _, _, h => exact h.elim
        | .v .non, .m _ _ :: _, _, h => exact h.elim
        | .v .non, .x (.d _ _ _) :: _, _, h => exact h.elim
        | .v .non, .x (.t _) :: _, _, h => exact h.elim
theorem e_callN (C : CalN X.prog X.w X.K X.mg X.base j c ps g) (tk : Takes X Wx) (hr : Room k X.A) (ha : EaS X Wx (e :: es) fs) (hjk : j + 1 ≤ k) (hn : fs.length + 1 = ps.length := by rfl) (hg : Gl X c := by rfl) (hdb : (c == ("__debug__" : Str)) = false := by decide) (he : starEach (e :: es) X.env = (false, eval e X.env) :: starEach es X.env := by rfl) (hpl : (backTo pos (starEach es X.env)).any (·.1) = false := by rfl) :
    EvS X Wx (.Call (.Name c p) (e :: es) [] pos) (callNew c ns g fs) := by
  obtain ⟨CC, f, fd, hm, hC, M, G, hb⟩ := C.ex
  exact PE.imp (pe_makeSD (E := fun σ c d H' => Wx c d σ H') M G (hr.mono hjk) hg hm hb (fun σ => passAt tk σ) ha hdb he hpl) fun σ H Q h => callNew_sem hC hn h
end
end DL

namespace DL
open PySem PySem.Spec PyProof.Rows L2
theorem evs_len : ∀ {fs : List (M U)} {env env1 : DEnv} {us : List U}, evs fs env = .ok us env1 → us.length = fs.length := by
  intro fs
  induction fs with
  | nil => intro env env1 us h; unfold evs at h; cases h; rfl
  | cons f fs ih =>
    intro env env1 us h
    unfold evs at h
    cases ef : f env with
    | ok u ea =>
      rw [ef, R.bind_ok] at h
      cases er : evs fs ea with
      | ok us' eb =>
        rw [er, R.bind_ok] at h
        cases h
        rw [List.length_cons, List.length_cons, ih er]
      | raise c eb => rw [er] at h; cases h
      | stuck => rw [er] at h; cases h
    | raise c eb => rw [ef] at h; cases h
    | stuck => rw [ef] at h; cases h
section
variable {X : Cx} {Wx : WX} {j k : Nat} {x c m : Str} {ns ps : List Str} {g : List W → RF} {e o : Expr} {es : List Expr} {fr : M U} {fs : List (M U)} {p apos pos : Pos}
theorem callTmp_sem {K : PySem.W.Frag} {mg : Str → Option Value} {C : Addr} {σ : L2.St} {H : Hp} {Q : VK} {n : Nat} (hC : PySem.W.nsIn K mainGlobals c = some (some (.ref C))) (hm : m ∉ ns) (hn : fs.length + 1 = n) (h : tOf K mg Wx (callTmp c ns g fr fs) σ H Q) :
    tMethS C m (spOf K mg n g) (fun σ c d H' => Wx c d σ H') (tOf K mg Wx fr) (aOf K mg Wx (evs fs)) σ H Q := by
  obtain ⟨F, env, own, S, h⟩ := h
  unfold callTmp at h
  refine tOf_use S (fun u env0 e0 v0 F0 H0 own0 p0 O0 => ?_) (fun c env1 e1 C F1 H1 own1 => ?_) (fun e1 => ?_)
  · rw [e0, R.bind_ok] at h
    split at h
    case h_3 => exact h.elim
    all_goals
      rename_i heq
      split at heq
      · rename_i b c' ns' ws
        split at heq
        · rename_i hc
          obtain ⟨rfl, rfl⟩ := hc
          obtain ⟨a, dx, C', vs0, q0, rfl, hcC, h1, _⟩ := O0.r
          rw [hC] at hcC
          cases hcC
          refine ⟨a, dx, _, rfl, h1, lookup_zip_none hm, ?_⟩
          refine ⟨F0, env0, own0, O0.S, ?_⟩
          cases e : evs fs env0 with
          | stuck => rw [e] at heq; cases heq
          | raise cc env1 =>
            rw [e] at heq
            first | (cases heq; done) | (cases heq; exact fun C F1 H1 own1 hm O => h C F1 H1 own1 hm (O0.drop.trans O))
          | ok us env1 =>
            rw [e, R.bind_ok] at heq
            intro vs F1 H1 own1' p O
            obtain ⟨r1, d1⟩ := RepU.stepU O0.r O0.d O.s
            cases e1 : frzs env1 us with
            | none => rw [e1] at heq; cases heq
            | some pr =>
              obtain ⟨ds, env2⟩ := pr
              rw [e1] at heq
              dsimp only at heq
              obtain ⟨F2, own2, S2, rd, s2⟩ := frzs_ok O.S O.r O.d e1
              obtain ⟨r2, d2⟩ := RepU.stepU (σ := σ) (u := .w (.x (.o b c' ns' ws))) r1 d1 s2
              have r2' : RepW K F2 H1 (.ref a) (.x (.o true c' ns' ws)) p0 := r2
              have SA := sit_one S2.ex r2' rd
              refine ⟨by rw [List.length_cons, O.r.length, evs_len e]; exact hn, F2, _, _, SA, ?_⟩
              have dis : ∀ z, all (own1 p0) z → ¬ all own2 z := fun z q => d2 z (own1_all.mp q)
              have sAll := (O0.s.trans (O.s.more p0)).trans (s2.more p0)
              cases e4 : g (.x (.o true c' ns' ws) :: ds.map .v) with
              | stuck => rw [e4] at heq; cases heq
              | raise cc ws' =>
                rw [e4] at heq
                dsimp only at heq
                first
                | (cases heq; done)
                | (cases heq
                   intro CC F3 H4 ownA' hm S3 s3
                   have S4 := S2.stepO s3 dis S3.ex
                   exact h CC F3 H4 own2 hm ⟨S4, (sAll.trans ((s3.more (all own2)).sup fun a z => z.elim (fun y => y.elim (fun y => .inr (own1_all.mp y)) .inl) False.elim)).sub fun a z => .inr z⟩)
                | (cases heq
                   intro CC F3 H4 ownA' hm S3 s3
                   have S4 := S2.stepO s3 dis S3.ex
                   exact h CC F3 H4 own2 hm ⟨S4, (sAll.trans ((s3.more (all own2)).sup fun a z => z.elim (fun y => .inr (own1_all.mp y)) .inl)).sub fun a z => .inr z⟩)
              | ok w ws' =>
                rw [e4] at heq
                dsimp only at heq
                first
                | (cases heq; done)
                | (cases heq
                   intro v F3 H4 ownA' pw O3
                   have S4 := S2.stepO O3.s dis O3.S.ex
                   refine h v F3 H4 own2 pw ⟨S4, O3.r, fun a z q => ?_, (sAll.trans ((O3.s.more (all own2)).sup fun a z => z.elim (fun y => .inr (own1_all.mp y)) .inl)).sub fun a z => ?_⟩
                   · rcases O3.s.new a (.inr z) with y | y
                     · exact dis a y q
                     · obtain ⟨⟨o, e5⟩, _⟩ := S2.there q
                       rw [y] at e5
                       cases e5
                   · rcases z with z | z
                     · exact .inr z
                     · exact .inl (.inr z))
        · cases heq
      · cases heq
  · rw [e1] at h
    exact h C F1 H1 own1
  · rw [e1] at h
    exact h
theorem e_callT (C : CalM X.prog X.w X.K X.mg X.base j c m ps g) (tk : Takes X Wx) (hr : Room k X.A) (ho : EvS X Wx o fr) (ha : EaS X Wx (e :: es) fs) (hjk : j ≤ k) (hm : m ∉ ns)
    (hn : fs.length + 1 = ps.length := by rfl) (hst : starEach (e :: es) X.env = (false, eval e X.env) :: starEach es X.env := by rfl) (hpl : (backTo pos (starEach es X.env)).any (·.1) = false := by rfl) {pl : Sem Bool}
    (ht : eval (.Call (.Attribute o m apos) (e :: es) [] pos) X.env = (do
      let ov ← eval o X.env
      standAt apos.atName
      let (f, first) ← holding [ov] (getMethod ov m pl)
      callWith pos f first (backTo pos (starEach (e :: es) X.env)) (backToKw pos (keywordEach [] X.env))) := by rfl) :
    EvS X Wx (.Call (.Attribute o m apos) (e :: es) [] pos) (callTmp c ns g fr fs) := by
  obtain ⟨CC, f, fd, hC, cl, me, G, hb⟩ := C.ex
  exact PE.imp (pe_methSD (E := fun σ c d H' => Wx c d σ H') (pl := pl) ho cl me G (hr.mono hjk) hb (fun σ => passAt tk σ) ha hst hpl ht) fun σ H Q h => callTmp_sem hC hm hn h
theorem e_callT0 (C : CalM X.prog X.w X.K X.mg X.base j c m ps g) (tk : Takes X Wx) (hr : Room k X.A) (ho : EvS X Wx o fr) (hjk : j ≤ k) (hm : m ∉ ns) (hn : ps.length = 1 := by rfl) {pl : Sem Bool}
    (ht : eval (.Call (.Attribute o m apos) [] [] pos) X.env = (do
      let ov ← eval o X.env
      standAt apos.atName
      let (f, first) ← holding [ov] (getMethod ov m pl)
      callWith pos f first (backTo pos (starEach [] X.env)) (backToKw pos (keywordEach [] X.env))) := by rfl) :
    EvS X Wx (.Call (.Attribute o m apos) [] [] pos) (callTmp c ns g fr []) := by
  obtain ⟨CC, f, fd, hC, cl, me, G, hb⟩ := C.ex
  refine PE.imp (pe_meth0SD (E := fun σ c d H' => Wx c d σ H') (pl := pl) ho cl me G (hr.mono hjk) hb (fun σ => passAt tk σ) ht) fun σ H Q h => ?_
  have h := callTmp_sem (n := ps.length) hC hm (fs := []) (by rw [hn]; rfl) h
  refine tOf_mono h fun v H1 q => ?_
  obtain ⟨a, dx, fs, e1, h2, h3, h4⟩ := q
  refine ⟨a, dx, fs, e1, h2, h3, ?_⟩
  obtain ⟨F, env, own, S, h4⟩ := h4
  exact h4 [] F H1 own _ (OutL.nil S)
end
/-! ### methods that only add -/
abbrev GF := List W → Option W
def spOfG (K : PySem.W.Frag) (n : Nat) (g : GF) : Sp := fun vs H Q E => vs.length = n ∧ ∃ F ws own, ASit K F H vs ws own ∧ match g ws with
  | some w => ∀ v F' H' p, Grow F H F' H' p → RepW K F' H' v w p → Q v H'
  | none => False
abbrev FnG (P : Program) (w : World) (K : PySem.W.Frag) (mg : Str → Option Value) (base : Heap) (k : Nat) (f : Addr) (fd : FuncData) (ps : List Str) (g : GF) : Prop :=
  FnOk P w K mg base (L2.CX P w) k f fd ps (spOfG K ps.length g)
abbrev MG := DEnv → Option (Option W)
def sgOf (K : PySem.W.Frag) (f : MG) : TS := fun E σ H => ∃ F env own, Sit K F σ H env own ∧ match f env with
  | some (some w) => ∀ v F' H' p, Grow F H F' H' p → RepW K F' H' v w p → E.rt v H'
  | some none => ∀ F' H', Grow F H F' H' (fun _ => False) → E.nx σ H'
  | none => False
abbrev StG (X : Cx) (st : Stmt) (f : MG) : Prop := PS X st (sgOf X.K f)
abbrev SsG (X : Cx) (st : List Stmt) (f : MG) : Prop := PSs X st (sgOf X.K f)
def retG (f : G) : MG := fun env => (f env).map some
def nextG : MG := fun _ => some none
def seqG (a b : MG) : MG := fun env => match a env with
  | some none => b env
  | r => r
def ifG (t : G) (a b : MG) : MG := fun env => match t env with
  | some (.v (.bl c)) => if c then a env else b env
  | _ => none
section
variable {X : Cx} {e c : Expr} {f t : G} {a b : MG} {st : Stmt} {sts as bs : List Stmt} {pos : Pos}
theorem sg_ret (he : EvG X e f) : StG X (.Return (some e) pos) (retG f) := PS.imp (ps_ret he) fun E σ H h => by
  obtain ⟨F, env, own, S, h⟩ := h
  refine ⟨F, env, own, S, ?_⟩
  unfold retG at h
  cases e1 : f env with
  | none => rw [e1] at h; exact h.elim
  | some w => rw [e1] at h; exact h
theorem ssg_nil : SsG X [] nextG := PSs.imp pss_nil fun E σ H h => by
  obtain ⟨F, env, own, S, h⟩ := h
  exact h F H (Grow.refl S.ex)
theorem ssg_one (h : StG X st a) : SsG X [st] a := pss_one h
theorem ssg_cons (h1 : StG X st a) (h2 : SsG X sts b) : SsG X (st :: sts) (seqG a b) := PSs.imp (pss_cons h1 h2) fun E σ H h => by
  obtain ⟨F, env, own, S, h⟩ := h
  refine ⟨F, env, own, S, ?_⟩
  unfold seqG at h
  cases e1 : a env with
  | none => rw [e1] at h; exact h.elim
  | some r =>
    rw [e1] at h
    cases r with
    | some w => exact h
    | none =>
      dsimp only at h
      intro F1 H1 g1
      refine ⟨F1, env, own, g1.sit S, ?_⟩
      cases e2 : b env with
      | none => rw [e2] at h; exact h
      | some r2 =>
        rw [e2] at h
        cases r2 with
        | some w => exact fun v F' H' p g r => h v F' H' p (g1.trans g) r
        | none => exact fun F' H' g => h F' H' (g1.trans g)
theorem sg_if (hc : EvG X c t) (ha : SsG X as a) (hb : SsG X bs b) (he : ∀ whole, isTrue c X.env whole = (do let v ← whole; standAt c.pos; holding [v] (truthy v)) := by intro _; rfl) : StG X (.If c as bs pos) (ifG t a b) := PS.imp (ps_if (pt_val hc he) ha hb) fun E σ H h => by
  obtain ⟨F, env, own, S, h⟩ := h
  refine ⟨F, env, own, S, ?_⟩
  unfold ifG at h
  have key : ∀ (r : MG), (match r env with | some (some w) => ∀ v F' H' p, Grow F H F' H' p → RepW X.K F' H' v w p → E.rt v H' | some none => ∀ F' H', Grow F H F' H' (fun _ => False) → E.nx σ H' | none => False) → ∀ F1 H1, Grow F H F1 H1 (fun _ => False) → sgOf X.K r E σ H1 := fun r h F1 H1 g1 => by
    refine ⟨F1, env, own, g1.sit S, ?_⟩
    cases e2 : r env with
    | none => rw [e2] at h; exact h
    | some r2 =>
      rw [e2] at h
      cases r2 with
      | some w => exact fun v F' H' p g r => h v F' H' p (g1.trans g) r
      | none => exact fun F' H' g => h F' H' (g1.trans g)
  split at h
  case h_3 => exact h.elim
  all_goals
    rename_i heq
    split at heq
    · rename_i cc ht
      rw [ht]
      intro v F1 H1 p g1 rv
      obtain ⟨_, rv⟩ := rv
      cases rv
      refine ⟨cc, rfl, ?_⟩
      cases cc with
      | true =>
        rw [if_pos rfl] at heq ⊢
        exact key a (by rw [heq]; exact h) F1 H1 g1.drop
      | false =>
        rw [if_neg Bool.false_ne_true] at heq ⊢
        exact key b (by rw [heq]; exact h) F1 H1 g1.drop
    · cases heq
end
/-- what a body that only adds makes of a def with np parameters and nl names -/
def mkG (np nl : Nat) (f : MG) : GF := fun ws => if ws.length = np then (match f (ws.map some ++ List.replicate (nl - np) none) with
  | some (some w) => some w
  | some none => some (.v .non)
  | none => none) else none
theorem sit_startG {K : PySem.W.Frag} {F H : Hp} {vs : List V} {ws : List W} {own : Nat → Fp} {n : Nat} (S : ASit K F H vs ws own) : Sit K F (vs.map some ++ List.replicate n none) H (ws.map some ++ List.replicate n none) own := by
  have hl : ws.length = vs.length := by have := S.len; simpa using this
  refine ⟨S.ex, by simp [hl], fun i w e => ?_, fun i a z => ?_, S.dis⟩
  · by_cases hi : i < ws.length
    · rw [List.getElem?_append_left (by simpa using hi)] at e
      obtain ⟨v, hv, r⟩ := S.rep i w e
      refine ⟨v, ?_, r⟩
      rw [List.getElem?_append_left (by rw [List.length_map, ← hl]; exact hi)]
      exact hv
    · rw [List.getElem?_append_right (by simpa using Nat.le_of_not_lt hi), List.getElem?_replicate] at e
      split at e <;> cases e
  · obtain ⟨w, e⟩ := S.emp i a z
    have hi : i < ws.length := (List.getElem?_eq_some_iff.mp (get_map_some e)).1
    exact ⟨w, by rw [List.getElem?_append_left (by simpa using hi)]; exact e⟩
theorem fnG_ok {P : Program} {w : World} {K : PySem.W.Frag} {mg : Str → Option Value} {base : Heap} {x qual : Str} {st : Stmt} {f : Addr} {fd : FuncData} {N ps : List Str} {k : Nat} {fb : MG} (F : Fun K x qual st f fd) (S : FnScope N ps (defScope st))
    (hb : ∀ (cdv : Value) (A : Around) (outer : List Env) (s : Shared) (H : Hp) (E : XK), Room k (A.deeper (envOfC qual (defScope st) s.heap.objs.size f cdv)) →
      SsG (cxOf (L2.CX P w) P w K mg base N qual (defScope st) f cdv A outer s H E) (defBody st) fb)
    : FnG P w K mg base (k + 1) f fd ps (mkG ps.length N.length fb) := by
  refine F.okX S (fun vs H Q E h => h.1) (fun cdv A outer s H vs Q E hr h => ?_)
  obtain ⟨hl, F0, ws, own, SA, h⟩ := h
  have hwl : ws.length = ps.length := by have := SA.len; simp at this; omega
  unfold mkG at h
  rw [if_pos hwl] at h
  have e0 : L2.start N vs = vs.map some ++ List.replicate (N.length - ps.length) none := by unfold L2.start; rw [hl]
  refine ⟨_, hb cdv A outer s H E hr, F0, ws.map some ++ List.replicate (N.length - ps.length) none, own, ?_, ?_⟩
  · rw [e0]
    exact sit_startG SA
  · cases e : fb (ws.map some ++ List.replicate (N.length - ps.length) none) with
    | none => rw [e] at h; exact h
    | some r =>
      rw [e] at h
      cases r with
      | some w => exact h
      | none => exact fun F' H' g => h .non F' H' (fun _ => False) g RepW.ofNon
end DL

namespace DL
open PySem PySem.Spec PyProof.Rows L2
/-! ### a method that only adds, called -/
structure CalG (P : Program) (w : World) (K : PySem.W.Frag) (mg : Str → Option Value) (base : Heap) (k : Nat) (c m : Str) (ps : List Str) (g : GF) : Prop where
  ex : ∃ (C f : Addr) (fd : FuncData), PySem.W.nsIn K mainGlobals c = some (some (.ref C)) ∧ Cls K C ∧ Meth K C m f ∧ FnG P w K mg base k f fd ps g ∧ Binds K fd ps []
def callMG (c : Str) (ns : List Str) (g : GF) (i : Nat) (fs : List G) : G := fun env => match env[i]? with
  | some (some (.x (.o b c' ns' ws))) => if c' = c ∧ ns' = ns then (match evsG fs env with
    | some as => (match allV as with
      | some ds => g (.x (.o b c ns ws) :: ds.map .v)
      | none => none)
    | none => none) else none
  | _ => none
theorem evsG_len : ∀ {fs : List G} {env : DEnv} {ws : List W}, evsG fs env = some ws → ws.length = fs.length
  | [], _, _, h => by cases h; rfl
  | f :: fs, env, ws, h => by
    unfold evsG at h
    split at h
    · rename_i w ws' h1 h2
      cases h
      rw [List.length_cons, List.length_cons, evsG_len h2]
    · cases h
theorem allV_len : ∀ {ws : List W} {ds : List D}, allV ws = some ds → ds.length = ws.length
  | [], _, h => by cases h; rfl
  | .v d :: ws, ds, h => by
    have h : (allV ws).map (d :: ·) = some ds := h
    obtain ⟨ds', h1, rfl⟩ := Option.map_eq_some_iff.mp h
    rw [List.length_cons, List.length_cons, allV_len h1]
  | .l _ _ :: _, _, h => by cases h
  | .m _ _ :: _, _, h => by cases h
  | .x _ :: _, _, h => by cases h
section
variable {X : Cx} {i j k : Nat} {x c m : Str} {ns ps : List Str} {g : GF} {e : Expr} {es : List Expr} {fs : List G} {p1 apos pos : Pos}
theorem g_callMG (C : CalG X.prog X.w X.K X.mg X.base j c m ps g) (hr : Room k X.A) (ha : EaG X (e :: es) fs) (hjk : j ≤ k) (hm : m ∉ ns) (hN : X.N[i]? = some x := by rfl) (hv : Vis X.env.scope x := by first | exact Or.inl rfl | exact Or.inr (Or.inl rfl) | exact Or.inr (Or.inr rfl)) (hd : (x == ("__debug__" : Str)) = false := by decide) (hcd : (x == ("__classdict__" : Str)) = false := by decide)
    (hn : fs.length + 1 = ps.length := by rfl) (hst : starEach (e :: es) X.env = (false, eval e X.env) :: starEach es X.env := by rfl) (hpl : (backTo pos (starEach es X.env)).any (·.1) = false := by rfl) {pl : Sem Bool}
    (ht : eval (.Call (.Attribute (.Name x p1) m apos) (e :: es) [] pos) X.env = (do
      let ov ← eval (.Name x p1) X.env
      standAt apos.atName
      let (f, first) ← holding [ov] (getMethod ov m pl)
      callWith pos f first (backTo pos (starEach (e :: es) X.env)) (backToKw pos (keywordEach [] X.env))) := by rfl) :
    EvG X (.Call (.Attribute (.Name x p1) m apos) (e :: es) [] pos) (callMG c ns g i fs) := by
  obtain ⟨CC, f, fd, hC, cl, me, GG, hb⟩ := C.ex
  refine PE.imp (pe_methSD (E := fun σ c d H' => False) (pl := pl) (pe_var hN hv hd hcd) cl me GG (hr.mono hjk) hb (fun σ => passAt takes0 σ) ha hst hpl ht) fun σ H Q h => ?_
  obtain ⟨F, env, own, S, h⟩ := h
  unfold callMG at h
  split at h
  · rename_i w heq
    split at heq
    · rename_i b c' ns' ws hw
      split at heq
      · rename_i hc
        obtain ⟨rfl, rfl⟩ := hc
        split at heq
        · rename_i as has
          split at heq
          · rename_i ds hds
            obtain ⟨vv, hvv, rr⟩ := S.rep i _ hw
            have rr0 := rr
            obtain ⟨a, dx, C', vs0, p0, rfl, hcC, h1, _⟩ := rr
            rw [hC] at hcC
            cases hcC
            refine ⟨.ref a, hvv, a, dx, _, rfl, h1, lookup_zip_none hm, ?_⟩
            refine ⟨F, env, own, S, ?_⟩
            rw [has]
            intro vs F1 H1 gr rs
            have rd := rs.allV hds
            have SA := sit_one gr.sub (gr.repW rr0) rd
            refine ⟨by rw [List.length_cons, rd.length, allV_len hds, evsG_len has]; exact hn, F1, _, _, SA, ?_⟩
            rw [heq]
            exact fun v F' H' p g' r' => h v F' H' p (gr.trans g') r'
          · cases heq
        · cases heq
      · cases heq
    · cases heq
  · exact h.elim
end
/-! ### targets, the heap as it stands -/
def gvOf (K : PySem.W.Frag) (is : List Nat) (m : MT) : TG := fun v σ H Q => ∃ F env own d, Sit K F σ H env own ∧ RepD K F v d ∧ match m d env with
  | some env' => ∀ σ' own', Only is σ σ' → Sit K F σ' H env' own' → (∀ a, all own' a → all own a) → Q σ' H
  | none => False
def gvsOf (K : PySem.W.Frag) (is : List Nat) (m : MTs) : TGs := fun vs σ H Q => ∃ F env own ds, Sit K F σ H env own ∧ RepDs K F vs ds ∧ match m ds env with
  | some env' => ∀ σ' own', Only is σ σ' → Sit K F σ' H env' own' → (∀ a, all own' a → all own a) → Q σ' H
  | none => False
abbrev TvS (X : Cx) (tg : Expr) (is : List Nat) (m : MT) : Prop := PG X tg (gvOf X.K is m)
abbrev TvsS (X : Cx) (tgs : List Expr) (is : List Nat) (m : MTs) : Prop := PGs X tgs (gvsOf X.K is m)
section
variable {X : Cx} {pos : Pos}
theorem gv_name {i : Nat} {x : Str} (hN : X.N.Nodup) (hi : X.N[i]? = some x) (hx : Loc X.env.scope x) (hf : X.fn x = true ∨ X.env.scope.names.lookup x = some .local := by first | exact .inl rfl | exact .inr rfl | assumption) : TvS X (.Name x pos) [i] (mName i) := PG.imp (pg_name hN hi hx hf) fun v σ H Q h => by
  obtain ⟨F, env, own, d, S, r, h⟩ := h
  unfold mName at h
  cases e : setS i (.v d) env with
  | none => rw [e] at h; exact h.elim
  | some env' =>
    rw [e] at h
    obtain ⟨own', S', hs⟩ := setS_ok (p := fun _ => False) S (RepW.ofRep r) (fun _ z => z.elim) e
    exact h _ _ ⟨List.length_set, fun j hj => List.getElem?_set_ne fun z => hj (by simp [z])⟩ S' fun a z => (hs a z).elim id False.elim
theorem gvs_nil : TvsS X [] [] mNil := PGs.imp pgs_nil fun vs σ H Q h => by
  obtain ⟨F, env, own, ds, S, r, h⟩ := h
  unfold mNil at h
  cases r with
  | nil => exact ⟨rfl, h _ _ Only.refl S fun _ z => z⟩
  | cons _ _ => exact h.elim
theorem gvs_cons {e : Expr} {es : List Expr} {is js : List Nat} {m : MT} {ms : MTs} (h1 : TvS X e is m) (h2 : TvsS X es js ms) (hs : (assignEach (e :: es) X.env).map (·.2) = assign e X.env :: (assignEach es X.env).map (·.2) := by rfl) : TvsS X (e :: es) (is ++ js) (mCons m ms) := PGs.imp (pgs_cons h1 h2 hs) fun vs σ H Q h => by
  obtain ⟨F, env, own, ds, S, r, h⟩ := h
  unfold mCons at h
  cases r with
  | nil => exact h.elim
  | cons rd rs =>
    rename_i v d vs ds
    dsimp only at h
    refine ⟨v, vs, rfl, F, env, own, d, S, rd, ?_⟩
    cases e1 : m d env with
    | none => rw [e1] at h; exact h
    | some env1 =>
      rw [e1, Option.bind_some] at h
      intro σ1 own1 y1 S1 o1
      refine ⟨F, env1, own1, ds, S1, rs, ?_⟩
      cases e2 : ms ds env1 with
      | none => rw [e2] at h; exact h
      | some env2 =>
        rw [e2] at h
        exact fun σ2 own2 y2 S2 o2 => h _ _ (y1.trans y2) S2 fun a z => o1 a (o2 a z)
theorem gv_tup {es : List Expr} {k n : Nat} {is : List Nat} {ms : MTs} (hc : X.calm = true) (h : TvsS X es is ms) (hn : (assignEach es X.env).length = n := by rfl) (hst : (assignEach es X.env).findIdx? (·.1) = none := by rfl) : TvS X (.Tuple es k pos) is (mTup ms n) := PG.imp (pg_tup hc h hn hst) fun v σ H Q h => by
  obtain ⟨F, env, own, d, S, r, h⟩ := h
  unfold mTup at h
  cases r with
  | tup q rs =>
    rename_i a vs ds
    dsimp only at h
    by_cases hl : ds.length = n
    · rw [if_pos hl] at h
      exact ⟨a, vs, rfl, SqT.of (S.ex _ _ q), by rw [rs.length]; exact hl, F, env, own, ds, S, rs, h⟩
    · rw [if_neg hl] at h; exact h.elim
  | _ => exact h.elim
end
/-! ### [elt for tg in xs], xs read as it stands -/
def compG (vs : List Nat) (m : MT) (f : G) : List D → DEnv → Option (List D)
  | [], _ => some []
  | d :: ds, env => match m d env with
    | some e => (match f e with
      | some w => if w.opq then none else (compG vs m f ds (wipeA e vs)).map (datW w :: ·)
      | none => none)
    | none => none
def eCompG (fv : DEnv → Option D) (vs : List Nat) (m : MT) (f : G) : G := fun env => match fv env with
  | some (.lst ds) => if dataAt env vs = true ∧ ds.length ≤ 1000000 then (compG vs m f ds (wipeA env vs)).map (.l false) else none
  | _ => none
theorem compG_sem {K : PySem.W.Frag} {fv : DEnv → Option D} {is vs : List Nat} {m : MT} {f : G} {σ : L2.St} {H : Hp} {Q : VK} (hsub : ∀ i ∈ is, i ∈ vs) (h : gOfG K (eCompG fv vs m f) σ H Q) :
    tLc (iList K (vOf K fv)) (gvOf K is m) tYes (gOfG K f) vs σ H Q := by
  obtain ⟨F, env, own, S, h⟩ := h
  unfold eCompG at h
  refine ⟨F, env, own, S, ?_⟩
  cases e : fv env with
  | none => rw [e] at h; exact h.elim
  | some dd =>
    rw [e] at h
    cases dd with
    | lst ds =>
      dsimp only at h
      by_cases hcond : dataAt env vs = true ∧ ds.length ≤ 1000000
      · rw [if_pos hcond] at h
        obtain ⟨hda, hlen⟩ := hcond
        cases ec : compG vs m f ds (wipeA env vs) with
        | none => rw [ec] at h; exact h.elim
        | some yall =>
          rw [ec] at h
          intro v vw
          obtain ⟨l, us, rfl, hl, rus⟩ := vw
          refine ⟨l, rfl, ⟨us, .inl hl⟩, fun P hP => ?_⟩
          have hus := rus.length
          have S1w := S.wipe (vs := vs) fun i hi a => dataAt_no S hda hi a
          have g0 : Grow F H F (upd H P (.lst [])) (fun a => a = P) := Grow.ofOwn S.ex hP
          refine ⟨fun i k H' => k = ds.length - i ∧ i ≤ ds.length ∧ ∃ F' env' own' ys avs, ys.length ≤ i ∧ Grow F H F' H' (fun a => a = P) ∧ Sit K F' (wipe σ vs) H' env' own' ∧ H' P = some (.lst avs) ∧ F' P = none ∧ ¬ all own' P ∧ RepDs K F' avs ys ∧ ∃ rest, compG vs m f (ds.drop i) env' = some rest ∧ ys ++ rest = yall,
            ⟨ds.length, by simp, Nat.zero_le _, F, wipeA env vs, own, [], [], Nat.zero_le _, g0, g0.sit S1w, upd_same, sub_none S.ex hP, fun z => ?_, .nil, yall, ec, rfl⟩, ?_⟩
          · obtain ⟨⟨o, e2⟩, _⟩ := S.there z
            rw [hP] at e2
            cases e2
          rintro i k H' ⟨rfl, hi, F', env', own', ys, avs, hyl, gr, S', hPe, hFP, nP, rys, rest, hr, hy⟩
          have hl' : SqL K H' l us := .inl (sameL gr.exH hl)
          by_cases hlt : i < ds.length
          · have hiu : i < us.length := by omega
            refine .inr ⟨⟨us, us[i], hl', List.getElem?_eq_getElem hiu⟩, fun H'' => i + 1 ≤ ds.length ∧ ∃ F' env' own' ys avs, ys.length ≤ i + 1 ∧ Grow F H F' H'' (fun a => a = P) ∧ Sit K F' (wipe σ vs) H'' env' own' ∧ H'' P = some (.lst avs) ∧ F' P = none ∧ ¬ all own' P ∧ RepDs K F' avs ys ∧ ∃ rest, compG vs m f (ds.drop (i + 1)) env' = some rest ∧ ys ++ rest = yall,
              fun H'' q => ⟨ds.length - (i + 1), by omega, rfl, q.1, q.2⟩, fun x H'' y => ?_⟩
            obtain ⟨rfl, y⟩ := y
            have hx := y us hl'
            have hd : ds[i]? = some ds[i] := List.getElem?_eq_getElem hlt
            obtain ⟨vx, h1, rx⟩ := rus.get hd
            rw [hx] at h1
            cases h1
            have hdr : ds.drop i = ds[i] :: ds.drop (i + 1) := List.drop_eq_getElem_cons hlt
            rw [hdr, compG] at hr
            refine ⟨F', env', own', ds[i], S', rx.mono gr.exF, ?_⟩
            cases e3 : m ds[i] env' with
            | none => rw [e3] at hr; cases hr
            | some ea =>
              rw [e3] at hr
              dsimp only at hr
              intro σ4 own4 o4 S4 sub4
              have w4 : wipe σ4 vs = wipe σ vs := (wipe_only o4 hsub).trans wipe_wipe
              refine ⟨w4, ?_⟩
              unfold tYes
              dsimp only
              rw [if_pos rfl]
              refine ⟨F', ea, own4, S4, ?_⟩
              cases ef : f ea with
              | none => rw [ef] at hr; cases hr
              | some w =>
                rw [ef] at hr
                dsimp only at hr
                cases ho : w.opq with
                | true => rw [ho, if_pos rfl] at hr; cases hr
                | false =>
                  rw [ho, if_neg Bool.false_ne_true] at hr
                  obtain ⟨rest2, hr2, rfl⟩ := Option.map_eq_some_iff.mp hr
                  intro v2 F5 H5 p5 g5 r5
                  obtain ⟨F6, g6, rd6⟩ := g5.frz r5 ho
                  have hP5 : H5 P = some (.lst avs) := g6.exH _ _ hPe
                  have nF6 : F6 P = none := by
                    cases z : F6 P with
                    | none => rfl
                    | some u => rw [g6.fr P u z hFP] at hPe; cases hPe
                  refine ⟨avs, hP5, by rw [rys.length]; exact szl (by omega), hlt, F6, wipeA ea vs, ownW vs own4, ys ++ [datW w], avs ++ [v2], by rw [List.length_append]; simp; omega, ?_, ?_, upd_same, nF6, ?_, (rys.mono g6.exF).append (.cons rd6 .nil), rest2, hr2, by rw [List.append_assoc]; exact hy⟩
                  · have gg := gr.trans g6
                    refine ⟨gg.exF, fun a o q => ?_, fun a o q => ?_, gg.fr, fun a q => by rw [q]; exact hP⟩
                    · rw [upd_ne (ne_of_none q hP)]
                      exact gg.exH a o q
                    · have ne : a ≠ P := fun z => by rw [z, nF6] at q; cases q
                      rw [upd_ne ne]
                      exact g6.sub a o q
                  · have S6 := g6.sit S4
                    have S7 : Sit K F6 σ4 (upd H5 P (.lst (avs ++ [v2]))) ea own4 := by
                      refine ⟨fun a o q => ?_, S6.len, fun n' w' e' => ?_, S6.emp, S6.dis⟩
                      · have ne : a ≠ P := fun z => by rw [z, nF6] at q; cases q
                        rw [upd_ne ne]
                        exact g6.sub a o q
                      · obtain ⟨u, hu, ru⟩ := S6.rep n' w' e'
                        refine ⟨u, hu, ru.frame (Same.refl _) (fun a o q h' => ?_) fun a q => (ru.there q).2⟩
                        have ne : a ≠ P := fun z => nP (sub4 P (z ▸ ⟨n', q⟩))
                        rw [upd_ne ne]
                        exact h'
                    have := S7.wipe2 (vs := vs)
                    rw [w4] at this
                    exact this
                  · exact fun z => nP (sub4 P (ownW_sub z))
          · have ei : i = ds.length := by omega
            subst ei
            refine .inl ⟨⟨us, hl', by omega⟩, ?_⟩
            rw [List.drop_length, compG] at hr
            cases hr
            rw [List.append_nil] at hy
            subst hy
            exact h (.ref P) F' H' (fun a => a = P) gr ⟨P, avs, rfl, fun _ => Iff.rfl, hPe, hFP, rys⟩
      · rw [if_neg hcond] at h
        exact h.elim
    | _ => exact h.elim
section
variable {X : Cx} {elt tg iter : Expr} {scope : Scope} {own : List (Str × Nat)} {pos : Pos} {fv : DEnv → Option D} {is : List Nat} {m : MT} {f : G}
theorem g_comp (hc : X.calm = true) (hN : X.N.Nodup) (hi : EvV X iter fv) (ok : BlkOk X.N X.env.scope scope own)
    (hg : ∀ (s : Shared) (H : Hp) (C : Addr) (cl : List (Str × Addr)) (fp : List Addr), TvS (X.blk s H scope (compEnvC scope cl C X.env) fp) tg is m)
    (he : ∀ (s : Shared) (H : Hp) (C : Addr) (cl : List (Str × Addr)) (fp : List Addr), EvG (X.blk s H scope (compEnvC scope cl C X.env) fp) elt f) (hsub : ∀ i ∈ is, i ∈ own.map (·.2)) (hs : ∀ x, foldedSetIterable iter X.env x = pure x := by intro _; rfl) :
    EvG X (.ListComp elt [⟨tg, iter, [], 0⟩] scope pos) (eCompG fv (own.map (·.2)) m f) :=
  PE.imp (pe_lc hc hN (pi_list hi) ok hg (fun s H C cl fp => pts_nil) he hs) fun σ H Q h => compG_sem hsub h
end
end DL

namespace DL
open PySem PySem.Spec PyProof.Rows L2
/-! ### x.f read, for good -/
def frzF (i : Nat) (c : Str) (ns : List Str) (j : Nat) (env : DEnv) : Option (D × DEnv) := match env[i]? with
  | some (some (.x (.o b c' ns' ws))) => if c' = c ∧ ns' = ns then (match ws[j]? with
    | some w => some (datW0 w, env.set i (some (.x (.o b c ns (ws.set j (.v (datW0 w)))))))
    | none => none) else none
  | _ => none
def eFldZ (i : Nat) (c : Str) (ns : List Str) (j : Nat) : M U := fun env => match frzF i c ns j env with
  | some (d, e) => .ok (.w (.v d)) e
  | none => .stuck
theorem RepW0.frz {K : PySem.W.Frag} {F H : Hp} {v : V} {w : W0} {q : Fp} (ex : Same F H) (r : RepW0 K F H v w q) : ∃ F', Same F F' ∧ Same F' H ∧ RepD K F' v (datW0 w) ∧ ∀ a o, F' a = some o → F a = none → q a := by
  have key : ∀ {a : Addr} {o : HO}, q a → H a = some o → F a = none → Same F (upd F a o) ∧ Same (upd F a o) H ∧ ∀ b u, upd F a o b = some u → F b = none → q b := fun {a o} qa h1 f1 => by
    refine ⟨same_upd f1, fun x u h => ?_, fun x u h n => ?_⟩
    · by_cases z : x = a
      · subst z; rw [upd_same] at h; rw [h1]; exact h
      · rw [upd_ne z] at h; exact ex x u h
    · by_cases z : x = a
      · rw [z]; exact qa
      · rw [upd_ne z, n] at h; cases h
  cases w with
  | v d => exact ⟨F, Same.refl _, ex, r.2, fun a o h n => by rw [h] at n; cases n⟩
  | l ds =>
    obtain ⟨a, vs, rfl, hp, hH, hF, rr⟩ := r
    obtain ⟨k1, k2, k3⟩ := key ((hp a).mpr rfl) hH hF
    exact ⟨_, k1, k2, .lst (.inl upd_same) (rr.mono k1), k3⟩
  | d k ks ds =>
    obtain ⟨a, o, us, vs, rfl, hp, hH, hF, hk, r1, r2⟩ := r
    obtain ⟨k1, k2, k3⟩ := key ((hp a).mpr rfl) hH hF
    exact ⟨_, k1, k2, .dix upd_same hk (r1.mono k1) (r2.mono k1), k3⟩
section
variable {X : Cx} {Wx : WX} {i j : Nat} {x c f : Str} {ns : List Str} {pos p : Pos}
theorem e_fldZ (T : ClsF X.K c ns) (nd : ns.Nodup) (hf : ns[j]? = some f) (hN : X.N[i]? = some x := by rfl) (hv : Vis X.env.scope x := by first | exact Or.inl rfl | exact Or.inr (Or.inl rfl) | exact Or.inr (Or.inr rfl)) (hd : (x == ("__debug__" : Str)) = false := by decide) (hcd : (x == ("__classdict__" : Str)) = false := by decide)
    (hb : attributeBase (.Name x p) f X.env (eval (.Name x p) X.env) = eval (.Name x p) X.env := by rfl) : EvS X Wx (.Attribute (.Name x p) f pos) (eFldZ i c ns j) := PE.imp (pe_fld (pe_var hN hv hd hcd) hb) fun σ H Q h => by
  obtain ⟨F, env, own, S, h⟩ := h
  unfold eFldZ frzF at h
  cases hw : env[i]? with
  | none => rw [hw] at h; exact h.elim
  | some ow =>
    rw [hw] at h
    match ow, hw, h with
    | some (.x (.o b c' ns' ws)), hw, h =>
      dsimp only at h
      by_cases hc : c' = c ∧ ns' = ns
      · rw [if_pos hc] at h
        obtain ⟨rfl, rfl⟩ := hc
        cases hj : ws[j]? with
        | none => rw [hj] at h; exact h.elim
        | some w0 =>
          rw [hj] at h
          dsimp only at h
          obtain ⟨vv, hvv, a, dx, C, vs, p0, rfl, hcC, h1, h2, f1, f2, hl, r, hp, n1, n2⟩ := S.rep i _ hw
          obtain ⟨C', hc', cl, na⟩ := T.ex
          rw [hcC] at hc'
          cases hc'
          obtain ⟨v, q, hvj, rv, hqp, hupd⟩ := r.upd hj
          refine ⟨.ref a, hvv, a, C, dx, _, v, rfl, h1, cl, na f (List.mem_of_getElem? hf), by rw [lookup_zip nd hf]; exact hvj, ?_⟩
          obtain ⟨F', sF, ex', rd, hq⟩ := rv.frz S.ex
          have none' : ∀ b, ¬ q b → F b = none → F' b = none := fun b nq n => by
            cases z : F' b with
            | none => rfl
            | some u => exact absurd (hq b u z n) nq
          have r2 := hupd (F' := F') (H' := H) (v' := v) (w' := .v (datW0 w0)) (q' := fun _ => False) sF (fun b o _ _ e => e) (fun b pb nq => none' b nq (r.there pb).2) ⟨fun _ z => z, rd⟩ (fun b z _ => z.elim)
          have evs : vs.set j v = vs := by
            obtain ⟨hjl, e⟩ := List.getElem?_eq_some_iff.mp hvj
            rw [← e, List.set_getElem_self]
          rw [evs] at r2
          have hi : i < env.length := (List.getElem?_eq_some_iff.mp hw).1
          have nqa : ¬ q a := fun z => n1 (hqp a z)
          have nqd : ¬ q dx := fun z => n2 (hqp dx z)
          have RX : RepW X.K F' H (.ref a) (.x (.o b c' ns' (ws.set j (.v (datW0 w0))))) (fun b => (b = a ∨ b = dx) ∨ ((p0 b ∧ ¬ q b) ∨ False)) :=
            ⟨a, dx, C, vs, fun b => (p0 b ∧ ¬ q b) ∨ False, rfl, hcC, h1, h2, none' a nqa f1, none' dx nqd f2, hl, r2, fun _ => Iff.rfl, fun z => z.elim (fun y => n1 y.1) id, fun z => z.elim (fun y => n2 y.1) id⟩
          obtain ⟨own', S', st⟩ := S.repl (t := fun _ => False) (F' := F') (H' := H) hi hvv (fun _ z => z.elim) ex' sF (fun b o e _ _ => e)
            (fun b o e n => .inr (.inl ((hp b).mpr (.inr (hqp b (hq b o e n)))))) RX (fun b z => by
              rcases z with z | (z | z)
              · exact .inr (.inl ((hp b).mpr (.inl z)))
              · exact .inr (.inl ((hp b).mpr (.inr z.1)))
              · exact z.elim)
          exact h v F' H own' (fun _ => False) ((Grow.refl S'.ex).out ⟨S', st.sup fun a z => z.elim id False.elim⟩ (RepW.ofRep rd))
      · rw [if_neg hc] at h
        exact h.elim
    | none, _, h => exact h.elim
    | some (.v _), _, h => exact h.elim
    | some (.l _ _), _, h => exact h.elim
    | some (.m _ _), _, h => exact h.elim
    | some (.x (.d _ _ _)), _, h => exact h.elim
    | some (.x (.t _)), _, h => exact h.elim
end
/-! ### (x, y, ..), names whose lists go along -/
def moveW (env : DEnv) (i : Nat) : Option (W0 × DEnv) := match env[i]? with
  | some (some (.v d)) => some (.v d, env)
  | some (some (.l false ds)) => some (.l ds, env.set i none)
  | _ => none
def moves : List Nat → DEnv → Option (List W0 × DEnv)
  | [], env => some ([], env)
  | i :: is, env => match moveW env i with
    | some (w, e1) => (match moves is e1 with
      | some (ws, e2) => some (w :: ws, e2)
      | none => none)
    | none => none
def eTupMv (is : List Nat) : M U := fun env => match moves is env with
  | some (ws, e) => .ok (.w (.x (.t ws))) e
  | none => .stuck
section
variable {K : PySem.W.Frag} {F H : Hp} {σ : L2.St}
theorem Sit.move1 {env env' : DEnv} {own : Nat → Fp} {i : Nat} {w : W0} (S : Sit K F σ H env own) (h : moveW env i = some (w, env')) :
    ∃ v, ∃ q : Fp, ∃ own', σ[i]? = some (some v) ∧ RepW0 K F H v w q ∧ Sit K F σ H env' own' ∧ (∀ a, q a → ¬ all own' a) ∧ (∀ a, all own' a ∨ q a → all own a) := by
  unfold moveW at h
  split at h
  · rename_i d hw
    cases h
    obtain ⟨v, hv, r⟩ := S.rep i _ hw
    exact ⟨v, fun _ => False, own, hv, ⟨fun _ z => z, r.2⟩, S, fun _ z => z.elim, fun a z => z.elim id False.elim⟩
  · rename_i ds hw
    cases h
    obtain ⟨v, hv, r⟩ := S.rep i _ hw
    have hi : i < env.length := (List.getElem?_eq_some_iff.mp hw).1
    refine ⟨v, own i, fun j a => j ≠ i ∧ own j a, hv, r, ⟨S.ex, by rw [List.length_set]; exact S.len, fun j w' e => ?_, fun j a z => ?_, fun j k a z1 z2 => S.dis j k a z1.2 z2.2⟩, fun a z y => ?_, fun a z => ?_⟩
    · by_cases hj : j = i
      · subst hj
        rw [List.getElem?_set_self hi] at e
        cases e
      · rw [List.getElem?_set_ne (Ne.symm hj)] at e
        obtain ⟨v', e1, r'⟩ := S.rep j w' e
        have e2 : (fun a => j ≠ i ∧ own j a) = own j := funext fun a => propext ⟨fun z => z.2, fun z => ⟨hj, z⟩⟩
        refine ⟨v', e1, ?_⟩
        show RepW K F H v' w' (fun a => j ≠ i ∧ own j a)
        rw [e2]
        exact r'
    · obtain ⟨w', e⟩ := S.emp j a z.2
      exact ⟨w', by rw [List.getElem?_set_ne (Ne.symm z.1)]; exact e⟩
    · obtain ⟨j, hj, y⟩ := y
      exact hj (S.dis j i a y z)
    · rcases z with ⟨j, _, z⟩ | z
      · exact ⟨j, z⟩
      · exact ⟨i, z⟩
  · cases h
def slots (σ : L2.St) : List Nat → List V → Prop
  | [], [] => True
  | i :: is, v :: vs => σ[i]? = some (some v) ∧ slots σ is vs
  | _, _ => False
theorem Sit.moves : ∀ {is : List Nat} {env env' : DEnv} {own : Nat → Fp} {ws : List W0}, Sit K F σ H env own → DL.moves is env = some (ws, env') →
    ∃ vs, ∃ q : Fp, ∃ own', slots σ is vs ∧ RepW0s K F H vs ws q ∧ Sit K F σ H env' own' ∧ (∀ a, q a → ¬ all own' a) ∧ (∀ a, all own' a ∨ q a → all own a)
  | [], env, env', own, ws, S, h => by
    cases h
    exact ⟨[], fun _ => False, own, True.intro, fun _ z => z, S, fun _ z => z.elim, fun a z => z.elim id False.elim⟩
  | i :: is, env, env', own, ws, S, h => by
    unfold DL.moves at h
    split at h
    · rename_i w e1 h1
      split at h
      · rename_i ws' e2 h2
        cases h
        obtain ⟨v, q, own1, hv, r, S1, d1, s1⟩ := S.move1 h1
        obtain ⟨vs, q2, own2, hvs, r2, S2, d2, s2⟩ := Sit.moves S1 h2
        refine ⟨v :: vs, fun a => q a ∨ q2 a, own2, ⟨hv, hvs⟩, ⟨q, q2, fun _ => Iff.rfl, fun a z y => d1 a z (s2 a (.inr y)), r, r2⟩, S2, fun a z y => ?_, fun a z => ?_⟩
        · rcases z with z | z
          · exact d1 a z (s2 a (.inl y))
          · exact d2 a z y
        · rcases z with z | z | z
          · exact s1 a (.inl (s2 a (.inl z)))
          · exact s1 a (.inr z)
          · exact s1 a (.inl (s2 a (.inr z)))
      · cases h
    · cases h
end
/-- names, told as they stand -/
def tSl (is : List Nat) : TA := fun σ H Q => ∃ vs, slots σ is vs ∧ Q vs H
theorem sl_nil {X : Cx} : PA X [] (tSl []) := PA.imp pa_nil fun σ H Q h => by
  obtain ⟨vs, h1, h2⟩ := h
  cases vs with
  | nil => exact h2
  | cons _ _ => exact h1.elim
theorem sl_cons {X : Cx} {x : Str} {es : List Expr} {is : List Nat} {pos : Pos} (i : Nat) (hr : PA X es (tSl is)) (hN : X.N[i]? = some x := by rfl) (hv : Vis X.env.scope x := by first | exact Or.inl rfl | exact Or.inr (Or.inl rfl) | exact Or.inr (Or.inr rfl)) (hd : (x == ("__debug__" : Str)) = false := by decide)
    (hcd : (x == ("__classdict__" : Str)) = false := by decide) (hs : starEach (.Name x pos :: es) X.env = (false, eval (.Name x pos) X.env) :: starEach es X.env := by rfl) : PA X (.Name x pos :: es) (tSl (i :: is)) := PA.imp (pa_cons (pe_var hN hv hd hcd) hr hs) fun σ H Q h => by
  obtain ⟨vs, h1, h2⟩ := h
  cases vs with
  | nil => exact h1.elim
  | cons v vs => exact ⟨v, h1.1, vs, h1.2, h2⟩
theorem slots_len {σ : L2.St} : ∀ {is : List Nat} {vs : List V}, slots σ is vs → vs.length = is.length
  | [], [], _ => rfl
  | _ :: _, _ :: _, h => by rw [List.length_cons, List.length_cons, slots_len h.2]
  | [], _ :: _, h => h.elim
  | _ :: _, [], h => h.elim
theorem e_tupMv {X : Cx} {Wx : WX} {es : List Expr} {is : List Nat} {n : Nat} {pos : Pos} (h : PA X es (tSl is)) (hn : is.length ≤ 1000 := by decide) : EvS X Wx (.Tuple es n pos) (eTupMv is) := PE.imp (pe_tup h) fun σ H Q h => by
  obtain ⟨F, env, own, S, h⟩ := h
  unfold eTupMv at h
  cases e : moves is env with
  | none => rw [e] at h; exact h.elim
  | some pr =>
    obtain ⟨ws, env'⟩ := pr
    rw [e] at h
    dsimp only at h
    obtain ⟨vs, q, own', hs, r, S', dj, sub⟩ := S.moves e
    refine ⟨vs, hs, szm (by rw [slots_len hs]; omega), fun T hT => ?_⟩
    have g : Grow F H (upd F T (.tup vs)) (upd H T (.tup vs)) (fun _ => False) := Grow.data S.ex hT
    have S2 := g.sit S'
    have nT : ∀ a, q a → a ≠ T := fun a z y => by
      obtain ⟨⟨o, e1⟩, _⟩ := r.there z
      rw [y, hT] at e1
      cases e1
    have fT : ∀ a, q a → upd F T (.tup vs) a = none := fun a z => by rw [upd_ne (nT a z)]; exact (r.there z).2
    refine h (.ref T) _ _ own' q ⟨S2, ⟨T, vs, rfl, upd_same, r.frame g.exF (fun a o z e1 => g.exH a o e1) fT⟩, dj, g.exF, fun a o e1 _ => g.exH a o e1, fun a z => .inl (sub a z), fun a o e1 n => .inr (g.fr a o e1 n)⟩
/-! ### a, x.f, .. = what is told as its own -/
def upW : W0 → W
  | .v d => .v d
  | .l ds => .l false ds
  | .d k ks ds => .x (.d k ks ds)
theorem RepW0.up {K : PySem.W.Frag} {F H : Hp} {v : V} {w : W0} {p : Fp} (r : RepW0 K F H v w p) : RepW K F H v (upW w) p := by
  cases w <;> exact r
abbrev MO := W0 → DEnv → Option DEnv
abbrev MOs := List W0 → DEnv → Option DEnv
def goOf (K : PySem.W.Frag) (is : List Nat) (m : MO) : TG := fun v σ H Q => ∃ F env own w, ∃ p : Fp, Sit K F σ H env own ∧ RepW0 K F H v w p ∧ (∀ a, p a → ¬ all own a) ∧ match m w env with
  | some env' => ∀ σ' H' own', Only is σ σ' → Sit K F σ' H' env' own' → Step F H (fun a => all own a ∨ p a) F H' (all own') → Q σ' H'
  | none => False
def gosOf (K : PySem.W.Frag) (is : List Nat) (m : MOs) : TGs := fun vs σ H Q => ∃ F env own ws, ∃ p : Fp, Sit K F σ H env own ∧ RepW0s K F H vs ws p ∧ (∀ a, p a → ¬ all own a) ∧ match m ws env with
  | some env' => ∀ σ' H' own', Only is σ σ' → Sit K F σ' H' env' own' → Step F H (fun a => all own a ∨ p a) F H' (all own') → Q σ' H'
  | none => False
abbrev ToS (X : Cx) (tg : Expr) (is : List Nat) (m : MO) : Prop := PG X tg (goOf X.K is m)
abbrev TosS (X : Cx) (tgs : List Expr) (is : List Nat) (m : MOs) : Prop := PGs X tgs (gosOf X.K is m)
def oName (i : Nat) : MO := fun w env => setS i (upW w) env
def oFld (i : Nat) (c : Str) (ns : List Str) (j : Nat) : MO := fun w env => storeF i c ns j (upW w) env
def oNil : MOs := fun ws env => match ws with
  | [] => some env
  | _ => none
def oCons (m : MO) (ms : MOs) : MOs := fun ws env => match ws with
  | w :: r => (match m w env with
    | some e => ms r e
    | none => none)
  | [] => none
def gAttr (K : PySem.W.Frag) (ta : TE) (f : Str) : TG := fun y σ H Q => ta σ H fun x H2 => ∃ a C dx fs, x = .ref a ∧ H2 a = some (.ins C dx fs) ∧ Cls K C ∧ NoAttr K C f ∧ fs.length < 1000 ∧ Q σ (upd H2 a (.ins C dx (putF f y fs)))
theorem pg_attr {X : Cx} {o : Expr} {f : Str} {ta : TE} {pos : Pos} (ha : PE X o ta) : PG X (.Attribute o f pos) (gAttr X.K ta f) := by
  refine ⟨fun pins s σ H v u Q I r h => ?_⟩
  rw [PySem.assign_Attribute]
  refine wpAny_bind (wpAny_holding (thn (ha.run pins s σ H _ I h) fun ov s2 ⟨x, H2, I2, rx, a, C, dx, fs, ex, ea, c, n, l, q2⟩ => ?_))
  subst ex
  obtain rfl : ov = Value.ref a := rx
  refine wpAny_bind (wpAny_standAt (wpAny_bind (wpAny_holding (setattr_ok I2 ea c n l r fun s3 I3 => ?_))))
  exact wpAny_release ⟨σ, _, I3, q2⟩
section
variable {X : Cx} {pos p1 : Pos}
theorem o_name {i : Nat} {x : Str} (hN : X.N.Nodup) (hi : X.N[i]? = some x) (hx : Loc X.env.scope x) (hf : X.fn x = true ∨ X.env.scope.names.lookup x = some .local := by first | exact .inl rfl | exact .inr rfl | assumption) : ToS X (.Name x pos) [i] (oName i) := PG.imp (pg_name hN hi hx hf) fun v σ H Q h => by
  obtain ⟨F, env, own, w, p, S, r, dj, h⟩ := h
  unfold oName at h
  cases e : setS i (upW w) env with
  | none => rw [e] at h; exact h.elim
  | some env' =>
    rw [e] at h
    obtain ⟨own', S', hs⟩ := setS_ok S r.up dj e
    exact h _ _ _ ⟨List.length_set, fun j hj => List.getElem?_set_ne fun z => hj (by simp [z])⟩ S' ⟨Same.refl _, fun _ _ q _ => q, fun a z => .inl (hs a z), fun a o q n => by rw [q] at n; cases n⟩
theorem o_fld {i j : Nat} {x c f : Str} {ns : List Str} (T : ClsF X.K c ns) (nd : ns.Nodup) (hf : ns[j]? = some f) (hns : ns.length < 1000) (hN : X.N[i]? = some x := by rfl) (hv : Vis X.env.scope x := by first | exact Or.inl rfl | exact Or.inr (Or.inl rfl) | exact Or.inr (Or.inr rfl)) (hd : (x == ("__debug__" : Str)) = false := by decide) (hcd : (x == ("__classdict__" : Str)) = false := by decide) :
    ToS X (.Attribute (.Name x p1) f pos) [] (oFld i c ns j) := PG.imp (pg_attr (pe_var hN hv hd hcd)) fun v σ H Q h => by
  obtain ⟨F, env, own, w, p, S, r, dj, h⟩ := h
  unfold oFld at h
  cases e : storeF i c ns j (upW w) env with
  | none => rw [e] at h; exact h.elim
  | some env' =>
    rw [e] at h
    obtain ⟨a, C, dx, fs, h1, h2, h3, h4, h5, own3, S3, st⟩ := S.storeF T nd hf r.up dj e
    exact ⟨.ref a, h1, a, C, dx, fs, rfl, h2, h3, h4, Nat.lt_of_le_of_lt h5 hns, h _ _ _ Only.refl S3 st⟩
theorem os_nil : TosS X [] [] oNil := PGs.imp pgs_nil fun vs σ H Q h => by
  obtain ⟨F, env, own, ws, p, S, r, dj, h⟩ := h
  unfold oNil at h
  match vs, ws, r, h with
  | [], [], r, h => exact ⟨rfl, h _ _ _ Only.refl S ⟨Same.refl _, fun _ _ q _ => q, fun a z => .inl (.inl z), fun a o q n => by rw [q] at n; cases n⟩⟩
  | _ :: _, _ :: _, _, h => exact h.elim
  | [], _ :: _, r, _ => exact r.elim
  | _ :: _, [], r, _ => exact r.elim
theorem os_cons {e : Expr} {es : List Expr} {is js : List Nat} {m : MO} {ms : MOs} (h1 : ToS X e is m) (h2 : TosS X es js ms) (hs : (assignEach (e :: es) X.env).map (·.2) = assign e X.env :: (assignEach es X.env).map (·.2) := by rfl) : TosS X (e :: es) (is ++ js) (oCons m ms) := PGs.imp (pgs_cons h1 h2 hs) fun vs σ H Q h => by
  obtain ⟨F, env, own, ws, p, S, r, dj, h⟩ := h
  unfold oCons at h
  match vs, ws, r, h with
  | [], [], _, h => exact h.elim
  | [], _ :: _, r, _ => exact r.elim
  | _ :: _, [], r, _ => exact r.elim
  | v :: vs, w :: ws, r, h =>
    dsimp only at h
    obtain ⟨p1, p2, hp, hd, r1, r2⟩ := r
    refine ⟨v, vs, rfl, F, env, own, w, p1, S, r1, fun a z => dj a ((hp a).mpr (.inl z)), ?_⟩
    cases e1 : m w env with
    | none => rw [e1] at h; exact h.elim
    | some env1 =>
      rw [e1] at h
      dsimp only at h ⊢
      intro σ1 H1 own1 y1 S1 s1
      have no : ∀ a, p2 a → ¬ (all own a ∨ p1 a) := fun a z y => y.elim (dj a ((hp a).mpr (.inr z))) fun x => hd a x z
      have r2' : RepW0s X.K F H1 vs ws p2 := r2.frame (Same.refl _) (fun a o z q => s1.keep a o q (no a z)) (fun a z => (r2.there z).2)
      have d2 : ∀ a, p2 a → ¬ all own1 a := fun a z y => by
        rcases s1.new a y with q | q
        · exact no a z q
        · obtain ⟨⟨o, e2⟩, _⟩ := r2.there z
          rw [q] at e2
          cases e2
      refine ⟨F, env1, own1, ws, p2, S1, r2', d2, ?_⟩
      cases e2 : ms ws env1 with
      | none => rw [e2] at h; exact h.elim
      | some env2 =>
        rw [e2] at h
        intro σ2 H2 own2 y2 S2 s2
        refine h _ _ _ (y1.trans y2) S2 (((s1.more p2).trans s2).sup fun a z => ?_)
        rcases z with (z | z) | z
        · exact .inl z
        · exact .inr ((hp a).mpr (.inl z))
        · exact .inr ((hp a).mpr (.inr z))
def sOwn (n : Nat) (ms : MOs) (fe : M U) : M Fl := fun env => (fe env).bind fun u e1 => match u with
  | .w (.x (.t ws)) => if ws.length = n then (match ms ws e1 with
    | some e2 => .ok .next e2
    | none => .stuck) else .stuck
  | _ => .stuck
theorem s_own {Wx : WX} {es : List Expr} {e : Expr} {k n : Nat} {is : List Nat} {ms : MOs} {fe : M U} {spos : Pos} (hc : X.calm = true) (he : EvS X Wx e fe) (h : TosS X es is ms) (hn : (assignEach es X.env).length = n := by rfl) (hst : (assignEach es X.env).findIdx? (·.1) = none := by rfl)
    (hs : swapsWithSole [.Tuple es k pos] e spos.line X.env = pure false := by rfl) (hw : swappedStores [.Tuple es k pos] e X.env = pure none := by rfl)
    (h1 : (assignEach [.Tuple es k pos] X.env).map (·.2) = [assign (.Tuple es k pos) X.env] := by rfl) : StS X Wx (.Assign [.Tuple es k pos] e spos) is (sOwn n ms fe) := PS.imp (ps_asg he (pg_tup hc h hn hst) hs hw h1) fun E σ H h => by
  obtain ⟨F, env, own, S, h⟩ := h
  unfold sOwn at h
  refine tOf_use S (fun u env1 e1 v F1 H1 own1 p O1 => ?_) (fun c env1 e1 C F1 H1 own1 => ?_) (fun e1 => ?_)
  · rw [e1, R.bind_ok] at h
    match u, O1, h with
    | .w (.x (.t ws)), O1, h =>
      dsimp only at h
      by_cases hl : ws.length = n
      · rw [if_pos hl] at h
        obtain ⟨a, vs, rfl, hF, r⟩ := O1.r
        refine ⟨a, vs, rfl, SqT.of (O1.S.ex _ _ hF), by rw [r.length]; exact hl, F1, env1, own1, ws, p, O1.S, r, O1.d, ?_⟩
        cases e2 : ms ws env1 with
        | none => rw [e2] at h; exact h.elim
        | some env2 =>
          rw [e2] at h
          exact fun σ' H' own' y S' s' => h _ _ _ _ y ⟨S', O1.s.trans s'⟩
      · rw [if_neg hl] at h
        exact h.elim
    | .w (.x (.d _ _ _)), _, h => exact h.elim
    | .w (.x (.o _ _ _ _)), _, h => exact h.elim
    | .w (.v _), _, h => exact h.elim
    | .w (.l _ _), _, h => exact h.elim
    | .w (.m _ _), _, h => exact h.elim
    | .b _, _, h => exact h.elim
  · rw [e1] at h
    exact h C σ F1 H1 own1 Only.refl
  · rw [e1] at h
    exact h
end
end DL

namespace DL
open PySem PySem.Spec PyProof.Rows L2
/-! ### tests of what is read as it stands -/
theorem gOfG_of {K : PySem.W.Frag} {mg : Str → Option Value} {Wx : WX} {f : G} {σ : L2.St} {H : Hp} {Q : VK} (h : tOf K mg Wx (eG f) σ H Q) : gOfG K f σ H Q := by
  obtain ⟨F, env, own, S, h⟩ := h
  refine ⟨F, env, own, S, ?_⟩
  unfold eG at h
  cases e : f env with
  | none => rw [e] at h; exact h.elim
  | some w =>
    rw [e] at h
    exact fun v F' H' p g r => h v F' H' own p (g.out (OutR.refl S) r)
def tgOf (K : PySem.W.Frag) (f : G) : TT := fun σ H Q => gOfG K f σ H fun x H1 => ∃ c, x = .bl c ∧ Q c H1
abbrev TtG (X : Cx) (e : Expr) (f : G) : Prop := PT X e (tgOf X.K f)
section
variable {X : Cx} {Wx : WX} {a b c e : Expr} {fa fb f t : G} {ga gb : MG} {fv : DEnv → Option D} {g : List D → Option W} {pos : Pos} {op : CmpOp} {r : R2} {as bs : List Stmt}
theorem t_g (h : TtG X e f) : TtS X Wx e (tst (eG f)) := PT.imp h fun σ H Q q => gOfG_of (tOf_tst q)
theorem tg_val (h : EvG X e f) (he : ∀ whole, isTrue e X.env whole = (do let v ← whole; standAt e.pos; holding [v] (truthy v)) := by intro _; rfl) : TtG X e f := PT.imp (pt_val h he) fun σ H Q q => q
theorem tg_cmp (ho : OpR X (compareOp op) r) (cd : CaD X.K (r2 r) g) (ha : EvG X a fa) (hb : EvG X b fb) (hm : behindInMarks op b = false) : TtG X (.Compare a [op] [b] pos) (opG g [fa, fb]) :=
  PT.imp (pt_cmpR ho ha hb hm) fun σ H Q h => gOfG_mono (aOfG_2 (aOfG_op cd h)) fun _ _ q => gOfG_mono q fun _ _ z => r2_two z
theorem tg_cmpL (ho : OpR X (compareOp op) r) (cd : CaD X.K (r2 r) g) (ha : EvV X a fv) (hb : EvG X b fb) (hm : behindInMarks op b = false) : TtG X (.Compare a [op] [b] pos) (opV g fv [fb]) :=
  PT.imp (pt_cmpR ho ha hb hm) fun σ H Q h => vOf_mono (opV_sem cd h) fun _ _ q => gOfG_mono (aOfG_1 q) fun _ _ z => r2_two z
theorem tg_cmpR (ho : OpR X (compareOp op) r) (cd : CaD X.K (r2 r) g) (ha : EvG X a fa) (hb : EvV X b fv) (hm : behindInMarks op b = false) : TtG X (.Compare a [op] [b] pos) (opVr g fa fv) :=
  PT.imp (pt_cmpR ho ha hb hm) fun σ H Q h => gOfG_mono (opVr_sem cd h) fun _ _ q => vOf_mono q fun _ _ z => r2_two z
theorem sg_ifT (hc : TtG X c t) (ha : SsG X as ga) (hb : SsG X bs gb) : StG X (.If c as bs pos) (ifG t ga gb) := PS.imp (ps_if hc ha hb) fun E σ H h => by
  obtain ⟨F, env, own, S, h⟩ := h
  refine ⟨F, env, own, S, ?_⟩
  unfold ifG at h
  have key : ∀ (r : MG), (match r env with | some (some w) => ∀ v F' H' p, Grow F H F' H' p → RepW X.K F' H' v w p → E.rt v H' | some none => ∀ F' H', Grow F H F' H' (fun _ => False) → E.nx σ H' | none => False) → ∀ F1 H1, Grow F H F1 H1 (fun _ => False) → sgOf X.K r E σ H1 := fun r h F1 H1 g1 => by
    refine ⟨F1, env, own, g1.sit S, ?_⟩
    cases e2 : r env with
    | none => rw [e2] at h; exact h
    | some r2 =>
      rw [e2] at h
      cases r2 with
      | some w => exact fun v F' H' p g r => h v F' H' p (g1.trans g) r
      | none => exact fun F' H' g => h F' H' (g1.trans g)
  split at h
  case h_3 => exact h.elim
  all_goals
    rename_i heq
    split at heq
    · rename_i cc ht
      rw [ht]
      intro v F1 H1 p g1 rv
      obtain ⟨_, rv⟩ := rv
      cases rv
      refine ⟨cc, rfl, ?_⟩
      cases cc with
      | true =>
        rw [if_pos rfl] at heq ⊢
        exact key ga (by rw [heq]; exact h) F1 H1 g1.drop
      | false =>
        rw [if_neg Bool.false_ne_true] at heq ⊢
        exact key gb (by rw [heq]; exact h) F1 H1 g1.drop
    · cases heq
end
end DL

namespace DL
open PySem PySem.Spec PyProof.Rows L2
/-! ### telling what a body makes, by simp: things of classes -/
@[simp ↓] theorem eG_ap (f : G) (env : _) : eG f env = (match f env with
  | some w => .ok (.w w) env
  | none => .stuck : R U) := Eq.trans rfl rfl
@[simp ↓] theorem opG_ap (g : List D → Option W) (fs : List G) (env : _) : opG g fs env = (match evsG fs env with
  | some ws => match datWs ws with
    | some ds => g ds
    | none => none
  | none => none : Option W) := Eq.trans rfl rfl
@[simp ↓] theorem vG_ap (i : Nat) (env : _) : vG i env = (match env[i]? with
  | some (some (.v d)) => some (.v d)
  | _ => none : Option W) := Eq.trans rfl rfl
@[simp ↓] theorem fldV_ap (i : Nat) (c : Str) (ns : List Str) (j : Nat) (env : _) : fldV i c ns j env = ((fldW i c ns j env).map datW0 : Option D) := Eq.trans rfl rfl
@[simp ↓] theorem fG_ap (i : Nat) (c : Str) (ns : List Str) (j : Nat) (env : _) : fG i c ns j env = (match fldW i c ns j env with
  | some (.v d) => some (.v d)
  | _ => none : Option W) := Eq.trans rfl rfl
@[simp ↓] theorem opV_ap (g : List D → Option W) (fv : DEnv → Option D) (fs : List G) (env : _) : opV g fv fs env = (match fv env, evsG fs env with
  | some d, some ws => match datWs ws with
    | some ds => g (d :: ds)
    | none => none
  | _, _ => none : Option W) := Eq.trans rfl rfl
@[simp ↓] theorem opVr_ap (g : List D → Option W) (fa : G) (fv : DEnv → Option D) (env : _) : opVr g fa fv env = (match fa env, fv env with
  | some w, some d => if w.opq then none else g [datW w, d]
  | _, _ => none : Option W) := Eq.trans rfl rfl
@[simp ↓] theorem tupG_ap (fs : List G) (env : _) : tupG fs env = (match evsG fs env with
  | some ws => (match allV ws with
    | some ds => if ds.length ≤ 1000000 then some (.v (.tup ds)) else none
    | none => none)
  | none => none : Option W) := Eq.trans rfl rfl
@[simp ↓] theorem eAppF_ap (i : Nat) (c : Str) (ns : List Str) (j : Nat) (fe : G) (env : _) : eAppF i c ns j fe env = (match env[i]? with
  | some (some (.x (.o b c' ns' ws))) => if c' = c ∧ ns' = ns then (match ws[j]?, fe env with
    | some (.l ds), some w => if w.opq = false ∧ ds.length < 1000000 then .ok (.w (.v .non)) (env.set i (some (.x (.o b c ns (ws.set j (.l (ds ++ [datW w]))))))) else .stuck
    | _, _ => .stuck) else .stuck
  | _ => .stuck : R U) := Eq.trans rfl rfl
@[simp ↓] theorem sFldS_ap (i : Nat) (c : Str) (ns : List Str) (j : Nat) (fe : M U) (env : _) : sFldS i c ns j fe env = ((fe env).bind fun u e1 => match ownU e1 u with
  | some (w, e2) => (match storeF i c ns j w e2 with
    | some e3 => .ok .next e3
    | none => .stuck)
  | none => .stuck : R Fl) := Eq.trans rfl rfl
@[simp ↓] theorem sStoreX_ap (i : Nat) (fk : G) (fe : M U) (env : _) : sStoreX i fk fe env = ((fe env).bind fun u e1 => match frz1 e1 u with
  | some (d, e2) => (match fk e2 with
    | some (.v k) => (match putX i k d e2 with
      | some e3 => .ok .next e3
      | none => .stuck)
    | _ => .stuck)
  | none => .stuck : R Fl) := Eq.trans rfl rfl
@[simp ↓] theorem sStoreXF_ap (i : Nat) (c : Str) (ns : List Str) (j : Nat) (fk : G) (fe : M U) (env : _) : sStoreXF i c ns j fk fe env = ((fe env).bind fun u e1 => match frz1 e1 u with
  | some (d, e2) => (match fk e2 with
    | some (.v k) => (match putXF i c ns j k d e2 with
      | some e3 => .ok .next e3
      | none => .stuck)
    | _ => .stuck)
  | none => .stuck : R Fl) := Eq.trans rfl rfl
@[simp ↓] theorem eFldZ_ap (i : Nat) (c : Str) (ns : List Str) (j : Nat) (env : _) : eFldZ i c ns j env = (match frzF i c ns j env with
  | some (d, e) => .ok (.w (.v d)) e
  | none => .stuck : R U) := Eq.trans rfl rfl
@[simp ↓] theorem eTupMv_ap (is : List Nat) (env : _) : eTupMv is env = (match moves is env with
  | some (ws, e) => .ok (.w (.x (.t ws))) e
  | none => .stuck : R U) := Eq.trans rfl rfl
@[simp ↓] theorem sOwn_ap (n : Nat) (ms : MOs) (fe : M U) (env : _) : sOwn n ms fe env = ((fe env).bind fun u e1 => match u with
  | .w (.x (.t ws)) => if ws.length = n then (match ms ws e1 with
    | some e2 => .ok .next e2
    | none => .stuck) else .stuck
  | _ => .stuck : R Fl) := Eq.trans rfl rfl
@[simp ↓] theorem callMG_ap (c : Str) (ns : List Str) (g : GF) (i : Nat) (fs : List G) (env : _) : callMG c ns g i fs env = (match env[i]? with
  | some (some (.x (.o b c' ns' ws))) => if c' = c ∧ ns' = ns then (match evsG fs env with
    | some as => (match allV as with
      | some ds => g (.x (.o b c ns ws) :: ds.map .v)
      | none => none)
    | none => none) else none
  | _ => none : Option W) := Eq.trans rfl rfl
@[simp ↓] theorem callM_ap (c : Str) (ns : List Str) (g : List W → RF) (i : Nat) (ms : List (Option Nat)) (fs : List (M U)) (env : _) : callM c ns g i ms fs env = (match env[i]? with
  | some (some (.x (.o _ c' ns' _))) => if c' = c ∧ ns' = ns then callF g (some i :: ms) (eVar i :: fs) env else .stuck
  | _ => .stuck : R U) := Eq.trans rfl rfl
@[simp ↓] theorem callNew_ap (c : Str) (ns : List Str) (g : List W → RF) (fs : List (M U)) (env : _) : callNew c ns g fs env = ((evs fs env).bind fun us e1 => match frzs e1 us with
  | some (ds, e2) => (match g (.x (.o true c ns []) :: ds.map .v) with
    | .ok (.v .non) (.x (.o _ c' ns' ws) :: _) => .ok (.w (.x (.o false c' ns' ws))) e2
    | .raise cc _ => .raise cc e2
    | _ => .stuck)
  | none => .stuck : R U) := Eq.trans rfl rfl
@[simp ↓] theorem callTmp_ap (c : Str) (ns : List Str) (g : List W → RF) (fr : M U) (fs : List (M U)) (env : _) : callTmp c ns g fr fs env = ((fr env).bind fun u e0 => match u with
  | .w (.x (.o _ c' ns' ws)) => if c' = c ∧ ns' = ns then (evs fs e0).bind fun us e1 => (match frzs e1 us with
    | some (ds, e2) => (match g (.x (.o true c ns ws) :: ds.map .v) with
      | .ok w _ => .ok (.w w) e2
      | .raise cc _ => .raise cc e2
      | .stuck => .stuck)
    | none => .stuck) else .stuck
  | _ => .stuck : R U) := Eq.trans rfl rfl
@[simp ↓] theorem eCompG_ap (fv : DEnv → Option D) (vs : List Nat) (m : MT) (f : G) (env : _) : eCompG fv vs m f env = (match fv env with
  | some (.lst ds) => if dataAt env vs = true ∧ ds.length ≤ 1000000 then (compG vs m f ds (wipeA env vs)).map (.l false) else none
  | _ => none : Option W) := Eq.trans rfl rfl
@[simp ↓] theorem eXNew_ap (b : Bool) (env : _) : eXNew b env = (.ok (.w (.x (.d b [] []))) env : R U) := Eq.trans rfl rfl
@[simp ↓] theorem retG_ap (f : G) (env : _) : retG f env = ((f env).map some : Option (Option W)) := Eq.trans rfl rfl
@[simp ↓] theorem nextG_ap (env : DEnv) : nextG env = (some none : Option (Option W)) := Eq.trans rfl rfl
@[simp ↓] theorem seqG_ap (a b : MG) (env : _) : seqG a b env = (match a env with
  | some none => b env
  | r => r : Option (Option W)) := Eq.trans rfl rfl
@[simp ↓] theorem ifG_ap (t : G) (a b : MG) (env : _) : ifG t a b env = (match t env with
  | some (.v (.bl c)) => if c then a env else b env
  | _ => none : Option (Option W)) := Eq.trans rfl rfl
@[simp ↓] theorem mkG_ap (np nl : Nat) (f : MG) (ws : _) : mkG np nl f ws = (if ws.length = np then (match f (ws.map some ++ List.replicate (nl - np) none) with
  | some (some w) => some w
  | some none => some (.v .non)
  | none => none) else none : Option W) := Eq.trans rfl rfl
@[simp ↓] theorem cG_ap (d : D) (env : DEnv) : cG d env = (some (.v d) : Option W) := Eq.trans rfl rfl
@[simp ↓] theorem nameV_ap (i : Nat) (env : DEnv) : nameV i env = (dat env (.b i) : Option D) := Eq.trans rfl rfl
@[simp ↓] theorem fldW_ap (i : Nat) (c : Str) (ns : List Str) (j : Nat) (env : DEnv) : fldW i c ns j env = (match env[i]? with
  | some (some (.x (.o _ c' ns' ws))) => if c' = c ∧ ns' = ns then ws[j]? else none
  | _ => none : Option W0) := Eq.trans rfl rfl
@[simp ↓] theorem evsG_nil (env : DEnv) : evsG [] env = (some [] : Option (List W)) := Eq.trans rfl rfl
@[simp ↓] theorem evsG_cons (f : G) (fs : List G) (env : DEnv) : evsG (f :: fs) env = (match f env, evsG fs env with
    | some w, some ws => some (w :: ws)
    | _, _ => none : Option (List W)) := Eq.trans rfl rfl
@[simp] theorem datWs_nil : datWs [] = some [] := Eq.trans rfl rfl
@[simp] theorem datWs_cons (w : W) (ws : List W) : datWs (w :: ws) = (if w.opq then none else (datWs ws).map (datW w :: ·)) := Eq.trans rfl rfl
@[simp] theorem allV_nil : allV [] = some [] := Eq.trans rfl rfl
@[simp] theorem allV_cons (d : D) (ws : List W) : allV (.v d :: ws) = (allV ws).map (d :: ·) := Eq.trans rfl rfl
@[simp] theorem datW0_v (d : D) : datW0 (.v d) = d := Eq.trans rfl rfl
@[simp] theorem datW0_l (ds : List D) : datW0 (.l ds) = .lst ds := Eq.trans rfl rfl
@[simp] theorem datW0_d (k : Bool) (ks ds : List D) : datW0 (.d k ks ds) = .dix k ks ds := Eq.trans rfl rfl
@[simp] theorem toW0_v (d : D) : toW0 (.v d) = some (.v d) := Eq.trans rfl rfl
@[simp] theorem toW0_l (b : Bool) (ds : List D) : toW0 (.l b ds) = some (.l ds) := Eq.trans rfl rfl
@[simp] theorem toW0_d (k : Bool) (ks ds : List D) : toW0 (.x (.d k ks ds)) = some (.d k ks ds) := Eq.trans rfl rfl
@[simp] theorem upW_v (d : D) : upW (.v d) = .v d := Eq.trans rfl rfl
@[simp] theorem upW_l (ds : List D) : upW (.l ds) = .l false ds := Eq.trans rfl rfl
@[simp] theorem upW_d (k : Bool) (ks ds : List D) : upW (.d k ks ds) = .x (.d k ks ds) := Eq.trans rfl rfl
@[simp] theorem putFd_df (j : Nat) (w : W0) (ws : List W0) : putFd j w ws = (if j < ws.length then some (ws.set j w) else if j = ws.length then some (ws ++ [w]) else none) := Eq.trans rfl rfl
@[simp] theorem storeF_df (i : Nat) (c : Str) (ns : List Str) (j : Nat) (w : W) (env : DEnv) : storeF i c ns j w env = (match toW0 w, env[i]? with
  | some w0, some (some (.x (.o b c' ns' ws))) => if c' = c ∧ ns' = ns then (match putFd j w0 ws with
    | some ws' => some (env.set i (some (.x (.o b c ns ws'))))
    | none => none) else none
  | _, _ => none) := Eq.trans rfl rfl
@[simp] theorem frzF_df (i : Nat) (c : Str) (ns : List Str) (j : Nat) (env : DEnv) : frzF i c ns j env = (match env[i]? with
  | some (some (.x (.o b c' ns' ws))) => if c' = c ∧ ns' = ns then (match ws[j]? with
    | some w => some (datW0 w, env.set i (some (.x (.o b c ns (ws.set j (.v (datW0 w)))))))
    | none => none) else none
  | _ => none) := Eq.trans rfl rfl
@[simp] theorem moveW_df (env : DEnv) (i : Nat) : moveW env i = (match env[i]? with
  | some (some (.v d)) => some (.v d, env)
  | some (some (.l false ds)) => some (.l ds, env.set i none)
  | _ => none) := Eq.trans rfl rfl
@[simp] theorem moves_nil (env : DEnv) : moves [] env = some ([], env) := Eq.trans rfl rfl
@[simp] theorem moves_cons (i : Nat) (is : List Nat) (env : DEnv) : moves (i :: is) env = (match moveW env i with
    | some (w, e1) => (match moves is e1 with
      | some (ws, e2) => some (w :: ws, e2)
      | none => none)
    | none => none) := Eq.trans rfl rfl
@[simp ↓] theorem oName_ap (i : Nat) (w : W0) (env : DEnv) : oName i w env = (setS i (upW w) env : Option DEnv) := Eq.trans rfl rfl
@[simp ↓] theorem oFld_ap (i : Nat) (c : Str) (ns : List Str) (j : Nat) (w : W0) (env : DEnv) : oFld i c ns j w env = (storeF i c ns j (upW w) env : Option DEnv) := Eq.trans rfl rfl
@[simp ↓] theorem oNil_ap (env : DEnv) : oNil [] env = (some env : Option DEnv) := Eq.trans rfl rfl
@[simp ↓] theorem oCons_ap (m : MO) (ms : MOs) (w : W0) (ws : List W0) (env : DEnv) : oCons m ms (w :: ws) env = (match m w env with
    | some e => ms ws e
    | none => none : Option DEnv) := Eq.trans rfl rfl
@[simp] theorem putX_df (i : Nat) (k d : D) (env : DEnv) : putX i k d env = (match env[i]? with
  | some (some (.x (.d b ks ds))) => if okKey b k = true ∧ ds.length < 1000000 then some (env.set i (some (.x (.d b (dixK ks k) (dixD ks ds k d))))) else none
  | _ => none) := Eq.trans rfl rfl
@[simp] theorem putXF_df (i : Nat) (c : Str) (ns : List Str) (j : Nat) (k d : D) (env : DEnv) : putXF i c ns j k d env = (match env[i]? with
  | some (some (.x (.o bb c' ns' ws))) => if c' = c ∧ ns' = ns then (match ws[j]? with
    | some (.d b ks ds) => if okKey b k = true ∧ ds.length < 1000000 then some (env.set i (some (.x (.o bb c ns (ws.set j (.d b (dixK ks k) (dixD ks ds k d))))))) else none
    | _ => none) else none
  | _ => none) := Eq.trans rfl rfl
@[simp] theorem gXGet_c (b : Bool) (ks ds : List D) (k : D) : gXGet [.dix b ks ds, k] = (if okKey b k = true then (dixGet ks ds k).map .v else none) := Eq.trans rfl rfl
@[simp] theorem gXIn_c (b : Bool) (ks ds : List D) (k : D) : gXIn [k, .dix b ks ds] = (if okKey b k = true then some (.v (.bl (dixGet ks ds k).isSome)) else none) := Eq.trans rfl rfl
@[simp] theorem gXNotIn_c (b : Bool) (ks ds : List D) (k : D) : gXNotIn [k, .dix b ks ds] = (if okKey b k = true then some (.v (.bl (!(dixGet ks ds k).isSome))) else none) := Eq.trans rfl rfl
@[simp] theorem okKey_i (n : Int) : okKey true (.int n) = true := Eq.trans rfl rfl
@[simp] theorem okKey_t (l : List D) : okKey false (.tup l) = keyD (.tup l) := Eq.trans rfl rfl
/-- a comprehension that only adds, over what stands -/
theorem compG_map {α : Type} {enc ψ : α → D} {vs : List Nat} {m : MT} {f : G} {env : DEnv} : ∀ (xs : List α), (∀ x ∈ xs, ∃ e w, m (enc x) env = some e ∧ f e = some w ∧ w.opq = false ∧ datW w = ψ x ∧ wipeA e vs = env) → compG vs m f (xs.map enc) env = some (xs.map ψ)
  | [], _ => by rw [List.map_nil, compG]; rfl
  | x :: xs, h => by
    obtain ⟨e, w, h1, h2, h3, h4, h5⟩ := h x (List.mem_cons_self ..)
    rw [List.map_cons, compG, h1]
    dsimp only
    rw [h2]
    dsimp only
    rw [h3, if_neg Bool.false_ne_true, h5, compG_map xs fun y hy => h y (List.mem_cons_of_mem _ hy), Option.map_some, h4]
    rfl
end DL

namespace DL
open PySem PySem.Spec PyProof.Rows L2
/-! ### a def called, lists lent where they are one's own -/
def effM : List (Option Nat) → List U → List (Option Nat)
  | some _ :: ms, .w _ :: us => none :: effM ms us
  | m :: ms, _ :: us => m :: effM ms us
  | ms, [] => ms
  | [], _ => []
def callL (g : List W → RF) (ms : List (Option Nat)) (fs : List (M U)) : M U := fun env => match evs fs env with
  | .ok us _ => callF g (effM ms us) fs env
  | _ => callF g ms fs env
theorem effM_len : ∀ (ms : List (Option Nat)) (us : List U), (effM ms us).length = ms.length
  | some _ :: ms, .w _ :: us => by rw [effM, List.length_cons, List.length_cons, effM_len ms us]
  | some _ :: ms, .b _ :: us => by rw [effM, List.length_cons, List.length_cons, effM_len ms us]; simp
  | none :: ms, _ :: us => by rw [effM, List.length_cons, List.length_cons, effM_len ms us]; simp
  | [], [] => rfl
  | m :: ms, [] => by cases m <;> rfl
  | [], _ :: _ => rfl
theorem effM_sub : ∀ (ms : List (Option Nat)) (us : List U), ((effM ms us).filterMap id).Sublist (ms.filterMap id)
  | some i :: ms, .w _ :: us => by
    have := effM_sub ms us
    rw [effM]
    simpa using this.cons i
  | some i :: ms, .b _ :: us => by
    have := effM_sub ms us
    rw [effM]
    · simpa using this
    · simp
  | none :: ms, _ :: us => by
    have := effM_sub ms us
    rw [effM]
    · simpa using this
    · simp
  | [], [] => List.Sublist.refl _
  | m :: ms, [] => by cases m <;> exact List.Sublist.refl _
  | [], _ :: _ => List.Sublist.refl _
section
variable {X : Cx} {Wx : WX} {j k : Nat} {ps : List Str} {g : List W → RF} {x : Str} {p pos : Pos} {e : Expr} {es : List Expr} {fs : List (M U)} {ms : List (Option Nat)}
theorem callL_sem {K : PySem.W.Frag} {mg : Str → Option Value} {n : Nat} {σ : L2.St} {H : Hp} {Q : VK} (nd : (ms.filterMap id).Nodup) (hn : ms.length = n) (h : tOf K mg Wx (callL g ms fs) σ H Q) :
    aOf K mg Wx (evs fs) σ H fun vs H1 => spOf K mg n g (vs ++ []) H1 Q (fun c d H' => Wx c d σ H') := by
  obtain ⟨F, env, own, S, h⟩ := h
  unfold callL at h
  cases ev : evs fs env with
  | ok us e1 =>
    rw [ev] at h
    exact call_sem ((effM_sub ms us).nodup nd) ((effM_len ms us).trans hn) ⟨F, env, own, S, h⟩
  | raise c e1 =>
    rw [ev] at h
    exact call_sem nd hn ⟨F, env, own, S, h⟩
  | stuck =>
    rw [ev] at h
    exact call_sem nd hn ⟨F, env, own, S, h⟩
theorem e_callL (C : Cal X.prog X.w X.K X.mg X.base j x ps g) (tk : Takes X Wx) (hr : Room k X.A) (ha : EaS X Wx (e :: es) fs) (hjk : j ≤ k) (hg : Gl X x := by rfl)
    (nd : (ms.filterMap id).Nodup := by decide) (hn : ms.length = ps.length := by rfl) (hdb : (x == ("__debug__" : Str)) = false := by decide) (he : starEach (e :: es) X.env = (false, eval e X.env) :: starEach es X.env := by rfl) (hpl : (backTo pos (starEach es X.env)).any (·.1) = false := by rfl) :
    EvS X Wx (.Call (.Name x p) (e :: es) [] pos) (callL g ms fs) := by
  obtain ⟨f, fd, G, hm, hk, hb⟩ := C.ex
  exact PE.imp (pe_callSD (E := fun σ c d H' => Wx c d σ H') G (hr.mono hjk) hg hm hk hb .nil (fun σ => passAt tk σ) ha hdb he hpl) fun σ H Q h => callL_sem nd hn h
end
@[simp ↓] theorem callL_ap (g : List W → RF) (ms : List (Option Nat)) (fs : List (M U)) (env : DEnv) : callL g ms fs env = (match evs fs env with
  | .ok us _ => callF g (effM ms us) fs env
  | _ => callF g ms fs env : R U) := Eq.trans rfl rfl
@[simp] theorem effM_nil (us : List U) : effM [] us = [] := by cases us <;> rfl
@[simp] theorem effM_n (ms : List (Option Nat)) (u : U) (us : List U) : effM (none :: ms) (u :: us) = none :: effM ms us := by rw [effM]; simp
@[simp] theorem effM_w (i : Nat) (ms : List (Option Nat)) (w : W) (us : List U) : effM (some i :: ms) (.w w :: us) = none :: effM ms us := by rw [effM]
@[simp] theorem effM_b (i j : Nat) (ms : List (Option Nat)) (us : List U) : effM (some i :: ms) (.b j :: us) = some i :: effM ms us := by rw [effM]; simp
end DL

/-! sorted(d.keys()), the keys ints. -/
namespace DL
open PySem PySem.Spec PyProof.Rows L2
def VwO (p d : Addr) : HO := .ext fun h => PySem.W.KdlKeysView h p d
def tKeysV (td : TE) : TE := fun σ H Q => td σ H fun x H1 => ∃ d kvs, x = .ref d ∧ H1 d = some (.dK kvs) ∧ ∀ p, H1 p = none → Q (.ref p) (upd H1 p (VwO p d))
def rSortKV : List V → Hp → VK → Prop := fun vs H Q => ∃ (p d : Addr) (kk : List Int) (ws : List V), vs = [.ref p] ∧ H p = some (VwO p d) ∧ H d = some (.dK ((kk.map Sum.inl).zip ws)) ∧ ws.length = kk.length ∧
  ∀ (ns' : List Int) (q : Addr), ns'.Perm kk → ns'.Pairwise (· ≤ ·) → H q = none → Q (.ref q) (upd H q (.lst (ns'.map V.int)))
section
variable {X : Cx} {e : Expr} {td : TE} {apos cpos : Pos}
theorem pe_keysV (he : PE X e td) (hbase : attributeBase e "keys" X.env (eval e X.env) = eval e X.env := by rfl) (hline : (apos.endLine == cpos.line) = true := by rfl) : PE X (.Call (.Attribute e "keys" apos) [] [] cpos) (tKeysV td) := by
  refine ⟨fun pins s σ H Q I h => ?_⟩
  refine wpAny_Call_method (T := "dict") (id := "dict.keys") hbase rfl hline F.plainAttrs_dict F.slot_dict_keys F.type_dict_keys (thn (he.run pins s σ H _ I h) fun u s1 ⟨x, H1, I1, rx, d, kvs, ex, hd, q⟩ => ?_)
  subst ex
  obtain rfl : u = Value.ref d := rx
  obtain ⟨hz, hs, vs, kv, hm⟩ := I1.hok d _ hd
  refine ⟨hm.typeIs, hm.mapOf.noDict, ?_⟩
  have ok : ObjOk X.prog X.w (upd H1 s1.heap.objs.size (VwO s1.heap.objs.size d)) (s1.heap.push { cls := .type "dict_keys", data := .fields #[.ref d] }) s1.heap.objs.size (VwO s1.heap.objs.size d) := by
    refine ⟨⟨_, Heap.get?_push_size _ rfl, rfl, rfl⟩, ⟨_, Heap.get?_push_size _ rfl⟩, fun h1 h2 z k => ?_⟩
    obtain ⟨o, z1, z2⟩ := z
    exact ⟨o, k _ z1, z2⟩
  show wpAny _ _ (callWith cpos (.builtin "dict.keys") [.ref d] [] []) _ X.xe s1
  exact method_meetsIn F.slot_dict_keys F.entry_dict_keys rfl (PySem.evalArgs_none ⟨rfl, hm.typeIs, F.args_dict_keys_1 _, _, PySem.W.kdl_meets_keys (mixKind X.prog X.w) d hs, ⟨vs, hm⟩,
    ⟨.ref s1.heap.objs.size, _, I1.laid (a := s1.heap.objs.size) (o := VwO s1.heap.objs.size d) (t' := s1.toks) (fun _ _ q => Heap.get?_push_of_some _ q) (Nat.le_refl _) ok, rfl, q _ (I1.hok.fresh (Nat.le_refl _))⟩⟩)
theorem ints_of_get : ∀ {vs : List Value} {kk : List Int}, vs.length = kk.length → (∀ (j : Nat) (v : Value), vs[j]? = some v → ∃ k, kk[j]? = some k ∧ ∃ t, v = .int k t) → IntsAre vs kk
  | [], [], _, _ => .nil
  | v :: vs, k :: kk, h, h2 => by
    obtain ⟨k', e1, t, rfl⟩ := h2 0 v rfl
    cases e1
    exact .cons _ _ (ints_of_get (by simpa using h) fun j v hj => h2 (j + 1) v hj)
theorem kv_keys : ∀ {kvs : List (Key × V)} {xs : List (Key × Value)}, KV kvs xs → xs.map (·.1) = kvs.map (·.1)
  | _, _, .nil => rfl
  | _, _, .cons h t => by rw [List.map_cons, List.map_cons, kv_keys t, h.1]
theorem cr_sortKV (hc : X.calm = true) : CallR X (.builtin "sorted") rSortKV := by
  intro pins s σ H vs us Q I r h
  obtain ⟨p, d, kk, ws, rfl, hp, hd, hl, q⟩ := h
  rw [Vals.ref1 r]
  obtain ⟨hv, _, _⟩ := I.hok p _ hp
  obtain ⟨hz, hs, xs, kv, hm⟩ := I.hok d _ hd
  obtain ⟨ep, hat⟩ := hm.dictAt
  have hxl : xs.length = kk.length := by
    have := Paired.length kv
    rw [List.length_zip, List.length_map, hl, Nat.min_self] at this
    exact this.symm
  have hn : xs.length ≤ sizeLine := by
    rw [List.length_zip, List.length_map, hl, Nat.min_self] at hz
    rw [hxl]; exact hz
  refine PySem.Calls.call_function_entry kind_sorted plain_sorted entry_sorted (args_sorted1 _) ?_
  unfold Builtin.«sorted»
  refine wpAny_bind (m := checkCount "sorted" 1 1 _) (wpAny_pure ?_)
  refine wpAny_bind (PySem.W.kdu_collect (A := X.A.in1) (PySem.W.kdl_keys (knd := mixKind X.prog X.w) (r := p) (d := d) (kvs := xs) (ep := ep)) (I.ok.hd hc) ⟨hv, hat⟩ hn fun h' tk acc hk hacc => ?_)
  have hal : acc.toList.length = kk.length := by rw [Array.length_toList, hacc.1, hxl]
  have hi : IntsAre acc.toList kk := ints_of_get hal fun j v hj => by
    obtain ⟨k, x, h1, h2⟩ := hacc.2 j v (by rw [← Array.getElem?_toList]; exact hj)
    have e1 := kv_keys kv
    rw [List.map_fst_zip (by rw [List.length_map, hl]; exact Nat.le_refl _)] at e1
    have e2 : (kk.map (Sum.inl : Int → Key))[j]? = some k := by rw [← e1, List.getElem?_map, h1]; rfl
    rw [List.getElem?_map] at e2
    obtain ⟨i, h3, rfl⟩ := Option.map_eq_some_iff.mp e2
    rcases keyIs_shape (k := Sum.inl i) (v := v) h2 with ⟨i', t, e3, e4⟩ | ⟨x', t, e3, e4⟩
    · cases e3
      exact ⟨i, h3, t, e4⟩
    · cases e3
  refine wpAny_bind (wpAny_newList ?_ (by rw [hal, ← hxl]; exact hn))
  have hoL : (h'.push { cls := .type "list", data := .seq acc.toList.toArray }).get? h'.objs.size = some (seqObj "list" acc.toList.toArray 0) := Heap.get?_push_size _ rfl
  refine wpAny_bind (wpAny_holding (wpAny_call_entry PyProof.Rows.slot_list_sort ⟨_, hoL, rfl⟩ PyProof.Rows.entry_list_sort (SrtO.list_sort_ord SrtO.swo_int hoL (by rw [hal, ← hxl]; exact hn) (fun h2 => SrtO.ints_sortable hi h2) fun out h1 h2 => ⟨_, rfl, ?_⟩) (PyProof.Rows.args_list_sort _)))
  refine wpAny_pure ⟨_, rfl, ?_⟩
  obtain ⟨k1, k2, k3⟩ := SrtO.ints_out hi h1 h2
  obtain ⟨ep', he'⟩ := PyProof.Rows.sortedHeap_at (vs := acc.toList) (out := out.toArray) hoL
  have hlen : ((out.map SrtO.iv).map V.int).length ≤ sizeLine := by
    rw [List.length_map, k2.length_eq, ← hxl]
    exact hn
  have I2 : Inv X pins σ H { s with heap := h', toks := tk } := I.kept hk
  exact ⟨.ref h'.objs.size, upd H h'.objs.size (.lst ((out.map SrtO.iv).map V.int)), I2.laid (t' := tk) (fun b o this => by
    rw [PyProof.Rows.sortedHeap_old (Nat.ne_of_lt (Heap.lt_size this)) (Nat.lt_of_lt_of_le (Heap.lt_size this) (by rw [Heap.size_push]; exact Nat.le_succ _))]
    exact Heap.get?_push_of_some _ this) (Nat.le_refl _) ⟨hlen, out, ep', vals_of_ints k1, he'⟩, rfl, q _ _ k2 k3 (I2.hok.fresh (Nat.le_refl _))⟩
end
def gSortK : List D → Option W
  | [.dix true ks ds] => (intsOf ks).map fun ns => .l false ((sortI ns).map D.int)
  | _ => none
def rSortKD : V → Hp → VK → Prop := fun x H Q => ∃ d kvs, x = .ref d ∧ H d = some (.dK kvs) ∧ ∀ p, H p = none → rSortKV [.ref p] (upd H p (VwO p d)) Q
theorem cd_sortK {K : PySem.W.Frag} : CaD K (r1 rSortKD) gSortK := by
  intro F H vs ds w Q e vw hg q
  unfold gSortK at hg
  split at hg
  · rename_i ks dd
    obtain ⟨x, rfl, hx⟩ := vw.one
    obtain ⟨ns, h1, rfl⟩ := Option.map_eq_some_iff.mp hg
    obtain ⟨a, o, us, ws, rfl, h2, ⟨kk, rfl, rfl, hl, rfl⟩, r1, r2⟩ := hx
    have en : kk = ns := by
      have := intsOf_eq h1
      exact (List.map_inj_right (f := D.int) (fun x y h => by injection h)).mp this
    subst en
    refine ⟨_, rfl, a, _, rfl, h2, fun p hp => ⟨p, a, kk, ws, rfl, upd_same, ?_, hl, fun ns' q' hpm hs hn => ?_⟩⟩
    · rw [upd_ne (fun z => by subst z; rw [h2] at hp; cases hp)]
      exact h2
    · have e2 : ns' = sortI kk := sorted_uniq hs (sortI_sorted kk) (hpm.trans (sortI_perm kk).symm)
      subst e2
      have g1 : Grow F H F (upd H p (VwO p a)) (fun _ => False) := ⟨Same.refl _, fun b o hb => by rw [upd_ne (fun z => by subst z; rw [hb] at hp; cases hp)]; exact hb, fun b o hb => by
        have hb2 := e _ _ hb
        rw [upd_ne (fun z => by subst z; rw [hb2] at hp; cases hp)]; exact hb2, fun b o h n => (by rw [h] at n; cases n), fun _ h => h.elim⟩
      have back : ∀ b, upd H p (VwO p a) b = none → H b = none := fun b this => by
        cases hb : H b with
        | none => rfl
        | some o' => rw [g1.exH _ _ hb] at this; cases this
      exact fin_lst g1.sub (RepDs.of_ints _) (fun v F' H' pp gr rr => q v F' H' pp ⟨gr.exF, g1.exH.trans gr.exH, gr.sub, fun b o h n => back b (gr.fr b o h n), fun b hb => back b (gr.np b hb)⟩ rr) q' hn
  · cases hg
section
variable {X : Cx} {Wx : WX} {e : Expr} {fe : M U} {apos cpos p pos : Pos}
theorem e_sortK (hc : X.calm = true) (hg : Gl X "sorted") (hm : X.mg "sorted" = none) (he : EvS X Wx e fe) (hbase : attributeBase e "keys" X.env (eval e X.env) = eval e X.env := by rfl) (hline : (apos.endLine == cpos.line) = true := by rfl)
    (hs : starEach [Expr.Call (.Attribute e "keys" apos) [] [] cpos] X.env = [(false, eval (.Call (.Attribute e "keys" apos) [] [] cpos) X.env)] := by rfl) :
    EvS X Wx (.Call (.Name "sorted" p) [.Call (.Attribute e "keys" apos) [] [] cpos] [] pos) (opN gSortK [fe]) :=
  PE.imp (pe_callB (cr_sortKV hc) hg hm (by decide +kernel) (pa_cons (pe_keysV he hbase hline) pa_nil hs) (he := hs)) fun σ H Q h =>
    tOf_mono (aOf_1 (aOf_op cd_sortK h)) fun x H1 z => by
      obtain ⟨d, kvs, ex, hd, z⟩ := r1_one z
      exact ⟨d, kvs, ex, hd, fun p hp => z p hp⟩
end
end DL

/-! zip in a for, abs, max of a tuple of ints. -/
namespace DL
open PySem PySem.Spec PyProof.Rows L2
section
variable {prog : Program} {w : World} {A : Around} {E : Value → Shared → Prop} {s : Shared} {l : Addr}
theorem max_intTup {xs : Array (Int × Tok)} {Q : Value → Shared → Prop} (hh : A.handled = none) (hl : s.heap.IsTuple l (intItems xs)) (hne : 0 < xs.size)
    (h : ∀ v h' tk, (intItems xs)[argBest (fun i j => decide (numAt xs i > numAt xs j)) (xs.size - 1)]? = some v → (∀ b o, s.heap.get? b = some o → h'.get? b = some o) → Q v { s with heap := h', toks := tk }) :
    wpAny (model prog w) A (call (.builtin "max") [.ref l]) Q E s := by
  have hlt : l < s.heap.objs.size := by obtain ⟨_, e, _⟩ := hl; exact Heap.lt_size e
  refine call_max_walk (wpAny_pyIter_tuple hl ?_)
  refine ⟨_, [s.heap.objs.size, l], [s.heap.objs.size], _, _, _, _, rfl, Walks.tuple (A := A.in1) hh _ l (Nat.ne_of_lt hlt) (intItems xs), ⟨⟨_, Heap.get?_push_size _ rfl, rfl, rfl⟩, hl.push _⟩, fun b hb => ?_, by simpa [intItems] using hne, CmpOf.ints_gt (numAt xs) (fun _ _ => intItems_at), fun v h' tk hP hk => ?_⟩
  · show b < (s.heap.push _).objs.size
    rw [Heap.size_push]
    rcases List.mem_cons.mp hb with rfl | hb
    · exact Nat.lt_succ_self _
    · rcases List.mem_cons.mp hb with rfl | hb
      · exact Nat.lt_succ_of_lt hlt
      · cases hb
  · refine h v h' tk (by simpa [intItems] using hP) fun d o e => ?_
    refine hk d o (fun hm => ?_) (Heap.get?_push_of_some _ e)
    rcases List.mem_cons.mp hm with e1 | hm
    · have := Heap.lt_size e; rw [e1] at this; exact Nat.lt_irrefl _ this
    · cases hm
theorem max_rawT {its : List Value} {ns : List Int} {Q : Value → Shared → Prop} (hh : A.handled = none) (hl : s.heap.IsTuple l its.toArray) (hi : IntsAre its ns) (hne : 0 < ns.length)
    (h : ∀ h' tk M t', (∀ b o, s.heap.get? b = some o → h'.get? b = some o) → M ∈ ns → (∀ a, a ∈ ns → a ≤ M) → Q (.int M t') { s with heap := h', toks := tk }) : wpAny (model prog w) A (call (.builtin "max") [.ref l]) Q E s := by
  obtain ⟨xs, e⟩ := hi.allInts.items
  have hn : numsOf (intItems xs).toList = ns := by rw [← e]; exact hi.numsOf
  rw [nums_intItems] at hn
  subst hn
  rw [e] at hl
  have hsz : 0 < xs.size := by simpa using hne
  refine max_intTup hh hl hsz fun v h' tk hv hk => ?_
  obtain ⟨t, rfl⟩ := intItems_at hv
  obtain ⟨h1, h2⟩ := argBest_gt (numAt xs) (xs.size - 1)
  refine h h' tk _ t hk ?_ fun a ha => ?_
  · rw [numAt_eq]; exact PySem.getD_mem (by rw [List.length_map, Array.length_toList]; omega)
  · obtain ⟨j, hj, rfl⟩ := mem_getD ha
    rw [List.length_map, Array.length_toList] at hj
    rw [← numAt_eq]; exact h2 j (by omega)
end
section
variable {X : Cx} {K : PySem.W.Frag}
def rMaxT (K : PySem.W.Frag) : List V → Hp → VK → Prop := fun vs H Q => ∃ (a : Addr) (ns : List Int), vs = [V.ref a] ∧ SqT K H a (ns.map V.int) ∧ 0 < ns.length ∧ ∀ m, m ∈ ns → (∀ y, y ∈ ns → y ≤ m) → Q (.int m) H
theorem cr_maxT (hc : X.calm = true) : CallR X (.builtin "max") (rMaxT X.K) := by
  intro pins s σ H vs us Q I r h
  obtain ⟨a, ns, rfl, hs, hne, q⟩ := h
  obtain ⟨its, rv, hl, _⟩ := I.tuple hs
  rw [Vals.ref1 r]
  exact max_rawT (I.ok.hd hc) hl rv.ints hne fun h' tk m t' hk h1 h2 => ⟨.int _, H, I.kept hk, ⟨_, rfl⟩, q m h1 h2⟩
def gMaxT : List D → Option W
  | [.tup ds] => match intsOf ds with
    | some (n :: ns) => some (.v (.int (imax (n :: ns))))
    | _ => none
  | _ => none
theorem cd_maxT : CaD K (rMaxT K) gMaxT := by
  intro F H vs ds w Q e vw hg q
  unfold gMaxT at hg
  split at hg
  · obtain ⟨x, rfl, hx⟩ := vw.one
    split at hg
    · rename_i n ns h1
      cases hg
      have hx : RepD K F x (.tup _) := hx
      cases hx with
      | tup h2 r =>
        rw [intsOf_eq h1] at r
        have := r.ints
        subst this
        refine ⟨_, n :: ns, rfl, SqT.of (e _ _ h2), by simp, fun m hm hx => ?_⟩
        obtain ⟨s1, s2⟩ := imax_spec n ns
        have em : m = imax (n :: ns) := Int.le_antisymm (s2 m hm) (hx _ s1)
        rw [em]
        exact fin_int e q
    · cases hg
  · cases hg
def gAbs : List D → Option W
  | [.int i] => some (.v (.int (if i < 0 then -i else i)))
  | _ => none
theorem cd_abs : CaD K (fun xs H Q => ∃ i, xs = [.int i] ∧ Q (.int (if i < 0 then -i else i)) H) gAbs := by
  intro F H vs ds w Q e vw hg q
  unfold gAbs at hg
  split at hg
  · rename_i i
    obtain ⟨x, rfl, hx⟩ := vw.one
    cases hg
    exact ⟨i, by rw [hx.int], fin_int e q⟩
  · cases hg
end
/-! zip -/
def pairs2 (xs ys : List D) : List D := (xs.zip ys).map fun q => .tup [q.1, q.2]
def zipD : List D → Option (List D)
  | [.lst xs, .lst ys] => some (pairs2 xs ys)
  | [.tup xs, .tup ys] => some (pairs2 xs ys)
  | _ => none
def iterZip (f g : M U) : M (List D) := fun env => (evs [f, g] env).bind fun us e1 => match frzs e1 us with
  | some (ds, e2) => (match zipD ds with
    | some ps => .ok ps e2
    | none => .stuck)
  | none => .stuck
theorem pairs2_get {xs ys : List D} {i : Nat} {d : D} (h : (pairs2 xs ys)[i]? = some d) : ∃ x y, xs[i]? = some x ∧ ys[i]? = some y ∧ d = .tup [x, y] := by
  unfold pairs2 at h
  rw [List.getElem?_map] at h
  obtain ⟨q, h1, rfl⟩ := Option.map_eq_some_iff.mp h
  rw [List.getElem?_zip_eq_some] at h1
  exact ⟨q.1, q.2, h1.1, h1.2, rfl⟩
theorem pairs2_len (xs ys : List D) : (pairs2 xs ys).length = min xs.length ys.length := by unfold pairs2; simp
theorem feeds_zl {K : PySem.W.Frag} {F0 : Hp} {a b : Addr} {vs ws : List V} {xs ys : List D} (h : Rd F0 a (.lst vs)) (r : RepDs K F0 vs xs) (h' : Rd F0 b (.lst ws)) (r' : RepDs K F0 ws ys) : Feeds K (Itz K a b) F0 (pairs2 xs ys) where
  go := fun F H i e1 e2 hi => by
    rw [pairs2_len] at hi
    have hv : i < vs.length := by rw [r.length]; omega
    have hw : i < ws.length := by rw [r'.length]; omega
    exact ⟨vs, ws, vs[i], ws[i], .inl (sameL (e1.trans e2) h), .inl (sameL (e1.trans e2) h'), List.getElem?_eq_getElem hv, List.getElem?_eq_getElem hw⟩
  yld := fun F H i x H' d e1 e2 hd y => by
    obtain ⟨T, x, z, rfl, nT, rfl, y1, y2⟩ := y
    obtain ⟨dx, dy, hx, hy, rfl⟩ := pairs2_get hd
    obtain ⟨v, h1, h2⟩ := r.get hx
    obtain ⟨v', h1', h2'⟩ := r'.get hy
    have t1 := y1 vs (.inl (sameL (e1.trans e2) h))
    rw [h1] at t1
    cases t1
    have t2 := y2 ws (.inl (sameL (e1.trans e2) h'))
    rw [h1'] at t2
    cases t2
    exact ⟨upd F T (.tup [x, z]), Grow.data e2 nT, .tup upd_same (.cons ((h2.mono e1).mono (same_upd (sub_none e2 nT))) (.cons ((h2'.mono e1).mono (same_upd (sub_none e2 nT))) .nil))⟩
  stop := fun F H e1 e2 => ⟨vs, ws, .inl (sameL (e1.trans e2) h), .inl (sameL (e1.trans e2) h'), by rw [pairs2_len, r.length, r'.length]; omega⟩
theorem feeds_zt {K : PySem.W.Frag} {F0 : Hp} {a b : Addr} {vs ws : List V} {xs ys : List D} (h : SqT K F0 a vs) (r : RepDs K F0 vs xs) (h' : SqT K F0 b ws) (r' : RepDs K F0 ws ys) : Feeds K (RZ.ItzT K a b) F0 (pairs2 xs ys) where
  go := fun F H i e1 e2 hi => by
    rw [pairs2_len] at hi
    have hv : i < vs.length := by rw [r.length]; omega
    have hw : i < ws.length := by rw [r'.length]; omega
    exact ⟨vs, ws, vs[i], ws[i], sameT (e1.trans e2) h, sameT (e1.trans e2) h', List.getElem?_eq_getElem hv, List.getElem?_eq_getElem hw⟩
  yld := fun F H i x H' d e1 e2 hd y => by
    obtain ⟨T, x, z, rfl, nT, rfl, y1, y2⟩ := y
    obtain ⟨dx, dy, hx, hy, rfl⟩ := pairs2_get hd
    obtain ⟨v, h1, h2⟩ := r.get hx
    obtain ⟨v', h1', h2'⟩ := r'.get hy
    have t1 := y1 vs (sameT (e1.trans e2) h)
    rw [h1] at t1
    cases t1
    have t2 := y2 ws (sameT (e1.trans e2) h')
    rw [h1'] at t2
    cases t2
    exact ⟨upd F T (.tup [x, z]), Grow.data e2 nT, .tup upd_same (.cons ((h2.mono e1).mono (same_upd (sub_none e2 nT))) (.cons ((h2'.mono e1).mono (same_upd (sub_none e2 nT))) .nil))⟩
  stop := fun F H e1 e2 => ⟨vs, ws, sameT (e1.trans e2) h, sameT (e1.trans e2) h', by rw [pairs2_len, r.length, r'.length]; omega⟩
section
variable {X : Cx} {Wx : WX} {e e' : Expr} {f g : M U} {pos p tpos : Pos}
theorem i_zip {elts : List Expr} {kk : Nat} (hg : Gl X "zip") (hm : X.mg "zip" = none) (ha : EaS X Wx [e, e'] [f, g]) (hs : starEach [e, e'] X.env = (false, eval e X.env) :: starEach [e'] X.env := by rfl) (hpl : (backTo pos (starEach [e'] X.env)).any (·.1) = false := by rfl) : ItS X Wx (.Tuple elts kk tpos) (.Call (.Name "zip" p) [e, e'] [] pos) (iterZip f g) :=
  PI.imp (RZ.pi_zipA hg hm ha hs hpl) fun σ H RR h => by
  obtain ⟨F, env, own, S, h⟩ := h
  refine ⟨F, env, own, S, ?_⟩
  unfold iterZip at h
  cases ee : evs [f, g] env with
  | stuck => rw [ee] at h; exact h
  | raise c env1 => rw [ee] at h; exact h
  | ok us env1 =>
    rw [ee, R.bind_ok] at h
    intro vs F1 H1 own1 p O
    cases e1 : frzs env1 us with
    | none => rw [e1] at h; exact h.elim
    | some pr =>
      obtain ⟨ds, e2⟩ := pr
      rw [e1] at h
      obtain ⟨F2, own2, r2, O2⟩ := O.frz (F2 := F) e1
      dsimp only at h
      cases ez : zipD ds with
      | none => rw [ez] at h; exact h.elim
      | some ps =>
        rw [ez] at h
        dsimp only at h
        unfold zipD at ez
        split at ez
        · cases ez
          cases r2 with
          | cons ra rb =>
            cases rb with
            | cons rb rc =>
              cases rc
              cases ra with
              | lst q1 s1 =>
                cases rb with
                | lst q2 s2 => exact ⟨_, _, _, _, rfl, .inl ⟨.inl (sameL O2.S.ex q1), .inl (sameL O2.S.ex q2), h _ _ _ _ O2 (feeds_zl q1 s1 q2 s2)⟩⟩
        · cases ez
          cases r2 with
          | cons ra rb =>
            cases rb with
            | cons rb rc =>
              cases rc
              cases ra with
              | tup q1 s1 =>
                cases rb with
                | tup q2 s2 => exact ⟨_, _, _, _, rfl, .inr ⟨SqT.of (O2.S.ex _ _ q1), SqT.of (O2.S.ex _ _ q2), h _ _ _ _ O2 (feeds_zt (SqT.of q1) s1 (SqT.of q2) s2)⟩⟩
        · cases ez
end
@[simp ↓] theorem iterZip_ap (f g : M U) (env : DEnv) : iterZip f g env = ((evs [f, g] env).bind fun us e1 => match frzs e1 us with
  | some (ds, e2) => (match zipD ds with
    | some ps => .ok ps e2
    | none => .stuck)
  | none => .stuck : R (List D)) := Eq.trans rfl rfl
@[simp] theorem gAbs_c (i : Int) : gAbs [.int i] = some (.v (.int (if i < 0 then -i else i))) := Eq.trans rfl rfl
end DL

/-! d.get(k, []), d a name, its keys tuples. -/
namespace DL
open PySem PySem.Spec PyProof.Rows L2
def tXGetL (td ty : TE) : TE := fun σ H Q => td σ H fun x H1 => ∃ a xs0, x = .ref a ∧ XDict H1 a xs0 ∧ ty σ H1 fun y H2 => ∀ p, H2 p = none → ∃ b k xs, y = .ref b ∧ XDict (upd H2 p (.lst [])) a xs ∧ KeyAt (upd H2 p (.lst [])) k b ∧
  (match atKey xs k with
    | some q => ∃ v, RelV v q.2 ∧ Q v (upd H2 p (.lst []))
    | none => Q (.ref p) (upd H2 p (.lst [])))
section
variable {X : Cx} {o e : Expr} {td ty : TE} {apos cpos lp : Pos}
theorem pe_xgetL (hu : X.A.units + 65 < cLine) (ho : PE X o td) (he : PE X e ty) (m : M2 X o "get" apos e (.List [] lp) cpos) : PE X (.Call (.Attribute o "get" apos) [e, .List [] lp] [] cpos) (tXGetL td ty) := by
  refine ⟨fun pins s σ H Q I h => ?_⟩
  refine wpAny_Call_method m.base m.few m.line PySem.F.plainAttrs_dict PySem.F.slot_dict_get PySem.F.type_dict_get (thn (ho.run pins s σ H _ I h) fun u s1 ⟨x, H1, I1, rx, a, xs0, ex, d, q1⟩ => ?_)
  subst ex
  obtain rfl : u = Value.ref a := rx
  obtain ⟨h0, dd⟩ := d.ok I1
  refine ⟨dd.typeIs, ?_, ?_⟩
  · obtain ⟨o, es, ep, h1, h2, _⟩ := dd
    exact fun a' e' => by
      cases e'
      exact ⟨o, h1, h2.2.1⟩
  rw [m.trees]
  refine Calls.callWith_builtin rfl (Calls.evalArgs_plain (Calls.spliced_cons (thn (he.run pins s1 σ H1 _ I1 q1) fun iv s2 ⟨y, H2, I2, ry, q2⟩ =>
    Calls.spliced_cons (thn ((pe_lst (pos := lp) pa_nil).run pins s2 σ H2 (fun z H3 => ∃ p, z = .ref p ∧ H2 p = none ∧ H3 = upd H2 p (.lst [])) I2 ⟨Nat.zero_le _, fun p hp => ⟨p, rfl, hp, rfl⟩⟩) fun fv s3 ⟨z, H3, I3, rz, p, ez, hp, e3⟩ => Calls.spliced_nil ?_))))
  subst ez e3
  obtain rfl : fv = Value.ref p := rz
  obtain ⟨b, k, xs, ey, hd, hk, q⟩ := q2 p hp
  subst ey
  obtain rfl : iv = Value.ref b := ry
  obtain ⟨h0', dd'⟩ := hd.ok I3
  refine call_meetsIn PySem.F.slot_dict_get dd'.typeIs PySem.F.entry_dict_get (PySem.F.args_dict_get_3 _ _ _) (meetsH_dict_get_default (nestedKind X.prog X.w) a b h0' (.ref p)) ⟨room8 hu, k, xs, hk.1 _ _ _ I3.hok, dd', ?_⟩
  cases c : atKey xs k with
  | none =>
    rw [c] at q
    exact ⟨.ref p, _, I3.tok _, rfl, q⟩
  | some qq =>
    rw [c] at q
    obtain ⟨v, rv, q⟩ := q
    exact ⟨v, _, I3.tok _, rv, q⟩
end
def getXD (i : Nat) (env : DEnv) : Option (List D × List D) := match env[i]? with
  | some (some (.x (.d false ks ds))) => some (ks, ds)
  | _ => none
theorem getXD_some {i : Nat} {env : DEnv} {ks ds : List D} (h : getXD i env = some (ks, ds)) : env[i]? = some (some (.x (.d false ks ds))) := by
  unfold getXD at h
  split at h
  · rename_i k d hw
    cases h
    exact hw
  · cases h
def eGetL (i : Nat) (fk : G) : M U := fun env => match getXD i env with
  | some (ks, ds) => (match fk env with
    | some (.v k) => if okKey false k = true then .ok (.w (.v ((dixGet ks ds k).getD (.lst [])))) env else .stuck
    | _ => .stuck)
  | none => .stuck
section
variable {X : Cx} {Wx : WX} {e : Expr} {fk : G} {i : Nat} {x : Str} {p1 apos cpos lp : Pos}
theorem e_getL (hu : X.A.units + 65 < cLine) (hk : EvG X e fk) (hN : X.N[i]? = some x := by rfl) (hv : Vis X.env.scope x := by first | exact Or.inl rfl | exact Or.inr (Or.inl rfl) | exact Or.inr (Or.inr rfl)) (hd : (x == ("__debug__" : Str)) = false := by decide) (hcd : (x == ("__classdict__" : Str)) = false := by decide)
    (m : M2 X (.Name x p1) "get" apos e (.List [] lp) cpos := by exact ⟨by rfl, by rfl, by rfl, by rfl⟩) : EvS X Wx (.Call (.Attribute (.Name x p1) "get" apos) [e, .List [] lp] [] cpos) (eGetL i fk) :=
  PE.imp (pe_xgetL hu (pe_var hN hv hd hcd) hk m) fun σ H Q h => by
  obtain ⟨F, env, own, S, h⟩ := h
  unfold eGetL at h
  cases e0 : getXD i env with
  | none => rw [e0] at h; exact h.elim
  | some pr =>
    obtain ⟨ks, ds⟩ := pr
    rw [e0] at h
    dsimp only at h
    have hw := getXD_some e0
    cases e3 : fk env with
    | none => rw [e3] at h; exact h.elim
    | some wk =>
      rw [e3] at h
      cases wk with
      | l _ _ => exact h.elim
      | m _ _ => exact h.elim
      | x _ => exact h.elim
      | v kd =>
        dsimp only at h
        by_cases hok : okKey false kd = true
        · rw [if_pos hok] at h
          obtain ⟨vv, hvv, a, o, us, vs, rfl, hp, hH, hF, ⟨xs, rfl, rfl, hvs, hks, hall⟩, ru, rv⟩ := S.rep i _ hw
          refine ⟨.ref a, hvv, a, xs, rfl, nd_view S.ex hH ru hks hall, ?_⟩
          refine ⟨F, env, own, S, ?_⟩
          rw [e3]
          intro y F3 H3 pk gr rk p hpn
          have S3 := gr.sit S
          obtain ⟨vv3, hvv3, a3, o3, us3, vs3, ev3, hp3, hH3, hF3, ⟨xs3, rfl, rfl, hvs3, hks3, hall3⟩, ru3, rv3⟩ := S3.rep i _ hw
          rw [hvv] at hvv3
          cases hvv3
          cases ev3
          have gd : Grow F3 H3 (upd F3 p (.lst [])) (upd H3 p (.lst [])) (fun _ => False) := Grow.data gr.sub hpn
          have hHp : upd H3 p (.lst []) a = some (NdO a xs3) := by rw [upd_ne (fun z => by subst z; rw [hH3] at hpn; cases hpn)]; exact hH3
          have rk2 : RepD X.K (upd F3 p (.lst [])) y kd := rk.2.mono gd.exF
          obtain ⟨bb, rfl, kat, _⟩ := key_view gd.sub (View.of gd.sub rk2) (okKey_f hok)
          refine ⟨bb, keyOf kd, xs3, rfl, nd_view gd.sub hHp (ru3.mono gd.exF) hks3 hall3, kat, ?_⟩
          have xg := x_get kd hvs3 rv3 hks3
          have out : ∀ v d, RepD X.K (upd F3 p (.lst [])) v d → (dixGet ks ds kd).getD (.lst []) = d → Q v (upd H3 p (.lst [])) := fun v d rd ed => by
            rw [ed] at h
            have g2 : Grow F H (upd F3 p (.lst [])) (upd H3 p (.lst [])) (fun _ => False) := ⟨gr.exF.trans gd.exF, gr.exH.trans gd.exH, gd.sub, fun b ob hb nb => by
              cases hc : F3 b with
              | none => 
                have := gd.fr b ob hb hc
                cases hc2 : H b with
                | none => rfl
                | some oo => rw [gr.exH _ _ hc2] at this; cases this
              | some oo => exact gr.fr b oo hc nb, fun _ z => z.elim⟩
            exact h v _ _ _ _ (g2.out (OutR.refl S) (RepW.ofRep rd))
          cases c : dixGet ks ds kd with
          | none =>
            rw [c] at xg
            rw [xg]
            exact out (.ref p) (.lst []) (.lst (.inl upd_same) .nil) (by rw [c]; rfl)
          | some d =>
            rw [c] at xg
            obtain ⟨q, u, v, k1, k2, k3⟩ := xg
            rw [k1]
            exact ⟨v, k2, out v d (k3.mono gd.exF) (by rw [c]; rfl)⟩
        · rw [if_neg hok] at h
          exact h.elim
end
@[simp] theorem getXD_df (i : Nat) (env : DEnv) : getXD i env = (match env[i]? with
  | some (some (.x (.d false ks ds))) => some (ks, ds)
  | _ => none) := Eq.trans rfl rfl
@[simp ↓] theorem eGetL_ap (i : Nat) (fk : G) (env : DEnv) : eGetL i fk env = (match getXD i env with
  | some (ks, ds) => (match fk env with
    | some (.v k) => if okKey false k = true then .ok (.w (.v ((dixGet ks ds k).getD (.lst [])))) env else .stuck
    | _ => .stuck)
  | none => .stuck : R U) := Eq.trans rfl rfl
end DL

namespace Lw
open PySem PySem.Spec PyProof.Rows L2 DL
def topS (i : Nat) : Stmt := PySem.Challenge.pw_chairline_k52_days_by_hand.main.body.getD i (.Pass ⟨0, 0, 0, 0⟩)
abbrev ns_Course : List Str := ["loader", "day", "rows", "arrived", "begun", "beats", "seated", "begin"]
theorem nd_Course : ns_Course.Nodup := by decide +kernel
structure Facts (K : PySem.W.Frag) (mg : Str → Option Value) : Prop where
  b_all : mg "all" = none
  b_any : mg "any" = none
  b_bool : mg "bool" = none
  b_enumerate : mg "enumerate" = none
  b_int : mg "int" = none
  b_isinstance : mg "isinstance" = none
  b_len : mg "len" = none
  b_list : mg "list" = none
  b_max : mg "max" = none
  b_range : mg "range" = none
  b_sum : mg "sum" = none
  b_tuple : mg "tuple" = none
  c_FARTHEST : ∃ t, mg "FARTHEST" = some (.int 1000000000000000000 t)
  c_LONGEST : ∃ t, mg "LONGEST" = some (.int 2000 t)
  e_BadDay : Exn K mg "BadDay"
  e_BadLoader : Exn K mg "BadLoader"
  e_BadNumber : Exn K mg "BadNumber"
  e_Full : Exn K mg "Full"
  k_Course : ClsF K "Course" ns_Course
section
variable {P : Program} {w : World} {K : PySem.W.Frag} {mg : Str → Option Value} {base : Heap}
/-! is_whole -/
abbrev s_is_whole : Stmt := topS 7
theorem sc_is_whole : FnScope ["thing", "least", "most"] ["thing", "least", "most"] (defScope s_is_whole) := ⟨rfl, rfl, rfl, by decide +kernel, rfl, by decide +kernel, by decide +kernel⟩
abbrev is_is_whole : List Nat := []
noncomputable def b_is_whole : M Fl :=
  (sRet (vAnd (opN gIsi [(eVar 0), (eD (.ty "int"))]) (vAnd (opN gNot [(opN gIsi [(eVar 0), (eD (.ty "bool"))])]) (vChain gLe gLe (eVar 1) (eVar 0) (eVar 2)))))
noncomputable def g_is_whole : List W → RF := mkFn is_is_whole 3 3 b_is_whole
theorem ok_is_whole {f : Addr} {fd : FuncData} (T : Facts K mg) (F : Fun K "is_whole" "is_whole" s_is_whole f fd) : FnS P w K mg base 1 f fd ["thing", "least", "most"] g_is_whole := by
  refine fn_ok (is := is_is_whole) F sc_is_whole (fun cdv A outer s H E hr => ?_)
  have nd := sc_is_whole.nd
  have tk : Takes (cxOf (L2.CX P w) P w K mg base ["thing", "least", "most"] "is_whole" (defScope s_is_whole) f cdv A outer s H E) (fun c d _ H => E c d H) := takes_of rfl rfl rfl rfl
  show SsS _ _ _ [] _
  exact (ss_one (s_ret (e_and (e_callB call_isi cd_isi (by rfl) T.b_isinstance (by decide +kernel) (ea_cons (e_var 0) (ea_cons (e_bltn (v := .ty "int") (by rfl) T.b_int (by decide +kernel) rfl (fun _ => .ty "int")) ea_nil))) (e_and (e_not (e_callB call_isi cd_isi (by rfl) T.b_isinstance (by decide +kernel) (ea_cons (e_var 0) (ea_cons (e_bltn (v := .ty "bool") (by rfl) T.b_bool (by decide +kernel) rfl (fun _ => .ty "bool")) ea_nil)))) (e_one (e_chain op_le op_le cd_cmp cd_cmp (e_var 1) (e_var 0) (e_var 2)))))))
/-! next_of -/
abbrev s_next_of : Stmt := topS 11
theorem sc_next_of : FnScope ["loader", "rows", "room", "at", "number", "size", "passes"] ["loader", "rows", "room"] (defScope s_next_of) := ⟨rfl, rfl, rfl, by decide +kernel, rfl, by decide +kernel, by decide +kernel⟩
noncomputable def lb_next_of_0 : M Fl :=
  (sSeq (sIf (tst (opN gLe [(eVar 5), (eVar 2)])) (sRet (eVar 3)) sNext)
    (sIf (tst (opN gGe [(eVar 6), (opN gIx [(eVar 0), (eD (.int 2))])])) (sRet (eD .non)) sNext))
noncomputable def m_next_of_0 : MT :=
  (mTup (mCons (mName 3) (mCons (mTup (mCons (mName 4) (mCons (mName 5) (mCons (mName 6) mNil))) 3) mNil)) 2)
abbrev is_next_of : List Nat := ((([3] ++ (([4] ++ ([5] ++ ([6] ++ []))) ++ [])) ++ (([] ++ []) ++ ([] ++ []))) ++ [])
noncomputable def b_next_of : M Fl :=
  (sSeq (sFor (iterEnum (opN gSlH [(eVar 1), (opN gAdd [(opN gIx [(eVar 0), (eD (.int 1))]), (eD (.int 1))])])) m_next_of_0 lb_next_of_0)
    (sRet (eD .non)))
noncomputable def g_next_of : List W → RF := mkFn is_next_of 3 7 b_next_of
theorem ok_next_of {f : Addr} {fd : FuncData} (T : Facts K mg) (F : Fun K "next_of" "next_of" s_next_of f fd) : FnS P w K mg base 1 f fd ["loader", "rows", "room"] g_next_of := by
  refine fn_ok (is := is_next_of) F sc_next_of (fun cdv A outer s H E hr => ?_)
  have nd := sc_next_of.nd
  have tk : Takes (cxOf (L2.CX P w) P w K mg base ["loader", "rows", "room", "at", "number", "size", "passes"] "next_of" (defScope s_next_of) f cdv A outer s H E) (fun c d _ H => E c d H) := takes_of rfl rfl rfl rfl
  show SsS _ _ _ ((([3] ++ (([4] ++ ([5] ++ ([6] ++ []))) ++ [])) ++ (([] ++ []) ++ ([] ++ []))) ++ []) _
  exact (ss_cons (s_for (passes_of rfl) rfl (i_enum (by rfl) T.b_enumerate (e_slH (e_var 1) (e_bin op_addA cd_add (e_ix ix_seq cd_ix (e_var 0) e_int (fun _ _ => rfl)) e_int))) (g_tup rfl (gs_cons (g_name (i := 3) nd rfl (by first | exact Or.inl rfl | exact Or.inr rfl)) (gs_cons (g_tup rfl (gs_cons (g_name (i := 4) nd rfl (by first | exact Or.inl rfl | exact Or.inr rfl)) (gs_cons (g_name (i := 5) nd rfl (by first | exact Or.inl rfl | exact Or.inr rfl)) (gs_cons (g_name (i := 6) nd rfl (by first | exact Or.inl rfl | exact Or.inr rfl)) gs_nil)))) gs_nil))) (ss_cons (s_if (t_cmp op_le cd_cmp (e_var 5) (e_var 2) (nomark _)) (ss_one (s_ret (e_var 3))) ss_nil)
    (ss_one (s_if (t_cmp op_ge cd_cmp (e_var 6) (e_ix ix_seq cd_ix (e_var 0) e_int (fun _ _ => rfl)) (nomark _)) (ss_one (s_ret e_non)) ss_nil))))
    (ss_one (s_ret e_non)))
/-! share -/
abbrev s_share : Stmt := topS 14
theorem sc_share : FnScope ["top", "below", "one", "other"] ["top", "below"] (defScope s_share) := ⟨rfl, rfl, rfl, by decide +kernel, rfl, by decide +kernel, by decide +kernel⟩
noncomputable def lb_share_0 : M Fl :=
  (sPar 2 3 [(eVar 3), (opN gMod [(eVar 2), (eVar 3)])])
abbrev is_share : List Nat := ([2, 3] ++ ([2, 3] ++ []))
noncomputable def b_share : M Fl :=
  (sSeq (sPar 2 3 [(eVar 0), (eVar 1)])
    (sSeq (sWhile (tst (opN gNe [(eVar 3), (eD (.int 0))])) lb_share_0)
    (sRet (dTup [(opN gDiv [(eVar 0), (eVar 2)]), (opN gDiv [(eVar 1), (eVar 2)])]))))
noncomputable def g_share : List W → RF := mkFn is_share 2 4 b_share
theorem ok_share {f : Addr} {fd : FuncData} (T : Facts K mg) (F : Fun K "share" "share" s_share f fd) : FnS P w K mg base 1 f fd ["top", "below"] g_share := by
  refine fn_ok (is := is_share) F sc_share (fun cdv A outer s H E hr => ?_)
  have nd := sc_share.nd
  have tk : Takes (cxOf (L2.CX P w) P w K mg base ["top", "below", "one", "other"] "share" (defScope s_share) f cdv A outer s H E) (fun c d _ H => E c d H) := takes_of rfl rfl rfl rfl
  show SsS _ _ _ ([2, 3] ++ ([2, 3] ++ [])) _
  exact (ss_cons (s_par rfl nd rfl rfl (by decide) rfl rfl (ea_cons (e_var 0) (ea_cons (e_var 1) ea_nil)) (by rfl))
    (ss_cons (s_while (passes_of rfl) (t_cmp (op_neD hr.units) cd_ne (e_var 3) e_int (nomark _)) (ss_one (s_par rfl nd rfl rfl (by decide) rfl rfl (ea_cons (e_var 3) (ea_cons (e_bin op_mod cd_mod (e_var 2) (e_var 3)) ea_nil)) (by rfl))))
    (ss_one (s_ret (e_tup (ea_cons (e_bin op_fdiv cd_div (e_var 0) (e_var 2)) (ea_cons (e_bin op_fdiv cd_div (e_var 1) (e_var 2)) ea_nil)))))))
/-! Course.__init__ -/
abbrev s_Course_new : Stmt := inClass (topS 22) 0
theorem sc_Course_new : FnScope ["self", "loader", "day"] ["self", "loader", "day"] (defScope s_Course_new) := ⟨rfl, rfl, rfl, by decide +kernel, rfl, by decide +kernel, by decide +kernel⟩
abbrev is_Course_new : List Nat := ([] ++ ([] ++ ([] ++ ([] ++ ([] ++ ([] ++ ([] ++ [])))))))
noncomputable def b_Course_new : M Fl :=
  (sSeq (sFldS 0 "Course" ns_Course 0 (eVar 1))
    (sSeq (sFldS 0 "Course" ns_Course 1 (eVar 2))
    (sSeq (sFldS 0 "Course" ns_Course 2 (dLst []))
    (sSeq (sFldS 0 "Course" ns_Course 3 (eD (.int 0)))
    (sSeq (sFldS 0 "Course" ns_Course 4 (dLst []))
    (sSeq (sFldS 0 "Course" ns_Course 5 (dLst []))
    (sSeq (sFldS 0 "Course" ns_Course 6 (eXNew true))
    (sFldS 0 "Course" ns_Course 7 (eD .non)))))))))
noncomputable def g_Course_new : List W → RF := mkFn is_Course_new 3 3 b_Course_new
theorem ok_Course_new {f : Addr} {fd : FuncData} (T : Facts K mg) (F : Fun K "__init__" "Course.__init__" s_Course_new f fd) : FnS P w K mg base 1 f fd ["self", "loader", "day"] g_Course_new := by
  refine fn_ok (is := is_Course_new) F sc_Course_new (fun cdv A outer s H E hr => ?_)
  have nd := sc_Course_new.nd
  have tk : Takes (cxOf (L2.CX P w) P w K mg base ["self", "loader", "day"] "Course.__init__" (defScope s_Course_new) f cdv A outer s H E) (fun c d _ H => E c d H) := takes_of rfl rfl rfl rfl
  show SsS _ _ _ ([] ++ ([] ++ ([] ++ ([] ++ ([] ++ ([] ++ ([] ++ []))))))) _
  exact (ss_cons (s_fldS (i := 0) (c := "Course") (ns := ns_Course) (j := 0) T.k_Course nd_Course rfl (by decide) (e_var 1))
    (ss_cons (s_fldS (i := 0) (c := "Course") (ns := ns_Course) (j := 1) T.k_Course nd_Course rfl (by decide) (e_var 2))
    (ss_cons (s_fldS (i := 0) (c := "Course") (ns := ns_Course) (j := 2) T.k_Course nd_Course rfl (by decide) (e_lst ea_nil))
    (ss_cons (s_fldS (i := 0) (c := "Course") (ns := ns_Course) (j := 3) T.k_Course nd_Course rfl (by decide) e_int)
    (ss_cons (s_fldS (i := 0) (c := "Course") (ns := ns_Course) (j := 4) T.k_Course nd_Course rfl (by decide) (e_lst ea_nil))
    (ss_cons (s_fldS (i := 0) (c := "Course") (ns := ns_Course) (j := 5) T.k_Course nd_Course rfl (by decide) (e_lst ea_nil))
    (ss_cons (s_fldS (i := 0) (c := "Course") (ns := ns_Course) (j := 6) T.k_Course nd_Course rfl (by decide) e_xnew)
    (ss_one (s_fldS (i := 0) (c := "Course") (ns := ns_Course) (j := 7) T.k_Course nd_Course rfl (by decide) e_non)))))))))
/-! Course.key -/
abbrev s_Course_key : Stmt := inClass (topS 22) 1
theorem sc_Course_key : FnScope ["self", "some", "whole", "groups", "singles", "first", "number", "size", "passes"] ["self"] (defScope s_Course_key) := ⟨rfl, rfl, rfl, by decide +kernel, rfl, by decide +kernel, by decide +kernel⟩
abbrev is_Course_key : List Nat := ([1] ++ ([2] ++ ([5] ++ [])))
noncomputable def b_Course_key : M Fl :=
  (sSeq (sSet 1 (eG (opV gSlH (fldV 0 "Course" ns_Course 2) [(opG gAdd [(opG gIx [(fG 0 "Course" ns_Course 0), (cG (.int 1))]), (cG (.int 1))])])))
    (sSeq (sSet 2 (opN gSum [(eComp (iterSeq (eG (fG 0 "Course" ns_Course 1))) (([("groups", 3), ("singles", 4)] : List (Str × Nat)).map (·.2)) (mTup (mCons (mName 3) (mCons (mName 4) mNil)) 2) tYesD (opN gLen [(eVar 3)]))]))
    (sSeq (sSet 5 (eIf (tst (opN gNe [(eVar 1), (dLst [])])) (opN gIx [(opN gIx [(eVar 1), (eD (.int 0))]), (eD (.int 0))]) (eG (fG 0 "Course" ns_Course 3))))
    (sRet (dTup [(opN gTuple [(eComp (iterSeq (eVar 1)) (([("number", 6), ("size", 7), ("passes", 8)] : List (Str × Nat)).map (·.2)) (mTup (mCons (mName 6) (mCons (mName 7) (mCons (mName 8) mNil))) 3) tYesD (dTup [(opN gSub [(eVar 6), (eVar 5)]), (eVar 7), (eVar 8)]))]), (opN gMod [(eVar 5), (opN gMax [(eD (.int 1)), (eVar 2)])])])))))
noncomputable def g_Course_key : List W → RF := mkFn is_Course_key 1 9 b_Course_key
theorem ok_Course_key {f : Addr} {fd : FuncData} (T : Facts K mg) (F : Fun K "key" "Course.key" s_Course_key f fd) : FnS P w K mg base 1 f fd ["self"] g_Course_key := by
  refine fn_ok (is := is_Course_key) F sc_Course_key (fun cdv A outer s H E hr => ?_)
  have nd := sc_Course_key.nd
  have tk : Takes (cxOf (L2.CX P w) P w K mg base ["self", "some", "whole", "groups", "singles", "first", "number", "size", "passes"] "Course.key" (defScope s_Course_key) f cdv A outer s H E) (fun c d _ H => E c d H) := takes_of rfl rfl rfl rfl
  show SsS _ _ _ ([1] ++ ([2] ++ ([5] ++ []))) _
  exact (ss_cons (s_set (i := 1) nd rfl (by first | exact Or.inl rfl | exact Or.inr rfl) (e_g (gv_slH (v_fld (i := 0) (c := "Course") (ns := ns_Course) (j := 2) T.k_Course nd_Course rfl) (g_bin op_addA cd_add (g_ix ix_seq cd_ix (g_fld (i := 0) (c := "Course") (ns := ns_Course) (j := 0) T.k_Course nd_Course rfl) g_int (fun _ _ => rfl)) g_int))))
    (ss_cons (s_set (i := 2) nd rfl (by first | exact Or.inl rfl | exact Or.inr rfl) (e_callB (cr_sumA rfl) cd_sum (by rfl) T.b_sum (by decide +kernel) (ea_cons (e_comp rfl nd (i_seq (e_g (g_fld (i := 0) (c := "Course") (ns := ns_Course) (j := 1) T.k_Course nd_Course rfl))) (blkOk_by (own := [("groups", 3), ("singles", 4)]) (by with_unfolding_all rfl)) (fun _ _ _ _ _ => (g_tup rfl (gs_cons (g_name (i := 3) nd rfl (by first | exact Or.inl rfl | exact Or.inr rfl)) (gs_cons (g_name (i := 4) nd rfl (by first | exact Or.inl rfl | exact Or.inr rfl)) gs_nil)))) (fun _ _ _ _ _ => (e_callB call_lenA cd_len (by rfl) T.b_len (by decide +kernel) (ea_cons (e_var 3) ea_nil))) (by decide)) ea_nil)))
    (ss_cons (s_set (i := 5) nd rfl (by first | exact Or.inl rfl | exact Or.inr rfl) (e_if (t_cmp (op_neD hr.units) cd_ne (e_var 1) (e_lst ea_nil) (nomark _)) (e_ix ix_seq cd_ix (e_ix ix_seq cd_ix (e_var 1) e_int (fun _ _ => rfl)) e_int (fun _ _ => rfl)) (e_g (g_fld (i := 0) (c := "Course") (ns := ns_Course) (j := 3) T.k_Course nd_Course rfl))))
    (ss_one (s_ret (e_tup (ea_cons (e_callTy call_tuple_of cd_tuple (by rfl) T.b_tuple (by decide +kernel) (ea_cons (e_comp rfl nd (i_seq (e_var 1)) (blkOk_by (own := [("number", 6), ("size", 7), ("passes", 8)]) (by with_unfolding_all rfl)) (fun _ _ _ _ _ => (g_tup rfl (gs_cons (g_name (i := 6) nd rfl (by first | exact Or.inl rfl | exact Or.inr rfl)) (gs_cons (g_name (i := 7) nd rfl (by first | exact Or.inl rfl | exact Or.inr rfl)) (gs_cons (g_name (i := 8) nd rfl (by first | exact Or.inl rfl | exact Or.inr rfl)) gs_nil))))) (fun _ _ _ _ _ => (e_tup (ea_cons (e_bin op_sub cd_sub (e_var 6) (e_var 5)) (ea_cons (e_var 7) (ea_cons (e_var 8) ea_nil))))) (by decide)) ea_nil)) (ea_cons (e_bin op_mod cd_mod (e_var 5) (e_callB (call_maxA rfl) cd_max (by rfl) T.b_max (by decide +kernel) (ea_cons e_int (ea_cons (e_var 2) ea_nil)))) ea_nil))))))))
/-! Course.is_full -/
abbrev s_Course_is_full : Stmt := inClass (topS 22) 4
theorem sc_Course_is_full : FnScope ["self", "begin", "many", "persons", "left", "lacked"] ["self", "begin"] (defScope s_Course_is_full) := ⟨rfl, rfl, rfl, by decide +kernel, rfl, by decide +kernel, by decide +kernel⟩
abbrev is_Course_is_full : List Nat := []
noncomputable def b_Course_is_full : M Fl :=
  (sRet (opN gNot [(opN gAny [(eComp (iterSeq (eG (opV gSlL (fldV 0 "Course" ns_Course 5) [(vG 1)]))) (([("many", 2), ("persons", 3), ("left", 4), ("lacked", 5)] : List (Str × Nat)).map (·.2)) (mTup (mCons (mName 2) (mCons (mName 3) (mCons (mName 4) (mCons (mName 5) mNil)))) 4) tYesD (eVar 5))])]))
noncomputable def g_Course_is_full : List W → RF := mkFn is_Course_is_full 2 6 b_Course_is_full
theorem ok_Course_is_full {f : Addr} {fd : FuncData} (T : Facts K mg) (F : Fun K "is_full" "Course.is_full" s_Course_is_full f fd) : FnS P w K mg base 1 f fd ["self", "begin"] g_Course_is_full := by
  refine fn_ok (is := is_Course_is_full) F sc_Course_is_full (fun cdv A outer s H E hr => ?_)
  have nd := sc_Course_is_full.nd
  have tk : Takes (cxOf (L2.CX P w) P w K mg base ["self", "begin", "many", "persons", "left", "lacked"] "Course.is_full" (defScope s_Course_is_full) f cdv A outer s H E) (fun c d _ H => E c d H) := takes_of rfl rfl rfl rfl
  show SsS _ _ _ [] _
  exact (ss_one (s_ret (e_not (e_callB (cr_any rfl) cd_any (by rfl) T.b_any (by decide +kernel) (ea_cons (e_comp rfl nd (i_seq (e_g (gv_slL (v_fld (i := 0) (c := "Course") (ns := ns_Course) (j := 5) T.k_Course nd_Course rfl) (g_var 1)))) (blkOk_by (own := [("many", 2), ("persons", 3), ("left", 4), ("lacked", 5)]) (by with_unfolding_all rfl)) (fun _ _ _ _ _ => (g_tup rfl (gs_cons (g_name (i := 2) nd rfl (by first | exact Or.inl rfl | exact Or.inr rfl)) (gs_cons (g_name (i := 3) nd rfl (by first | exact Or.inl rfl | exact Or.inr rfl)) (gs_cons (g_name (i := 4) nd rfl (by first | exact Or.inl rfl | exact Or.inr rfl)) (gs_cons (g_name (i := 5) nd rfl (by first | exact Or.inl rfl | exact Or.inr rfl)) gs_nil)))))) (fun _ _ _ _ _ => (e_var 5)) (by decide)) ea_nil)))))
/-! Course.length -/
abbrev s_Course_length : Stmt := inClass (topS 22) 5
theorem sc_Course_length : FnScope ["self"] ["self"] (defScope s_Course_length) := ⟨rfl, rfl, rfl, by decide +kernel, rfl, by decide +kernel, by decide +kernel⟩
abbrev is_Course_length : List Nat := []
noncomputable def b_Course_length : M Fl :=
  (sRet (opN gSub [(eG (opV gLen (fldV 0 "Course" ns_Course 5) [])), (eG (fG 0 "Course" ns_Course 7))]))
noncomputable def g_Course_length : List W → RF := mkFn is_Course_length 1 1 b_Course_length
theorem ok_Course_length {f : Addr} {fd : FuncData} (T : Facts K mg) (F : Fun K "length" "Course.length" s_Course_length f fd) : FnS P w K mg base 1 f fd ["self"] g_Course_length := by
  refine fn_ok (is := is_Course_length) F sc_Course_length (fun cdv A outer s H E hr => ?_)
  have nd := sc_Course_length.nd
  have tk : Takes (cxOf (L2.CX P w) P w K mg base ["self"] "Course.length" (defScope s_Course_length) f cdv A outer s H E) (fun c d _ H => E c d H) := takes_of rfl rfl rfl rfl
  show SsS _ _ _ [] _
  exact (ss_one (s_ret (e_bin op_sub cd_sub (e_g (gv_callB call_lenA cd_len (by rfl) T.b_len (by decide +kernel) (v_fld (i := 0) (c := "Course") (ns := ns_Course) (j := 5) T.k_Course nd_Course rfl))) (e_g (g_fld (i := 0) (c := "Course") (ns := ns_Course) (j := 7) T.k_Course nd_Course rfl)))))
/-! Course.behind -/
abbrev s_Course_behind : Stmt := inClass (topS 22) 6
theorem sc_Course_behind : FnScope ["self", "beat"] ["self", "beat"] (defScope s_Course_behind) := ⟨rfl, rfl, rfl, by decide +kernel, rfl, by decide +kernel, by decide +kernel⟩
abbrev is_Course_behind : List Nat := []
noncomputable def b_Course_behind : M Fl :=
  (sRet (eIf (tst (opN gGe [(eVar 1), (eD (.int 0))])) (opN gSlH [(eG (opV gIx (fldV 0 "Course" ns_Course 5) [(vG 1)])), (eD (.int 2))]) (dTup [(eD (.int 0)), (eD (.int 0))])))
noncomputable def g_Course_behind : List W → RF := mkFn is_Course_behind 2 2 b_Course_behind
theorem ok_Course_behind {f : Addr} {fd : FuncData} (T : Facts K mg) (F : Fun K "behind" "Course.behind" s_Course_behind f fd) : FnS P w K mg base 1 f fd ["self", "beat"] g_Course_behind := by
  refine fn_ok (is := is_Course_behind) F sc_Course_behind (fun cdv A outer s H E hr => ?_)
  have nd := sc_Course_behind.nd
  have tk : Takes (cxOf (L2.CX P w) P w K mg base ["self", "beat"] "Course.behind" (defScope s_Course_behind) f cdv A outer s H E) (fun c d _ H => E c d H) := takes_of rfl rfl rfl rfl
  show SsS _ _ _ [] _
  exact (ss_one (s_ret (e_if (t_cmp op_ge cd_cmp (e_var 1) e_int (nomark _)) (e_slH (e_g (gv_ix ix_seq cd_ix (v_fld (i := 0) (c := "Course") (ns := ns_Course) (j := 5) T.k_Course nd_Course rfl) (g_var 1) (fun _ _ => rfl))) e_int) (e_tup (ea_cons e_int (ea_cons e_int ea_nil))))))
/-! Course.singles_from -/
abbrev s_Course_singles_from : Stmt := inClass (topS 22) 8
theorem sc_Course_singles_from : FnScope ["self", "many", "begin", "end", "beat"] ["self", "many", "begin", "end"] (defScope s_Course_singles_from) := ⟨rfl, rfl, rfl, by decide +kernel, rfl, by decide +kernel, by decide +kernel⟩
noncomputable def lb_Course_singles_from_0 : M Fl :=
  (sSet 1 (opN gMax [(eD (.int 0)), (opN gSub [(opN gAdd [(eVar 1), (opN gIx [(opN gIx [(eG (fG 0 "Course" ns_Course 1)), (opN gMod [(eVar 4), (opN gLen [(eG (fG 0 "Course" ns_Course 1))])])]), (eD (.int 1))])]), (opN gIx [(eG (opV gIx (fldV 0 "Course" ns_Course 5) [(vG 4)])), (eD (.int 2))])])]))
noncomputable def m_Course_singles_from_0 : MT :=
  (mName 4)
abbrev is_Course_singles_from : List Nat := (([4] ++ [1]) ++ [])
noncomputable def b_Course_singles_from : M Fl :=
  (sSeq (sFor (iterR2 (eVar 2) (eVar 3)) m_Course_singles_from_0 lb_Course_singles_from_0)
    (sRet (eVar 1)))
noncomputable def g_Course_singles_from : List W → RF := mkFn is_Course_singles_from 4 5 b_Course_singles_from
theorem ok_Course_singles_from {f : Addr} {fd : FuncData} (T : Facts K mg) (F : Fun K "singles_from" "Course.singles_from" s_Course_singles_from f fd) : FnS P w K mg base 1 f fd ["self", "many", "begin", "end"] g_Course_singles_from := by
  refine fn_ok (is := is_Course_singles_from) F sc_Course_singles_from (fun cdv A outer s H E hr => ?_)
  have nd := sc_Course_singles_from.nd
  have tk : Takes (cxOf (L2.CX P w) P w K mg base ["self", "many", "begin", "end", "beat"] "Course.singles_from" (defScope s_Course_singles_from) f cdv A outer s H E) (fun c d _ H => E c d H) := takes_of rfl rfl rfl rfl
  show SsS _ _ _ (([4] ++ [1]) ++ []) _
  exact (ss_cons (s_for (passes_of rfl) rfl (i_range2 (by rfl) T.b_range (e_var 2) (e_var 3)) (g_name (i := 4) nd rfl (by first | exact Or.inl rfl | exact Or.inr rfl)) (ss_one (s_set (i := 1) nd rfl (by first | exact Or.inl rfl | exact Or.inr rfl) (e_callB (call_maxA rfl) cd_max (by rfl) T.b_max (by decide +kernel) (ea_cons e_int (ea_cons (e_bin op_sub cd_sub (e_bin op_addA cd_add (e_var 1) (e_ix ix_seq cd_ix (e_ix ix_seq cd_ix (e_g (g_fld (i := 0) (c := "Course") (ns := ns_Course) (j := 1) T.k_Course nd_Course rfl)) (e_bin op_mod cd_mod (e_var 4) (e_callB call_lenA cd_len (by rfl) T.b_len (by decide +kernel) (ea_cons (e_g (g_fld (i := 0) (c := "Course") (ns := ns_Course) (j := 1) T.k_Course nd_Course rfl)) ea_nil))) (fun _ _ => rfl)) e_int (fun _ _ => rfl))) (e_ix ix_seq cd_ix (e_g (gv_ix ix_seq cd_ix (v_fld (i := 0) (c := "Course") (ns := ns_Course) (j := 5) T.k_Course nd_Course rfl) (g_var 4) (fun _ _ => rfl))) e_int (fun _ _ => rfl))) ea_nil))))))
    (ss_one (s_ret (e_var 1))))
/-! Course.drift -/
abbrev s_Course_drift : Stmt := inClass (topS 22) 9
theorem sc_Course_drift : FnScope ["self", "some", "beat"] ["self"] (defScope s_Course_drift) := ⟨rfl, rfl, rfl, by decide +kernel, rfl, by decide +kernel, by decide +kernel⟩
abbrev is_Course_drift : List Nat := ([1] ++ [])
noncomputable def b_Course_drift : M Fl :=
  (sSeq (sSet 1 (opN (gRg mkL) [(eG (fG 0 "Course" ns_Course 7)), (eG (opV gLen (fldV 0 "Course" ns_Course 5) []))]))
    (sRet (opN gSum [(eComp (iterSeq (eVar 1)) (([("beat", 2)] : List (Str × Nat)).map (·.2)) (mName 2) tYesD (opN gSub [(opN gIx [(opN gIx [(eG (fG 0 "Course" ns_Course 1)), (opN gMod [(eVar 2), (opN gLen [(eG (fG 0 "Course" ns_Course 1))])])]), (eD (.int 1))]), (opN gIx [(eG (opV gIx (fldV 0 "Course" ns_Course 5) [(vG 2)])), (eD (.int 2))])]))])))
noncomputable def g_Course_drift : List W → RF := mkFn is_Course_drift 1 3 b_Course_drift
theorem ok_Course_drift {f : Addr} {fd : FuncData} (T : Facts K mg) (F : Fun K "drift" "Course.drift" s_Course_drift f fd) : FnS P w K mg base 1 f fd ["self"] g_Course_drift := by
  refine fn_ok (is := is_Course_drift) F sc_Course_drift (fun cdv A outer s H E hr => ?_)
  have nd := sc_Course_drift.nd
  have tk : Takes (cxOf (L2.CX P w) P w K mg base ["self", "some", "beat"] "Course.drift" (defScope s_Course_drift) f cdv A outer s H E) (fun c d _ H => E c d H) := takes_of rfl rfl rfl rfl
  show SsS _ _ _ ([1] ++ []) _
  exact (ss_cons (s_set (i := 1) nd rfl (by first | exact Or.inl rfl | exact Or.inr rfl) (e_lstRg2 rfl (by rfl) T.b_list (by rfl) T.b_range (e_g (g_fld (i := 0) (c := "Course") (ns := ns_Course) (j := 7) T.k_Course nd_Course rfl)) (e_g (gv_callB call_lenA cd_len (by rfl) T.b_len (by decide +kernel) (v_fld (i := 0) (c := "Course") (ns := ns_Course) (j := 5) T.k_Course nd_Course rfl)))))
    (ss_one (s_ret (e_callB (cr_sumA rfl) cd_sum (by rfl) T.b_sum (by decide +kernel) (ea_cons (e_comp rfl nd (i_seq (e_var 1)) (blkOk_by (own := [("beat", 2)]) (by with_unfolding_all rfl)) (fun _ _ _ _ _ => (g_name (i := 2) nd rfl (by first | exact Or.inl rfl | exact Or.inr rfl))) (fun _ _ _ _ _ => (e_bin op_sub cd_sub (e_ix ix_seq cd_ix (e_ix ix_seq cd_ix (e_g (g_fld (i := 0) (c := "Course") (ns := ns_Course) (j := 1) T.k_Course nd_Course rfl)) (e_bin op_mod cd_mod (e_var 2) (e_callB call_lenA cd_len (by rfl) T.b_len (by decide +kernel) (ea_cons (e_g (g_fld (i := 0) (c := "Course") (ns := ns_Course) (j := 1) T.k_Course nd_Course rfl)) ea_nil))) (fun _ _ => rfl)) e_int (fun _ _ => rfl)) (e_ix ix_seq cd_ix (e_g (gv_ix ix_seq cd_ix (v_fld (i := 0) (c := "Course") (ns := ns_Course) (j := 5) T.k_Course nd_Course rfl) (g_var 2) (fun _ _ => rfl))) e_int (fun _ _ => rfl)))) (by decide)) ea_nil)))))
/-! _law_town -/
abbrev s_law_town : Stmt := topS 30
theorem sc_law_town : FnScope ["script"] ["script"] (defScope s_law_town) := ⟨rfl, rfl, rfl, by decide +kernel, rfl, by decide +kernel, by decide +kernel⟩
abbrev is_law_town : List Nat := []
noncomputable def b_law_town : M Fl :=
  (sRet (opN gAdd [(dLst [(eD (.int 0))]), (opN gList [(eVar 0)])]))
noncomputable def g_law_town : List W → RF := mkFn is_law_town 1 1 b_law_town
theorem ok_law_town {f : Addr} {fd : FuncData} (T : Facts K mg) (F : Fun K "_law_town" "_law_town" s_law_town f fd) : FnS P w K mg base 1 f fd ["script"] g_law_town := by
  refine fn_ok (is := is_law_town) F sc_law_town (fun cdv A outer s H E hr => ?_)
  have nd := sc_law_town.nd
  have tk : Takes (cxOf (L2.CX P w) P w K mg base ["script"] "_law_town" (defScope s_law_town) f cdv A outer s H E) (fun c d _ H => E c d H) := takes_of rfl rfl rfl rfl
  show SsS _ _ _ [] _
  exact (ss_one (s_ret (e_bin op_addA cd_add (e_lst (ea_cons e_int ea_nil)) (e_callTy call_list_of cd_list (by rfl) T.b_list (by decide +kernel) (ea_cons (e_var 0) ea_nil)))))
/-! _law_draw -/
abbrev s_law_draw : Stmt := topS 31
theorem sc_law_draw : FnScope ["script", "town", "many", "at", "left", "number"] ["script", "town", "many"] (defScope s_law_draw) := ⟨rfl, rfl, rfl, by decide +kernel, rfl, by decide +kernel, by decide +kernel⟩
abbrev is_law_draw : List Nat := ([] ++ (([] ++ []) ++ ([3] ++ ([4] ++ ((([] ++ []) ++ []) ++ ([5] ++ ([5] ++ [])))))))
noncomputable def b_law_draw : M Fl :=
  (sSeq (sStore 1 (eD (.int 0)) (opN gAdd [(opN gIx [(eVar 1), (eD (.int 0))]), (eD (.int 1))]))
    (sSeq (sIf (tst (opN gEq [(eVar 0), (dLst [])])) (sRet (opN gMod [(opN gDiv [(opN gMul [(opN gMul [(opN gIx [(eVar 1), (eD (.int 0))]), (opN gIx [(eVar 1), (eD (.int 0))])]), (eD (.int 7))]), (eD (.int 3))]), (eVar 2)])) sNext)
    (sSeq (sSet 3 (opN gMod [(opN gIx [(eVar 1), (eD (.int 0))]), (opN gLen [(eVar 0)])]))
    (sSeq (sSet 4 (opN gIx [(eVar 1), (opN gAdd [(eD (.int 1)), (eVar 3)])]))
    (sSeq (sIf (tAndD (tst (opN gGe [(opN gIx [(eVar 0), (eVar 3)]), (opN gPow [(eD (.int 10)), (eD (.int 18))])])) (tst (opN gGt [(eVar 4), (eD (.int 0))]))) (sSeq (sStore 1 (opN gAdd [(eD (.int 1)), (eVar 3)]) (opN gDiv [(eVar 4), (eVar 2)]))
    (sRet (opN gMod [(eVar 4), (eVar 2)]))) sNext)
    (sSeq (sSet 5 (opN gMod [(opN gAdd [(opN gIx [(eVar 0), (eVar 3)]), (opN gMul [(eD (.int 104729)), (opN gIx [(eVar 1), (eD (.int 0))])])]), (eD (.int 4294967291))]))
    (sSeq (sSet 5 (opN gMod [(opN gPow [(eVar 5), (eD (.int 5))]), (eD (.int 4294967279))]))
    (sRet (opN gMod [(opN gDiv [(opN gMod [(opN gAdd [(opN gMul [(opN gDiv [(eVar 5), (eD (.int 64))]), (eD (.int 69621))]), (eVar 5)]), (eD (.int 4294967231))]), (eD (.int 8))]), (eVar 2)])))))))))
noncomputable def g_law_draw : List W → RF := mkFn is_law_draw 3 6 b_law_draw
theorem ok_law_draw {f : Addr} {fd : FuncData} (T : Facts K mg) (F : Fun K "_law_draw" "_law_draw" s_law_draw f fd) : FnS P w K mg base 1 f fd ["script", "town", "many"] g_law_draw := by
  refine fn_ok (is := is_law_draw) F sc_law_draw (fun cdv A outer s H E hr => ?_)
  have nd := sc_law_draw.nd
  have tk : Takes (cxOf (L2.CX P w) P w K mg base ["script", "town", "many", "at", "left", "number"] "_law_draw" (defScope s_law_draw) f cdv A outer s H E) (fun c d _ H => E c d H) := takes_of rfl rfl rfl rfl
  show SsS _ _ _ ([] ++ (([] ++ []) ++ ([3] ++ ([4] ++ ((([] ++ []) ++ []) ++ ([5] ++ ([5] ++ []))))))) _
  exact (ss_cons (s_store (i := 1) (he := (e_bin op_addA cd_add (e_ix ix_seq cd_ix (e_var 1) e_int (fun _ _ => rfl)) e_int)) (hk := e_int))
    (ss_cons (s_if (t_cmp (op_eqD hr.units) cd_eq (e_var 0) (e_lst ea_nil) (nomark _)) (ss_one (s_ret (e_bin op_mod cd_mod (e_bin op_fdiv cd_div (e_bin op_mulA cd_mul (e_bin op_mulA cd_mul (e_ix ix_seq cd_ix (e_var 1) e_int (fun _ _ => rfl)) (e_ix ix_seq cd_ix (e_var 1) e_int (fun _ _ => rfl))) e_int) e_int) (e_var 2)))) ss_nil)
    (ss_cons (s_set (i := 3) nd rfl (by first | exact Or.inl rfl | exact Or.inr rfl) (e_bin op_mod cd_mod (e_ix ix_seq cd_ix (e_var 1) e_int (fun _ _ => rfl)) (e_callB call_lenA cd_len (by rfl) T.b_len (by decide +kernel) (ea_cons (e_var 0) ea_nil))))
    (ss_cons (s_set (i := 4) nd rfl (by first | exact Or.inl rfl | exact Or.inr rfl) (e_ix ix_seq cd_ix (e_var 1) (e_bin op_addA cd_add e_int (e_var 3)) (fun _ _ => rfl)))
    (ss_cons (s_if (t_w (w_and (t_cmp op_ge cd_cmp (e_ix ix_seq cd_ix (e_var 0) (e_var 3) (fun _ _ => rfl)) (e_bin op_pow cd_pow e_int e_int) (nomark _)) (w_and1 (t_cmp op_gt cd_cmp (e_var 4) e_int (nomark _))))) (ss_cons (s_store (i := 1) (he := (e_bin op_fdiv cd_div (e_var 4) (e_var 2))) (hk := (e_bin op_addA cd_add e_int (e_var 3))))
    (ss_one (s_ret (e_bin op_mod cd_mod (e_var 4) (e_var 2))))) ss_nil)
    (ss_cons (s_set (i := 5) nd rfl (by first | exact Or.inl rfl | exact Or.inr rfl) (e_bin op_mod cd_mod (e_bin op_addA cd_add (e_ix ix_seq cd_ix (e_var 0) (e_var 3) (fun _ _ => rfl)) (e_bin op_mulA cd_mul e_int (e_ix ix_seq cd_ix (e_var 1) e_int (fun _ _ => rfl)))) e_int))
    (ss_cons (s_set (i := 5) nd rfl (by first | exact Or.inl rfl | exact Or.inr rfl) (e_bin op_mod cd_mod (e_bin op_pow cd_pow (e_var 5) e_int) e_int))
    (ss_one (s_ret (e_bin op_mod cd_mod (e_bin op_fdiv cd_div (e_bin op_mod cd_mod (e_bin op_addA cd_add (e_bin op_mulA cd_mul (e_bin op_fdiv cd_div (e_var 5) e_int) e_int) (e_var 5)) e_int) e_int) (e_var 2)))))))))))
/-! is_loader -/
abbrev s_is_loader : Stmt := topS 8
theorem sc_is_loader : FnScope ["thing"] ["thing"] (defScope s_is_loader) := ⟨rfl, rfl, rfl, by decide +kernel, rfl, by decide +kernel, by decide +kernel⟩
abbrev is_is_loader : List Nat := (([] ++ []) ++ [])
noncomputable def b_is_loader : M Fl :=
  (sSeq (sIf (tOrD (tNotD (tst (opN gIsi [(eVar 0), (eD (.ty "tuple"))]))) (tst (opN gNe [(opN gLen [(eVar 0)]), (eD (.int 3))]))) (sRet (eD (.bl false))) sNext)
    (sRet (vAnd (callF g_is_whole [none, none, none] [(opN gIx [(eVar 0), (eD (.int 0))]), (eD (.int 1)), (eD (.int 6))]) (vAnd (callF g_is_whole [none, none, none] [(opN gIx [(eVar 0), (eD (.int 1))]), (eD (.int 0)), (eD (.int 3))]) (callF g_is_whole [none, none, none] [(opN gIx [(eVar 0), (eD (.int 2))]), (eD (.int 0)), (eD (.int 3))])))))
noncomputable def g_is_loader : List W → RF := mkFn is_is_loader 1 1 b_is_loader
theorem ok_is_loader {f : Addr} {fd : FuncData} (T : Facts K mg) (F : Fun K "is_loader" "is_loader" s_is_loader f fd) (C_is_whole : Cal P w K mg base 1 "is_whole" ["thing", "least", "most"] g_is_whole) : FnS P w K mg base 2 f fd ["thing"] g_is_loader := by
  refine fn_ok (is := is_is_loader) F sc_is_loader (fun cdv A outer s H E hr => ?_)
  have nd := sc_is_loader.nd
  have tk : Takes (cxOf (L2.CX P w) P w K mg base ["thing"] "is_loader" (defScope s_is_loader) f cdv A outer s H E) (fun c d _ H => E c d H) := takes_of rfl rfl rfl rfl
  show SsS _ _ _ (([] ++ []) ++ []) _
  exact (ss_cons (s_if (t_w (w_or (t_not (t_val (e_callB call_isi cd_isi (by rfl) T.b_isinstance (by decide +kernel) (ea_cons (e_var 0) (ea_cons (e_bltn (v := .ty "tuple") (by rfl) T.b_tuple (by decide +kernel) rfl (fun _ => .ty "tuple")) ea_nil))))) (w_or1 (t_cmp (op_neD hr.units) cd_ne (e_callB call_lenA cd_len (by rfl) T.b_len (by decide +kernel) (ea_cons (e_var 0) ea_nil)) e_int (nomark _))))) (ss_one (s_ret e_bl)) ss_nil)
    (ss_one (s_ret (e_and (e_callC (ms := [none, none, none]) C_is_whole tk hr (ea_cons (e_ix ix_seq cd_ix (e_var 0) e_int (fun _ _ => rfl)) (ea_cons e_int (ea_cons e_int ea_nil))) (by decide)) (e_and (e_callC (ms := [none, none, none]) C_is_whole tk hr (ea_cons (e_ix ix_seq cd_ix (e_var 0) e_int (fun _ _ => rfl)) (ea_cons e_int (ea_cons e_int ea_nil))) (by decide)) (e_one (e_callC (ms := [none, none, none]) C_is_whole tk hr (ea_cons (e_ix ix_seq cd_ix (e_var 0) e_int (fun _ _ => rfl)) (ea_cons e_int (ea_cons e_int ea_nil))) (by decide))))))))
/-! are_groups -/
abbrev s_are_groups : Stmt := topS 10
theorem sc_are_groups : FnScope ["loader", "thing", "most", "one"] ["loader", "thing", "most"] (defScope s_are_groups) := ⟨rfl, rfl, rfl, by decide +kernel, rfl, by decide +kernel, by decide +kernel⟩
abbrev is_are_groups : List Nat := []
noncomputable def b_are_groups : M Fl :=
  (sRet (vAnd (opN gIsi [(eVar 1), (eD (.ty "tuple"))]) (vAnd (opN gLe [(opN gLen [(eVar 1)]), (eVar 2)]) (opN gAll [(eComp (iterSeq (eVar 1)) (([("one", 3)] : List (Str × Nat)).map (·.2)) (mName 3) tYesD (callF g_is_whole [none, none, none] [(eVar 3), (eD (.int 1)), (opN gIx [(eVar 0), (eD (.int 0))])]))]))))
noncomputable def g_are_groups : List W → RF := mkFn is_are_groups 3 4 b_are_groups
theorem ok_are_groups {f : Addr} {fd : FuncData} (T : Facts K mg) (F : Fun K "are_groups" "are_groups" s_are_groups f fd) (C_is_whole : Cal P w K mg base 1 "is_whole" ["thing", "least", "most"] g_is_whole) : FnS P w K mg base 2 f fd ["loader", "thing", "most"] g_are_groups := by
  refine fn_ok (is := is_are_groups) F sc_are_groups (fun cdv A outer s H E hr => ?_)
  have nd := sc_are_groups.nd
  have tk : Takes (cxOf (L2.CX P w) P w K mg base ["loader", "thing", "most", "one"] "are_groups" (defScope s_are_groups) f cdv A outer s H E) (fun c d _ H => E c d H) := takes_of rfl rfl rfl rfl
  show SsS _ _ _ [] _
  exact (ss_one (s_ret (e_and (e_callB call_isi cd_isi (by rfl) T.b_isinstance (by decide +kernel) (ea_cons (e_var 1) (ea_cons (e_bltn (v := .ty "tuple") (by rfl) T.b_tuple (by decide +kernel) rfl (fun _ => .ty "tuple")) ea_nil))) (e_and (e_cmp op_le cd_cmp (e_callB call_lenA cd_len (by rfl) T.b_len (by decide +kernel) (ea_cons (e_var 1) ea_nil)) (e_var 2) (nomark _)) (e_one (e_callB (cr_all rfl) cd_all (by rfl) T.b_all (by decide +kernel) (ea_cons (e_comp rfl nd (i_seq (e_var 1)) (blkOk_by (own := [("one", 3)]) (by with_unfolding_all rfl)) (fun _ _ _ _ _ => (g_name (i := 3) nd rfl (by first | exact Or.inl rfl | exact Or.inr rfl))) (fun _ _ _ _ _ => (e_callC (ms := [none, none, none]) C_is_whole takes0 hr (ea_cons (e_var 3) (ea_cons e_int (ea_cons (e_ix ix_seq cd_ix (e_var 0) e_int (fun _ _ => rfl)) ea_nil))) (by decide))) (by decide)) ea_nil)))))))
/-! loaded -/
abbrev s_loaded : Stmt := topS 12
theorem sc_loaded : FnScope ["loader", "rows", "room", "sit", "at", "number", "size", "passes"] ["loader", "rows"] (defScope s_loaded) := ⟨rfl, rfl, rfl, by decide +kernel, rfl, by decide +kernel, by decide +kernel⟩
noncomputable def lb_loaded_0 : M Fl :=
  (sSeq (sSet 4 (callF g_next_of [none, none, none] [(eVar 0), (eVar 1), (eVar 2)]))
    (sSeq (sIf (tst (opN gIs [(eVar 4), (eD .non)])) (sRet (dTup [(eVar 3), (eVar 1)])) sNext)
    (sSeq (sExpr (eApp 3 (opN gIx [(eVar 1), (eVar 4)])))
    (sSeq (sSet 2 (opN gSub [(eVar 2), (opN gIx [(opN gIx [(eVar 1), (eVar 4)]), (eD (.int 1))])]))
    (sSet 1 (opN gAdd [(eComp (iterSeq (opN gSlH [(eVar 1), (eVar 4)])) (([("number", 5), ("size", 6), ("passes", 7)] : List (Str × Nat)).map (·.2)) (mTup (mCons (mName 5) (mCons (mName 6) (mCons (mName 7) mNil))) 3) tYesD (dTup [(eVar 5), (eVar 6), (opN gAdd [(eVar 7), (eD (.int 1))])])), (opN gSlL [(eVar 1), (opN gAdd [(eVar 4), (eD (.int 1))])])]))))))
abbrev is_loaded : List Nat := ([2] ++ ([3] ++ ([4] ++ (([] ++ []) ++ ([] ++ ([2] ++ [1]))))))
noncomputable def b_loaded : M Fl :=
  (sSeq (sSet 2 (opN gIx [(eVar 0), (eD (.int 0))]))
    (sSeq (sSet 3 (dLst []))
    (sWhile (tst (eD (.bl true))) lb_loaded_0)))
noncomputable def g_loaded : List W → RF := mkFn is_loaded 2 8 b_loaded
theorem ok_loaded {f : Addr} {fd : FuncData} (T : Facts K mg) (F : Fun K "loaded" "loaded" s_loaded f fd) (C_next_of : Cal P w K mg base 1 "next_of" ["loader", "rows", "room"] g_next_of) : FnS P w K mg base 2 f fd ["loader", "rows"] g_loaded := by
  refine fn_ok (is := is_loaded) F sc_loaded (fun cdv A outer s H E hr => ?_)
  have nd := sc_loaded.nd
  have tk : Takes (cxOf (L2.CX P w) P w K mg base ["loader", "rows", "room", "sit", "at", "number", "size", "passes"] "loaded" (defScope s_loaded) f cdv A outer s H E) (fun c d _ H => E c d H) := takes_of rfl rfl rfl rfl
  show SsS _ _ _ ([2] ++ ([3] ++ ([4] ++ (([] ++ []) ++ ([] ++ ([2] ++ [1])))))) _
  exact (ss_cons (s_set (i := 2) nd rfl (by first | exact Or.inl rfl | exact Or.inr rfl) (e_ix ix_seq cd_ix (e_var 0) e_int (fun _ _ => rfl)))
    (ss_cons (s_set (i := 3) nd rfl (by first | exact Or.inl rfl | exact Or.inr rfl) (e_lst ea_nil))
    (ss_one (s_while (passes_of rfl) (t_val e_bl) (ss_cons (s_set (i := 4) nd rfl (by first | exact Or.inl rfl | exact Or.inr rfl) (e_callC (ms := [none, none, none]) C_next_of tk hr (ea_cons (e_var 0) (ea_cons (e_var 1) (ea_cons (e_var 2) ea_nil))) (by decide)))
    (ss_cons (s_if (t_cmp op_isA cd_is (e_var 4) e_non (nomark _)) (ss_one (s_ret (e_tup (ea_cons (e_var 3) (ea_cons (e_var 1) ea_nil))))) ss_nil)
    (ss_cons (s_expr (e_app (i := 3) (he := (e_ix ix_seq cd_ix (e_var 1) (e_var 4) (fun _ _ => rfl)))))
    (ss_cons (s_set (i := 2) nd rfl (by first | exact Or.inl rfl | exact Or.inr rfl) (e_bin op_sub cd_sub (e_var 2) (e_ix ix_seq cd_ix (e_ix ix_seq cd_ix (e_var 1) (e_var 4) (fun _ _ => rfl)) e_int (fun _ _ => rfl))))
    (ss_one (s_set (i := 1) nd rfl (by first | exact Or.inl rfl | exact Or.inr rfl) (e_bin op_addA cd_add (e_comp rfl nd (i_seq (e_slH (e_var 1) (e_var 4))) (blkOk_by (own := [("number", 5), ("size", 6), ("passes", 7)]) (by with_unfolding_all rfl)) (fun _ _ _ _ _ => (g_tup rfl (gs_cons (g_name (i := 5) nd rfl (by first | exact Or.inl rfl | exact Or.inr rfl)) (gs_cons (g_name (i := 6) nd rfl (by first | exact Or.inl rfl | exact Or.inr rfl)) (gs_cons (g_name (i := 7) nd rfl (by first | exact Or.inl rfl | exact Or.inr rfl)) gs_nil))))) (fun _ _ _ _ _ => (e_tup (ea_cons (e_var 5) (ea_cons (e_var 6) (ea_cons (e_bin op_addA cd_add (e_var 7) e_int) ea_nil))))) (by decide)) (e_slL (e_var 1) (e_bin op_addA cd_add (e_var 4) e_int)))))))))))))
/-! wants -/
abbrev s_wants : Stmt := topS 21
theorem sc_wants : FnScope ["loader", "rows", "room", "at", "number", "size", "passes"] ["loader", "rows"] (defScope s_wants) := ⟨rfl, rfl, rfl, by decide +kernel, rfl, by decide +kernel, by decide +kernel⟩
noncomputable def lb_wants_0 : M Fl :=
  (sSeq (sIf (tst (opN gLe [(opN gLen [(eVar 1)]), (opN gIx [(eVar 0), (eD (.int 1))])])) (sRet (eD (.bl true))) sNext)
    (sSeq (sSet 3 (callF g_next_of [none, none, none] [(eVar 0), (eVar 1), (eVar 2)]))
    (sSeq (sIf (tst (opN gIs [(eVar 3), (eD .non)])) (sRet (eD (.bl false))) sNext)
    (sSeq (sSet 2 (opN gSub [(eVar 2), (opN gIx [(opN gIx [(eVar 1), (eVar 3)]), (eD (.int 1))])]))
    (sSet 1 (opN gAdd [(eComp (iterSeq (opN gSlH [(eVar 1), (eVar 3)])) (([("number", 4), ("size", 5), ("passes", 6)] : List (Str × Nat)).map (·.2)) (mTup (mCons (mName 4) (mCons (mName 5) (mCons (mName 6) mNil))) 3) tYesD (dTup [(eVar 4), (eVar 5), (opN gAdd [(eVar 6), (eD (.int 1))])])), (opN gSlL [(eVar 1), (opN gAdd [(eVar 3), (eD (.int 1))])])]))))))
abbrev is_wants : List Nat := ([2] ++ (([] ++ []) ++ ([3] ++ (([] ++ []) ++ ([2] ++ [1])))))
noncomputable def b_wants : M Fl :=
  (sSeq (sSet 2 (opN gIx [(eVar 0), (eD (.int 0))]))
    (sWhile (tst (eD (.bl true))) lb_wants_0))
noncomputable def g_wants : List W → RF := mkFn is_wants 2 7 b_wants
theorem ok_wants {f : Addr} {fd : FuncData} (T : Facts K mg) (F : Fun K "wants" "wants" s_wants f fd) (C_next_of : Cal P w K mg base 1 "next_of" ["loader", "rows", "room"] g_next_of) : FnS P w K mg base 2 f fd ["loader", "rows"] g_wants := by
  refine fn_ok (is := is_wants) F sc_wants (fun cdv A outer s H E hr => ?_)
  have nd := sc_wants.nd
  have tk : Takes (cxOf (L2.CX P w) P w K mg base ["loader", "rows", "room", "at", "number", "size", "passes"] "wants" (defScope s_wants) f cdv A outer s H E) (fun c d _ H => E c d H) := takes_of rfl rfl rfl rfl
  show SsS _ _ _ ([2] ++ (([] ++ []) ++ ([3] ++ (([] ++ []) ++ ([2] ++ [1]))))) _
  exact (ss_cons (s_set (i := 2) nd rfl (by first | exact Or.inl rfl | exact Or.inr rfl) (e_ix ix_seq cd_ix (e_var 0) e_int (fun _ _ => rfl)))
    (ss_one (s_while (passes_of rfl) (t_val e_bl) (ss_cons (s_if (t_cmp op_le cd_cmp (e_callB call_lenA cd_len (by rfl) T.b_len (by decide +kernel) (ea_cons (e_var 1) ea_nil)) (e_ix ix_seq cd_ix (e_var 0) e_int (fun _ _ => rfl)) (nomark _)) (ss_one (s_ret e_bl)) ss_nil)
    (ss_cons (s_set (i := 3) nd rfl (by first | exact Or.inl rfl | exact Or.inr rfl) (e_callC (ms := [none, none, none]) C_next_of tk hr (ea_cons (e_var 0) (ea_cons (e_var 1) (ea_cons (e_var 2) ea_nil))) (by decide)))
    (ss_cons (s_if (t_cmp op_isA cd_is (e_var 3) e_non (nomark _)) (ss_one (s_ret e_bl)) ss_nil)
    (ss_cons (s_set (i := 2) nd rfl (by first | exact Or.inl rfl | exact Or.inr rfl) (e_bin op_sub cd_sub (e_var 2) (e_ix ix_seq cd_ix (e_ix ix_seq cd_ix (e_var 1) (e_var 3) (fun _ _ => rfl)) e_int (fun _ _ => rfl))))
    (ss_one (s_set (i := 1) nd rfl (by first | exact Or.inl rfl | exact Or.inr rfl) (e_bin op_addA cd_add (e_comp rfl nd (i_seq (e_slH (e_var 1) (e_var 3))) (blkOk_by (own := [("number", 4), ("size", 5), ("passes", 6)]) (by with_unfolding_all rfl)) (fun _ _ _ _ _ => (g_tup rfl (gs_cons (g_name (i := 4) nd rfl (by first | exact Or.inl rfl | exact Or.inr rfl)) (gs_cons (g_name (i := 5) nd rfl (by first | exact Or.inl rfl | exact Or.inr rfl)) (gs_cons (g_name (i := 6) nd rfl (by first | exact Or.inl rfl | exact Or.inr rfl)) gs_nil))))) (fun _ _ _ _ _ => (e_tup (ea_cons (e_var 4) (ea_cons (e_var 5) (ea_cons (e_bin op_addA cd_add (e_var 6) e_int) ea_nil))))) (by decide)) (e_slL (e_var 1) (e_bin op_addA cd_add (e_var 3) e_int))))))))))))
/-! Course.more -/
abbrev s_Course_more : Stmt := inClass (topS 22) 7
theorem sc_Course_more : FnScope ["self", "one", "other"] ["self"] (defScope s_Course_more) := ⟨rfl, rfl, rfl, by decide +kernel, rfl, by decide +kernel, by decide +kernel⟩
abbrev is_Course_more : List Nat := ([1, 2] ++ [])
noncomputable def b_Course_more : M Fl :=
  (sSeq (sPar 1 2 [(callM "Course" ns_Course g_Course_behind 0 [none] [(opN gSub [(eG (fG 0 "Course" ns_Course 7)), (eD (.int 1))])]), (callM "Course" ns_Course g_Course_behind 0 [none] [(opN gSub [(eG (opV gLen (fldV 0 "Course" ns_Course 5) [])), (eD (.int 1))])])])
    (sRet (dTup [(opN gSub [(opN gIx [(eVar 2), (eD (.int 0))]), (opN gIx [(eVar 1), (eD (.int 0))])]), (opN gSub [(opN gIx [(eVar 2), (eD (.int 1))]), (opN gIx [(eVar 1), (eD (.int 1))])])])))
noncomputable def g_Course_more : List W → RF := mkFn is_Course_more 1 3 b_Course_more
theorem ok_Course_more {f : Addr} {fd : FuncData} (T : Facts K mg) (F : Fun K "more" "Course.more" s_Course_more f fd) (C_Course_behind : CalM P w K mg base 1 "Course" "behind" ["self", "beat"] g_Course_behind) : FnS P w K mg base 2 f fd ["self"] g_Course_more := by
  refine fn_ok (is := is_Course_more) F sc_Course_more (fun cdv A outer s H E hr => ?_)
  have nd := sc_Course_more.nd
  have tk : Takes (cxOf (L2.CX P w) P w K mg base ["self", "one", "other"] "Course.more" (defScope s_Course_more) f cdv A outer s H E) (fun c d _ H => E c d H) := takes_of rfl rfl rfl rfl
  show SsS _ _ _ ([1, 2] ++ []) _
  exact (ss_cons (s_par rfl nd rfl rfl (by decide) rfl rfl (ea_cons (e_callM (i := 0) (ns := ns_Course) (ms := [none]) C_Course_behind tk hr (ea_cons (e_bin op_sub cd_sub (e_g (g_fld (i := 0) (c := "Course") (ns := ns_Course) (j := 7) T.k_Course nd_Course rfl)) e_int) ea_nil) (by decide) (by decide +kernel)) (ea_cons (e_callM (i := 0) (ns := ns_Course) (ms := [none]) C_Course_behind tk hr (ea_cons (e_bin op_sub cd_sub (e_g (gv_callB call_lenA cd_len (by rfl) T.b_len (by decide +kernel) (v_fld (i := 0) (c := "Course") (ns := ns_Course) (j := 5) T.k_Course nd_Course rfl))) e_int) ea_nil) (by decide) (by decide +kernel)) ea_nil)) (by rfl))
    (ss_one (s_ret (e_tup (ea_cons (e_bin op_sub cd_sub (e_ix ix_seq cd_ix (e_var 2) e_int (fun _ _ => rfl)) (e_ix ix_seq cd_ix (e_var 1) e_int (fun _ _ => rfl))) (ea_cons (e_bin op_sub cd_sub (e_ix ix_seq cd_ix (e_var 2) e_int (fun _ _ => rfl)) (e_ix ix_seq cd_ix (e_var 1) e_int (fun _ _ => rfl))) ea_nil))))))
/-! Course.singles_behind -/
abbrev s_Course_singles_behind : Stmt := inClass (topS 22) 10
theorem sc_Course_singles_behind : FnScope ["self", "rounds", "first", "least", "drift"] ["self", "rounds"] (defScope s_Course_singles_behind) := ⟨rfl, rfl, rfl, by decide +kernel, rfl, by decide +kernel, by decide +kernel⟩
abbrev is_Course_singles_behind : List Nat := ([2] ++ (([] ++ []) ++ ([3] ++ ([4] ++ []))))
noncomputable def b_Course_singles_behind : M Fl :=
  (sSeq (sSet 2 (callM "Course" ns_Course g_Course_singles_from 0 [none, none, none] [(eD (.int 0)), (eD (.int 0)), (eG (fG 0 "Course" ns_Course 7))]))
    (sSeq (sIf (tst (opN gEq [(eVar 1), (eD (.int 0))])) (sRet (eVar 2)) sNext)
    (sSeq (sSet 3 (callM "Course" ns_Course g_Course_singles_from 0 [none, none, none] [(eD (.int 0)), (eG (fG 0 "Course" ns_Course 7)), (eG (opV gLen (fldV 0 "Course" ns_Course 5) []))]))
    (sSeq (sSet 4 (callM "Course" ns_Course g_Course_drift 0 [] []))
    (sRet (opN gMax [(opN gAdd [(eVar 2), (opN gMul [(eVar 1), (eVar 4)])]), (opN gAdd [(eVar 3), (opN gMul [(opN gSub [(eVar 1), (eD (.int 1))]), (opN gMax [(eD (.int 0)), (eVar 4)])])])]))))))
noncomputable def g_Course_singles_behind : List W → RF := mkFn is_Course_singles_behind 2 5 b_Course_singles_behind
theorem ok_Course_singles_behind {f : Addr} {fd : FuncData} (T : Facts K mg) (F : Fun K "singles_behind" "Course.singles_behind" s_Course_singles_behind f fd) (C_Course_singles_from : CalM P w K mg base 1 "Course" "singles_from" ["self", "many", "begin", "end"] g_Course_singles_from) (C_Course_drift : CalM P w K mg base 1 "Course" "drift" ["self"] g_Course_drift) : FnS P w K mg base 2 f fd ["self", "rounds"] g_Course_singles_behind := by
  refine fn_ok (is := is_Course_singles_behind) F sc_Course_singles_behind (fun cdv A outer s H E hr => ?_)
  have nd := sc_Course_singles_behind.nd
  have tk : Takes (cxOf (L2.CX P w) P w K mg base ["self", "rounds", "first", "least", "drift"] "Course.singles_behind" (defScope s_Course_singles_behind) f cdv A outer s H E) (fun c d _ H => E c d H) := takes_of rfl rfl rfl rfl
  show SsS _ _ _ ([2] ++ (([] ++ []) ++ ([3] ++ ([4] ++ [])))) _
  exact (ss_cons (s_set (i := 2) nd rfl (by first | exact Or.inl rfl | exact Or.inr rfl) (e_callM (i := 0) (ns := ns_Course) (ms := [none, none, none]) C_Course_singles_from tk hr (ea_cons e_int (ea_cons e_int (ea_cons (e_g (g_fld (i := 0) (c := "Course") (ns := ns_Course) (j := 7) T.k_Course nd_Course rfl)) ea_nil))) (by decide) (by decide +kernel)))
    (ss_cons (s_if (t_cmp (op_eqD hr.units) cd_eq (e_var 1) e_int (nomark _)) (ss_one (s_ret (e_var 2))) ss_nil)
    (ss_cons (s_set (i := 3) nd rfl (by first | exact Or.inl rfl | exact Or.inr rfl) (e_callM (i := 0) (ns := ns_Course) (ms := [none, none, none]) C_Course_singles_from tk hr (ea_cons e_int (ea_cons (e_g (g_fld (i := 0) (c := "Course") (ns := ns_Course) (j := 7) T.k_Course nd_Course rfl)) (ea_cons (e_g (gv_callB call_lenA cd_len (by rfl) T.b_len (by decide +kernel) (v_fld (i := 0) (c := "Course") (ns := ns_Course) (j := 5) T.k_Course nd_Course rfl))) ea_nil))) (by decide) (by decide +kernel)))
    (ss_cons (s_set (i := 4) nd rfl (by first | exact Or.inl rfl | exact Or.inr rfl) (e_callM0 (i := 0) (ns := ns_Course) C_Course_drift tk hr (by decide) (by decide +kernel)))
    (ss_one (s_ret (e_callB (call_maxA rfl) cd_max (by rfl) T.b_max (by decide +kernel) (ea_cons (e_bin op_addA cd_add (e_var 2) (e_bin op_mulA cd_mul (e_var 1) (e_var 4))) (ea_cons (e_bin op_addA cd_add (e_var 3) (e_bin op_mulA cd_mul (e_bin op_sub cd_sub (e_var 1) e_int) (e_callB (call_maxA rfl) cd_max (by rfl) T.b_max (by decide +kernel) (ea_cons e_int (ea_cons (e_var 4) ea_nil))))) ea_nil)))))))))
/-! _law_pick -/
abbrev s_law_pick : Stmt := topS 32
theorem sc_law_pick : FnScope ["script", "town", "some"] ["script", "town", "some"] (defScope s_law_pick) := ⟨rfl, rfl, rfl, by decide +kernel, rfl, by decide +kernel, by decide +kernel⟩
abbrev is_law_pick : List Nat := []
noncomputable def b_law_pick : M Fl :=
  (sRet (opN gIx [(eVar 2), (callF g_law_draw [none, some 1, none] [(eVar 0), (eVar 1), (opN gLen [(eVar 2)])])]))
noncomputable def g_law_pick : List W → RF := mkFn is_law_pick 3 3 b_law_pick
theorem ok_law_pick {f : Addr} {fd : FuncData} (T : Facts K mg) (F : Fun K "_law_pick" "_law_pick" s_law_pick f fd) (C_law_draw : Cal P w K mg base 1 "_law_draw" ["script", "town", "many"] g_law_draw) : FnS P w K mg base 2 f fd ["script", "town", "some"] g_law_pick := by
  refine fn_ok (is := is_law_pick) F sc_law_pick (fun cdv A outer s H E hr => ?_)
  have nd := sc_law_pick.nd
  have tk : Takes (cxOf (L2.CX P w) P w K mg base ["script", "town", "some"] "_law_pick" (defScope s_law_pick) f cdv A outer s H E) (fun c d _ H => E c d H) := takes_of rfl rfl rfl rfl
  show SsS _ _ _ [] _
  exact (ss_one (s_ret (e_ix ix_seq cd_ix (e_var 2) (e_callC (ms := [none, some 1, none]) C_law_draw tk hr (ea_cons (e_var 0) (ea_cons (e_var 1) (ea_cons (e_callB call_lenA cd_len (by rfl) T.b_len (by decide +kernel) (ea_cons (e_var 2) ea_nil)) ea_nil))) (by decide)) (fun _ _ => rfl))))
/-! look_loader -/
abbrev s_look_loader : Stmt := topS 9
theorem sc_look_loader : FnScope ["loader"] ["loader"] (defScope s_look_loader) := ⟨rfl, rfl, rfl, by decide +kernel, rfl, by decide +kernel, by decide +kernel⟩
abbrev is_look_loader : List Nat := ([] ++ [])
noncomputable def b_look_loader : M Fl :=
  (sIf (tNotD (tst (callF g_is_loader [none] [(eVar 0)]))) (sRaise "BadLoader") sNext)
noncomputable def g_look_loader : List W → RF := mkFn is_look_loader 1 1 b_look_loader
theorem ok_look_loader {f : Addr} {fd : FuncData} (T : Facts K mg) (F : Fun K "look_loader" "look_loader" s_look_loader f fd) (C_is_loader : Cal P w K mg base 2 "is_loader" ["thing"] g_is_loader) : FnS P w K mg base 3 f fd ["loader"] g_look_loader := by
  refine fn_ok (is := is_look_loader) F sc_look_loader (fun cdv A outer s H E hr => ?_)
  have nd := sc_look_loader.nd
  have tk : Takes (cxOf (L2.CX P w) P w K mg base ["loader"] "look_loader" (defScope s_look_loader) f cdv A outer s H E) (fun c d _ H => E c d H) := takes_of rfl rfl rfl rfl
  show SsS _ _ _ ([] ++ []) _
  exact (ss_one (s_if (t_not (t_val (e_callC (ms := [none]) C_is_loader tk hr (ea_cons (e_var 0) ea_nil) (by decide)))) (ss_one (s_raiseC T.e_BadLoader tk)) ss_nil))
/-! is_beat -/
abbrev s_is_beat : Stmt := topS 18
theorem sc_is_beat : FnScope ["loader", "thing"] ["loader", "thing"] (defScope s_is_beat) := ⟨rfl, rfl, rfl, by decide +kernel, rfl, by decide +kernel, by decide +kernel⟩
abbrev is_is_beat : List Nat := (([] ++ []) ++ [])
noncomputable def b_is_beat : M Fl :=
  (sSeq (sIf (tOrD (tNotD (tst (opN gIsi [(eVar 1), (eD (.ty "tuple"))]))) (tOrD (tst (opN gNe [(opN gLen [(eVar 1)]), (eD (.int 2))])) (tNotD (tst (callF g_are_groups [none, none, none] [(eVar 0), (opN gIx [(eVar 1), (eD (.int 0))]), (eD (.int 4))]))))) (sRet (eD (.bl false))) sNext)
    (sRet (callF g_is_whole [none, none, none] [(opN gIx [(eVar 1), (eD (.int 1))]), (eD (.int 0)), (eD (.int 9))])))
noncomputable def g_is_beat : List W → RF := mkFn is_is_beat 2 2 b_is_beat
theorem ok_is_beat {f : Addr} {fd : FuncData} (T : Facts K mg) (F : Fun K "is_beat" "is_beat" s_is_beat f fd) (C_are_groups : Cal P w K mg base 2 "are_groups" ["loader", "thing", "most"] g_are_groups) (C_is_whole : Cal P w K mg base 1 "is_whole" ["thing", "least", "most"] g_is_whole) : FnS P w K mg base 3 f fd ["loader", "thing"] g_is_beat := by
  refine fn_ok (is := is_is_beat) F sc_is_beat (fun cdv A outer s H E hr => ?_)
  have nd := sc_is_beat.nd
  have tk : Takes (cxOf (L2.CX P w) P w K mg base ["loader", "thing"] "is_beat" (defScope s_is_beat) f cdv A outer s H E) (fun c d _ H => E c d H) := takes_of rfl rfl rfl rfl
  show SsS _ _ _ (([] ++ []) ++ []) _
  exact (ss_cons (s_if (t_w (w_or (t_not (t_val (e_callB call_isi cd_isi (by rfl) T.b_isinstance (by decide +kernel) (ea_cons (e_var 1) (ea_cons (e_bltn (v := .ty "tuple") (by rfl) T.b_tuple (by decide +kernel) rfl (fun _ => .ty "tuple")) ea_nil))))) (w_or (t_cmp (op_neD hr.units) cd_ne (e_callB call_lenA cd_len (by rfl) T.b_len (by decide +kernel) (ea_cons (e_var 1) ea_nil)) e_int (nomark _)) (w_or1 (t_not (t_val (e_callC (ms := [none, none, none]) C_are_groups tk hr (ea_cons (e_var 0) (ea_cons (e_ix ix_seq cd_ix (e_var 1) e_int (fun _ _ => rfl)) (ea_cons e_int ea_nil))) (by decide)))))))) (ss_one (s_ret e_bl)) ss_nil)
    (ss_one (s_ret (e_callC (ms := [none, none, none]) C_is_whole tk hr (ea_cons (e_ix ix_seq cd_ix (e_var 1) e_int (fun _ _ => rfl)) (ea_cons e_int (ea_cons e_int ea_nil))) (by decide)))))
/-! Course.beat -/
abbrev s_Course_beat : Stmt := inClass (topS 22) 2
theorem sc_Course_beat : FnScope ["self", "size", "near", "lacked", "sit", "rest", "number", "passes", "left"] ["self"] (defScope s_Course_beat) := ⟨rfl, rfl, rfl, by decide +kernel, rfl, by decide +kernel, by decide +kernel⟩
noncomputable def lb_Course_beat_0 : M Fl :=
  (sSeq (sExpr (eAppF 0 "Course" ns_Course 4 (opV gLen (fldV 0 "Course" ns_Course 5) [])))
    (sSeq (sExpr (eAppF 0 "Course" ns_Course 2 (tupG [(fG 0 "Course" ns_Course 3), (vG 1), (cG (.int 0))])))
    (sFldS 0 "Course" ns_Course 3 (opN gAdd [(eG (fG 0 "Course" ns_Course 3)), (eD (.int 1))]))))
noncomputable def m_Course_beat_0 : MT :=
  (mName 1)
noncomputable def lb_Course_beat_1 : M Fl :=
  (sStoreXF 0 "Course" ns_Course 6 (vG 6) (eG (opV gLen (fldV 0 "Course" ns_Course 5) [])))
noncomputable def m_Course_beat_1 : MT :=
  (mTup (mCons (mName 6) (mCons (mName 1) (mCons (mName 7) mNil))) 3)
abbrev is_Course_beat : List Nat := (([1] ++ ([] ++ ([] ++ []))) ++ ([2] ++ ([3] ++ (([4] ++ ([5] ++ [])) ++ ([] ++ ((([6] ++ ([1] ++ ([7] ++ []))) ++ []) ++ ([8] ++ [])))))))
noncomputable def b_Course_beat : M Fl :=
  (sSeq (sFor (iterSeq (opN gIx [(opN gIx [(eG (fG 0 "Course" ns_Course 1)), (opN gMod [(eG (opV gLen (fldV 0 "Course" ns_Course 5) [])), (opN gLen [(eG (fG 0 "Course" ns_Course 1))])])]), (eD (.int 0))])) m_Course_beat_0 lb_Course_beat_0)
    (sSeq (sSet 2 (eG (opV gSlH (fldV 0 "Course" ns_Course 2) [(opG gAdd [(opG gAdd [(opG gIx [(fG 0 "Course" ns_Course 0), (cG (.int 0))]), (opG gIx [(fG 0 "Course" ns_Course 0), (cG (.int 1))])]), (cG (.int 1))])])))
    (sSeq (sSet 3 (callF g_wants [none, none] [(eG (fG 0 "Course" ns_Course 0)), (eVar 2)]))
    (sSeq (sTgt (mTup (mCons (mName 4) (mCons (mName 5) mNil)) 2) (callF g_loaded [none, none] [(eG (fG 0 "Course" ns_Course 0)), (eVar 2)]))
    (sSeq (sFldS 0 "Course" ns_Course 2 (opN gAdd [(eVar 5), (eG (opV gSlL (fldV 0 "Course" ns_Course 2) [(opG gLen [(vG 2)])]))]))
    (sSeq (sFor (iterSeq (eVar 4)) m_Course_beat_1 lb_Course_beat_1)
    (sSeq (sSet 8 (opN gSub [(opN gIx [(eG (fG 0 "Course" ns_Course 0)), (eD (.int 0))]), (opN gSum [(eComp (iterSeq (eVar 4)) (([("number", 6), ("size", 1), ("passes", 7)] : List (Str × Nat)).map (·.2)) (mTup (mCons (mName 6) (mCons (mName 1) (mCons (mName 7) mNil))) 3) tYesD (eVar 1))])]))
    (sExpr (eAppF 0 "Course" ns_Course 5 (tupG [(opV gLen (fldV 0 "Course" ns_Course 2) []), (opG gSum [(eCompG (fldV 0 "Course" ns_Course 2) (([("number", 6), ("size", 1), ("passes", 7)] : List (Str × Nat)).map (·.2)) (mTup (mCons (mName 6) (mCons (mName 1) (mCons (mName 7) mNil))) 3) (vG 1))]), (vG 8), (vG 3)]))))))))))
noncomputable def g_Course_beat : List W → RF := mkFn is_Course_beat 1 9 b_Course_beat
theorem ok_Course_beat {f : Addr} {fd : FuncData} (T : Facts K mg) (F : Fun K "beat" "Course.beat" s_Course_beat f fd) (C_wants : Cal P w K mg base 2 "wants" ["loader", "rows"] g_wants) (C_loaded : Cal P w K mg base 2 "loaded" ["loader", "rows"] g_loaded) : FnS P w K mg base 3 f fd ["self"] g_Course_beat := by
  refine fn_ok (is := is_Course_beat) F sc_Course_beat (fun cdv A outer s H E hr => ?_)
  have nd := sc_Course_beat.nd
  have tk : Takes (cxOf (L2.CX P w) P w K mg base ["self", "size", "near", "lacked", "sit", "rest", "number", "passes", "left"] "Course.beat" (defScope s_Course_beat) f cdv A outer s H E) (fun c d _ H => E c d H) := takes_of rfl rfl rfl rfl
  show SsS _ _ _ (([1] ++ ([] ++ ([] ++ []))) ++ ([2] ++ ([3] ++ (([4] ++ ([5] ++ [])) ++ ([] ++ ((([6] ++ ([1] ++ ([7] ++ []))) ++ []) ++ ([8] ++ []))))))) _
  exact (ss_cons (s_for (passes_of rfl) rfl (i_seq (e_ix ix_seq cd_ix (e_ix ix_seq cd_ix (e_g (g_fld (i := 0) (c := "Course") (ns := ns_Course) (j := 1) T.k_Course nd_Course rfl)) (e_bin op_mod cd_mod (e_g (gv_callB call_lenA cd_len (by rfl) T.b_len (by decide +kernel) (v_fld (i := 0) (c := "Course") (ns := ns_Course) (j := 5) T.k_Course nd_Course rfl))) (e_callB call_lenA cd_len (by rfl) T.b_len (by decide +kernel) (ea_cons (e_g (g_fld (i := 0) (c := "Course") (ns := ns_Course) (j := 1) T.k_Course nd_Course rfl)) ea_nil))) (fun _ _ => rfl)) e_int (fun _ _ => rfl))) (g_name (i := 1) nd rfl (by first | exact Or.inl rfl | exact Or.inr rfl)) (ss_cons (s_expr (e_appF (i := 0) (c := "Course") (ns := ns_Course) (j := 4) T.k_Course nd_Course rfl (gv_callB call_lenA cd_len (by rfl) T.b_len (by decide +kernel) (v_fld (i := 0) (c := "Course") (ns := ns_Course) (j := 5) T.k_Course nd_Course rfl))))
    (ss_cons (s_expr (e_appF (i := 0) (c := "Course") (ns := ns_Course) (j := 2) T.k_Course nd_Course rfl (gg_tup (ga_cons (g_fld (i := 0) (c := "Course") (ns := ns_Course) (j := 3) T.k_Course nd_Course rfl) (ga_cons (g_var 1) (ga_cons g_int ga_nil))))))
    (ss_one (s_fldS (i := 0) (c := "Course") (ns := ns_Course) (j := 3) T.k_Course nd_Course rfl (by decide) (e_bin op_addA cd_add (e_g (g_fld (i := 0) (c := "Course") (ns := ns_Course) (j := 3) T.k_Course nd_Course rfl)) e_int))))))
    (ss_cons (s_set (i := 2) nd rfl (by first | exact Or.inl rfl | exact Or.inr rfl) (e_g (gv_slH (v_fld (i := 0) (c := "Course") (ns := ns_Course) (j := 2) T.k_Course nd_Course rfl) (g_bin op_addA cd_add (g_bin op_addA cd_add (g_ix ix_seq cd_ix (g_fld (i := 0) (c := "Course") (ns := ns_Course) (j := 0) T.k_Course nd_Course rfl) g_int (fun _ _ => rfl)) (g_ix ix_seq cd_ix (g_fld (i := 0) (c := "Course") (ns := ns_Course) (j := 0) T.k_Course nd_Course rfl) g_int (fun _ _ => rfl))) g_int))))
    (ss_cons (s_set (i := 3) nd rfl (by first | exact Or.inl rfl | exact Or.inr rfl) (e_callC (ms := [none, none]) C_wants tk hr (ea_cons (e_g (g_fld (i := 0) (c := "Course") (ns := ns_Course) (j := 0) T.k_Course nd_Course rfl)) (ea_cons (e_var 2) ea_nil)) (by decide)))
    (ss_cons (s_tgt (e_callC (ms := [none, none]) C_loaded tk hr (ea_cons (e_g (g_fld (i := 0) (c := "Course") (ns := ns_Course) (j := 0) T.k_Course nd_Course rfl)) (ea_cons (e_var 2) ea_nil)) (by decide)) (g_tup rfl (gs_cons (g_name (i := 4) nd rfl (by first | exact Or.inl rfl | exact Or.inr rfl)) (gs_cons (g_name (i := 5) nd rfl (by first | exact Or.inl rfl | exact Or.inr rfl)) gs_nil))))
    (ss_cons (s_fldS (i := 0) (c := "Course") (ns := ns_Course) (j := 2) T.k_Course nd_Course rfl (by decide) (e_bin op_addA cd_add (e_var 5) (e_g (gv_slL (v_fld (i := 0) (c := "Course") (ns := ns_Course) (j := 2) T.k_Course nd_Course rfl) (g_callB call_lenA cd_len (by rfl) T.b_len (by decide +kernel) (ga_cons (g_var 2) ga_nil))))))
    (ss_cons (s_for (passes_of rfl) rfl (i_seq (e_var 4)) (g_tup rfl (gs_cons (g_name (i := 6) nd rfl (by first | exact Or.inl rfl | exact Or.inr rfl)) (gs_cons (g_name (i := 1) nd rfl (by first | exact Or.inl rfl | exact Or.inr rfl)) (gs_cons (g_name (i := 7) nd rfl (by first | exact Or.inl rfl | exact Or.inr rfl)) gs_nil)))) (ss_one (s_storeXF (i := 0) (c := "Course") (ns := ns_Course) (j := 6) (hu65 hr) T.k_Course nd_Course rfl (e_g (gv_callB call_lenA cd_len (by rfl) T.b_len (by decide +kernel) (v_fld (i := 0) (c := "Course") (ns := ns_Course) (j := 5) T.k_Course nd_Course rfl))) (g_var 6))))
    (ss_cons (s_set (i := 8) nd rfl (by first | exact Or.inl rfl | exact Or.inr rfl) (e_bin op_sub cd_sub (e_ix ix_seq cd_ix (e_g (g_fld (i := 0) (c := "Course") (ns := ns_Course) (j := 0) T.k_Course nd_Course rfl)) e_int (fun _ _ => rfl)) (e_callB (cr_sumA rfl) cd_sum (by rfl) T.b_sum (by decide +kernel) (ea_cons (e_comp rfl nd (i_seq (e_var 4)) (blkOk_by (own := [("number", 6), ("size", 1), ("passes", 7)]) (by with_unfolding_all rfl)) (fun _ _ _ _ _ => (g_tup rfl (gs_cons (g_name (i := 6) nd rfl (by first | exact Or.inl rfl | exact Or.inr rfl)) (gs_cons (g_name (i := 1) nd rfl (by first | exact Or.inl rfl | exact Or.inr rfl)) (gs_cons (g_name (i := 7) nd rfl (by first | exact Or.inl rfl | exact Or.inr rfl)) gs_nil))))) (fun _ _ _ _ _ => (e_var 1)) (by decide)) ea_nil))))
    (ss_one (s_expr (e_appF (i := 0) (c := "Course") (ns := ns_Course) (j := 5) T.k_Course nd_Course rfl (gg_tup (ga_cons (gv_callB call_lenA cd_len (by rfl) T.b_len (by decide +kernel) (v_fld (i := 0) (c := "Course") (ns := ns_Course) (j := 2) T.k_Course nd_Course rfl)) (ga_cons (g_callB (cr_sumA rfl) cd_sum (by rfl) T.b_sum (by decide +kernel) (ga_cons (g_comp rfl nd (v_fld (i := 0) (c := "Course") (ns := ns_Course) (j := 2) T.k_Course nd_Course rfl) (blkOk_by (own := [("number", 6), ("size", 1), ("passes", 7)]) (by with_unfolding_all rfl)) (fun _ _ _ _ _ => (gv_tup rfl (gvs_cons (gv_name (i := 6) nd rfl (by first | exact Or.inl rfl | exact Or.inr rfl)) (gvs_cons (gv_name (i := 1) nd rfl (by first | exact Or.inl rfl | exact Or.inr rfl)) (gvs_cons (gv_name (i := 7) nd rfl (by first | exact Or.inl rfl | exact Or.inr rfl)) gvs_nil))))) (fun _ _ _ _ _ => (g_var 1)) (by decide)) ga_nil)) (ga_cons (g_var 8) (ga_cons (g_var 3) ga_nil)))))))))))))))
/-! is_good -/
abbrev s_is_good : Stmt := topS 19
theorem sc_is_good : FnScope ["loader", "thing", "one"] ["loader", "thing"] (defScope s_is_good) := ⟨rfl, rfl, rfl, by decide +kernel, rfl, by decide +kernel, by decide +kernel⟩
abbrev is_is_good : List Nat := []
noncomputable def b_is_good : M Fl :=
  (sRet (vAnd (opN gIsi [(eVar 1), (eD (.ty "tuple"))]) (vAnd (vChain gLe gLe (eD (.int 1)) (opN gLen [(eVar 1)]) (eD (.int 6))) (opN gAll [(eComp (iterSeq (eVar 1)) (([("one", 2)] : List (Str × Nat)).map (·.2)) (mName 2) tYesD (callF g_is_beat [none, none] [(eVar 0), (eVar 2)]))]))))
noncomputable def g_is_good : List W → RF := mkFn is_is_good 2 3 b_is_good
theorem ok_is_good {f : Addr} {fd : FuncData} (T : Facts K mg) (F : Fun K "is_good" "is_good" s_is_good f fd) (C_is_beat : Cal P w K mg base 3 "is_beat" ["loader", "thing"] g_is_beat) : FnS P w K mg base 4 f fd ["loader", "thing"] g_is_good := by
  refine fn_ok (is := is_is_good) F sc_is_good (fun cdv A outer s H E hr => ?_)
  have nd := sc_is_good.nd
  have tk : Takes (cxOf (L2.CX P w) P w K mg base ["loader", "thing", "one"] "is_good" (defScope s_is_good) f cdv A outer s H E) (fun c d _ H => E c d H) := takes_of rfl rfl rfl rfl
  show SsS _ _ _ [] _
  exact (ss_one (s_ret (e_and (e_callB call_isi cd_isi (by rfl) T.b_isinstance (by decide +kernel) (ea_cons (e_var 1) (ea_cons (e_bltn (v := .ty "tuple") (by rfl) T.b_tuple (by decide +kernel) rfl (fun _ => .ty "tuple")) ea_nil))) (e_and (e_chain op_le op_le cd_cmp cd_cmp e_int (e_callB call_lenA cd_len (by rfl) T.b_len (by decide +kernel) (ea_cons (e_var 1) ea_nil)) e_int) (e_one (e_callB (cr_all rfl) cd_all (by rfl) T.b_all (by decide +kernel) (ea_cons (e_comp rfl nd (i_seq (e_var 1)) (blkOk_by (own := [("one", 2)]) (by with_unfolding_all rfl)) (fun _ _ _ _ _ => (g_name (i := 2) nd rfl (by first | exact Or.inl rfl | exact Or.inr rfl))) (fun _ _ _ _ _ => (e_callC (ms := [none, none]) C_is_beat takes0 hr (ea_cons (e_var 0) (ea_cons (e_var 2) ea_nil)) (by decide))) (by decide)) ea_nil)))))))
/-! Course.run -/
abbrev s_Course_run : Stmt := inClass (topS 22) 3
theorem sc_Course_run : FnScope ["self", "seen", "key", "begin", "many"] ["self"] (defScope s_Course_run) := ⟨rfl, rfl, rfl, by decide +kernel, rfl, by decide +kernel, by decide +kernel⟩
noncomputable def lb_Course_run_0 : M Fl :=
  (sIf (tOrD (tst (opN gEq [(eVar 4), (eG (opV gLen (fldV 0 "Course" ns_Course 2) []))])) (tAndD (tst (opN gLt [(eVar 4), (eG (opV gLen (fldV 0 "Course" ns_Course 2) []))])) (tst (callM "Course" ns_Course g_Course_is_full 0 [none] [(eVar 3)])))) (sSeq (sFldS 0 "Course" ns_Course 7 (eVar 3))
    (sRet (eD (.bl true)))) sNext)
noncomputable def m_Course_run_0 : MT :=
  (mTup (mCons (mName 3) (mCons (mName 4) mNil)) 2)
noncomputable def lb_Course_run_1 : M Fl :=
  (sSeq (sIf (tst (opN gEq [(opN gMod [(eG (opV gLen (fldV 0 "Course" ns_Course 5) [])), (opN gLen [(eG (fG 0 "Course" ns_Course 1))])]), (eD (.int 0))])) (sSeq (sSet 2 (callM "Course" ns_Course g_Course_key 0 [] []))
    (sSeq (sFor (iterSeq (eGetL 1 (vG 2))) m_Course_run_0 lb_Course_run_0)
    (sStoreX 1 (vG 2) (opN gAdd [(eGetL 1 (vG 2)), (dLst [(dTup [(eG (opV gLen (fldV 0 "Course" ns_Course 5) [])), (eG (opV gLen (fldV 0 "Course" ns_Course 2) []))])])])))) sNext)
    (sExpr (callM "Course" ns_Course g_Course_beat 0 [] [])))
abbrev is_Course_run : List Nat := ([1] ++ (((([2] ++ ((([3] ++ ([4] ++ [])) ++ (([] ++ []) ++ [])) ++ [])) ++ []) ++ []) ++ []))
noncomputable def b_Course_run : M Fl :=
  (sSeq (sSet 1 (eXNew false))
    (sSeq (sWhile (tst (opN gLe [(eG (opV gLen (fldV 0 "Course" ns_Course 5) [])), (eD (.int 2000))])) lb_Course_run_1)
    (sRet (eD (.bl false)))))
noncomputable def g_Course_run : List W → RF := mkFn is_Course_run 1 5 b_Course_run
theorem ok_Course_run {f : Addr} {fd : FuncData} (T : Facts K mg) (F : Fun K "run" "Course.run" s_Course_run f fd) (C_Course_key : CalM P w K mg base 1 "Course" "key" ["self"] g_Course_key) (C_Course_is_full : CalM P w K mg base 1 "Course" "is_full" ["self", "begin"] g_Course_is_full) (C_Course_beat : CalM P w K mg base 3 "Course" "beat" ["self"] g_Course_beat) : FnS P w K mg base 4 f fd ["self"] g_Course_run := by
  obtain ⟨t_LONGEST, h_LONGEST⟩ := T.c_LONGEST
  refine fn_ok (is := is_Course_run) F sc_Course_run (fun cdv A outer s H E hr => ?_)
  have nd := sc_Course_run.nd
  have tk : Takes (cxOf (L2.CX P w) P w K mg base ["self", "seen", "key", "begin", "many"] "Course.run" (defScope s_Course_run) f cdv A outer s H E) (fun c d _ H => E c d H) := takes_of rfl rfl rfl rfl
  show SsS _ _ _ ([1] ++ (((([2] ++ ((([3] ++ ([4] ++ [])) ++ (([] ++ []) ++ [])) ++ [])) ++ []) ++ []) ++ [])) _
  exact (ss_cons (s_set (i := 1) nd rfl (by first | exact Or.inl rfl | exact Or.inr rfl) e_xnew)
    (ss_cons (s_while (passes_of rfl) (t_cmp op_le cd_cmp (e_g (gv_callB call_lenA cd_len (by rfl) T.b_len (by decide +kernel) (v_fld (i := 0) (c := "Course") (ns := ns_Course) (j := 5) T.k_Course nd_Course rfl))) (e_glob (v := .int 2000) (by rfl) h_LONGEST ⟨_, rfl⟩ (fun _ => .int 2000)) (nomark _)) (ss_cons (s_if (t_cmp (op_eqD hr.units) cd_eq (e_bin op_mod cd_mod (e_g (gv_callB call_lenA cd_len (by rfl) T.b_len (by decide +kernel) (v_fld (i := 0) (c := "Course") (ns := ns_Course) (j := 5) T.k_Course nd_Course rfl))) (e_callB call_lenA cd_len (by rfl) T.b_len (by decide +kernel) (ea_cons (e_g (g_fld (i := 0) (c := "Course") (ns := ns_Course) (j := 1) T.k_Course nd_Course rfl)) ea_nil))) e_int (nomark _)) (ss_cons (s_set (i := 2) nd rfl (by first | exact Or.inl rfl | exact Or.inr rfl) (e_callM0 (i := 0) (ns := ns_Course) C_Course_key tk hr (by decide) (by decide +kernel)))
    (ss_cons (s_for (passes_of rfl) rfl (i_seq (e_getL (i := 1) (hu65 hr) (g_var 2))) (g_tup rfl (gs_cons (g_name (i := 3) nd rfl (by first | exact Or.inl rfl | exact Or.inr rfl)) (gs_cons (g_name (i := 4) nd rfl (by first | exact Or.inl rfl | exact Or.inr rfl)) gs_nil))) (ss_one (s_if (t_w (w_or (t_cmp (op_eqD hr.units) cd_eq (e_var 4) (e_g (gv_callB call_lenA cd_len (by rfl) T.b_len (by decide +kernel) (v_fld (i := 0) (c := "Course") (ns := ns_Course) (j := 2) T.k_Course nd_Course rfl))) (nomark _)) (w_or1 (t_w (w_and (t_cmp op_lt cd_cmp (e_var 4) (e_g (gv_callB call_lenA cd_len (by rfl) T.b_len (by decide +kernel) (v_fld (i := 0) (c := "Course") (ns := ns_Course) (j := 2) T.k_Course nd_Course rfl))) (nomark _)) (w_and1 (t_val (e_callM (i := 0) (ns := ns_Course) (ms := [none]) C_Course_is_full tk hr (ea_cons (e_var 3) ea_nil) (by decide) (by decide +kernel))))))))) (ss_cons (s_fldS (i := 0) (c := "Course") (ns := ns_Course) (j := 7) T.k_Course nd_Course rfl (by decide) (e_var 3))
    (ss_one (s_ret e_bl))) ss_nil)))
    (ss_one (s_storeX (i := 1) (hu65 hr) (e_bin op_addA cd_add (e_getL (i := 1) (hu65 hr) (g_var 2)) (e_lst (ea_cons (e_tup (ea_cons (e_g (gv_callB call_lenA cd_len (by rfl) T.b_len (by decide +kernel) (v_fld (i := 0) (c := "Course") (ns := ns_Course) (j := 5) T.k_Course nd_Course rfl))) (ea_cons (e_g (gv_callB call_lenA cd_len (by rfl) T.b_len (by decide +kernel) (v_fld (i := 0) (c := "Course") (ns := ns_Course) (j := 2) T.k_Course nd_Course rfl))) ea_nil))) ea_nil))) (g_var 2))))) ss_nil)
    (ss_one (s_expr (e_callM0 (i := 0) (ns := ns_Course) C_Course_beat tk hr (by decide) (by decide +kernel))))))
    (ss_one (s_ret e_bl))))
/-! look_day -/
abbrev s_look_day : Stmt := topS 20
theorem sc_look_day : FnScope ["loader", "day"] ["loader", "day"] (defScope s_look_day) := ⟨rfl, rfl, rfl, by decide +kernel, rfl, by decide +kernel, by decide +kernel⟩
abbrev is_look_day : List Nat := ([] ++ ([] ++ []))
noncomputable def b_look_day : M Fl :=
  (sSeq (sExpr (callF g_look_loader [none] [(eVar 0)]))
    (sIf (tNotD (tst (callF g_is_good [none, none] [(eVar 0), (eVar 1)]))) (sRaise "BadDay") sNext))
noncomputable def g_look_day : List W → RF := mkFn is_look_day 2 2 b_look_day
theorem ok_look_day {f : Addr} {fd : FuncData} (T : Facts K mg) (F : Fun K "look_day" "look_day" s_look_day f fd) (C_look_loader : Cal P w K mg base 3 "look_loader" ["loader"] g_look_loader) (C_is_good : Cal P w K mg base 4 "is_good" ["loader", "thing"] g_is_good) : FnS P w K mg base 5 f fd ["loader", "day"] g_look_day := by
  refine fn_ok (is := is_look_day) F sc_look_day (fun cdv A outer s H E hr => ?_)
  have nd := sc_look_day.nd
  have tk : Takes (cxOf (L2.CX P w) P w K mg base ["loader", "day"] "look_day" (defScope s_look_day) f cdv A outer s H E) (fun c d _ H => E c d H) := takes_of rfl rfl rfl rfl
  show SsS _ _ _ ([] ++ ([] ++ [])) _
  exact (ss_cons (s_expr (e_callC (ms := [none]) C_look_loader tk hr (ea_cons (e_var 0) ea_nil) (by decide)))
    (ss_one (s_if (t_not (t_val (e_callC (ms := [none, none]) C_is_good tk hr (ea_cons (e_var 0) (ea_cons (e_var 1) ea_nil)) (by decide)))) (ss_one (s_raiseC T.e_BadDay tk)) ss_nil)))
/-! course_of -/
abbrev s_course_of : Stmt := topS 23
theorem sc_course_of : FnScope ["loader", "day", "found"] ["loader", "day"] (defScope s_course_of) := ⟨rfl, rfl, rfl, by decide +kernel, rfl, by decide +kernel, by decide +kernel⟩
abbrev is_course_of : List Nat := ([2] ++ (([] ++ []) ++ []))
noncomputable def b_course_of : M Fl :=
  (sSeq (sSet 2 (callNew "Course" ns_Course g_Course_new [(eVar 0), (eVar 1)]))
    (sSeq (sIf (tNotD (tst (callM "Course" ns_Course g_Course_run 2 [] []))) (sRaise "Full") sNext)
    (sRet (eVar 2))))
noncomputable def g_course_of : List W → RF := mkFn is_course_of 2 3 b_course_of
theorem ok_course_of {f : Addr} {fd : FuncData} (T : Facts K mg) (F : Fun K "course_of" "course_of" s_course_of f fd) (C_Course_new : CalN P w K mg base 1 "Course" ["self", "loader", "day"] g_Course_new) (C_Course_run : CalM P w K mg base 4 "Course" "run" ["self"] g_Course_run) : FnS P w K mg base 5 f fd ["loader", "day"] g_course_of := by
  refine fn_ok (is := is_course_of) F sc_course_of (fun cdv A outer s H E hr => ?_)
  have nd := sc_course_of.nd
  have tk : Takes (cxOf (L2.CX P w) P w K mg base ["loader", "day", "found"] "course_of" (defScope s_course_of) f cdv A outer s H E) (fun c d _ H => E c d H) := takes_of rfl rfl rfl rfl
  show SsS _ _ _ ([2] ++ (([] ++ []) ++ [])) _
  exact (ss_cons (s_set (i := 2) nd rfl (by first | exact Or.inl rfl | exact Or.inr rfl) (e_callN (ns := ns_Course) C_Course_new tk hr (ea_cons (e_var 0) (ea_cons (e_var 1) ea_nil)) (by decide)))
    (ss_cons (s_if (t_not (t_val (e_callM0 (i := 2) (ns := ns_Course) C_Course_run tk hr (by decide) (by decide +kernel)))) (ss_one (s_raiseC T.e_Full tk)) ss_nil)
    (ss_one (s_ret (e_var 2)))))
/-! waiting -/
abbrev s_waiting : Stmt := topS 24
theorem sc_waiting : FnScope ["loader", "day", "beat", "course", "rounds", "rest", "groups", "persons", "more", "crowd", "singles"] ["loader", "day", "beat"] (defScope s_waiting) := ⟨rfl, rfl, rfl, by decide +kernel, rfl, by decide +kernel, by decide +kernel⟩
abbrev is_waiting : List Nat := ([] ++ (([] ++ []) ++ ([3] ++ (([] ++ []) ++ ([4, 5] ++ (([6] ++ ([7] ++ [])) ++ (([8] ++ ([9] ++ [])) ++ ([10] ++ []))))))))
noncomputable def b_waiting : M Fl :=
  (sSeq (sExpr (callF g_look_day [none, none] [(eVar 0), (eVar 1)]))
    (sSeq (sIf (tNotD (tst (callF g_is_whole [none, none, none] [(eVar 2), (eD (.int 0)), (eD (.int 1000000000000000000))]))) (sRaise "BadNumber") sNext)
    (sSeq (sSet 3 (callF g_course_of [none, none] [(eVar 0), (eVar 1)]))
    (sSeq (sIf (tst (opN gLt [(eVar 2), (eG (fG 3 "Course" ns_Course 7))])) (sRet (opN gAdd [(callM "Course" ns_Course g_Course_behind 3 [none] [(eVar 2)]), (dTup [(callM "Course" ns_Course g_Course_singles_from 3 [none, none, none] [(eD (.int 0)), (eD (.int 0)), (opN gAdd [(eVar 2), (eD (.int 1))])])])])) sNext)
    (sSeq (sPar 4 5 [(opN gDiv [(opN gSub [(eVar 2), (eG (fG 3 "Course" ns_Course 7))]), (callM "Course" ns_Course g_Course_length 3 [] [])]), (opN gMod [(opN gSub [(eVar 2), (eG (fG 3 "Course" ns_Course 7))]), (callM "Course" ns_Course g_Course_length 3 [] [])])])
    (sSeq (sTgt (mTup (mCons (mName 6) (mCons (mName 7) mNil)) 2) (callM "Course" ns_Course g_Course_behind 3 [none] [(opN gAdd [(eG (fG 3 "Course" ns_Course 7)), (eVar 5)])]))
    (sSeq (sTgt (mTup (mCons (mName 8) (mCons (mName 9) mNil)) 2) (callM "Course" ns_Course g_Course_more 3 [] []))
    (sSeq (sSet 10 (callM "Course" ns_Course g_Course_singles_from 3 [none, none, none] [(callM "Course" ns_Course g_Course_singles_behind 3 [none] [(eVar 4)]), (eG (fG 3 "Course" ns_Course 7)), (opN gAdd [(opN gAdd [(eG (fG 3 "Course" ns_Course 7)), (eVar 5)]), (eD (.int 1))])]))
    (sRet (dTup [(opN gAdd [(eVar 6), (opN gMul [(eVar 4), (eVar 8)])]), (opN gAdd [(eVar 7), (opN gMul [(eVar 4), (eVar 9)])]), (eVar 10)]))))))))))
noncomputable def g_waiting : List W → RF := mkFn is_waiting 3 11 b_waiting
theorem ok_waiting {f : Addr} {fd : FuncData} (T : Facts K mg) (F : Fun K "waiting" "waiting" s_waiting f fd) (C_look_day : Cal P w K mg base 5 "look_day" ["loader", "day"] g_look_day) (C_is_whole : Cal P w K mg base 1 "is_whole" ["thing", "least", "most"] g_is_whole) (C_course_of : Cal P w K mg base 5 "course_of" ["loader", "day"] g_course_of) (C_Course_behind : CalM P w K mg base 1 "Course" "behind" ["self", "beat"] g_Course_behind) (C_Course_singles_from : CalM P w K mg base 1 "Course" "singles_from" ["self", "many", "begin", "end"] g_Course_singles_from) (C_Course_length : CalM P w K mg base 1 "Course" "length" ["self"] g_Course_length) (C_Course_more : CalM P w K mg base 2 "Course" "more" ["self"] g_Course_more) (C_Course_singles_behind : CalM P w K mg base 2 "Course" "singles_behind" ["self", "rounds"] g_Course_singles_behind) : FnS P w K mg base 6 f fd ["loader", "day", "beat"] g_waiting := by
  obtain ⟨t_FARTHEST, h_FARTHEST⟩ := T.c_FARTHEST
  refine fn_ok (is := is_waiting) F sc_waiting (fun cdv A outer s H E hr => ?_)
  have nd := sc_waiting.nd
  have tk : Takes (cxOf (L2.CX P w) P w K mg base ["loader", "day", "beat", "course", "rounds", "rest", "groups", "persons", "more", "crowd", "singles"] "waiting" (defScope s_waiting) f cdv A outer s H E) (fun c d _ H => E c d H) := takes_of rfl rfl rfl rfl
  show SsS _ _ _ ([] ++ (([] ++ []) ++ ([3] ++ (([] ++ []) ++ ([4, 5] ++ (([6] ++ ([7] ++ [])) ++ (([8] ++ ([9] ++ [])) ++ ([10] ++ [])))))))) _
  exact (ss_cons (s_expr (e_callC (ms := [none, none]) C_look_day tk hr (ea_cons (e_var 0) (ea_cons (e_var 1) ea_nil)) (by decide)))
    (ss_cons (s_if (t_not (t_val (e_callC (ms := [none, none, none]) C_is_whole tk hr (ea_cons (e_var 2) (ea_cons e_int (ea_cons (e_glob (v := .int 1000000000000000000) (by rfl) h_FARTHEST ⟨_, rfl⟩ (fun _ => .int 1000000000000000000)) ea_nil))) (by decide)))) (ss_one (s_raiseC T.e_BadNumber tk)) ss_nil)
    (ss_cons (s_set (i := 3) nd rfl (by first | exact Or.inl rfl | exact Or.inr rfl) (e_callC (ms := [none, none]) C_course_of tk hr (ea_cons (e_var 0) (ea_cons (e_var 1) ea_nil)) (by decide)))
    (ss_cons (s_if (t_cmp op_lt cd_cmp (e_var 2) (e_g (g_fld (i := 3) (c := "Course") (ns := ns_Course) (j := 7) T.k_Course nd_Course rfl)) (nomark _)) (ss_one (s_ret (e_bin op_addA cd_add (e_callM (i := 3) (ns := ns_Course) (ms := [none]) C_Course_behind tk hr (ea_cons (e_var 2) ea_nil) (by decide) (by decide +kernel)) (e_tup (ea_cons (e_callM (i := 3) (ns := ns_Course) (ms := [none, none, none]) C_Course_singles_from tk hr (ea_cons e_int (ea_cons e_int (ea_cons (e_bin op_addA cd_add (e_var 2) e_int) ea_nil))) (by decide) (by decide +kernel)) ea_nil))))) ss_nil)
    (ss_cons (s_par rfl nd rfl rfl (by decide) rfl rfl (ea_cons (e_bin op_fdiv cd_div (e_bin op_sub cd_sub (e_var 2) (e_g (g_fld (i := 3) (c := "Course") (ns := ns_Course) (j := 7) T.k_Course nd_Course rfl))) (e_callM0 (i := 3) (ns := ns_Course) C_Course_length tk hr (by decide) (by decide +kernel))) (ea_cons (e_bin op_mod cd_mod (e_bin op_sub cd_sub (e_var 2) (e_g (g_fld (i := 3) (c := "Course") (ns := ns_Course) (j := 7) T.k_Course nd_Course rfl))) (e_callM0 (i := 3) (ns := ns_Course) C_Course_length tk hr (by decide) (by decide +kernel))) ea_nil)) (by rfl))
    (ss_cons (s_tgt (e_callM (i := 3) (ns := ns_Course) (ms := [none]) C_Course_behind tk hr (ea_cons (e_bin op_addA cd_add (e_g (g_fld (i := 3) (c := "Course") (ns := ns_Course) (j := 7) T.k_Course nd_Course rfl)) (e_var 5)) ea_nil) (by decide) (by decide +kernel)) (g_tup rfl (gs_cons (g_name (i := 6) nd rfl (by first | exact Or.inl rfl | exact Or.inr rfl)) (gs_cons (g_name (i := 7) nd rfl (by first | exact Or.inl rfl | exact Or.inr rfl)) gs_nil))))
    (ss_cons (s_tgt (e_callM0 (i := 3) (ns := ns_Course) C_Course_more tk hr (by decide) (by decide +kernel)) (g_tup rfl (gs_cons (g_name (i := 8) nd rfl (by first | exact Or.inl rfl | exact Or.inr rfl)) (gs_cons (g_name (i := 9) nd rfl (by first | exact Or.inl rfl | exact Or.inr rfl)) gs_nil))))
    (ss_cons (s_set (i := 10) nd rfl (by first | exact Or.inl rfl | exact Or.inr rfl) (e_callM (i := 3) (ns := ns_Course) (ms := [none, none, none]) C_Course_singles_from tk hr (ea_cons (e_callM (i := 3) (ns := ns_Course) (ms := [none]) C_Course_singles_behind tk hr (ea_cons (e_var 4) ea_nil) (by decide) (by decide +kernel)) (ea_cons (e_g (g_fld (i := 3) (c := "Course") (ns := ns_Course) (j := 7) T.k_Course nd_Course rfl)) (ea_cons (e_bin op_addA cd_add (e_bin op_addA cd_add (e_g (g_fld (i := 3) (c := "Course") (ns := ns_Course) (j := 7) T.k_Course nd_Course rfl)) (e_var 5)) e_int) ea_nil))) (by decide) (by decide +kernel)))
    (ss_one (s_ret (e_tup (ea_cons (e_bin op_addA cd_add (e_var 6) (e_bin op_mulA cd_mul (e_var 4) (e_var 8))) (ea_cons (e_bin op_addA cd_add (e_var 7) (e_bin op_mulA cd_mul (e_var 4) (e_var 9))) (ea_cons (e_var 10) ea_nil))))))))))))))
/-! grows -/
abbrev s_grows : Stmt := topS 25
theorem sc_grows : FnScope ["loader", "day", "course"] ["loader", "day"] (defScope s_grows) := ⟨rfl, rfl, rfl, by decide +kernel, rfl, by decide +kernel, by decide +kernel⟩
abbrev is_grows : List Nat := ([] ++ ([2] ++ []))
noncomputable def b_grows : M Fl :=
  (sSeq (sExpr (callF g_look_day [none, none] [(eVar 0), (eVar 1)]))
    (sSeq (sSet 2 (callF g_course_of [none, none] [(eVar 0), (eVar 1)]))
    (sRet (dTup [(callF g_share [none, none] [(opN gIx [(callM "Course" ns_Course g_Course_more 2 [] []), (eD (.int 0))]), (callM "Course" ns_Course g_Course_length 2 [] [])]), (callF g_share [none, none] [(opN gMax [(eD (.int 0)), (callM "Course" ns_Course g_Course_drift 2 [] [])]), (callM "Course" ns_Course g_Course_length 2 [] [])])]))))
noncomputable def g_grows : List W → RF := mkFn is_grows 2 3 b_grows
theorem ok_grows {f : Addr} {fd : FuncData} (T : Facts K mg) (F : Fun K "grows" "grows" s_grows f fd) (C_look_day : Cal P w K mg base 5 "look_day" ["loader", "day"] g_look_day) (C_course_of : Cal P w K mg base 5 "course_of" ["loader", "day"] g_course_of) (C_share : Cal P w K mg base 1 "share" ["top", "below"] g_share) (C_Course_more : CalM P w K mg base 2 "Course" "more" ["self"] g_Course_more) (C_Course_length : CalM P w K mg base 1 "Course" "length" ["self"] g_Course_length) (C_Course_drift : CalM P w K mg base 1 "Course" "drift" ["self"] g_Course_drift) : FnS P w K mg base 6 f fd ["loader", "day"] g_grows := by
  refine fn_ok (is := is_grows) F sc_grows (fun cdv A outer s H E hr => ?_)
  have nd := sc_grows.nd
  have tk : Takes (cxOf (L2.CX P w) P w K mg base ["loader", "day", "course"] "grows" (defScope s_grows) f cdv A outer s H E) (fun c d _ H => E c d H) := takes_of rfl rfl rfl rfl
  show SsS _ _ _ ([] ++ ([2] ++ [])) _
  exact (ss_cons (s_expr (e_callC (ms := [none, none]) C_look_day tk hr (ea_cons (e_var 0) (ea_cons (e_var 1) ea_nil)) (by decide)))
    (ss_cons (s_set (i := 2) nd rfl (by first | exact Or.inl rfl | exact Or.inr rfl) (e_callC (ms := [none, none]) C_course_of tk hr (ea_cons (e_var 0) (ea_cons (e_var 1) ea_nil)) (by decide)))
    (ss_one (s_ret (e_tup (ea_cons (e_callC (ms := [none, none]) C_share tk hr (ea_cons (e_ix ix_seq cd_ix (e_callM0 (i := 2) (ns := ns_Course) C_Course_more tk hr (by decide) (by decide +kernel)) e_int (fun _ _ => rfl)) (ea_cons (e_callM0 (i := 2) (ns := ns_Course) C_Course_length tk hr (by decide) (by decide +kernel)) ea_nil)) (by decide)) (ea_cons (e_callC (ms := [none, none]) C_share tk hr (ea_cons (e_callB (call_maxA rfl) cd_max (by rfl) T.b_max (by decide +kernel) (ea_cons e_int (ea_cons (e_callM0 (i := 2) (ns := ns_Course) C_Course_drift tk hr (by decide) (by decide +kernel)) ea_nil))) (ea_cons (e_callM0 (i := 2) (ns := ns_Course) C_Course_length tk hr (by decide) (by decide +kernel)) ea_nil)) (by decide)) ea_nil)))))))
/-! settled -/
abbrev s_settled : Stmt := topS 26
theorem sc_settled : FnScope ["loader", "day", "course"] ["loader", "day"] (defScope s_settled) := ⟨rfl, rfl, rfl, by decide +kernel, rfl, by decide +kernel, by decide +kernel⟩
abbrev is_settled : List Nat := ([] ++ ([2] ++ []))
noncomputable def b_settled : M Fl :=
  (sSeq (sExpr (callF g_look_day [none, none] [(eVar 0), (eVar 1)]))
    (sSeq (sSet 2 (callF g_course_of [none, none] [(eVar 0), (eVar 1)]))
    (sRet (vAnd (opN gEq [(opN gIx [(callM "Course" ns_Course g_Course_more 2 [] []), (eD (.int 0))]), (eD (.int 0))]) (opN gLe [(callM "Course" ns_Course g_Course_drift 2 [] []), (eD (.int 0))])))))
noncomputable def g_settled : List W → RF := mkFn is_settled 2 3 b_settled
theorem ok_settled {f : Addr} {fd : FuncData} (T : Facts K mg) (F : Fun K "settled" "settled" s_settled f fd) (C_look_day : Cal P w K mg base 5 "look_day" ["loader", "day"] g_look_day) (C_course_of : Cal P w K mg base 5 "course_of" ["loader", "day"] g_course_of) (C_Course_more : CalM P w K mg base 2 "Course" "more" ["self"] g_Course_more) (C_Course_drift : CalM P w K mg base 1 "Course" "drift" ["self"] g_Course_drift) : FnS P w K mg base 6 f fd ["loader", "day"] g_settled := by
  refine fn_ok (is := is_settled) F sc_settled (fun cdv A outer s H E hr => ?_)
  have nd := sc_settled.nd
  have tk : Takes (cxOf (L2.CX P w) P w K mg base ["loader", "day", "course"] "settled" (defScope s_settled) f cdv A outer s H E) (fun c d _ H => E c d H) := takes_of rfl rfl rfl rfl
  show SsS _ _ _ ([] ++ ([2] ++ [])) _
  exact (ss_cons (s_expr (e_callC (ms := [none, none]) C_look_day tk hr (ea_cons (e_var 0) (ea_cons (e_var 1) ea_nil)) (by decide)))
    (ss_cons (s_set (i := 2) nd rfl (by first | exact Or.inl rfl | exact Or.inr rfl) (e_callC (ms := [none, none]) C_course_of tk hr (ea_cons (e_var 0) (ea_cons (e_var 1) ea_nil)) (by decide)))
    (ss_one (s_ret (e_and (e_cmp (op_eqD hr.units) cd_eq (e_ix ix_seq cd_ix (e_callM0 (i := 2) (ns := ns_Course) C_Course_more tk hr (by decide) (by decide +kernel)) e_int (fun _ _ => rfl)) e_int (nomark _)) (e_one (e_cmp op_le cd_cmp (e_callM0 (i := 2) (ns := ns_Course) C_Course_drift tk hr (by decide) (by decide +kernel)) e_int (nomark _))))))))
/-! wait_of -/
abbrev s_wait_of : Stmt := topS 27
theorem sc_wait_of : FnScope ["loader", "day", "number", "course"] ["loader", "day", "number"] (defScope s_wait_of) := ⟨rfl, rfl, rfl, by decide +kernel, rfl, by decide +kernel, by decide +kernel⟩
noncomputable def lb_wait_of_0 : M Fl :=
  (sExpr (callM "Course" ns_Course g_Course_beat 3 [] []))
abbrev is_wait_of : List Nat := ([] ++ (([] ++ []) ++ ([3] ++ (([] ++ []) ++ ([] ++ [])))))
noncomputable def b_wait_of : M Fl :=
  (sSeq (sExpr (callF g_look_day [none, none] [(eVar 0), (eVar 1)]))
    (sSeq (sIf (tNotD (tst (callF g_is_whole [none, none, none] [(eVar 2), (eD (.int 0)), (eD (.int 300))]))) (sRaise "BadNumber") sNext)
    (sSeq (sSet 3 (callF g_course_of [none, none] [(eVar 0), (eVar 1)]))
    (sSeq (sIf (tst (opN gEq [(eG (fG 3 "Course" ns_Course 3)), (eD (.int 0))])) (sRet (eD .non)) sNext)
    (sSeq (sWhile (tst (eG (opVr gXNotIn (vG 2) (fldV 3 "Course" ns_Course 6)))) lb_wait_of_0)
    (sRet (opN gSub [(eG (opV gXGet (fldV 3 "Course" ns_Course 6) [(vG 2)])), (eG (opV gIx (fldV 3 "Course" ns_Course 4) [(vG 2)]))])))))))
noncomputable def g_wait_of : List W → RF := mkFn is_wait_of 3 4 b_wait_of
theorem ok_wait_of {f : Addr} {fd : FuncData} (T : Facts K mg) (F : Fun K "wait_of" "wait_of" s_wait_of f fd) (C_look_day : Cal P w K mg base 5 "look_day" ["loader", "day"] g_look_day) (C_is_whole : Cal P w K mg base 1 "is_whole" ["thing", "least", "most"] g_is_whole) (C_course_of : Cal P w K mg base 5 "course_of" ["loader", "day"] g_course_of) (C_Course_beat : CalM P w K mg base 3 "Course" "beat" ["self"] g_Course_beat) : FnS P w K mg base 6 f fd ["loader", "day", "number"] g_wait_of := by
  refine fn_ok (is := is_wait_of) F sc_wait_of (fun cdv A outer s H E hr => ?_)
  have nd := sc_wait_of.nd
  have tk : Takes (cxOf (L2.CX P w) P w K mg base ["loader", "day", "number", "course"] "wait_of" (defScope s_wait_of) f cdv A outer s H E) (fun c d _ H => E c d H) := takes_of rfl rfl rfl rfl
  show SsS _ _ _ ([] ++ (([] ++ []) ++ ([3] ++ (([] ++ []) ++ ([] ++ []))))) _
  exact (ss_cons (s_expr (e_callC (ms := [none, none]) C_look_day tk hr (ea_cons (e_var 0) (ea_cons (e_var 1) ea_nil)) (by decide)))
    (ss_cons (s_if (t_not (t_val (e_callC (ms := [none, none, none]) C_is_whole tk hr (ea_cons (e_var 2) (ea_cons e_int (ea_cons e_int ea_nil))) (by decide)))) (ss_one (s_raiseC T.e_BadNumber tk)) ss_nil)
    (ss_cons (s_set (i := 3) nd rfl (by first | exact Or.inl rfl | exact Or.inr rfl) (e_callC (ms := [none, none]) C_course_of tk hr (ea_cons (e_var 0) (ea_cons (e_var 1) ea_nil)) (by decide)))
    (ss_cons (s_if (t_cmp (op_eqD hr.units) cd_eq (e_g (g_fld (i := 3) (c := "Course") (ns := ns_Course) (j := 3) T.k_Course nd_Course rfl)) e_int (nomark _)) (ss_one (s_ret e_non)) ss_nil)
    (ss_cons (s_while (passes_of rfl) (t_g (tg_cmpR (op_xNotInA (hu65 hr)) cd_xNotIn (g_var 2) (v_fld (i := 3) (c := "Course") (ns := ns_Course) (j := 6) T.k_Course nd_Course rfl) (by rfl))) (ss_one (s_expr (e_callM0 (i := 3) (ns := ns_Course) C_Course_beat tk hr (by decide) (by decide +kernel)))))
    (ss_one (s_ret (e_bin op_sub cd_sub (e_g (gv_xget (hu65 hr) (v_fld (i := 3) (c := "Course") (ns := ns_Course) (j := 6) T.k_Course nd_Course rfl) (g_var 2))) (e_g (gv_ix ix_seq cd_ix (v_fld (i := 3) (c := "Course") (ns := ns_Course) (j := 4) T.k_Course nd_Course rfl) (g_var 2) (fun _ _ => rfl)))))))))))
/-! most_singles -/
abbrev s_most_singles : Stmt := topS 28
theorem sc_most_singles : FnScope ["loader", "day", "course", "many", "persons", "left", "lacked"] ["loader", "day"] (defScope s_most_singles) := ⟨rfl, rfl, rfl, by decide +kernel, rfl, by decide +kernel, by decide +kernel⟩
abbrev is_most_singles : List Nat := ([] ++ ([2] ++ []))
noncomputable def b_most_singles : M Fl :=
  (sSeq (sExpr (callF g_look_day [none, none] [(eVar 0), (eVar 1)]))
    (sSeq (sSet 2 (callF g_course_of [none, none] [(eVar 0), (eVar 1)]))
    (sRet (callF g_share [none, none] [(opN gSum [(eComp (iterSeq (eG (opV gSlL (fldV 2 "Course" ns_Course 5) [(fG 2 "Course" ns_Course 7)]))) (([("many", 3), ("persons", 4), ("left", 5), ("lacked", 6)] : List (Str × Nat)).map (·.2)) (mTup (mCons (mName 3) (mCons (mName 4) (mCons (mName 5) (mCons (mName 6) mNil)))) 4) tYesD (eVar 5))]), (callM "Course" ns_Course g_Course_length 2 [] [])]))))
noncomputable def g_most_singles : List W → RF := mkFn is_most_singles 2 7 b_most_singles
theorem ok_most_singles {f : Addr} {fd : FuncData} (T : Facts K mg) (F : Fun K "most_singles" "most_singles" s_most_singles f fd) (C_look_day : Cal P w K mg base 5 "look_day" ["loader", "day"] g_look_day) (C_course_of : Cal P w K mg base 5 "course_of" ["loader", "day"] g_course_of) (C_share : Cal P w K mg base 1 "share" ["top", "below"] g_share) (C_Course_length : CalM P w K mg base 1 "Course" "length" ["self"] g_Course_length) : FnS P w K mg base 6 f fd ["loader", "day"] g_most_singles := by
  refine fn_ok (is := is_most_singles) F sc_most_singles (fun cdv A outer s H E hr => ?_)
  have nd := sc_most_singles.nd
  have tk : Takes (cxOf (L2.CX P w) P w K mg base ["loader", "day", "course", "many", "persons", "left", "lacked"] "most_singles" (defScope s_most_singles) f cdv A outer s H E) (fun c d _ H => E c d H) := takes_of rfl rfl rfl rfl
  show SsS _ _ _ ([] ++ ([2] ++ [])) _
  exact (ss_cons (s_expr (e_callC (ms := [none, none]) C_look_day tk hr (ea_cons (e_var 0) (ea_cons (e_var 1) ea_nil)) (by decide)))
    (ss_cons (s_set (i := 2) nd rfl (by first | exact Or.inl rfl | exact Or.inr rfl) (e_callC (ms := [none, none]) C_course_of tk hr (ea_cons (e_var 0) (ea_cons (e_var 1) ea_nil)) (by decide)))
    (ss_one (s_ret (e_callC (ms := [none, none]) C_share tk hr (ea_cons (e_callB (cr_sumA rfl) cd_sum (by rfl) T.b_sum (by decide +kernel) (ea_cons (e_comp rfl nd (i_seq (e_g (gv_slL (v_fld (i := 2) (c := "Course") (ns := ns_Course) (j := 5) T.k_Course nd_Course rfl) (g_fld (i := 2) (c := "Course") (ns := ns_Course) (j := 7) T.k_Course nd_Course rfl)))) (blkOk_by (own := [("many", 3), ("persons", 4), ("left", 5), ("lacked", 6)]) (by with_unfolding_all rfl)) (fun _ _ _ _ _ => (g_tup rfl (gs_cons (g_name (i := 3) nd rfl (by first | exact Or.inl rfl | exact Or.inr rfl)) (gs_cons (g_name (i := 4) nd rfl (by first | exact Or.inl rfl | exact Or.inr rfl)) (gs_cons (g_name (i := 5) nd rfl (by first | exact Or.inl rfl | exact Or.inr rfl)) (gs_cons (g_name (i := 6) nd rfl (by first | exact Or.inl rfl | exact Or.inr rfl)) gs_nil)))))) (fun _ _ _ _ _ => (e_var 5)) (by decide)) ea_nil)) (ea_cons (e_callM0 (i := 2) (ns := ns_Course) C_Course_length tk hr (by decide) (by decide +kernel)) ea_nil)) (by decide))))))
/-! law -/
abbrev s_law : Stmt := topS 33
theorem sc_law : FnScope ["script", "town", "seats", "loader", "alone", "far", "one", "two", "number", "none", "left", "turns_now", "even"] ["script"] (defScope s_law) := ⟨rfl, rfl, rfl, by decide +kernel, rfl, by decide +kernel, by decide +kernel⟩
abbrev is_law : List Nat := ([1] ++ ([2] ++ ([3] ++ ([4] ++ ([5] ++ ([6] ++ (([] ++ []) ++ (([] ++ []) ++ (([] ++ []) ++ ([7] ++ (([] ++ []) ++ ([8] ++ (([] ++ []) ++ ([9] ++ ([10] ++ (([] ++ []) ++ (([] ++ []) ++ ([11] ++ ([12] ++ (([] ++ []) ++ []))))))))))))))))))))
noncomputable def b_law : M Fl :=
  (sSeq (sSet 1 (callF g_law_town [none] [(eVar 0)]))
    (sSeq (sSet 2 (opN gAdd [(eD (.int 1)), (callF g_law_draw [none, some 1, none] [(eVar 0), (eVar 1), (eD (.int 6))])]))
    (sSeq (sSet 3 (dTup [(eVar 2), (callF g_law_draw [none, some 1, none] [(eVar 0), (eVar 1), (eD (.int 4))]), (callF g_law_draw [none, some 1, none] [(eVar 0), (eVar 1), (eD (.int 4))])]))
    (sSeq (sSet 4 (callF g_law_draw [none, some 1, none] [(eVar 0), (eVar 1), (eD (.int 10))]))
    (sSeq (sSet 5 (callF g_law_pick [none, some 1, none] [(eVar 0), (eVar 1), (dLst [(eD (.int 0)), (eD (.int 9)), (opN gPow [(eD (.int 10)), (eD (.int 9))]), (opN gPow [(eD (.int 10)), (eD (.int 17))])])]))
    (sSeq (sSet 6 (dTup [(dTup [(dTup [(eVar 2)]), (eVar 4)])]))
    (sSeq (sIf (tOrD (tst (opN gNe [(callF g_waiting [none, none, none] [(eVar 3), (eVar 6), (eVar 5)]), (dTup [(eD (.int 0)), (eD (.int 0)), (opN gMul [(eVar 4), (opN gAdd [(eVar 5), (eD (.int 1))])])])])) (tst (opN gNe [(callF g_grows [none, none] [(eVar 3), (eVar 6)]), (dTup [(dTup [(eD (.int 0)), (eD (.int 1))]), (dTup [(eVar 4), (eD (.int 1))])])]))) (sRet (eD (.bl false))) sNext)
    (sSeq (sIf (tOrD (tst (opN gNe [(callF g_settled [none, none] [(eVar 3), (eVar 6)]), (opN gEq [(eVar 4), (eD (.int 0))])])) (tst (opN gNe [(callF g_most_singles [none, none] [(eVar 3), (eVar 6)]), (dTup [(eD (.int 0)), (eD (.int 1))])]))) (sRet (eD (.bl false))) sNext)
    (sSeq (sIf (tst (opN gNe [(callF g_wait_of [none, none, none] [(eVar 3), (eVar 6), (eD (.int 7))]), (eD (.int 0))])) (sRet (eD (.bl false))) sNext)
    (sSeq (sSet 7 (dTup [(dTup [(dTup [(eVar 2), (eVar 2)]), (eD (.int 0))])]))
    (sSeq (sIf (tOrD (tst (opN gNe [(callF g_waiting [none, none, none] [(eVar 3), (eVar 7), (eVar 5)]), (dTup [(opN gAdd [(eVar 5), (eD (.int 1))]), (opN gMul [(eVar 2), (opN gAdd [(eVar 5), (eD (.int 1))])]), (eD (.int 0))])])) (tst (opN gNe [(callF g_grows [none, none] [(eVar 3), (eVar 7)]), (dTup [(dTup [(eD (.int 1)), (eD (.int 1))]), (dTup [(eD (.int 0)), (eD (.int 1))])])]))) (sRet (eD (.bl false))) sNext)
    (sSeq (sSet 8 (callF g_law_draw [none, some 1, none] [(eVar 0), (eVar 1), (eD (.int 300))]))
    (sSeq (sIf (tOrD (tst (opN gNe [(callF g_wait_of [none, none, none] [(eVar 3), (eVar 7), (eVar 8)]), (opN gSub [(eVar 8), (opN gDiv [(eVar 8), (eD (.int 2))])])])) (tst (opN gIsNot [(callF g_settled [none, none] [(eVar 3), (eVar 7)]), (eD (.bl false))]))) (sRet (eD (.bl false))) sNext)
    (sSeq (sSet 9 (dTup [(dTup [(dTup []), (eVar 4)])]))
    (sSeq (sSet 10 (opN gMax [(eD (.int 0)), (opN gSub [(eVar 4), (eVar 2)])]))
    (sSeq (sIf (tOrD (tst (opN gNe [(callF g_waiting [none, none, none] [(eVar 3), (eVar 9), (eVar 5)]), (dTup [(eD (.int 0)), (eD (.int 0)), (opN gMul [(eVar 10), (opN gAdd [(eVar 5), (eD (.int 1))])])])])) (tst (opN gIsNot [(callF g_wait_of [none, none, none] [(eVar 3), (eVar 9), (eD (.int 3))]), (eD .non)]))) (sRet (eD (.bl false))) sNext)
    (sSeq (sIf (tOrD (tst (opN gNe [(callF g_most_singles [none, none] [(eVar 3), (eVar 9)]), (dTup [(eVar 2), (eD (.int 1))])])) (tst (opN gNe [(callF g_settled [none, none] [(eVar 3), (eVar 9)]), (opN gLe [(eVar 4), (eVar 2)])]))) (sRet (eD (.bl false))) sNext)
    (sSeq (sSet 11 (dTup [(dTup [(dTup [(eVar 2), (eVar 2)]), (eVar 4)]), (dTup [(dTup []), (eVar 4)])]))
    (sSeq (sSet 12 (eIf (tst (opN gEq [(opN gMod [(eVar 5), (eD (.int 2))]), (eD (.int 0))])) (eD (.int 1)) (eD (.int 0))))
    (sSeq (sIf (tst (opN gNe [(callF g_waiting [none, none, none] [(eVar 3), (eVar 11), (eVar 5)]), (dTup [(eVar 12), (opN gMul [(eVar 2), (eVar 12)]), (opN gMul [(eVar 4), (opN gAdd [(eVar 5), (eD (.int 1))])])])])) (sRet (eD (.bl false))) sNext)
    (sRet (vAnd (opN gEq [(callF g_grows [none, none] [(eVar 3), (eVar 11)]), (dTup [(dTup [(eD (.int 0)), (eD (.int 1))]), (dTup [(eVar 4), (eD (.int 1))])])]) (opN gEq [(callF g_most_singles [none, none] [(eVar 3), (eVar 11)]), (dTup [(eD (.int 0)), (eD (.int 1))])])))))))))))))))))))))))
noncomputable def g_law : List W → RF := mkFn is_law 1 13 b_law
theorem ok_law {f : Addr} {fd : FuncData} (T : Facts K mg) (F : Fun K "law" "law" s_law f fd) (C_law_town : Cal P w K mg base 1 "_law_town" ["script"] g_law_town) (C_law_draw : Cal P w K mg base 1 "_law_draw" ["script", "town", "many"] g_law_draw) (C_law_pick : Cal P w K mg base 2 "_law_pick" ["script", "town", "some"] g_law_pick) (C_waiting : Cal P w K mg base 6 "waiting" ["loader", "day", "beat"] g_waiting) (C_grows : Cal P w K mg base 6 "grows" ["loader", "day"] g_grows) (C_settled : Cal P w K mg base 6 "settled" ["loader", "day"] g_settled) (C_most_singles : Cal P w K mg base 6 "most_singles" ["loader", "day"] g_most_singles) (C_wait_of : Cal P w K mg base 6 "wait_of" ["loader", "day", "number"] g_wait_of) : FnS P w K mg base 7 f fd ["script"] g_law := by
  refine fn_ok (is := is_law) F sc_law (fun cdv A outer s H E hr => ?_)
  have nd := sc_law.nd
  have tk : Takes (cxOf (L2.CX P w) P w K mg base ["script", "town", "seats", "loader", "alone", "far", "one", "two", "number", "none", "left", "turns_now", "even"] "law" (defScope s_law) f cdv A outer s H E) (fun c d _ H => E c d H) := takes_of rfl rfl rfl rfl
  show SsS _ _ _ ([1] ++ ([2] ++ ([3] ++ ([4] ++ ([5] ++ ([6] ++ (([] ++ []) ++ (([] ++ []) ++ (([] ++ []) ++ ([7] ++ (([] ++ []) ++ ([8] ++ (([] ++ []) ++ ([9] ++ ([10] ++ (([] ++ []) ++ (([] ++ []) ++ ([11] ++ ([12] ++ (([] ++ []) ++ [])))))))))))))))))))) _
  exact (ss_cons (s_set (i := 1) nd rfl (by first | exact Or.inl rfl | exact Or.inr rfl) (e_callC (ms := [none]) C_law_town tk hr (ea_cons (e_var 0) ea_nil) (by decide)))
    (ss_cons (s_set (i := 2) nd rfl (by first | exact Or.inl rfl | exact Or.inr rfl) (e_bin op_addA cd_add e_int (e_callC (ms := [none, some 1, none]) C_law_draw tk hr (ea_cons (e_var 0) (ea_cons (e_var 1) (ea_cons e_int ea_nil))) (by decide))))
    (ss_cons (s_set (i := 3) nd rfl (by first | exact Or.inl rfl | exact Or.inr rfl) (e_tup (ea_cons (e_var 2) (ea_cons (e_callC (ms := [none, some 1, none]) C_law_draw tk hr (ea_cons (e_var 0) (ea_cons (e_var 1) (ea_cons e_int ea_nil))) (by decide)) (ea_cons (e_callC (ms := [none, some 1, none]) C_law_draw tk hr (ea_cons (e_var 0) (ea_cons (e_var 1) (ea_cons e_int ea_nil))) (by decide)) ea_nil)))))
    (ss_cons (s_set (i := 4) nd rfl (by first | exact Or.inl rfl | exact Or.inr rfl) (e_callC (ms := [none, some 1, none]) C_law_draw tk hr (ea_cons (e_var 0) (ea_cons (e_var 1) (ea_cons e_int ea_nil))) (by decide)))
    (ss_cons (s_set (i := 5) nd rfl (by first | exact Or.inl rfl | exact Or.inr rfl) (e_callC (ms := [none, some 1, none]) C_law_pick tk hr (ea_cons (e_var 0) (ea_cons (e_var 1) (ea_cons (e_lst (ea_cons e_int (ea_cons e_int (ea_cons (e_bin op_pow cd_pow e_int e_int) (ea_cons (e_bin op_pow cd_pow e_int e_int) ea_nil))))) ea_nil))) (by decide)))
    (ss_cons (s_set (i := 6) nd rfl (by first | exact Or.inl rfl | exact Or.inr rfl) (e_tup (ea_cons (e_tup (ea_cons (e_tup (ea_cons (e_var 2) ea_nil)) (ea_cons (e_var 4) ea_nil))) ea_nil)))
    (ss_cons (s_if (t_w (w_or (t_cmp (op_neD hr.units) cd_ne (e_callC (ms := [none, none, none]) C_waiting tk hr (ea_cons (e_var 3) (ea_cons (e_var 6) (ea_cons (e_var 5) ea_nil))) (by decide)) (e_tup (ea_cons e_int (ea_cons e_int (ea_cons (e_bin op_mulA cd_mul (e_var 4) (e_bin op_addA cd_add (e_var 5) e_int)) ea_nil)))) (nomark _)) (w_or1 (t_cmp (op_neD hr.units) cd_ne (e_callC (ms := [none, none]) C_grows tk hr (ea_cons (e_var 3) (ea_cons (e_var 6) ea_nil)) (by decide)) (e_tup (ea_cons (e_tup (ea_cons e_int (ea_cons e_int ea_nil))) (ea_cons (e_tup (ea_cons (e_var 4) (ea_cons e_int ea_nil))) ea_nil))) (nomark _))))) (ss_one (s_ret e_bl)) ss_nil)
    (ss_cons (s_if (t_w (w_or (t_cmp (op_neD hr.units) cd_ne (e_callC (ms := [none, none]) C_settled tk hr (ea_cons (e_var 3) (ea_cons (e_var 6) ea_nil)) (by decide)) (e_cmp (op_eqD hr.units) cd_eq (e_var 4) e_int (nomark _)) (nomark _)) (w_or1 (t_cmp (op_neD hr.units) cd_ne (e_callC (ms := [none, none]) C_most_singles tk hr (ea_cons (e_var 3) (ea_cons (e_var 6) ea_nil)) (by decide)) (e_tup (ea_cons e_int (ea_cons e_int ea_nil))) (nomark _))))) (ss_one (s_ret e_bl)) ss_nil)
    (ss_cons (s_if (t_cmp (op_neD hr.units) cd_ne (e_callC (ms := [none, none, none]) C_wait_of tk hr (ea_cons (e_var 3) (ea_cons (e_var 6) (ea_cons e_int ea_nil))) (by decide)) e_int (nomark _)) (ss_one (s_ret e_bl)) ss_nil)
    (ss_cons (s_set (i := 7) nd rfl (by first | exact Or.inl rfl | exact Or.inr rfl) (e_tup (ea_cons (e_tup (ea_cons (e_tup (ea_cons (e_var 2) (ea_cons (e_var 2) ea_nil))) (ea_cons e_int ea_nil))) ea_nil)))
    (ss_cons (s_if (t_w (w_or (t_cmp (op_neD hr.units) cd_ne (e_callC (ms := [none, none, none]) C_waiting tk hr (ea_cons (e_var 3) (ea_cons (e_var 7) (ea_cons (e_var 5) ea_nil))) (by decide)) (e_tup (ea_cons (e_bin op_addA cd_add (e_var 5) e_int) (ea_cons (e_bin op_mulA cd_mul (e_var 2) (e_bin op_addA cd_add (e_var 5) e_int)) (ea_cons e_int ea_nil)))) (nomark _)) (w_or1 (t_cmp (op_neD hr.units) cd_ne (e_callC (ms := [none, none]) C_grows tk hr (ea_cons (e_var 3) (ea_cons (e_var 7) ea_nil)) (by decide)) (e_tup (ea_cons (e_tup (ea_cons e_int (ea_cons e_int ea_nil))) (ea_cons (e_tup (ea_cons e_int (ea_cons e_int ea_nil))) ea_nil))) (nomark _))))) (ss_one (s_ret e_bl)) ss_nil)
    (ss_cons (s_set (i := 8) nd rfl (by first | exact Or.inl rfl | exact Or.inr rfl) (e_callC (ms := [none, some 1, none]) C_law_draw tk hr (ea_cons (e_var 0) (ea_cons (e_var 1) (ea_cons e_int ea_nil))) (by decide)))
    (ss_cons (s_if (t_w (w_or (t_cmp (op_neD hr.units) cd_ne (e_callC (ms := [none, none, none]) C_wait_of tk hr (ea_cons (e_var 3) (ea_cons (e_var 7) (ea_cons (e_var 8) ea_nil))) (by decide)) (e_bin op_sub cd_sub (e_var 8) (e_bin op_fdiv cd_div (e_var 8) e_int)) (nomark _)) (w_or1 (t_cmp op_isNotA cd_isNot (e_callC (ms := [none, none]) C_settled tk hr (ea_cons (e_var 3) (ea_cons (e_var 7) ea_nil)) (by decide)) e_bl (nomark _))))) (ss_one (s_ret e_bl)) ss_nil)
    (ss_cons (s_set (i := 9) nd rfl (by first | exact Or.inl rfl | exact Or.inr rfl) (e_tup (ea_cons (e_tup (ea_cons (e_tup ea_nil) (ea_cons (e_var 4) ea_nil))) ea_nil)))
    (ss_cons (s_set (i := 10) nd rfl (by first | exact Or.inl rfl | exact Or.inr rfl) (e_callB (call_maxA rfl) cd_max (by rfl) T.b_max (by decide +kernel) (ea_cons e_int (ea_cons (e_bin op_sub cd_sub (e_var 4) (e_var 2)) ea_nil))))
    (ss_cons (s_if (t_w (w_or (t_cmp (op_neD hr.units) cd_ne (e_callC (ms := [none, none, none]) C_waiting tk hr (ea_cons (e_var 3) (ea_cons (e_var 9) (ea_cons (e_var 5) ea_nil))) (by decide)) (e_tup (ea_cons e_int (ea_cons e_int (ea_cons (e_bin op_mulA cd_mul (e_var 10) (e_bin op_addA cd_add (e_var 5) e_int)) ea_nil)))) (nomark _)) (w_or1 (t_cmp op_isNotA cd_isNot (e_callC (ms := [none, none, none]) C_wait_of tk hr (ea_cons (e_var 3) (ea_cons (e_var 9) (ea_cons e_int ea_nil))) (by decide)) e_non (nomark _))))) (ss_one (s_ret e_bl)) ss_nil)
    (ss_cons (s_if (t_w (w_or (t_cmp (op_neD hr.units) cd_ne (e_callC (ms := [none, none]) C_most_singles tk hr (ea_cons (e_var 3) (ea_cons (e_var 9) ea_nil)) (by decide)) (e_tup (ea_cons (e_var 2) (ea_cons e_int ea_nil))) (nomark _)) (w_or1 (t_cmp (op_neD hr.units) cd_ne (e_callC (ms := [none, none]) C_settled tk hr (ea_cons (e_var 3) (ea_cons (e_var 9) ea_nil)) (by decide)) (e_cmp op_le cd_cmp (e_var 4) (e_var 2) (nomark _)) (nomark _))))) (ss_one (s_ret e_bl)) ss_nil)
    (ss_cons (s_set (i := 11) nd rfl (by first | exact Or.inl rfl | exact Or.inr rfl) (e_tup (ea_cons (e_tup (ea_cons (e_tup (ea_cons (e_var 2) (ea_cons (e_var 2) ea_nil))) (ea_cons (e_var 4) ea_nil))) (ea_cons (e_tup (ea_cons (e_tup ea_nil) (ea_cons (e_var 4) ea_nil))) ea_nil))))
    (ss_cons (s_set (i := 12) nd rfl (by first | exact Or.inl rfl | exact Or.inr rfl) (e_if (t_cmp (op_eqD hr.units) cd_eq (e_bin op_mod cd_mod (e_var 5) e_int) e_int (nomark _)) e_int e_int))
    (ss_cons (s_if (t_cmp (op_neD hr.units) cd_ne (e_callC (ms := [none, none, none]) C_waiting tk hr (ea_cons (e_var 3) (ea_cons (e_var 11) (ea_cons (e_var 5) ea_nil))) (by decide)) (e_tup (ea_cons (e_var 12) (ea_cons (e_bin op_mulA cd_mul (e_var 2) (e_var 12)) (ea_cons (e_bin op_mulA cd_mul (e_var 4) (e_bin op_addA cd_add (e_var 5) e_int)) ea_nil)))) (nomark _)) (ss_one (s_ret e_bl)) ss_nil)
    (ss_one (s_ret (e_and (e_cmp (op_eqD hr.units) cd_eq (e_callC (ms := [none, none]) C_grows tk hr (ea_cons (e_var 3) (ea_cons (e_var 11) ea_nil)) (by decide)) (e_tup (ea_cons (e_tup (ea_cons e_int (ea_cons e_int ea_nil))) (ea_cons (e_tup (ea_cons (e_var 4) (ea_cons e_int ea_nil))) ea_nil))) (nomark _)) (e_one (e_cmp (op_eqD hr.units) cd_eq (e_callC (ms := [none, none]) C_most_singles tk hr (ea_cons (e_var 3) (ea_cons (e_var 11) ea_nil)) (by decide)) (e_tup (ea_cons e_int (ea_cons e_int ea_nil))) (nomark _))))))))))))))))))))))))))
end
end Lw

namespace Lw
open PySem PySem.Spec PyProof.Rows L2 DL
/-! ### the plain words: rows, a loader, a line -/
abbrev Row := Int × Int × Int
def dR (r : Row) : D := .tup [.int r.1, .int r.2.1, .int r.2.2]
def dL (s l p : Int) : D := .tup [.int s, .int l, .int p]
def dI (ns : List Int) : D := .tup (ns.map D.int)
theorem en_row : En dR 2 := ⟨fun x y => by
    unfold dR
    rw [deq_tups, all_cons, all_cons, all_cons, all_nil, deq_int, deq_int, deq_int]
    obtain ⟨a, b, c⟩ := x
    obtain ⟨a', b', c'⟩ := y
    by_cases h1 : a = a' <;> by_cases h2 : b = b' <;> by_cases h3 : c = c' <;> simp [h1, h2, h3], fun x m hm => by
    cases m with
    | zero => omega
    | succ m => cases m with
      | zero => omega
      | succ m => rfl⟩
def nextAt (p room : Int) : List Row → Option Nat
  | [] => none
  | r :: rs => if r.2.1 ≤ room then some 0 else if p ≤ r.2.2 then none else (nextAt p room rs).map (· + 1)
def bump (rs : List Row) : List Row := rs.map fun r => (r.1, r.2.1, r.2.2 + 1)
def loadGo (l p : Int) : Nat → Int → List Row → List Row × List Row
  | 0, _, rows => ([], rows)
  | n + 1, room, rows => match nextAt p room (rows.take (l + 1).toNat) with
    | none => ([], rows)
    | some j => match rows[j]? with
      | none => ([], rows)
      | some r => let q := loadGo l p n (room - r.2.1) (bump (rows.take j) ++ rows.drop (j + 1)); (r :: q.1, q.2)
def allGo (s l p : Int) : Nat → List Row → List (List Row)
  | 0, _ => []
  | _ + 1, [] => []
  | n + 1, r :: rs => let q := loadGo l p (r :: rs).length s (r :: rs); q.1 :: allGo s l p n q.2
def rows0 (line : List Int) : List Row := line.zipIdx.map fun q => ((q.2 : Nat), q.1, 0)
def allM (s l p : Int) (line : List Int) : List (List Row) := allGo s l p line.length (rows0 line)
def chairsM (s l p : Int) (line : List Int) : List (List Int) := (allM s l p line).map fun sit => sortI (sit.map (·.1))
def emptM (s l p : Int) (line : List Int) : List Int := (allM s l p line).map fun sit => s - (sit.map (·.2.1)).sum
def okLd (s l p : Int) : Prop := (1 ≤ s ∧ s ≤ 6) ∧ (0 ≤ l ∧ l ≤ 3) ∧ (0 ≤ p ∧ p ≤ 3)
def okLn (s : Int) (line : List Int) : Prop := line.length ≤ 24 ∧ ∀ x ∈ line, 1 ≤ x ∧ x ≤ s
/-! ### what the defs tell -/
theorem ev_is_whole (i a b : Int) : g_is_whole [.v (.int i), .v (.int a), .v (.int b)] = .ok (.v (.bl (decide (a ≤ i ∧ i ≤ b)))) [.v (.int i), .v (.int a), .v (.int b)] := by
  simp [g_is_whole, b_is_whole]
  by_cases h : a ≤ i <;> simp [h]
theorem ev_is_loader {s l p : Int} (h : okLd s l p) : g_is_loader [.v (dL s l p)] = .ok (.v (.bl true)) [.v (dL s l p)] := by
  obtain ⟨⟨h1, h2⟩, ⟨h3, h4⟩, h5, h6⟩ := h
  simp [g_is_loader, b_is_loader, dL, atI_of, ev_is_whole, h1, h2, h3, h4, h5, h6]
theorem ev_look_loader {s l p : Int} (h : okLd s l p) : g_look_loader [.v (dL s l p)] = .ok (.v .non) [.v (dL s l p)] := by
  simp [g_look_loader, b_look_loader, ev_is_loader h]
theorem ev_are_groups {s l p n : Int} {line : List Int} (h : ∀ x ∈ line, 1 ≤ x ∧ x ≤ s) (hl : line.length ≤ 1000) : g_are_groups [.v (dL s l p), .v (dI line), .v (.int n)] = .ok (.v (.bl (decide (line.length ≤ n)))) [.v (dL s l p), .v (dI line), .v (.int n)] := by
  by_cases hn : (line.length : Int) ≤ n
  · simp [g_are_groups, b_are_groups, dI, hn]
    rw [comp_map (ψ := fun _ => D.bl true) line (fun x hx rest => by simp [compD, dL, atI_of, ev_is_whole, h x hx])]
    simp [gAll, show line.length ≤ 1000000 by omega]
    rw [show List.map (fun _ => D.bl true) line = (line.map fun _ => true).map D.bl by simp, blsOf_map]
    simp
  · simp [g_are_groups, b_are_groups, dI, hn]
theorem for_next {s l p room : Int} {rows : W} : ∀ (rs : List Row) (k : Nat) (x3 x4 x5 x6 : Option D),
    (∃ j, nextAt p room rs = some j ∧ ∃ e : DEnv, e[1]? = some (some rows) ∧ forD m_next_of_0 lb_next_of_0 (((rs.map dR).zipIdx k).map fun q => D.tup [.int (q.2 : Nat), q.1]) [some (.v (dL s l p)), some rows, some (.v (.int room)), x3.map .v, x4.map .v, x5.map .v, x6.map .v] = .ok (.ret (.w (.v (.int ((k + j : Nat) : Int))))) e) ∨
    (nextAt p room rs = none ∧ ∃ e : DEnv, e[1]? = some (some rows) ∧ (forD m_next_of_0 lb_next_of_0 (((rs.map dR).zipIdx k).map fun q => D.tup [.int (q.2 : Nat), q.1]) [some (.v (dL s l p)), some rows, some (.v (.int room)), x3.map .v, x4.map .v, x5.map .v, x6.map .v] = .ok (.ret (.w (.v .non))) e ∨ forD m_next_of_0 lb_next_of_0 (((rs.map dR).zipIdx k).map fun q => D.tup [.int (q.2 : Nat), q.1]) [some (.v (dL s l p)), some rows, some (.v (.int room)), x3.map .v, x4.map .v, x5.map .v, x6.map .v] = .ok .next e))
  | [], k, x3, x4, x5, x6 => .inr ⟨rfl, _, rfl, .inr rfl⟩
  | r :: rs, k, x3, x4, x5, x6 => by
    by_cases h1 : r.2.1 ≤ room
    · refine .inl ⟨0, by simp [nextAt, h1], ?_⟩
      simp [forD, m_next_of_0, lb_next_of_0, dR, h1]
    · by_cases h2 : p ≤ r.2.2
      · refine .inr ⟨by simp [nextAt, h1, h2], ?_⟩
        simp [forD, m_next_of_0, lb_next_of_0, dR, dL, h1, h2, atI_of]
      · have st : ∀ ds, forD m_next_of_0 lb_next_of_0 (D.tup [.int (k : Nat), dR r] :: ds) [some (.v (dL s l p)), some rows, some (.v (.int room)), x3.map .v, x4.map .v, x5.map .v, x6.map .v] = forD m_next_of_0 lb_next_of_0 ds [some (.v (dL s l p)), some rows, some (.v (.int room)), some (.v (.int (k : Nat))), some (.v (.int r.1)), some (.v (.int r.2.1)), some (.v (.int r.2.2))] := by
          intro ds
          rw [forD]
          simp [m_next_of_0, lb_next_of_0, dR, dL, h1, h2, atI_of]
        simp only [List.map_cons, List.zipIdx_cons, st]
        rcases for_next (s := s) (l := l) (p := p) (room := room) (rows := rows) rs (k + 1) (some (.int (k : Nat))) (some (.int r.1)) (some (.int r.2.1)) (some (.int r.2.2)) with ⟨j, h3, e, he, h4⟩ | ⟨h3, h4⟩
        · refine .inl ⟨j + 1, by simp [nextAt, h1, h2, h3], e, he, ?_⟩
          refine h4.trans ?_
          congr 6
          omega
        · exact .inr ⟨by simp [nextAt, h1, h2, h3], h4⟩
def optD : Option Nat → D
  | none => .non
  | some j => .int (j : Nat)
theorem ev_next_of {s l p room : Int} (rows : List Row) (hl : 0 ≤ l) : g_next_of [.v (dL s l p), .v (.lst (rows.map dR)), .v (.int room)] = .ok (.v (optD (nextAt p room (rows.take (l + 1).toNat)))) [.v (dL s l p), .v (.lst (rows.map dR)), .v (.int room)] := by
  have hi : atI [D.int s, D.int l, D.int p] 1 = some (D.int l) := by simp [atI_of]
  have e1 : cutA (rows.map dR) none (some (l + 1)) = (rows.take (l + 1).toNat).map dR := by rw [cutA_hi (by omega), List.map_take]
  rcases for_next (s := s) (l := l) (p := p) (room := room) (rows := .v (.lst (rows.map dR))) (rows.take (l + 1).toNat) 0 none none none none with ⟨j, h3, e, he, h4⟩ | ⟨h3, e, he, h4 | h4⟩
  all_goals
    simp only [dL, Option.map_none, List.map_take, Nat.zero_add] at h4
    simp [g_next_of, b_next_of, dL, hi, e1, pairs0, h3, optD]
    simp [h4, he]
theorem ev_next_ofL {s l p room : Int} (rows : List Row) (hl : 0 ≤ l) : g_next_of [.v (dL s l p), .l true (rows.map dR), .v (.int room)] = .ok (.v (optD (nextAt p room (rows.take (l + 1).toNat)))) [.v (dL s l p), .l true (rows.map dR), .v (.int room)] := by
  have hi : atI [D.int s, D.int l, D.int p] 1 = some (D.int l) := by simp [atI_of]
  have e1 : cutA (rows.map dR) none (some (l + 1)) = (rows.take (l + 1).toNat).map dR := by rw [cutA_hi (by omega), List.map_take]
  rcases for_next (s := s) (l := l) (p := p) (room := room) (rows := .l true (rows.map dR)) (rows.take (l + 1).toNat) 0 none none none none with ⟨j, h3, e, he, h4⟩ | ⟨h3, e, he, h4 | h4⟩
  all_goals
    simp only [dL, Option.map_none, List.map_take, Nat.zero_add] at h4
    simp [g_next_of, b_next_of, dL, hi, e1, pairs0, h3, optD]
    simp [h4, he]
theorem nextAt_lt {p room : Int} : ∀ {rs : List Row} {j : Nat}, nextAt p room rs = some j → j < rs.length
  | [], j, h => by cases h
  | r :: rs, j, h => by
    unfold nextAt at h
    by_cases h1 : r.2.1 ≤ room
    · rw [if_pos h1] at h; cases h; simp
    · rw [if_neg h1] at h
      by_cases h2 : p ≤ r.2.2
      · rw [if_pos h2] at h; cases h
      · rw [if_neg h2] at h
        obtain ⟨k, hk, rfl⟩ := Option.map_eq_some_iff.mp h
        have := nextAt_lt hk
        simp; omega
/-- a list that a name holds: one's own, or for good -/
def holds (b : Bool) (ds : List D) : W := if b then .l false ds else .v (.lst ds)
theorem body_loaded {s l p room : Int} (hl : 0 ≤ l) (b : Bool) (rows sit : List Row) (x4 : Option D) (h6 : rows.length ≤ 1000) (h7 : sit.length ≤ 1000) :
    lb_loaded_0 [some (.v (dL s l p)), some (holds b (rows.map dR)), some (.v (.int room)), some (.l false (sit.map dR)), x4.map .v, none, none, none] = match nextAt p room (rows.take (l + 1).toNat) with
      | none => .ok (.ret (.w (.v (.tup [.lst (sit.map dR), .lst (rows.map dR)])))) [some (.v (dL s l p)), some (.v (.lst (rows.map dR))), some (.v (.int room)), some (.v (.lst (sit.map dR))), some (.v .non), none, none, none]
      | some j => match rows[j]? with
        | none => .stuck
        | some r => .ok .next [some (.v (dL s l p)), some (.l false ((bump (rows.take j) ++ rows.drop (j + 1)).map dR)), some (.v (.int (room - r.2.1))), some (.l false ((sit ++ [r]).map dR)), some (.v (.int (j : Nat))), none, none, none] := by
  have hi : atI [D.int s, D.int l, D.int p] 1 = some (D.int l) := by simp [atI_of]
  cases hn : nextAt p room (rows.take (l + 1).toNat) with
  | none =>
    cases b <;> simp [lb_loaded_0, holds, ev_next_of _ hl, hn, optD]
  | some j =>
    have hj : j < rows.length := Nat.lt_of_lt_of_le (nextAt_lt hn) (by simp; omega)
    have hr : rows[j]? = some rows[j] := List.getElem?_eq_getElem hj
    have h8 : cutA (rows.map dR) none (some (j : Int)) = (rows.take j).map dR := by rw [cutA_hi (by omega), List.map_take]; rfl
    have h9 : cutA (rows.map dR) (some ((j : Int) + 1)) none = (rows.drop (j + 1)).map dR := by rw [cutA_lo (by omega), List.map_drop]; rfl
    have ha : atI (rows.map dR) (j : Int) = some (dR rows[j]) := by rw [atI_map, atI_of (by omega)]; simp [hr]
    have e5 : (bump (rows.take j)).length + (rows.drop (j + 1)).length ≤ 1000000 := by simp [bump]; omega
    have e6 : (rows.take j).length + (rows.drop (j + 1)).length ≤ 1000000 := by simp; omega
    have hz : sit.length < 1000000 := by omega
    have hlen : (rows.take j).length ≤ 1000000 := by simp; omega
    simp only [hr]
    cases b
    all_goals
      simp [-List.map_take, -List.map_drop, -List.length_take, -List.length_drop, lb_loaded_0, holds, ev_next_of _ hl, hn, optD, ha, h9, h8, dR, atI_of, hz]
      rw [comp_map (enc := dR) (ψ := fun r => dR (r.1, r.2.1, r.2.2 + 1)) (rows.take j) (fun x hx rest => by simp [compD, dR])]
      simp [-List.map_take, -List.map_drop, -List.length_take, -List.length_drop, hlen, h9, e6]
      simp [-List.map_take, -List.map_drop, bump, dR, List.map_map]
theorem loop_loaded {s l p : Int} (hl : 0 ≤ l) : ∀ (n : Nat) (room : Int) (b : Bool) (rows sit : List Row) (x4 : Option D), rows.length ≤ n → sit.length + rows.length ≤ 1000 →
    ∃ e, sWhile (tst (eD (.bl true))) lb_loaded_0 [some (.v (dL s l p)), some (holds b (rows.map dR)), some (.v (.int room)), some (.l false (sit.map dR)), x4.map .v, none, none, none] = .ok (.ret (.w (.v (.tup [.lst ((sit ++ (loadGo l p n room rows).1).map dR), .lst ((loadGo l p n room rows).2.map dR)])))) e
  | 0, room, b, rows, sit, x4, h, h2 => by
    have : rows = [] := List.eq_nil_of_length_eq_zero (by omega)
    subst this
    rw [sWhile_step]
    simp only [tst, eD, R.bind_ok, dat, datW, if_true, W.opq, if_false, Bool.false_eq_true]
    rw [body_loaded hl b [] sit x4 (by simp) (by simp at h2; omega)]
    simp [nextAt, loadGo]
  | n + 1, room, b, rows, sit, x4, h, h2 => by
    rw [sWhile_step]
    simp only [tst, eD, R.bind_ok, dat, datW, if_true, W.opq, if_false, Bool.false_eq_true]
    rw [body_loaded hl b rows sit x4 (by omega) (by omega), loadGo]
    cases hn : nextAt p room (rows.take (l + 1).toNat) with
    | none => simp
    | some j =>
      have hj : j < rows.length := Nat.lt_of_lt_of_le (nextAt_lt hn) (by simp; omega)
      have hr : rows[j]? = some rows[j] := List.getElem?_eq_getElem hj
      simp only [hr]
      have hlen : (bump (rows.take j) ++ rows.drop (j + 1)).length = rows.length - 1 := by simp [bump]; omega
      obtain ⟨e, he⟩ := loop_loaded hl n (room - rows[j].2.1) true (bump (rows.take j) ++ rows.drop (j + 1)) (sit ++ [rows[j]]) (some (.int (j : Nat))) (by omega) (by simp only [List.length_append, List.length_singleton] at hlen ⊢; omega)
      refine ⟨e, ?_⟩
      rw [R.bind_ok]
      refine he.trans ?_
      simp
theorem ev_loaded {s l p : Int} (hl : 0 ≤ l) (rows : List Row) (h : rows.length ≤ 1000) : g_loaded [.v (dL s l p), .v (.lst (rows.map dR))] = .ok (.v (.tup [.lst ((loadGo l p rows.length s rows).1.map dR), .lst ((loadGo l p rows.length s rows).2.map dR)])) [.v (dL s l p), .v (.lst (rows.map dR))] := by
  obtain ⟨e, he⟩ := loop_loaded (s := s) (p := p) hl rows.length s false rows [] none (Nat.le_refl _) (by simp; omega)
  simp only [holds, Option.map_none, List.map_nil, List.nil_append, if_false, Bool.false_eq_true] at he
  have hi : atI [D.int s, D.int l, D.int p] 0 = some (D.int s) := by simp [atI_of]
  simp only [dL] at he
  simp [g_loaded, b_loaded, dL, hi]
  simp [he]
theorem loadGo_len {l p : Int} : ∀ (n : Nat) (room : Int) (rows : List Row), (loadGo l p n room rows).1.length + (loadGo l p n room rows).2.length = rows.length
  | 0, room, rows => by simp [loadGo]
  | n + 1, room, rows => by
    rw [loadGo]
    cases hn : nextAt p room (rows.take (l + 1).toNat) with
    | none => simp
    | some j =>
      cases hr : rows[j]? with
      | none => simp [hr]
      | some r =>
        have hj2 : j < rows.length := (List.getElem?_eq_some_iff.mp hr).1
        have := loadGo_len (l := l) (p := p) n (room - r.2.1) (bump (rows.take j) ++ rows.drop (j + 1))
        simp [bump] at this
        simp [bump, hr]
        omega
theorem loadGo_first {s l p : Int} (hl : 0 ≤ l) (r : Row) (rs : List Row) (n : Nat) (h : r.2.1 ≤ s) : loadGo l p (n + 1) s (r :: rs) = (r :: (loadGo l p n (s - r.2.1) rs).1, (loadGo l p n (s - r.2.1) rs).2) := by
  rw [loadGo]
  obtain ⟨k, hk⟩ : ∃ k, (l + 1).toNat = k + 1 := ⟨l.toNat, by omega⟩
  rw [hk]
  simp [nextAt, h, bump]
theorem loadGo_lt {s l p : Int} (hl : 0 ≤ l) (r : Row) (rs : List Row) (n : Nat) (h : r.2.1 ≤ s) : (loadGo l p (n + 1) s (r :: rs)).2.length ≤ rs.length := by
  rw [loadGo_first hl r rs n h]
  have := loadGo_len (l := l) (p := p) n (s - r.2.1) rs
  show (loadGo l p n (s - r.2.1) rs).2.length ≤ _
  omega
theorem loadGo_mem {l p : Int} : ∀ (n : Nat) (room : Int) (rows : List Row) (q : Row), q ∈ (loadGo l p n room rows).1 ∨ q ∈ (loadGo l p n room rows).2 → ∃ r ∈ rows, r.1 = q.1 ∧ r.2.1 = q.2.1
  | 0, room, rows, q => fun h => by
    simp [loadGo] at h
    exact ⟨q, h, rfl, rfl⟩
  | n + 1, room, rows, q => by
    rw [loadGo]
    cases hn : nextAt p room (rows.take (l + 1).toNat) with
    | none => intro h; simp at h; exact ⟨q, h, rfl, rfl⟩
    | some j =>
      cases hr : rows[j]? with
      | none => intro h; simp [hr] at h; exact ⟨q, h, rfl, rfl⟩
      | some r =>
        intro h
        simp only [hr, List.mem_cons] at h
        have hr2 : r ∈ rows := List.mem_of_getElem? hr
        have key : ∀ q', (q' ∈ (loadGo l p n (room - r.2.1) (bump (rows.take j) ++ rows.drop (j + 1))).1 ∨ q' ∈ (loadGo l p n (room - r.2.1) (bump (rows.take j) ++ rows.drop (j + 1))).2) → ∃ r ∈ rows, r.1 = q'.1 ∧ r.2.1 = q'.2.1 := fun q' h' => by
          obtain ⟨r', h1, h2, h3⟩ := loadGo_mem n _ _ q' h'
          rcases List.mem_append.mp h1 with h1 | h1
          · obtain ⟨r2, h4, rfl⟩ := List.mem_map.mp h1
            exact ⟨r2, List.mem_of_mem_take h4, h2, h3⟩
          · exact ⟨r', List.mem_of_mem_drop h1, h2, h3⟩
        rcases h with (rfl | h) | h
        · exact ⟨_, hr2, rfl, rfl⟩
        · exact key q (.inl h)
        · exact key q (.inr h)/-! the town, draws -/
def TownOk (ns : List Int) (k : Nat) (town : List D) : Prop := ∃ xs : List Int, town = .int (k : Int) :: xs.map D.int ∧ xs.length = ns.length
theorem ev_law_town (ns : List Int) (h : ns.length ≤ 63) : ∃ town, g_law_town [.v (.scr ns)] = .ok (.l false town) [.v (.scr ns)] ∧ TownOk ns 0 town := by
  refine ⟨_, ?_, ns, rfl, rfl⟩
  have : 1 + ns.length ≤ 1000000 := by omega
  simp [-List.map_map, -List.map_take, -List.map_drop, g_law_town, b_law_town, this]
theorem ixN_of {n : Nat} {i : Int} (h : 0 ≤ i) (h2 : i < n) : ixN n i = some i.toNat := by
  unfold ixN; rw [if_pos h, if_pos h2]
theorem ev_draw {ns : List Int} {k : Nat} {town : List D} {m : Int} (ht : TownOk ns k town) (hk : k < 2 ^ 40) (hm : 0 < m) (hm2 : m < 1073741824) :
    ∃ v town', g_law_draw [.v (.scr ns), .l true town, .v (.int m)] = .ok (.v (.int v)) [.v (.scr ns), .l true town', .v (.int m)] ∧ (0 ≤ v ∧ v < m) ∧ TownOk ns (k + 1) town' := by
  obtain ⟨xs, rfl, hx⟩ := ht
  have i0 : ∀ n : Nat, ixN (n + 1) 0 = some 0 := fun n => ixN_of (by omega) (by omega)
  have a0 : ∀ (d : D) (ds : List D), atI (d :: ds) 0 = some d := fun d ds => by rw [atI_of (by omega)]; rfl
  have k1 : ((k : Int) + 1).natAbs < 2 ^ 64 := by omega
  by_cases h0 : ns = []
  · subst h0
    refine ⟨(k + 1) * (k + 1) * 7 / 3 % m, .int (k + 1) :: xs.map D.int, ?_, ⟨Int.emod_nonneg _ (by omega), Int.emod_lt_of_pos _ hm⟩, xs, by simp, hx⟩
    simp [-List.map_map, -List.map_take, -List.map_drop, g_law_draw, b_law_draw, a0, i0, gMul, k1, hm]
  · have hl : 0 < ns.length := List.length_pos_iff.mpr h0
    have b0 : 0 ≤ ((k : Int) + 1) % (ns.length : Int) := Int.emod_nonneg _ (by omega)
    have b1 : ((k : Int) + 1) % (ns.length : Int) < ns.length := Int.emod_lt_of_pos _ (by omega)
    generalize ha : ((k : Int) + 1) % (ns.length : Int) = a at b0 b1
    have hk2 : a.toNat < ns.length := by omega
    have e1 : atI ns a = some ns[a.toNat] := by rw [atI_of b0, List.getElem?_eq_getElem hk2]
    have e2 : atI (D.int ((k : Int) + 1) :: xs.map D.int) (1 + a) = some (D.int (xs[a.toNat]'(by omega))) := by
      rw [atI_of (by omega), show (1 + a).toNat = a.toNat + 1 by omega, List.getElem?_cons_succ, List.getElem?_map, List.getElem?_eq_getElem (by omega)]
      rfl
    have hl2 : (0 : Int) < (ns.length : Int) := by omega
    generalize hx2 : xs[a.toNat]'(by omega) = left at e2
    generalize ns[a.toNat] = sa at e1
    have e3 : ixN (xs.length + 1) (1 + a) = some (a.toNat + 1) := by
      rw [ixN_of (by omega) (by omega)]
      congr 1
      omega
    have p1 : (0 : Int) ≤ 18 ∧ (18 : Int) ≤ 1000 ∧ (10 : Int).natAbs < 2 ^ 64 := by decide
    by_cases c : 1000000000000000000 ≤ sa ∧ 0 < left
    · refine ⟨left % m, .int ((k : Int) + 1) :: (xs.set a.toNat (left / m)).map D.int, ?_, ⟨Int.emod_nonneg _ (by omega), Int.emod_lt_of_pos _ hm⟩, xs.set a.toNat (left / m), by simp [-List.map_map, -List.map_take, -List.map_drop, List.map_set], by simp [-List.map_map, -List.map_take, -List.map_drop, hx]⟩
      simp [-List.map_map, -List.map_take, -List.map_drop, g_law_draw, b_law_draw, a0, i0, hl, hl2, ha, e1, e2, e3, h0, gPow, p1, c.1, c.2, hm, hm2, List.map_set]
    · have n0 : 0 ≤ (sa + 104729 * ((k : Int) + 1)) % 4294967291 := Int.emod_nonneg _ (by decide)
      have n1 : (sa + 104729 * ((k : Int) + 1)) % 4294967291 < 4294967291 := Int.emod_lt_of_pos _ (by decide)
      have n2 : ((sa + 104729 * ((k : Int) + 1)) % 4294967291).natAbs < 2 ^ 64 := by omega
      have hc : ¬ (1000000000000000000 ≤ sa ∧ 0 < left) := c
      refine ⟨_, .int ((k : Int) + 1) :: xs.map D.int, ?_, ⟨Int.emod_nonneg ((((sa + 104729 * ((k : Int) + 1)) % 4294967291) ^ 5 % 4294967279 / 64 * 69621 + ((sa + 104729 * ((k : Int) + 1)) % 4294967291) ^ 5 % 4294967279) % 4294967231 / 8) (by omega), Int.emod_lt_of_pos _ hm⟩, xs, by simp, hx⟩
      by_cases c1 : 1000000000000000000 ≤ sa
      · have c2 : ¬ 0 < left := fun z => hc ⟨c1, z⟩
        simp [-List.map_map, -List.map_take, -List.map_drop, g_law_draw, b_law_draw, a0, i0, hl, hl2, ha, e1, e2, e3, h0, gPow, p1, c1, c2, hm, hm2, gMul, n2]
      · simp [-List.map_map, -List.map_take, -List.map_drop, g_law_draw, b_law_draw, a0, i0, hl, hl2, ha, e1, e2, e3, h0, gPow, p1, c1, hm, hm2, gMul, n2]
/-! ### rows stay right -/
theorem nextAt_pass {p room : Int} : ∀ {rs : List Row} {j : Nat}, nextAt p room rs = some j → ∀ r ∈ rs.take j, r.2.2 < p ∧ room < r.2.1
  | [], j, h => by cases h
  | r :: rs, j, h => by
    unfold nextAt at h
    by_cases h1 : r.2.1 ≤ room
    · rw [if_pos h1] at h; cases h; simp [-List.map_map, -List.map_take, -List.map_drop]
    · rw [if_neg h1] at h
      by_cases h2 : p ≤ r.2.2
      · rw [if_pos h2] at h; cases h
      · rw [if_neg h2] at h
        obtain ⟨k, hk, rfl⟩ := Option.map_eq_some_iff.mp h
        intro q hq
        rw [List.take_succ_cons] at hq
        rcases List.mem_cons.mp hq with rfl | hq
        · omega
        · exact nextAt_pass hk q hq
def okR (N : Nat) (s p : Int) (r : Row) : Prop := (0 ≤ r.1 ∧ r.1 < N) ∧ (1 ≤ r.2.1 ∧ r.2.1 ≤ s) ∧ (0 ≤ r.2.2 ∧ r.2.2 ≤ p)
theorem loadGo_ok {N : Nat} {s l p : Int} : ∀ (n : Nat) (room : Int) (rows : List Row), (∀ r ∈ rows, okR N s p r) → (∀ r ∈ (loadGo l p n room rows).1, okR N s p r) ∧ ∀ r ∈ (loadGo l p n room rows).2, okR N s p r
  | 0, room, rows, h => by simp only [loadGo]; exact ⟨by simp, h⟩
  | n + 1, room, rows, h => by
    rw [loadGo]
    cases hn : nextAt p room (rows.take (l + 1).toNat) with
    | none => exact ⟨by simp, h⟩
    | some j =>
      cases hr : rows[j]? with
      | none => simp only [hr]; exact ⟨by simp, h⟩
      | some r =>
        have hr2 : r ∈ rows := List.mem_of_getElem? hr
        have hj := nextAt_lt hn
        obtain ⟨i1, i2⟩ := loadGo_ok (l := l) n (room - r.2.1) (bump (rows.take j) ++ rows.drop (j + 1)) (fun q hq => by
          rcases List.mem_append.mp hq with hq | hq
          · obtain ⟨q2, h4, rfl⟩ := List.mem_map.mp hq
            have h5 := h q2 (List.mem_of_mem_take h4)
            have h6 := nextAt_pass hn q2 (by
              rw [List.take_take, Nat.min_eq_left (by simp [-List.map_map, -List.map_take, -List.map_drop] at hj; omega)]
              exact h4)
            exact ⟨h5.1, h5.2.1, by have := h5.2.2.1; show 0 ≤ q2.2.2 + 1; omega, by have := h6.1; show q2.2.2 + 1 ≤ p; omega⟩
          · exact h q (List.mem_of_mem_drop hq))
        simp only [hr]
        refine ⟨fun q hq => ?_, i2⟩
        rcases List.mem_cons.mp hq with rfl | hq
        · exact h _ hr2
        · exact i1 q hq/-! ### running a law -/
def Runs (f : M Fl) (env : DEnv) (d : D) : Prop := ∃ e, f env = .ok (.ret (.w (.v d))) e
theorem law_ret {is : List Nat} {n nl : Nat} {f : M Fl} {ns : List Int} (hk : keeps is [.v (.scr ns)] = true) (hn : n = 1) (h : Runs f (some (.v (.scr ns)) :: List.replicate (nl - n) none) (.bl true)) : ∃ ws, mkFn is n nl f [.v (.scr ns)] = .ok (.v (.bl true)) ws := by
  obtain ⟨e, h⟩ := h
  refine ⟨[.v (.scr ns)], ?_⟩
  unfold mkFn
  rw [if_pos ⟨hk, hn.symm⟩]
  show (match f (some (.v (.scr ns)) :: List.replicate (nl - n) none) with | .ok (.ret u) env => _ | .ok .next env => _ | .raise c env => _ | _ => _) = _
  rw [h]
  rfl
theorem run_seq {a b : M Fl} {env e : DEnv} {d : D} (h : a env = .ok .next e) (h2 : Runs b e d) : Runs (sSeq a b) env d := by
  obtain ⟨e2, h2⟩ := h2
  refine ⟨e2, ?_⟩
  rw [sSeq_ap, h]
  exact h2
def rangeI (lo hi : Int) : List Int := (List.range (hi - lo).toNat).map fun i => lo + (i : Nat)
theorem rangeD_eq (lo hi : Int) : rangeD lo hi = (rangeI lo hi).map D.int := by
  unfold rangeD rangeI; rw [List.map_map]; rfl
theorem en_dI : En dI 2 := en_tup en_int
theorem rep_dI (x : Int) (n : Nat) : D.tup (List.replicate n [D.int x]).flatten = dI (List.replicate n x) := by
  unfold dI
  congr 1
  induction n with
  | zero => rfl
  | succ n ih => rw [List.replicate_succ, List.flatten_cons, ih, List.replicate_succ]; rfl
theorem run_ret {f : M U} {env e : DEnv} {d : D} (h : f env = .ok (.w (.v d)) e) : Runs (sRet f) env d := ⟨e, by rw [sRet_ap, h]; rfl⟩
theorem loop_share {a b : D} : ∀ (n : Nat) (x y : Nat), y ≤ n → sWhile (tst (opN gNe [(eVar 3), (eD (.int 0))])) lb_share_0 [some (.v a), some (.v b), some (.v (.int (x : Nat))), some (.v (.int (y : Nat)))] = .ok .next [some (.v a), some (.v b), some (.v (.int ((Nat.gcd y x : Nat) : Int))), some (.v (.int 0))]
  | n, x, 0, _ => by
    rw [sWhile_step]
    simp
  | 0, x, y + 1, h => by omega
  | n + 1, x, y + 1, h => by
    have hlt : x % (y + 1) < y + 1 := Nat.mod_lt _ (by omega)
    have ih := loop_share (a := a) (b := b) n (y + 1) (x % (y + 1)) (by omega)
    have e1 : ((x : Int) % ((y + 1 : Nat) : Int)) = ((x % (y + 1) : Nat) : Int) := (Int.natCast_emod _ _).symm
    have st : lb_share_0 [some (.v a), some (.v b), some (.v (.int (x : Nat))), some (.v (.int ((y + 1 : Nat) : Int)))] = .ok .next [some (.v a), some (.v b), some (.v (.int ((y + 1 : Nat) : Int))), some (.v (.int ((x % (y + 1) : Nat) : Int)))] := by
      have hp : (0 : Int) < ((y + 1 : Nat) : Int) := by omega
      generalize hz : ((y + 1 : Nat) : Int) = z at *
      have g1 : gMod [.int (x : Int), .int z] = some (.v (.int ((x % (y + 1) : Nat) : Int))) := by rw [← e1]; exact if_pos hp
      simp [lb_share_0, g1, -gMod_c0]
    have tt : tst (opN gNe [(eVar 3), (eD (.int 0))]) [some (.v a), some (.v b), some (.v (.int (x : Nat))), some (.v (.int ((y + 1 : Nat) : Int)))] = .ok true [some (.v a), some (.v b), some (.v (.int (x : Nat))), some (.v (.int ((y + 1 : Nat) : Int)))] := by
      have : ¬ (((y + 1 : Nat) : Int) = 0) := by omega
      generalize ((y + 1 : Nat) : Int) = z at *
      simp [this]
    rw [sWhile_step, tt, R.bind_ok, if_pos rfl, st, R.bind_ok]
    dsimp only
    rw [ih, Nat.gcd_rec (y + 1) x]
theorem ev_share {a b : Nat} (hb : 0 < b) (hb2 : b < 1000000000) : g_share [.v (.int (a : Nat)), .v (.int (b : Nat))] = .ok (.v (.tup [.int ((a / Nat.gcd b a : Nat) : Int), .int ((b / Nat.gcd b a : Nat) : Int)])) [.v (.int (a : Nat)), .v (.int (b : Nat))] := by
  have lp := loop_share (a := .int (a : Nat)) (b := .int (b : Nat)) b a b (Nat.le_refl _)
  have hg : 0 < Nat.gcd b a := Nat.gcd_pos_of_pos_left _ hb
  have hg2 : Nat.gcd b a ≤ b := Nat.gcd_le_left _ hb
  have d1 : gDiv [.int (a : Nat), .int ((Nat.gcd b a : Nat) : Int)] = some (.v (.int ((a / Nat.gcd b a : Nat) : Int))) := by rw [Int.natCast_ediv]; exact if_pos (by omega)
  have d2 : gDiv [.int (b : Nat), .int ((Nat.gcd b a : Nat) : Int)] = some (.v (.int ((b / Nat.gcd b a : Nat) : Int))) := by rw [Int.natCast_ediv]; exact if_pos (by omega)
  generalize ((Nat.gcd b a : Nat) : Int) = q at lp d1 d2
  generalize ((a / Nat.gcd b a : Nat) : Int) = q1 at d1 ⊢
  generalize ((b / Nat.gcd b a : Nat) : Int) = q2 at d2 ⊢
  rw [g_share, mkFn_ap, b_share]
  simp [lp, d1, d2, -gDiv_c0]
theorem sum_ints : ∀ xs : List Int, gSum [.lst (xs.map D.int)] = some (.v (.int xs.sum)) := fun xs => by
  unfold gSum
  simp only
  rw [intsOf_map]
  rfl
/-! ### ranges -/
theorem iterR1_of {f : M U} {n : Int} {env e : DEnv} (h : f env = .ok (.w (.v (.int n))) e) (b1 : -1000000 ≤ n) (b2 : n ≤ 1000000) : iterR1 f env = .ok (rangeD 0 n) e := by
  have hb : -2 ^ 62 ≤ n ∧ n < 2 ^ 62 := by
    constructor
    · exact Int.le_trans (by decide) b1
    · exact Int.lt_of_le_of_lt b2 (by decide)
  rw [iterR1_ap, show evs [f] env = .ok [.w (.v (.int n))] e by simp [h]]
  exact if_pos hb
theorem iterR2_of {f g : M U} {m n : Int} {env e1 e : DEnv} (hf : f env = .ok (.w (.v (.int m))) e1) (h : g e1 = .ok (.w (.v (.int n))) e) (a1 : -1000000 ≤ m) (a2 : m ≤ 1000000) (b1 : -1000000 ≤ n) (b2 : n ≤ 1000000) : iterR2 f g env = .ok (rangeD m n) e := by
  have hb : (-2 ^ 62 ≤ m ∧ m < 2 ^ 62) ∧ (-2 ^ 62 ≤ n ∧ n < 2 ^ 62) :=
    ⟨⟨Int.le_trans (by decide) a1, Int.lt_of_le_of_lt a2 (by decide)⟩, Int.le_trans (by decide) b1, Int.lt_of_le_of_lt b2 (by decide)⟩
  rw [iterR2_ap, show evs [f, g] env = .ok [.w (.v (.int m)), .w (.v (.int n))] e by simp [hf, h]]
  exact if_pos hb
theorem len_dI {i : Nat} {env : DEnv} {xs : List Int} (h : env[i]? = some (some (.v (dI xs)))) : opN gLen [eVar i] env = .ok (.w (.v (.int (xs.length : Nat)))) env := by
  have : eVar i env = .ok (.w (.v (dI xs))) env := by unfold eVar; rw [h]
  rw [opN_ap, show evs [eVar i] env = .ok [.w (.v (dI xs))] env by simp [h]]
  simp [dI]
theorem call_of {g : List W → RF} {ms : List (Option Nat)} {fs : List (M U)} {env e1 e2 e3 : DEnv} {us : List U} {l : List (Option D)} {ws ws' : List W} {w : W} (h1 : evs fs env = .ok us e1) (h2 : frzM ms e1 us = some (l, e2)) (h3 : takeW e2 ms l = some ws) (h4 : g ws = .ok w ws') (h5 : putW ms ws' e2 = some e3) : callF g ms fs env = .ok (.w w) e3 := by
  rw [callF_ap, h1, R.bind_ok, h2]
  dsimp only
  rw [h3]
  dsimp only
  rw [h4]
  dsimp only
  rw [h5]
/-! ### big steps -/
theorem opN_of {g : List D → Option W} {fs : List (M U)} {env e : DEnv} {us : List U} {ds : List D} {w : W} (h1 : evs fs env = .ok us e) (h2 : datL e us = some ds) (h3 : g ds = some w) : opN g fs env = .ok (.w w) e := by
  rw [opN_ap, h1, R.bind_ok, h2]
  dsimp only
  rw [h3]
theorem tst_of {f : M U} {env e : DEnv} {b : Bool} (h : f env = .ok (.w (.v (.bl b))) e) : tst f env = .ok b e := by
  rw [tst_ap, h]
  rfl
theorem if_no {t : M Bool} {a b : M Fl} {env e : DEnv} (h : t env = .ok false e) : sIf t a b env = b e := by
  rw [sIf_ap, h]
  rfl
theorem if_yes {t : M Bool} {a b : M Fl} {env e : DEnv} (h : t env = .ok true e) : sIf t a b env = a e := by
  rw [sIf_ap, h]
  rfl
theorem if_skip {t : M Bool} {a : M Fl} {env e : DEnv} (h : t env = .ok false e) : sIf t a sNext env = .ok .next e := by
  rw [if_no h]
  rfl
theorem evs2 {f g : M U} {env e1 e2 : DEnv} {u v : U} (h1 : f env = .ok u e1) (h2 : g e1 = .ok v e2) : evs [f, g] env = .ok [u, v] e2 := by
  rw [evs_cons, h1, R.bind_ok, evs_cons, h2, R.bind_ok, evs_nil, R.bind_ok, R.bind_ok]
theorem evs1 {f : M U} {env e1 : DEnv} {u : U} (h1 : f env = .ok u e1) : evs [f] env = .ok [u] e1 := by
  rw [evs_cons, h1, R.bind_ok, evs_nil, R.bind_ok]
theorem or_no {a b : M Bool} {env e1 e2 : DEnv} {k : Bool} (h1 : a env = .ok false e1) (h2 : b e1 = .ok k e2) : tOrD a b env = .ok k e2 := by
  rw [tOrD_ap, h1, R.bind_ok]
  exact h2
theorem and_no {a b : M Bool} {env e1 : DEnv} (h1 : a env = .ok false e1) : tAndD a b env = .ok false e1 := by
  rw [tAndD_ap, h1, R.bind_ok]
  rfl
theorem and_yes {a b : M Bool} {env e1 e2 : DEnv} {k : Bool} (h1 : a env = .ok true e1) (h2 : b e1 = .ok k e2) : tAndD a b env = .ok k e2 := by
  rw [tAndD_ap, h1, R.bind_ok]
  exact h2
theorem set_v {i : Nat} {f : M U} {env e e' : DEnv} {d : D} (h : f env = .ok (.w (.v d)) e) (h2 : setS i (.v d) e = some e') : sSet i f env = .ok .next e' := by
  rw [sSet_ap, h, R.bind_ok]
  show (match setS i (.v d) e with | some e3 => R.ok Fl.next e3 | none => R.stuck) = _
  rw [h2]
theorem set_l {i : Nat} {f : M U} {env e e' : DEnv} {ds : List D} (h : f env = .ok (.w (.l false ds)) e) (h2 : setS i (.l false ds) e = some e') : sSet i f env = .ok .next e' := by
  rw [sSet_ap, h, R.bind_ok]
  show (match setS i (.l false ds) e with | some e3 => R.ok Fl.next e3 | none => R.stuck) = _
  rw [h2]
theorem call2_v {g : List W → RF} {f1 f2 : M U} {env : DEnv} {d1 d2 : D} {w : W} (h1 : f1 env = .ok (.w (.v d1)) env) (h2 : f2 env = .ok (.w (.v d2)) env) (h : g [.v d1, .v d2] = .ok w [.v d1, .v d2]) : callF g [none, none] [f1, f2] env = .ok (.w w) env :=
  call_of (evs2 h1 h2) (l := [some d1, some d2]) (e2 := env) rfl rfl h rfl
theorem ev_law_pick {ns : List Int} {k : Nat} {town ds : List D} (T0 : TownOk ns k town) (hk : k < 2 ^ 40) (h1 : ds ≠ []) (h2 : ds.length ≤ 1000) :
    ∃ d t', d ∈ ds ∧ g_law_pick [.v (.scr ns), .l true town, .v (.lst ds)] = .ok (.v d) [.v (.scr ns), .l true t', .v (.lst ds)] ∧ TownOk ns (k + 1) t' := by
  have hp : 0 < ds.length := List.length_pos_iff.mpr h1
  obtain ⟨v, t1, e1, b1, T1⟩ := ev_draw (m := (ds.length : Nat)) T0 hk (by omega) (by omega)
  have hv : v.toNat < ds.length := by omega
  refine ⟨ds[v.toNat], t1, List.getElem_mem hv, ?_, T1⟩
  rw [g_law_pick, mkFn_ap, b_law_pick]
  have ha : atI ds v = some ds[v.toNat] := by rw [atI_of b1.1, List.getElem?_eq_getElem hv]
  simp [e1, ha]
end Lw

namespace Lw
open PySem PySem.Spec PyProof.Rows L2 DL
/-! ### a day's course: what its methods tell -/
abbrev BT := Int × Int × Int × Bool
def dB (x : BT) : D := .tup [.int x.1, .int x.2.1, .int x.2.2.1, .bl x.2.2.2]
abbrev Day := List (List Int × Int)
def dDay (day : Day) : D := .tup (day.map fun q => .tup [dI q.1, .int q.2])
def crs (b : Bool) (ld : D) (day : Day) (rows : List Row) (arr : Int) (beg : List D) (bts : List BT) (sd : W0) (bgn : D) : W := .x (.o b "Course" ns_Course [.v ld, .v (dDay day), .l (rows.map dR), .v (.int arr), .l beg, .l (bts.map dB), sd, .v bgn])
section
variable {b : Bool} {ld : D} {day : Day} {rows : List Row} {arr : Int} {beg : List D} {bts : List BT} {sd : W0} {bgn : D}
theorem ev_length {n : Nat} (hn : bgn = .int (n : Nat)) : g_Course_length [crs b ld day rows arr beg bts sd bgn] = .ok (.v (.int ((bts.length : Int) - (n : Int)))) [crs b ld day rows arr beg bts sd bgn] := by
  subst hn
  rw [g_Course_length, mkFn_ap, b_Course_length]
  unfold crs
  simp
theorem ev_behind_neg : g_Course_behind [crs b ld day rows arr beg bts sd bgn, .v (.int (-1))] = .ok (.v (.tup [.int 0, .int 0])) [crs b ld day rows arr beg bts sd bgn, .v (.int (-1))] := by
  rw [g_Course_behind, mkFn_ap, b_Course_behind]
  unfold crs
  simp
theorem ev_behind {k : Nat} {x : BT} (h : bts[k]? = some x) : g_Course_behind [crs b ld day rows arr beg bts sd bgn, .v (.int (k : Nat))] = .ok (.v (.tup [.int x.1, .int x.2.1])) [crs b ld day rows arr beg bts sd bgn, .v (.int (k : Nat))] := by
  have ha : atI (bts.map dB) (k : Int) = some (dB x) := by rw [atI_of (by omega), show ((k : Nat) : Int).toNat = k by omega, List.getElem?_map, h]; rfl
  have hk : (k : Int) ≥ 0 := by omega
  have hc : cutA [D.int x.1, D.int x.2.1, D.int x.2.2.1, D.bl x.2.2.2] none (some 2) = [D.int x.1, D.int x.2.1] := by rw [cutA_hi (by omega)]; rfl
  rw [g_Course_behind, mkFn_ap, b_Course_behind]
  unfold crs
  generalize ((k : Nat) : Int) = kk at *
  rw [show dB x = D.tup [.int x.1, .int x.2.1, .int x.2.2.1, .bl x.2.2.2] from rfl] at ha
  simp [ha, hk, hc]
/-- the singles behind c beats from a on -/
def sf (sg lf : Nat → Int) : Nat → Nat → Int → Int
  | _, 0, m => m
  | a, c + 1, m => sf sg lf (a + 1) c (if m + sg a - lf a > 0 then m + sg a - lf a else 0)
def sgD (day : Day) (k : Nat) : Int := (day.getD (k % day.length) ([], 0)).2
def lfB (bts : List BT) (k : Nat) : Int := (bts.getD k (0, 0, 0, false)).2.2.1
theorem day_at (hd : 0 < day.length) (k : Nat) : atI (day.map fun q => D.tup [dI q.1, D.int q.2]) ((k : Int) % (day.length : Int)) = some (.tup [dI (day.getD (k % day.length) ([], 0)).1, .int (sgD day k)]) := by
  have h3 : k % day.length < day.length := Nat.mod_lt _ hd
  rw [← Int.natCast_emod, atI_of (by omega), show ((k % day.length : Nat) : Int).toNat = k % day.length by omega, List.getElem?_map]
  unfold sgD
  simp [h3]
theorem body_sf {k : Nat} {m m2 m3 : Int} {x4 : Option D} (hd : 0 < day.length) (hd2 : day.length < 1000) (hk : k < bts.length) :
    lb_Course_singles_from_0 [some (crs true ld day rows arr beg bts sd bgn), some (.v (.int m)), some (.v (.int m2)), some (.v (.int m3)), some (.v (.int (k : Nat)))] = .ok .next [some (crs true ld day rows arr beg bts sd bgn), some (.v (.int (if m + sgD day k - lfB bts k > 0 then m + sgD day k - lfB bts k else 0))), some (.v (.int m2)), some (.v (.int m3)), some (.v (.int (k : Nat)))] := by
  have da := day_at hd k
  have hm : gMod [.int (k : Nat), .int (day.length : Nat)] = some (.v (.int ((k : Int) % (day.length : Int)))) := if_pos (by omega)
  have ba : atI (bts.map dB) (k : Int) = some (dB bts[k]) := by rw [atI_of (by omega), show ((k : Nat) : Int).toNat = k by omega, List.getElem?_map, List.getElem?_eq_getElem hk]; rfl
  have bl : lfB bts k = bts[k].2.2.1 := by unfold lfB; simp [hk]
  rw [bl]
  have a1 : atI [dI (day.getD (k % day.length) ([], 0)).1, D.int (sgD day k)] 1 = some (.int (sgD day k)) := by simp [atI_of]
  have a2 : atI [D.int bts[k].1, D.int bts[k].2.1, D.int bts[k].2.2.1, D.bl bts[k].2.2.2] 2 = some (.int bts[k].2.2.1) := by simp [atI_of]
  have hl : gLen [dDay day] = some (.v (.int (day.length : Nat))) := by simp [dDay]
  unfold lb_Course_singles_from_0 crs
  rw [show dB bts[k] = D.tup [.int bts[k].1, .int bts[k].2.1, .int bts[k].2.2.1, .bl bts[k].2.2.2] from rfl] at ba
  have hdd : dDay day = .tup (day.map fun q => D.tup [dI q.1, D.int q.2]) := rfl
  rw [hdd] at hl ⊢
  generalize (day.map fun q => D.tup [dI q.1, D.int q.2]) = dd at *
  generalize dI (day.getD (k % day.length) ([], 0)).1 = gd at *
  generalize ((k : Nat) : Int) = kk at *
  generalize kk % (day.length : Int) = km at *
  generalize sgD day k = sk at *
  simp [hl, hm, da, ba, a1, a2, gMax, -gMod_c0]
theorem for_sf {m2 m3 : Int} (hd : 0 < day.length) (hd2 : day.length < 1000) : ∀ (c a : Nat) (m : Int) (x4 : Option D), a + c ≤ bts.length →
    ∃ y4 : Option D, forD m_Course_singles_from_0 lb_Course_singles_from_0 ((List.range' a c).map fun k => D.int ((k : Nat) : Int)) [some (crs true ld day rows arr beg bts sd bgn), some (.v (.int m)), some (.v (.int m2)), some (.v (.int m3)), x4.map .v] = .ok .next [some (crs true ld day rows arr beg bts sd bgn), some (.v (.int (sf (sgD day) (lfB bts) a c m))), some (.v (.int m2)), some (.v (.int m3)), y4.map .v]
  | 0, a, m, x4, _ => ⟨x4, rfl⟩
  | c + 1, a, m, x4, h => by
    have bd := body_sf (ld := ld) (rows := rows) (arr := arr) (beg := beg) (sd := sd) (bgn := bgn) (k := a) (m := m) (m2 := m2) (m3 := m3) (x4 := x4) hd hd2 (show a < bts.length by omega)
    obtain ⟨y4, ih⟩ := for_sf (m2 := m2) (m3 := m3) hd hd2 c (a + 1) (if m + sgD day a - lfB bts a > 0 then m + sgD day a - lfB bts a else 0) (some (.int (a : Nat))) (by omega)
    refine ⟨y4, ?_⟩
    have em : m_Course_singles_from_0 (D.int ((a : Nat) : Int)) [some (crs true ld day rows arr beg bts sd bgn), some (.v (.int m)), some (.v (.int m2)), some (.v (.int m3)), x4.map .v] = some [some (crs true ld day rows arr beg bts sd bgn), some (.v (.int m)), some (.v (.int m2)), some (.v (.int m3)), some (.v (.int (a : Nat)))] := by
      cases x4 <;> simp [m_Course_singles_from_0]
    rw [List.range'_succ, List.map_cons, forD, em]
    show R.bind (lb_Course_singles_from_0 _) _ = _
    rw [bd, R.bind_ok]
    exact ih
theorem range_D' (a c : Nat) : rangeD (a : Nat) ((a + c : Nat) : Int) = (List.range' a c).map fun k => D.int ((k : Nat) : Int) := by
  unfold rangeD
  rw [show (((a + c : Nat) : Int) - (a : Int)).toNat = c by omega, List.range'_eq_map_range, List.map_map]
  refine List.map_congr_left fun k _ => ?_
  show D.int ((a : Int) + (k : Int)) = D.int ((a + k : Nat) : Int)
  rw [Int.natCast_add]
theorem sfC {b : Bool} {itf : M (List D)} {ws : List W0} {d1 d2 d3 res : D} {zs : List D} {y4 : Option W} (it : itf [some (.x (.o true "Course" ns_Course ws)), some (.v d1), some (.v d2), some (.v d3), none] = .ok zs [some (.x (.o true "Course" ns_Course ws)), some (.v d1), some (.v d2), some (.v d3), none])
    (lf : forD m_Course_singles_from_0 lb_Course_singles_from_0 zs [some (.x (.o true "Course" ns_Course ws)), some (.v d1), some (.v d2), some (.v d3), none] = .ok .next [some (.x (.o true "Course" ns_Course ws)), some (.v res), some (.v d2), some (.v d3), y4]) :
    mkFn is_Course_singles_from 4 5 (sSeq (sFor itf m_Course_singles_from_0 lb_Course_singles_from_0) (sRet (eVar 1))) [.x (.o b "Course" ns_Course ws), .v d1, .v d2, .v d3] = .ok (.v res) [.x (.o b "Course" ns_Course ws), .v d1, .v d2, .v d3] := by
  rw [mkFn_ap]
  cases b <;> simp [it, lf]
theorem ev_sf {a c : Nat} {m : Int} (hd : 0 < day.length) (hd2 : day.length < 1000) (h : a + c ≤ bts.length) (hb : bts.length ≤ 100000) : g_Course_singles_from [crs b ld day rows arr beg bts sd bgn, .v (.int m), .v (.int (a : Nat)), .v (.int ((a + c : Nat) : Int))] = .ok (.v (.int (sf (sgD day) (lfB bts) a c m))) [crs b ld day rows arr beg bts sd bgn, .v (.int m), .v (.int (a : Nat)), .v (.int ((a + c : Nat) : Int))] := by
  obtain ⟨y4, lf⟩ := for_sf (ld := ld) (rows := rows) (arr := arr) (beg := beg) (sd := sd) (bgn := bgn) (m2 := (a : Nat)) (m3 := ((a + c : Nat) : Int)) hd hd2 c a m none h
  have it : iterR2 (eVar 2) (eVar 3) [some (crs true ld day rows arr beg bts sd bgn), some (.v (.int m)), some (.v (.int (a : Nat))), some (.v (.int ((a + c : Nat) : Int))), none] = .ok ((List.range' a c).map fun k => D.int ((k : Nat) : Int)) [some (crs true ld day rows arr beg bts sd bgn), some (.v (.int m)), some (.v (.int (a : Nat))), some (.v (.int ((a + c : Nat) : Int))), none] := by
    rw [← range_D']
    exact iterR2_of (f := eVar 2) (g := eVar 3) rfl rfl (by omega) (by omega) (by omega) (by omega)
  rw [g_Course_singles_from, b_Course_singles_from]
  exact sfC it lf
end
end Lw

namespace Lw
open PySem PySem.Spec PyProof.Rows L2 DL
section
variable {b : Bool} {ld : D} {day : Day} {rows : List Row} {arr : Int} {beg : List D} {bts : List BT} {sd : W0} {bgn : D}
def driftM (sg lf : Nat → Int) (a c : Nat) : Int := ((List.range' a c).map fun k => sg k - lf k).sum
theorem driftC {b : Bool} {fr fc : M U} {ws : List W0} {ds bs : List D} {res : D}
    (h1 : fr [some (.x (.o true "Course" ns_Course ws)), none, none] = .ok (.w (.l false ds)) [some (.x (.o true "Course" ns_Course ws)), none, none])
    (h2 : fc [some (.x (.o true "Course" ns_Course ws)), some (.l false ds), none] = .ok (.w (.l false bs)) [some (.x (.o true "Course" ns_Course ws)), some (.v (.lst ds)), none])
    (h3 : gSum [.lst bs] = some (.v res)) :
    mkFn is_Course_drift 1 3 (sSeq (sSet 1 fr) (sRet (opN gSum [fc]))) [.x (.o b "Course" ns_Course ws)] = .ok (.v res) [.x (.o b "Course" ns_Course ws)] := by
  rw [mkFn_ap]
  cases b <;> simp [h1, h2, h3]
theorem gRg_L {a : Int} {w : Nat} (h1 : 0 ≤ a) (h2 : a ≤ 1000000000) (hw : w ≤ 1000000) : gRg mkL [.int a, .int (a + (w : Nat))] = some (.l false (rangeD a (a + (w : Nat)))) := by
  show (if (-(2 ^ 62) ≤ a ∧ a < 2 ^ 62) ∧ (-(2 ^ 62) ≤ a + (w : Int) ∧ a + (w : Int) < 2 ^ 62) ∧ a + (w : Int) - a ≤ 1000000 then some (mkL (rangeD a (a + (w : Nat)))) else none) = _
  have c1 : (-(2 ^ 62) : Int) ≤ 0 := by decide
  have c2 : (1000000000 : Int) + 1000000 < 2 ^ 62 := by decide
  rw [if_pos ⟨⟨by omega, by omega⟩, ⟨by omega, by omega⟩, by omega⟩]
theorem ev_drift {a c : Nat} (hd : 0 < day.length) (hd2 : day.length < 1000) (hb : bgn = .int (a : Nat)) (h : bts.length = a + c) (hl : bts.length ≤ 100000) : g_Course_drift [crs b ld day rows arr beg bts sd bgn] = .ok (.v (.int (driftM (sgD day) (lfB bts) a c))) [crs b ld day rows arr beg bts sd bgn] := by
  subst hb
  have rg := gRg_L (a := (a : Nat)) (w := c) (by omega) (by omega) (by omega)
  rw [← Int.natCast_add, range_D'] at rg
  have e1 : eG (fG 0 "Course" ns_Course 7) [some (crs true ld day rows arr beg bts sd (.int (a : Nat))), none, none] = .ok (.w (.v (.int (a : Nat)))) [some (crs true ld day rows arr beg bts sd (.int (a : Nat))), none, none] := by unfold crs; simp
  have e2 : eG (opV gLen (fldV 0 "Course" ns_Course 5) []) [some (crs true ld day rows arr beg bts sd (.int (a : Nat))), none, none] = .ok (.w (.v (.int ((a + c : Nat) : Int)))) [some (crs true ld day rows arr beg bts sd (.int (a : Nat))), none, none] := by
    rw [← h]
    unfold crs
    simp
  have cc := comp_map (E0 := [some (crs true ld day rows arr beg bts sd (.int (a : Nat))), some (.v (.lst ((List.range' a c).map fun k => D.int ((k : Nat) : Int)))), none]) (vs := [2]) (m := mName 2) (t := tYesD) (f := (opN gSub [(opN gIx [(opN gIx [(eG (fG 0 "Course" ns_Course 1)), (opN gMod [(eVar 2), (opN gLen [(eG (fG 0 "Course" ns_Course 1))])])]), (eD (.int 1))]), (opN gIx [(eG (opV gIx (fldV 0 "Course" ns_Course 5) [(vG 2)])), (eD (.int 2))])])) (enc := fun k : Nat => D.int ((k : Nat) : Int)) (ψ := fun k => D.int (sgD day k - lfB bts k)) (List.range' a c) (fun k hk rest => by
    obtain ⟨i, hi, hik⟩ := List.mem_range'.mp hk
    have hkl : k < bts.length := by omega
    have da := day_at hd k
    have hm : gMod [.int (k : Nat), .int (day.length : Nat)] = some (.v (.int ((k : Int) % (day.length : Int)))) := if_pos (by omega)
    have ba : atI (bts.map dB) (k : Int) = some (dB bts[k]) := by rw [atI_of (by omega), show ((k : Nat) : Int).toNat = k by omega, List.getElem?_map, List.getElem?_eq_getElem hkl]; rfl
    have bl : lfB bts k = bts[k].2.2.1 := by unfold lfB; simp [hkl]
    rw [bl]
    have a1 : atI [dI (day.getD (k % day.length) ([], 0)).1, D.int (sgD day k)] 1 = some (.int (sgD day k)) := by simp [atI_of]
    have a2 : atI [D.int bts[k].1, D.int bts[k].2.1, D.int bts[k].2.2.1, D.bl bts[k].2.2.2] 2 = some (.int bts[k].2.2.1) := by simp [atI_of]
    have hl : gLen [dDay day] = some (.v (.int (day.length : Nat))) := by simp [dDay]
    rw [show dB bts[k] = D.tup [.int bts[k].1, .int bts[k].2.1, .int bts[k].2.2.1, .bl bts[k].2.2.2] from rfl] at ba
    unfold crs
    have hdd : dDay day = .tup (day.map fun q => D.tup [dI q.1, D.int q.2]) := rfl
    rw [hdd] at hl ⊢
    generalize (day.map fun q => D.tup [dI q.1, D.int q.2]) = dd at *
    generalize dI (day.getD (k % day.length) ([], 0)).1 = gd at *
    generalize ((k : Nat) : Int) = kk at *
    generalize kk % (day.length : Int) = km at *
    generalize sgD day k = sk at *
    simp [compD, hl, hm, da, ba, a1, a2, -gMod_c0])
  have hs := sum_ints ((List.range' a c).map fun k => sgD day k - lfB bts k)
  rw [List.map_map] at hs
  have l7 : ((List.range' a c).map fun k => D.int ((k : Nat) : Int)).length ≤ 1000000 := by rw [List.length_map, List.length_range']; omega
  rw [g_Course_drift, b_Course_drift]
  refine driftC (ds := (List.range' a c).map fun k => D.int ((k : Nat) : Int)) (bs := (List.range' a c).map fun k => D.int (sgD day k - lfB bts k)) ?_ ?_ hs
  · exact opN_of (us := [.w (.v (.int (a : Nat))), .w (.v (.int ((a + c : Nat) : Int)))]) (ds := [.int (a : Nat), .int ((a + c : Nat) : Int)]) (evs2 e1 e2) rfl rg
  · generalize ((List.range' a c).map fun k => D.int ((k : Nat) : Int)) = ds at *
    generalize ((List.range' a c).map fun k => D.int (sgD day k - lfB bts k)) = bs at *
    unfold crs at cc
    simp [cc, l7]
def bhd (bts : List BT) : Nat → Int × Int
  | 0 => (0, 0)
  | k + 1 => ((bts.getD k (0, 0, 0, false)).1, (bts.getD k (0, 0, 0, false)).2.1)
theorem ev_bhd {k : Nat} (h : k ≤ bts.length) : g_Course_behind [crs b ld day rows arr beg bts sd bgn, .v (.int ((k : Int) - 1))] = .ok (.v (.tup [.int (bhd bts k).1, .int (bhd bts k).2])) [crs b ld day rows arr beg bts sd bgn, .v (.int ((k : Int) - 1))] := by
  cases k with
  | zero => exact ev_behind_neg
  | succ k =>
    rw [show ((k + 1 : Nat) : Int) - 1 = (k : Nat) by omega]
    have e : bts[k]? = some (bts.getD k (0, 0, 0, false)) := by
      rw [List.getElem?_eq_getElem (by omega)]
      simp [show k < bts.length by omega]
    exact ev_behind e
theorem ev_more {a : Nat} (hb : bgn = .int (a : Nat)) (ha : a ≤ bts.length) : g_Course_more [crs b ld day rows arr beg bts sd bgn] = .ok (.v (.tup [.int ((bhd bts bts.length).1 - (bhd bts a).1), .int ((bhd bts bts.length).2 - (bhd bts a).2)])) [crs b ld day rows arr beg bts sd bgn] := by
  subst hb
  have h1 := ev_bhd (b := true) (ld := ld) (day := day) (rows := rows) (arr := arr) (beg := beg) (sd := sd) (bgn := .int (a : Nat)) ha
  have h2 := ev_bhd (b := true) (ld := ld) (day := day) (rows := rows) (arr := arr) (beg := beg) (sd := sd) (bgn := .int (a : Nat)) (Nat.le_refl bts.length)
  rw [g_Course_more, mkFn_ap, b_Course_more]
  unfold crs at *
  generalize ((a : Nat) : Int) = ai at *
  generalize bhd bts a = x at *
  generalize bhd bts bts.length = y at *
  cases b <;> simp [h1, h2, atI_of]
def sbM (sg lf : Nat → Int) (a c : Nat) (r : Int) : Int := if r = 0 then sf sg lf 0 a 0 else
  (let x := sf sg lf 0 a 0 + r * driftM sg lf a c; let d := (if driftM sg lf a c > 0 then driftM sg lf a c else 0); let y := sf sg lf a c 0 + (r - 1) * d; if y > x then y else x)
theorem sbC {b : Bool} {ws : List W0} {r ai n x1 x2 dd d' p1 p2 res : Int} (h0 : r ≠ 0)
    (f7 : ws[7]? = some (.v (.int ai))) (f5 : ∀ rest : DEnv, eG (opV gLen (fldV 0 "Course" ns_Course 5) []) (some (.x (.o true "Course" ns_Course ws)) :: rest) = .ok (.w (.v (.int n))) (some (.x (.o true "Course" ns_Course ws)) :: rest)) (f7' : ∀ rest : DEnv, eG (fG 0 "Course" ns_Course 7) (some (.x (.o true "Course" ns_Course ws)) :: rest) = .ok (.w (.v (.int ai))) (some (.x (.o true "Course" ns_Course ws)) :: rest))
    (s1 : g_Course_singles_from [.x (.o true "Course" ns_Course ws), .v (.int 0), .v (.int 0), .v (.int ai)] = .ok (.v (.int x1)) [.x (.o true "Course" ns_Course ws), .v (.int 0), .v (.int 0), .v (.int ai)])
    (s2 : g_Course_singles_from [.x (.o true "Course" ns_Course ws), .v (.int 0), .v (.int ai), .v (.int n)] = .ok (.v (.int x2)) [.x (.o true "Course" ns_Course ws), .v (.int 0), .v (.int ai), .v (.int n)])
    (dr : g_Course_drift [.x (.o true "Course" ns_Course ws)] = .ok (.v (.int dd)) [.x (.o true "Course" ns_Course ws)])
    (m1 : gMul [.int r, .int dd] = some (.v (.int p1))) (m2 : gMul [.int (r - 1), .int d'] = some (.v (.int p2))) (mx : gMax [.int 0, .int dd] = some (.v (.int d'))) (my : gMax [.int (x1 + p1), .int (x2 + p2)] = some (.v (.int res))) :
    g_Course_singles_behind [.x (.o b "Course" ns_Course ws), .v (.int r)] = .ok (.v (.int res)) [.x (.o b "Course" ns_Course ws), .v (.int r)] := by
  rw [g_Course_singles_behind, mkFn_ap, b_Course_singles_behind]
  generalize eG (opV gLen (fldV 0 "Course" ns_Course 5) []) = g5 at *
  generalize eG (fG 0 "Course" ns_Course 7) = g7 at *
  generalize gMul = mul at *
  generalize gMax = mxx at *
  cases b <;> simp [f5, f7', s1, s2, dr, m1, m2, h0, mx, my]
theorem sbC0 {b : Bool} {ws : List W0} {ai x1 : Int} (f7' : ∀ rest : DEnv, eG (fG 0 "Course" ns_Course 7) (some (.x (.o true "Course" ns_Course ws)) :: rest) = .ok (.w (.v (.int ai))) (some (.x (.o true "Course" ns_Course ws)) :: rest))
    (s1 : g_Course_singles_from [.x (.o true "Course" ns_Course ws), .v (.int 0), .v (.int 0), .v (.int ai)] = .ok (.v (.int x1)) [.x (.o true "Course" ns_Course ws), .v (.int 0), .v (.int 0), .v (.int ai)]) :
    g_Course_singles_behind [.x (.o b "Course" ns_Course ws), .v (.int 0)] = .ok (.v (.int x1)) [.x (.o b "Course" ns_Course ws), .v (.int 0)] := by
  rw [g_Course_singles_behind, mkFn_ap, b_Course_singles_behind]
  generalize eG (fG 0 "Course" ns_Course 7) = g7 at *
  cases b <;> simp [f7', s1]
theorem ev_sb {a c : Nat} {r : Int} (hd : 0 < day.length) (hd2 : day.length < 1000) (hb : bgn = .int (a : Nat)) (h : bts.length = a + c) (hl : bts.length ≤ 100000) (hr : 0 ≤ r ∧ r ≤ 1000000000000000000) : g_Course_singles_behind [crs b ld day rows arr beg bts sd bgn, .v (.int r)] = .ok (.v (.int (sbM (sgD day) (lfB bts) a c r))) [crs b ld day rows arr beg bts sd bgn, .v (.int r)] := by
  subst hb
  have s1 := ev_sf (b := true) (ld := ld) (rows := rows) (arr := arr) (beg := beg) (sd := sd) (bgn := .int (a : Nat)) (a := 0) (c := a) (m := 0) hd hd2 (by omega) hl
  have s2 := ev_sf (b := true) (ld := ld) (rows := rows) (arr := arr) (beg := beg) (sd := sd) (bgn := .int (a : Nat)) (a := a) (c := c) (m := 0) hd hd2 (by omega) hl
  have dr := ev_drift (b := true) (ld := ld) (rows := rows) (arr := arr) (beg := beg) (sd := sd) (bgn := .int (a : Nat)) hd hd2 rfl h hl
  rw [Nat.zero_add] at s1
  rw [← h] at s2
  have m1 : ∀ y : Int, gMul [.int r, .int y] = some (.v (.int (r * y))) := fun y => if_pos (.inl (by omega))
  have m2 : ∀ y : Int, gMul [.int (r - 1), .int y] = some (.v (.int ((r - 1) * y))) := fun y => if_pos (.inl (by omega))
  have f5 : ∀ rest : DEnv, eG (opV gLen (fldV 0 "Course" ns_Course 5) []) (some (crs true ld day rows arr beg bts sd (.int (a : Nat))) :: rest) = .ok (.w (.v (.int (bts.length : Nat)))) (some (crs true ld day rows arr beg bts sd (.int (a : Nat))) :: rest) := fun rest => by unfold crs; simp
  have f7 : ∀ rest : DEnv, eG (fG 0 "Course" ns_Course 7) (some (crs true ld day rows arr beg bts sd (.int (a : Nat))) :: rest) = .ok (.w (.v (.int (a : Nat)))) (some (crs true ld day rows arr beg bts sd (.int (a : Nat))) :: rest) := fun rest => by unfold crs; simp
  unfold sbM
  by_cases h0 : r = 0
  · subst h0
    rw [if_pos rfl]
    exact sbC0 f7 s1
  · rw [if_neg h0]
    exact sbC h0 rfl f5 f7 s1 s2 dr (m1 _) (m2 _) rfl rfl
end
end Lw

namespace Lw
open PySem PySem.Spec PyProof.Rows L2 DL
/-! ### wants -/
def wantsM (l p : Int) : Nat → Int → List Row → Bool
  | 0, _, rows => decide ((rows.length : Int) ≤ l)
  | n + 1, room, rows => if (rows.length : Int) ≤ l then true else match nextAt p room (rows.take (l + 1).toNat) with
    | none => false
    | some j => match rows[j]? with
      | none => false
      | some r => wantsM l p n (room - r.2.1) (bump (rows.take j) ++ rows.drop (j + 1))
theorem body_wants {s l p room : Int} (hl : 0 ≤ l) (b : Bool) (rows : List Row) (x3 : Option D) (h6 : rows.length ≤ 1000) :
    if (rows.length : Int) ≤ l then ∃ e, lb_wants_0 [some (.v (dL s l p)), some (holds b (rows.map dR)), some (.v (.int room)), x3.map .v, none, none, none] = .ok (.ret (.w (.v (.bl true)))) e else
    match nextAt p room (rows.take (l + 1).toNat) with
      | none => ∃ e, lb_wants_0 [some (.v (dL s l p)), some (holds b (rows.map dR)), some (.v (.int room)), x3.map .v, none, none, none] = .ok (.ret (.w (.v (.bl false)))) e
      | some j => match rows[j]? with
        | none => True
        | some r => lb_wants_0 [some (.v (dL s l p)), some (holds b (rows.map dR)), some (.v (.int room)), x3.map .v, none, none, none] = .ok .next [some (.v (dL s l p)), some (.l false ((bump (rows.take j) ++ rows.drop (j + 1)).map dR)), some (.v (.int (room - r.2.1))), some (.v (.int (j : Nat))), none, none, none] := by
  have hi : atI [D.int s, D.int l, D.int p] 1 = some (D.int l) := by simp [atI_of]
  split
  · rename_i hc
    cases b <;> cases x3 <;> simp [lb_wants_0, holds, dL, hi, hc]
  · rename_i hc
    cases hn : nextAt p room (rows.take (l + 1).toNat) with
    | none =>
      have en := ev_next_of (s := s) (p := p) (room := room) rows hl
      unfold dL at en ⊢
      cases b <;> cases x3 <;> simp [lb_wants_0, holds, hi, hc, en, hn, optD]
    | some j =>
      have hj : j < rows.length := Nat.lt_of_lt_of_le (nextAt_lt hn) (by simp; omega)
      have hr : rows[j]? = some rows[j] := List.getElem?_eq_getElem hj
      have h8 : cutA (rows.map dR) none (some (j : Int)) = (rows.take j).map dR := by rw [cutA_hi (by omega), List.map_take]; rfl
      have h9 : cutA (rows.map dR) (some ((j : Int) + 1)) none = (rows.drop (j + 1)).map dR := by rw [cutA_lo (by omega), List.map_drop]; rfl
      have ha : atI (rows.map dR) (j : Int) = some (dR rows[j]) := by rw [atI_map, atI_of (by omega)]; simp [hr]
      have e6 : (rows.take j).length + (rows.drop (j + 1)).length ≤ 1000000 := by simp; omega
      have hlen : (rows.take j).length ≤ 1000000 := by simp; omega
      have en := ev_next_of (s := s) (p := p) (room := room) rows hl
      rw [hn] at en
      simp only [hr]
      unfold dL at en ⊢
      cases b <;> cases x3
      all_goals
        simp [-List.map_take, -List.map_drop, -List.length_take, -List.length_drop, lb_wants_0, holds, en, hi, hc, optD, ha, h9, h8, dR, atI_of]
        rw [comp_map (enc := dR) (ψ := fun r => dR (r.1, r.2.1, r.2.2 + 1)) (rows.take j) (fun x hx rest => by simp [compD, dR])]
        simp [-List.map_take, -List.map_drop, -List.length_take, -List.length_drop, hlen, h9, e6]
        simp [-List.map_take, -List.map_drop, bump, dR, List.map_map]
theorem loop_wants {s l p : Int} (hl : 0 ≤ l) : ∀ (n : Nat) (room : Int) (b : Bool) (rows : List Row) (x3 : Option D), rows.length ≤ n → rows.length ≤ 1000 →
    ∃ e, sWhile (tst (eD (.bl true))) lb_wants_0 [some (.v (dL s l p)), some (holds b (rows.map dR)), some (.v (.int room)), x3.map .v, none, none, none] = .ok (.ret (.w (.v (.bl (wantsM l p n room rows))))) e
  | n, room, b, rows, x3, h, h2 => by
    have bd := body_wants (s := s) (p := p) (room := room) hl b rows x3 h2
    rw [sWhile_step]
    simp only [tst, eD, R.bind_ok, dat, datW, if_true, W.opq, if_false, Bool.false_eq_true]
    by_cases hc : (rows.length : Int) ≤ l
    · rw [if_pos hc] at bd
      obtain ⟨e, bd⟩ := bd
      have hw : wantsM l p n room rows = true := by cases n <;> simp [wantsM, hc]
      rw [bd, hw]
      exact ⟨e, rfl⟩
    · rw [if_neg hc] at bd
      cases n with
      | zero => omega
      | succ n =>
        rw [wantsM, if_neg hc]
        cases hn : nextAt p room (rows.take (l + 1).toNat) with
        | none =>
          rw [hn] at bd
          obtain ⟨e, bd⟩ := bd
          rw [bd]
          exact ⟨e, rfl⟩
        | some j =>
          have hj : j < rows.length := Nat.lt_of_lt_of_le (nextAt_lt hn) (by simp; omega)
          have hr : rows[j]? = some rows[j] := List.getElem?_eq_getElem hj
          rw [hn] at bd
          simp only [hr] at bd ⊢
          have hlen : (bump (rows.take j) ++ rows.drop (j + 1)).length = rows.length - 1 := by simp [bump]; omega
          obtain ⟨e, ih⟩ := loop_wants hl n (room - rows[j].2.1) true (bump (rows.take j) ++ rows.drop (j + 1)) (some (.int (j : Nat))) (by omega) (by omega)
          refine ⟨e, ?_⟩
          rw [bd, R.bind_ok]
          exact ih
theorem ev_wants {s l p : Int} (hl : 0 ≤ l) (rows : List Row) (h : rows.length ≤ 1000) : g_wants [.v (dL s l p), .v (.lst (rows.map dR))] = .ok (.v (.bl (wantsM l p rows.length s rows))) [.v (dL s l p), .v (.lst (rows.map dR))] := by
  obtain ⟨e, he⟩ := loop_wants (s := s) (p := p) hl rows.length s false rows none (Nat.le_refl _) h
  simp only [holds, Option.map_none, if_false, Bool.false_eq_true] at he
  have hi : atI [D.int s, D.int l, D.int p] 0 = some (D.int s) := by simp [atI_of]
  simp only [dL] at he
  simp [g_wants, b_wants, dL, hi]
  simp [he]
end Lw

namespace Lw
open PySem PySem.Spec PyProof.Rows L2 DL
/-! ### a beat -/
def newG (arr : Nat) : List Int → List Row
  | [] => []
  | g :: gs => ((arr : Int), g, 0) :: newG (arr + 1) gs
theorem newG_len : ∀ (gs : List Int) (arr : Nat), (newG arr gs).length = gs.length
  | [], _ => rfl
  | g :: gs, arr => by rw [newG, List.length_cons, newG_len gs, List.length_cons]
def seatW (Ps : List (Int × Int)) : W0 := .d true ((Ps.map (·.1)).map D.int) (Ps.map fun q => .int q.2)
section
variable {b : Bool} {ld : D} {day : Day} {bts : List BT} {sd : W0} {bgn : D}
theorem body_come {rows : List Row} {arr : Nat} {beg : List D} {g : Int} {e2 e3 e4 e5 e6 e7 e8 : Option W} (hr : rows.length < 100000) (hb : beg.length < 100000) :
    lb_Course_beat_0 [some (crs true ld day rows (arr : Nat) beg bts sd bgn), some (.v (.int g)), e2, e3, e4, e5, e6, e7, e8] = .ok .next [some (crs true ld day (rows ++ [((arr : Int), g, 0)]) ((arr + 1 : Nat) : Int) (beg ++ [.int (bts.length : Nat)]) bts sd bgn), some (.v (.int g)), e2, e3, e4, e5, e6, e7, e8] := by
  have h1 : rows.length < 1000000 := by omega
  have h2 : beg.length < 1000000 := by omega
  unfold crs
  simp [lb_Course_beat_0, h1, h2, dR]
theorem for_come {e2 e3 e4 e5 e6 e7 e8 : Option W} : ∀ (gs : List Int) (rows : List Row) (arr : Nat) (beg : List D) (x1 : Option D), rows.length + gs.length < 100000 → beg.length + gs.length < 100000 →
    ∃ y1 : Option D, forD m_Course_beat_0 lb_Course_beat_0 (gs.map D.int) [some (crs true ld day rows (arr : Nat) beg bts sd bgn), x1.map .v, e2, e3, e4, e5, e6, e7, e8] = .ok .next [some (crs true ld day (rows ++ newG arr gs) ((arr + gs.length : Nat) : Int) (beg ++ List.replicate gs.length (.int (bts.length : Nat))) bts sd bgn), y1.map .v, e2, e3, e4, e5, e6, e7, e8]
  | [], rows, arr, beg, x1, _, _ => ⟨x1, by simp [newG]; rfl⟩
  | g :: gs, rows, arr, beg, x1, h1, h2 => by
    rw [List.length_cons] at h1 h2
    have bd := body_come (ld := ld) (day := day) (bts := bts) (sd := sd) (bgn := bgn) (rows := rows) (arr := arr) (beg := beg) (g := g) (e2 := e2) (e3 := e3) (e4 := e4) (e5 := e5) (e6 := e6) (e7 := e7) (e8 := e8) (by omega) (by omega)
    obtain ⟨y1, ih⟩ := for_come (e2 := e2) (e3 := e3) (e4 := e4) (e5 := e5) (e6 := e6) (e7 := e7) (e8 := e8) gs (rows ++ [((arr : Int), g, 0)]) (arr + 1) (beg ++ [.int (bts.length : Nat)]) (some (.int g)) (by rw [List.length_append]; simp; omega) (by rw [List.length_append]; simp; omega)
    refine ⟨y1, ?_⟩
    have em : m_Course_beat_0 (D.int g) [some (crs true ld day rows (arr : Nat) beg bts sd bgn), x1.map .v, e2, e3, e4, e5, e6, e7, e8] = some [some (crs true ld day rows (arr : Nat) beg bts sd bgn), some (.v (.int g)), e2, e3, e4, e5, e6, e7, e8] := by
      cases x1 <;> simp [m_Course_beat_0]
    rw [List.map_cons, forD, em]
    show R.bind (lb_Course_beat_0 _) _ = _
    rw [bd, R.bind_ok]
    refine ih.trans ?_
    rw [newG, List.append_assoc, List.append_assoc, List.length_cons, List.replicate_succ, show arr + 1 + gs.length = arr + (gs.length + 1) by omega]
    rfl
theorem for_seat {rows : List Row} {arr : Int} {beg : List D} {e2 e3 e4 e5 e8 : Option W} : ∀ (sit : List Row) (Ps : List (Int × Int)) (x1 x6 x7 : Option D), ((Ps.map (·.1)) ++ sit.map (·.1)).Nodup → Ps.length + sit.length ≤ 100000 →
    ∃ y1 y6 y7 : Option D, forD m_Course_beat_1 lb_Course_beat_1 (sit.map dR) [some (crs true ld day rows arr beg bts (seatW Ps) bgn), x1.map .v, e2, e3, e4, e5, x6.map .v, x7.map .v, e8] = .ok .next [some (crs true ld day rows arr beg bts (seatW (Ps ++ sit.map fun r => (r.1, (bts.length : Int)))) bgn), y1.map .v, e2, e3, e4, e5, y6.map .v, y7.map .v, e8]
  | [], Ps, x1, x6, x7, _, _ => ⟨x1, x6, x7, by simp; rfl⟩
  | r :: sit, Ps, x1, x6, x7, hn, hl => by
    have hn2 : (((Ps ++ [(r.1, (bts.length : Int))]).map (·.1)) ++ sit.map (·.1)).Nodup := by
      rw [List.map_append, List.append_assoc]
      exact hn
    obtain ⟨y1, y6, y7, ih⟩ := for_seat (rows := rows) (arr := arr) (beg := beg) (e2 := e2) (e3 := e3) (e4 := e4) (e5 := e5) (e8 := e8) sit (Ps ++ [(r.1, (bts.length : Int))]) (some (.int r.2.1)) (some (.int r.1)) (some (.int r.2.2)) hn2 (by rw [List.length_append]; simp at hl ⊢; omega)
    refine ⟨y1, y6, y7, ?_⟩
    have em : m_Course_beat_1 (dR r) [some (crs true ld day rows arr beg bts (seatW Ps) bgn), x1.map .v, e2, e3, e4, e5, x6.map .v, x7.map .v, e8] = some [some (crs true ld day rows arr beg bts (seatW Ps) bgn), some (.v (.int r.2.1)), e2, e3, e4, e5, some (.v (.int r.1)), some (.v (.int r.2.2)), e8] := by
      cases x1 <;> cases x6 <;> cases x7 <;> simp [m_Course_beat_1, dR]
    have hno : r.1 ∉ Ps.map (·.1) := fun z => by
      rw [List.nodup_append] at hn
      exact hn.2.2 r.1 z r.1 (by simp) rfl
    have hh : dixHas ((Ps.map (·.1)).map D.int) (.int r.1) = false := by
      unfold dixHas
      rw [List.any_eq_false]
      intro d hd
      obtain ⟨a, ha, rfl⟩ := List.mem_map.mp hd
      simp only [decide_eq_true_eq, keyOf_int]
      exact fun z => hno (z ▸ ha)
    have ek : dixK ((Ps.map (·.1)).map D.int) (.int r.1) = ((Ps ++ [(r.1, (bts.length : Int))]).map (·.1)).map D.int := by
      unfold dixK
      rw [hh, List.map_append, List.map_append]
      rfl
    have ed : dixD ((Ps.map (·.1)).map D.int) (Ps.map fun q => .int q.2) (.int r.1) (.int (bts.length : Nat)) = (Ps ++ [(r.1, (bts.length : Int))]).map fun q => .int q.2 := by
      unfold dixD
      rw [hh, List.map_append]
      rfl
    have hz : (Ps.map fun q : Int × Int => D.int q.2).length < 1000000 := by rw [List.length_map]; omega
    have bd : lb_Course_beat_1 [some (crs true ld day rows arr beg bts (seatW Ps) bgn), some (.v (.int r.2.1)), e2, e3, e4, e5, some (.v (.int r.1)), some (.v (.int r.2.2)), e8] = .ok .next [some (crs true ld day rows arr beg bts (seatW (Ps ++ [(r.1, (bts.length : Int))])) bgn), some (.v (.int r.2.1)), e2, e3, e4, e5, some (.v (.int r.1)), some (.v (.int r.2.2)), e8] := by
      unfold crs seatW
      rw [← ek, ← ed]
      generalize (Ps.map (·.1)).map D.int = ks at *
      generalize (Ps.map fun q : Int × Int => D.int q.2) = ds at *
      have okk : okKey true (.int r.1) = true := rfl
      simp [lb_Course_beat_1, hz, okk]
    rw [List.map_cons, forD, em]
    show R.bind (lb_Course_beat_1 _) _ = _
    rw [bd, R.bind_ok]
    refine ih.trans ?_
    rw [List.map_cons, List.append_assoc]
    rfl
end
/-- who waits behind a beat, who sits, whether more would have been seen -/
def rows1M (rows : List Row) (arr : Nat) (gs : List Int) : List Row := rows ++ newG arr gs
def nearM (s l : Int) (rows1 : List Row) : List Row := rows1.take (s + l + 1).toNat
def sitM (s l p : Int) (rows1 : List Row) : List Row := (loadGo l p (nearM s l rows1).length s (nearM s l rows1)).1
def restM (s l p : Int) (rows1 : List Row) : List Row := (loadGo l p (nearM s l rows1).length s (nearM s l rows1)).2 ++ rows1.drop (nearM s l rows1).length
def beatM (s l p : Int) (rows1 : List Row) : BT := (((restM s l p rows1).length : Int), ((restM s l p rows1).map (·.2.1)).sum, s - ((sitM s l p rows1).map (·.2.1)).sum, wantsM l p (nearM s l rows1).length s (nearM s l rows1))
theorem beatC {b : Bool} {ws ws1 ws2 ws3 : List W0} {it1 : M (List D)} {f2 f3 f5 f8 : M U} {tg : M Fl} {gA : G} {gs near sit rest : List D} {lk lf : D} {x1 y1 y6 y7 : Option W} {bts2 : List W0}
    (h1 : it1 [some (.x (.o true "Course" ns_Course ws)), none, none, none, none, none, none, none, none] = .ok gs [some (.x (.o true "Course" ns_Course ws)), none, none, none, none, none, none, none, none])
    (h2 : forD m_Course_beat_0 lb_Course_beat_0 gs [some (.x (.o true "Course" ns_Course ws)), none, none, none, none, none, none, none, none] = .ok .next [some (.x (.o true "Course" ns_Course ws1)), x1, none, none, none, none, none, none, none])
    (h3 : f2 [some (.x (.o true "Course" ns_Course ws1)), x1, none, none, none, none, none, none, none] = .ok (.w (.l false near)) [some (.x (.o true "Course" ns_Course ws1)), x1, none, none, none, none, none, none, none])
    (h4 : f3 [some (.x (.o true "Course" ns_Course ws1)), x1, some (.l false near), none, none, none, none, none, none] = .ok (.w (.v lk)) [some (.x (.o true "Course" ns_Course ws1)), x1, some (.v (.lst near)), none, none, none, none, none, none])
    (h5 : tg [some (.x (.o true "Course" ns_Course ws1)), x1, some (.v (.lst near)), some (.v lk), none, none, none, none, none] = .ok .next [some (.x (.o true "Course" ns_Course ws1)), x1, some (.v (.lst near)), some (.v lk), some (.v (.lst sit)), some (.v (.lst rest)), none, none, none])
    (h6 : (sFldS 0 "Course" ns_Course 2 f5) [some (.x (.o true "Course" ns_Course ws1)), x1, some (.v (.lst near)), some (.v lk), some (.v (.lst sit)), some (.v (.lst rest)), none, none, none] = .ok .next [some (.x (.o true "Course" ns_Course ws2)), x1, some (.v (.lst near)), some (.v lk), some (.v (.lst sit)), some (.v (.lst rest)), none, none, none])
    (h7 : forD m_Course_beat_1 lb_Course_beat_1 sit [some (.x (.o true "Course" ns_Course ws2)), x1, some (.v (.lst near)), some (.v lk), some (.v (.lst sit)), some (.v (.lst rest)), none, none, none] = .ok .next [some (.x (.o true "Course" ns_Course ws3)), y1, some (.v (.lst near)), some (.v lk), some (.v (.lst sit)), some (.v (.lst rest)), y6, y7, none])
    (h8 : f8 [some (.x (.o true "Course" ns_Course ws3)), y1, some (.v (.lst near)), some (.v lk), some (.v (.lst sit)), some (.v (.lst rest)), y6, y7, none] = .ok (.w (.v lf)) [some (.x (.o true "Course" ns_Course ws3)), y1, some (.v (.lst near)), some (.v lk), some (.v (.lst sit)), some (.v (.lst rest)), y6, y7, none])
    (h9 : (sExpr (eAppF 0 "Course" ns_Course 5 gA)) [some (.x (.o true "Course" ns_Course ws3)), y1, some (.v (.lst near)), some (.v lk), some (.v (.lst sit)), some (.v (.lst rest)), y6, y7, some (.v lf)] = .ok .next [some (.x (.o true "Course" ns_Course bts2)), y1, some (.v (.lst near)), some (.v lk), some (.v (.lst sit)), some (.v (.lst rest)), y6, y7, some (.v lf)]) :
    mkFn is_Course_beat 1 9 (sSeq (sFor it1 m_Course_beat_0 lb_Course_beat_0) (sSeq (sSet 2 f2) (sSeq (sSet 3 f3) (sSeq tg (sSeq (sFldS 0 "Course" ns_Course 2 f5) (sSeq (sFor (iterSeq (eVar 4)) m_Course_beat_1 lb_Course_beat_1) (sSeq (sSet 8 f8) (sExpr (eAppF 0 "Course" ns_Course 5 gA))))))))) [.x (.o b "Course" ns_Course ws)] = .ok (.v .non) [.x (.o b "Course" ns_Course bts2)] := by
  rw [mkFn_ap]
  generalize (sFldS 0 "Course" ns_Course 2 f5) = st5 at *
  generalize (sExpr (eAppF 0 "Course" ns_Course 5 gA)) = st9 at *
  cases b <;> simp [h1, h2, h3, h4, h5, h6, h7, h8, h9]
end Lw

namespace Lw
open PySem PySem.Spec PyProof.Rows L2 DL
section
variable {b : Bool} {s l p : Int} {day : Day} {rows : List Row} {arr : Nat} {beg : List D} {bts : List BT} {Ps : List (Int × Int)} {bgn : D}
def gsD (day : Day) (k : Nat) : List Int := (day.getD (k % day.length) ([], 0)).1
theorem ev_beat (hld : okLd s l p) (hd : 0 < day.length) (hd2 : day.length < 1000) (hg : (gsD day bts.length).length ≤ 1000) (hr : rows.length ≤ 10000) (hb : beg.length ≤ 10000) (hbt : bts.length ≤ 10000) (hP : Ps.length ≤ 10000)
    (hn : ((Ps.map (·.1)) ++ (sitM s l p (rows1M rows arr (gsD day bts.length))).map (·.1)).Nodup) :
    g_Course_beat [crs b (dL s l p) day rows (arr : Nat) beg bts (seatW Ps) bgn] = .ok (.v .non) [crs b (dL s l p) day (restM s l p (rows1M rows arr (gsD day bts.length))) ((arr + (gsD day bts.length).length : Nat) : Int) (beg ++ List.replicate (gsD day bts.length).length (.int (bts.length : Nat))) (bts ++ [beatM s l p (rows1M rows arr (gsD day bts.length))]) (seatW (Ps ++ (sitM s l p (rows1M rows arr (gsD day bts.length))).map fun r => (r.1, (bts.length : Int)))) bgn] := by
  have hld' := hld
  unfold okLd at hld'
  have da := day_at hd bts.length
  rw [show (day.getD (bts.length % day.length) ([], 0)).1 = gsD day bts.length from rfl] at da
  have hm : gMod [.int (bts.length : Nat), .int (day.length : Nat)] = some (.v (.int ((bts.length : Int) % (day.length : Int)))) := if_pos (by omega)
  have hl : gLen [dDay day] = some (.v (.int (day.length : Nat))) := by simp [dDay]
  obtain ⟨y1, fc⟩ := for_come (ld := dL s l p) (day := day) (bts := bts) (sd := seatW Ps) (bgn := bgn) (e2 := none) (e3 := none) (e4 := none) (e5 := none) (e6 := none) (e7 := none) (e8 := none) (gsD day bts.length) rows arr beg none (by omega) (by omega)
  have hr1 : (rows1M rows arr (gsD day bts.length)).length ≤ 11000 := by unfold rows1M; rw [List.length_append, newG_len]; omega
  rw [show rows ++ newG arr (gsD day bts.length) = rows1M rows arr (gsD day bts.length) from rfl] at fc
  generalize rows1M rows arr (gsD day bts.length) = r1 at *
  generalize hgs : gsD day bts.length = gs at *
  have hnear : (nearM s l r1).length ≤ 10 := by unfold nearM; rw [List.length_take]; omega
  have ew := ev_wants (s := s) (p := p) hld.2.1.1 (nearM s l r1) (by omega)
  have el := ev_loaded (s := s) (p := p) hld.2.1.1 (nearM s l r1) (by omega)
  have hll := loadGo_len (l := l) (p := p) (nearM s l r1).length s (nearM s l r1)
  have e_sit : (loadGo l p (nearM s l r1).length s (nearM s l r1)).1 = sitM s l p r1 := rfl
  have e_rest : restM s l p r1 = (loadGo l p (nearM s l r1).length s (nearM s l r1)).2 ++ r1.drop (nearM s l r1).length := rfl
  have e_beat : beatM s l p r1 = (((restM s l p r1).length : Int), ((restM s l p r1).map (·.2.1)).sum, s - ((sitM s l p r1).map (·.2.1)).sum, wantsM l p (nearM s l r1).length s (nearM s l r1)) := rfl
  have hcut : cutA (r1.map dR) none (some (s + l + 1)) = (nearM s l r1).map dR := by rw [cutA_hi (by omega), ← List.map_take]; rfl
  have hcut2 : cutA (r1.map dR) (some ((nearM s l r1).length : Int)) none = (r1.drop (nearM s l r1).length).map dR := by rw [cutA_lo (by omega), ← List.map_drop]; rfl
  rw [e_sit] at el hll
  rw [e_rest] at e_beat ⊢
  rw [e_beat]
  have hdl : (r1.drop (nearM s l r1).length).length ≤ 11000 := by rw [List.length_drop]; omega
  generalize (loadGo l p (nearM s l r1).length s (nearM s l r1)).2 = rs at *
  generalize sitM s l p r1 = sit at *
  generalize wantsM l p (nearM s l r1).length s (nearM s l r1) = wt at *
  generalize hdr : r1.drop (nearM s l r1).length = dr at *
  generalize hnm : nearM s l r1 = near at *
  obtain ⟨z1, z6, z7, fs⟩ := for_seat (ld := dL s l p) (day := day) (bts := bts) (bgn := bgn) (rows := rs ++ dr) (arr := ((arr + gs.length : Nat) : Int)) (beg := beg ++ List.replicate gs.length (.int (bts.length : Nat))) (e2 := some (.v (.lst (near.map dR)))) (e3 := some (.v (.bl wt))) (e4 := some (.v (.lst (sit.map dR)))) (e5 := some (.v (.lst (rs.map dR)))) (e8 := none) sit Ps y1 none none hn (by omega)
  have a0 : atI [D.int s, D.int l, D.int p] 0 = some (D.int s) := by simp [atI_of]
  have a1 : atI [D.int s, D.int l, D.int p] 1 = some (D.int l) := by simp [atI_of]
  have g0 : atI [dI gs, D.int (sgD day bts.length)] 0 = some (dI gs) := by simp [atI_of]
  rw [g_Course_beat, b_Course_beat]
  refine beatC (gs := gs.map D.int) (near := near.map dR) (sit := sit.map dR) (rest := rs.map dR) (lk := .bl wt) (lf := .int (s - (sit.map (·.2.1)).sum)) ?_ fc ?_ ?_ ?_ ?_ fs ?_ ?_
  · unfold dDay at hl ⊢
    generalize (day.map fun q => D.tup [dI q.1, D.int q.2]) = dd at *
    generalize ((bts.length : Nat) : Int) % (day.length : Int) = km at *
    generalize sgD day bts.length = sk at *
    have sq : ∀ env : DEnv, (R.ok (U.w (W.v (dI gs))) env : R U).bind (fun u e1 => match frz1 e1 u with
      | some (d, e2) => (match seqOf d with
        | some ds => (.ok ds e2 : R (List D))
        | none => .stuck)
      | none => .stuck) = .ok (gs.map D.int) env := fun env => rfl
    simp only [iterSeq_ap]
    have hh : opN gIx [(opN gIx [(eG (fG 0 "Course" ns_Course 1)), (opN gMod [(eG (opV gLen (fldV 0 "Course" ns_Course 5) [])), (opN gLen [(eG (fG 0 "Course" ns_Course 1))])])]), (eD (.int 0))] [some (.x (.o true "Course" ns_Course [.v (dL s l p), .v (.tup dd), .l (rows.map dR), .v (.int (arr : Nat)), .l beg, .l (bts.map dB), seatW Ps, .v bgn])), none, none, none, none, none, none, none, none] = .ok (.w (.v (dI gs))) [some (.x (.o true "Course" ns_Course [.v (dL s l p), .v (.tup dd), .l (rows.map dR), .v (.int (arr : Nat)), .l beg, .l (bts.map dB), seatW Ps, .v bgn])), none, none, none, none, none, none, none, none] := by
      simp [hl, hm, da, g0, -gMod_c0]
    rw [hh]
    exact sq _
  · unfold dL
    simp [a0, a1, hcut]
  · unfold dL at ew ⊢
    simp [ew]
  · unfold dL at el ⊢
    simp [el]
  · have hz : rs.length + dr.length ≤ 1000000 := by omega
    simp [hcut2, hz]
  · have cc := comp_map (E0 := [some (crs true (dL s l p) day (rs ++ dr) ((arr + gs.length : Nat) : Int) (beg ++ List.replicate gs.length (.int (bts.length : Nat))) bts (seatW (Ps ++ sit.map fun r => (r.1, (bts.length : Int)))) bgn), none, some (.v (.lst (near.map dR))), some (.v (.bl wt)), some (.v (.lst (sit.map dR))), some (.v (.lst (rs.map dR))), none, none, none]) (vs := [6, 1, 7]) (m := (mTup (mCons (mName 6) (mCons (mName 1) (mCons (mName 7) mNil))) 3)) (t := tYesD) (f := eVar 1) (enc := dR) (ψ := fun r => D.int r.2.1) sit (fun r _ rest => by simp [compD, dR])
    have sm := sum_ints (sit.map (·.2.1))
    rw [List.map_map] at sm
    have sm : gSum [.lst (sit.map fun r => D.int r.2.1)] = some (.v (.int (sit.map (·.2.1)).sum)) := sm
    have hz : sit.length ≤ 1000000 := by omega
    have hcomp : eComp (iterSeq (eVar 4)) (([("number", 6), ("size", 1), ("passes", 7)] : List (Str × Nat)).map (·.2)) (mTup (mCons (mName 6) (mCons (mName 1) (mCons (mName 7) mNil))) 3) tYesD (eVar 1) [some (crs true (dL s l p) day (rs ++ dr) ((arr + gs.length : Nat) : Int) (beg ++ List.replicate gs.length (.int (bts.length : Nat))) bts (seatW (Ps ++ sit.map fun r => (r.1, (bts.length : Int)))) bgn), z1.map .v, some (.v (.lst (near.map dR))), some (.v (.bl wt)), some (.v (.lst (sit.map dR))), some (.v (.lst (rs.map dR))), z6.map .v, z7.map .v, none] = .ok (.w (.l false (sit.map fun r => D.int r.2.1))) [some (crs true (dL s l p) day (rs ++ dr) ((arr + gs.length : Nat) : Int) (beg ++ List.replicate gs.length (.int (bts.length : Nat))) bts (seatW (Ps ++ sit.map fun r => (r.1, (bts.length : Int)))) bgn), z1.map .v, some (.v (.lst (near.map dR))), some (.v (.bl wt)), some (.v (.lst (sit.map dR))), some (.v (.lst (rs.map dR))), z6.map .v, z7.map .v, none] := by
      generalize crs true (dL s l p) day (rs ++ dr) ((arr + gs.length : Nat) : Int) (beg ++ List.replicate gs.length (.int (bts.length : Nat))) bts (seatW (Ps ++ sit.map fun r => (r.1, (bts.length : Int)))) bgn = self at *
      generalize (sit.map fun r => D.int r.2.1) = zs at *
      cases z1 <;> cases z6 <;> cases z7 <;> simp [cc, hz]
    have hix : ∀ rest : DEnv, opN gIx [(eG (fG 0 "Course" ns_Course 0)), (eD (.int 0))] (some (crs true (dL s l p) day (rs ++ dr) ((arr + gs.length : Nat) : Int) (beg ++ List.replicate gs.length (.int (bts.length : Nat))) bts (seatW (Ps ++ sit.map fun r => (r.1, (bts.length : Int)))) bgn) :: rest) = .ok (.w (.v (.int s))) (some (crs true (dL s l p) day (rs ++ dr) ((arr + gs.length : Nat) : Int) (beg ++ List.replicate gs.length (.int (bts.length : Nat))) bts (seatW (Ps ++ sit.map fun r => (r.1, (bts.length : Int)))) bgn) :: rest) := fun rest => by
      unfold crs dL
      simp [a0]
    exact opN_of (us := [.w (.v (.int s)), .w (.v (.int (sit.map (·.2.1)).sum))]) (ds := [.int s, .int (sit.map (·.2.1)).sum]) (evs2 (hix _) (opN_of (us := [.w (.l false (sit.map fun r => D.int r.2.1))]) (ds := [.lst (sit.map fun r => D.int r.2.1)]) (evs1 hcomp) rfl sm)) rfl rfl
  · have ec := compG_map (enc := dR) (ψ := fun r => D.int r.2.1) (vs := [6, 1, 7]) (m := (mTup (mCons (mName 6) (mCons (mName 1) (mCons (mName 7) mNil))) 3)) (f := vG 1)
      (env := [some (crs true (dL s l p) day (rs ++ dr) ((arr + gs.length : Nat) : Int) (beg ++ List.replicate gs.length (.int (bts.length : Nat))) bts (seatW (Ps ++ sit.map fun r => (r.1, (bts.length : Int)))) bgn), none, some (.v (.lst (near.map dR))), some (.v (.bl wt)), some (.v (.lst (sit.map dR))), some (.v (.lst (rs.map dR))), none, none, some (.v (.int (s - (sit.map (·.2.1)).sum)))]) (rs ++ dr) (fun r _ => by
      refine ⟨[some (crs true (dL s l p) day (rs ++ dr) ((arr + gs.length : Nat) : Int) (beg ++ List.replicate gs.length (.int (bts.length : Nat))) bts (seatW (Ps ++ sit.map fun r => (r.1, (bts.length : Int)))) bgn), some (.v (.int r.2.1)), some (.v (.lst (near.map dR))), some (.v (.bl wt)), some (.v (.lst (sit.map dR))), some (.v (.lst (rs.map dR))), some (.v (.int r.1)), some (.v (.int r.2.2)), some (.v (.int (s - (sit.map (·.2.1)).sum)))], .v (.int r.2.1), ?_, ?_, ?_, ?_, ?_⟩
      · simp [dR]
      · simp
      · rfl
      · rfl
      · simp)
    have sm := sum_ints ((rs ++ dr).map (·.2.1))
    rw [List.map_map] at sm
    have hz : (rs ++ dr).length ≤ 1000000 := by rw [List.length_append]; omega
    have hb6 : bts.length < 1000000 := by omega
    have fv2 : ∀ rest : DEnv, fldV 0 "Course" ns_Course 2 (some (crs true (dL s l p) day (rs ++ dr) ((arr + gs.length : Nat) : Int) (beg ++ List.replicate gs.length (.int (bts.length : Nat))) bts (seatW (Ps ++ sit.map fun r => (r.1, (bts.length : Int)))) bgn) :: rest) = some (.lst ((rs ++ dr).map dR)) := fun rest => by
      unfold crs
      simp
    generalize (sit.map (·.2.1)).sum = sz at *
    generalize hrd : rs ++ dr = rd at *
    have sm2 : gSum [.lst (rd.map fun r => D.int r.2.1)] = some (.v (.int (rd.map (·.2.1)).sum)) := sm
    generalize (rd.map (·.2.1)).sum = rz at *
    generalize (rd.map fun r => D.int r.2.1) = zs at *
    generalize beg ++ List.replicate gs.length (.int (bts.length : Nat)) = bg at *
    generalize seatW (Ps ++ sit.map fun r => (r.1, (bts.length : Int))) = sw at *
    generalize ((arr + gs.length : Nat) : Int) = ag at *
    unfold crs at *
    cases z1 <;> cases z6 <;> cases z7 <;> simp [ec, sm2, hz, hb6, dB]
end
end Lw

namespace Lw
open PySem PySem.Spec PyProof.Rows L2 DL
/-! ### the key, whether all was full -/
def wholeD (day : Day) : Int := (day.map fun q => (q.1.length : Int)).sum
def firstC (l : Int) (rows : List Row) (arr : Int) : Int := match rows.take (l + 1).toNat with
  | [] => arr
  | r :: _ => r.1
def keyC (l : Int) (day : Day) (rows : List Row) (arr : Int) : D := .tup [.tup ((rows.take (l + 1).toNat).map fun r => dR (r.1 - firstC l rows arr, r.2.1, r.2.2)), .int (firstC l rows arr % (if wholeD day > 1 then wholeD day else 1))]
section
variable {b : Bool} {s l p : Int} {day : Day} {rows : List Row} {arr : Int} {beg : List D} {bts : List BT} {sd : W0} {bgn : D}
theorem keyF {b : Bool} {ws : List W0} {f1 f2 f5 f6 f7 : M U} {rs : List D} {w fi : D} {k1 k2 : D}
    (h1 : f1 [some (.x (.o true "Course" ns_Course ws)), none, none, none, none, none, none, none, none] = .ok (.w (.l false rs)) [some (.x (.o true "Course" ns_Course ws)), none, none, none, none, none, none, none, none])
    (h2 : f2 [some (.x (.o true "Course" ns_Course ws)), some (.l false rs), none, none, none, none, none, none, none] = .ok (.w (.v w)) [some (.x (.o true "Course" ns_Course ws)), some (.l false rs), none, none, none, none, none, none, none])
    (h3 : f5 [some (.x (.o true "Course" ns_Course ws)), some (.l false rs), some (.v w), none, none, none, none, none, none] = .ok (.w (.v fi)) [some (.x (.o true "Course" ns_Course ws)), some (.l false rs), some (.v w), none, none, none, none, none, none])
    (h4 : f6 [some (.x (.o true "Course" ns_Course ws)), some (.l false rs), some (.v w), none, none, some (.v fi), none, none, none] = .ok (.w (.v k1)) [some (.x (.o true "Course" ns_Course ws)), some (.v (.lst rs)), some (.v w), none, none, some (.v fi), none, none, none])
    (h5 : f7 [some (.x (.o true "Course" ns_Course ws)), some (.v (.lst rs)), some (.v w), none, none, some (.v fi), none, none, none] = .ok (.w (.v k2)) [some (.x (.o true "Course" ns_Course ws)), some (.v (.lst rs)), some (.v w), none, none, some (.v fi), none, none, none]) :
    mkFn is_Course_key 1 9 (sSeq (sSet 1 f1) (sSeq (sSet 2 f2) (sSeq (sSet 5 f5) (sRet (dTup [f6, f7]))))) [.x (.o b "Course" ns_Course ws)] = .ok (.v (.tup [k1, k2])) [.x (.o b "Course" ns_Course ws)] := by
  rw [mkFn_ap]
  cases b <;> simp [h1, h2, h3, h4, h5]
theorem whole_nn : ∀ day : Day, 0 ≤ wholeD day ∧ (day.map fun q => (q.1.length : Int)).sum = wholeD day
  | [] => ⟨by simp [wholeD], rfl⟩
  | q :: day => by
    have := (whole_nn day).1
    refine ⟨?_, rfl⟩
    unfold wholeD at *
    rw [List.map_cons, List.sum_cons]
    omega
theorem ev_keyC (hl : 0 ≤ l) (hd2 : day.length < 1000) (hw : wholeD day < 1000) (hr : rows.length ≤ 10000) : g_Course_key [crs b (dL s l p) day rows arr beg bts sd bgn] = .ok (.v (keyC l day rows arr)) [crs b (dL s l p) day rows arr beg bts sd bgn] := by
  have a1 : atI [D.int s, D.int l, D.int p] 1 = some (D.int l) := by simp [atI_of]
  have hcut : cutA (rows.map dR) none (some (l + 1)) = (rows.take (l + 1).toNat).map dR := by rw [cutA_hi (by omega), ← List.map_take]
  have wn := (whole_nn day).1
  rw [g_Course_key, b_Course_key]
  have htl : (rows.take (l + 1).toNat).length ≤ 10000 := by rw [List.length_take]; omega
  have cd := comp_map (E0 := [some (crs true (dL s l p) day rows arr beg bts sd bgn), some (.l false ((rows.take (l + 1).toNat).map dR)), none, none, none, none, none, none, none]) (vs := [3, 4]) (m := mTup (mCons (mName 3) (mCons (mName 4) mNil)) 2) (t := tYesD) (f := opN gLen [(eVar 3)]) (enc := fun q : List Int × Int => D.tup [dI q.1, .int q.2]) (ψ := fun q => D.int (q.1.length : Nat)) day (fun q _ rest => by
    have hl2 : gLen [dI q.1] = some (.v (.int (q.1.length : Nat))) := by simp [dI]
    generalize dI q.1 = dq at *
    simp [compD, hl2])
  have sm := sum_ints (day.map fun q => (q.1.length : Int))
  rw [List.map_map] at sm
  have sm : gSum [.lst (day.map fun q => D.int (q.1.length : Nat))] = some (.v (.int (wholeD day))) := sm
  have hdl : day.length ≤ 1000000 := by omega
  refine keyF (rs := (rows.take (l + 1).toNat).map dR) (w := .int (wholeD day)) (fi := .int (firstC l rows arr)) ?_ ?_ ?_ ?_ ?_
  · unfold dL
    simp [a1, hcut]
  · refine opN_of (us := [.w (.l false (day.map fun q => D.int (q.1.length : Nat)))]) (ds := [.lst (day.map fun q => D.int (q.1.length : Nat))]) (evs1 ?_) rfl sm
    generalize (day.map fun q => D.int (q.1.length : Nat)) = zs at *
    generalize (rows.take (l + 1).toNat).map dR = tk at *
    unfold crs at cd
    unfold dDay at cd ⊢
    simp [cd, hdl]
  · have ne := gNe_en (en_lst en_row) (rows.take (l + 1).toNat) []
    rw [List.map_nil] at ne
    unfold firstC
    cases ht : rows.take (l + 1).toNat with
    | nil =>
      rw [ht] at ne
      simp at ne
      simp [ne]
    | cons r rs =>
      rw [ht] at ne
      simp only [List.map_cons] at ne
      have a0 : atI (dR r :: rs.map dR) 0 = some (dR r) := by simp [atI_of]
      have a00 : atI [D.int r.1, D.int r.2.1, D.int r.2.2] 0 = some (.int r.1) := by simp [atI_of]
      rw [List.map_cons]
      have ne : gNe [.lst (dR r :: rs.map dR), .lst []] = some (.v (.bl true)) := by rw [ne]; simp
      unfold dR at *
      generalize (rs.map fun r => D.tup [.int r.1, .int r.2.1, .int r.2.2]) = zs at *
      simp [ne, a0, a00]
  · have cc := comp_map (E0 := [some (crs true (dL s l p) day rows arr beg bts sd bgn), some (.v (.lst ((rows.take (l + 1).toNat).map dR))), some (.v (.int (wholeD day))), none, none, some (.v (.int (firstC l rows arr))), none, none, none]) (vs := [6, 7, 8]) (m := (mTup (mCons (mName 6) (mCons (mName 7) (mCons (mName 8) mNil))) 3)) (t := tYesD) (f := (dTup [(opN gSub [(eVar 6), (eVar 5)]), (eVar 7), (eVar 8)])) (enc := dR) (ψ := fun r => dR (r.1 - firstC l rows arr, r.2.1, r.2.2)) (rows.take (l + 1).toNat) (fun r _ rest => by simp [compD, dR])
    have hz : (rows.take (l + 1).toNat).length ≤ 1000000 := by omega
    generalize firstC l rows arr = fi at *
    generalize rows.take (l + 1).toNat = tk at *
    unfold crs at cc
    simp [cc, hz]
  · have hmx : gMax [.int 1, .int (wholeD day)] = some (.v (.int (if wholeD day > 1 then wholeD day else 1))) := rfl
    have hmd : gMod [.int (firstC l rows arr), .int (if wholeD day > 1 then wholeD day else 1)] = some (.v (.int (firstC l rows arr % (if wholeD day > 1 then wholeD day else 1)))) := if_pos (by split <;> omega)
    generalize (if wholeD day > 1 then wholeD day else 1) = wd at *
    simp [hmx, hmd, -gMod_c0]
theorem ev_full {a : Nat} (hl : bts.length ≤ 100000) : g_Course_is_full [crs b (dL s l p) day rows arr beg bts sd bgn, .v (.int (a : Nat))] = .ok (.v (.bl (!((bts.drop a).any fun x => x.2.2.2)))) [crs b (dL s l p) day rows arr beg bts sd bgn, .v (.int (a : Nat))] := by
  have hcut : cutA (bts.map dB) (some (a : Int)) none = (bts.drop a).map dB := by rw [cutA_lo (by omega), ← List.map_drop]; rfl
  have cc := comp_map (E0 := [some (crs true (dL s l p) day rows arr beg bts sd bgn), some (.v (.int (a : Nat))), none, none, none, none]) (vs := [2, 3, 4, 5]) (m := (mTup (mCons (mName 2) (mCons (mName 3) (mCons (mName 4) (mCons (mName 5) mNil)))) 4)) (t := tYesD) (f := eVar 5) (enc := dB) (ψ := fun x => D.bl x.2.2.2) (bts.drop a) (fun r _ rest => by simp [compD, dB])
  have hz : (bts.drop a).length ≤ 1000000 := by rw [List.length_drop]; omega
  have ha0 : ∀ dr : List BT, gAny [.lst (dr.map fun x => D.bl x.2.2.2)] = some (.v (.bl (dr.any fun x => x.2.2.2))) := fun dr => by
    rw [show (dr.map fun x => D.bl x.2.2.2) = (dr.map fun x => x.2.2.2).map D.bl by rw [List.map_map]; rfl]
    simp [gAny, blsOf_map, -List.map_map, List.any_map, Function.comp_def]
  have ha := ha0 (bts.drop a)
  generalize (bts.drop a).map (fun x => D.bl x.2.2.2) = zs at *
  generalize hdr : bts.drop a = dr at *
  generalize (dr.any fun x => x.2.2.2) = an at *
  rw [g_Course_is_full, mkFn_ap, b_Course_is_full]
  unfold crs at *
  generalize ((a : Nat) : Int) = ai at *
  cases b <;> simp [hcut, cc, hz, ha]
end
theorem keyC_plain (fi : Int) : ∀ rows : List Row, plainKs (rows.map fun r => dR (r.1 - fi, r.2.1, r.2.2)) = true ∧ (NestedKey.depthAll (keyOfs (rows.map fun r => dR (r.1 - fi, r.2.1, r.2.2)))) ≤ 1
  | [] => ⟨rfl, Nat.zero_le _⟩
  | r :: rs => by
    obtain ⟨i1, i2⟩ := keyC_plain fi rs
    rw [List.map_cons, plainKs, keyOfs, NestedKey.depthAll, i1]
    exact ⟨rfl, Nat.max_le.mpr ⟨Nat.le_refl _, i2⟩⟩
theorem keyC_ok (l : Int) (day : Day) (rows : List Row) (arr : Int) : okKey false (keyC l day rows arr) = true := by
  obtain ⟨i1, i2⟩ := keyC_plain (firstC l rows arr) (rows.take (l + 1).toNat)
  unfold keyC
  rw [okKey_t]
  unfold keyD
  rw [Bool.and_eq_true]
  constructor
  · rw [plainKs, plainK, i1]
    rfl
  · refine decide_eq_true ?_
    rw [DL.keyOf, NestedKey.depth, keyOfs, NestedKey.depthAll, DL.keyOf, NestedKey.depth]
    have e : NestedKey.depthAll (keyOfs [D.int (firstC l rows arr % (if wholeD day > 1 then wholeD day else 1))]) = 0 := rfl
    rw [e]
    omega
end Lw

namespace Lw
open PySem PySem.Spec PyProof.Rows L2 DL
def key (r : Row) : Int × Int := (r.1, r.2.1)
theorem key_bump (rs : List Row) : (bump rs).map key = rs.map key := by
  unfold bump
  rw [List.map_map]
  rfl
theorem loadGo_perm {l p : Int} : ∀ (n : Nat) (room : Int) (rows : List Row), (((loadGo l p n room rows).1 ++ (loadGo l p n room rows).2).map key).Perm (rows.map key)
  | 0, room, rows => by simp [loadGo]
  | n + 1, room, rows => by
    rw [loadGo]
    cases hn : nextAt p room (rows.take (l + 1).toNat) with
    | none => simp
    | some j =>
      cases hr : rows[j]? with
      | none => simp [hr]
      | some r =>
        simp only [hr]
        have ih := loadGo_perm (l := l) (p := p) n (room - r.2.1) (bump (rows.take j) ++ rows.drop (j + 1))
        rw [List.cons_append, List.map_cons]
        refine (ih.cons (key r)).trans ?_
        rw [List.map_append, key_bump]
        obtain ⟨hj, hr2⟩ := List.getElem?_eq_some_iff.mp hr
        have e : rows = rows.take j ++ r :: rows.drop (j + 1) := by
          rw [← hr2, List.getElem_cons_drop, List.take_append_drop]
        have e2 : rows.map key = (rows.take j).map key ++ key r :: (rows.drop (j + 1)).map key := by
          rw [← List.map_cons, ← List.map_append, ← e]
        rw [e2]
        exact List.perm_middle.symm
theorem loadGo_sum {l p : Int} : ∀ (n : Nat) (room : Int) (rows : List Row), 0 ≤ room → ((loadGo l p n room rows).1.map (·.2.1)).sum ≤ room
  | 0, room, rows, h => by simpa [loadGo] using h
  | n + 1, room, rows, h => by
    rw [loadGo]
    cases hn : nextAt p room (rows.take (l + 1).toNat) with
    | none => simpa using h
    | some j =>
      cases hr : rows[j]? with
      | none => simpa [hr] using h
      | some r =>
        simp only [hr]
        have hf : r.2.1 ≤ room := by
          have : ∀ (rs : List Row) (j : Nat) (r : Row), nextAt p room rs = some j → rs[j]? = some r → r.2.1 ≤ room := by
            intro rs
            induction rs with
            | nil => intro j r h; cases h
            | cons a rs ih =>
              intro j r h hr
              unfold nextAt at h
              by_cases h1 : a.2.1 ≤ room
              · rw [if_pos h1] at h; cases h; simp at hr; rw [← hr]; exact h1
              · rw [if_neg h1] at h
                by_cases h2 : p ≤ a.2.2
                · rw [if_pos h2] at h; cases h
                · rw [if_neg h2] at h
                  obtain ⟨k, hk, rfl⟩ := Option.map_eq_some_iff.mp h
                  exact ih k r hk (by simpa using hr)
          refine this _ j r hn ?_
          have := nextAt_lt hn
          rw [List.getElem?_take, if_pos (by simp at this; omega)]
          exact hr
        have ih := loadGo_sum (l := l) (p := p) n (room - r.2.1) (bump (rows.take j) ++ rows.drop (j + 1)) (by omega)
        rw [List.map_cons, List.sum_cons]
        omega
def upto (n : Nat) : List Int := (List.range n).map fun i : Nat => (i : Int)
theorem upto_nodup (n : Nat) : (upto n).Nodup := by
  unfold upto
  rw [List.nodup_iff_pairwise_ne, List.pairwise_map]
  exact List.pairwise_lt_range.imp fun h => by omega
/-! ### beat after beat -/
structure CSt where
  rows : List Row
  arr : Nat
  beg : List D
  bts : List BT
  Ps : List (Int × Int)
def crsN (b : Bool) (s l p : Int) (day : Day) (x : CSt) (bgn : D) : W := crs b (dL s l p) day x.rows (x.arr : Nat) x.beg x.bts (seatW x.Ps) bgn
def stepC (s l p : Int) (day : Day) (x : CSt) : CSt := ⟨restM s l p (rows1M x.rows x.arr (gsD day x.bts.length)), x.arr + (gsD day x.bts.length).length, x.beg ++ List.replicate (gsD day x.bts.length).length (.int (x.bts.length : Nat)), x.bts ++ [beatM s l p (rows1M x.rows x.arr (gsD day x.bts.length))], x.Ps ++ (sitM s l p (rows1M x.rows x.arr (gsD day x.bts.length))).map fun r => (r.1, (x.bts.length : Int))⟩
def stC (s l p : Int) (day : Day) : Nat → CSt
  | 0 => ⟨[], 0, [], [], []⟩
  | n + 1 => stepC s l p day (stC s l p day n)
structure OkDay (s : Int) (day : Day) : Prop where
  d1 : 0 < day.length
  d2 : day.length ≤ 6
  gr : ∀ q ∈ day, q.1.length ≤ 4 ∧ (∀ x ∈ q.1, 1 ≤ x ∧ x ≤ s) ∧ 0 ≤ q.2 ∧ q.2 ≤ 9
theorem newG_nums : ∀ (gs : List Int) (arr : Nat), upto arr ++ (newG arr gs).map (·.1) = upto (arr + gs.length)
  | [], arr => by simp [newG]
  | g :: gs, arr => by
    rw [newG, List.map_cons, show arr + (g :: gs).length = arr + 1 + gs.length by simp; omega, ← newG_nums gs (arr + 1)]
    have : upto (arr + 1) = upto arr ++ [(arr : Int)] := by unfold upto; rw [List.range_succ, List.map_append]; rfl
    rw [this, List.append_assoc]
    rfl
section
variable {s l p : Int} {day : Day}
theorem OkDay.gs (O : OkDay s day) (k : Nat) : (gsD day k).length ≤ 4 ∧ ∀ x ∈ gsD day k, 1 ≤ x ∧ x ≤ s := by
  have h3 : k % day.length < day.length := Nat.mod_lt _ O.d1
  unfold gsD
  rw [show day.getD (k % day.length) ([], 0) = day[k % day.length] by simp [h3]]
  have := O.gr _ (List.getElem_mem h3)
  exact ⟨this.1, this.2.1⟩
structure CInv (n : Nat) (x : CSt) : Prop where
  num : x.bts.length = n
  beg : x.beg.length = x.arr
  perm : ((x.Ps.map (·.1)) ++ x.rows.map (·.1)).Perm (upto x.arr)
  arr : x.arr ≤ 4 * n
theorem sit_rest_perm (r1 : List Row) : ((sitM s l p r1).map (·.1) ++ (restM s l p r1).map (·.1)).Perm (r1.map (·.1)) := by
  have lp := (loadGo_perm (l := l) (p := p) (nearM s l r1).length s (nearM s l r1)).map (·.1)
  rw [List.map_map, List.map_map] at lp
  have lp : (((loadGo l p (nearM s l r1).length s (nearM s l r1)).1 ++ (loadGo l p (nearM s l r1).length s (nearM s l r1)).2).map (·.1)).Perm ((nearM s l r1).map (·.1)) := lp
  unfold sitM restM
  rw [List.map_append, ← List.append_assoc, ← List.map_append]
  refine (List.Perm.append_right _ lp).trans ?_
  rw [← List.map_append]
  have : nearM s l r1 ++ r1.drop (nearM s l r1).length = r1 := by
    unfold nearM
    rw [List.length_take]
    rcases Nat.le_total (s + l + 1).toNat r1.length with h | h
    · rw [Nat.min_eq_left h, List.take_append_drop]
    · rw [Nat.min_eq_right h, List.take_of_length_le h, List.drop_eq_nil_of_le (Nat.le_refl _), List.append_nil]
  rw [this]
theorem CInv.at (O : OkDay s day) : ∀ n, CInv n (stC s l p day n)
  | 0 => ⟨rfl, rfl, by simp [stC, upto], Nat.le_refl _⟩
  | n + 1 => by
    have I := CInv.at O n
    have e0 : stC s l p day (n + 1) = stepC s l p day (stC s l p day n) := rfl
    rw [e0]
    generalize stC s l p day n = x at *
    have hg := (O.gs x.bts.length).1
    have sp := sit_rest_perm (s := s) (l := l) (p := p) (rows1M x.rows x.arr (gsD day x.bts.length))
    refine ⟨by show (x.bts ++ [_]).length = _; rw [List.length_append, I.num]; rfl, by show (x.beg ++ _).length = _; rw [List.length_append, List.length_replicate, I.beg]; rfl, ?_, by show x.arr + _ ≤ _; have := I.arr; omega⟩
    show (((x.Ps ++ (sitM s l p (rows1M x.rows x.arr (gsD day x.bts.length))).map fun r => (r.1, (x.bts.length : Int))).map (·.1)) ++ (restM s l p (rows1M x.rows x.arr (gsD day x.bts.length))).map (·.1)).Perm (upto (x.arr + (gsD day x.bts.length).length))
    rw [List.map_append, List.map_map, List.append_assoc]
    refine (List.Perm.append_left _ sp).trans ?_
    unfold rows1M
    rw [List.map_append, ← List.append_assoc, ← newG_nums]
    exact List.Perm.append_right _ I.perm
theorem CInv.nodup (O : OkDay s day) (n : Nat) : (((stC s l p day n).Ps.map (·.1)) ++ (sitM s l p (rows1M (stC s l p day n).rows (stC s l p day n).arr (gsD day (stC s l p day n).bts.length))).map (·.1)).Nodup := by
  have h := (CInv.at (l := l) (p := p) O (n + 1)).perm.nodup_iff.mpr (upto_nodup _)
  rw [List.nodup_append] at h
  have h := h.1
  have e : ((stC s l p day (n + 1)).Ps.map (·.1)) = ((stC s l p day n).Ps.map (·.1)) ++ (sitM s l p (rows1M (stC s l p day n).rows (stC s l p day n).arr (gsD day (stC s l p day n).bts.length))).map (·.1) := by
    rw [show (stC s l p day (n + 1)).Ps = (stC s l p day n).Ps ++ (sitM s l p (rows1M (stC s l p day n).rows (stC s l p day n).arr (gsD day (stC s l p day n).bts.length))).map fun r : Row => (r.1, ((stC s l p day n).bts.length : Int)) from rfl, List.map_append, List.map_map]
    rfl
  rw [e] at h
  exact h
theorem CInv.small {n : Nat} {x : CSt} (I : CInv n x) (hn : n ≤ 2400) : x.rows.length ≤ 10000 ∧ x.beg.length ≤ 10000 ∧ x.bts.length ≤ 10000 ∧ x.Ps.length ≤ 10000 := by
  have h := I.perm.length_eq
  have := I.arr
  have := I.num
  have := I.beg
  unfold upto at h
  simp at h
  omega
theorem ev_beatN {b : Bool} {bgn : D} (hld : okLd s l p) (O : OkDay s day) {n : Nat} (hn : n ≤ 2400) : g_Course_beat [crsN b s l p day (stC s l p day n) bgn] = .ok (.v .non) [crsN b s l p day (stC s l p day (n + 1)) bgn] := by
  have I := CInv.at (l := l) (p := p) O n
  obtain ⟨h1, h2, h3, h4⟩ := I.small hn
  have d2 := O.d2
  have hg := (O.gs (stC s l p day n).bts.length).1
  exact ev_beat hld O.d1 (by omega) (by omega) h1 h2 h3 h4 (CInv.nodup O n)
theorem wholeD_le (O : OkDay s day) : wholeD day < 1000 := by
  have key : ∀ (dd : Day), (∀ q ∈ dd, q.1.length ≤ 4) → wholeD dd ≤ 4 * (dd.length : Int) := by
    intro dd
    induction dd with
    | nil => intro _; simp [wholeD]
    | cons q dd ih =>
      intro h
      have h1 := ih fun q hq => h q (List.mem_cons_of_mem _ hq)
      have h2 := h q List.mem_cons_self
      unfold wholeD at *
      rw [List.map_cons, List.sum_cons, List.length_cons]
      omega
  have := key day fun q hq => (O.gr q hq).1
  have := O.d2
  omega
def keyN (s l p : Int) (day : Day) (n : Nat) : D := keyC l day (stC s l p day n).rows (stC s l p day n).arr
theorem ev_keyN {b : Bool} {bgn : D} (hld : okLd s l p) (O : OkDay s day) {n : Nat} (hn : n ≤ 2400) : g_Course_key [crsN b s l p day (stC s l p day n) bgn] = .ok (.v (keyN s l p day n)) [crsN b s l p day (stC s l p day n) bgn] := by
  have I := CInv.at (l := l) (p := p) O n
  obtain ⟨h1, _⟩ := I.small hn
  have d2 := O.d2
  exact ev_keyC hld.2.1.1 (by omega) (wholeD_le O) h1
def mnN (s l p : Int) (day : Day) (n : Nat) : Nat := (stC s l p day n).rows.length
def fullN (s l p : Int) (day : Day) (a n : Nat) : Bool := !(((stC s l p day n).bts.drop a).any fun x => x.2.2.2)
/-! the dict -/
theorem dixGet_put {ks ds : List D} {k d k' : D} (h : ks.length = ds.length) : dixGet (dixK ks k) (dixD ks ds k d) k' = if keyOf k = keyOf k' then some d else dixGet ks ds k' := by
  unfold dixK dixD
  by_cases hh : dixHas ks k = true
  · rw [if_pos hh, if_pos hh]
    induction ks generalizing ds with
    | nil => simp [dixHas] at hh
    | cons a ks ih =>
      cases ds with
      | nil => simp at h
      | cons e ds =>
        rw [dixRep, dixGet, dixGet]
        by_cases ha : keyOf a = keyOf k
        · rw [if_pos ha]
          by_cases hk : keyOf k = keyOf k'
          · rw [if_pos (ha.trans hk), if_pos hk]
          · have : keyOf a ≠ keyOf k' := fun z => hk (ha.symm.trans z)
            rw [if_neg this, if_neg this, if_neg hk]
            -- the rest
            clear ih hh
            have rep_none : ∀ (ks ds : List D), dixGet ks (dixRep ks ds k d) k' = dixGet ks ds k' := by
              intro ks
              induction ks with
              | nil => intro ds; rfl
              | cons b ks ih =>
                intro ds
                cases ds with
                | nil => rfl
                | cons e ds =>
                  rw [dixRep, dixGet, dixGet, ih ds]
                  by_cases hb : keyOf b = keyOf k'
                  · rw [if_pos hb, if_pos hb, if_neg (fun z => hk (z.symm.trans hb))]
                  · rw [if_neg hb, if_neg hb]
            exact rep_none ks ds
        · rw [if_neg ha]
          have hh2 : dixHas ks k = true := by
            unfold dixHas at hh ⊢
            rw [List.any_cons, decide_eq_false ha, Bool.false_or] at hh
            exact hh
          rw [ih (by simpa using h) hh2]
          by_cases hb : keyOf a = keyOf k'
          · rw [if_pos hb, if_pos hb, if_neg (fun z => ha (hb.trans z.symm))]
          · rw [if_neg hb, if_neg hb]
  · have hf : dixHas ks k = false := by simpa using hh
    rw [hf]
    simp only [Bool.false_eq_true, if_false]
    induction ks generalizing ds with
    | nil =>
      cases ds with
      | nil => rfl
      | cons e ds => simp at h
    | cons a ks ih =>
      cases ds with
      | nil => simp at h
      | cons e ds =>
        have ha : keyOf a ≠ keyOf k := fun z => by
          unfold dixHas at hf
          rw [List.any_cons, decide_eq_true z] at hf
          cases hf
        have hf2 : dixHas ks k = false := by
          unfold dixHas at hf ⊢
          rw [List.any_cons, decide_eq_false ha, Bool.false_or] at hf
          exact hf
        rw [List.cons_append, List.cons_append, dixGet, dixGet, ih (by simpa using h) (by simp [hf2]) hf2]
        by_cases hb : keyOf a = keyOf k'
        · rw [if_pos hb, if_pos hb, if_neg (fun z => ha (hb.trans z.symm))]
        · rw [if_neg hb, if_neg hb]
theorem dix_lens {ks ds : List D} {k d : D} (h : ks.length = ds.length) : (dixK ks k).length = (dixD ks ds k d).length ∧ (dixD ks ds k d).length ≤ ds.length + 1 := by
  unfold dixK dixD
  have rep_len : ∀ (ks ds : List D), ks.length = ds.length → (dixRep ks ds k d).length = ks.length := by
    intro ks
    induction ks with
    | nil => intro ds _; rfl
    | cons a ks ih =>
      intro ds h
      cases ds with
      | nil => simp at h
      | cons e ds => rw [dixRep, List.length_cons, ih ds (by simpa using h), List.length_cons]
  split
  · rw [rep_len ks ds h]; exact ⟨rfl, by omega⟩
  · simp [h]
end
end Lw

namespace Lw
open PySem PySem.Spec PyProof.Rows L2 DL
/-! ### the run -/
section
variable {s l p : Int} {day : Day}
def prevK (s l p : Int) (day : Day) (n : Nat) (k : D) : List Nat := (List.range n).filter fun b => decide (b % day.length = 0 ∧ keyOf (keyN s l p day b) = keyOf k)
def encN (s l p : Int) (day : Day) (b : Nat) : D := .tup [.int (b : Nat), .int (mnN s l p day b : Nat)]
def hitN (s l p : Int) (day : Day) (n b : Nat) : Bool := decide (mnN s l p day b = mnN s l p day n) || (decide (mnN s l p day b < mnN s l p day n) && fullN s l p day b n)
theorem for_run {seen : W} {key : D} {n : Nat} (hn : n ≤ 2400) (O : OkDay s day) : ∀ (bs : List Nat) (x3 x4 : Option D),
    (∃ b e, bs.find? (hitN s l p day n) = some b ∧ forD m_Course_run_0 lb_Course_run_0 (bs.map (encN s l p day)) [some (crsN true s l p day (stC s l p day n) .non), some seen, some (.v key), x3.map .v, x4.map .v] = .ok (.ret (.w (.v (.bl true)))) (some (crsN true s l p day (stC s l p day n) (.int (b : Nat))) :: e)) ∨
    (bs.find? (hitN s l p day n) = none ∧ ∃ y3 y4 : Option D, forD m_Course_run_0 lb_Course_run_0 (bs.map (encN s l p day)) [some (crsN true s l p day (stC s l p day n) .non), some seen, some (.v key), x3.map .v, x4.map .v] = .ok .next [some (crsN true s l p day (stC s l p day n) .non), some seen, some (.v key), y3.map .v, y4.map .v])
  | [], x3, x4 => .inr ⟨rfl, x3, x4, rfl⟩
  | b :: bs, x3, x4 => by
    have I := CInv.at (l := l) (p := p) O n
    obtain ⟨h1, h2, h3, h4⟩ := I.small hn
    have ef := ev_full (b := true) (s := s) (l := l) (p := p) (day := day) (rows := (stC s l p day n).rows) (arr := ((stC s l p day n).arr : Nat)) (beg := (stC s l p day n).beg) (bts := (stC s l p day n).bts) (sd := seatW (stC s l p day n).Ps) (bgn := .non) (a := b) (by omega)
    have em : m_Course_run_0 (encN s l p day b) [some (crsN true s l p day (stC s l p day n) .non), some seen, some (.v key), x3.map .v, x4.map .v] = some [some (crsN true s l p day (stC s l p day n) .non), some seen, some (.v key), some (.v (.int (b : Nat))), some (.v (.int (mnN s l p day b : Nat)))] := by
      unfold encN
      cases x3 <;> cases x4 <;> simp [m_Course_run_0]
    have ef : g_Course_is_full [crsN true s l p day (stC s l p day n) .non, .v (.int (b : Nat))] = .ok (.v (.bl (fullN s l p day b n))) [crsN true s l p day (stC s l p day n) .non, .v (.int (b : Nat))] := ef
    have hmn : mnN s l p day n = (stC s l p day n).rows.length := rfl
    have bd : lb_Course_run_0 [some (crsN true s l p day (stC s l p day n) .non), some seen, some (.v key), some (.v (.int (b : Nat))), some (.v (.int (mnN s l p day b : Nat)))] = if hitN s l p day n b = true then .ok (.ret (.w (.v (.bl true)))) [some (crsN true s l p day (stC s l p day n) (.int (b : Nat))), some seen, some (.v key), some (.v (.int (b : Nat))), some (.v (.int (mnN s l p day b : Nat)))] else .ok .next [some (crsN true s l p day (stC s l p day n) .non), some seen, some (.v key), some (.v (.int (b : Nat))), some (.v (.int (mnN s l p day b : Nat)))] := by
      unfold hitN
      rw [hmn]
      generalize mnN s l p day b = mb at *
      generalize fullN s l p day b n = fb at *
      generalize stC s l p day n = x at *
      unfold crsN crs at ef ⊢
      generalize ((b : Nat) : Int) = bi at *
      by_cases c1 : mb = x.rows.length
      · subst c1
        simp [lb_Course_run_0]
      · have c1' : ¬ ((mb : Int) = (x.rows.length : Int)) := by omega
        by_cases c2 : mb < x.rows.length
        · cases fb <;> simp [lb_Course_run_0, c1, c1', c2, ef]
        · simp [lb_Course_run_0, c1, c1', c2]
    rw [List.map_cons, forD, em, List.find?_cons]
    cases hh : hitN s l p day n b with
    | true =>
      rw [if_pos hh] at bd
      refine .inl ⟨b, [some seen, some (.v key), some (.v (.int (b : Nat))), some (.v (.int (mnN s l p day b : Nat)))], rfl, ?_⟩
      show R.bind (lb_Course_run_0 _) _ = _
      rw [bd, R.bind_ok]
    | false =>
      rw [if_neg (by rw [hh]; exact Bool.false_ne_true)] at bd
      rcases for_run (seen := seen) (key := key) hn O bs (some (.int (b : Nat))) (some (.int (mnN s l p day b : Nat))) with ⟨b', e, i1, i2⟩ | ⟨i1, y3, y4, i2⟩
      · refine .inl ⟨b', e, i1, ?_⟩
        show R.bind (lb_Course_run_0 _) _ = _
        rw [bd, R.bind_ok]
        exact i2
      · refine .inr ⟨i1, y3, y4, ?_⟩
        show R.bind (lb_Course_run_0 _) _ = _
        rw [bd, R.bind_ok]
        exact i2
/-- what is seen behind n beats -/
structure SeenOk (s l p : Int) (day : Day) (n : Nat) (ks ds : List D) : Prop where
  len : ks.length = ds.length
  few : ds.length ≤ n
  get : ∀ k, (dixGet ks ds k).getD (.lst []) = .lst ((prevK s l p day n k).map (encN s l p day))
theorem SeenOk.zero : SeenOk s l p day 0 [] [] := ⟨rfl, Nat.le_refl _, fun k => rfl⟩
theorem SeenOk.skip {n : Nat} {ks ds : List D} (S : SeenOk s l p day n ks ds) (h : n % day.length ≠ 0) : SeenOk s l p day (n + 1) ks ds := by
  refine ⟨S.len, by have := S.few; omega, fun k => ?_⟩
  rw [S.get k]
  unfold prevK
  rw [List.range_succ, List.filter_append]
  simp [h]
theorem SeenOk.put {n : Nat} {ks ds : List D} (S : SeenOk s l p day n ks ds) (h : n % day.length = 0) : SeenOk s l p day (n + 1) (dixK ks (keyN s l p day n)) (dixD ks ds (keyN s l p day n) (.lst ((prevK s l p day n (keyN s l p day n)).map (encN s l p day) ++ [encN s l p day n]))) := by
  obtain ⟨l1, l2⟩ := dix_lens (k := keyN s l p day n) (d := .lst ((prevK s l p day n (keyN s l p day n)).map (encN s l p day) ++ [encN s l p day n])) S.len
  refine ⟨l1, by have := S.few; omega, fun k => ?_⟩
  rw [dixGet_put S.len]
  have e1 : prevK s l p day (n + 1) k = prevK s l p day n k ++ (if keyOf (keyN s l p day n) = keyOf k then [n] else []) := by
    unfold prevK
    rw [List.range_succ, List.filter_append]
    congr 1
    by_cases hk : keyOf (keyN s l p day n) = keyOf k
    · simp [h, hk]
    · simp [h, hk]
  rw [e1]
  by_cases hk : keyOf (keyN s l p day n) = keyOf k
  · rw [if_pos hk, if_pos hk]
    have e2 : prevK s l p day n k = prevK s l p day n (keyN s l p day n) := by
      unfold prevK
      rw [hk]
    rw [e2, List.map_append]
    rfl
  · rw [if_neg hk, if_neg hk, List.append_nil, S.get k]
theorem body_run {n : Nat} {ks ds : List D} {x2 x3 x4 : Option D} (hld : okLd s l p) (O : OkDay s day) (hn : n ≤ 2000) (S : SeenOk s l p day n ks ds) :
    (n % day.length = 0 ∧ ∃ b e, (prevK s l p day n (keyN s l p day n)).find? (hitN s l p day n) = some b ∧ lb_Course_run_1 [some (crsN true s l p day (stC s l p day n) .non), some (.x (.d false ks ds)), x2.map .v, x3.map .v, x4.map .v] = .ok (.ret (.w (.v (.bl true)))) (some (crsN true s l p day (stC s l p day n) (.int (b : Nat))) :: e)) ∨
    ((n % day.length = 0 → (prevK s l p day n (keyN s l p day n)).find? (hitN s l p day n) = none) ∧ ∃ ks' ds' y2 y3 y4, SeenOk s l p day (n + 1) ks' ds' ∧ lb_Course_run_1 [some (crsN true s l p day (stC s l p day n) .non), some (.x (.d false ks ds)), x2.map .v, x3.map .v, x4.map .v] = .ok .next [some (crsN true s l p day (stC s l p day (n + 1)) .non), some (.x (.d false ks' ds')), Option.map .v y2, Option.map .v y3, Option.map .v y4]) := by
  have I := CInv.at (l := l) (p := p) O n
  have hnum := I.num
  have d1 := O.d1
  have d2 := O.d2
  have eb := ev_beatN (b := true) (bgn := .non) hld O (n := n) (by omega)
  have hm : gMod [.int (n : Nat), .int (day.length : Nat)] = some (.v (.int ((n % day.length : Nat) : Int))) := by rw [Int.natCast_emod]; exact if_pos (by omega)
  have hl : gLen [dDay day] = some (.v (.int (day.length : Nat))) := by simp [dDay]
  have hlen : ∀ rest : DEnv, eG (opV gLen (fldV 0 "Course" ns_Course 5) []) (some (crsN true s l p day (stC s l p day n) .non) :: rest) = .ok (.w (.v (.int (n : Nat)))) (some (crsN true s l p day (stC s l p day n) .non) :: rest) := fun rest => by
    unfold crsN crs
    simp [hnum]
  have hf1 : ∀ rest : DEnv, opN gLen [(eG (fG 0 "Course" ns_Course 1))] (some (crsN true s l p day (stC s l p day n) .non) :: rest) = .ok (.w (.v (.int (day.length : Nat)))) (some (crsN true s l p day (stC s l p day n) .non) :: rest) := fun rest => by
    unfold crsN crs
    simp [hl]
  have htest : ∀ rest : DEnv, tst (opN gEq [(opN gMod [(eG (opV gLen (fldV 0 "Course" ns_Course 5) [])), (opN gLen [(eG (fG 0 "Course" ns_Course 1))])]), (eD (.int 0))]) (some (crsN true s l p day (stC s l p day n) .non) :: rest) = .ok (decide (n % day.length = 0)) (some (crsN true s l p day (stC s l p day n) .non) :: rest) := fun rest => by
    refine tst_of (opN_of (us := [.w (.v (.int ((n % day.length : Nat) : Int))), .w (.v (.int 0))]) (ds := [.int ((n % day.length : Nat) : Int), .int 0]) (evs2 (opN_of (us := [.w (.v (.int (n : Nat))), .w (.v (.int (day.length : Nat)))]) (ds := [.int (n : Nat), .int (day.length : Nat)]) (evs2 (hlen rest) (hf1 rest)) rfl hm) rfl) rfl ?_)
    rw [gEq_int]
    generalize n % day.length = md
    have : decide (((md : Nat) : Int) = 0) = decide (md = 0) := decide_eq_decide.mpr ⟨fun h => by omega, fun h => by omega⟩
    rw [this]
  have hbeat : ∀ rest : DEnv, (sExpr (callM "Course" ns_Course g_Course_beat 0 [] [])) (some (crsN true s l p day (stC s l p day n) .non) :: rest) = .ok .next (some (crsN true s l p day (stC s l p day (n + 1)) .non) :: rest) := fun rest => by
    unfold crsN crs at eb ⊢
    simp [eb]
  unfold lb_Course_run_1
  by_cases h0 : n % day.length = 0
  · have ek := ev_keyN (b := true) (bgn := .non) hld O (n := n) (by omega)
    have hkey : ∀ rest : DEnv, callM "Course" ns_Course g_Course_key 0 [] [] (some (crsN true s l p day (stC s l p day n) .non) :: rest) = .ok (.w (.v (keyN s l p day n))) (some (crsN true s l p day (stC s l p day n) .non) :: rest) := fun rest => by
      unfold crsN crs at ek ⊢
      simp [ek]
    have hk : okKey false (keyN s l p day n) = true := keyC_ok l day _ _
    have hget : ∀ y3 y4 : Option D, eGetL 1 (vG 2) [some (crsN true s l p day (stC s l p day n) .non), some (.x (.d false ks ds)), some (.v (keyN s l p day n)), y3.map .v, y4.map .v] = .ok (.w (.v (.lst ((prevK s l p day n (keyN s l p day n)).map (encN s l p day))))) [some (crsN true s l p day (stC s l p day n) .non), some (.x (.d false ks ds)), some (.v (keyN s l p day n)), y3.map .v, y4.map .v] := fun y3 y4 => by
      have := S.get (keyN s l p day n)
      simp [hk, this]
    have hset : (sSet 2 (callM "Course" ns_Course g_Course_key 0 [] [])) [some (crsN true s l p day (stC s l p day n) .non), some (.x (.d false ks ds)), x2.map .v, x3.map .v, x4.map .v] = .ok .next [some (crsN true s l p day (stC s l p day n) .non), some (.x (.d false ks ds)), some (.v (keyN s l p day n)), x3.map .v, x4.map .v] := by
      refine set_v (hkey _) ?_
      cases x2 <;> rfl
    have hseq : ∀ y3 y4 : Option D, iterSeq (eGetL 1 (vG 2)) [some (crsN true s l p day (stC s l p day n) .non), some (.x (.d false ks ds)), some (.v (keyN s l p day n)), y3.map .v, y4.map .v] = .ok ((prevK s l p day n (keyN s l p day n)).map (encN s l p day)) [some (crsN true s l p day (stC s l p day n) .non), some (.x (.d false ks ds)), some (.v (keyN s l p day n)), y3.map .v, y4.map .v] := fun y3 y4 => by
      rw [iterSeq_ap, hget y3 y4]
      rfl
    rw [sSeq_ap, sIf_ap, htest, R.bind_ok, decide_eq_true h0, if_pos rfl]
    rcases for_run (seen := .x (.d false ks ds)) (key := keyN s l p day n) (n := n) (by omega) O (prevK s l p day n (keyN s l p day n)) x3 x4 with ⟨b, e, i1, i2⟩ | ⟨i1, y3, y4, i2⟩
    · refine .inl ⟨h0, b, e, i1, ?_⟩
      rw [sSeq_ap, hset, R.bind_ok]
      dsimp only
      rw [sSeq_ap, sFor_ap, hseq, R.bind_ok, i2, R.bind_ok]
      rfl
    · have few := S.few
      refine .inr ⟨fun _ => i1, _, _, some (keyN s l p day n), y3, y4, S.put h0, ?_⟩
      have hmn : ∀ rest : DEnv, eG (opV gLen (fldV 0 "Course" ns_Course 2) []) (some (crsN true s l p day (stC s l p day n) .non) :: rest) = .ok (.w (.v (.int (mnN s l p day n : Nat)))) (some (crsN true s l p day (stC s l p day n) .non) :: rest) := fun rest => by
        unfold crsN crs mnN
        simp
      have hpl : (prevK s l p day n (keyN s l p day n)).length ≤ n := by
        unfold prevK
        exact Nat.le_trans (List.length_filter_le _ _) (by simp)
      have hstore : (sStoreX 1 (vG 2) (opN gAdd [(eGetL 1 (vG 2)), (dLst [(dTup [(eG (opV gLen (fldV 0 "Course" ns_Course 5) [])), (eG (opV gLen (fldV 0 "Course" ns_Course 2) []))])])])) [some (crsN true s l p day (stC s l p day n) .non), some (.x (.d false ks ds)), some (.v (keyN s l p day n)), y3.map .v, y4.map .v] = .ok .next [some (crsN true s l p day (stC s l p day n) .non), some (.x (.d false (dixK ks (keyN s l p day n)) (dixD ks ds (keyN s l p day n) (.lst ((prevK s l p day n (keyN s l p day n)).map (encN s l p day) ++ [encN s l p day n]))))), some (.v (keyN s l p day n)), y3.map .v, y4.map .v] := by
        have g1 := hget y3 y4
        have hz : ((prevK s l p day n (keyN s l p day n)).map (encN s l p day)).length + 1 ≤ 1000000 := by rw [List.length_map]; omega
        have hd6 : ds.length < 1000000 := by omega
        unfold encN at *
        generalize eGetL 1 (vG 2) = gt at *
        generalize eG (opV gLen (fldV 0 "Course" ns_Course 5) []) = l5 at *
        generalize eG (opV gLen (fldV 0 "Course" ns_Course 2) []) = l2 at *
        generalize crsN true s l p day (stC s l p day n) .non = self at *
        generalize (prevK s l p day n (keyN s l p day n)).map _ = zs at *
        generalize keyN s l p day n = kk at *
        simp [g1, hlen, hmn, hz, hk, hd6]
      rw [sSeq_ap, hset, R.bind_ok]
      dsimp only
      rw [sSeq_ap, sFor_ap, hseq, R.bind_ok, i2, R.bind_ok]
      dsimp only
      rw [hstore, R.bind_ok]
      dsimp only
      rw [hbeat]
      rfl
  · refine .inr ⟨fun z => absurd z h0, ks, ds, x2, x3, x4, S.skip h0, ?_⟩
    rw [sSeq_ap, sIf_ap, htest, R.bind_ok, decide_eq_false h0]
    show R.bind (sNext _) _ = _
    rw [sNext_ap, R.bind_ok]
    exact hbeat _
end
end Lw

namespace Lw
open PySem PySem.Spec PyProof.Rows L2 DL
/-! ### what is told of a day that comes round -/
structure Rounds (s l p : Int) (day : Day) (N a : Nat) : Prop where
  m : N % day.length = 0
  few : N ≤ 2000
  hit : (prevK s l p day N (keyN s l p day N)).find? (hitN s l p day N) = some a
  new : ∀ n, n < N → n % day.length = 0 → (prevK s l p day n (keyN s l p day n)).find? (hitN s l p day n) = none
section
variable {s l p : Int} {day : Day} {N a : Nat}
theorem Rounds.lt (R0 : Rounds s l p day N a) : a < N := by
  have := List.mem_of_find?_eq_some R0.hit
  unfold prevK at this
  exact List.mem_range.mp (List.mem_filter.mp this).1
theorem loop_run (hld : okLd s l p) (O : OkDay s day) (Ro : Rounds s l p day N a) : ∀ (m n : Nat) (ks ds : List D) (x2 x3 x4 : Option D), n + m = N → SeenOk s l p day n ks ds →
    ∃ e, sWhile (tst (opN gLe [(eG (opV gLen (fldV 0 "Course" ns_Course 5) [])), (eD (.int 2000))])) lb_Course_run_1 [some (crsN true s l p day (stC s l p day n) .non), some (.x (.d false ks ds)), x2.map .v, x3.map .v, x4.map .v] = .ok (.ret (.w (.v (.bl true)))) (some (crsN true s l p day (stC s l p day N) (.int (a : Nat))) :: e)
  | m, n, ks, ds, x2, x3, x4, hm, S => by
    have few := Ro.few
    have I := CInv.at (l := l) (p := p) O n
    have hnum := I.num
    have hlen : ∀ rest : DEnv, eG (opV gLen (fldV 0 "Course" ns_Course 5) []) (some (crsN true s l p day (stC s l p day n) .non) :: rest) = .ok (.w (.v (.int (n : Nat)))) (some (crsN true s l p day (stC s l p day n) .non) :: rest) := fun rest => by
      unfold crsN crs
      simp [hnum]
    have tt : ∀ rest : DEnv, tst (opN gLe [(eG (opV gLen (fldV 0 "Course" ns_Course 5) [])), (eD (.int 2000))]) (some (crsN true s l p day (stC s l p day n) .non) :: rest) = .ok true (some (crsN true s l p day (stC s l p day n) .non) :: rest) := fun rest => by
      refine tst_of (opN_of (us := [.w (.v (.int (n : Nat))), .w (.v (.int 2000))]) (ds := [.int (n : Nat), .int 2000]) (evs2 (hlen rest) rfl) rfl ?_)
      show some (W.v (.bl (decide ((n : Int) ≤ 2000)))) = _
      rw [decide_eq_true (by omega)]
    rw [sWhile_step, tt, R.bind_ok, if_pos rfl]
    rcases body_run (x2 := x2) (x3 := x3) (x4 := x4) hld O (n := n) (by omega) S with ⟨h0, b, e, i1, i2⟩ | ⟨i1, ks', ds', y2, y3, y4, S', i2⟩
    · have en : n = N := by
        rcases Nat.lt_or_ge n N with h | h
        · rw [Ro.new n h h0] at i1
          cases i1
        · omega
      subst en
      rw [Ro.hit] at i1
      cases i1
      exact ⟨e, by rw [i2]; rfl⟩
    · cases m with
      | zero =>
        have en : n = N := by omega
        subst en
        have := Ro.hit
        rw [i1 Ro.m] at this
        cases this
      | succ m =>
        obtain ⟨e, ih⟩ := loop_run hld O Ro m (n + 1) ks' ds' y2 y3 y4 (by omega) S'
        exact ⟨e, by rw [i2, R.bind_ok]; exact ih⟩
theorem ev_run {b : Bool} (hld : okLd s l p) (O : OkDay s day) (Ro : Rounds s l p day N a) : g_Course_run [crsN b s l p day (stC s l p day 0) .non] = .ok (.v (.bl true)) [crsN b s l p day (stC s l p day N) (.int (a : Nat))] := by
  obtain ⟨e, lp⟩ := loop_run hld O Ro N 0 [] [] none none none (by omega) SeenOk.zero
  simp only [Option.map_none] at lp
  rw [g_Course_run, mkFn_ap, b_Course_run]
  unfold crsN crs at *
  cases b <;> simp [lp]
theorem ev_course (hld : okLd s l p) (O : OkDay s day) (Ro : Rounds s l p day N a) : g_course_of [.v (dL s l p), .v (dDay day)] = .ok (crsN false s l p day (stC s l p day N) (.int (a : Nat))) [.v (dL s l p), .v (dDay day)] := by
  have er := ev_run (b := true) hld O Ro
  have en : g_Course_new [.x (.o true "Course" ns_Course []), .v (dL s l p), .v (dDay day)] = .ok (.v .non) [crsN true s l p day (stC s l p day 0) .non, .v (dL s l p), .v (dDay day)] := by
    rw [g_Course_new, mkFn_ap, b_Course_new]
    unfold crsN crs seatW stC
    simp
  rw [g_course_of, mkFn_ap, b_course_of]
  unfold crsN crs at *
  generalize stC s l p day N = xN at *
  simp [en, er]
theorem ev_is_beat {g : List Int} {k : Int} (h1 : g.length ≤ 4) (h2 : ∀ x ∈ g, 1 ≤ x ∧ x ≤ s) (h3 : 0 ≤ k ∧ k ≤ 9) : g_is_beat [.v (dL s l p), .v (.tup [dI g, .int k])] = .ok (.v (.bl true)) [.v (dL s l p), .v (.tup [dI g, .int k])] := by
  have eg := ev_are_groups (l := l) (p := p) (n := 4) h2 (by omega)
  have ew := ev_is_whole k 0 9
  rw [decide_eq_true (by omega)] at eg
  rw [decide_eq_true h3] at ew
  have a0 : atI [dI g, D.int k] 0 = some (dI g) := by simp [atI_of]
  have a1 : atI [dI g, D.int k] 1 = some (.int k) := by simp [atI_of]
  generalize dI g = dg at *
  generalize dL s l p = dl at *
  rw [g_is_beat, mkFn_ap, b_is_beat]
  simp [eg, ew, a0, a1]
theorem ev_look_day (hld : okLd s l p) (O : OkDay s day) : g_look_day [.v (dL s l p), .v (dDay day)] = .ok (.v .non) [.v (dL s l p), .v (dDay day)] := by
  have el := ev_look_loader hld
  have d1 := O.d1
  have d2 := O.d2
  have cc := comp_map (E0 := [some (.v (dL s l p)), some (.v (dDay day)), none]) (vs := [2]) (m := mName 2) (t := tYesD) (f := (callF g_is_beat [none, none] [(eVar 0), (eVar 2)])) (enc := fun q : List Int × Int => D.tup [dI q.1, .int q.2]) (ψ := fun _ => D.bl true) day (fun q hq rest => by
    have h := O.gr q hq
    have eb := ev_is_beat (l := l) (p := p) h.1 h.2.1 h.2.2
    generalize dI q.1 = dq at *
    generalize dL s l p = dl at *
    simp [compD, eb])
  have ga : gAll [.lst (day.map fun _ => D.bl true)] = some (.v (.bl true)) := by
    rw [show (day.map fun _ => D.bl true) = (day.map fun _ => true).map D.bl by rw [List.map_map]; rfl]
    simp [gAll, blsOf_map, -List.map_map]
  have eg : g_is_good [.v (dL s l p), .v (dDay day)] = .ok (.v (.bl true)) [.v (dL s l p), .v (dDay day)] := by
    have c1 : (1 : Int) ≤ (day.length : Int) := by omega
    have c2 : (day.length : Int) ≤ 6 := by omega
    have hz : day.length ≤ 1000000 := by omega
    generalize (day.map fun _ => D.bl true) = zs at *
    generalize dL s l p = dl at *
    rw [g_is_good, mkFn_ap, b_is_good]
    unfold dDay at *
    simp [cc, ga, c1, c2, hz]
  generalize dL s l p = dl at *
  generalize dDay day = dd at *
  rw [g_look_day, mkFn_ap, b_look_day]
  simp [el, eg]
end
end Lw

namespace Lw
open PySem PySem.Spec PyProof.Rows L2 DL
section
variable {ld dd : D} {ws : List W0}
theorem waitC_lo {bt ai x y sg : Int} (look : g_look_day [.v ld, .v dd] = .ok (.v .non) [.v ld, .v dd]) (whole : g_is_whole [.v (.int bt), .v (.int 0), .v (.int 1000000000000000000)] = .ok (.v (.bl true)) [.v (.int bt), .v (.int 0), .v (.int 1000000000000000000)])
    (course : g_course_of [.v ld, .v dd] = .ok (.x (.o false "Course" ns_Course ws)) [.v ld, .v dd]) (f7 : ws[7]? = some (.v (.int ai))) (hge : bt < ai)
    (bh : g_Course_behind [.x (.o true "Course" ns_Course ws), .v (.int bt)] = .ok (.v (.tup [.int x, .int y])) [.x (.o true "Course" ns_Course ws), .v (.int bt)])
    (sfv : g_Course_singles_from [.x (.o true "Course" ns_Course ws), .v (.int 0), .v (.int 0), .v (.int (bt + 1))] = .ok (.v (.int sg)) [.x (.o true "Course" ns_Course ws), .v (.int 0), .v (.int 0), .v (.int (bt + 1))]) :
    g_waiting [.v ld, .v dd, .v (.int bt)] = .ok (.v (.tup [.int x, .int y, .int sg])) [.v ld, .v dd, .v (.int bt)] := by
  rw [g_waiting, mkFn_ap, b_waiting]
  simp [look, whole, course, f7, hge, bh, sfv]
theorem waitC_hi {bt ai c r q x y m1 m2 sbv sg p1 p2 : Int} (look : g_look_day [.v ld, .v dd] = .ok (.v .non) [.v ld, .v dd]) (whole : g_is_whole [.v (.int bt), .v (.int 0), .v (.int 1000000000000000000)] = .ok (.v (.bl true)) [.v (.int bt), .v (.int 0), .v (.int 1000000000000000000)])
    (course : g_course_of [.v ld, .v dd] = .ok (.x (.o false "Course" ns_Course ws)) [.v ld, .v dd]) (f7 : ws[7]? = some (.v (.int ai))) (hge : ¬ bt < ai)
    (len : g_Course_length [.x (.o true "Course" ns_Course ws)] = .ok (.v (.int c)) [.x (.o true "Course" ns_Course ws)])
    (hd : gDiv [.int (bt - ai), .int c] = some (.v (.int r))) (hm : gMod [.int (bt - ai), .int c] = some (.v (.int q)))
    (bh : g_Course_behind [.x (.o true "Course" ns_Course ws), .v (.int (ai + q))] = .ok (.v (.tup [.int x, .int y])) [.x (.o true "Course" ns_Course ws), .v (.int (ai + q))])
    (mo : g_Course_more [.x (.o true "Course" ns_Course ws)] = .ok (.v (.tup [.int m1, .int m2])) [.x (.o true "Course" ns_Course ws)])
    (sb : g_Course_singles_behind [.x (.o true "Course" ns_Course ws), .v (.int r)] = .ok (.v (.int sbv)) [.x (.o true "Course" ns_Course ws), .v (.int r)])
    (sfv : g_Course_singles_from [.x (.o true "Course" ns_Course ws), .v (.int sbv), .v (.int ai), .v (.int (ai + q + 1))] = .ok (.v (.int sg)) [.x (.o true "Course" ns_Course ws), .v (.int sbv), .v (.int ai), .v (.int (ai + q + 1))])
    (mu1 : gMul [.int r, .int m1] = some (.v (.int p1))) (mu2 : gMul [.int r, .int m2] = some (.v (.int p2))) :
    g_waiting [.v ld, .v dd, .v (.int bt)] = .ok (.v (.tup [.int (x + p1), .int (y + p2), .int sg])) [.v ld, .v dd, .v (.int bt)] := by
  rw [g_waiting, mkFn_ap, b_waiting]
  simp [look, whole, course, f7, hge, len, hd, hm, bh, mo, sb, sfv, mu1, mu2, -gDiv_c0, -gMod_c0]
theorem growC {c m1 m2 dr u : Int} {d1 d2 : D} (look : g_look_day [.v ld, .v dd] = .ok (.v .non) [.v ld, .v dd]) (course : g_course_of [.v ld, .v dd] = .ok (.x (.o false "Course" ns_Course ws)) [.v ld, .v dd])
    (len : g_Course_length [.x (.o true "Course" ns_Course ws)] = .ok (.v (.int c)) [.x (.o true "Course" ns_Course ws)])
    (mo : g_Course_more [.x (.o true "Course" ns_Course ws)] = .ok (.v (.tup [.int m1, .int m2])) [.x (.o true "Course" ns_Course ws)])
    (drv : g_Course_drift [.x (.o true "Course" ns_Course ws)] = .ok (.v (.int dr)) [.x (.o true "Course" ns_Course ws)]) (mx : gMax [.int 0, .int dr] = some (.v (.int u)))
    (s1 : g_share [.v (.int m1), .v (.int c)] = .ok (.v d1) [.v (.int m1), .v (.int c)]) (s2 : g_share [.v (.int u), .v (.int c)] = .ok (.v d2) [.v (.int u), .v (.int c)]) :
    g_grows [.v ld, .v dd] = .ok (.v (.tup [d1, d2])) [.v ld, .v dd] := by
  have a0 : atI [D.int m1, D.int m2] 0 = some (.int m1) := by simp [atI_of]
  rw [g_grows, mkFn_ap, b_grows]
  simp [look, course, len, mo, drv, mx, s1, s2, a0]
theorem settC {m1 m2 dr : Int} (look : g_look_day [.v ld, .v dd] = .ok (.v .non) [.v ld, .v dd]) (course : g_course_of [.v ld, .v dd] = .ok (.x (.o false "Course" ns_Course ws)) [.v ld, .v dd])
    (mo : g_Course_more [.x (.o true "Course" ns_Course ws)] = .ok (.v (.tup [.int m1, .int m2])) [.x (.o true "Course" ns_Course ws)])
    (drv : g_Course_drift [.x (.o true "Course" ns_Course ws)] = .ok (.v (.int dr)) [.x (.o true "Course" ns_Course ws)]) :
    g_settled [.v ld, .v dd] = .ok (.v (.bl (decide (m1 = 0) && decide (dr ≤ 0)))) [.v ld, .v dd] := by
  have a0 : atI [D.int m1, D.int m2] 0 = some (.int m1) := by simp [atI_of]
  rw [g_settled, mkFn_ap, b_settled]
  by_cases h : m1 = 0
  · subst h
    simp [look, course, mo, drv, a0]
  · simp [look, course, mo, drv, a0, h]
end
section
variable {s l p : Int} {day : Day} {N a : Nat}
def lfSum (bts : List BT) : Int := (bts.map (·.2.2.1)).sum
theorem ev_most (hld : okLd s l p) (O : OkDay s day) (Ro : Rounds s l p day N a) {d : D} (sh : g_share [.v (.int (lfSum ((stC s l p day N).bts.drop a))), .v (.int ((N - a : Nat) : Int))] = .ok (.v d) [.v (.int (lfSum ((stC s l p day N).bts.drop a))), .v (.int ((N - a : Nat) : Int))]) : g_most_singles [.v (dL s l p), .v (dDay day)] = .ok (.v d) [.v (dL s l p), .v (dDay day)] := by
  have look := ev_look_day hld O
  have course := ev_course hld O Ro
  have I := CInv.at (l := l) (p := p) O N
  have hnum := I.num
  have few := Ro.few
  have hlt := Ro.lt
  have len := ev_length (b := true) (ld := dL s l p) (day := day) (rows := (stC s l p day N).rows) (arr := ((stC s l p day N).arr : Nat)) (beg := (stC s l p day N).beg) (bts := (stC s l p day N).bts) (sd := seatW (stC s l p day N).Ps) (bgn := .int (a : Nat)) rfl
  rw [hnum, show (N : Int) - (a : Int) = ((N - a : Nat) : Int) by omega] at len
  generalize stC s l p day N = x at *
  have hcut : cutA (x.bts.map dB) (some (a : Int)) none = (x.bts.drop a).map dB := by rw [cutA_lo (by omega), ← List.map_drop]; rfl
  have cc := comp_map (E0 := [some (.v (dL s l p)), some (.v (dDay day)), some (crsN false s l p day x (.int (a : Nat))), none, none, none, none]) (vs := [3, 4, 5, 6]) (m := (mTup (mCons (mName 3) (mCons (mName 4) (mCons (mName 5) (mCons (mName 6) mNil)))) 4)) (t := tYesD) (f := eVar 5) (enc := dB) (ψ := fun x => D.int x.2.2.1) (x.bts.drop a) (fun r _ rest => by simp [compD, dB])
  have sm0 := sum_ints ((x.bts.drop a).map (·.2.2.1))
  have hz : (x.bts.drop a).length ≤ 1000000 := by rw [List.length_drop]; omega
  have sm : gSum [.lst ((x.bts.drop a).map fun x => D.int x.2.2.1)] = some (.v (.int (lfSum (x.bts.drop a)))) := by
    rw [List.map_map] at sm0
    exact sm0
  clear sm0
  generalize lfSum (x.bts.drop a) = lsv at *
  generalize (x.bts.drop a).map (fun x => D.int x.2.2.1) = zs at *
  generalize x.bts.drop a = dr at *
  generalize ((N - a : Nat) : Int) = ci at *
  generalize ((a : Nat) : Int) = ai at *
  rw [g_most_singles, mkFn_ap, b_most_singles]
  unfold crsN crs at *
  simp [look, course, hcut, cc, hz, sm, len, sh]
end
end Lw

namespace Lw
open PySem PySem.Spec PyProof.Rows L2 DL
section
variable {s l p : Int} {day : Day} {N a : Nat}
theorem dixGet_seat : ∀ {Ps : List (Int × Int)} {q : Int × Int}, (Ps.map (·.1)).Nodup → q ∈ Ps → dixGet ((Ps.map (·.1)).map D.int) (Ps.map fun q => .int q.2) (.int q.1) = some (.int q.2)
  | [], q, _, h => (List.not_mem_nil h).elim
  | x :: Ps, q, hn, h => by
    rw [List.map_cons, List.nodup_cons] at hn
    rw [List.map_cons, List.map_cons, List.map_cons, dixGet]
    by_cases e : x.1 = q.1
    · rw [if_pos (keyOf_int.mpr e)]
      rcases List.mem_cons.mp h with rfl | h
      · rfl
      · exact absurd (e ▸ List.mem_map_of_mem (f := fun q : Int × Int => q.1) h) hn.1
    · rw [if_neg (fun z => e (keyOf_int.mp z))]
      rcases List.mem_cons.mp h with rfl | h
      · exact absurd rfl e
      · exact dixGet_seat hn.2 h
theorem dixGet_none : ∀ {Ps : List (Int × Int)} {k : Int}, k ∉ Ps.map (·.1) → dixGet ((Ps.map (·.1)).map D.int) (Ps.map fun q => .int q.2) (.int k) = none
  | [], _, _ => rfl
  | x :: Ps, k, h => by
    rw [List.map_cons] at h
    rw [List.map_cons, List.map_cons, List.map_cons, dixGet, if_neg (fun z => h (by rw [keyOf_int.mp z]; exact List.mem_cons_self)), dixGet_none fun z => h (List.mem_cons_of_mem _ z)]
theorem Ps_nodup (O : OkDay s day) (n : Nat) : ((stC s l p day n).Ps.map (·.1)).Nodup := by
  have h := (CInv.at (l := l) (p := p) O n).perm.nodup_iff.mpr (upto_nodup _)
  rw [List.nodup_append] at h
  exact h.1
theorem loop_wait {bgn : D} {k : Int} (hld : okLd s l p) (O : OkDay s day) {n1 : Nat} (h1 : n1 ≤ 2400) {v : Int} (hin : (k, v) ∈ (stC s l p day n1).Ps) : ∀ (m n : Nat), n + m = n1 → (∀ j, n ≤ j → j < n1 → k ∉ (stC s l p day j).Ps.map (·.1)) →
    sWhile (tst (eG (opVr gXNotIn (vG 2) (fldV 3 "Course" ns_Course 6)))) lb_wait_of_0 [some (.v (dL s l p)), some (.v (dDay day)), some (.v (.int k)), some (crsN false s l p day (stC s l p day n) bgn)] = .ok .next [some (.v (dL s l p)), some (.v (dDay day)), some (.v (.int k)), some (crsN false s l p day (stC s l p day n1) bgn)]
  | 0, n, h, hno => by
    have en : n = n1 := by omega
    subst en
    have hg := dixGet_seat (Ps_nodup O n) hin
    have tt : tst (eG (opVr gXNotIn (vG 2) (fldV 3 "Course" ns_Course 6))) [some (.v (dL s l p)), some (.v (dDay day)), some (.v (.int k)), some (crsN false s l p day (stC s l p day n) bgn)] = .ok false [some (.v (dL s l p)), some (.v (dDay day)), some (.v (.int k)), some (crsN false s l p day (stC s l p day n) bgn)] := by
      unfold crsN crs seatW
      have hg : dixGet (((stC s l p day n).Ps.map (·.1)).map D.int) ((stC s l p day n).Ps.map fun q => .int q.2) (.int k) = some (.int v) := hg
      have okk : okKey true (.int k) = true := rfl
      generalize ((stC s l p day n).Ps.map (·.1)).map D.int = ks at *
      generalize (stC s l p day n).Ps.map (fun q => D.int q.2) = ds at *
      simp [hg, okk]
    rw [sWhile_step, tt, R.bind_ok]
    rfl
  | m + 1, n, h, hno => by
    have hg := dixGet_none (hno n (Nat.le_refl _) (by omega))
    have eb := ev_beatN (b := true) (bgn := bgn) hld O (n := n) (by omega)
    have tt : tst (eG (opVr gXNotIn (vG 2) (fldV 3 "Course" ns_Course 6))) [some (.v (dL s l p)), some (.v (dDay day)), some (.v (.int k)), some (crsN false s l p day (stC s l p day n) bgn)] = .ok true [some (.v (dL s l p)), some (.v (dDay day)), some (.v (.int k)), some (crsN false s l p day (stC s l p day n) bgn)] := by
      unfold crsN crs seatW
      have okk : okKey true (.int k) = true := rfl
      generalize ((stC s l p day n).Ps.map (·.1)).map D.int = ks at *
      generalize (stC s l p day n).Ps.map (fun q => D.int q.2) = ds at *
      simp [hg, okk]
    have bd : lb_wait_of_0 [some (.v (dL s l p)), some (.v (dDay day)), some (.v (.int k)), some (crsN false s l p day (stC s l p day n) bgn)] = .ok .next [some (.v (dL s l p)), some (.v (dDay day)), some (.v (.int k)), some (crsN false s l p day (stC s l p day (n + 1)) bgn)] := by
      unfold lb_wait_of_0 crsN crs at *
      simp [eb]
    rw [sWhile_step, tt, R.bind_ok, if_pos rfl, bd, R.bind_ok]
    exact loop_wait hld O h1 hin m (n + 1) (by omega) fun j hj1 hj2 => hno j (by omega) hj2
theorem ev_wait {k : Nat} {n1 : Nat} {v w : Int} (hld : okLd s l p) (O : OkDay s day) (Ro : Rounds s l p day N a) (hk : k ≤ 300) (h1 : N ≤ n1) (h2 : n1 ≤ 2400) (harr : (stC s l p day N).arr ≠ 0) (hin : ((k : Int), v) ∈ (stC s l p day n1).Ps) (hno : ∀ j, N ≤ j → j < n1 → (k : Int) ∉ (stC s l p day j).Ps.map (·.1)) (hb : (stC s l p day n1).beg[k]? = some (.int w)) :
    g_wait_of [.v (dL s l p), .v (dDay day), .v (.int (k : Nat))] = .ok (.v (.int (v - w))) [.v (dL s l p), .v (dDay day), .v (.int (k : Nat))] := by
  have look := ev_look_day hld O
  have course := ev_course hld O Ro
  have ew := ev_is_whole (k : Nat) 0 300
  rw [decide_eq_true (by omega)] at ew
  have lp := loop_wait (bgn := .int (a : Nat)) hld O h2 hin (n1 - N) N (by omega) hno
  have hg := dixGet_seat (Ps_nodup O n1) hin
  have ha : atI (stC s l p day n1).beg (k : Int) = some (.int w) := by rw [atI_of (by omega), show ((k : Nat) : Int).toNat = k by omega]; exact hb
  have ha0 : ¬ (((stC s l p day N).arr : Nat) : Int) = 0 := by omega
  rw [g_wait_of, mkFn_ap, b_wait_of]
  have okk : okKey true (.int (k : Nat)) = true := rfl
  generalize stC s l p day n1 = x1 at *
  generalize stC s l p day N = x at *
  generalize ((k : Nat) : Int) = kk at *
  unfold crsN crs at *
  have hsd : seatW x1.Ps = .d true ((x1.Ps.map (·.1)).map D.int) (x1.Ps.map fun q => .int q.2) := rfl
  rw [hsd] at lp
  generalize (x1.Ps.map (·.1)).map D.int = ks at *
  generalize x1.Ps.map (fun q => D.int q.2) = ds at *
  simp [look, course, ew, ha0, harr, lp, hg, okk, ha]
theorem ev_wait0 {k : Nat} (hld : okLd s l p) (O : OkDay s day) (Ro : Rounds s l p day N a) (hk : k ≤ 300) (harr : (stC s l p day N).arr = 0) :
    g_wait_of [.v (dL s l p), .v (dDay day), .v (.int (k : Nat))] = .ok (.v .non) [.v (dL s l p), .v (dDay day), .v (.int (k : Nat))] := by
  have look := ev_look_day hld O
  have course := ev_course hld O Ro
  have ew := ev_is_whole (k : Nat) 0 300
  rw [decide_eq_true (by omega)] at ew
  rw [g_wait_of, mkFn_ap, b_wait_of]
  generalize stC s l p day N = x at *
  generalize ((k : Nat) : Int) = kk at *
  unfold crsN crs at *
  rw [harr] at course
  simp [look, course, ew]
/-! all at once -/
theorem ev_wait_lo (hld : okLd s l p) (O : OkDay s day) (Ro : Rounds s l p day N a) {bt : Nat} (h : bt < a) : g_waiting [.v (dL s l p), .v (dDay day), .v (.int (bt : Nat))] = .ok (.v (.tup [.int (bhd (stC s l p day N).bts (bt + 1)).1, .int (bhd (stC s l p day N).bts (bt + 1)).2, .int (sf (sgD day) (lfB (stC s l p day N).bts) 0 (bt + 1) 0)])) [.v (dL s l p), .v (dDay day), .v (.int (bt : Nat))] := by
  have I := CInv.at (l := l) (p := p) O N
  have hnum := I.num
  have few := Ro.few
  have hlt := Ro.lt
  have d2 := O.d2
  have ew := ev_is_whole (bt : Nat) 0 1000000000000000000
  rw [decide_eq_true (by omega)] at ew
  have e1 := ev_bhd (b := true) (ld := dL s l p) (day := day) (rows := (stC s l p day N).rows) (arr := ((stC s l p day N).arr : Nat)) (beg := (stC s l p day N).beg) (bts := (stC s l p day N).bts) (sd := seatW (stC s l p day N).Ps) (bgn := .int (a : Nat)) (k := bt + 1) (by omega)
  rw [show ((bt + 1 : Nat) : Int) - 1 = (bt : Nat) by omega] at e1
  have e2 := ev_sf (b := true) (ld := dL s l p) (day := day) (rows := (stC s l p day N).rows) (arr := ((stC s l p day N).arr : Nat)) (beg := (stC s l p day N).beg) (bts := (stC s l p day N).bts) (sd := seatW (stC s l p day N).Ps) (bgn := .int (a : Nat)) (a := 0) (c := bt + 1) (m := 0) O.d1 (by omega) (by omega) (by omega)
  rw [show ((0 + (bt + 1) : Nat) : Int) = (bt : Int) + 1 by omega] at e2
  exact waitC_lo (ai := (a : Nat)) (ev_look_day hld O) ew (ev_course hld O Ro) rfl (by omega) e1 e2
theorem ev_wait_hi (hld : okLd s l p) (O : OkDay s day) (Ro : Rounds s l p day N a) {bt : Nat} (h : a ≤ bt) (h2 : (bt : Int) ≤ 1000000000000000000) : g_waiting [.v (dL s l p), .v (dDay day), .v (.int (bt : Nat))] = .ok (.v (.tup [.int ((bhd (stC s l p day N).bts (a + (bt - a) % (N - a) + 1)).1 + (((bt - a) / (N - a) : Nat) : Int) * ((bhd (stC s l p day N).bts N).1 - (bhd (stC s l p day N).bts a).1)), .int ((bhd (stC s l p day N).bts (a + (bt - a) % (N - a) + 1)).2 + (((bt - a) / (N - a) : Nat) : Int) * ((bhd (stC s l p day N).bts N).2 - (bhd (stC s l p day N).bts a).2)), .int (sf (sgD day) (lfB (stC s l p day N).bts) a ((bt - a) % (N - a) + 1) (sbM (sgD day) (lfB (stC s l p day N).bts) a (N - a) (((bt - a) / (N - a) : Nat) : Int)))])) [.v (dL s l p), .v (dDay day), .v (.int (bt : Nat))] := by
  have I := CInv.at (l := l) (p := p) O N
  have hnum := I.num
  have few := Ro.few
  have hlt := Ro.lt
  have d2 := O.d2
  have hmod := Nat.mod_lt (bt - a) (show 0 < N - a by omega)
  have hdl : (bt - a) / (N - a) ≤ bt - a := Nat.div_le_self _ _
  have hd : gDiv [.int ((bt : Int) - (a : Int)), .int ((N - a : Nat) : Int)] = some (.v (.int (((bt - a) / (N - a) : Nat) : Int))) := by
    rw [show (bt : Int) - (a : Int) = ((bt - a : Nat) : Int) by omega, Int.natCast_ediv]
    exact if_pos (by omega)
  have hm : gMod [.int ((bt : Int) - (a : Int)), .int ((N - a : Nat) : Int)] = some (.v (.int (((bt - a) % (N - a) : Nat) : Int))) := by
    rw [show (bt : Int) - (a : Int) = ((bt - a : Nat) : Int) by omega, Int.natCast_emod]
    exact if_pos (by omega)
  generalize (bt - a) / (N - a) = r at *
  generalize (bt - a) % (N - a) = q at *
  have ew := ev_is_whole (bt : Nat) 0 1000000000000000000
  rw [decide_eq_true (by omega)] at ew
  have len := ev_length (b := true) (ld := dL s l p) (day := day) (rows := (stC s l p day N).rows) (arr := ((stC s l p day N).arr : Nat)) (beg := (stC s l p day N).beg) (bts := (stC s l p day N).bts) (sd := seatW (stC s l p day N).Ps) (bgn := .int (a : Nat)) rfl
  rw [hnum, show (N : Int) - (a : Int) = ((N - a : Nat) : Int) by omega] at len
  have e1 := ev_bhd (b := true) (ld := dL s l p) (day := day) (rows := (stC s l p day N).rows) (arr := ((stC s l p day N).arr : Nat)) (beg := (stC s l p day N).beg) (bts := (stC s l p day N).bts) (sd := seatW (stC s l p day N).Ps) (bgn := .int (a : Nat)) (k := a + q + 1) (by omega)
  rw [show ((a + q + 1 : Nat) : Int) - 1 = (a : Int) + (q : Int) by omega] at e1
  have mo := ev_more (b := true) (ld := dL s l p) (day := day) (rows := (stC s l p day N).rows) (arr := ((stC s l p day N).arr : Nat)) (beg := (stC s l p day N).beg) (bts := (stC s l p day N).bts) (sd := seatW (stC s l p day N).Ps) (bgn := .int (a : Nat)) rfl (by omega)
  rw [hnum] at mo
  have sb := ev_sb (b := true) (ld := dL s l p) (day := day) (rows := (stC s l p day N).rows) (arr := ((stC s l p day N).arr : Nat)) (beg := (stC s l p day N).beg) (bts := (stC s l p day N).bts) (sd := seatW (stC s l p day N).Ps) (bgn := .int (a : Nat)) (a := a) (c := N - a) (r := (r : Int)) O.d1 (by omega) rfl (by omega) (by omega) (by omega)
  have e2 := ev_sf (b := true) (ld := dL s l p) (day := day) (rows := (stC s l p day N).rows) (arr := ((stC s l p day N).arr : Nat)) (beg := (stC s l p day N).beg) (bts := (stC s l p day N).bts) (sd := seatW (stC s l p day N).Ps) (bgn := .int (a : Nat)) (a := a) (c := q + 1) (m := sbM (sgD day) (lfB (stC s l p day N).bts) a (N - a) (r : Int)) O.d1 (by omega) (by omega) (by omega)
  rw [show ((a + (q + 1) : Nat) : Int) = (a : Int) + (q : Int) + 1 by omega] at e2
  exact waitC_hi (ai := (a : Nat)) (ev_look_day hld O) ew (ev_course hld O Ro) rfl (by omega) len hd hm e1 mo sb e2 (if_pos (.inl (by omega))) (if_pos (.inl (by omega)))
end
end Lw

namespace Lw
open PySem PySem.Spec PyProof.Rows L2 DL
theorem nextAt_none {p room : Int} : ∀ {rs : List Row}, (∀ r ∈ rs, room < r.2.1) → nextAt p room rs = none
  | [], _ => rfl
  | r :: rs, h => by
    have h1 := h r (by simp)
    rw [nextAt, if_neg (by omega), nextAt_none fun q hq => h q (by simp [hq])]
    split <;> rfl
/-! ### k52: days by hand -/
section
variable {s l p : Int}
theorem load_full (hl : 0 ≤ l) (r : Row) (rs : List Row) (n : Nat) (h1 : r.2.1 = s) (h2 : ∀ q ∈ rs, 0 < q.2.1) : loadGo l p (n + 1) s (r :: rs) = ([r], rs) := by
  rw [loadGo_first hl r rs n (by omega), h1, Int.sub_self]
  have e : loadGo l p n 0 rs = ([], rs) := by
    cases n with
    | zero => rfl
    | succ n =>
      rw [loadGo, nextAt_none fun q hq => h2 q (List.mem_of_mem_take hq)]
  rw [e]
theorem wants_full (hl : 0 ≤ l) (r : Row) (rs : List Row) (n : Nat) (h1 : r.2.1 = s) (h2 : ∀ q ∈ rs, 0 < q.2.1) (hn : rs.length ≤ n) : wantsM l p (n + 1) s (r :: rs) = decide ((rs.length : Int) ≤ l) := by
  rw [wantsM]
  by_cases hc : ((r :: rs).length : Int) ≤ l
  · rw [if_pos hc, decide_eq_true (by rw [List.length_cons] at hc; omega)]
  · rw [if_neg hc]
    obtain ⟨k, hk⟩ : ∃ k, (l + 1).toNat = k + 1 := ⟨l.toNat, by omega⟩
    have e0 : nextAt p s ((r :: rs).take (l + 1).toNat) = some 0 := by
      rw [hk, List.take_succ_cons, nextAt, if_pos (by omega)]
    rw [e0]
    simp only [List.getElem?_cons_zero, List.take_zero, bump, List.map_nil, List.nil_append, List.drop_succ_cons, List.drop_zero]
    rw [h1, Int.sub_self]
    cases n with
    | zero => rfl
    | succ n =>
      rw [wantsM]
      by_cases hc2 : (rs.length : Int) ≤ l
      · rw [if_pos hc2, decide_eq_true hc2]
      · rw [if_neg hc2, nextAt_none fun q hq => h2 q (List.mem_of_mem_take hq), decide_eq_false hc2]
/-- a beat at which all who wait fill a chair -/
theorem beat_full (hld : okLd s l p) (r : Row) (rs : List Row) (h1 : r.2.1 = s) (h2 : ∀ q ∈ rs, q.2.1 = s) : sitM s l p (r :: rs) = [r] ∧ restM s l p (r :: rs) = rs ∧ beatM s l p (r :: rs) = ((rs.length : Int), (rs.map (·.2.1)).sum, 0, decide ((rs.length : Int) ≤ l)) := by
  have hld' := hld
  unfold okLd at hld'
  obtain ⟨k, hk⟩ : ∃ k, (s + l + 1).toNat = k + 1 := ⟨(s + l).toNat, by omega⟩
  have en : nearM s l (r :: rs) = r :: rs.take k := by unfold nearM; rw [hk, List.take_succ_cons]
  have pos : ∀ q ∈ rs.take k, 0 < q.2.1 := fun q hq => by have := h2 q (List.mem_of_mem_take hq); omega
  have lf := load_full (s := s) (l := l) (p := p) hld.2.1.1 r (rs.take k) (rs.take k).length h1 pos
  have wf := wants_full (s := s) (l := l) (p := p) hld.2.1.1 r (rs.take k) (rs.take k).length h1 pos (Nat.le_refl _)
  have hs : sitM s l p (r :: rs) = [r] := by unfold sitM; rw [en, List.length_cons, lf]
  have hr : restM s l p (r :: rs) = rs := by
    unfold restM
    rw [en, List.length_cons, lf, List.drop_succ_cons, List.length_take]
    rcases Nat.le_total k rs.length with h | h
    · rw [Nat.min_eq_left h, List.take_append_drop]
    · rw [Nat.min_eq_right h, List.take_of_length_le h, List.drop_eq_nil_of_le (Nat.le_refl _), List.append_nil]
  refine ⟨hs, hr, ?_⟩
  unfold beatM
  rw [hs, hr, en, List.length_cons, wf, List.length_take]
  have e1 : s - ([r].map (·.2.1)).sum = 0 := by simp; omega
  have e2 : decide (((min k rs.length : Nat) : Int) ≤ l) = decide ((rs.length : Int) ≤ l) := decide_eq_decide.mpr ⟨fun h => by omega, fun h => by omega⟩
  rw [e1, e2]
theorem beat_none (hl : 0 ≤ l) : sitM s l p [] = [] ∧ restM s l p [] = [] ∧ beatM s l p [] = (0, 0, s, true) := by
  have en : nearM s l [] = [] := by unfold nearM; simp
  have hs : sitM s l p [] = [] := by unfold sitM; rw [en]; rfl
  have hr : restM s l p [] = [] := by unfold restM; rw [en]; rfl
  refine ⟨hs, hr, ?_⟩
  unfold beatM
  rw [hs, hr, en]
  simp [wantsM, hl]
end
/-! the days -/
def dOne (s c : Int) : Day := [([s], c)]
def dTwo (s : Int) : Day := [([s, s], 0)]
def dNon (c : Int) : Day := [([], c)]
def dTrn (s c : Int) : Day := [([s, s], c), ([], c)]
section
variable {s l p c : Int}
theorem ok_one (hs : 1 ≤ s) (hc : 0 ≤ c ∧ c ≤ 9) : OkDay s (dOne s c) := ⟨by simp [dOne], by simp [dOne], fun q hq => by
  simp only [dOne, List.mem_singleton] at hq
  subst hq
  exact ⟨by simp, fun x hx => by simp at hx; omega, hc⟩⟩
theorem ok_two (hs : 1 ≤ s) : OkDay s (dTwo s) := ⟨by simp [dTwo], by simp [dTwo], fun q hq => by
  simp only [dTwo, List.mem_singleton] at hq
  subst hq
  exact ⟨by simp, fun x hx => by simp at hx; omega, by simp⟩⟩
theorem ok_non (hc : 0 ≤ c ∧ c ≤ 9) : OkDay s (dNon c) := ⟨by simp [dNon], by simp [dNon], fun q hq => by
  simp only [dNon, List.mem_singleton] at hq
  subst hq
  exact ⟨by simp, fun x hx => by simp at hx, hc⟩⟩
theorem ok_trn (hs : 1 ≤ s) (hc : 0 ≤ c ∧ c ≤ 9) : OkDay s (dTrn s c) := ⟨by simp [dTrn], by simp [dTrn], fun q hq => by
  simp only [dTrn, List.mem_cons, List.not_mem_nil, or_false] at hq
  rcases hq with rfl | rfl
  · exact ⟨by simp, fun x hx => by simp at hx; omega, hc⟩
  · exact ⟨by simp, fun x hx => by simp at hx, hc⟩⟩
theorem gs1 {q : List Int × Int} (k : Nat) : gsD [q] k = q.1 ∧ sgD [q] k = q.2 := by
  unfold gsD sgD
  simp [Nat.mod_one]
theorem sg_trn (k : Nat) : sgD (dTrn s c) k = c := by
  unfold sgD dTrn
  have : k % 2 = 0 ∨ k % 2 = 1 := by omega
  rcases this with h | h <;> simp [h]
theorem st_one (hld : okLd s l p) : ∀ n, stC s l p (dOne s c) n = ⟨[], n, (List.range n).map fun k => .int (k : Nat), List.replicate n (0, 0, 0, true), (List.range n).map fun k : Nat => ((k : Int), (k : Int))⟩
  | 0 => rfl
  | n + 1 => by
    have ih := st_one hld n
    have bf := beat_full hld ((n : Int), s, 0) [] rfl (by simp)
    show stepC s l p (dOne s c) (stC s l p (dOne s c) n) = _
    rw [ih]
    unfold stepC
    simp only [List.length_replicate]
    rw [show gsD (dOne s c) n = [s] from (gs1 n).1]
    rw [show rows1M [] n [s] = [((n : Int), s, 0)] from rfl, bf.1, bf.2.1, bf.2.2]
    have hl : decide (((([] : List Row).length : Nat) : Int) ≤ l) = true := decide_eq_true (by have := hld.2.1.1; simpa using this)
    rw [hl]
    simp [List.range_succ, List.replicate_succ']
theorem st_non (hld : okLd s l p) : ∀ n, stC s l p (dNon c) n = ⟨[], 0, [], List.replicate n (0, 0, s, true), []⟩
  | 0 => rfl
  | n + 1 => by
    have ih := st_non hld n
    have bf := beat_none (s := s) (l := l) (p := p) hld.2.1.1
    show stepC s l p (dNon c) (stC s l p (dNon c) n) = _
    rw [ih]
    unfold stepC
    simp only [List.length_replicate]
    rw [show gsD (dNon c) n = [] from (gs1 n).1]
    rw [show rows1M [] 0 [] = [] from rfl, bf.1, bf.2.1, bf.2.2]
    simp [List.replicate_succ']
def rowsT (s : Int) (n m : Nat) : List Row := (List.range m).map fun i => (((n + i : Nat) : Int), s, 0)
theorem rowsT_succ (s : Int) (n m : Nat) : rowsT s n (m + 1) = ((n : Int), s, 0) :: rowsT s (n + 1) m := by
  unfold rowsT
  rw [List.range_succ_eq_map, List.map_cons, List.map_map]
  congr 1
  refine List.map_congr_left fun i _ => ?_
  show (((n + (i + 1) : Nat) : Int), s, (0 : Int)) = (((n + 1 + i : Nat) : Int), s, 0)
  rw [show n + (i + 1) = n + 1 + i by omega]
theorem rowsT_sum (s : Int) (n : Nat) : ∀ m, ((rowsT s n m).map (·.2.1)).sum = (m : Int) * s
  | 0 => by simp [rowsT]
  | m + 1 => by
    have := rowsT_sum s n m
    unfold rowsT at *
    rw [List.range_succ, List.map_append, List.map_append, List.sum_append, this, Int.natCast_add, Int.add_mul]
    simp
def begT (n : Nat) : List D := (List.range (2 * n)).map fun k => .int ((k / 2 : Nat) : Int)
def btT (s l : Int) (n : Nat) : List BT := (List.range n).map fun k => ((((k + 1 : Nat) : Int)), ((k + 1 : Nat) : Int) * s, 0, decide (((k + 1 : Nat) : Int) ≤ l))
theorem st_two (hld : okLd s l p) : ∀ n, stC s l p (dTwo s) n = ⟨rowsT s n n, 2 * n, begT n, btT s l n, (List.range n).map fun k : Nat => ((k : Int), (k : Int))⟩
  | 0 => rfl
  | n + 1 => by
    have ih := st_two hld n
    show stepC s l p (dTwo s) (stC s l p (dTwo s) n) = _
    rw [ih]
    unfold stepC
    have hbl : (btT s l n).length = n := by unfold btT; simp
    simp only [hbl]
    rw [show gsD (dTwo s) n = [s, s] from (gs1 n).1]
    have er : rows1M (rowsT s n n) (2 * n) [s, s] = ((n : Int), s, 0) :: rowsT s (n + 1) (n + 1) := by
      rw [← rowsT_succ]
      unfold rows1M rowsT newG newG newG
      rw [List.range_succ, List.range_succ, List.map_append, List.map_append, List.append_assoc]
      congr 1
      show [((2 * n : Nat) : Int), ((2 * n + 1 : Nat) : Int)].map (fun x => ((x : Int), s, (0 : Int))) = _
      simp
      omega
    have bf := beat_full hld ((n : Int), s, 0) (rowsT s (n + 1) (n + 1)) rfl (fun q hq => by
      obtain ⟨i, _, rfl⟩ := List.mem_map.mp hq
      rfl)
    rw [er, bf.1, bf.2.1, bf.2.2, rowsT_sum]
    have hlr : (rowsT s (n + 1) (n + 1)).length = n + 1 := by unfold rowsT; simp
    rw [hlr]
    have e1 : begT n ++ List.replicate [s, s].length (.int (n : Nat)) = begT (n + 1) := by
      unfold begT
      rw [show 2 * (n + 1) = 2 * n + 1 + 1 by omega, List.range_succ, List.range_succ, List.map_append, List.map_append, List.append_assoc]
      congr 1
      show [D.int (n : Nat), D.int (n : Nat)] = [D.int ((2 * n / 2 : Nat) : Int), D.int (((2 * n + 1) / 2 : Nat) : Int)]
      rw [show 2 * n / 2 = n by omega, show (2 * n + 1) / 2 = n by omega]
    have e2 : btT s l n ++ [((((n + 1 : Nat) : Int)), ((n + 1 : Nat) : Int) * s, 0, decide (((n + 1 : Nat) : Int) ≤ l))] = btT s l (n + 1) := by
      unfold btT
      rw [List.range_succ, List.map_append]
      rfl
    rw [e1, e2]
    simp [List.range_succ]
    omega
theorem st_trn1 (hld : okLd s l p) : stC s l p (dTrn s c) 1 = ⟨[(1, s, 0)], 2, [.int 0, .int 0], [(1, s, 0, decide ((1 : Int) ≤ l))], [(0, 0)]⟩ := by
  have bf := beat_full hld ((0 : Int), s, 0) [((1 : Int), s, 0)] rfl (by simp)
  show stepC s l p (dTrn s c) ⟨[], 0, [], [], []⟩ = _
  unfold stepC
  rw [show gsD (dTrn s c) ([] : List BT).length = [s, s] from rfl, show rows1M [] 0 [s, s] = [((0 : Int), s, 0), ((1 : Int), s, 0)] from rfl, bf.1, bf.2.1, bf.2.2]
  simp
theorem st_trn2 (hld : okLd s l p) : stC s l p (dTrn s c) 2 = ⟨[], 2, [.int 0, .int 0], [(1, s, 0, decide ((1 : Int) ≤ l)), (0, 0, 0, true)], [(0, 0), (1, 1)]⟩ := by
  have bf := beat_full hld ((1 : Int), s, 0) [] rfl (by simp)
  show stepC s l p (dTrn s c) (stC s l p (dTrn s c) 1) = _
  rw [st_trn1 hld]
  unfold stepC
  rw [show gsD (dTrn s c) [((1 : Int), s, (0 : Int), decide ((1 : Int) ≤ l))].length = [] from rfl, show rows1M [((1 : Int), s, (0 : Int))] 2 [] = [((1 : Int), s, 0)] from rfl, bf.1, bf.2.1, bf.2.2]
  have hl : decide (((([] : List Row).length : Nat) : Int) ≤ l) = true := decide_eq_true (by have := hld.2.1.1; simpa using this)
  rw [hl]
  simp
end
end Lw

namespace Lw
open PySem PySem.Spec PyProof.Rows L2 DL
theorem filter_one {P : Nat → Bool} {c : Nat} : ∀ N, c < N → (∀ b, b < N → (P b = true ↔ b = c)) → (List.range N).filter P = [c]
  | 0, h, _ => by omega
  | N + 1, h, hp => by
    rw [List.range_succ, List.filter_append]
    by_cases e : c = N
    · subst e
      have h1 : (List.range c).filter P = [] := by
        rw [List.filter_eq_nil_iff]
        intro b hb z
        have := List.mem_range.mp hb
        have := (hp b (by omega)).mp z
        omega
      have h2 : P c = true := (hp c (by omega)).mpr rfl
      rw [h1]
      simp [h2]
    · have h2 : P N = false := by
        cases hN : P N with
        | false => rfl
        | true => exact absurd ((hp N (by omega)).mp hN).symm e
      rw [filter_one N (by omega) fun b hb => hp b (by omega)]
      simp [h2]
theorem filter_none {P : Nat → Bool} {N : Nat} (h : ∀ b, b < N → P b = false) : (List.range N).filter P = [] := by
  rw [List.filter_eq_nil_iff]
  intro b hb z
  rw [h b (List.mem_range.mp hb)] at z
  cases z
section
variable {s l p c : Int} {day : Day}
theorem rd_same {N : Nat} (h0 : 0 < N) (hN : N ≤ 2000) (hm : N % day.length = 0) (hno : ∀ n, 0 < n → n < N → n % day.length ≠ 0) (hk : keyN s l p day 0 = keyN s l p day N) (hr : mnN s l p day 0 = mnN s l p day N) : Rounds s l p day N 0 := by
  refine ⟨hm, hN, ?_, fun n hn h => ?_⟩
  · obtain ⟨M, rfl⟩ : ∃ M, N = M + 1 := ⟨N - 1, by omega⟩
    unfold prevK
    rw [List.range_succ_eq_map, List.filter_cons, if_pos (decide_eq_true ⟨Nat.zero_mod _, by rw [hk]⟩), List.find?_cons]
    have : hitN s l p day (M + 1) 0 = true := by
      unfold hitN
      rw [decide_eq_true hr]
      rfl
    rw [this]
  · rcases Nat.eq_zero_or_pos n with z | z
    · subst z
      rfl
    · exact absurd h (hno n z hn)
theorem key_nil (l : Int) (day : Day) (arr : Int) : keyC l day [] arr = .tup [.tup [], .int (arr % (if wholeD day > 1 then wholeD day else 1))] := by
  unfold keyC firstC
  simp
theorem rd_one (hld : okLd s l p) : Rounds s l p (dOne s c) 1 0 := by
  refine rd_same (by omega) (by omega) (by simp [dOne]) (fun n h1 h2 => by omega) ?_ ?_
  · unfold keyN
    rw [st_one hld 0, st_one hld 1, key_nil, key_nil]
    simp [wholeD, dOne]
  · unfold mnN
    rw [st_one hld 0, st_one hld 1]
theorem rd_non (hld : okLd s l p) : Rounds s l p (dNon c) 1 0 := by
  refine rd_same (by omega) (by omega) (by simp [dNon]) (fun n h1 h2 => by omega) ?_ ?_
  · unfold keyN
    rw [st_non hld 0, st_non hld 1]
  · unfold mnN
    rw [st_non hld 0, st_non hld 1]
theorem rd_trn (hld : okLd s l p) : Rounds s l p (dTrn s c) 2 0 := by
  refine rd_same (by omega) (by omega) (by simp [dTrn]) (fun n h1 h2 => by
    have : n = 1 := by omega
    subst this
    simp [dTrn]) ?_ ?_
  · unfold keyN
    rw [st_trn2 hld, key_nil, show (stC s l p (dTrn s c) 0).rows = [] from rfl, show (stC s l p (dTrn s c) 0).arr = 0 from rfl, key_nil]
    simp [wholeD, dTrn]
  · unfold mnN
    rw [st_trn2 hld]
    rfl
theorem key_two (hld : okLd s l p) (n : Nat) : keyN s l p (dTwo s) n = .tup [.tup ((List.range (min n (l.toNat + 1))).map fun i => dR ((i : Nat), s, 0)), .int (((n % 2 : Nat) : Int))] := by
  have hl := hld.2.1.1
  unfold keyN
  rw [st_two hld n]
  simp only
  have hw : (if wholeD (dTwo s) > 1 then wholeD (dTwo s) else 1) = 2 := by simp [wholeD, dTwo]
  have ht : (rowsT s n n).take (l + 1).toNat = rowsT s n (min n (l.toNat + 1)) := by
    unfold rowsT
    rw [← List.map_take, List.take_range, show (l + 1).toNat = l.toNat + 1 by omega, Nat.min_comm]
  have hf : firstC l (rowsT s n n) ((2 * n : Nat) : Int) = (n : Int) := by
    unfold firstC
    rw [ht]
    cases n with
    | zero => simp [rowsT]
    | succ n =>
      obtain ⟨m, hm⟩ : ∃ m, min (n + 1) (l.toNat + 1) = m + 1 := ⟨min n l.toNat, by omega⟩
      rw [hm, rowsT_succ]
  unfold keyC
  rw [hf, ht, hw]
  congr 2
  · unfold rowsT
    rw [List.map_map]
    congr 1
    refine List.map_congr_left fun i _ => ?_
    show dR (((n + i : Nat) : Int) - n, s, 0) = dR ((i : Nat), s, 0)
    rw [show ((n + i : Nat) : Int) - (n : Int) = (i : Nat) by omega]
theorem keyOfs_len : ∀ ds : List D, (keyOfs ds).length = ds.length
  | [] => by simp [keyOfs]
  | d :: ds => by rw [keyOfs, List.length_cons, keyOfs_len ds, List.length_cons]
theorem key_two_iff (hld : okLd s l p) (a b : Nat) : keyOf (keyN s l p (dTwo s) a) = keyOf (keyN s l p (dTwo s) b) ↔ min a (l.toNat + 1) = min b (l.toNat + 1) ∧ a % 2 = b % 2 := by
  rw [key_two hld, key_two hld]
  constructor
  · intro h
    simp only [DL.keyOf, DL.keyOfs, NestedKey.tup.injEq, List.cons.injEq, and_true, NestedKey.num.injEq] at h
    have h1 := congrArg List.length h.1
    rw [keyOfs_len, keyOfs_len, List.length_map, List.length_map, List.length_range, List.length_range] at h1
    exact ⟨h1, by omega⟩
  · intro h
    rw [h.1, h.2]
theorem full_two (hld : okLd s l p) {b n : Nat} (h : b < n) : fullN s l p (dTwo s) b n = decide (l ≤ (b : Int)) := by
  unfold fullN
  rw [st_two hld n]
  simp only
  have key : ((btT s l n).drop b).any (fun x => x.2.2.2) = decide (((b + 1 : Nat) : Int) ≤ l) := by
    unfold btT
    rw [← List.map_drop, List.any_map]
    rw [Bool.eq_iff_iff, List.any_eq_true, decide_eq_true_iff]
    constructor
    · intro ⟨k, hk, h2⟩
      have h3 : decide (((k + 1 : Nat) : Int) ≤ l) = true := h2
      have h4 := of_decide_eq_true h3
      have h5 : b ≤ k := by
        obtain ⟨i, hi, rfl⟩ := List.mem_iff_getElem.mp hk
        simp
      omega
    · intro h2
      refine ⟨b, ?_, decide_eq_true h2⟩
      rw [List.mem_iff_getElem]
      exact ⟨0, by simp; omega, by simp⟩
  rw [key]
  by_cases h2 : ((b + 1 : Nat) : Int) ≤ l
  · rw [decide_eq_true h2, decide_eq_false (by omega)]
    rfl
  · rw [decide_eq_false h2, decide_eq_true (by omega)]
    rfl
theorem mn_two (hld : okLd s l p) (n : Nat) : mnN s l p (dTwo s) n = n := by
  unfold mnN
  rw [st_two hld n]
  simp [rowsT]
theorem rd_two (hld : okLd s l p) : Rounds s l p (dTwo s) (l.toNat + 3) (l.toNat + 1) := by
  have hld' := hld
  unfold okLd at hld'
  refine ⟨by simp [dTwo, Nat.mod_one], by omega, ?_, fun n hn _ => ?_⟩
  · have hp : prevK s l p (dTwo s) (l.toNat + 3) (keyN s l p (dTwo s) (l.toNat + 3)) = [l.toNat + 1] := by
      unfold prevK
      refine filter_one _ (by omega) fun b hb => ?_
      rw [decide_eq_true_iff, key_two_iff hld]
      simp only [dTwo, List.length_singleton, Nat.mod_one, true_and]
      omega
    rw [hp, List.find?_cons]
    have hh : hitN s l p (dTwo s) (l.toNat + 3) (l.toNat + 1) = true := by
      unfold hitN
      rw [mn_two hld, mn_two hld, full_two hld (by omega), decide_eq_true (show l.toNat + 1 < l.toNat + 3 by omega), decide_eq_true (show l ≤ ((l.toNat + 1 : Nat) : Int) by omega)]
      simp
    rw [hh]
  · have hp : prevK s l p (dTwo s) n (keyN s l p (dTwo s) n) = [] := by
      unfold prevK
      refine filter_none fun b hb => ?_
      refine decide_eq_false fun z => ?_
      rw [key_two_iff hld] at z
      omega
    rw [hp]
    rfl
/-! singles, where no seat is left -/
theorem sf_flat {sg lf : Nat → Int} (hc : 0 ≤ c) (h1 : ∀ k, sg k = c) (h2 : ∀ k, lf k = 0) : ∀ (n a : Nat) (m : Int), 0 ≤ m → sf sg lf a n m = m + (n : Int) * c
  | 0, a, m, _ => by simp [sf]
  | n + 1, a, m, hm => by
    rw [sf, h1, h2]
    have e : (if m + c - 0 > 0 then m + c - 0 else 0) = m + c := by split <;> omega
    rw [e, sf_flat hc h1 h2 n (a + 1) (m + c) (by omega), Int.natCast_add, Int.add_mul]
    omega
theorem sum_rep (c : Int) : ∀ n : Nat, (List.replicate n c).sum = (n : Int) * c
  | 0 => by simp
  | n + 1 => by rw [List.replicate_succ, List.sum_cons, sum_rep c n, Int.natCast_add, Int.add_mul]; omega
theorem drift_flat {sg lf : Nat → Int} (h1 : ∀ k, sg k = c) (h2 : ∀ k, lf k = 0) (a n : Nat) : driftM sg lf a n = (n : Int) * c := by
  unfold driftM
  rw [show ((List.range' a n).map fun k => sg k - lf k) = (List.range' a n).map fun _ => c from List.map_congr_left fun k _ => by rw [h1, h2]; omega]
  rw [List.map_const', sum_rep, List.length_range']
theorem sb_flat {sg lf : Nat → Int} (hc : 0 ≤ c) (h1 : ∀ k, sg k = c) (h2 : ∀ k, lf k = 0) (a n r : Nat) : sbM sg lf a n (r : Int) = ((a : Int) + (r : Int) * (n : Int)) * c := by
  unfold sbM
  rw [sf_flat hc h1 h2 a 0 0 (by omega), sf_flat hc h1 h2 n a 0 (by omega), drift_flat h1 h2]
  have hnc : 0 ≤ (n : Int) * c := Int.mul_nonneg (by omega) hc
  have hac : 0 ≤ (a : Int) * c := Int.mul_nonneg (by omega) hc
  have e : (if (n : Int) * c > 0 then (n : Int) * c else 0) = (n : Int) * c := by split <;> omega
  by_cases h0 : (r : Int) = 0
  · rw [if_pos h0, h0]
    simp
  · rw [if_neg h0]
    simp only [e]
    have e2 : 0 + (n : Int) * c + ((r : Int) - 1) * ((n : Int) * c) = (r : Int) * ((n : Int) * c) := by rw [Int.sub_mul]; omega
    rw [e2, Int.add_mul, Int.mul_assoc]
    split <;> omega
end
end Lw

namespace Lw
open PySem PySem.Spec PyProof.Rows L2 DL
/-! ### k52: what is told of these days -/
section
variable {s l p c : Int}
theorem to3 {g : List W → RF} {ins : List W} {x y z x' y' z' : Int} (h : g ins = .ok (.v (.tup [.int x, .int y, .int z])) ins) (e1 : x = x') (e2 : y = y') (e3 : z = z') : g ins = .ok (.v (.tup [.int x', .int y', .int z'])) ins := by
  rw [h, e1, e2, e3]
theorem share1 {a : Int} (h : 0 ≤ a) : g_share [.v (.int a), .v (.int 1)] = .ok (.v (.tup [.int a, .int 1])) [.v (.int a), .v (.int 1)] := by
  obtain ⟨n, rfl⟩ := Int.eq_ofNat_of_zero_le h
  have := ev_share (a := n) (b := 1) (by omega) (by omega)
  rw [Nat.gcd_one_left, Nat.div_one, Nat.div_one] at this
  exact this
theorem share2 {a : Int} (h : 0 ≤ a) : g_share [.v (.int (2 * a)), .v (.int 2)] = .ok (.v (.tup [.int a, .int 1])) [.v (.int (2 * a)), .v (.int 2)] := by
  obtain ⟨n, rfl⟩ := Int.eq_ofNat_of_zero_le h
  have := ev_share (a := 2 * n) (b := 2) (by omega) (by omega)
  rw [Nat.gcd_eq_left ⟨n, rfl⟩, Nat.mul_div_cancel_left _ (by omega)] at this
  exact this
theorem tells {day : Day} {N a : Nat} {m1 m2 dr u : Int} (hld : okLd s l p) (O : OkDay s day) (Ro : Rounds s l p day N a) (h1 : (bhd (stC s l p day N).bts N).1 - (bhd (stC s l p day N).bts a).1 = m1) (hdr : driftM (sgD day) (lfB (stC s l p day N).bts) a (N - a) = dr) (hu : (if dr > 0 then dr else 0) = u) :
    (∀ d1 d2, g_share [.v (.int m1), .v (.int ((N - a : Nat) : Int))] = .ok (.v d1) [.v (.int m1), .v (.int ((N - a : Nat) : Int))] → g_share [.v (.int u), .v (.int ((N - a : Nat) : Int))] = .ok (.v d2) [.v (.int u), .v (.int ((N - a : Nat) : Int))] → g_grows [.v (dL s l p), .v (dDay day)] = .ok (.v (.tup [d1, d2])) [.v (dL s l p), .v (dDay day)]) ∧
    g_settled [.v (dL s l p), .v (dDay day)] = .ok (.v (.bl (decide (m1 = 0) && decide (dr ≤ 0)))) [.v (dL s l p), .v (dDay day)] := by
  have look := ev_look_day hld O
  have course := ev_course hld O Ro
  have hn : (stC s l p day N).bts.length = N := (CInv.at O N).num
  have few := Ro.few
  have hlt := Ro.lt
  have d2 := O.d2
  have len := ev_length (b := true) (ld := dL s l p) (day := day) (rows := (stC s l p day N).rows) (arr := ((stC s l p day N).arr : Nat)) (beg := (stC s l p day N).beg) (bts := (stC s l p day N).bts) (sd := seatW (stC s l p day N).Ps) (bgn := .int (a : Nat)) rfl
  rw [hn, show (N : Int) - (a : Int) = ((N - a : Nat) : Int) by omega] at len
  have mo := ev_more (b := true) (ld := dL s l p) (day := day) (rows := (stC s l p day N).rows) (arr := ((stC s l p day N).arr : Nat)) (beg := (stC s l p day N).beg) (bts := (stC s l p day N).bts) (sd := seatW (stC s l p day N).Ps) (bgn := .int (a : Nat)) rfl (by omega)
  rw [hn, h1] at mo
  have drv := ev_drift (b := true) (ld := dL s l p) (day := day) (rows := (stC s l p day N).rows) (arr := ((stC s l p day N).arr : Nat)) (beg := (stC s l p day N).beg) (bts := (stC s l p day N).bts) (sd := seatW (stC s l p day N).Ps) (bgn := .int (a : Nat)) (a := a) (c := N - a) O.d1 (by omega) rfl (by omega) (by omega)
  rw [hdr] at drv
  refine ⟨fun d1 d2 s1 s2 => ?_, ?_⟩
  · exact growC look course len mo drv (by show some (W.v (.int (if dr > 0 then dr else 0))) = _; rw [hu]) s1 s2
  · exact settC look course mo drv
/-! one -/
theorem lf_one (hld : okLd s l p) (n k : Nat) : lfB (stC s l p (dOne s c) n).bts k = 0 := by
  rw [st_one hld n]
  unfold lfB
  by_cases h : k < n
  · simp [h]
  · simp [h]
theorem sg_one (k : Nat) : sgD (dOne s c) k = c := (gs1 k).2
theorem one_wait (hld : okLd s l p) (hc : 0 ≤ c ∧ c ≤ 9) {F : Nat} (hF : (F : Int) ≤ 1000000000000000000) : g_waiting [.v (dL s l p), .v (dDay (dOne s c)), .v (.int (F : Nat))] = .ok (.v (.tup [.int 0, .int 0, .int (c * ((F : Int) + 1))])) [.v (dL s l p), .v (dDay (dOne s c)), .v (.int (F : Nat))] := by
  have O := ok_one hld.1.1 hc
  have h := ev_wait_hi hld O (rd_one (c := c) hld) (bt := F) (Nat.zero_le _) hF
  have b0 : bhd (stC s l p (dOne s c) 1).bts 0 = (0, 0) := rfl
  have b1 : bhd (stC s l p (dOne s c) 1).bts 1 = (0, 0) := by rw [st_one hld 1]; rfl
  rw [Nat.sub_zero, Nat.sub_zero, Nat.mod_one, Nat.div_one, Nat.zero_add] at h
  refine to3 h (by rw [b1, b0]; simp) (by rw [b1, b0]; simp) ?_
  rw [sf_flat hc.1 (sg_one) (lf_one hld 1), sb_flat hc.1 (sg_one) (lf_one hld 1)]
  · simp
    rw [Int.mul_add, Int.mul_comm]
    omega
  · rw [sb_flat hc.1 (sg_one) (lf_one hld 1)]
    exact Int.mul_nonneg (by omega) hc.1
theorem rest_one (hld : okLd s l p) (hc : 0 ≤ c ∧ c ≤ 9) :
    g_grows [.v (dL s l p), .v (dDay (dOne s c))] = .ok (.v (.tup [.tup [.int 0, .int 1], .tup [.int c, .int 1]])) [.v (dL s l p), .v (dDay (dOne s c))] ∧
    g_settled [.v (dL s l p), .v (dDay (dOne s c))] = .ok (.v (.bl (decide (c = 0)))) [.v (dL s l p), .v (dDay (dOne s c))] ∧
    g_most_singles [.v (dL s l p), .v (dDay (dOne s c))] = .ok (.v (.tup [.int 0, .int 1])) [.v (dL s l p), .v (dDay (dOne s c))] ∧
    g_wait_of [.v (dL s l p), .v (dDay (dOne s c)), .v (.int 7)] = .ok (.v (.int 0)) [.v (dL s l p), .v (dDay (dOne s c)), .v (.int 7)] := by
  have O := ok_one hld.1.1 hc
  have Ro := rd_one (c := c) hld
  have b0 : bhd (stC s l p (dOne s c) 1).bts 0 = (0, 0) := rfl
  have b1 : bhd (stC s l p (dOne s c) 1).bts 1 = (0, 0) := by rw [st_one hld 1]; rfl
  obtain ⟨t1, t2⟩ := tells (m1 := 0) (m2 := 0) (dr := c) (u := c) hld O Ro (by rw [b1, b0]; rfl) (by rw [drift_flat sg_one (lf_one hld 1)]; simp) (by split <;> omega)
  refine ⟨t1 _ _ (share1 (by omega)) (share1 hc.1), ?_, ?_, ?_⟩
  · rw [t2]
    have : (decide ((0 : Int) = 0) && decide (c ≤ 0)) = decide (c = 0) := by
      rw [decide_eq_true rfl, Bool.true_and]
      exact decide_eq_decide.mpr ⟨fun h => by omega, fun h => by omega⟩
    rw [this]
  · have hz : lfSum ((stC s l p (dOne s c) 1).bts.drop 0) = 0 := by rw [st_one hld 1]; rfl
    exact ev_most hld O Ro (by rw [hz]; exact share1 (by omega))
  · have h := ev_wait (k := 7) (n1 := 8) (v := 7) (w := 7) hld O Ro (by omega) (by omega) (by omega) (by rw [st_one hld 1]; simp) (by rw [st_one hld 8]; decide) (fun j h1 h2 => by
      rw [st_one hld j]
      intro z
      simp at z
      omega) (by rw [st_one hld 8]; rfl)
    exact h
end
end Lw

namespace Lw
open PySem PySem.Spec PyProof.Rows L2 DL
section
variable {s l p c : Int}
/-! two -/
theorem sg_two (k : Nat) : sgD (dTwo s) k = 0 := (gs1 k).2
theorem lf_two (hld : okLd s l p) (n k : Nat) : lfB (stC s l p (dTwo s) n).bts k = 0 := by
  rw [st_two hld n]
  unfold lfB btT
  by_cases h : k < n
  · simp [h]
  · simp [h]
theorem bhd_two (hld : okLd s l p) (n : Nat) : ∀ k, k ≤ n → bhd (stC s l p (dTwo s) n).bts k = ((k : Int), (k : Int) * s)
  | 0, _ => by simp [bhd]
  | k + 1, h => by
    rw [st_two hld n]
    unfold bhd btT
    simp [show k < n by omega]
theorem two_wait (hld : okLd s l p) {F : Nat} (hF : (F : Int) ≤ 1000000000000000000) : g_waiting [.v (dL s l p), .v (dDay (dTwo s)), .v (.int (F : Nat))] = .ok (.v (.tup [.int ((F : Int) + 1), .int (s * ((F : Int) + 1)), .int 0])) [.v (dL s l p), .v (dDay (dTwo s)), .v (.int (F : Nat))] := by
  have O := ok_two hld.1.1
  have Ro := rd_two hld
  by_cases hlt : F < l.toNat + 1
  · have h := ev_wait_lo hld O Ro hlt
    rw [bhd_two hld _ (F + 1) (by omega)] at h
    refine to3 h (by show ((F + 1 : Nat) : Int) = _; omega) (by show ((F + 1 : Nat) : Int) * s = _; rw [Int.mul_comm, Int.natCast_add]; rfl) ?_
    rw [sf_flat (c := 0) (by omega) sg_two (lf_two hld _) _ _ _ (by omega)]
    simp
  · have h := ev_wait_hi hld O Ro (bt := F) (by omega) hF
    have hq := Nat.div_add_mod (F - (l.toNat + 1)) (l.toNat + 3 - (l.toNat + 1))
    have hml := Nat.mod_lt (F - (l.toNat + 1)) (show 0 < l.toNat + 3 - (l.toNat + 1) by omega)
    generalize (F - (l.toNat + 1)) / (l.toNat + 3 - (l.toNat + 1)) = r at *
    generalize (F - (l.toNat + 1)) % (l.toNat + 3 - (l.toNat + 1)) = q at *
    rw [show l.toNat + 3 - (l.toNat + 1) = 2 by omega] at *
    rw [bhd_two hld _ (l.toNat + 1 + q + 1) (by omega), bhd_two hld _ (l.toNat + 3) (by omega), bhd_two hld _ (l.toNat + 1) (by omega)] at h
    refine to3 h ?_ ?_ ?_
    · show ((l.toNat + 1 + q + 1 : Nat) : Int) + (r : Int) * (((l.toNat + 3 : Nat) : Int) - ((l.toNat + 1 : Nat) : Int)) = _
      rw [show ((l.toNat + 3 : Nat) : Int) - ((l.toNat + 1 : Nat) : Int) = 2 by omega]
      omega
    · show ((l.toNat + 1 + q + 1 : Nat) : Int) * s + (r : Int) * (((l.toNat + 3 : Nat) : Int) * s - ((l.toNat + 1 : Nat) : Int) * s) = _
      rw [← Int.sub_mul, show ((l.toNat + 3 : Nat) : Int) - ((l.toNat + 1 : Nat) : Int) = 2 by omega, ← Int.mul_assoc, ← Int.add_mul, Int.mul_comm]
      congr 1
      omega
    · have e : sbM (sgD (dTwo s)) (lfB (stC s l p (dTwo s) (l.toNat + 3)).bts) (l.toNat + 1) 2 (r : Int) = 0 := by
        rw [sb_flat (c := 0) (by omega) sg_two (lf_two hld _)]
        simp
      rw [e, sf_flat (c := 0) (by omega) sg_two (lf_two hld _) _ _ _ (by omega)]
      simp
theorem rest_two (hld : okLd s l p) :
    g_grows [.v (dL s l p), .v (dDay (dTwo s))] = .ok (.v (.tup [.tup [.int 1, .int 1], .tup [.int 0, .int 1]])) [.v (dL s l p), .v (dDay (dTwo s))] ∧
    g_settled [.v (dL s l p), .v (dDay (dTwo s))] = .ok (.v (.bl false)) [.v (dL s l p), .v (dDay (dTwo s))] ∧
    ∀ k : Nat, k < 300 → g_wait_of [.v (dL s l p), .v (dDay (dTwo s)), .v (.int (k : Nat))] = .ok (.v (.int ((k : Int) - ((k / 2 : Nat) : Int)))) [.v (dL s l p), .v (dDay (dTwo s)), .v (.int (k : Nat))] := by
  have O := ok_two hld.1.1
  have Ro := rd_two hld
  have hld' := hld
  unfold okLd at hld'
  have e2 : l.toNat + 3 - (l.toNat + 1) = 2 := by omega
  obtain ⟨t1, t2⟩ := tells (m1 := 2) (m2 := 0) (dr := 0) (u := 0) hld O Ro (by rw [bhd_two hld _ (l.toNat + 3) (by omega), bhd_two hld _ (l.toNat + 1) (by omega)]; show ((l.toNat + 3 : Nat) : Int) - ((l.toNat + 1 : Nat) : Int) = 2; omega) (by rw [drift_flat (c := 0) sg_two (lf_two hld _)]; simp) (by simp)
  rw [e2] at t1
  refine ⟨t1 _ _ (share2 (a := 1) (by omega)) (share2 (a := 0) (by omega)), by rw [t2]; simp, fun k hk => ?_⟩
  have hmax : k < max (l.toNat + 3) (k + 1) := by omega
  refine ev_wait (n1 := max (l.toNat + 3) (k + 1)) hld O Ro (by omega) (by omega) (by omega) (by rw [st_two hld]; show 2 * (l.toNat + 3) ≠ 0; omega) ?_ (fun j h1 h2 => ?_) ?_
  · rw [st_two hld]
    exact List.mem_map.mpr ⟨k, List.mem_range.mpr hmax, rfl⟩
  · rw [st_two hld]
    intro z
    obtain ⟨q, hq, e⟩ := List.mem_map.mp z
    obtain ⟨i, hi, rfl⟩ := List.mem_map.mp hq
    have := List.mem_range.mp hi
    have e : (i : Int) = (k : Int) := e
    omega
  · rw [st_two hld]
    show (begT (max (l.toNat + 3) (k + 1)))[k]? = _
    unfold begT
    rw [List.getElem?_map, List.getElem?_range (by omega)]
    rfl
/-! none -/
theorem sg_non (k : Nat) : sgD (dNon c) k = c := (gs1 k).2
theorem non_wait (hld : okLd s l p) (hc : 0 ≤ c ∧ c ≤ 9) {F : Nat} (hF : (F : Int) ≤ 1000000000000000000) {u : Int} (hu : (if c - s > 0 then c - s else 0) = u) : g_waiting [.v (dL s l p), .v (dDay (dNon c)), .v (.int (F : Nat))] = .ok (.v (.tup [.int 0, .int 0, .int (u * ((F : Int) + 1))])) [.v (dL s l p), .v (dDay (dNon c)), .v (.int (F : Nat))] := by
  have O := ok_non (s := s) hc
  have h := ev_wait_hi hld O (rd_non (c := c) hld) (bt := F) (Nat.zero_le _) hF
  have b0 : bhd (stC s l p (dNon c) 1).bts 0 = (0, 0) := rfl
  have b1 : bhd (stC s l p (dNon c) 1).bts 1 = (0, 0) := by rw [st_non hld 1]; rfl
  have lf0 : lfB (stC s l p (dNon c) 1).bts 0 = s := by rw [st_non hld 1]; rfl
  rw [Nat.sub_zero, Nat.sub_zero, Nat.mod_one, Nat.div_one, Nat.zero_add] at h
  refine to3 h (by rw [b1, b0]; simp) (by rw [b1, b0]; simp) ?_
  have s1 : ∀ m, sf (sgD (dNon c)) (lfB (stC s l p (dNon c) 1).bts) 0 1 m = if m + c - s > 0 then m + c - s else 0 := fun m => by
    rw [sf, sf, sg_non, lf0]
  have dr : driftM (sgD (dNon c)) (lfB (stC s l p (dNon c) 1).bts) 0 1 = c - s := by
    unfold driftM
    simp [sg_non, lf0]
  have hu0 : 0 ≤ u := by rw [← hu]; split <;> omega
  have sb : sbM (sgD (dNon c)) (lfB (stC s l p (dNon c) 1).bts) 0 1 (F : Int) = (F : Int) * u := by
    unfold sbM
    rw [s1, dr]
    by_cases h0 : (F : Int) = 0
    · rw [if_pos h0, h0]
      simp [sf]
    · rw [if_neg h0]
      have e1 : (if (0 : Int) + c - s > 0 then 0 + c - s else 0) = u := by rw [← hu, Int.zero_add]
      have e2 : (if c - s > 0 then c - s else 0) = u := hu
      simp only [e1, e2]
      rw [show u + ((F : Int) - 1) * u = (F : Int) * u by rw [Int.sub_mul]; omega]
      have e3 : sf (sgD (dNon c)) (lfB (stC s l p (dNon c) 1).bts) 0 0 0 = 0 := rfl
      rw [e3, Int.zero_add]
      by_cases hp : c - s > 0
      · rw [if_pos hp] at hu
        rw [hu]
        split <;> rfl
      · rw [if_neg hp] at hu
        subst hu
        have : (F : Int) * (c - s) ≤ 0 := Int.mul_nonpos_of_nonneg_of_nonpos (by omega) (by omega)
        simp
        omega
  rw [sb, s1]
  have hFu : 0 ≤ (F : Int) * u := Int.mul_nonneg (by omega) hu0
  rw [Int.mul_add, Int.mul_one, Int.mul_comm u]
  by_cases hp : c - s > 0
  · rw [if_pos hp] at hu
    rw [if_pos (by omega)]
    omega
  · rw [if_neg hp] at hu
    subst hu
    simp
    omega
theorem rest_non (hld : okLd s l p) (hc : 0 ≤ c ∧ c ≤ 9) :
    g_settled [.v (dL s l p), .v (dDay (dNon c))] = .ok (.v (.bl (decide (c ≤ s)))) [.v (dL s l p), .v (dDay (dNon c))] ∧
    g_most_singles [.v (dL s l p), .v (dDay (dNon c))] = .ok (.v (.tup [.int s, .int 1])) [.v (dL s l p), .v (dDay (dNon c))] ∧
    g_wait_of [.v (dL s l p), .v (dDay (dNon c)), .v (.int 3)] = .ok (.v .non) [.v (dL s l p), .v (dDay (dNon c)), .v (.int 3)] := by
  have O := ok_non (s := s) hc
  have Ro := rd_non (c := c) hld
  have lf0 : lfB (stC s l p (dNon c) 1).bts 0 = s := by rw [st_non hld 1]; rfl
  have b0 : bhd (stC s l p (dNon c) 1).bts 0 = (0, 0) := rfl
  have b1 : bhd (stC s l p (dNon c) 1).bts 1 = (0, 0) := by rw [st_non hld 1]; rfl
  obtain ⟨t1, t2⟩ := tells (m1 := 0) (m2 := 0) (dr := c - s) (u := if c - s > 0 then c - s else 0) hld O Ro (by rw [b1, b0]; rfl) (by unfold driftM; simp [sg_non, lf0]) rfl
  refine ⟨?_, ?_, ?_⟩
  · rw [t2]
    have : (decide ((0 : Int) = 0) && decide (c - s ≤ 0)) = decide (c ≤ s) := by
      rw [decide_eq_true rfl, Bool.true_and]
      exact decide_eq_decide.mpr ⟨fun h => by omega, fun h => by omega⟩
    rw [this]
  · have hz : lfSum ((stC s l p (dNon c) 1).bts.drop 0) = s := by rw [st_non hld 1]; simp [lfSum]
    exact ev_most hld O Ro (by rw [hz]; exact share1 (by have := hld.1.1; omega))
  · exact ev_wait0 (k := 3) hld O Ro (by omega) (by rw [st_non hld 1])
/-! turns -/
theorem lf_trn (hld : okLd s l p) (k : Nat) : lfB (stC s l p (dTrn s c) 2).bts k = 0 := by
  rw [st_trn2 hld]
  unfold lfB
  match k with
  | 0 => rfl
  | 1 => rfl
  | k + 2 => rfl
theorem trn_wait (hld : okLd s l p) (hc : 0 ≤ c ∧ c ≤ 9) {F : Nat} (hF : (F : Int) ≤ 1000000000000000000) {e : Int} (he : e = if F % 2 = 0 then 1 else 0) : g_waiting [.v (dL s l p), .v (dDay (dTrn s c)), .v (.int (F : Nat))] = .ok (.v (.tup [.int e, .int (s * e), .int (c * ((F : Int) + 1))])) [.v (dL s l p), .v (dDay (dTrn s c)), .v (.int (F : Nat))] := by
  have O := ok_trn hld.1.1 hc
  have h := ev_wait_hi hld O (rd_trn (c := c) hld) (bt := F) (Nat.zero_le _) hF
  have b0 : bhd (stC s l p (dTrn s c) 2).bts 0 = (0, 0) := rfl
  have b1 : bhd (stC s l p (dTrn s c) 2).bts 1 = (1, s) := by rw [st_trn2 hld]; rfl
  have b2 : bhd (stC s l p (dTrn s c) 2).bts 2 = (0, 0) := by rw [st_trn2 hld]; rfl
  rw [Nat.sub_zero, Nat.sub_zero, Nat.zero_add] at h
  have hq := Nat.div_add_mod F 2
  rw [b2, b0] at h
  have sb := sb_flat hc.1 (fun k => sg_trn (s := s) (c := c) k) (lf_trn (c := c) hld) 0 2 (F / 2)
  have sbn : 0 ≤ sbM (sgD (dTrn s c)) (lfB (stC s l p (dTrn s c) 2).bts) 0 2 ((F / 2 : Nat) : Int) := by
    rw [sb]
    exact Int.mul_nonneg (by omega) hc.1
  have sv : sf (sgD (dTrn s c)) (lfB (stC s l p (dTrn s c) 2).bts) 0 (F % 2 + 1) (sbM (sgD (dTrn s c)) (lfB (stC s l p (dTrn s c) 2).bts) 0 2 ((F / 2 : Nat) : Int)) = c * ((F : Int) + 1) := by
    rw [sf_flat hc.1 (fun k => sg_trn k) (lf_trn (c := c) hld) _ _ _ sbn, sb, ← Int.add_mul, Int.mul_comm]
    congr 1
    omega
  have hm : F % 2 = 0 ∨ F % 2 = 1 := by omega
  rcases hm with hm | hm
  · rw [if_pos hm] at he
    subst he
    rw [hm, b1] at h
    rw [hm] at sv
    exact to3 h (by simp) (by simp) sv
  · rw [if_neg (by omega)] at he
    subst he
    rw [hm, b2] at h
    rw [hm] at sv
    exact to3 h (by simp) (by simp) sv
theorem rest_trn (hld : okLd s l p) (hc : 0 ≤ c ∧ c ≤ 9) :
    g_grows [.v (dL s l p), .v (dDay (dTrn s c))] = .ok (.v (.tup [.tup [.int 0, .int 1], .tup [.int c, .int 1]])) [.v (dL s l p), .v (dDay (dTrn s c))] ∧
    g_most_singles [.v (dL s l p), .v (dDay (dTrn s c))] = .ok (.v (.tup [.int 0, .int 1])) [.v (dL s l p), .v (dDay (dTrn s c))] := by
  have O := ok_trn hld.1.1 hc
  have Ro := rd_trn (c := c) hld
  have b0 : bhd (stC s l p (dTrn s c) 2).bts 0 = (0, 0) := rfl
  have b2 : bhd (stC s l p (dTrn s c) 2).bts 2 = (0, 0) := by rw [st_trn2 hld]; rfl
  obtain ⟨t1, t2⟩ := tells (m1 := 0) (m2 := 0) (dr := 2 * c) (u := 2 * c) hld O Ro (by rw [b2, b0]; rfl) (by rw [drift_flat (fun k => sg_trn k) (lf_trn (c := c) hld)]; rfl) (by split <;> omega)
  refine ⟨t1 _ _ (share2 (a := 0) (by omega)) (share2 hc.1), ?_⟩
  have hz : lfSum ((stC s l p (dTrn s c) 2).bts.drop 0) = 0 := by rw [st_trn2 hld]; rfl
  exact ev_most hld O Ro (by rw [hz]; exact share2 (a := 0) (by omega))
end
end Lw

namespace Lw
open PySem PySem.Spec PyProof.Rows L2 DL
/-! ### k52: the law -/
theorem ne_f (xs : List Int) : gNe [.tup (xs.map D.int), .tup (xs.map D.int)] = some (.v (.bl false)) := (gNe_en en_dI xs xs).trans (by rw [decide_eq_true rfl]; rfl)
theorem ne_ff (xs : List (List Int)) : gNe [.tup (xs.map dI), .tup (xs.map dI)] = some (.v (.bl false)) := (gNe_en (en_tup en_dI) xs xs).trans (by rw [decide_eq_true rfl]; rfl)
theorem eq_ff (xs : List (List Int)) : gEq [.tup (xs.map dI), .tup (xs.map dI)] = some (.v (.bl true)) := (gEq_en (en_tup en_dI) xs xs).trans (by rw [decide_eq_true rfl])
theorem eq_f (xs : List Int) : gEq [.tup (xs.map D.int), .tup (xs.map D.int)] = some (.v (.bl true)) := (gEq_en en_dI xs xs).trans (by rw [decide_eq_true rfl])
section
variable {e0 e1 e2 e7 e8 e9 e10 e11 e12 : Option W} {ld d6 d7 d9 d11 : D} {c F z s : Int}
theorem st_a (hw : g_waiting [.v ld, .v d6, .v (.int F)] = .ok (.v (.tup [.int 0, .int 0, .int z])) [.v ld, .v d6, .v (.int F)]) (hm : gMul [.int c, .int (F + 1)] = some (.v (.int z))) (hg : g_grows [.v ld, .v d6] = .ok (.v (.tup [.tup [.int 0, .int 1], .tup [.int c, .int 1]])) [.v ld, .v d6]) :
    (sIf (tOrD (tst (opN gNe [(callF g_waiting [none, none, none] [(eVar 3), (eVar 6), (eVar 5)]), (dTup [(eD (.int 0)), (eD (.int 0)), (opN gMul [(eVar 4), (opN gAdd [(eVar 5), (eD (.int 1))])])])])) (tst (opN gNe [(callF g_grows [none, none] [(eVar 3), (eVar 6)]), (dTup [(dTup [(eD (.int 0)), (eD (.int 1))]), (dTup [(eVar 4), (eD (.int 1))])])]))) (sRet (eD (.bl false))) sNext) [e0, e1, e2, some (.v ld), some (.v (.int c)), some (.v (.int F)), some (.v d6), e7, e8, e9, e10, e11, e12] = .ok .next [e0, e1, e2, some (.v ld), some (.v (.int c)), some (.v (.int F)), some (.v d6), e7, e8, e9, e10, e11, e12] := by
  have n1 : gNe [.tup [.int 0, .int 0, .int z], .tup [.int 0, .int 0, .int z]] = some (.v (.bl false)) := ne_f [0, 0, z]
  have n2 : gNe [.tup [.tup [.int 0, .int 1], .tup [.int c, .int 1]], .tup [.tup [.int 0, .int 1], .tup [.int c, .int 1]]] = some (.v (.bl false)) := ne_ff [[0, 1], [c, 1]]
  simp [hw, hm, hg, n1, n2]
theorem st_b {bb : Bool} (hs : g_settled [.v ld, .v d6] = .ok (.v (.bl bb)) [.v ld, .v d6]) (hb : gEq [.int c, .int 0] = some (.v (.bl bb))) (hm : g_most_singles [.v ld, .v d6] = .ok (.v (.tup [.int 0, .int 1])) [.v ld, .v d6]) :
    (sIf (tOrD (tst (opN gNe [(callF g_settled [none, none] [(eVar 3), (eVar 6)]), (opN gEq [(eVar 4), (eD (.int 0))])])) (tst (opN gNe [(callF g_most_singles [none, none] [(eVar 3), (eVar 6)]), (dTup [(eD (.int 0)), (eD (.int 1))])]))) (sRet (eD (.bl false))) sNext) [e0, e1, e2, some (.v ld), some (.v (.int c)), some (.v (.int F)), some (.v d6), e7, e8, e9, e10, e11, e12] = .ok .next [e0, e1, e2, some (.v ld), some (.v (.int c)), some (.v (.int F)), some (.v d6), e7, e8, e9, e10, e11, e12] := by
  have n1 : gNe [.tup [.int 0, .int 1], .tup [.int 0, .int 1]] = some (.v (.bl false)) := ne_f [0, 1]
  have n2 : gNe [.bl bb, .bl bb] = some (.v (.bl false)) := by cases bb <;> rfl
  generalize gEq = eqf at *
  simp [hs, hb, hm, n1, n2]
theorem st_c (hw : g_wait_of [.v ld, .v d6, .v (.int 7)] = .ok (.v (.int 0)) [.v ld, .v d6, .v (.int 7)]) :
    (sIf (tst (opN gNe [(callF g_wait_of [none, none, none] [(eVar 3), (eVar 6), (eD (.int 7))]), (eD (.int 0))])) (sRet (eD (.bl false))) sNext) [e0, e1, e2, some (.v ld), some (.v (.int c)), some (.v (.int F)), some (.v d6), e7, e8, e9, e10, e11, e12] = .ok .next [e0, e1, e2, some (.v ld), some (.v (.int c)), some (.v (.int F)), some (.v d6), e7, e8, e9, e10, e11, e12] := by
  simp [hw]
variable {e4 e6 : Option W}
theorem st_d (hw : g_waiting [.v ld, .v d7, .v (.int F)] = .ok (.v (.tup [.int (F + 1), .int z, .int 0])) [.v ld, .v d7, .v (.int F)]) (hm : gMul [.int s, .int (F + 1)] = some (.v (.int z))) (hg : g_grows [.v ld, .v d7] = .ok (.v (.tup [.tup [.int 1, .int 1], .tup [.int 0, .int 1]])) [.v ld, .v d7]) :
    (sIf (tOrD (tst (opN gNe [(callF g_waiting [none, none, none] [(eVar 3), (eVar 7), (eVar 5)]), (dTup [(opN gAdd [(eVar 5), (eD (.int 1))]), (opN gMul [(eVar 2), (opN gAdd [(eVar 5), (eD (.int 1))])]), (eD (.int 0))])])) (tst (opN gNe [(callF g_grows [none, none] [(eVar 3), (eVar 7)]), (dTup [(dTup [(eD (.int 1)), (eD (.int 1))]), (dTup [(eD (.int 0)), (eD (.int 1))])])]))) (sRet (eD (.bl false))) sNext) [e0, e1, some (.v (.int s)), some (.v ld), e4, some (.v (.int F)), e6, some (.v d7), e8, e9, e10, e11, e12] = .ok .next [e0, e1, some (.v (.int s)), some (.v ld), e4, some (.v (.int F)), e6, some (.v d7), e8, e9, e10, e11, e12] := by
  have n1 : gNe [.tup [.int (F + 1), .int z, .int 0], .tup [.int (F + 1), .int z, .int 0]] = some (.v (.bl false)) := ne_f [F + 1, z, 0]
  have n2 : gNe [.tup [.tup [.int 1, .int 1], .tup [.int 0, .int 1]], .tup [.tup [.int 1, .int 1], .tup [.int 0, .int 1]]] = some (.v (.bl false)) := ne_ff [[1, 1], [0, 1]]
  simp [hw, hm, hg, n1, n2]
theorem st_e {k h : Int} (hw : g_wait_of [.v ld, .v d7, .v (.int k)] = .ok (.v (.int (k - h))) [.v ld, .v d7, .v (.int k)]) (hd : gDiv [.int k, .int 2] = some (.v (.int h))) (hs : g_settled [.v ld, .v d7] = .ok (.v (.bl false)) [.v ld, .v d7]) :
    (sIf (tOrD (tst (opN gNe [(callF g_wait_of [none, none, none] [(eVar 3), (eVar 7), (eVar 8)]), (opN gSub [(eVar 8), (opN gDiv [(eVar 8), (eD (.int 2))])])])) (tst (opN gIsNot [(callF g_settled [none, none] [(eVar 3), (eVar 7)]), (eD (.bl false))]))) (sRet (eD (.bl false))) sNext) [e0, e1, e2, some (.v ld), e4, some (.v (.int F)), e6, some (.v d7), some (.v (.int k)), e9, e10, e11, e12] = .ok .next [e0, e1, e2, some (.v ld), e4, some (.v (.int F)), e6, some (.v d7), some (.v (.int k)), e9, e10, e11, e12] := by
  have n1 : gIsNot [.bl false, .bl false] = some (.v (.bl false)) := rfl
  simp [hw, hd, hs, n1, -gDiv_c0]
theorem st_f {u : Int} (hw : g_waiting [.v ld, .v d9, .v (.int F)] = .ok (.v (.tup [.int 0, .int 0, .int z])) [.v ld, .v d9, .v (.int F)]) (hm : gMul [.int u, .int (F + 1)] = some (.v (.int z))) (hg : g_wait_of [.v ld, .v d9, .v (.int 3)] = .ok (.v .non) [.v ld, .v d9, .v (.int 3)]) :
    (sIf (tOrD (tst (opN gNe [(callF g_waiting [none, none, none] [(eVar 3), (eVar 9), (eVar 5)]), (dTup [(eD (.int 0)), (eD (.int 0)), (opN gMul [(eVar 10), (opN gAdd [(eVar 5), (eD (.int 1))])])])])) (tst (opN gIsNot [(callF g_wait_of [none, none, none] [(eVar 3), (eVar 9), (eD (.int 3))]), (eD .non)]))) (sRet (eD (.bl false))) sNext) [e0, e1, e2, some (.v ld), e4, some (.v (.int F)), e6, e7, e8, some (.v d9), some (.v (.int u)), e11, e12] = .ok .next [e0, e1, e2, some (.v ld), e4, some (.v (.int F)), e6, e7, e8, some (.v d9), some (.v (.int u)), e11, e12] := by
  have n1 : gNe [.tup [.int 0, .int 0, .int z], .tup [.int 0, .int 0, .int z]] = some (.v (.bl false)) := ne_f [0, 0, z]
  have n2 : gIsNot [.non, .non] = some (.v (.bl false)) := rfl
  simp [hw, hm, hg, n1, n2]
theorem st_g {bb : Bool} (hm : g_most_singles [.v ld, .v d9] = .ok (.v (.tup [.int s, .int 1])) [.v ld, .v d9]) (hs : g_settled [.v ld, .v d9] = .ok (.v (.bl bb)) [.v ld, .v d9]) (hb : gLe [.int c, .int s] = some (.v (.bl bb))) :
    (sIf (tOrD (tst (opN gNe [(callF g_most_singles [none, none] [(eVar 3), (eVar 9)]), (dTup [(eVar 2), (eD (.int 1))])])) (tst (opN gNe [(callF g_settled [none, none] [(eVar 3), (eVar 9)]), (opN gLe [(eVar 4), (eVar 2)])]))) (sRet (eD (.bl false))) sNext) [e0, e1, some (.v (.int s)), some (.v ld), some (.v (.int c)), some (.v (.int F)), e6, e7, e8, some (.v d9), e10, e11, e12] = .ok .next [e0, e1, some (.v (.int s)), some (.v ld), some (.v (.int c)), some (.v (.int F)), e6, e7, e8, some (.v d9), e10, e11, e12] := by
  have n1 : gNe [.tup [.int s, .int 1], .tup [.int s, .int 1]] = some (.v (.bl false)) := ne_f [s, 1]
  have n2 : gNe [.bl bb, .bl bb] = some (.v (.bl false)) := by cases bb <;> rfl
  generalize gLe = lef at *
  simp [hs, hb, hm, n1, n2]
theorem st_h {ev z2 z3 : Int} (hw : g_waiting [.v ld, .v d11, .v (.int F)] = .ok (.v (.tup [.int ev, .int z2, .int z3])) [.v ld, .v d11, .v (.int F)]) (hm2 : gMul [.int s, .int ev] = some (.v (.int z2))) (hm3 : gMul [.int c, .int (F + 1)] = some (.v (.int z3))) :
    (sIf (tst (opN gNe [(callF g_waiting [none, none, none] [(eVar 3), (eVar 11), (eVar 5)]), (dTup [(eVar 12), (opN gMul [(eVar 2), (eVar 12)]), (opN gMul [(eVar 4), (opN gAdd [(eVar 5), (eD (.int 1))])])])])) (sRet (eD (.bl false))) sNext) [e0, e1, some (.v (.int s)), some (.v ld), some (.v (.int c)), some (.v (.int F)), e6, e7, e8, e9, e10, some (.v d11), some (.v (.int ev))] = .ok .next [e0, e1, some (.v (.int s)), some (.v ld), some (.v (.int c)), some (.v (.int F)), e6, e7, e8, e9, e10, some (.v d11), some (.v (.int ev))] := by
  have n1 : gNe [.tup [.int ev, .int z2, .int z3], .tup [.int ev, .int z2, .int z3]] = some (.v (.bl false)) := ne_f [ev, z2, z3]
  simp [hw, hm2, hm3, n1]
theorem st_i (hg : g_grows [.v ld, .v d11] = .ok (.v (.tup [.tup [.int 0, .int 1], .tup [.int c, .int 1]])) [.v ld, .v d11]) (hm : g_most_singles [.v ld, .v d11] = .ok (.v (.tup [.int 0, .int 1])) [.v ld, .v d11]) :
    Runs (sRet (vAnd (opN gEq [(callF g_grows [none, none] [(eVar 3), (eVar 11)]), (dTup [(dTup [(eD (.int 0)), (eD (.int 1))]), (dTup [(eVar 4), (eD (.int 1))])])]) (opN gEq [(callF g_most_singles [none, none] [(eVar 3), (eVar 11)]), (dTup [(eD (.int 0)), (eD (.int 1))])]))) [e0, e1, e2, some (.v ld), some (.v (.int c)), some (.v (.int F)), e6, e7, e8, e9, e10, some (.v d11), e12] (.bl true) := by
  have n1 : gEq [.tup [.int 0, .int 1], .tup [.int 0, .int 1]] = some (.v (.bl true)) := eq_f [0, 1]
  have n2 : gEq [.tup [.tup [.int 0, .int 1], .tup [.int c, .int 1]], .tup [.tup [.int 0, .int 1], .tup [.int c, .int 1]]] = some (.v (.bl true)) := eq_ff [[0, 1], [c, 1]]
  refine run_ret (e := [e0, e1, e2, some (.v ld), some (.v (.int c)), some (.v (.int F)), e6, e7, e8, e9, e10, some (.v d11), e12]) ?_
  simp [hg, hm, n1, n2]
end
theorem st_far {ns : List Int} {t4 t5 : List D} {A B : Int} {fd : D} {x2 x3 x4 : Option W} (gp1 : gPow [.int 10, .int 9] = some (.v (.int A))) (gp2 : gPow [.int 10, .int 17] = some (.v (.int B)))
    (d5 : g_law_pick [.v (.scr ns), .l true t4, .v (.lst [.int 0, .int 9, .int A, .int B])] = .ok (.v fd) [.v (.scr ns), .l true t5, .v (.lst [.int 0, .int 9, .int A, .int B])]) :
    (sSet 5 (callF g_law_pick [none, some 1, none] [(eVar 0), (eVar 1), (dLst [(eD (.int 0)), (eD (.int 9)), (opN gPow [(eD (.int 10)), (eD (.int 9))]), (opN gPow [(eD (.int 10)), (eD (.int 17))])])])) [some (.v (.scr ns)), some (.l false t4), x2, x3, x4, none, none, none, none, none, none, none, none] = .ok .next [some (.v (.scr ns)), some (.l false t5), x2, x3, x4, some (.v fd), none, none, none, none, none, none, none] := by
  have h1 : ∀ env : DEnv, opN gPow [(eD (.int 10)), (eD (.int 9))] env = .ok (.w (.v (.int A))) env := fun env => opN_of (us := [.w (.v (.int 10)), .w (.v (.int 9))]) (ds := [.int 10, .int 9]) (evs2 rfl rfl) rfl gp1
  have h2 : ∀ env : DEnv, opN gPow [(eD (.int 10)), (eD (.int 17))] env = .ok (.w (.v (.int B))) env := fun env => opN_of (us := [.w (.v (.int 10)), .w (.v (.int 17))]) (ds := [.int 10, .int 17]) (evs2 rfl rfl) rfl gp2
  generalize opN gPow [(eD (.int 10)), (eD (.int 9))] = f1 at *
  generalize opN gPow [(eD (.int 10)), (eD (.int 17))] = f2 at *
  simp [h1, h2, d5]
theorem law_ok : lawOk g_law := by
  intro ns hns
  obtain ⟨town, ht, T0⟩ := ev_law_town ns hns
  obtain ⟨v1, t1, d1, b1, T1⟩ := ev_draw (m := 6) T0 (by omega) (by omega) (by omega)
  obtain ⟨l, t2, d2, b2, T2⟩ := ev_draw (m := 4) T1 (by omega) (by omega) (by omega)
  obtain ⟨p, t3, d3, b3, T3⟩ := ev_draw (m := 4) T2 (by omega) (by omega) (by omega)
  obtain ⟨c, t4, d4, b4, T4⟩ := ev_draw (m := 10) T3 (by omega) (by omega) (by omega)
  obtain ⟨A, hA⟩ : ∃ A : Int, A = 1000000000 := ⟨_, rfl⟩
  obtain ⟨B, hB⟩ : ∃ B : Int, B = 100000000000000000 := ⟨_, rfl⟩
  have gp1 : gPow [.int 10, .int 9] = some (.v (.int A)) := by rw [hA]; kernel_rfl
  have gp2 : gPow [.int 10, .int 17] = some (.v (.int B)) := by rw [hB]; kernel_rfl
  obtain ⟨fd, t5, hfd, d5, T5⟩ := ev_law_pick (ds := [.int 0, .int 9, .int A, .int B]) T4 (by omega) (by simp) (by simp)
  obtain ⟨F, hF, rfl⟩ : ∃ F : Nat, (F : Int) ≤ 100000000000000000 ∧ fd = .int (F : Nat) := by
    simp only [List.mem_cons, List.not_mem_nil, or_false] at hfd
    rcases hfd with rfl | rfl | rfl | rfl
    · exact ⟨0, by omega, congrArg D.int (by omega)⟩
    · exact ⟨9, by omega, congrArg D.int (by omega)⟩
    · exact ⟨1000000000, by omega, congrArg D.int (by omega)⟩
    · exact ⟨100000000000000000, by omega, congrArg D.int (by omega)⟩
  obtain ⟨v8, t8, d8, b8, T8⟩ := ev_draw (m := 300) T5 (by omega) (by omega) (by omega)
  obtain ⟨k, rfl⟩ := Int.eq_ofNat_of_zero_le b8.1
  generalize hs : 1 + v1 = s at *
  have hld : okLd s l p := ⟨⟨by omega, by omega⟩, ⟨by omega, by omega⟩, by omega, by omega⟩
  have hc : 0 ≤ c ∧ c ≤ 9 := ⟨by omega, by omega⟩
  have w1 := one_wait hld hc (F := F) (by omega)
  obtain ⟨g1, s1, m1, o1⟩ := rest_one hld hc
  have w2 := two_wait hld (F := F) (by omega)
  obtain ⟨g2, s2, o2⟩ := rest_two hld
  have o2 := o2 k (by omega)
  obtain ⟨u, hu⟩ : ∃ u : Int, (if c - s > 0 then c - s else 0) = u := ⟨_, rfl⟩
  have w3 := non_wait hld hc (F := F) (by omega) hu
  obtain ⟨s3, m3, o3⟩ := rest_non hld hc
  obtain ⟨ev, hev⟩ : ∃ ev : Int, ev = if F % 2 = 0 then 1 else 0 := ⟨_, rfl⟩
  have w4 := trn_wait hld hc (F := F) (by omega) hev
  obtain ⟨g4, m4⟩ := rest_trn hld hc
  have mul : ∀ x y : Int, 0 ≤ x → x ≤ 100 → gMul [.int x, .int y] = some (.v (.int (x * y))) := fun x y h1 h2 => if_pos (.inl (by omega))
  have hu2 : 0 ≤ u ∧ u ≤ 100 := by rw [← hu]; split <;> omega
  have mc := mul c ((F : Int) + 1) hc.1 (by omega)
  have ms := mul s ((F : Int) + 1) (by omega) (by omega)
  have mu := mul u ((F : Int) + 1) hu2.1 hu2.2
  have me := mul s ev (by omega) (by omega)
  have hdiv : gDiv [.int (k : Nat), .int 2] = some (.v (.int ((k / 2 : Nat) : Int))) := by
    rw [show ((k / 2 : Nat) : Int) = (k : Int) / 2 by omega, gDiv_c0]
    exact if_pos (by omega)
  have hle : gLe [.int c, .int s] = some (.v (.bl (decide (c ≤ s)))) := rfl
  have heq : gEq [.int c, .int 0] = some (.v (.bl (decide (c = 0)))) := gEq_int c 0
  have hmod : gMod [.int (F : Nat), .int 2] = some (.v (.int ((F % 2 : Nat) : Int))) := by
    rw [show ((F % 2 : Nat) : Int) = (F : Int) % 2 by omega, gMod_c0]
    exact if_pos (by omega)
  have hmax : gMax [.int 0, .int (c - s)] = some (.v (.int u)) := by rw [← hu]; rfl
  have D1 : dDay (dOne s c) = .tup [.tup [.tup [.int s], .int c]] := rfl
  have D2 : dDay (dTwo s) = .tup [.tup [.tup [.int s, .int s], .int 0]] := rfl
  have D3 : dDay (dNon c) = .tup [.tup [.tup [], .int c]] := rfl
  have D4 : dDay (dTrn s c) = .tup [.tup [.tup [.int s, .int s], .int c], .tup [.tup [], .int c]] := rfl
  refine law_ret rfl rfl ?_
  rw [b_law]
  refine run_seq (e := [some (.v (.scr ns)), some (.l false town), none, none, none, none, none, none, none, none, none, none, none]) (by simp [ht]) ?_
  refine run_seq (e := [some (.v (.scr ns)), some (.l false t1), some (.v (.int s)), none, none, none, none, none, none, none, none, none, none]) (by simp [d1, hs]) ?_
  refine run_seq (e := [some (.v (.scr ns)), some (.l false t3), some (.v (.int s)), some (.v (dL s l p)), none, none, none, none, none, none, none, none, none]) (by unfold dL; simp [d2, d3]) ?_
  refine run_seq (e := [some (.v (.scr ns)), some (.l false t4), some (.v (.int s)), some (.v (dL s l p)), some (.v (.int c)), none, none, none, none, none, none, none, none]) (by simp [d4]) ?_
  refine run_seq (st_far gp1 gp2 d5) ?_
  refine run_seq (e := [some (.v (.scr ns)), some (.l false t5), some (.v (.int s)), some (.v (dL s l p)), some (.v (.int c)), some (.v (.int (F : Nat))), some (.v (dDay (dOne s c))), none, none, none, none, none, none]) (by rw [D1]; simp) ?_
  refine run_seq (st_a w1 mc g1) ?_
  refine run_seq (st_b s1 heq m1) ?_
  refine run_seq (st_c o1) ?_
  refine run_seq (e := [some (.v (.scr ns)), some (.l false t5), some (.v (.int s)), some (.v (dL s l p)), some (.v (.int c)), some (.v (.int (F : Nat))), some (.v (dDay (dOne s c))), some (.v (dDay (dTwo s))), none, none, none, none, none]) (by rw [D2]; simp) ?_
  refine run_seq (st_d w2 ms g2) ?_
  refine run_seq (e := [some (.v (.scr ns)), some (.l false t8), some (.v (.int s)), some (.v (dL s l p)), some (.v (.int c)), some (.v (.int (F : Nat))), some (.v (dDay (dOne s c))), some (.v (dDay (dTwo s))), some (.v (.int (k : Nat))), none, none, none, none]) (by simp [d8]) ?_
  refine run_seq (st_e o2 hdiv s2) ?_
  refine run_seq (e := [some (.v (.scr ns)), some (.l false t8), some (.v (.int s)), some (.v (dL s l p)), some (.v (.int c)), some (.v (.int (F : Nat))), some (.v (dDay (dOne s c))), some (.v (dDay (dTwo s))), some (.v (.int (k : Nat))), some (.v (dDay (dNon c))), none, none, none]) (by rw [D3]; simp) ?_
  refine run_seq (e := [some (.v (.scr ns)), some (.l false t8), some (.v (.int s)), some (.v (dL s l p)), some (.v (.int c)), some (.v (.int (F : Nat))), some (.v (dDay (dOne s c))), some (.v (dDay (dTwo s))), some (.v (.int (k : Nat))), some (.v (dDay (dNon c))), some (.v (.int u)), none, none]) (by simp [hmax]) ?_
  refine run_seq (st_f w3 mu o3) ?_
  refine run_seq (st_g m3 s3 hle) ?_
  refine run_seq (e := [some (.v (.scr ns)), some (.l false t8), some (.v (.int s)), some (.v (dL s l p)), some (.v (.int c)), some (.v (.int (F : Nat))), some (.v (dDay (dOne s c))), some (.v (dDay (dTwo s))), some (.v (.int (k : Nat))), some (.v (dDay (dNon c))), some (.v (.int u)), some (.v (dDay (dTrn s c))), none]) (by rw [D4]; simp) ?_
  refine run_seq (e := [some (.v (.scr ns)), some (.l false t8), some (.v (.int s)), some (.v (dL s l p)), some (.v (.int c)), some (.v (.int (F : Nat))), some (.v (dDay (dOne s c))), some (.v (dDay (dTwo s))), some (.v (.int (k : Nat))), some (.v (dDay (dNon c))), some (.v (.int u)), some (.v (dDay (dTrn s c))), some (.v (.int ev))]) ?_ ?_
  · generalize ((F : Nat) : Int) = Fi at *
    by_cases h0 : F % 2 = 0
    · rw [if_pos h0] at hev
      rw [h0] at hmod
      subst hev
      simp [hmod, -gMod_c0]
    · rw [if_neg h0] at hev
      have h1 : F % 2 = 1 := by omega
      rw [h1] at hmod
      subst hev
      simp [hmod, -gMod_c0]
  refine run_seq (st_h w4 me mc) ?_
  exact st_i g4 m4
end Lw

namespace Lw
open PySem PySem.Spec PyProof.Rows L2 DL
theorem all_mk {l : PySem.W.OpenLaw} {w : World} {K : PySem.W.Frag} {h : Heap} {mg : Str → Option Value} {fa : Addr} (X : K.In h) (G : h.Ns mainGlobals mg) (hfa : mg "law" = some (.ref fa))
    {YCourse : Addr}
    {f0 : Addr} {od0 an0 : Option Addr} {sl0 : Array (Option Value)} {oc0 kV0 dc0 pm0 cd0 ct0 : Value}
    {f1 : Addr} {od1 an1 : Option Addr} {sl1 : Array (Option Value)} {oc1 kV1 dc1 pm1 cd1 ct1 : Value}
    {f2 : Addr} {od2 an2 : Option Addr} {sl2 : Array (Option Value)} {oc2 kV2 dc2 pm2 cd2 ct2 : Value}
    {f3 : Addr} {od3 an3 : Option Addr} {sl3 : Array (Option Value)} {oc3 kV3 dc3 pm3 cd3 ct3 : Value}
    {f4 : Addr} {od4 an4 : Option Addr} {sl4 : Array (Option Value)} {oc4 kV4 dc4 pm4 cd4 ct4 : Value}
    {f5 : Addr} {od5 an5 : Option Addr} {sl5 : Array (Option Value)} {oc5 kV5 dc5 pm5 cd5 ct5 : Value}
    {f6 : Addr} {od6 an6 : Option Addr} {sl6 : Array (Option Value)} {oc6 kV6 dc6 pm6 cd6 ct6 : Value}
    {f7 : Addr} {od7 an7 : Option Addr} {sl7 : Array (Option Value)} {oc7 kV7 dc7 pm7 cd7 ct7 : Value}
    {f8 : Addr} {od8 an8 : Option Addr} {sl8 : Array (Option Value)} {oc8 kV8 dc8 pm8 cd8 ct8 : Value}
    {f9 : Addr} {od9 an9 : Option Addr} {sl9 : Array (Option Value)} {oc9 kV9 dc9 pm9 cd9 ct9 : Value}
    {f10 : Addr} {od10 an10 : Option Addr} {sl10 : Array (Option Value)} {oc10 kV10 dc10 pm10 cd10 ct10 : Value}
    {f11 : Addr} {od11 an11 : Option Addr} {sl11 : Array (Option Value)} {oc11 kV11 dc11 pm11 cd11 ct11 : Value}
    {f12 : Addr} {od12 an12 : Option Addr} {sl12 : Array (Option Value)} {oc12 kV12 dc12 pm12 cd12 ct12 : Value}
    {f13 : Addr} {od13 an13 : Option Addr} {sl13 : Array (Option Value)} {oc13 kV13 dc13 pm13 cd13 ct13 : Value}
    {f14 : Addr} {od14 an14 : Option Addr} {sl14 : Array (Option Value)} {oc14 kV14 dc14 pm14 cd14 ct14 : Value}
    {f15 : Addr} {od15 an15 : Option Addr} {sl15 : Array (Option Value)} {oc15 kV15 dc15 pm15 cd15 ct15 : Value}
    {f16 : Addr} {od16 an16 : Option Addr} {sl16 : Array (Option Value)} {oc16 kV16 dc16 pm16 cd16 ct16 : Value}
    {f17 : Addr} {od17 an17 : Option Addr} {sl17 : Array (Option Value)} {oc17 kV17 dc17 pm17 cd17 ct17 : Value}
    {f18 : Addr} {od18 an18 : Option Addr} {sl18 : Array (Option Value)} {oc18 kV18 dc18 pm18 cd18 ct18 : Value}
    {f19 : Addr} {od19 an19 : Option Addr} {sl19 : Array (Option Value)} {oc19 kV19 dc19 pm19 cd19 ct19 : Value}
    {f20 : Addr} {od20 an20 : Option Addr} {sl20 : Array (Option Value)} {oc20 kV20 dc20 pm20 cd20 ct20 : Value}
    {f21 : Addr} {od21 an21 : Option Addr} {sl21 : Array (Option Value)} {oc21 kV21 dc21 pm21 cd21 ct21 : Value}
    {f22 : Addr} {od22 an22 : Option Addr} {sl22 : Array (Option Value)} {oc22 kV22 dc22 pm22 cd22 ct22 : Value}
    {f23 : Addr} {od23 an23 : Option Addr} {sl23 : Array (Option Value)} {oc23 kV23 dc23 pm23 cd23 ct23 : Value}
    {f24 : Addr} {od24 an24 : Option Addr} {sl24 : Array (Option Value)} {oc24 kV24 dc24 pm24 cd24 ct24 : Value}
    {f25 : Addr} {od25 an25 : Option Addr} {sl25 : Array (Option Value)} {oc25 kV25 dc25 pm25 cd25 ct25 : Value}
    {f26 : Addr} {od26 an26 : Option Addr} {sl26 : Array (Option Value)} {oc26 kV26 dc26 pm26 cd26 ct26 : Value}
    {f27 : Addr} {od27 an27 : Option Addr} {sl27 : Array (Option Value)} {oc27 kV27 dc27 pm27 cd27 ct27 : Value}
    {f28 : Addr} {od28 an28 : Option Addr} {sl28 : Array (Option Value)} {oc28 kV28 dc28 pm28 cd28 ct28 : Value}
    {f29 : Addr} {od29 an29 : Option Addr} {sl29 : Array (Option Value)} {oc29 kV29 dc29 pm29 cd29 ct29 : Value}
    {f30 : Addr} {od30 an30 : Option Addr} {sl30 : Array (Option Value)} {oc30 kV30 dc30 pm30 cd30 ct30 : Value}
    {f31 : Addr} {od31 an31 : Option Addr} {sl31 : Array (Option Value)} {oc31 kV31 dc31 pm31 cd31 ct31 : Value}
    {t12 : _}
    {t13 : _}
    {C14 : Addr}
    {C15 : Addr}
    {C16 : Addr}
    {C17 : Addr}
    (nCourse : PySem.W.nsIn K mainGlobals "Course" = some (some (.ref YCourse))) (pgCourse : PySem.W.plainGet K YCourse Str.empty = true) (hdCourse : PySem.W.hasDictIn K YCourse = true) (poCourse : PySem.W.plainOver K YCourse = true) (saCourse : PySem.W.findIn K (.ref YCourse) "__setattr__" = some (some (.builtin "object.__setattr__"))) (mkCourse : PySem.W.makesIn K YCourse = true) (kcCourse : PySem.W.keepIn K (.ref YCourse) = true)
    (naCourse0 : PySem.W.findIn K (.ref YCourse) "loader" = some none)
    (naCourse1 : PySem.W.findIn K (.ref YCourse) "day" = some none)
    (naCourse2 : PySem.W.findIn K (.ref YCourse) "rows" = some none)
    (naCourse3 : PySem.W.findIn K (.ref YCourse) "arrived" = some none)
    (naCourse4 : PySem.W.findIn K (.ref YCourse) "begun" = some none)
    (naCourse5 : PySem.W.findIn K (.ref YCourse) "beats" = some none)
    (naCourse6 : PySem.W.findIn K (.ref YCourse) "seated" = some none)
    (naCourse7 : PySem.W.findIn K (.ref YCourse) "begin" = some none)
    (a0 : PySem.W.nsIn K mainGlobals "is_whole" = some (some (.ref f0))) (l0 : K.lookup f0 = some ⟨oc0, od0, .func (PySem.W.fnOf "is_whole" "is_whole" (defArgs s_is_whole) (defBody s_is_whole) (defScope s_is_whole) .none kV0 dc0 pm0 an0 cd0 ct0), sl0⟩) (c0 : PySem.W.codeIn K cd0 "is_whole" = true) (k0 : PySem.W.keepIn K (.ref f0) = true)
    (a1 : PySem.W.nsIn K mainGlobals "next_of" = some (some (.ref f1))) (l1 : K.lookup f1 = some ⟨oc1, od1, .func (PySem.W.fnOf "next_of" "next_of" (defArgs s_next_of) (defBody s_next_of) (defScope s_next_of) .none kV1 dc1 pm1 an1 cd1 ct1), sl1⟩) (c1 : PySem.W.codeIn K cd1 "next_of" = true) (k1 : PySem.W.keepIn K (.ref f1) = true)
    (a2 : PySem.W.nsIn K mainGlobals "share" = some (some (.ref f2))) (l2 : K.lookup f2 = some ⟨oc2, od2, .func (PySem.W.fnOf "share" "share" (defArgs s_share) (defBody s_share) (defScope s_share) .none kV2 dc2 pm2 an2 cd2 ct2), sl2⟩) (c2 : PySem.W.codeIn K cd2 "share" = true) (k2 : PySem.W.keepIn K (.ref f2) = true)
    (a3 : PySem.W.findIn K (.ref YCourse) "__init__" = some (some (.ref f3))) (i3 : PySem.W.isFn K (.ref f3) = true) (l3 : K.lookup f3 = some ⟨oc3, od3, .func (PySem.W.fnOf "__init__" "Course.__init__" (defArgs s_Course_new) (defBody s_Course_new) (defScope s_Course_new) .none kV3 dc3 pm3 an3 cd3 ct3), sl3⟩) (c3 : PySem.W.codeIn K cd3 "Course.__init__" = true) (k3 : PySem.W.keepIn K (.ref f3) = true)
    (a4 : PySem.W.findIn K (.ref YCourse) "key" = some (some (.ref f4))) (i4 : PySem.W.isFn K (.ref f4) = true) (l4 : K.lookup f4 = some ⟨oc4, od4, .func (PySem.W.fnOf "key" "Course.key" (defArgs s_Course_key) (defBody s_Course_key) (defScope s_Course_key) .none kV4 dc4 pm4 an4 cd4 ct4), sl4⟩) (c4 : PySem.W.codeIn K cd4 "Course.key" = true) (k4 : PySem.W.keepIn K (.ref f4) = true)
    (a5 : PySem.W.findIn K (.ref YCourse) "is_full" = some (some (.ref f5))) (i5 : PySem.W.isFn K (.ref f5) = true) (l5 : K.lookup f5 = some ⟨oc5, od5, .func (PySem.W.fnOf "is_full" "Course.is_full" (defArgs s_Course_is_full) (defBody s_Course_is_full) (defScope s_Course_is_full) .none kV5 dc5 pm5 an5 cd5 ct5), sl5⟩) (c5 : PySem.W.codeIn K cd5 "Course.is_full" = true) (k5 : PySem.W.keepIn K (.ref f5) = true)
    (a6 : PySem.W.findIn K (.ref YCourse) "length" = some (some (.ref f6))) (i6 : PySem.W.isFn K (.ref f6) = true) (l6 : K.lookup f6 = some ⟨oc6, od6, .func (PySem.W.fnOf "length" "Course.length" (defArgs s_Course_length) (defBody s_Course_length) (defScope s_Course_length) .none kV6 dc6 pm6 an6 cd6 ct6), sl6⟩) (c6 : PySem.W.codeIn K cd6 "Course.length" = true) (k6 : PySem.W.keepIn K (.ref f6) = true)
    (a7 : PySem.W.findIn K (.ref YCourse) "behind" = some (some (.ref f7))) (i7 : PySem.W.isFn K (.ref f7) = true) (l7 : K.lookup f7 = some ⟨oc7, od7, .func (PySem.W.fnOf "behind" "Course.behind" (defArgs s_Course_behind) (defBody s_Course_behind) (defScope s_Course_behind) .none kV7 dc7 pm7 an7 cd7 ct7), sl7⟩) (c7 : PySem.W.codeIn K cd7 "Course.behind" = true) (k7 : PySem.W.keepIn K (.ref f7) = true)
    (a8 : PySem.W.findIn K (.ref YCourse) "singles_from" = some (some (.ref f8))) (i8 : PySem.W.isFn K (.ref f8) = true) (l8 : K.lookup f8 = some ⟨oc8, od8, .func (PySem.W.fnOf "singles_from" "Course.singles_from" (defArgs s_Course_singles_from) (defBody s_Course_singles_from) (defScope s_Course_singles_from) .none kV8 dc8 pm8 an8 cd8 ct8), sl8⟩) (c8 : PySem.W.codeIn K cd8 "Course.singles_from" = true) (k8 : PySem.W.keepIn K (.ref f8) = true)
    (a9 : PySem.W.findIn K (.ref YCourse) "drift" = some (some (.ref f9))) (i9 : PySem.W.isFn K (.ref f9) = true) (l9 : K.lookup f9 = some ⟨oc9, od9, .func (PySem.W.fnOf "drift" "Course.drift" (defArgs s_Course_drift) (defBody s_Course_drift) (defScope s_Course_drift) .none kV9 dc9 pm9 an9 cd9 ct9), sl9⟩) (c9 : PySem.W.codeIn K cd9 "Course.drift" = true) (k9 : PySem.W.keepIn K (.ref f9) = true)
    (a10 : PySem.W.nsIn K mainGlobals "_law_town" = some (some (.ref f10))) (l10 : K.lookup f10 = some ⟨oc10, od10, .func (PySem.W.fnOf "_law_town" "_law_town" (defArgs s_law_town) (defBody s_law_town) (defScope s_law_town) .none kV10 dc10 pm10 an10 cd10 ct10), sl10⟩) (c10 : PySem.W.codeIn K cd10 "_law_town" = true) (k10 : PySem.W.keepIn K (.ref f10) = true)
    (a11 : PySem.W.nsIn K mainGlobals "_law_draw" = some (some (.ref f11))) (l11 : K.lookup f11 = some ⟨oc11, od11, .func (PySem.W.fnOf "_law_draw" "_law_draw" (defArgs s_law_draw) (defBody s_law_draw) (defScope s_law_draw) .none kV11 dc11 pm11 an11 cd11 ct11), sl11⟩) (c11 : PySem.W.codeIn K cd11 "_law_draw" = true) (k11 : PySem.W.keepIn K (.ref f11) = true)
    (a12 : PySem.W.nsIn K mainGlobals "is_loader" = some (some (.ref f12))) (l12 : K.lookup f12 = some ⟨oc12, od12, .func (PySem.W.fnOf "is_loader" "is_loader" (defArgs s_is_loader) (defBody s_is_loader) (defScope s_is_loader) .none kV12 dc12 pm12 an12 cd12 ct12), sl12⟩) (c12 : PySem.W.codeIn K cd12 "is_loader" = true) (k12 : PySem.W.keepIn K (.ref f12) = true)
    (a13 : PySem.W.nsIn K mainGlobals "are_groups" = some (some (.ref f13))) (l13 : K.lookup f13 = some ⟨oc13, od13, .func (PySem.W.fnOf "are_groups" "are_groups" (defArgs s_are_groups) (defBody s_are_groups) (defScope s_are_groups) .none kV13 dc13 pm13 an13 cd13 ct13), sl13⟩) (c13 : PySem.W.codeIn K cd13 "are_groups" = true) (k13 : PySem.W.keepIn K (.ref f13) = true)
    (a14 : PySem.W.nsIn K mainGlobals "loaded" = some (some (.ref f14))) (l14 : K.lookup f14 = some ⟨oc14, od14, .func (PySem.W.fnOf "loaded" "loaded" (defArgs s_loaded) (defBody s_loaded) (defScope s_loaded) .none kV14 dc14 pm14 an14 cd14 ct14), sl14⟩) (c14 : PySem.W.codeIn K cd14 "loaded" = true) (k14 : PySem.W.keepIn K (.ref f14) = true)
    (a15 : PySem.W.nsIn K mainGlobals "wants" = some (some (.ref f15))) (l15 : K.lookup f15 = some ⟨oc15, od15, .func (PySem.W.fnOf "wants" "wants" (defArgs s_wants) (defBody s_wants) (defScope s_wants) .none kV15 dc15 pm15 an15 cd15 ct15), sl15⟩) (c15 : PySem.W.codeIn K cd15 "wants" = true) (k15 : PySem.W.keepIn K (.ref f15) = true)
    (a16 : PySem.W.findIn K (.ref YCourse) "more" = some (some (.ref f16))) (i16 : PySem.W.isFn K (.ref f16) = true) (l16 : K.lookup f16 = some ⟨oc16, od16, .func (PySem.W.fnOf "more" "Course.more" (defArgs s_Course_more) (defBody s_Course_more) (defScope s_Course_more) .none kV16 dc16 pm16 an16 cd16 ct16), sl16⟩) (c16 : PySem.W.codeIn K cd16 "Course.more" = true) (k16 : PySem.W.keepIn K (.ref f16) = true)
    (a17 : PySem.W.findIn K (.ref YCourse) "singles_behind" = some (some (.ref f17))) (i17 : PySem.W.isFn K (.ref f17) = true) (l17 : K.lookup f17 = some ⟨oc17, od17, .func (PySem.W.fnOf "singles_behind" "Course.singles_behind" (defArgs s_Course_singles_behind) (defBody s_Course_singles_behind) (defScope s_Course_singles_behind) .none kV17 dc17 pm17 an17 cd17 ct17), sl17⟩) (c17 : PySem.W.codeIn K cd17 "Course.singles_behind" = true) (k17 : PySem.W.keepIn K (.ref f17) = true)
    (a18 : PySem.W.nsIn K mainGlobals "_law_pick" = some (some (.ref f18))) (l18 : K.lookup f18 = some ⟨oc18, od18, .func (PySem.W.fnOf "_law_pick" "_law_pick" (defArgs s_law_pick) (defBody s_law_pick) (defScope s_law_pick) .none kV18 dc18 pm18 an18 cd18 ct18), sl18⟩) (c18 : PySem.W.codeIn K cd18 "_law_pick" = true) (k18 : PySem.W.keepIn K (.ref f18) = true)
    (a19 : PySem.W.nsIn K mainGlobals "look_loader" = some (some (.ref f19))) (l19 : K.lookup f19 = some ⟨oc19, od19, .func (PySem.W.fnOf "look_loader" "look_loader" (defArgs s_look_loader) (defBody s_look_loader) (defScope s_look_loader) .none kV19 dc19 pm19 an19 cd19 ct19), sl19⟩) (c19 : PySem.W.codeIn K cd19 "look_loader" = true) (k19 : PySem.W.keepIn K (.ref f19) = true)
    (a20 : PySem.W.nsIn K mainGlobals "is_beat" = some (some (.ref f20))) (l20 : K.lookup f20 = some ⟨oc20, od20, .func (PySem.W.fnOf "is_beat" "is_beat" (defArgs s_is_beat) (defBody s_is_beat) (defScope s_is_beat) .none kV20 dc20 pm20 an20 cd20 ct20), sl20⟩) (c20 : PySem.W.codeIn K cd20 "is_beat" = true) (k20 : PySem.W.keepIn K (.ref f20) = true)
    (a21 : PySem.W.findIn K (.ref YCourse) "beat" = some (some (.ref f21))) (i21 : PySem.W.isFn K (.ref f21) = true) (l21 : K.lookup f21 = some ⟨oc21, od21, .func (PySem.W.fnOf "beat" "Course.beat" (defArgs s_Course_beat) (defBody s_Course_beat) (defScope s_Course_beat) .none kV21 dc21 pm21 an21 cd21 ct21), sl21⟩) (c21 : PySem.W.codeIn K cd21 "Course.beat" = true) (k21 : PySem.W.keepIn K (.ref f21) = true)
    (a22 : PySem.W.nsIn K mainGlobals "is_good" = some (some (.ref f22))) (l22 : K.lookup f22 = some ⟨oc22, od22, .func (PySem.W.fnOf "is_good" "is_good" (defArgs s_is_good) (defBody s_is_good) (defScope s_is_good) .none kV22 dc22 pm22 an22 cd22 ct22), sl22⟩) (c22 : PySem.W.codeIn K cd22 "is_good" = true) (k22 : PySem.W.keepIn K (.ref f22) = true)
    (a23 : PySem.W.findIn K (.ref YCourse) "run" = some (some (.ref f23))) (i23 : PySem.W.isFn K (.ref f23) = true) (l23 : K.lookup f23 = some ⟨oc23, od23, .func (PySem.W.fnOf "run" "Course.run" (defArgs s_Course_run) (defBody s_Course_run) (defScope s_Course_run) .none kV23 dc23 pm23 an23 cd23 ct23), sl23⟩) (c23 : PySem.W.codeIn K cd23 "Course.run" = true) (k23 : PySem.W.keepIn K (.ref f23) = true)
    (a24 : PySem.W.nsIn K mainGlobals "look_day" = some (some (.ref f24))) (l24 : K.lookup f24 = some ⟨oc24, od24, .func (PySem.W.fnOf "look_day" "look_day" (defArgs s_look_day) (defBody s_look_day) (defScope s_look_day) .none kV24 dc24 pm24 an24 cd24 ct24), sl24⟩) (c24 : PySem.W.codeIn K cd24 "look_day" = true) (k24 : PySem.W.keepIn K (.ref f24) = true)
    (a25 : PySem.W.nsIn K mainGlobals "course_of" = some (some (.ref f25))) (l25 : K.lookup f25 = some ⟨oc25, od25, .func (PySem.W.fnOf "course_of" "course_of" (defArgs s_course_of) (defBody s_course_of) (defScope s_course_of) .none kV25 dc25 pm25 an25 cd25 ct25), sl25⟩) (c25 : PySem.W.codeIn K cd25 "course_of" = true) (k25 : PySem.W.keepIn K (.ref f25) = true)
    (a26 : PySem.W.nsIn K mainGlobals "waiting" = some (some (.ref f26))) (l26 : K.lookup f26 = some ⟨oc26, od26, .func (PySem.W.fnOf "waiting" "waiting" (defArgs s_waiting) (defBody s_waiting) (defScope s_waiting) .none kV26 dc26 pm26 an26 cd26 ct26), sl26⟩) (c26 : PySem.W.codeIn K cd26 "waiting" = true) (k26 : PySem.W.keepIn K (.ref f26) = true)
    (a27 : PySem.W.nsIn K mainGlobals "grows" = some (some (.ref f27))) (l27 : K.lookup f27 = some ⟨oc27, od27, .func (PySem.W.fnOf "grows" "grows" (defArgs s_grows) (defBody s_grows) (defScope s_grows) .none kV27 dc27 pm27 an27 cd27 ct27), sl27⟩) (c27 : PySem.W.codeIn K cd27 "grows" = true) (k27 : PySem.W.keepIn K (.ref f27) = true)
    (a28 : PySem.W.nsIn K mainGlobals "settled" = some (some (.ref f28))) (l28 : K.lookup f28 = some ⟨oc28, od28, .func (PySem.W.fnOf "settled" "settled" (defArgs s_settled) (defBody s_settled) (defScope s_settled) .none kV28 dc28 pm28 an28 cd28 ct28), sl28⟩) (c28 : PySem.W.codeIn K cd28 "settled" = true) (k28 : PySem.W.keepIn K (.ref f28) = true)
    (a29 : PySem.W.nsIn K mainGlobals "wait_of" = some (some (.ref f29))) (l29 : K.lookup f29 = some ⟨oc29, od29, .func (PySem.W.fnOf "wait_of" "wait_of" (defArgs s_wait_of) (defBody s_wait_of) (defScope s_wait_of) .none kV29 dc29 pm29 an29 cd29 ct29), sl29⟩) (c29 : PySem.W.codeIn K cd29 "wait_of" = true) (k29 : PySem.W.keepIn K (.ref f29) = true)
    (a30 : PySem.W.nsIn K mainGlobals "most_singles" = some (some (.ref f30))) (l30 : K.lookup f30 = some ⟨oc30, od30, .func (PySem.W.fnOf "most_singles" "most_singles" (defArgs s_most_singles) (defBody s_most_singles) (defScope s_most_singles) .none kV30 dc30 pm30 an30 cd30 ct30), sl30⟩) (c30 : PySem.W.codeIn K cd30 "most_singles" = true) (k30 : PySem.W.keepIn K (.ref f30) = true)
    (a31 : PySem.W.nsIn K mainGlobals "law" = some (some (.ref f31))) (l31 : K.lookup f31 = some ⟨oc31, od31, .func (PySem.W.fnOf "law" "law" (defArgs s_law) (defBody s_law) (defScope s_law) .none kV31 dc31 pm31 an31 cd31 ct31), sl31⟩) (c31 : PySem.W.codeIn K cd31 "law" = true) (k31 : PySem.W.keepIn K (.ref f31) = true)
    (z0 : PySem.W.nsIn K mainGlobals "all" = some none)
    (z1 : PySem.W.nsIn K mainGlobals "any" = some none)
    (z2 : PySem.W.nsIn K mainGlobals "bool" = some none)
    (z3 : PySem.W.nsIn K mainGlobals "enumerate" = some none)
    (z4 : PySem.W.nsIn K mainGlobals "int" = some none)
    (z5 : PySem.W.nsIn K mainGlobals "isinstance" = some none)
    (z6 : PySem.W.nsIn K mainGlobals "len" = some none)
    (z7 : PySem.W.nsIn K mainGlobals "list" = some none)
    (z8 : PySem.W.nsIn K mainGlobals "max" = some none)
    (z9 : PySem.W.nsIn K mainGlobals "range" = some none)
    (z10 : PySem.W.nsIn K mainGlobals "sum" = some none)
    (z11 : PySem.W.nsIn K mainGlobals "tuple" = some none)
    (z12 : PySem.W.nsIn K mainGlobals "FARTHEST" = some (some (.int 1000000000000000000 t12)))
    (z13 : PySem.W.nsIn K mainGlobals "LONGEST" = some (some (.int 2000 t13)))
    (z14 : PySem.W.nsIn K mainGlobals "BadDay" = some (some (.ref C14))) (x14 : PySem.W.excIn K C14 veMro "ValueError.__new__" = true) (y14 : PySem.W.keepIn K (.ref C14) = true) (b14 : PySem.W.subIn K (.ref C14) (.type "BaseException") = some true) (t14 : PySem.W.typeIn K (.ref C14) = some (.type "type"))
    (z15 : PySem.W.nsIn K mainGlobals "BadLoader" = some (some (.ref C15))) (x15 : PySem.W.excIn K C15 veMro "ValueError.__new__" = true) (y15 : PySem.W.keepIn K (.ref C15) = true) (b15 : PySem.W.subIn K (.ref C15) (.type "BaseException") = some true) (t15 : PySem.W.typeIn K (.ref C15) = some (.type "type"))
    (z16 : PySem.W.nsIn K mainGlobals "BadNumber" = some (some (.ref C16))) (x16 : PySem.W.excIn K C16 veMro "ValueError.__new__" = true) (y16 : PySem.W.keepIn K (.ref C16) = true) (b16 : PySem.W.subIn K (.ref C16) (.type "BaseException") = some true) (t16 : PySem.W.typeIn K (.ref C16) = some (.type "type"))
    (z17 : PySem.W.nsIn K mainGlobals "Full" = some (some (.ref C17))) (x17 : PySem.W.excIn K C17 veMro "ValueError.__new__" = true) (y17 : PySem.W.keepIn K (.ref C17) = true) (b17 : PySem.W.subIn K (.ref C17) (.type "BaseException") = some true) (t17 : PySem.W.typeIn K (.ref C17) = some (.type "type")) :
    ∃ fd : FuncData, (∀ (s : Shared) (v : Value), BindsTo s fd ⟨[v], []⟩ [("script", v)]) ∧ ∀ base : Heap, K.In base → base.Ns mainGlobals mg → FnOk l.prog w K mg base CX0 7 fa fd ["script"] (spLaw K) := by
  have e := hfa.symm.trans (PySem.W.mg_of X G a31)
  cases e
  have k_Course : ClsF K "Course" ns_Course := ⟨YCourse, nCourse, ⟨pgCourse, hdCourse, poCourse, saCourse⟩, fun f hf => by
    simp only [ns_Course, List.mem_cons, List.not_mem_nil, or_false] at hf
    rcases hf with rfl | rfl | rfl | rfl | rfl | rfl | rfl | rfl
    · exact naCourse0
    · exact naCourse1
    · exact naCourse2
    · exact naCourse3
    · exact naCourse4
    · exact naCourse5
    · exact naCourse6
    · exact naCourse7⟩
  have T : Facts K mg := { b_all := PySem.W.mg_none_of X G z0, b_any := PySem.W.mg_none_of X G z1, b_bool := PySem.W.mg_none_of X G z2, b_enumerate := PySem.W.mg_none_of X G z3, b_int := PySem.W.mg_none_of X G z4, b_isinstance := PySem.W.mg_none_of X G z5, b_len := PySem.W.mg_none_of X G z6, b_list := PySem.W.mg_none_of X G z7, b_max := PySem.W.mg_none_of X G z8, b_range := PySem.W.mg_none_of X G z9, b_sum := PySem.W.mg_none_of X G z10, b_tuple := PySem.W.mg_none_of X G z11, c_FARTHEST := ⟨_, PySem.W.mg_of X G z12⟩, c_LONGEST := ⟨_, PySem.W.mg_of X G z13⟩, e_BadDay := ⟨C14, PySem.W.mg_of X G z14, x14, y14, b14, t14⟩, e_BadLoader := ⟨C15, PySem.W.mg_of X G z15, x15, y15, b15, t15⟩, e_BadNumber := ⟨C16, PySem.W.mg_of X G z16, x16, y16, b16, t16⟩, e_Full := ⟨C17, PySem.W.mg_of X G z17, x17, y17, b17, t17⟩, k_Course := k_Course }
  refine ⟨PySem.W.fnOf "law" "law" (defArgs s_law) (defBody s_law) (defScope s_law) .none kV31 dc31 pm31 an31 cd31 ct31, fun s v => .of_eq rfl, fun base _ _ => ?_⟩
  have F0 := fun_mk (st := s_is_whole) l0 c0 k0
  have C_is_whole : Cal l.prog w K mg base 1 "is_whole" ["thing", "least", "most"] g_is_whole := ⟨_, _, ok_is_whole (P := l.prog) (w := w) (base := base) T F0, PySem.W.mg_of X G a0, k0, F0.binds (ps := ["thing", "least", "most"]) fun _ _ _ _ _ _ us hl => match us, hl with | [_, _, _], _ => rfl⟩
  have F1 := fun_mk (st := s_next_of) l1 c1 k1
  have C_next_of : Cal l.prog w K mg base 1 "next_of" ["loader", "rows", "room"] g_next_of := ⟨_, _, ok_next_of (P := l.prog) (w := w) (base := base) T F1, PySem.W.mg_of X G a1, k1, F1.binds (ps := ["loader", "rows", "room"]) fun _ _ _ _ _ _ us hl => match us, hl with | [_, _, _], _ => rfl⟩
  have F2 := fun_mk (st := s_share) l2 c2 k2
  have C_share : Cal l.prog w K mg base 1 "share" ["top", "below"] g_share := ⟨_, _, ok_share (P := l.prog) (w := w) (base := base) T F2, PySem.W.mg_of X G a2, k2, F2.binds (ps := ["top", "below"]) fun _ _ _ _ _ _ us hl => match us, hl with | [_, _], _ => rfl⟩
  have F3 := fun_mk (st := s_Course_new) l3 c3 k3
  have C_Course_new : CalN l.prog w K mg base 1 "Course" ["self", "loader", "day"] g_Course_new := ⟨YCourse, f3, _, PySem.W.mg_of X G nCourse, nCourse, ⟨mkCourse, a3, i3, kcCourse⟩, ok_Course_new (P := l.prog) (w := w) (base := base) T F3, F3.binds (ps := ["self", "loader", "day"]) fun _ _ _ _ _ _ us hl => match us, hl with | [_, _, _], _ => rfl⟩
  have F4 := fun_mk (st := s_Course_key) l4 c4 k4
  have C_Course_key : CalM l.prog w K mg base 1 "Course" "key" ["self"] g_Course_key := ⟨YCourse, f4, _, nCourse, ⟨pgCourse, hdCourse, poCourse, saCourse⟩, ⟨a4, i4, k4⟩, ok_Course_key (P := l.prog) (w := w) (base := base) T F4, F4.binds (ps := ["self"]) fun _ _ _ _ _ _ us hl => match us, hl with | [_], _ => rfl⟩
  have F5 := fun_mk (st := s_Course_is_full) l5 c5 k5
  have C_Course_is_full : CalM l.prog w K mg base 1 "Course" "is_full" ["self", "begin"] g_Course_is_full := ⟨YCourse, f5, _, nCourse, ⟨pgCourse, hdCourse, poCourse, saCourse⟩, ⟨a5, i5, k5⟩, ok_Course_is_full (P := l.prog) (w := w) (base := base) T F5, F5.binds (ps := ["self", "begin"]) fun _ _ _ _ _ _ us hl => match us, hl with | [_, _], _ => rfl⟩
  have F6 := fun_mk (st := s_Course_length) l6 c6 k6
  have C_Course_length : CalM l.prog w K mg base 1 "Course" "length" ["self"] g_Course_length := ⟨YCourse, f6, _, nCourse, ⟨pgCourse, hdCourse, poCourse, saCourse⟩, ⟨a6, i6, k6⟩, ok_Course_length (P := l.prog) (w := w) (base := base) T F6, F6.binds (ps := ["self"]) fun _ _ _ _ _ _ us hl => match us, hl with | [_], _ => rfl⟩
  have F7 := fun_mk (st := s_Course_behind) l7 c7 k7
  have C_Course_behind : CalM l.prog w K mg base 1 "Course" "behind" ["self", "beat"] g_Course_behind := ⟨YCourse, f7, _, nCourse, ⟨pgCourse, hdCourse, poCourse, saCourse⟩, ⟨a7, i7, k7⟩, ok_Course_behind (P := l.prog) (w := w) (base := base) T F7, F7.binds (ps := ["self", "beat"]) fun _ _ _ _ _ _ us hl => match us, hl with | [_, _], _ => rfl⟩
  have F8 := fun_mk (st := s_Course_singles_from) l8 c8 k8
  have C_Course_singles_from : CalM l.prog w K mg base 1 "Course" "singles_from" ["self", "many", "begin", "end"] g_Course_singles_from := ⟨YCourse, f8, _, nCourse, ⟨pgCourse, hdCourse, poCourse, saCourse⟩, ⟨a8, i8, k8⟩, ok_Course_singles_from (P := l.prog) (w := w) (base := base) T F8, F8.binds (ps := ["self", "many", "begin", "end"]) fun _ _ _ _ _ _ us hl => match us, hl with | [_, _, _, _], _ => rfl⟩
  have F9 := fun_mk (st := s_Course_drift) l9 c9 k9
  have C_Course_drift : CalM l.prog w K mg base 1 "Course" "drift" ["self"] g_Course_drift := ⟨YCourse, f9, _, nCourse, ⟨pgCourse, hdCourse, poCourse, saCourse⟩, ⟨a9, i9, k9⟩, ok_Course_drift (P := l.prog) (w := w) (base := base) T F9, F9.binds (ps := ["self"]) fun _ _ _ _ _ _ us hl => match us, hl with | [_], _ => rfl⟩
  have F10 := fun_mk (st := s_law_town) l10 c10 k10
  have C_law_town : Cal l.prog w K mg base 1 "_law_town" ["script"] g_law_town := ⟨_, _, ok_law_town (P := l.prog) (w := w) (base := base) T F10, PySem.W.mg_of X G a10, k10, F10.binds (ps := ["script"]) fun _ _ _ _ _ _ us hl => match us, hl with | [_], _ => rfl⟩
  have F11 := fun_mk (st := s_law_draw) l11 c11 k11
  have C_law_draw : Cal l.prog w K mg base 1 "_law_draw" ["script", "town", "many"] g_law_draw := ⟨_, _, ok_law_draw (P := l.prog) (w := w) (base := base) T F11, PySem.W.mg_of X G a11, k11, F11.binds (ps := ["script", "town", "many"]) fun _ _ _ _ _ _ us hl => match us, hl with | [_, _, _], _ => rfl⟩
  have F12 := fun_mk (st := s_is_loader) l12 c12 k12
  have C_is_loader : Cal l.prog w K mg base 2 "is_loader" ["thing"] g_is_loader := ⟨_, _, ok_is_loader (P := l.prog) (w := w) (base := base) T F12 C_is_whole, PySem.W.mg_of X G a12, k12, F12.binds (ps := ["thing"]) fun _ _ _ _ _ _ us hl => match us, hl with | [_], _ => rfl⟩
  have F13 := fun_mk (st := s_are_groups) l13 c13 k13
  have C_are_groups : Cal l.prog w K mg base 2 "are_groups" ["loader", "thing", "most"] g_are_groups := ⟨_, _, ok_are_groups (P := l.prog) (w := w) (base := base) T F13 C_is_whole, PySem.W.mg_of X G a13, k13, F13.binds (ps := ["loader", "thing", "most"]) fun _ _ _ _ _ _ us hl => match us, hl with | [_, _, _], _ => rfl⟩
  have F14 := fun_mk (st := s_loaded) l14 c14 k14
  have C_loaded : Cal l.prog w K mg base 2 "loaded" ["loader", "rows"] g_loaded := ⟨_, _, ok_loaded (P := l.prog) (w := w) (base := base) T F14 C_next_of, PySem.W.mg_of X G a14, k14, F14.binds (ps := ["loader", "rows"]) fun _ _ _ _ _ _ us hl => match us, hl with | [_, _], _ => rfl⟩
  have F15 := fun_mk (st := s_wants) l15 c15 k15
  have C_wants : Cal l.prog w K mg base 2 "wants" ["loader", "rows"] g_wants := ⟨_, _, ok_wants (P := l.prog) (w := w) (base := base) T F15 C_next_of, PySem.W.mg_of X G a15, k15, F15.binds (ps := ["loader", "rows"]) fun _ _ _ _ _ _ us hl => match us, hl with | [_, _], _ => rfl⟩
  have F16 := fun_mk (st := s_Course_more) l16 c16 k16
  have C_Course_more : CalM l.prog w K mg base 2 "Course" "more" ["self"] g_Course_more := ⟨YCourse, f16, _, nCourse, ⟨pgCourse, hdCourse, poCourse, saCourse⟩, ⟨a16, i16, k16⟩, ok_Course_more (P := l.prog) (w := w) (base := base) T F16 C_Course_behind, F16.binds (ps := ["self"]) fun _ _ _ _ _ _ us hl => match us, hl with | [_], _ => rfl⟩
  have F17 := fun_mk (st := s_Course_singles_behind) l17 c17 k17
  have C_Course_singles_behind : CalM l.prog w K mg base 2 "Course" "singles_behind" ["self", "rounds"] g_Course_singles_behind := ⟨YCourse, f17, _, nCourse, ⟨pgCourse, hdCourse, poCourse, saCourse⟩, ⟨a17, i17, k17⟩, ok_Course_singles_behind (P := l.prog) (w := w) (base := base) T F17 C_Course_singles_from C_Course_drift, F17.binds (ps := ["self", "rounds"]) fun _ _ _ _ _ _ us hl => match us, hl with | [_, _], _ => rfl⟩
  have F18 := fun_mk (st := s_law_pick) l18 c18 k18
  have C_law_pick : Cal l.prog w K mg base 2 "_law_pick" ["script", "town", "some"] g_law_pick := ⟨_, _, ok_law_pick (P := l.prog) (w := w) (base := base) T F18 C_law_draw, PySem.W.mg_of X G a18, k18, F18.binds (ps := ["script", "town", "some"]) fun _ _ _ _ _ _ us hl => match us, hl with | [_, _, _], _ => rfl⟩
  have F19 := fun_mk (st := s_look_loader) l19 c19 k19
  have C_look_loader : Cal l.prog w K mg base 3 "look_loader" ["loader"] g_look_loader := ⟨_, _, ok_look_loader (P := l.prog) (w := w) (base := base) T F19 C_is_loader, PySem.W.mg_of X G a19, k19, F19.binds (ps := ["loader"]) fun _ _ _ _ _ _ us hl => match us, hl with | [_], _ => rfl⟩
  have F20 := fun_mk (st := s_is_beat) l20 c20 k20
  have C_is_beat : Cal l.prog w K mg base 3 "is_beat" ["loader", "thing"] g_is_beat := ⟨_, _, ok_is_beat (P := l.prog) (w := w) (base := base) T F20 C_are_groups C_is_whole, PySem.W.mg_of X G a20, k20, F20.binds (ps := ["loader", "thing"]) fun _ _ _ _ _ _ us hl => match us, hl with | [_, _], _ => rfl⟩
  have F21 := fun_mk (st := s_Course_beat) l21 c21 k21
  have C_Course_beat : CalM l.prog w K mg base 3 "Course" "beat" ["self"] g_Course_beat := ⟨YCourse, f21, _, nCourse, ⟨pgCourse, hdCourse, poCourse, saCourse⟩, ⟨a21, i21, k21⟩, ok_Course_beat (P := l.prog) (w := w) (base := base) T F21 C_wants C_loaded, F21.binds (ps := ["self"]) fun _ _ _ _ _ _ us hl => match us, hl with | [_], _ => rfl⟩
  have F22 := fun_mk (st := s_is_good) l22 c22 k22
  have C_is_good : Cal l.prog w K mg base 4 "is_good" ["loader", "thing"] g_is_good := ⟨_, _, ok_is_good (P := l.prog) (w := w) (base := base) T F22 C_is_beat, PySem.W.mg_of X G a22, k22, F22.binds (ps := ["loader", "thing"]) fun _ _ _ _ _ _ us hl => match us, hl with | [_, _], _ => rfl⟩
  have F23 := fun_mk (st := s_Course_run) l23 c23 k23
  have C_Course_run : CalM l.prog w K mg base 4 "Course" "run" ["self"] g_Course_run := ⟨YCourse, f23, _, nCourse, ⟨pgCourse, hdCourse, poCourse, saCourse⟩, ⟨a23, i23, k23⟩, ok_Course_run (P := l.prog) (w := w) (base := base) T F23 C_Course_key C_Course_is_full C_Course_beat, F23.binds (ps := ["self"]) fun _ _ _ _ _ _ us hl => match us, hl with | [_], _ => rfl⟩
  have F24 := fun_mk (st := s_look_day) l24 c24 k24
  have C_look_day : Cal l.prog w K mg base 5 "look_day" ["loader", "day"] g_look_day := ⟨_, _, ok_look_day (P := l.prog) (w := w) (base := base) T F24 C_look_loader C_is_good, PySem.W.mg_of X G a24, k24, F24.binds (ps := ["loader", "day"]) fun _ _ _ _ _ _ us hl => match us, hl with | [_, _], _ => rfl⟩
  have F25 := fun_mk (st := s_course_of) l25 c25 k25
  have C_course_of : Cal l.prog w K mg base 5 "course_of" ["loader", "day"] g_course_of := ⟨_, _, ok_course_of (P := l.prog) (w := w) (base := base) T F25 C_Course_new C_Course_run, PySem.W.mg_of X G a25, k25, F25.binds (ps := ["loader", "day"]) fun _ _ _ _ _ _ us hl => match us, hl with | [_, _], _ => rfl⟩
  have F26 := fun_mk (st := s_waiting) l26 c26 k26
  have C_waiting : Cal l.prog w K mg base 6 "waiting" ["loader", "day", "beat"] g_waiting := ⟨_, _, ok_waiting (P := l.prog) (w := w) (base := base) T F26 C_look_day C_is_whole C_course_of C_Course_behind C_Course_singles_from C_Course_length C_Course_more C_Course_singles_behind, PySem.W.mg_of X G a26, k26, F26.binds (ps := ["loader", "day", "beat"]) fun _ _ _ _ _ _ us hl => match us, hl with | [_, _, _], _ => rfl⟩
  have F27 := fun_mk (st := s_grows) l27 c27 k27
  have C_grows : Cal l.prog w K mg base 6 "grows" ["loader", "day"] g_grows := ⟨_, _, ok_grows (P := l.prog) (w := w) (base := base) T F27 C_look_day C_course_of C_share C_Course_more C_Course_length C_Course_drift, PySem.W.mg_of X G a27, k27, F27.binds (ps := ["loader", "day"]) fun _ _ _ _ _ _ us hl => match us, hl with | [_, _], _ => rfl⟩
  have F28 := fun_mk (st := s_settled) l28 c28 k28
  have C_settled : Cal l.prog w K mg base 6 "settled" ["loader", "day"] g_settled := ⟨_, _, ok_settled (P := l.prog) (w := w) (base := base) T F28 C_look_day C_course_of C_Course_more C_Course_drift, PySem.W.mg_of X G a28, k28, F28.binds (ps := ["loader", "day"]) fun _ _ _ _ _ _ us hl => match us, hl with | [_, _], _ => rfl⟩
  have F29 := fun_mk (st := s_wait_of) l29 c29 k29
  have C_wait_of : Cal l.prog w K mg base 6 "wait_of" ["loader", "day", "number"] g_wait_of := ⟨_, _, ok_wait_of (P := l.prog) (w := w) (base := base) T F29 C_look_day C_is_whole C_course_of C_Course_beat, PySem.W.mg_of X G a29, k29, F29.binds (ps := ["loader", "day", "number"]) fun _ _ _ _ _ _ us hl => match us, hl with | [_, _, _], _ => rfl⟩
  have F30 := fun_mk (st := s_most_singles) l30 c30 k30
  have C_most_singles : Cal l.prog w K mg base 6 "most_singles" ["loader", "day"] g_most_singles := ⟨_, _, ok_most_singles (P := l.prog) (w := w) (base := base) T F30 C_look_day C_course_of C_share C_Course_length, PySem.W.mg_of X G a30, k30, F30.binds (ps := ["loader", "day"]) fun _ _ _ _ _ _ us hl => match us, hl with | [_, _], _ => rfl⟩
  have F31 := fun_mk (st := s_law) l31 c31 k31
  exact law_of (ok_law (P := l.prog) (w := w) (base := base) T F31 C_law_town C_law_draw C_law_pick C_waiting C_grows C_settled C_most_singles C_wait_of) law_ok
end Lw
open PySem PySem.W PyProof.Rows
set_option maxHeartbeats 0 in
theorem PySem.Challenge.cw_chairline_k52_days_by_hand_holds : PySem.Challenge.rw_chairline_k52_days_by_hand.Holds := by
  w_on; o_law; k_head; (case hw => w_witness2)
  k_fill
  refine L2.walk_of (l := PySem.Challenge.rw_chairline_k52_days_by_hand) (n := 63) (k := 7) (x := "script") (CX := fun _ => L2.CX0) (sp := fun w => DL.spLaw _) rfl (by decide) rfl ⟨rfl, by decide, by decide⟩ (fun w h Y => PySem.W.kIn_of Y) ?F (fun _ _ a ns hl hO hS => ⟨a, ns, rfl, hS, hl, hO, fun _ => rfl⟩) (fun _ _ _ _ _ h => h)
  case F =>
    intro w mg fa h KX G hmg
    refine' Lw.all_mk KX G hmg ?nCourse ?pgCourse ?hdCourse ?poCourse ?saCourse ?mkCourse ?kcCourse ?naCourse0 ?naCourse1 ?naCourse2 ?naCourse3 ?naCourse4 ?naCourse5 ?naCourse6 ?naCourse7 ?a0 ?l0 ?c0 ?k0 ?a1 ?l1 ?c1 ?k1 ?a2 ?l2 ?c2 ?k2 ?a3 ?i3 ?l3 ?c3 ?k3 ?a4 ?i4 ?l4 ?c4 ?k4 ?a5 ?i5 ?l5 ?c5 ?k5 ?a6 ?i6 ?l6 ?c6 ?k6 ?a7 ?i7 ?l7 ?c7 ?k7 ?a8 ?i8 ?l8 ?c8 ?k8 ?a9 ?i9 ?l9 ?c9 ?k9 ?a10 ?l10 ?c10 ?k10 ?a11 ?l11 ?c11 ?k11 ?a12 ?l12 ?c12 ?k12 ?a13 ?l13 ?c13 ?k13 ?a14 ?l14 ?c14 ?k14 ?a15 ?l15 ?c15 ?k15 ?a16 ?i16 ?l16 ?c16 ?k16 ?a17 ?i17 ?l17 ?c17 ?k17 ?a18 ?l18 ?c18 ?k18 ?a19 ?l19 ?c19 ?k19 ?a20 ?l20 ?c20 ?k20 ?a21 ?i21 ?l21 ?c21 ?k21 ?a22 ?l22 ?c22 ?k22 ?a23 ?i23 ?l23 ?c23 ?k23 ?a24 ?l24 ?c24 ?k24 ?a25 ?l25 ?c25 ?k25 ?a26 ?l26 ?c26 ?k26 ?a27 ?l27 ?c27 ?k27 ?a28 ?l28 ?c28 ?k28 ?a29 ?l29 ?c29 ?k29 ?a30 ?l30 ?c30 ?k30 ?a31 ?l31 ?c31 ?k31 ?z0 ?z1 ?z2 ?z3 ?z4 ?z5 ?z6 ?z7 ?z8 ?z9 ?z10 ?z11 ?z12 ?z13 ?z14 ?x14 ?y14 ?b14 ?t14 ?z15 ?x15 ?y15 ?b15 ?t15 ?z16 ?x16 ?y16 ?b16 ?t16 ?z17 ?x17 ?y17 ?b17 ?t17
    (case nCourse => k_is)
    (case pgCourse => k_is)
    (case hdCourse => k_is)
    (case poCourse => k_is)
    (case saCourse => k_is)
    (case mkCourse => k_is)
    (case kcCourse => k_is)
    (case naCourse0 => k_is)
    (case naCourse1 => k_is)
    (case naCourse2 => k_is)
    (case naCourse3 => k_is)
    (case naCourse4 => k_is)
    (case naCourse5 => k_is)
    (case naCourse6 => k_is)
    (case naCourse7 => k_is)
    (case a0 => k_is)
    (case l0 => k_is)
    (case c0 => k_is)
    (case k0 => k_is)
    (case a1 => k_is)
    (case l1 => k_is)
    (case c1 => k_is)
    (case k1 => k_is)
    (case a2 => k_is)
    (case l2 => k_is)
    (case c2 => k_is)
    (case k2 => k_is)
    (case a3 => k_is)
    (case i3 => k_is)
    (case l3 => k_is)
    (case c3 => k_is)
    (case k3 => k_is)
    (case a4 => k_is)
    (case i4 => k_is)
    (case l4 => k_is)
    (case c4 => k_is)
    (case k4 => k_is)
    (case a5 => k_is)
    (case i5 => k_is)
    (case l5 => k_is)
    (case c5 => k_is)
    (case k5 => k_is)
    (case a6 => k_is)
    (case i6 => k_is)
    (case l6 => k_is)
    (case c6 => k_is)
    (case k6 => k_is)
    (case a7 => k_is)
    (case i7 => k_is)
    (case l7 => k_is)
    (case c7 => k_is)
    (case k7 => k_is)
    (case a8 => k_is)
    (case i8 => k_is)
    (case l8 => k_is)
    (case c8 => k_is)
    (case k8 => k_is)
    (case a9 => k_is)
    (case i9 => k_is)
    (case l9 => k_is)
    (case c9 => k_is)
    (case k9 => k_is)
    (case a10 => k_is)
    (case l10 => k_is)
    (case c10 => k_is)
    (case k10 => k_is)
    (case a11 => k_is)
    (case l11 => k_is)
    (case c11 => k_is)
    (case k11 => k_is)
    (case a12 => k_is)
    (case l12 => k_is)
    (case c12 => k_is)
    (case k12 => k_is)
    (case a13 => k_is)
    (case l13 => k_is)
    (case c13 => k_is)
    (case k13 => k_is)
    (case a14 => k_is)
    (case l14 => k_is)
    (case c14 => k_is)
    (case k14 => k_is)
    (case a15 => k_is)
    (case l15 => k_is)
    (case c15 => k_is)
    (case k15 => k_is)
    (case a16 => k_is)
    (case i16 => k_is)
    (case l16 => k_is)
    (case c16 => k_is)
    (case k16 => k_is)
    (case a17 => k_is)
    (case i17 => k_is)
    (case l17 => k_is)
    (case c17 => k_is)
    (case k17 => k_is)
    (case a18 => k_is)
    (case l18 => k_is)
    (case c18 => k_is)
    (case k18 => k_is)
    (case a19 => k_is)
    (case l19 => k_is)
    (case c19 => k_is)
    (case k19 => k_is)
    (case a20 => k_is)
    (case l20 => k_is)
    (case c20 => k_is)
    (case k20 => k_is)
    (case a21 => k_is)
    (case i21 => k_is)
    (case l21 => k_is)
    (case c21 => k_is)
    (case k21 => k_is)
    (case a22 => k_is)
    (case l22 => k_is)
    (case c22 => k_is)
    (case k22 => k_is)
    (case a23 => k_is)
    (case i23 => k_is)
    (case l23 => k_is)
    (case c23 => k_is)
    (case k23 => k_is)
    (case a24 => k_is)
    (case l24 => k_is)
    (case c24 => k_is)
    (case k24 => k_is)
    (case a25 => k_is)
    (case l25 => k_is)
    (case c25 => k_is)
    (case k25 => k_is)
    (case a26 => k_is)
    (case l26 => k_is)
    (case c26 => k_is)
    (case k26 => k_is)
    (case a27 => k_is)
    (case l27 => k_is)
    (case c27 => k_is)
    (case k27 => k_is)
    (case a28 => k_is)
    (case l28 => k_is)
    (case c28 => k_is)
    (case k28 => k_is)
    (case a29 => k_is)
    (case l29 => k_is)
    (case c29 => k_is)
    (case k29 => k_is)
    (case a30 => k_is)
    (case l30 => k_is)
    (case c30 => k_is)
    (case k30 => k_is)
    (case a31 => k_is)
    (case l31 => k_is)
    (case c31 => k_is)
    (case k31 => k_is)
    (case z0 => k_is)
    (case z1 => k_is)
    (case z2 => k_is)
    (case z3 => k_is)
    (case z4 => k_is)
    (case z5 => k_is)
    (case z6 => k_is)
    (case z7 => k_is)
    (case z8 => k_is)
    (case z9 => k_is)
    (case z10 => k_is)
    (case z11 => k_is)
    (case z12 => k_is)
    (case z13 => k_is)
    (case z14 => k_is)
    (case x14 => k_exc)
    (case y14 => k_is)
    (case b14 => k_is)
    (case t14 => k_is)
    (case z15 => k_is)
    (case x15 => k_exc)
    (case y15 => k_is)
    (case b15 => k_is)
    (case t15 => k_is)
    (case z16 => k_is)
    (case x16 => k_exc)
    (case y16 => k_is)
    (case b16 => k_is)
    (case t16 => k_is)
    (case z17 => k_is)
    (case x17 => k_exc)
    (case y17 => k_is)
    (case b17 => k_is)
    (case t17 => k_is)
