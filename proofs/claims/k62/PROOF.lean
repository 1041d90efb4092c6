import PyProof.Rows.All
import HandS.ForMost
import HandS.ForExc
import HandS.CallSlots
import HandS.IsInst
import KE.KDictKeyed
import HandS.TupAny
import HandS.TupMul
import HandS.TupLe
import HandS.SortInts
import HandS.TupSets
import HandS.Deep
import HandS.Style
import HandS.Zip
import HandS.Conv
import HandS.Flow
import KE.GoesEnum
import HandS.ExcIs
import KE.KRevSl
import KE.KDictDisplayH
import HandS.FStr
import HandS.Text
import HandS.CallRecv
import KE.KDictSum
import HandS.DictComp
import HandS.OwnIter
import HandS.ListEq
import PySem.Challenge.RW_chairline_k62_great_counts
set_option Elab.async false
set_option linter.all false
set_option maxRecDepth 100000
set_option maxHeartbeats 8000000
/-! The data layer: values as plain data, owned lists, what an expression tells of them. -/
namespace DL
open PySem PySem.Spec PyProof.Rows L2

/-! ### data -/
inductive D where
  | non | bl (b : Bool) | int (i : Int) | str (x : Str) | tup (l : List D) | lst (l : List D) | ty (n : String)
  /-- a class or a def of the module by its name; true: an error that was caught, by its class's name -/
  | nam (b : Bool) (c : Str)
  /-- the script -/
  | scr (ns : List Int)
  /-- a dict whose keys are tuples of ints -/
  | dic (ks : List (List Int)) (ds : List D)
  /-- a dict whose keys are ints (true), or tuples of ints, bools, None and such tuples (false) -/
  | dix (k : Bool) (ks ds : List D)
  /-- a thing of a class of the module, by the class's name, its attributes, what they hold -/
  | ins (c : Str) (ns : List Str) (ds : List D)

/-- an error of the class at C that was caught, kept at a -/
def CaO (C a : Addr) : HO := .ext fun h => ∃ (oe : Obj) (vs : Array Value), h.get? a = some oe ∧ Zc (.ref C) none oe ∧ oe.data = .fields vs

def keyI (k : List Int) : List Key := k.map .inl
/-! keys -/
mutual
def keyOf : D → NestedKey
  | .bl b => .num (if b = true then 1 else 0)
  | .int i => .num i
  | .tup l => .tup (keyOfs l)
  | _ => .none
def keyOfs : List D → List NestedKey
  | [] => []
  | d :: ds => keyOf d :: keyOfs ds
end
mutual
def plainK : D → Bool
  | .non => true
  | .bl _ => true
  | .int _ => true
  | .tup l => plainKs l
  | _ => false
def plainKs : List D → Bool
  | [] => true
  | d :: ds => plainK d && plainKs ds
end
def keyD : D → Bool
  | .tup l => plainKs l && decide ((keyOf (.tup l)).depth ≤ 8)
  | _ => false
mutual
def hash0 : NestedKey → Int
  | .none => reduceHash 0xFCA86420
  | .num i => hashInt i
  | .text _ => 0
  | .tup ks => reduceHash (Builtin.Tuple.tupleHashOf (hash0s ks))
def hash0s : List NestedKey → List Int
  | [] => []
  | k :: ks => hash0 k :: hash0s ks
end
mutual
theorem hash_key (w : World) : ∀ d : D, plainK d = true → (keyOf d).hash w = hash0 (keyOf d)
  | .non, _ => by simp [keyOf, NestedKey.hash, hash0]
  | .bl b, _ => by simp [keyOf, NestedKey.hash, hash0]
  | .int i, _ => by simp [keyOf, NestedKey.hash, hash0]
  | .tup l, h => by
    have h : plainKs l = true := by simpa [plainK] using h
    simp only [keyOf, NestedKey.hash, hash0, hash_keys w l h]
  | .str _, h => by simp [plainK] at h
  | .lst _, h => by simp [plainK] at h
  | .ty _, h => by simp [plainK] at h
  | .nam _ _, h => by simp [plainK] at h
  | .scr _, h => by simp [plainK] at h
  | .dic _ _, h => by simp [plainK] at h
  | .dix _ _ _, h => by simp [plainK] at h
  | .ins _ _ _, h => by simp [plainK] at h
theorem hash_keys (w : World) : ∀ l : List D, plainKs l = true → NestedKey.hashes w (keyOfs l) = hash0s (keyOfs l)
  | [], _ => by simp [keyOfs, NestedKey.hashes, hash0s]
  | d :: ds, h => by
    have h : plainK d = true ∧ plainKs ds = true := by simpa [plainKs] using h
    simp only [keyOfs, NestedKey.hashes, hash0s, hash_key w d h.1, hash_keys w ds h.2]
end
theorem hash_kd (w : World) {d : D} (h : keyD d = true) : (keyOf d).hash w = hash0 (keyOf d) := by
  cases d with
  | tup l =>
    have h : (plainKs l && decide ((keyOf (.tup l)).depth ≤ 8)) = true := h
    rw [Bool.and_eq_true] at h
    exact hash_key w (.tup l) (by simpa [plainK] using h.1)
  | _ => cases h
/-- a dict with the entries xs -/
def NdO (a : Addr) (xs : List (NestedKey × Addr × Value)) : HO := .ext fun h => (a == sysModules) = false ∧ ∃ o es ep, h.get? a = some o ∧ o.ExactDict ∧ o.data = .dict es ep ∧ es.toList = xs.map (fun x => (⟨hash0 x.1, .ref x.2.1, x.2.2⟩ : DictEntry)) ∧ (xs.map (·.1)).Nodup
def DxO (k : Bool) (a : Addr) (us vs : List V) (ks : List D) (o : HO) : Prop := match k with
  | true => ∃ kk : List Int, us = kk.map V.int ∧ ks = kk.map D.int ∧ vs.length = kk.length ∧ o = .dK ((kk.map Sum.inl).zip vs)
  | false => ∃ xs : List (NestedKey × Addr × Value), o = NdO a xs ∧ us = xs.map (fun x => V.ref x.2.1) ∧ Vals vs (xs.map (·.2.2)) ∧ xs.map (·.1) = ks.map keyOf ∧ ks.all keyD = true
mutual
inductive RepD (K : PySem.W.Frag) (F : Hp) : V → D → Prop where
  | non : RepD K F .non .non
  | bl (b : Bool) : RepD K F (.bl b) (.bl b)
  | int (i : Int) : RepD K F (.int i) (.int i)
  | str (x : Str) : RepD K F (.str x) (.str x)
  | ty (n : String) : RepD K F (.ty n) (.ty n)
  | glob {C : Addr} {c : Str} : PySem.W.nsIn K mainGlobals c = some (some (.ref C)) → RepD K F (.ref C) (.nam false c)
  | exn {a C : Addr} {c : Str} : PySem.W.nsIn K mainGlobals c = some (some (.ref C)) → F a = some (CaO C a) → RepD K F (.ref a) (.nam true c)
  | scr {a : Addr} {ns : List Int} : SqL K F a (ns.map V.int) → RepD K F (.ref a) (.scr ns)
  | tup {a : Addr} {vs : List V} {ds : List D} : F a = some (.tup vs) → RepDs K F vs ds → RepD K F (.ref a) (.tup ds)
  | dic {a : Addr} {kvs : List (List Key × V)} {ks : List (List Int)} {ds : List D} : F a = some (.dT kvs) → kvs.map (·.1) = ks.map keyI → RepDs K F (kvs.map (·.2)) ds → RepD K F (.ref a) (.dic ks ds)
  | dix {a : Addr} {o : HO} {k : Bool} {us vs : List V} {ks ds : List D} : F a = some o → DxO k a us vs ks o → RepDs K F us ks → RepDs K F vs ds → RepD K F (.ref a) (.dix k ks ds)
  | ins {a dx C : Addr} {c : Str} {ns : List Str} {vs : List V} {ds : List D} : PySem.W.nsIn K mainGlobals c = some (some (.ref C)) → F a = some (.ins C dx (ns.zip vs)) → vs.length ≤ ns.length → RepDs K F vs ds → RepD K F (.ref a) (.ins c ns ds)
  | lst {a : Addr} {vs : List V} {ds : List D} : Rd F a (.lst vs) → RepDs K F vs ds → RepD K F (.ref a) (.lst ds)
inductive RepDs (K : PySem.W.Frag) (F : Hp) : List V → List D → Prop where
  | nil : RepDs K F [] []
  | cons {v : V} {d : D} {vs : List V} {ds : List D} : RepD K F v d → RepDs K F vs ds → RepDs K F (v :: vs) (d :: ds)
end

theorem sameL {H H' : Hp} {a : Addr} {u : HO} (e : Same H H') (h : Rd H a u) : Rd H' a u := by
  rcases h with h | ⟨o, h⟩
  · exact .inl (e _ _ h)
  · exact .inr ⟨o, e _ _ h⟩
theorem sameT {K : PySem.W.Frag} {H H' : Hp} {a : Addr} {xs : List V} (e : Same H H') (h : SqT K H a xs) : SqT K H' a xs := by
  rcases h with (h | ⟨o, h⟩) | h
  · exact .inl (.inl (e _ _ h))
  · exact .inl (.inr ⟨o, e _ _ h⟩)
  · exact .inr h

mutual
theorem RepD.mono {K : PySem.W.Frag} {F F' : Hp} (e : Same F F') : ∀ {v : V} {d : D}, RepD K F v d → RepD K F' v d
  | _, _, .non => .non
  | _, _, .bl b => .bl b
  | _, _, .int i => .int i
  | _, _, .str x => .str x
  | _, _, .ty n => .ty n
  | _, _, .glob h => .glob h
  | _, _, .exn h q => .exn h (e _ _ q)
  | _, _, .scr h => .scr (e.seq h)
  | _, _, .tup h r => .tup (e _ _ h) (RepDs.mono e r)
  | _, _, .dic h k r => .dic (e _ _ h) k (RepDs.mono e r)
  | _, _, .dix h k q r => .dix (e _ _ h) k (RepDs.mono e q) (RepDs.mono e r)
  | _, _, .ins h k l r => .ins h (e _ _ k) l (RepDs.mono e r)
  | _, _, .lst h r => .lst (sameL e h) (RepDs.mono e r)
theorem RepDs.mono {K : PySem.W.Frag} {F F' : Hp} (e : Same F F') : ∀ {vs : List V} {ds : List D}, RepDs K F vs ds → RepDs K F' vs ds
  | _, _, .nil => .nil
  | _, _, .cons h r => .cons (RepD.mono e h) (RepDs.mono e r)
end
section
variable {K : PySem.W.Frag} {F : Hp}
theorem RepDs.length : ∀ {vs : List V} {ds : List D}, RepDs K F vs ds → vs.length = ds.length
  | _, _, .nil => rfl
  | _, _, .cons _ r => by rw [List.length_cons, List.length_cons, RepDs.length r]
theorem RepDs.get : ∀ {vs : List V} {ds : List D} {i : Nat} {d : D}, RepDs K F vs ds → ds[i]? = some d → ∃ v, vs[i]? = some v ∧ RepD K F v d
  | _, _, _, _, .nil, e => by simp at e
  | _, _, 0, _, .cons h _, e => by simp at e; subst e; exact ⟨_, rfl, h⟩
  | _, _, i + 1, _, .cons _ r, e => by
    obtain ⟨v, h1, h2⟩ := RepDs.get (i := i) r (by simpa using e)
    exact ⟨v, by simpa using h1, h2⟩
theorem RepDs.getv : ∀ {vs : List V} {ds : List D} {i : Nat} {v : V}, RepDs K F vs ds → vs[i]? = some v → ∃ d, ds[i]? = some d ∧ RepD K F v d
  | _, _, _, _, .nil, e => by simp at e
  | _, _, 0, _, .cons h _, e => by simp at e; subst e; exact ⟨_, rfl, h⟩
  | _, _, i + 1, _, .cons _ r, e => by
    obtain ⟨v, h1, h2⟩ := RepDs.getv (i := i) r (by simpa using e)
    exact ⟨v, by simpa using h1, h2⟩
theorem RepDs.append : ∀ {vs us : List V} {ds es : List D}, RepDs K F vs ds → RepDs K F us es → RepDs K F (vs ++ us) (ds ++ es)
  | _, _, _, _, .nil, r => r
  | _, _, _, _, .cons h t, r => .cons h (RepDs.append t r)
theorem RepDs.take : ∀ {vs : List V} {ds : List D} (n : Nat), RepDs K F vs ds → RepDs K F (vs.take n) (ds.take n)
  | _, _, 0, _ => .nil
  | _, _, _ + 1, .nil => .nil
  | _, _, n + 1, .cons h r => .cons h (RepDs.take n r)
theorem RepDs.drop : ∀ {vs : List V} {ds : List D} (n : Nat), RepDs K F vs ds → RepDs K F (vs.drop n) (ds.drop n)
  | _, _, 0, r => r
  | _, _, _ + 1, .nil => .nil
  | _, _, n + 1, .cons _ r => RepDs.drop n r
theorem RepDs.set {v : V} {d : D} (h : RepD K F v d) : ∀ {vs : List V} {ds : List D} (n : Nat), RepDs K F vs ds → RepDs K F (vs.set n v) (ds.set n d)
  | _, _, _, .nil => .nil
  | _, _, 0, .cons _ r => .cons h r
  | _, _, n + 1, .cons q r => .cons q (RepDs.set h n r)
theorem RepDs.reverse : ∀ {vs : List V} {ds : List D}, RepDs K F vs ds → RepDs K F vs.reverse ds.reverse
  | _, _, .nil => .nil
  | _, _, .cons h r => by
    rw [List.reverse_cons, List.reverse_cons]
    exact (RepDs.reverse r).append (.cons h .nil)
theorem RepDs.of_ints : ∀ ns : List Int, RepDs K F (ns.map V.int) (ns.map D.int)
  | [] => .nil
  | n :: r => .cons (.int n) (RepDs.of_ints r)
theorem RepDs.ints : ∀ {vs : List V} {ns : List Int}, RepDs K F vs (ns.map D.int) → vs = ns.map V.int
  | _, [], .nil => rfl
  | _, n :: r, .cons (.int _) t => by rw [List.map_cons, ← RepDs.ints t]
end

/-! ### what a name may hold: data for good, or a list of its own -/
/-- what an attribute may hold -/
inductive W0 where
  | v (d : D)
  | l (ds : List D)
  | d (k : Bool) (ks ds : List D)
inductive Xt where
  /-- a dict that nobody else holds -/
  | d (k : Bool) (ks ds : List D)
  /-- a thing of a class that nobody else holds; true: handed in by the caller -/
  | o (b : Bool) (c : Str) (ns : List Str) (ws : List W0)
  /-- a tuple of such things as nobody else holds -/
  | t (ws : List W0)
inductive W where
  | v (d : D)
  /-- a list that nobody else holds; true: handed in by the caller, who gets it back -/
  | l (b : Bool) (ds : List D)
  /-- a dict that nobody else holds -/
  | m (ks : List (List Int)) (ds : List D)
  | x (q : Xt)

abbrev Fp := Addr → Prop
def RepW0 (K : PySem.W.Frag) (F H : Hp) (v : V) (w : W0) (p : Fp) : Prop := match w with
  | .v d => (∀ a, ¬ p a) ∧ RepD K F v d
  | .l ds => ∃ a vs, v = .ref a ∧ (∀ b, p b ↔ b = a) ∧ H a = some (.lst vs) ∧ F a = none ∧ RepDs K F vs ds
  | .d k ks ds => ∃ a o us vs, v = .ref a ∧ (∀ b, p b ↔ b = a) ∧ H a = some o ∧ F a = none ∧ DxO k a us vs ks o ∧ RepDs K F us ks ∧ RepDs K F vs ds
def RepW0s (K : PySem.W.Frag) (F H : Hp) : List V → List W0 → Fp → Prop
  | [], [], p => ∀ a, ¬ p a
  | v :: vs, w :: ws, p => ∃ p1 p2 : Fp, (∀ a, p a ↔ p1 a ∨ p2 a) ∧ (∀ a, p1 a → ¬ p2 a) ∧ RepW0 K F H v w p1 ∧ RepW0s K F H vs ws p2
  | _, _, _ => False
def RepX (K : PySem.W.Frag) (F H : Hp) (v : V) (q : Xt) (p : Fp) : Prop := match q with
  | .d k ks ds => RepW0 K F H v (.d k ks ds) p
  | .o _ c ns ws => ∃ a dx C vs, ∃ p0 : Fp, v = .ref a ∧ PySem.W.nsIn K mainGlobals c = some (some (.ref C)) ∧ H a = some (.ins C dx (ns.zip vs)) ∧ H dx = some (.own a) ∧ F a = none ∧ F dx = none ∧ vs.length ≤ ns.length ∧ RepW0s K F H vs ws p0 ∧
      (∀ b, p b ↔ (b = a ∨ b = dx) ∨ p0 b) ∧ ¬ p0 a ∧ ¬ p0 dx
  | .t ws => ∃ a vs, v = .ref a ∧ F a = some (.tup vs) ∧ RepW0s K F H vs ws p
def RepW (K : PySem.W.Frag) (F H : Hp) (v : V) (w : W) (p : Fp) : Prop := match w with
  | .v d => (∀ a, ¬ p a) ∧ RepD K F v d
  | .l _ ds => ∃ a vs, v = .ref a ∧ (∀ b, p b ↔ b = a) ∧ H a = some (.lst vs) ∧ F a = none ∧ RepDs K F vs ds
  | .m ks ds => ∃ a kvs, v = .ref a ∧ (∀ b, p b ↔ b = a) ∧ H a = some (.dT kvs) ∧ F a = none ∧ kvs.map (·.1) = ks.map keyI ∧ RepDs K F (kvs.map (·.2)) ds
  | .x q => RepX K F H v q p

theorem RepW0.there {K : PySem.W.Frag} {F H : Hp} {v : V} {w : W0} {p : Fp} (h : RepW0 K F H v w p) {a : Addr} (q : p a) : (∃ o, H a = some o) ∧ F a = none := by
  cases w with
  | v d => exact absurd q (h.1 a)
  | l ds =>
    obtain ⟨c, vs, _, hp, hc, hf, _⟩ := h
    obtain rfl := (hp a).mp q
    exact ⟨⟨_, hc⟩, hf⟩
  | d k ks ds =>
    obtain ⟨c, o, us, vs, _, hp, hc, hf, _⟩ := h
    obtain rfl := (hp a).mp q
    exact ⟨⟨_, hc⟩, hf⟩
theorem RepW0.frame {K : PySem.W.Frag} {F F' H H' : Hp} {v : V} {w : W0} {p : Fp} (h : RepW0 K F H v w p) (e : Same F F') (k : ∀ a o, p a → H a = some o → H' a = some o) (n : ∀ a, p a → F' a = none) : RepW0 K F' H' v w p := by
  cases w with
  | v d => exact ⟨h.1, h.2.mono e⟩
  | l ds =>
    obtain ⟨c, vs, rfl, hp, hc, hf, r⟩ := h
    have pc := (hp c).mpr rfl
    exact ⟨c, vs, rfl, hp, k c _ pc hc, n c pc, r.mono e⟩
  | d kk ks ds =>
    obtain ⟨c, o, us, vs, rfl, hp, hc, hf, hk, r1, r2⟩ := h
    have pc := (hp c).mpr rfl
    exact ⟨c, o, us, vs, rfl, hp, k c _ pc hc, n c pc, hk, r1.mono e, r2.mono e⟩
theorem RepW0s.there {K : PySem.W.Frag} {F H : Hp} : ∀ {vs : List V} {ws : List W0} {p : Fp}, RepW0s K F H vs ws p → ∀ {a : Addr}, p a → (∃ o, H a = some o) ∧ F a = none
  | [], [], _, h, a, q => absurd q (h a)
  | v :: vs, w :: ws, _, h, a, q => by
    obtain ⟨p1, p2, hp, _, r1, r2⟩ := h
    rcases (hp a).mp q with z | z
    · exact r1.there z
    · exact RepW0s.there r2 z
  | [], _ :: _, _, h, _, _ => h.elim
  | _ :: _, [], _, h, _, _ => h.elim
theorem RepW0s.frame {K : PySem.W.Frag} {F F' H H' : Hp} (e : Same F F') : ∀ {vs : List V} {ws : List W0} {p : Fp}, RepW0s K F H vs ws p → (∀ a o, p a → H a = some o → H' a = some o) → (∀ a, p a → F' a = none) → RepW0s K F' H' vs ws p
  | [], [], _, h, _, _ => h
  | v :: vs, w :: ws, _, h, k, n => by
    obtain ⟨p1, p2, hp, hd, r1, r2⟩ := h
    exact ⟨p1, p2, hp, hd, r1.frame e (fun a o q => k a o ((hp a).mpr (.inl q))) (fun a q => n a ((hp a).mpr (.inl q))), RepW0s.frame e r2 (fun a o q => k a o ((hp a).mpr (.inr q))) (fun a q => n a ((hp a).mpr (.inr q)))⟩
  | [], _ :: _, _, h, _, _ => h.elim
  | _ :: _, [], _, h, _, _ => h.elim
theorem RepW0s.length {K : PySem.W.Frag} {F H : Hp} : ∀ {vs : List V} {ws : List W0} {p : Fp}, RepW0s K F H vs ws p → vs.length = ws.length
  | [], [], _, _ => rfl
  | _ :: _, _ :: _, _, h => by
    obtain ⟨_, _, _, _, _, r2⟩ := h
    rw [List.length_cons, List.length_cons, RepW0s.length r2]
  | [], _ :: _, _, h => h.elim
  | _ :: _, [], _, h => h.elim
theorem RepX.there {K : PySem.W.Frag} {F H : Hp} {v : V} {x : Xt} {p : Fp} (h : RepX K F H v x p) {a : Addr} (q : p a) : (∃ o, H a = some o) ∧ F a = none := by
  cases x with
  | d k ks ds => exact RepW0.there (w := .d k ks ds) h q
  | o b c ns ws =>
    obtain ⟨c, dx, C, vs, p0, _, _, h1, h2, f1, f2, _, r, hp, _⟩ := h
    rcases (hp a).mp q with (z | z) | z
    · rw [z]; exact ⟨⟨_, h1⟩, f1⟩
    · rw [z]; exact ⟨⟨_, h2⟩, f2⟩
    · exact r.there z
  | t ws =>
    obtain ⟨c, vs, _, _, r⟩ := h
    exact r.there q
theorem RepX.frame {K : PySem.W.Frag} {F F' H H' : Hp} {v : V} {x : Xt} {p : Fp} (h : RepX K F H v x p) (e : Same F F') (k : ∀ a o, p a → H a = some o → H' a = some o) (n : ∀ a, p a → F' a = none) : RepX K F' H' v x p := by
  cases x with
  | d kk ks ds => exact RepW0.frame (w := .d kk ks ds) h e k n
  | o b c ns ws =>
    obtain ⟨c, dx, C, vs, p0, e1, e2, h1, h2, f1, f2, hl, r, hp, n1, n2⟩ := h
    have pa := (hp c).mpr (.inl (.inl rfl))
    have pd := (hp dx).mpr (.inl (.inr rfl))
    exact ⟨c, dx, C, vs, p0, e1, e2, k _ _ pa h1, k _ _ pd h2, n _ pa, n _ pd, hl, r.frame e (fun a o q => k a o ((hp a).mpr (.inr q))) (fun a q => n a ((hp a).mpr (.inr q))), hp, n1, n2⟩
  | t ws =>
    obtain ⟨c, vs, e1, h1, r⟩ := h
    exact ⟨c, vs, e1, e _ _ h1, r.frame e k n⟩
theorem RepW.there {K : PySem.W.Frag} {F H : Hp} {v : V} {w : W} {p : Fp} (h : RepW K F H v w p) {a : Addr} (q : p a) : (∃ o, H a = some o) ∧ F a = none := by
  cases w with
  | v d => exact absurd q (h.1 a)
  | l b ds =>
    obtain ⟨c, vs, _, hp, hc, hf, _⟩ := h
    obtain rfl := (hp a).mp q
    exact ⟨⟨_, hc⟩, hf⟩
  | m ks ds =>
    obtain ⟨c, vs, _, hp, hc, hf, _⟩ := h
    obtain rfl := (hp a).mp q
    exact ⟨⟨_, hc⟩, hf⟩
  | x y => exact RepX.there h q
theorem RepW.frame {K : PySem.W.Frag} {F F' H H' : Hp} {v : V} {w : W} {p : Fp} (h : RepW K F H v w p) (e : Same F F') (k : ∀ a o, p a → H a = some o → H' a = some o) (n : ∀ a, p a → F' a = none) : RepW K F' H' v w p := by
  cases w with
  | v d => exact ⟨h.1, h.2.mono e⟩
  | l b ds =>
    obtain ⟨c, vs, rfl, hp, hc, hf, r⟩ := h
    have pc := (hp c).mpr rfl
    exact ⟨c, vs, rfl, hp, k c _ pc hc, n c pc, r.mono e⟩
  | m ks ds =>
    obtain ⟨c, vs, rfl, hp, hc, hf, hk, r⟩ := h
    have pc := (hp c).mpr rfl
    exact ⟨c, vs, rfl, hp, k c _ pc hc, n c pc, hk, r.mono e⟩
  | x y => exact RepX.frame h e k n

abbrev DEnv := List (Option W)
inductive U where
  | w (w : W)
  /-- what the i-th name holds -/
  | b (i : Nat)
def RepU (K : PySem.W.Frag) (F H : Hp) (σ : L2.St) (v : V) (u : U) (p : Fp) : Prop := match u with
  | .w w => RepW K F H v w p
  | .b i => (∀ a, ¬ p a) ∧ σ[i]? = some (some v)

structure Sit (K : PySem.W.Frag) (F : Hp) (σ : L2.St) (H : Hp) (env : DEnv) (own : Nat → Fp) : Prop where
  ex : Same F H
  len : env.length = σ.length
  rep : ∀ i w, env[i]? = some (some w) → ∃ v, σ[i]? = some (some v) ∧ RepW K F H v w (own i)
  emp : ∀ i a, own i a → ∃ w, env[i]? = some (some w)
  dis : ∀ i j a, own i a → own j a → i = j
def all (own : Nat → Fp) : Fp := fun a => ∃ i, own i a

structure Step (F H : Hp) (fp : Fp) (F' H' : Hp) (fp' : Fp) : Prop where
  ex : Same F F'
  keep : ∀ a o, H a = some o → ¬ fp a → H' a = some o
  new : ∀ a, fp' a → fp a ∨ H a = none
  frz : ∀ a o, F' a = some o → F a = none → fp a ∨ H a = none

section
variable {F H F1 H1 F2 H2 : Hp} {fp fp1 fp2 : Fp}
theorem Step.refl : Step F H fp F H fp := ⟨Same.refl _, fun _ _ h _ => h, fun _ h => .inl h, fun _ _ h h' => by rw [h] at h'; cases h'⟩
theorem Step.gone (s : Step F H fp F1 H1 fp1) {a : Addr} (h : H1 a = none) : fp a ∨ H a = none := by
  by_cases q : fp a
  · exact .inl q
  · cases e : H a with
    | none => exact .inr rfl
    | some o => rw [s.keep a o e q] at h; cases h
theorem Step.trans (s : Step F H fp F1 H1 fp1) (t : Step F1 H1 fp1 F2 H2 fp2) : Step F H fp F2 H2 fp2 where
  ex := s.ex.trans t.ex
  keep := fun a o h n => t.keep a o (s.keep a o h n) fun q => by
    rcases s.new a q with z | z
    · exact n z
    · rw [h] at z; cases z
  new := fun a h => by
    rcases t.new a h with z | z
    · exact s.new a z
    · exact s.gone z
  frz := fun a o h n => by
    cases e : F1 a with
    | some u => exact s.frz a u e n
    | none =>
      rcases t.frz a o h e with z | z
      · exact s.new a z
      · exact s.gone z
/-- more that is owned, untouched -/
theorem Step.more (s : Step F H fp F1 H1 fp1) (p : Fp) : Step F H (fun a => fp a ∨ p a) F1 H1 (fun a => fp1 a ∨ p a) where
  ex := s.ex
  keep := fun a o h n => s.keep a o h fun q => n (.inl q)
  new := fun a h => by
    rcases h with h | h
    · rcases s.new a h with z | z
      · exact .inl (.inl z)
      · exact .inr z
    · exact .inl (.inr h)
  frz := fun a o h n => by
    rcases s.frz a o h n with z | z
    · exact .inl (.inl z)
    · exact .inr z
theorem Step.sub (s : Step F H fp F1 H1 fp1) (h : ∀ a, fp2 a → fp1 a) : Step F H fp F1 H1 fp2 := ⟨s.ex, s.keep, fun a q => s.new a (h a q), s.frz⟩
theorem Step.sup (s : Step F H fp F1 H1 fp1) (h : ∀ a, fp a → fp2 a) : Step F H fp2 F1 H1 fp1 :=
  ⟨s.ex, fun a o q n => s.keep a o q fun z => n (h a z), fun a q => (s.new a q).imp_left (h a), fun a o q n => (s.frz a o q n).imp_left (h a)⟩
end

section
variable {K : PySem.W.Frag} {F H F1 H1 : Hp} {σ : L2.St} {env : DEnv} {own : Nat → Fp}
theorem Sit.there (S : Sit K F σ H env own) {a : Addr} (q : all own a) : (∃ o, H a = some o) ∧ F a = none := by
  obtain ⟨i, h⟩ := q
  obtain ⟨w, e⟩ := S.emp i a h
  obtain ⟨v, _, r⟩ := S.rep i w e
  exact r.there h
/-- something owned elsewhere persists -/
theorem RepW.stepW {v : V} {w : W} {p fp fp1 : Fp} (r : RepW K F H v w p) (d : ∀ a, p a → ¬ fp a) (s : Step F H fp F1 H1 fp1) : RepW K F1 H1 v w p ∧ ∀ a, p a → ¬ fp1 a := by
  refine ⟨r.frame s.ex (fun a o q e => s.keep a o e (d a q)) fun a q => ?_, fun a q z => ?_⟩
  · obtain ⟨⟨o, e⟩, hf⟩ := r.there q
    cases z : F1 a with
    | none => rfl
    | some u =>
      rcases s.frz a u z hf with y | y
      · exact absurd y (d a q)
      · rw [e] at y; cases y
  · obtain ⟨⟨o, e⟩, hf⟩ := r.there q
    rcases s.new a z with y | y
    · exact d a q y
    · rw [e] at y; cases y
theorem RepU.stepU {v : V} {u : U} {p fp fp1 : Fp} (r : RepU K F H σ v u p) (d : ∀ a, p a → ¬ fp a) (s : Step F H fp F1 H1 fp1) : RepU K F1 H1 σ v u p ∧ ∀ a, p a → ¬ fp1 a := by
  cases u with
  | w w => exact RepW.stepW r d s
  | b i => exact ⟨r, fun a q => absurd q (r.1 a)⟩

/-- the data of what was told -/
def datW : W → D
  | .v d => d
  | .l _ ds => .lst ds
  | .m ks ds => .dic ks ds
  | .x (.d k ks ds) => .dix k ks ds
  | .x _ => .non
def W.opq : W → Bool
  | .x (.o _ _ _ _) => true
  | .x (.t _) => true
  | _ => false
def dat (env : DEnv) : U → Option D
  | .w w => if w.opq then none else some (datW w)
  | .b i => match env[i]? with
    | some (some w) => if w.opq then none else some (datW w)
    | _ => none
/-- what may be read as data just now -/
def View (K : PySem.W.Frag) (F H : Hp) (v : V) (d : D) : Prop := match d with
  | .lst ds => ∃ a vs, v = .ref a ∧ Rd H a (.lst vs) ∧ RepDs K F vs ds
  | .dic ks ds => ∃ a kvs, v = .ref a ∧ H a = some (.dT kvs) ∧ kvs.map (·.1) = ks.map keyI ∧ RepDs K F (kvs.map (·.2)) ds
  | .dix k ks ds => ∃ a o us vs, v = .ref a ∧ H a = some o ∧ DxO k a us vs ks o ∧ RepDs K F us ks ∧ RepDs K F vs ds
  | d => RepD K F v d
theorem View.of {v : V} {d : D} (e : Same F H) (r : RepD K F v d) : View K F H v d := by
  cases r with
  | lst h q => exact ⟨_, _, rfl, sameL e h, q⟩
  | dic h k q => exact ⟨_, _, rfl, e _ _ h, k, q⟩
  | dix h k q r => exact ⟨_, _, _, _, rfl, e _ _ h, k, q, r⟩
  | ins h k l q => exact RepD.ins h k l q
  | _ => first | exact .non | exact .bl _ | exact .int _ | exact .str _ | exact .ty _ | (rename_i h; exact .glob h) | (rename_i h q; exact .exn h q) | (rename_i h; exact .scr h) | (rename_i h q; exact .tup h q)
theorem View.mono {v : V} {d : D} (h : View K F H v d) (e : Same F F1) (k : Same H H1) : View K F1 H1 v d := by
  cases d with
  | lst ds => obtain ⟨a, vs, rfl, q, r⟩ := h; exact ⟨a, vs, rfl, sameL k q, r.mono e⟩
  | dic ks ds => obtain ⟨a, vs, rfl, q, hk, r⟩ := h; exact ⟨a, vs, rfl, k _ _ q, hk, r.mono e⟩
  | dix kk ks ds => obtain ⟨a, o, us, vs, rfl, q, hk, r1, r2⟩ := h; exact ⟨a, o, us, vs, rfl, k _ _ q, hk, r1.mono e, r2.mono e⟩
  | _ => exact RepD.mono e h
theorem RepW.view {v : V} {w : W} {p : Fp} (e : Same F H) (r : RepW K F H v w p) (ho : w.opq = false) : View K F H v (datW w) := by
  cases w with
  | v d => exact View.of e r.2
  | l b ds =>
    obtain ⟨a, vs, rfl, _, hc, _, q⟩ := r
    exact ⟨a, vs, rfl, .inl hc, q⟩
  | m ks ds =>
    obtain ⟨a, vs, rfl, _, hc, _, hk, q⟩ := r
    exact ⟨a, vs, rfl, hc, hk, q⟩
  | x y =>
    cases y with
    | d k ks ds =>
      obtain ⟨a, o, us, vs, rfl, _, hc, _, hk, r1, r2⟩ := r
      exact ⟨a, o, us, vs, rfl, hc, hk, r1, r2⟩
    | o b c ns ws => cases ho
    | t ws => cases ho
theorem RepU.view {v : V} {u : U} {p : Fp} {d : D} (S : Sit K F σ H env own) (r : RepU K F H σ v u p) (h : dat env u = some d) : View K F H v d := by
  cases u with
  | w w =>
    have h : (if w.opq then none else some (datW w)) = some d := h
    cases ho : w.opq with
    | true => rw [ho, if_pos rfl] at h; cases h
    | false =>
      rw [ho, if_neg Bool.false_ne_true] at h
      have e : datW w = d := Option.some.inj h
      subst e
      exact RepW.view S.ex r ho
  | b i =>
    have h : (match env[i]? with | some (some w) => (if w.opq then none else some (datW w)) | _ => none) = some d := h
    split at h
    · rename_i w hw
      cases ho : w.opq with
      | true => rw [ho, if_pos rfl] at h; cases h
      | false =>
        rw [ho, if_neg Bool.false_ne_true] at h
        obtain ⟨v', e1, r'⟩ := S.rep i w hw
        have e : datW w = d := Option.some.inj h
        subst e
        have e2 : v' = v := by
          rw [r.2] at e1
          injection e1 with e1
          injection e1 with e1
          exact e1.symm
        subst e2
        exact RepW.view S.ex r' ho
    · cases h
end
end DL

namespace DL
open PySem PySem.Spec PyProof.Rows L2

/-! ### what a run tells -/
inductive R (α : Type) where
  | ok (a : α) (env : DEnv)
  | raise (c : Str) (env : DEnv)
  | stuck
abbrev M (α : Type) := DEnv → R α
def R.bind {α β : Type} (r : R α) (k : α → DEnv → R β) : R β := match r with
  | .ok a e => k a e
  | .raise c e => .raise c e
  | .stuck => .stuck
@[simp] theorem R.bind_ok {α β : Type} (a : α) (e : DEnv) (k : α → DEnv → R β) : (R.ok a e).bind k = k a e := Eq.trans rfl rfl
@[simp] theorem R.bind_raise {α β : Type} (c : Str) (e : DEnv) (k : α → DEnv → R β) : (R.raise c e).bind k = .raise c e := Eq.trans rfl rfl
@[simp] theorem R.bind_stuck {α β : Type} (k : α → DEnv → R β) : (R.stuck).bind k = .stuck := Eq.trans rfl rfl

structure OutR (K : PySem.W.Frag) (F H : Hp) (own : Nat → Fp) (σ' : L2.St) (env' : DEnv) (F' H' : Hp) (own' : Nat → Fp) : Prop where
  S : Sit K F' σ' H' env' own'
  s : Step F H (all own) F' H' (all own')
structure Out (K : PySem.W.Frag) (F H : Hp) (own : Nat → Fp) (σ' : L2.St) (u : U) (v : V) (env' : DEnv) (F' H' : Hp) (own' : Nat → Fp) (p : Fp) : Prop where
  S : Sit K F' σ' H' env' own'
  r : RepU K F' H' σ' v u p
  d : ∀ a, p a → ¬ all own' a
  s : Step F H (all own) F' H' (fun a => all own' a ∨ p a)
structure Out2 (K : PySem.W.Frag) (F H : Hp) (own : Nat → Fp) (σ' : L2.St) (u1 u2 : U) (v1 v2 : V) (env' : DEnv) (F' H' : Hp) (own' : Nat → Fp) (p1 p2 : Fp) : Prop where
  S : Sit K F' σ' H' env' own'
  r1 : RepU K F' H' σ' v1 u1 p1
  r2 : RepU K F' H' σ' v2 u2 p2
  d1 : ∀ a, p1 a → ¬ all own' a
  d2 : ∀ a, p2 a → ¬ all own' a
  d12 : ∀ a, p1 a → ¬ p2 a
  s : Step F H (all own) F' H' (fun a => (all own' a ∨ p2 a) ∨ p1 a)

/-- no other slots were stored to -/
def Only (is : List Nat) (σ σ' : L2.St) : Prop := σ'.length = σ.length ∧ ∀ j : Nat, j ∉ is → σ'[j]? = σ[j]?
theorem Only.refl {is : List Nat} {σ : L2.St} : Only is σ σ := ⟨rfl, fun _ _ => rfl⟩
theorem Only.trans {is js : List Nat} {σ σ1 σ2 : L2.St} (a : Only is σ σ1) (b : Only js σ1 σ2) : Only (is ++ js) σ σ2 :=
  ⟨b.1.trans a.1, fun j h => (b.2 j fun z => h (List.mem_append_right _ z)).trans (a.2 j fun z => h (List.mem_append_left _ z))⟩
theorem Only.sub {is js : List Nat} {σ σ' : L2.St} (a : Only is σ σ') (h : ∀ i ∈ is, i ∈ js) : Only js σ σ' := ⟨a.1, fun j n => a.2 j fun z => n (h j z)⟩
theorem Only.left {is : List Nat} (js : List Nat) {σ σ' : L2.St} (a : Only is σ σ') : Only (is ++ js) σ σ' := a.sub fun _ h => List.mem_append_left _ h
theorem Only.right {js : List Nat} (is : List Nat) {σ σ' : L2.St} (a : Only js σ σ') : Only (is ++ js) σ σ' := a.sub fun _ h => List.mem_append_right _ h
theorem Only.set {i : Nat} {σ : L2.St} {v : Option V} : Only [i] σ (σ.set i v) := ⟨List.length_set, fun j hj => List.getElem?_set_ne fun z => hj (by simp [z])⟩
theorem Only.join {is : List Nat} {σ σ1 σ2 : L2.St} (a : Only is σ σ1) (b : Only is σ1 σ2) : Only is σ σ2 := (a.trans b).sub fun i h => (List.mem_append.mp h).elim id id
section
variable (K : PySem.W.Frag) (mg : Str → Option Value) (Wx : WX)
/-- the reading of an expression that tells f -/
def tOf (f : M U) : TE := fun σ H Q => ∃ F env own, Sit K F σ H env own ∧ match f env with
  | .ok u env' => ∀ v F' H' own' p, Out K F H own σ u v env' F' H' own' p → Q v H'
  | .raise c env' => ∀ C F' H' own', mg c = some (.ref C) → OutR K F H own σ env' F' H' own' → Wx (.ref C) none σ H'
  | .stuck => False
/-- of a test -/
def ttOf (f : M Bool) : TT := fun σ H Q => ∃ F env own, Sit K F σ H env own ∧ match f env with
  | .ok b env' => ∀ F' H' own', OutR K F H own σ env' F' H' own' → Q b H'
  | .raise c env' => ∀ C F' H' own', mg c = some (.ref C) → OutR K F H own σ env' F' H' own' → Wx (.ref C) none σ H'
  | .stuck => False
/-- how a statement ends -/
inductive Fl where
  | next | brk | cont | ret (u : U)
def sOf (is : List Nat) (f : M Fl) : TS := fun E σ H => ∃ F env own, Sit K F σ H env own ∧ match f env with
  | .ok .next env' => ∀ σ' F' H' own', Only is σ σ' → OutR K F H own σ' env' F' H' own' → E.nx σ' H'
  | .ok .brk env' => ∀ σ' F' H' own', Only is σ σ' → OutR K F H own σ' env' F' H' own' → E.bk σ' H'
  | .ok .cont env' => ∀ σ' F' H' own', Only is σ σ' → OutR K F H own σ' env' F' H' own' → E.ct σ' H'
  | .ok (.ret u) env' => ∀ v σ' F' H' own' p, Only is σ σ' → Out K F H own σ' u v env' F' H' own' p → E.rt v H'
  | .raise c env' => ∀ C σ' F' H' own', Only is σ σ' → mg c = some (.ref C) → OutR K F H own σ' env' F' H' own' → Wx (.ref C) none σ' H'
  | .stuck => False
end

abbrev EvS (X : Cx) (Wx : WX) (e : Expr) (f : M U) : Prop := PE X e (tOf X.K X.mg Wx f)
abbrev TtS (X : Cx) (Wx : WX) (e : Expr) (f : M Bool) : Prop := PT X e (ttOf X.K X.mg Wx f)
abbrev StS (X : Cx) (Wx : WX) (st : Stmt) (is : List Nat) (f : M Fl) : Prop := PS X st (sOf X.K X.mg Wx is f)
abbrev SsS (X : Cx) (Wx : WX) (st : List Stmt) (is : List Nat) (f : M Fl) : Prop := PSs X st (sOf X.K X.mg Wx is f)

theorem PE.imp {X : Cx} {e : Expr} {t t' : TE} (h : PE X e t) (i : ∀ σ H Q, t' σ H Q → t σ H Q) : PE X e t' := ⟨fun pins s σ H Q I q => h.run pins s σ H Q I (i σ H Q q)⟩
theorem PT.imp {X : Cx} {e : Expr} {t t' : TT} (h : PT X e t) (i : ∀ σ H Q, t' σ H Q → t σ H Q) : PT X e t' := ⟨fun pins s σ H Q I q => h.run pins s σ H Q I (i σ H Q q)⟩
theorem PW.imp {X : Cx} {e : Expr} {t t' : TT} (h : PW X e t) (i : ∀ σ H Q, t' σ H Q → t σ H Q) : PW X e t' := ⟨fun wh pins s σ H Q I q => h.run wh pins s σ H Q I (i σ H Q q)⟩
theorem PS.imp {X : Cx} {e : Stmt} {t t' : TS} (h : PS X e t) (i : ∀ D σ H, t' D σ H → t D σ H) : PS X e t' := ⟨fun pins s σ H D I q => h.run pins s σ H D I (i D σ H q)⟩
theorem PSs.imp {X : Cx} {e : List Stmt} {t t' : TS} (h : PSs X e t) (i : ∀ D σ H, t' D σ H → t D σ H) : PSs X e t' := ⟨fun pins s σ H D I q => h.run pins s σ H D I (i D σ H q)⟩

section
variable {K : PySem.W.Frag} {mg : Str → Option Value} {Wx : WX} {F H F1 H1 F2 H2 : Hp} {σ σ1 σ2 : L2.St} {env env1 env2 : DEnv} {own own1 own2 : Nat → Fp}

theorem OutR.refl (S : Sit K F σ H env own) : OutR K F H own σ env F H own := ⟨S, Step.refl⟩
theorem OutR.trans (a : OutR K F H own σ1 env1 F1 H1 own1) (b : OutR K F1 H1 own1 σ2 env2 F2 H2 own2) : OutR K F H own σ2 env2 F2 H2 own2 := ⟨b.S, a.s.trans b.s⟩
theorem OutR.out {u : U} {v : V} {p : Fp} (a : OutR K F H own σ1 env1 F1 H1 own1) (b : Out K F1 H1 own1 σ2 u v env2 F2 H2 own2 p) : Out K F H own σ2 u v env2 F2 H2 own2 p := ⟨b.S, b.r, b.d, a.s.trans b.s⟩
/-- what was told is dropped -/
theorem Out.drop {u : U} {v : V} {p : Fp} (b : Out K F H own σ2 u v env2 F2 H2 own2 p) : OutR K F H own σ2 env2 F2 H2 own2 := ⟨b.S, b.s.sub fun _ h => .inl h⟩
/-- then something is run, what was told stays -/
theorem Out.then {u : U} {v : V} {p : Fp} (a : Out K F H own σ u v env1 F1 H1 own1 p) (b : OutR K F1 H1 own1 σ env2 F2 H2 own2) : Out K F H own σ u v env2 F2 H2 own2 p := by
  obtain ⟨r, d⟩ := a.r.stepU a.d b.s
  exact ⟨b.S, r, d, a.s.trans (b.s.more p)⟩
theorem Out.out2 {u1 u2 : U} {v1 v2 : V} {p1 p2 : Fp} (a : Out K F H own σ u1 v1 env1 F1 H1 own1 p1) (b : Out K F1 H1 own1 σ u2 v2 env2 F2 H2 own2 p2) : Out2 K F H own σ u1 u2 v1 v2 env2 F2 H2 own2 p1 p2 := by
  obtain ⟨r, d⟩ := a.r.stepU a.d b.s
  exact ⟨b.S, r, b.r, fun a q z => d a q (.inl z), b.d, fun a q z => d a q (.inr z), a.s.trans (b.s.more p1)⟩
theorem Out2.drop {u1 u2 : U} {v1 v2 : V} {p1 p2 : Fp} (a : Out2 K F H own σ u1 u2 v1 v2 env1 F1 H1 own1 p1 p2) : OutR K F H own σ env1 F1 H1 own1 := ⟨a.S, a.s.sub fun _ h => .inl (.inl h)⟩
theorem Out2.fst {u1 u2 : U} {v1 v2 : V} {p1 p2 : Fp} (a : Out2 K F H own σ u1 u2 v1 v2 env1 F1 H1 own1 p1 p2) : Out K F H own σ u1 v1 env1 F1 H1 own1 p1 := ⟨a.S, a.r1, a.d1, a.s.sub fun _ h => h.imp_left .inl⟩
theorem Out2.snd {u1 u2 : U} {v1 v2 : V} {p1 p2 : Fp} (a : Out2 K F H own σ u1 u2 v1 v2 env1 F1 H1 own1 p1 p2) : Out K F H own σ u2 v2 env1 F1 H1 own1 p2 := ⟨a.S, a.r2, a.d2, a.s.sub fun _ h => .inl h⟩

/-- run fa at a state, then go on -/
theorem tOf_use {fa : M U} {Q : VK} (S : Sit K F σ H env own)
    (hok : ∀ u env1, fa env = .ok u env1 → ∀ v F1 H1 own1 p, Out K F H own σ u v env1 F1 H1 own1 p → Q v H1)
    (hr : ∀ c env1, fa env = .raise c env1 → ∀ C F1 H1 own1, mg c = some (.ref C) → OutR K F H own σ env1 F1 H1 own1 → Wx (.ref C) none σ H1)
    (hs : fa env ≠ .stuck) : tOf K mg Wx fa σ H Q := by
  refine ⟨F, env, own, S, ?_⟩
  cases e : fa env with
  | ok u env1 => exact hok u env1 e
  | raise c env1 => exact hr c env1 e
  | stuck => exact hs e
theorem ttOf_use {fa : M Bool} {Q : Bool → Hp → Prop} (S : Sit K F σ H env own)
    (hok : ∀ b env1, fa env = .ok b env1 → ∀ F1 H1 own1, OutR K F H own σ env1 F1 H1 own1 → Q b H1)
    (hr : ∀ c env1, fa env = .raise c env1 → ∀ C F1 H1 own1, mg c = some (.ref C) → OutR K F H own σ env1 F1 H1 own1 → Wx (.ref C) none σ H1)
    (hs : fa env ≠ .stuck) : ttOf K mg Wx fa σ H Q := by
  refine ⟨F, env, own, S, ?_⟩
  cases e : fa env with
  | ok u env1 => exact hok u env1 e
  | raise c env1 => exact hr c env1 e
  | stuck => exact hs e

/-- something then k: run fa, then what k says is left -/
theorem tOf_bind {β : Type} {fa : M U} {k : U → M β} {P : R β → Hp → Hp → (Nat → Fp) → Prop} {Q : VK} (S : Sit K F σ H env own) (h : P ((fa env).bind k) F H own)
    (hp : ∀ c env', P (.raise c env') F H own → ∀ C F1 H1 own1, mg c = some (.ref C) → OutR K F H own σ env' F1 H1 own1 → Wx (.ref C) none σ H1) (hn : ¬ P .stuck F H own)
    (hok : ∀ u env1, fa env = .ok u env1 → P (k u env1) F H own → ∀ v F1 H1 own1 p, Out K F H own σ u v env1 F1 H1 own1 p → Q v H1) : tOf K mg Wx fa σ H Q := by
  refine tOf_use S (fun u env1 e => hok u env1 e (by rw [e] at h; exact h)) (fun c env1 e => hp c env1 (by rw [e] at h; exact h)) (fun e => hn (by rw [e] at h; exact h))
end
end DL

namespace DL
open PySem PySem.Spec PyProof.Rows L2

/-! ### lists of expressions -/
def RepUs (K : PySem.W.Frag) (F H : Hp) (σ : L2.St) : List V → List U → Fp → Prop
  | [], [], p => ∀ a, ¬ p a
  | v :: vs, u :: us, p => ∃ p1 p2 : Fp, (∀ a, p a ↔ p1 a ∨ p2 a) ∧ (∀ a, p1 a → ¬ p2 a) ∧ RepU K F H σ v u p1 ∧ RepUs K F H σ vs us p2
  | _, _, _ => False
structure OutL (K : PySem.W.Frag) (F H : Hp) (own : Nat → Fp) (σ' : L2.St) (us : List U) (vs : List V) (env' : DEnv) (F' H' : Hp) (own' : Nat → Fp) (p : Fp) : Prop where
  S : Sit K F' σ' H' env' own'
  r : RepUs K F' H' σ' vs us p
  d : ∀ a, p a → ¬ all own' a
  s : Step F H (all own) F' H' (fun a => all own' a ∨ p a)
def aOf (K : PySem.W.Frag) (mg : Str → Option Value) (Wx : WX) (f : M (List U)) : TA := fun σ H Q => ∃ F env own, Sit K F σ H env own ∧ match f env with
  | .ok us env' => ∀ vs F' H' own' p, OutL K F H own σ us vs env' F' H' own' p → Q vs H'
  | .raise c env' => ∀ C F' H' own', mg c = some (.ref C) → OutR K F H own σ env' F' H' own' → Wx (.ref C) none σ H'
  | .stuck => False
def evs : List (M U) → M (List U)
  | [], env => .ok [] env
  | f :: fs, env => (f env).bind fun u e1 => (evs fs e1).bind fun us e2 => .ok (u :: us) e2
abbrev EaS (X : Cx) (Wx : WX) (es : List Expr) (fs : List (M U)) : Prop := PA X es (aOf X.K X.mg Wx (evs fs))
theorem PA.imp {X : Cx} {e : List Expr} {t t' : TA} (h : PA X e t) (i : ∀ σ H Q, t' σ H Q → t σ H Q) : PA X e t' := ⟨fun pos pins s σ H Q I q => h.run pos pins s σ H Q I (i σ H Q q)⟩

section
variable {K : PySem.W.Frag} {mg : Str → Option Value} {Wx : WX} {F H F1 H1 F2 H2 : Hp} {σ σ1 σ2 : L2.St} {env env1 env2 : DEnv} {own own1 own2 : Nat → Fp}
theorem RepUs.stepU : ∀ {vs : List V} {us : List U} {p fp fp1 : Fp}, RepUs K F H σ vs us p → (∀ a, p a → ¬ fp a) → Step F H fp F1 H1 fp1 → RepUs K F1 H1 σ vs us p ∧ ∀ a, p a → ¬ fp1 a
  | [], [], p, fp, fp1, r, d, s => ⟨r, fun a q => absurd q (r a)⟩
  | v :: vs, u :: us, p, fp, fp1, r, d, s => by
    obtain ⟨p1, p2, hp, hd, r1, r2⟩ := r
    obtain ⟨a1, b1⟩ := RepU.stepU r1 (fun a q => d a ((hp a).mpr (.inl q))) s
    obtain ⟨a2, b2⟩ := RepUs.stepU r2 (fun a q => d a ((hp a).mpr (.inr q))) s
    refine ⟨⟨p1, p2, hp, hd, a1, a2⟩, fun a q => ?_⟩
    rcases (hp a).mp q with z | z
    · exact b1 a z
    · exact b2 a z
  | [], _ :: _, _, _, _, r, _, _ => r.elim
  | _ :: _, [], _, _, _, r, _, _ => r.elim
theorem RepUs.length : ∀ {vs : List V} {us : List U} {p : Fp}, RepUs K F H σ vs us p → vs.length = us.length
  | [], [], _, _ => rfl
  | v :: vs, u :: us, _, r => by
    obtain ⟨_, _, _, _, _, r2⟩ := r
    rw [List.length_cons, List.length_cons, RepUs.length r2]
  | [], _ :: _, _, r => r.elim
  | _ :: _, [], _, r => r.elim
theorem OutL.nil (S : Sit K F σ H env own) : OutL K F H own σ [] [] env F H own (fun _ => False) := ⟨S, fun _ h => h, fun _ h => h.elim, Step.refl.sub fun _ h => h.elim id False.elim⟩
theorem Out.cons {u : U} {v : V} {us : List U} {vs : List V} {p p2 : Fp} (a : Out K F H own σ u v env1 F1 H1 own1 p) (b : OutL K F1 H1 own1 σ us vs env2 F2 H2 own2 p2) : OutL K F H own σ (u :: us) (v :: vs) env2 F2 H2 own2 (fun a => p a ∨ p2 a) := by
  obtain ⟨r, d⟩ := a.r.stepU a.d b.s
  refine ⟨b.S, ⟨p, p2, fun _ => Iff.rfl, fun a q z => d a q (.inr z), r, b.r⟩, fun a q z => ?_, (a.s.trans (b.s.more p)).sub fun a q => ?_⟩
  · rcases q with q | q
    · exact d a q (.inl z)
    · exact b.d a q z
  · rcases q with q | q | q
    · exact .inl (.inl q)
    · exact .inr q
    · exact .inl (.inr q)
theorem OutL.drop {us : List U} {vs : List V} {p : Fp} (b : OutL K F H own σ2 us vs env2 F2 H2 own2 p) : OutR K F H own σ2 env2 F2 H2 own2 := ⟨b.S, b.s.sub fun _ h => .inl h⟩
theorem OutL.one {u : U} {vs : List V} {p : Fp} (b : OutL K F H own σ2 [u] vs env2 F2 H2 own2 p) : ∃ v, vs = [v] ∧ Out K F H own σ2 u v env2 F2 H2 own2 p := by
  obtain ⟨S, r, d, s⟩ := b
  match vs, r with
  | [v], ⟨p1, p2, hp, hd, r1, r2⟩ =>
    have e : ∀ a, p a ↔ p1 a := fun a => (hp a).trans ⟨fun z => z.elim id fun y => absurd y (r2 a), .inl⟩
    have e' : p = p1 := funext fun a => propext (e a)
    subst e'
    exact ⟨v, rfl, S, r1, d, s⟩
  | _ :: _ :: _, ⟨_, _, _, _, _, r2⟩ => exact r2.elim
end

section
variable {X : Cx} {Wx : WX} {e : Expr} {es : List Expr} {f : M U} {fs : List (M U)} {pos : Pos}
theorem ea_nil : EaS X Wx [] [] := PA.imp pa_nil fun σ H Q h => by
  obtain ⟨F, env, own, S, h⟩ := h
  exact h [] F H own _ (OutL.nil S)
theorem ea_cons (ha : EvS X Wx e f) (hr : EaS X Wx es fs) (hs : starEach (e :: es) X.env = (false, eval e X.env) :: starEach es X.env := by rfl) : EaS X Wx (e :: es) (f :: fs) := PA.imp (pa_cons ha hr hs) fun σ H Q h => by
  obtain ⟨F, env, own, S, h⟩ := h
  unfold evs at h
  refine tOf_use S (fun u env1 e1 v F1 H1 own1 p O1 => ?_) (fun c env1 e1 C F1 H1 own1 => ?_) (fun e1 => ?_)
  · rw [e1, R.bind_ok] at h
    refine ⟨F1, env1, own1, O1.S, ?_⟩
    cases e2 : evs fs env1 with
    | ok us env2 =>
      rw [e2] at h
      exact fun vs F2 H2 own2 p2 O2 => h _ _ _ _ _ (O1.cons O2)
    | raise c env2 =>
      rw [e2] at h
      exact fun C F2 H2 own2 hm O2 => h C F2 H2 own2 hm (O1.drop.trans O2)
    | stuck =>
      rw [e2] at h
      exact h
  · rw [e1] at h
    exact h C F1 H1 own1
  · rw [e1] at h
    exact h
end

/-! ### pure operations on data -/
structure Grow (F H F' H' : Hp) (p : Fp) : Prop where
  exF : Same F F'
  exH : Same H H'
  sub : Same F' H'
  fr : ∀ a o, F' a = some o → F a = none → H a = none
  np : ∀ a, p a → H a = none
section
variable {K : PySem.W.Frag} {F H F1 H1 F2 H2 : Hp} {σ : L2.St} {env env1 : DEnv} {own own1 : Nat → Fp} {p : Fp}
theorem Grow.refl (e : Same F H) : Grow F H F H (fun _ => False) := ⟨Same.refl _, Same.refl _, e, fun a o h n => (by rw [h] at n; cases n), fun _ h => h.elim⟩
/-- a new thing, for good -/
theorem Grow.data {q : Addr} {o : HO} (e : Same F H) (hq : H q = none) : Grow F H (upd F q o) (upd H q o) (fun _ => False) where
  exF := fun a u h => by
    have : a ≠ q := fun z => by subst z; rw [e _ _ h] at hq; cases hq
    rw [upd_ne this]; exact h
  exH := fun a u h => by rw [upd_ne (ne_of_none h hq)]; exact h
  sub := fun a u h => by
    by_cases z : a = q
    · subst z; rw [upd_same] at h ⊢; exact h
    · rw [upd_ne z] at h ⊢; exact e _ _ h
  fr := fun a u h n => by
    by_cases z : a = q
    · subst z; exact hq
    · rw [upd_ne z, n] at h; cases h
  np := fun _ h => h.elim
/-- a new thing, of its own -/
theorem Grow.ofOwn {q : Addr} {o : HO} (e : Same F H) (hq : H q = none) : Grow F H F (upd H q o) (fun a => a = q) where
  exF := Same.refl _
  exH := fun a u h => by rw [upd_ne (ne_of_none h hq)]; exact h
  sub := fun a u h => by rw [upd_ne (ne_of_none (e _ _ h) hq)]; exact e _ _ h
  fr := fun a u h n => by rw [h] at n; cases n
  np := fun a h => by rw [h]; exact hq
theorem Grow.sit (g : Grow F H F1 H1 p) (S : Sit K F σ H env own) : Sit K F1 σ H1 env own where
  ex := g.sub
  len := S.len
  rep := fun i w h => by
    obtain ⟨v, e, r⟩ := S.rep i w h
    refine ⟨v, e, r.frame g.exF (fun a o _ q => g.exH a o q) fun a q => ?_⟩
    obtain ⟨⟨o, e1⟩, e2⟩ := r.there q
    cases z : F1 a with
    | none => rfl
    | some u => rw [g.fr a u z e2] at e1; cases e1
  emp := S.emp
  dis := S.dis
theorem Grow.step (g : Grow F H F1 H1 p) (own : Nat → Fp) : Step F H (all own) F1 H1 (fun a => all own a ∨ p a) where
  ex := g.exF
  keep := fun a o h _ => g.exH a o h
  new := fun a h => h.imp_right (g.np a)
  frz := fun a o h n => .inr (g.fr a o h n)
theorem Grow.out {v : V} {w : W} (g : Grow F1 H1 F2 H2 p) (O : OutR K F H own σ env1 F1 H1 own1) (r : RepW K F2 H2 v w p) : Out K F H own σ (.w w) v env1 F2 H2 own1 p := by
  refine ⟨g.sit O.S, r, fun a q z => ?_, O.s.trans (g.step own1)⟩
  obtain ⟨⟨o, e⟩, _⟩ := O.S.there z
  rw [g.np a q] at e
  cases e
end

def datL (env : DEnv) : List U → Option (List D)
  | [] => some []
  | u :: us => match dat env u, datL env us with
    | some d, some ds => some (d :: ds)
    | _, _ => none
inductive Views (K : PySem.W.Frag) (F H : Hp) : List V → List D → Prop where
  | nil : Views K F H [] []
  | cons {v : V} {d : D} {vs : List V} {ds : List D} : View K F H v d → Views K F H vs ds → Views K F H (v :: vs) (d :: ds)
theorem RepUs.views {K : PySem.W.Frag} {F H : Hp} {σ : L2.St} {env : DEnv} {own : Nat → Fp} (S : Sit K F σ H env own) : ∀ {vs : List V} {us : List U} {p : Fp} {ds : List D}, RepUs K F H σ vs us p → datL env us = some ds → Views K F H vs ds
  | [], [], p, ds, r, h => by cases h; exact .nil
  | v :: vs, u :: us, p, ds, r, h => by
    obtain ⟨p1, p2, _, _, r1, r2⟩ := r
    have h : (match dat env u, datL env us with | some d, some ds => some (d :: ds) | _, _ => none) = some ds := h
    split at h
    · rename_i d ds' h1 h2
      cases h
      exact .cons (RepU.view S r1 h1) (RepUs.views S r2 h2)
    · cases h
  | [], _ :: _, _, _, r, _ => r.elim
  | _ :: _, [], _, _, r, _ => r.elim
theorem Views.one {K : PySem.W.Frag} {F H : Hp} {vs : List V} {d : D} (h : Views K F H vs [d]) : ∃ v, vs = [v] ∧ View K F H v d := by
  cases h with
  | cons a b => cases b; exact ⟨_, rfl, a⟩
theorem Views.two {K : PySem.W.Frag} {F H : Hp} {vs : List V} {d e : D} (h : Views K F H vs [d, e]) : ∃ v u, vs = [v, u] ∧ View K F H v d ∧ View K F H u e := by
  cases h with
  | cons a b =>
    obtain ⟨u, rfl, q⟩ := b.one
    exact ⟨_, _, rfl, a, q⟩

/-- what a reading of an operation on values tells, by data -/
def CaD (K : PySem.W.Frag) (r : List V → Hp → VK → Prop) (g : List D → Option W) : Prop :=
  ∀ (F H : Hp) (vs : List V) (ds : List D) (w : W) (Q : VK), Same F H → Views K F H vs ds → g ds = some w → (∀ v F' H' p, Grow F H F' H' p → RepW K F' H' v w p → Q v H') → r vs H Q
def opN (g : List D → Option W) (fs : List (M U)) : M U := fun env => (evs fs env).bind fun us e1 => match datL e1 us with
  | some ds => match g ds with
    | some w => .ok (.w w) e1
    | none => .stuck
  | none => .stuck
/-- as one reads arguments, then does -/
theorem aOf_op {K : PySem.W.Frag} {mg : Str → Option Value} {Wx : WX} {r : List V → Hp → VK → Prop} {g : List D → Option W} {fs : List (M U)} {σ : L2.St} {H : Hp} {Q : VK} (c : CaD K r g) (h : tOf K mg Wx (opN g fs) σ H Q) :
    aOf K mg Wx (evs fs) σ H fun vs H1 => r vs H1 Q := by
  obtain ⟨F, env, own, S, h⟩ := h
  refine ⟨F, env, own, S, ?_⟩
  unfold opN at h
  cases e : evs fs env with
  | stuck => rw [e] at h; exact h
  | raise c env1 => rw [e] at h; exact h
  | ok us env1 =>
    rw [e, R.bind_ok] at h
    intro vs F1 H1 own1 p O
    cases e1 : datL env1 us with
    | none => rw [e1] at h; exact h.elim
    | some ds =>
      rw [e1] at h
      dsimp only at h
      cases e2 : g ds with
      | none => rw [e2] at h; exact h.elim
      | some w =>
        rw [e2] at h
        exact c F1 H1 vs ds w Q O.S.ex (RepUs.views O.S O.r e1) e2 fun v F' H' p' gr rw' => h v F' H' own1 p' (gr.out O.drop rw')
section
variable {K : PySem.W.Frag} {mg : Str → Option Value} {Wx : WX} {fa fb fc : M U} {σ : L2.St} {H : Hp}
theorem aOf_1 {Q : List V → Hp → Prop} (h : aOf K mg Wx (evs [fa]) σ H Q) : tOf K mg Wx fa σ H fun x H1 => Q [x] H1 := by
  obtain ⟨F, env, own, S, h⟩ := h
  unfold evs at h
  refine tOf_use S (fun u env1 e1 v F1 H1 own1 p O1 => ?_) (fun c env1 e1 C F1 H1 own1 => ?_) (fun e1 => ?_)
  · rw [e1] at h
    refine h _ _ _ _ _ (O1.cons (OutL.nil O1.S))
  · rw [e1] at h
    exact h C F1 H1 own1
  · rw [e1] at h
    exact h
theorem aOf_cons {fs : List (M U)} {Q : List V → Hp → Prop} (h : aOf K mg Wx (evs (fa :: fs)) σ H Q) : tOf K mg Wx fa σ H fun x H1 => aOf K mg Wx (evs fs) σ H1 fun xs H2 => Q (x :: xs) H2 := by
  obtain ⟨F, env, own, S, h⟩ := h
  unfold evs at h
  refine tOf_use S (fun u env1 e1 v F1 H1 own1 p O1 => ?_) (fun c env1 e1 C F1 H1 own1 => ?_) (fun e1 => ?_)
  · rw [e1, R.bind_ok] at h
    refine ⟨F1, env1, own1, O1.S, ?_⟩
    cases e2 : evs fs env1 with
    | ok us env2 =>
      rw [e2] at h
      exact fun vs F2 H2 own2 p2 O2 => h _ _ _ _ _ (O1.cons O2)
    | raise c env2 =>
      rw [e2] at h
      exact fun C F2 H2 own2 hm O2 => h C F2 H2 own2 hm (O1.drop.trans O2)
    | stuck =>
      rw [e2] at h
      exact h
  · rw [e1] at h
    exact h C F1 H1 own1
  · rw [e1] at h
    exact h
theorem tOf_mono {Q Q' : VK} (h : tOf K mg Wx fa σ H Q) (i : ∀ v H, Q v H → Q' v H) : tOf K mg Wx fa σ H Q' := by
  obtain ⟨F, env, own, S, h⟩ := h
  refine ⟨F, env, own, S, ?_⟩
  cases e : fa env with
  | ok u env1 => rw [e] at h; exact fun v F1 H1 own1 p O => i _ _ (h v F1 H1 own1 p O)
  | raise c env1 => rw [e] at h; exact h
  | stuck => rw [e] at h; exact h
theorem aOf_2 {Q : List V → Hp → Prop} (h : aOf K mg Wx (evs [fa, fb]) σ H Q) : tOf K mg Wx fa σ H fun x H1 => tOf K mg Wx fb σ H1 fun y H2 => Q [x, y] H2 :=
  tOf_mono (aOf_cons h) fun _ _ q => aOf_1 q
theorem aOf_3 {Q : List V → Hp → Prop} (h : aOf K mg Wx (evs [fa, fb, fc]) σ H Q) : tOf K mg Wx fa σ H fun x H1 => tOf K mg Wx fb σ H1 fun y H2 => tOf K mg Wx fc σ H2 fun z H3 => Q [x, y, z] H3 :=
  tOf_mono (aOf_cons h) fun _ _ q => aOf_2 q
end

section
variable {X : Cx} {Wx : WX} {a b c : Expr} {fa fb fc : M U} {pos p : Pos} {es : List Expr} {e : Expr} {fs : List (M U)} {g : List D → Option W}
def r2 (r : R2) : List V → Hp → VK → Prop := fun vs H Q => ∃ x y, vs = [x, y] ∧ r x y H Q
def r1 (r : V → Hp → VK → Prop) : List V → Hp → VK → Prop := fun vs H Q => ∃ x, vs = [x] ∧ r x H Q
theorem r2_two {r : R2} {x y : V} {H : Hp} {Q : VK} (h : r2 r [x, y] H Q) : r x y H Q := by
  obtain ⟨_, _, e, h⟩ := h; cases e; exact h
theorem r1_one {r : V → Hp → VK → Prop} {x : V} {H : Hp} {Q : VK} (h : r1 r [x] H Q) : r x H Q := by
  obtain ⟨_, e, h⟩ := h; cases e; exact h
theorem e_bin {op : Operator} {r : R2} (ho : OpR X (binaryOp op) r) (cd : CaD X.K (r2 r) g) (ha : EvS X Wx a fa) (hb : EvS X Wx b fb) : EvS X Wx (.BinOp a op b pos) (opN g [fa, fb]) :=
  PE.imp (pe_op ho ha hb) fun σ H Q h => tOf_mono (aOf_2 (aOf_op cd h)) fun _ _ q => tOf_mono q fun _ _ z => r2_two z
theorem e_un {op : UnaryOp} {r : V → Hp → VK → Prop} (ho : UnR X (unaryOp op) r) (cd : CaD X.K (r1 r) g) (ha : EvS X Wx a fa) : EvS X Wx (.UnaryOp op a pos) (opN g [fa]) :=
  PE.imp (pe_un ho ha) fun σ H Q h => tOf_mono (aOf_1 (aOf_op cd h)) fun _ _ q => r1_one q
theorem e_cmp {op : CmpOp} {r : R2} (ho : OpR X (compareOp op) r) (cd : CaD X.K (r2 r) g) (ha : EvS X Wx a fa) (hb : EvS X Wx b fb) (hm : behindInMarks op b = false) : EvS X Wx (.Compare a [op] [b] pos) (opN g [fa, fb]) :=
  PE.imp (pe_cmpR ho ha hb hm) fun σ H Q h => tOf_mono (aOf_2 (aOf_op cd h)) fun _ _ q => tOf_mono q fun _ _ z => r2_two z
theorem e_ix {r : R2} (ho : IxR X r) (cd : CaD X.K (r2 r) g) (ha : EvS X Wx a fa) (hb : EvS X Wx b fb) (hs : PlainIx b) : EvS X Wx (.Subscript a b pos) (opN g [fa, fb]) :=
  PE.imp (pe_ix ho ha hb hs) fun σ H Q h => tOf_mono (aOf_2 (aOf_op cd h)) fun _ _ q => tOf_mono q fun _ _ z => r2_two z
theorem e_callB {id : String} {x : Str} {r : List V → Hp → VK → Prop} (hc : CallR X (.builtin id) r) (cd : CaD X.K r g) (hg : Gl X x) (hm : X.mg x = none) (hv : bootBuiltins x = some (.builtin id)) (ha : EaS X Wx (e :: es) fs) (hn : x ≠ "__name__" := by decide) (hdb : (x == ("__debug__" : Str)) = false := by decide)
    (he : starEach (e :: es) X.env = (false, eval e X.env) :: starEach es X.env := by rfl) (hpl : (backTo pos (starEach es X.env)).any (·.1) = false := by rfl) : EvS X Wx (.Call (.Name x p) (e :: es) [] pos) (opN g fs) :=
  PE.imp (pe_callB hc hg hm hv ha hn hdb he hpl) fun σ H Q h => aOf_op cd h
theorem e_callTy {T : String} {x : Str} {r : List V → Hp → VK → Prop} (hc : CallR X (.type T) r) (cd : CaD X.K r g) (hg : Gl X x) (hm : X.mg x = none) (hv : bootBuiltins x = some (.type T)) (ha : EaS X Wx (e :: es) fs) (hn : x ≠ "__name__" := by decide) (hdb : (x == ("__debug__" : Str)) = false := by decide)
    (he : starEach (e :: es) X.env = (false, eval e X.env) :: starEach es X.env := by rfl) (hpl : (backTo pos (starEach es X.env)).any (·.1) = false := by rfl) : EvS X Wx (.Call (.Name x p) (e :: es) [] pos) (opN g fs) :=
  PE.imp (pe_callTy hc hg hm hv ha hn hdb he hpl) fun σ H Q h => aOf_op cd h
end
end DL

namespace DL
open PySem PySem.Spec PyProof.Rows L2

theorem sz {n : Nat} (h : n ≤ 1000000) : n ≤ sizeLine := Nat.le_trans h (by decide)
theorem szl {n : Nat} (h : n < 1000000) : n < sizeLine := Nat.lt_of_lt_of_le h (by decide)

section
variable {K : PySem.W.Frag} {F H : Hp}
theorem View.int {v : V} {i : Int} (h : View K F H v (.int i)) : v = .int i := by
  cases (show RepD K F v (.int i) from h); rfl
theorem View.bl {v : V} {b : Bool} (h : View K F H v (.bl b)) : v = .bl b := by
  cases (show RepD K F v (.bl b) from h); rfl
theorem View.str {v : V} {x : Str} (h : View K F H v (.str x)) : v = .str x := by
  cases (show RepD K F v (.str x) from h); rfl
theorem View.non {v : V} (h : View K F H v .non) : v = .non := by
  cases (show RepD K F v .non from h); rfl
theorem View.tup {v : V} {ds : List D} (e : Same F H) (h : View K F H v (.tup ds)) : ∃ a vs, v = .ref a ∧ F a = some (.tup vs) ∧ SqT K H a vs ∧ RepDs K F vs ds := by
  cases (show RepD K F v (.tup ds) from h) with
  | tup q r => exact ⟨_, _, rfl, q, SqT.of (e _ _ q), r⟩
theorem View.scr {v : V} {ns : List Int} (e : Same F H) (h : View K F H v (.scr ns)) : ∃ a, v = .ref a ∧ SqL K H a (ns.map V.int) := by
  cases (show RepD K F v (.scr ns) from h) with
  | scr q => exact ⟨_, rfl, e.seq q⟩
theorem View.lst {v : V} {ds : List D} (h : View K F H v (.lst ds)) : ∃ a vs, v = .ref a ∧ Rd H a (.lst vs) ∧ RepDs K F vs ds := h
/-- what comes of an operation: data that is no object, or a new object -/
theorem RepW.ofInt {F' H' : Hp} (i : Int) : RepW K F' H' (.int i) (.v (.int i)) (fun _ => False) := ⟨fun _ h => h, .int i⟩
theorem RepW.ofBl {F' H' : Hp} (b : Bool) : RepW K F' H' (.bl b) (.v (.bl b)) (fun _ => False) := ⟨fun _ h => h, .bl b⟩
theorem RepW.ofStr {F' H' : Hp} (x : Str) : RepW K F' H' (.str x) (.v (.str x)) (fun _ => False) := ⟨fun _ h => h, .str x⟩
theorem RepW.ofNon {F' H' : Hp} : RepW K F' H' .non (.v .non) (fun _ => False) := ⟨fun _ h => h, .non⟩
theorem RepW.ofRep {F' H' : Hp} {v : V} {d : D} (h : RepD K F' v d) : RepW K F' H' v (.v d) (fun _ => False) := ⟨fun _ h => h, h⟩
variable {Q : VK}
theorem fin_int {i : Int} (e : Same F H) (q : ∀ v F' H' p, Grow F H F' H' p → RepW K F' H' v (.v (.int i)) p → Q v H') : Q (.int i) H := q _ _ _ _ (Grow.refl e) (RepW.ofInt i)
theorem fin_bl {i : Bool} (e : Same F H) (q : ∀ v F' H' p, Grow F H F' H' p → RepW K F' H' v (.v (.bl i)) p → Q v H') : Q (.bl i) H := q _ _ _ _ (Grow.refl e) (RepW.ofBl i)
theorem fin_str {i : Str} (e : Same F H) (q : ∀ v F' H' p, Grow F H F' H' p → RepW K F' H' v (.v (.str i)) p → Q v H') : Q (.str i) H := q _ _ _ _ (Grow.refl e) (RepW.ofStr i)
theorem fin_rep {v : V} {d : D} (e : Same F H) (r : RepD K F v d) (q : ∀ v F' H' p, Grow F H F' H' p → RepW K F' H' v (.v d) p → Q v H') : Q v H := q _ _ _ _ (Grow.refl e) (RepW.ofRep r)
theorem same_upd {q : Addr} {o : HO} (hq : F q = none) : Same F (upd F q o) := fun a u h => by
  rw [upd_ne (ne_of_none h hq)]; exact h
theorem sub_none (e : Same F H) {q : Addr} (hq : H q = none) : F q = none := e.free hq
theorem fin_tup {vs : List V} {ds : List D} (e : Same F H) (r : RepDs K F vs ds) (q : ∀ v F' H' p, Grow F H F' H' p → RepW K F' H' v (.v (.tup ds)) p → Q v H') : ∀ p, H p = none → Q (.ref p) (upd H p (.tup vs)) := fun p hp =>
  q _ _ _ _ (Grow.data e hp) (RepW.ofRep (.tup upd_same (r.mono (same_upd (sub_none e hp)))))
theorem fin_lst {vs : List V} {ds : List D} (e : Same F H) (r : RepDs K F vs ds) (q : ∀ v F' H' p, Grow F H F' H' p → RepW K F' H' v (.l false ds) p → Q v H') : ∀ p, H p = none → Q (.ref p) (upd H p (.lst vs)) := fun p hp =>
  q _ _ _ _ (Grow.ofOwn e hp) ⟨p, vs, rfl, fun _ => Iff.rfl, upd_same, sub_none e hp, r⟩
end

/-! ### arithmetic -/
def gAdd : List D → Option W
  | [.int i, .int j] => some (.v (.int (i + j)))
  | [.str x, .str y] => if x.length + y.length ≤ 1000000 then some (.v (.str (x ++ y))) else none
  | [.tup xs, .tup ys] => if xs.length + ys.length ≤ 1000000 then some (.v (.tup (xs ++ ys))) else none
  | [.lst xs, .lst ys] => if xs.length + ys.length ≤ 1000000 then some (.l false (xs ++ ys)) else none
  | _ => none
def gSub : List D → Option W
  | [.int i, .int j] => some (.v (.int (i - j)))
  | _ => none
def gMul : List D → Option W
  | [.int i, .int j] => if i.natAbs < 2 ^ 64 ∨ j.natAbs < 2 ^ 64 then some (.v (.int (i * j))) else none
  | [.lst xs, .int k] => if 0 ≤ k ∧ k ≤ 1000 ∧ xs.length ≤ 1000 then some (.l false (List.replicate k.toNat xs).flatten) else none
  | [.tup xs, .int k] => if 1 ≤ k ∧ k ≤ 1000 ∧ xs.length ≤ 1000 ∧ xs ≠ [] then some (.v (.tup (List.replicate k.toNat xs).flatten)) else none
  | _ => none
def gDiv : List D → Option W
  | [.int i, .int j] => if 0 < j ∧ j < 1073741824 then some (.v (.int (i / j))) else none
  | _ => none
def gMod : List D → Option W
  | [.int i, .int j] => if 0 < j then some (.v (.int (i % j))) else none
  | _ => none
def gPow : List D → Option W
  | [.int i, .int j] => if 0 ≤ j ∧ j ≤ 1000 ∧ i.natAbs < 2 ^ 64 then some (.v (.int (i ^ j.toNat))) else none
  | _ => none
def gNeg : List D → Option W
  | [.int i] => some (.v (.int (-i)))
  | _ => none

/-- list + list, of what may be read -/
def rCatR : R2 := fun x y H Q => ∃ l b xs zs, x = .ref l ∧ y = .ref b ∧ Rd H l (.lst xs) ∧ Rd H b (.lst zs) ∧ xs.length + zs.length ≤ sizeLine ∧ ∀ p, H p = none → Q (.ref p) (upd H p (.lst (xs ++ zs)))
section
variable {X : Cx}
theorem op_catR : OpR X (binaryOp .Add) rCatR := by
  intro pins s σ H x y v u Q I rx ry h
  obtain ⟨l, b, xs, zs, rfl, rfl, hH, hB, hz, q⟩ := h
  cases rx
  cases ry
  obtain ⟨z, its, n, r, e⟩ := hH.ok I.hok
  obtain ⟨z2, its2, n2, r2, e2⟩ := hB.ok I.hok
  have hl := r.length
  have hl2 := r2.length
  refine PySem.P.add_list e e2 ?_ (by rw [List.size_toArray, List.size_toArray]; omega)
  have ea : its.toArray ++ its2.toArray = (its ++ its2).toArray := by simp
  rw [ea]
  exact ⟨.ref _, _, I.lnew (t' := s.toks) (r.append r2) (by rw [List.length_append]; omega), rfl, q _ I.fresh⟩
def rAddA (K : PySem.W.Frag) : R2 := fun x y H Q => (rI0 fun i j => .int (i + j)) x y H Q ∨ (fun x y H Q => (fun x y H Q => ∃ i j, x = .str i ∧ y = .str j ∧ i.length + j.length ≤ sizeLine ∧ Q (.str (i ++ j)) H) x y H Q ∨ (fun x y H Q => rCatA K x y H Q ∨ rCatR x y H Q) x y H Q) x y H Q
theorem op_addA : OpR X (binaryOp .Add) (rAddA X.K) := op_add.or (op_add_str.or (op_catA.or op_catR))
end
theorem cd_add {K : PySem.W.Frag} : CaD K (r2 (rAddA K)) gAdd := by
  intro F H vs ds w Q e vw hg q
  unfold gAdd at hg
  split at hg
  · rename_i i j
    obtain ⟨x, y, rfl, hx, hy⟩ := vw.two
    cases hg
    exact ⟨x, y, rfl, .inl ⟨i, j, hx.int, hy.int, fin_int e q⟩⟩
  · rename_i i j
    obtain ⟨x, y, rfl, hx, hy⟩ := vw.two
    split at hg
    · rename_i hl
      cases hg
      exact ⟨x, y, rfl, .inr (.inl ⟨i, j, hx.str, hy.str, sz hl, fin_str e q⟩)⟩
    · cases hg
  · rename_i xs ys
    obtain ⟨x, y, rfl, hx, hy⟩ := vw.two
    split at hg
    · rename_i hl
      cases hg
      obtain ⟨a, vs, rfl, f1, h1, r1⟩ := hx.tup e
      obtain ⟨b, us, rfl, f2, h2, r2⟩ := hy.tup e
      have el1 := r1.length
      have el2 := r2.length
      refine ⟨_, _, rfl, .inr (.inr (.inl ⟨a, b, vs, us, rfl, rfl, h1, h2, by rw [el1, el2]; exact sz hl, fun z => ?_, fun z1 z2 => ?_, fun _ _ => fin_tup e (r1.append r2) q⟩))⟩
      · subst z
        cases r1
        exact fin_rep e (.tup f2 r2) q
      · subst z2
        cases r2
        rw [List.append_nil] at q
        exact fin_rep e (.tup f1 r1) q
    · cases hg
  · rename_i xs ys
    obtain ⟨x, y, rfl, hx, hy⟩ := vw.two
    split at hg
    · rename_i hl
      cases hg
      obtain ⟨a, vs, rfl, h1, r1⟩ := hx.lst
      obtain ⟨b, us, rfl, h2, r2⟩ := hy.lst
      refine ⟨_, _, rfl, .inr (.inr (.inr ⟨a, b, vs, us, rfl, rfl, h1, h2, by rw [r1.length, r2.length]; exact sz hl, fin_lst e (r1.append r2) q⟩))⟩
    · cases hg
  · cases hg
theorem cd_sub {K : PySem.W.Frag} : CaD K (r2 (rI0 fun i j => .int (i - j))) gSub := by
  intro F H vs ds w Q e vw hg q
  unfold gSub at hg
  split at hg
  · rename_i i j
    obtain ⟨x, y, rfl, hx, hy⟩ := vw.two
    cases hg
    exact ⟨x, y, rfl, i, j, hx.int, hy.int, fin_int e q⟩
  · cases hg
theorem cd_div {K : PySem.W.Frag} : CaD K (r2 (rI CDiv fun i j => .int (i / j))) gDiv := by
  intro F H vs ds w Q e vw hg q
  unfold gDiv at hg
  split at hg
  · rename_i i j
    obtain ⟨x, y, rfl, hx, hy⟩ := vw.two
    split at hg
    · rename_i hc
      cases hg
      exact ⟨x, y, rfl, i, j, hx.int, hy.int, hc, fin_int e q⟩
    · cases hg
  · cases hg
theorem cd_mod {K : PySem.W.Frag} : CaD K (r2 (rI (fun _ j => 0 < j) fun i j => .int (i % j))) gMod := by
  intro F H vs ds w Q e vw hg q
  unfold gMod at hg
  split at hg
  · rename_i i j
    obtain ⟨x, y, rfl, hx, hy⟩ := vw.two
    split at hg
    · rename_i hc
      cases hg
      exact ⟨x, y, rfl, i, j, hx.int, hy.int, hc, fin_int e q⟩
    · cases hg
  · cases hg
theorem cd_pow {K : PySem.W.Frag} : CaD K (r2 (rI CPow fun i j => .int (i ^ j.toNat))) gPow := by
  intro F H vs ds w Q e vw hg q
  unfold gPow at hg
  split at hg
  · rename_i i j
    obtain ⟨x, y, rfl, hx, hy⟩ := vw.two
    split at hg
    · rename_i hc
      cases hg
      exact ⟨x, y, rfl, i, j, hx.int, hy.int, ⟨hc.1, by omega, hc.2.2⟩, fin_int e q⟩
    · cases hg
  · cases hg
theorem cd_neg {K : PySem.W.Frag} : CaD K (r1 (rU fun i => .int (-i))) gNeg := by
  intro F H vs ds w Q e vw hg q
  unfold gNeg at hg
  split at hg
  · rename_i i
    obtain ⟨x, rfl, hx⟩ := vw.one
    cases hg
    exact ⟨x, rfl, i, hx.int, fin_int e q⟩
  · cases hg

/-! ### times -/
theorem RepDs.rep {K : PySem.W.Frag} {F : Hp} {vs : List V} {ds : List D} (r : RepDs K F vs ds) : ∀ n : Nat, RepDs K F (List.replicate n vs).flatten (List.replicate n ds).flatten
  | 0 => .nil
  | n + 1 => by
    rw [List.replicate_succ, List.flatten_cons, List.replicate_succ, List.flatten_cons]
    exact r.append (r.rep n)
/-! ### comparisons of ints -/
def gCmp (f : Int → Int → Bool) : List D → Option W
  | [.int i, .int j] => some (.v (.bl (f i j)))
  | _ => none
theorem cd_cmp {K : PySem.W.Frag} {f : Int → Int → Bool} : CaD K (r2 (rI0 fun i j => .bl (f i j))) (gCmp f) := by
  intro F H vs ds w Q e vw hg q
  unfold gCmp at hg
  split at hg
  · rename_i i j
    obtain ⟨x, y, rfl, hx, hy⟩ := vw.two
    cases hg
    exact ⟨x, y, rfl, i, j, hx.int, hy.int, fin_bl e q⟩
  · cases hg
abbrev gLt := gCmp fun i j => decide (i < j)
abbrev gLe := gCmp fun i j => decide (i ≤ j)
abbrev gGt := gCmp fun i j => decide (j < i)
abbrev gGe := gCmp fun i j => decide (j ≤ i)

/-! ### == and != of data -/
mutual
def toPy : D → PyData
  | .non => .none
  | .bl b => .bool b
  | .int i => .int i
  | .str x => .str x
  | .tup l => .tuple (toPys l)
  | .lst l => .list (toPys l)
  | .nam _ _ => .none
  | .ty _ => .none
  | .scr ns => .list (ns.map PyData.int)
  | .dic _ _ => .none
  | .dix _ _ _ => .none
  | .ins _ _ _ => .none
def toPys : List D → List PyData
  | [] => []
  | d :: ds => toPy d :: toPys ds
end
/-- data through and through, nested no deeper than n -/
def fine : Nat → D → Bool
  | 0, _ => false
  | n + 1, .tup l => l.all (fine n)
  | n + 1, .lst l => l.all (fine n)
  | _ + 1, .nam _ _ => false
  | _ + 1, .ty _ => false
  | _ + 1, .dic _ _ => false
  | _ + 1, .dix _ _ _ => false
  | _ + 1, .ins _ _ _ => false
  | n + 1, .scr _ => decide (1 ≤ n)
  | _ + 1, .str x => PyData.strOk x
  | _ + 1, _ => true
theorem toPys_map : ∀ l : List D, toPys l = l.map toPy
  | [] => rfl
  | d :: ds => by rw [toPys, toPys_map ds]; rfl
theorem canLayAll_of {l : List PyData} (h : ∀ d ∈ l, d.canLay0 = true) : PyData.canLayAll0 l = true := by
  induction l with
  | nil => rfl
  | cons a r ih =>
    rw [PyData.canLayAll0, h a List.mem_cons_self, ih fun d m => h d (List.mem_cons_of_mem _ m)]
    rfl
theorem depthAll_of {l : List PyData} {n : Nat} (h : ∀ d ∈ l, d.depth ≤ n) : PyData.depthAll l ≤ n := by
  induction l with
  | nil => exact Nat.zero_le _
  | cons a r ih =>
    rw [PyData.depthAll]
    exact Nat.max_le.mpr ⟨h a List.mem_cons_self, ih fun d m => h d (List.mem_cons_of_mem _ m)⟩
theorem fine_lay : ∀ (n : Nat) (d : D), fine n d = true → (toPy d).canLay0 = true ∧ (toPy d).depth ≤ n
  | 0, _, h => by cases h
  | n + 1, .non, _ => ⟨rfl, by simp [toPy, PyData.depth]⟩
  | n + 1, .bl b, _ => ⟨rfl, by simp [toPy, PyData.depth]⟩
  | n + 1, .int i, _ => ⟨rfl, by simp [toPy, PyData.depth]⟩
  | n + 1, .str x, h => ⟨h, by simp [toPy, PyData.depth]⟩
  | n + 1, .nam _ _, h => by cases h
  | n + 1, .ty x, h => by cases h
  | n + 1, .dic _ _, h => by cases h
  | n + 1, .dix _ _ _, h => by cases h
  | n + 1, .ins _ _ _, h => by cases h
  | 1, .scr ns, h => by cases h
  | n + 2, .scr ns, h => by
    rw [toPy]
    refine ⟨canLayAll_of fun d m => ?_, ?_⟩
    · obtain ⟨x, _, rfl⟩ := List.mem_map.mp m; rfl
    · rw [PyData.depth]
      have := depthAll_of (l := ns.map PyData.int) (n := 1) fun d m => by
        obtain ⟨x, _, rfl⟩ := List.mem_map.mp m; simp [PyData.depth]
      omega
  | n + 1, .tup l, h => by
    have h : l.all (fine n) = true := h
    rw [List.all_eq_true] at h
    rw [toPy, toPys_map]
    have key : ∀ d ∈ l.map toPy, d.canLay0 = true ∧ d.depth ≤ n := fun d m => by
      obtain ⟨x, hx, rfl⟩ := List.mem_map.mp m
      exact fine_lay n x (h x hx)
    exact ⟨canLayAll_of fun d m => (key d m).1, by rw [PyData.depth]; have := depthAll_of fun d m => (key d m).2; omega⟩
  | n + 1, .lst l, h => by
    have h : l.all (fine n) = true := h
    rw [List.all_eq_true] at h
    rw [toPy, toPys_map]
    have key : ∀ d ∈ l.map toPy, d.canLay0 = true ∧ d.depth ≤ n := fun d m => by
      obtain ⟨x, hx, rfl⟩ := List.mem_map.mp m
      exact fine_lay n x (h x hx)
    exact ⟨canLayAll_of fun d m => (key d m).1, by rw [PyData.depth]; have := depthAll_of fun d m => (key d m).2; omega⟩
theorem fine_shaped {d : D} (h : fine 60 d = true) : SeqAt.shaped (toPy d) = true := by
  obtain ⟨h1, h2⟩ := fine_lay 60 d h
  unfold SeqAt.shaped
  rw [h1, decide_eq_true (show (toPy d).depth ≤ 64 by omega)]
  rfl
theorem dp_ints {K : PySem.W.Frag} {H : Hp} : ∀ ns : List Int, DpAll K H (ns.map V.int) (ns.map PyData.int)
  | [] => .nil
  | n :: r => .cons (.int n) (dp_ints r)
mutual
theorem RepD.dp {K : PySem.W.Frag} {F H : Hp} (e : Same F H) : ∀ {n : Nat} {v : V} {d : D}, RepD K F v d → fine n d = true → Dp K H v (toPy d)
  | _, _, _, .non, _ => .non
  | _, _, _, .bl b, _ => .bl b
  | _, _, _, .int i, _ => .int i
  | _, _, _, .str x, _ => .str x
  | 0, _, _, .ty n, h => by cases h
  | 0, _, _, .dic _ _ _, h => by cases h
  | n + 1, _, _, .dic _ _ _, h => by cases h
  | 0, _, _, .dix _ _ _ _, h => by cases h
  | n + 1, _, _, .dix _ _ _ _, h => by cases h
  | 0, _, _, .ins _ _ _ _, h => by cases h
  | n + 1, _, _, .ins _ _ _ _, h => by cases h
  | n + 1, _, _, .ty _, h => by cases h
  | 0, _, _, .glob _, h => by cases h
  | n + 1, _, _, .glob _, h => by cases h
  | 0, _, _, .exn _ _, h => by cases h
  | n + 1, _, _, .exn _ _, h => by cases h
  | _, _, _, .scr q, _ => .lst (e.seq q) (dp_ints _)
  | 0, _, _, .tup q r, h => by cases h
  | 0, _, _, .lst q r, h => by cases h
  | n + 1, _, _, .tup q r, h => .tup (SqT.of (e _ _ q)) (RepDs.dp e r (by have h : List.all _ (fine n) = true := h; rw [List.all_eq_true] at h; exact h))
  | n + 1, _, _, .lst q r, h => .lst (.inl (sameL e q)) (RepDs.dp e r (by have h : List.all _ (fine n) = true := h; rw [List.all_eq_true] at h; exact h))
theorem RepDs.dp {K : PySem.W.Frag} {F H : Hp} (e : Same F H) : ∀ {n : Nat} {vs : List V} {ds : List D}, RepDs K F vs ds → (∀ d ∈ ds, fine n d = true) → DpAll K H vs (toPys ds)
  | _, _, _, .nil, _ => .nil
  | _, _, _, .cons h r, a => .cons (RepD.dp e h (a _ List.mem_cons_self)) (RepDs.dp e r fun d m => a d (List.mem_cons_of_mem _ m))
end
theorem View.dp {K : PySem.W.Frag} {F H : Hp} {n : Nat} {v : V} {d : D} (e : Same F H) (h : View K F H v d) (hf : fine n d = true) : Dp K H v (toPy d) := by
  cases d with
  | lst ds =>
    obtain ⟨a, vs, rfl, q, r⟩ := h
    cases n with
    | zero => cases hf
    | succ n =>
      exact .lst (.inl q) (RepDs.dp e r (by have hf : ds.all (fine n) = true := hf; rw [List.all_eq_true] at hf; exact hf))
  | dic ks ds => cases n <;> cases hf
  | dix k ks ds => cases n <;> cases hf
  | _ => exact RepD.dp e h hf
def deq (a b : D) : Bool := PyData.eqv (toPy a) (toPy b)
def gEq : List D → Option W
  | [a, b] => if fine 60 a && fine 60 b then some (.v (.bl (deq a b))) else none
  | _ => none
def gNe : List D → Option W
  | [a, b] => if fine 60 a && fine 60 b then some (.v (.bl (!deq a b))) else none
  | _ => none
theorem cd_eq {K : PySem.W.Frag} : CaD K (r2 (rEqD K)) gEq := by
  intro F H vs ds w Q e vw hg q
  unfold gEq at hg
  split at hg
  · rename_i a b
    obtain ⟨x, y, rfl, hx, hy⟩ := vw.two
    split at hg
    · rename_i hf
      cases hg
      obtain ⟨h1, h2⟩ := Bool.and_eq_true_iff.mp hf
      exact ⟨x, y, rfl, toPy a, toPy b, hx.dp e h1, hy.dp e h2, fine_shaped h1, fine_shaped h2, fin_bl e q⟩
    · cases hg
  · cases hg
theorem cd_ne {K : PySem.W.Frag} : CaD K (r2 (rNeD K)) gNe := by
  intro F H vs ds w Q e vw hg q
  unfold gNe at hg
  split at hg
  · rename_i a b
    obtain ⟨x, y, rfl, hx, hy⟩ := vw.two
    split at hg
    · rename_i hf
      cases hg
      obtain ⟨h1, h2⟩ := Bool.and_eq_true_iff.mp hf
      exact ⟨x, y, rfl, toPy a, toPy b, hx.dp e h1, hy.dp e h2, fine_shaped h1, fine_shaped h2, fin_bl e q⟩
    · cases hg
  · cases hg
end DL

namespace DL
open PySem PySem.Spec PyProof.Rows L2

/-! ### times -/
section
variable {X : Cx}
/-- list * int, of what may be read -/
def rRepR : R2 := fun x y H Q => ∃ l k xs, x = .ref l ∧ y = .int k ∧ Rd H l (.lst xs) ∧ -(2 ^ 63) ≤ k ∧ k < 2 ^ 63 ∧ xs.length * k.toNat ≤ sizeLine ∧
  ∀ p, H p = none → Q (.ref p) (upd H p (.lst (List.replicate k.toNat xs).flatten))
theorem op_repR : OpR X (binaryOp .Mult) rRepR := by
  intro pins s σ H x y v u Q I rx ry h
  obtain ⟨l, k, xs, rfl, rfl, hH, h1, h2, hz, q⟩ := h
  cases rx
  obtain ⟨t, rfl⟩ := ry
  obtain ⟨z, its, n, r, e⟩ := hH.ok I.hok
  have hl := r.length
  have hlen : its.toArray.size * k.toNat ≤ sizeLine := by rw [List.size_toArray, ← hl]; exact hz
  have hcap : ¬ its.toArray.size * k.toNat > (2 ^ 63 - 1) / 8 := by
    have : (sizeLine : Nat) ≤ (2 ^ 63 - 1) / 8 := by decide
    omega
  have hfit : ¬ (!Builtin.List.listFitsIndex k) = true := by
    rw [fitsIndex_both h1 h2]
    exact Bool.false_ne_true
  have hlong : ¬ Builtin.List.listTooLong (its.toArray.size * k.toNat) = true := by
    rw [notLongL hlen]
    exact Bool.false_ne_true
  have hnew : List.foldl (fun x1 x2 => x1 ++ x2) #[] (List.replicate (if its.toArray.isEmpty = true then 0 else k.toNat) its.toArray) = (List.replicate k.toNat its).flatten.toArray := by
    have f0 : ∀ m : Nat, List.foldl (fun x1 x2 => x1 ++ x2) #[] (List.replicate m its.toArray) = (List.replicate m its).flatten.toArray := fun m => by
      have := foldl_rep its m []
      rw [List.nil_append] at this
      exact this
    rw [f0]
    cases its with
    | nil => simp
    | cons a r' => rw [if_neg (by simp)]
  refine wpAny_binaryOp_repeat_ref (T := "list") (U := "int") (by decide) ⟨_, e, rfl⟩ (fun s' => typeIs_int s' k t) noFill_list_mul F.fills_int_mul F.slot_int_rmul repeat_list F.slot_int_index.lookup
    (call_meets F.slot_int_rmul (typeIs_int s k t) F.entry_int_rmul (F.args_int_rmul_2 _ _) (int___rmul___int_list k t l its.toArray n)
      ⟨e, rfl, ⟨_, e, rfl⟩, call_meets F.slot_list_mul ⟨_, e, rfl⟩ F.entry_list_mul (F.args_list_mul_2 _ _) (AutoListH.list___mul___list_int_3 l its.toArray n k t hfit hcap hlong) ⟨e, ?_⟩⟩)
  rw [hnew]
  exact ⟨.ref _, _, I.lnew (t' := s.toks) (r.rep k.toNat) (by rw [PyProof.Rows.lm_len_rep_flat, Nat.mul_comm]; exact hz), rfl, q _ I.fresh⟩
/-- tuple * 1 is the tuple itself -/
theorem tuple_mul1 (l : Addr) (items : Array Value) (n : Nat) (dd : Option Addr) (sl : Array (Option Value)) (u : Tok) :
    Meets (Builtin.«tuple.__mul__» ⟨[.ref l, .int 1 u], []⟩) (fun _ R s => s.heap.get? l = some { cls := .type "tuple", dict := dd, data := .seq items n, slots := sl } ∧ R (.ok (.ret (Value.ref l))) s) :=
  .of_wp fun prog w A R s h => by
    obtain ⟨hp, g, d, tk, os⟩ := s
    obtain ⟨hl, h⟩ := h
    have f1 := AutoSeq1.idx_int
    wp_walk using wpAny_loadPart' hl
    repeat (first
      | (refine wpAny_ite_false (by decide) ?_; wp_walk using wpAny_loadPart' hl)
      | (refine wpAny_ite_true (decide_eq_true (by simp)) ?_; wp_walk using wpAny_loadPart' hl))
    exact ⟨_, rfl, h⟩
def rRepT1 (K : PySem.W.Frag) : R2 := fun x y H Q => ∃ l xs, x = .ref l ∧ y = .int 1 ∧ SqT K H l xs ∧ Q (.ref l) H
theorem op_repT1 : OpR X (binaryOp .Mult) (rRepT1 X.K) := by
  intro pins s σ H x y v u Q I rx ry h
  obtain ⟨l, xs, rfl, rfl, hT, q⟩ := h
  cases rx
  obtain ⟨t, rfl⟩ := ry
  obtain ⟨its, r, ⟨⟨cls, dd, data, sl⟩, ho, hc, n, hd⟩, hs⟩ := I.tuple hT
  simp only at hc hd
  subst hc hd
  refine wpAny_binaryOp_repeat_ref (T := "tuple") (U := "int") (by decide) ⟨_, ho, rfl⟩ (fun s' => typeIs_int s' 1 t) noFill_tuple_mul F.fills_int_mul F.slot_int_rmul repeat_tuple F.slot_int_index.lookup
    (call_meets F.slot_int_rmul (typeIs_int s 1 t) F.entry_int_rmul (F.args_int_rmul_2 _ _) (int_rmul_tuple 1 t l its.toArray n dd sl)
      ⟨ho, rfl, ⟨_, ho, rfl⟩, call_meets F.slot_tuple_mul ⟨_, ho, rfl⟩ F.entry_tuple_mul (F.args_tuple_mul_2 _ _) (tuple_mul1 l its.toArray n dd sl t) ⟨ho, ?_⟩⟩)
  exact ⟨.ref l, H, I, rfl, q⟩
def rMulA (K : PySem.W.Frag) : R2 := fun x y H Q => (rI CMul fun i j => .int (i * j)) x y H Q ∨ (fun x y H Q => rRepR x y H Q ∨ (fun x y H Q => rRepT K x y H Q ∨ rRepT1 K x y H Q) x y H Q) x y H Q
theorem op_mulA : OpR X (binaryOp .Mult) (rMulA X.K) := op_mul.or (op_repR.or (op_repT.or op_repT1))
end
theorem cd_mul {K : PySem.W.Frag} : CaD K (r2 (rMulA K)) gMul := by
  intro F H vs ds w Q e vw hg q
  unfold gMul at hg
  split at hg
  · rename_i i j
    obtain ⟨x, y, rfl, hx, hy⟩ := vw.two
    split at hg
    · rename_i hc
      cases hg
      refine ⟨x, y, rfl, .inl ⟨i, j, hx.int, hy.int, ?_, fin_int e q⟩⟩
      rcases hc with h | h
      · exact .inl ⟨by omega, by omega⟩
      · exact .inr ⟨by omega, by omega⟩
    · cases hg
  · rename_i xs k
    obtain ⟨x, y, rfl, hx, hy⟩ := vw.two
    split at hg
    · rename_i hc
      cases hg
      obtain ⟨a, vs, rfl, h1, r1⟩ := hx.lst
      obtain rfl := hy.int
      have el := r1.length
      by_cases hk : -(2 ^ 63) ≤ k
      · refine ⟨_, _, rfl, .inr (.inl ⟨a, k, vs, rfl, rfl, h1, hk, by omega, ?_, fin_lst e (r1.rep _) q⟩)⟩
        have : vs.length * k.toNat ≤ 1000 * 1000 := Nat.mul_le_mul (by omega) (by omega)
        exact sz (by omega)
      · exfalso
        omega
    · cases hg
  · rename_i xs k
    obtain ⟨x, y, rfl, hx, hy⟩ := vw.two
    split at hg
    · rename_i hc
      cases hg
      obtain ⟨a, vs, rfl, f1, h1, r1⟩ := hx.tup e
      obtain rfl := hy.int
      have el := r1.length
      by_cases hk : k = 1
      · subst hk
        refine ⟨_, _, rfl, .inr (.inr (.inr ⟨a, vs, rfl, rfl, h1, ?_⟩))⟩
        have e1 : (List.replicate (1 : Int).toNat xs).flatten = xs := by
          show (List.replicate 1 xs).flatten = xs
          simp
        rw [e1] at q
        exact fin_rep e (.tup f1 r1) q
      · refine ⟨_, _, rfl, .inr (.inr (.inl ⟨a, k, vs, rfl, rfl, h1, fun z => ?_, by omega, by omega, by omega, fin_tup e (r1.rep _) q⟩))⟩
        subst z
        cases r1
        exact hc.2.2.2 rfl
    · cases hg
  · cases hg

/-! ### items -/
def gIx : List D → Option W
  | [.lst ds, .int i] => (atI ds i).map .v
  | [.tup ds, .int i] => (atI ds i).map .v
  | [.scr ns, .int i] => (atI ns i).map fun n => .v (.int n)
  | [.str x, .int i] => if x.length ≤ 1000000 then (atI x.cps.toList i).map fun c => .v (.str ⟨#[c]⟩) else none
  | _ => none
theorem atI_rep {K : PySem.W.Frag} {F : Hp} {vs : List V} {ds : List D} {i : Int} {d : D} (r : RepDs K F vs ds) (h : atI ds i = some d) : ∃ v, atI vs i = some v ∧ RepD K F v d := by
  unfold atI at h ⊢
  rw [r.length]
  cases e : ixN ds.length i with
  | none => rw [e] at h; cases h
  | some j =>
    rw [e] at h
    exact r.get h
theorem cd_ix {K : PySem.W.Frag} : CaD K (r2 (rIx K)) gIx := by
  intro F H vs ds w Q e vw hg q
  unfold gIx at hg
  split at hg
  · rename_i xs i
    obtain ⟨x, y, rfl, hx, hy⟩ := vw.two
    obtain ⟨d, h1, rfl⟩ := Option.map_eq_some_iff.mp hg
    obtain ⟨a, us, rfl, h2, r⟩ := hx.lst
    obtain ⟨v, h3, r3⟩ := atI_rep r h1
    exact ⟨_, _, rfl, .inl ⟨a, us, i, v, rfl, hy.int, .inl h2, h3, fin_rep e r3 q⟩⟩
  · rename_i xs i
    obtain ⟨x, y, rfl, hx, hy⟩ := vw.two
    obtain ⟨d, h1, rfl⟩ := Option.map_eq_some_iff.mp hg
    obtain ⟨a, us, rfl, _, h2, r⟩ := hx.tup e
    obtain ⟨v, h3, r3⟩ := atI_rep r h1
    exact ⟨_, _, rfl, .inr (.inl ⟨a, us, i, v, rfl, hy.int, h2, h3, fin_rep e r3 q⟩)⟩
  · rename_i ns i
    obtain ⟨x, y, rfl, hx, hy⟩ := vw.two
    obtain ⟨n, h1, rfl⟩ := Option.map_eq_some_iff.mp hg
    obtain ⟨a, rfl, h2⟩ := hx.scr e
    refine ⟨_, _, rfl, .inl ⟨a, _, i, .int n, rfl, hy.int, h2, ?_, fin_int e q⟩⟩
    unfold atI at h1 ⊢
    rw [List.length_map]
    cases e1 : ixN ns.length i with
    | none => rw [e1] at h1; cases h1
    | some j =>
      rw [e1] at h1
      have h1 : ns[j]? = some n := h1
      show (ns.map V.int)[j]? = some (.int n)
      rw [List.getElem?_map, h1]; rfl
  · rename_i z i
    obtain ⟨x, y, rfl, hx, hy⟩ := vw.two
    split at hg
    · rename_i hl
      obtain ⟨c, h1, rfl⟩ := Option.map_eq_some_iff.mp hg
      exact ⟨_, _, rfl, .inr (.inr ⟨z, i, c, hx.str, hy.int, sz hl, h1, fin_str e q⟩)⟩
    · cases hg
  · cases hg

/-! ### slices -/
def cutA {α : Type} (xs : List α) (lo hi : Option Int) : List α := (xs.drop (HT.sIx xs.length 0 lo)).take (HT.sIx xs.length xs.length hi - HT.sIx xs.length 0 lo)
theorem RepDs.cut {K : PySem.W.Frag} {F : Hp} {vs : List V} {ds : List D} (r : RepDs K F vs ds) (lo hi : Option Int) : RepDs K F (cutV vs lo hi) (cutA ds lo hi) := by
  unfold cutV cutA
  rw [r.length]
  exact (r.drop _).take _
def rSlAll (K : PySem.W.Frag) : V → Option Int → Option Int → Hp → VK → Prop := fun x lo hi H Q => rSlL K x lo hi H Q ∨ rSlA K x lo hi H Q
theorem sl_all {X : Cx} : SlR X (rSlAll X.K) := sl_list.or sl_tupA
def gSl (lo hi : Option Int) : D → Option W
  | .lst ds => some (.l false (cutA ds lo hi))
  | .tup ds => some (.v (.tup (cutA ds lo hi)))
  | _ => none
theorem sl_sem {K : PySem.W.Frag} {F H : Hp} {x : V} {d : D} {lo hi : Option Int} {w : W} {Q : VK} (e : Same F H) (hx : View K F H x d) (hg : gSl lo hi d = some w) (q : ∀ v F' H' p, Grow F H F' H' p → RepW K F' H' v w p → Q v H') : rSlAll K x lo hi H Q := by
  cases d with
  | lst ds =>
    cases hg
    obtain ⟨a, us, rfl, h2, r⟩ := hx.lst
    exact .inl ⟨a, us, rfl, .inl h2, fin_lst e (r.cut lo hi) q⟩
  | tup ds =>
    cases hg
    obtain ⟨a, us, rfl, f1, h2, r⟩ := hx.tup e
    refine .inr ⟨a, us, rfl, h2, fun z => ?_, fun _ => fin_tup e (r.cut lo hi) q⟩
    have e1 : cutA ds lo hi = ds := by
      unfold cutA
      rw [r.length] at z
      rw [z.1, z.2]
      simp
    rw [e1] at q
    exact fin_rep e (.tup f1 r) q
  | _ => cases hg
def gSlB : List D → Option W
  | [d, .int i, .int j] => gSl (some i) (some j) d
  | _ => none
def gSlL : List D → Option W
  | [d, .int i] => gSl (some i) none d
  | _ => none
def gSlH : List D → Option W
  | [d, .int i] => gSl none (some i) d
  | _ => none
section
variable {X : Cx} {Wx : WX} {a lo hi : Expr} {fa fl fh : M U} {pos p2 : Pos}
def rB (K : PySem.W.Frag) : List V → Hp → VK → Prop := fun vs H Q => ∃ x i j, vs = [x, .int i, .int j] ∧ rSlAll K x (some i) (some j) H Q
def rL (K : PySem.W.Frag) : List V → Hp → VK → Prop := fun vs H Q => ∃ x i, vs = [x, .int i] ∧ rSlAll K x (some i) none H Q
def rH (K : PySem.W.Frag) : List V → Hp → VK → Prop := fun vs H Q => ∃ x i, vs = [x, .int i] ∧ rSlAll K x none (some i) H Q
theorem cd_slB {K : PySem.W.Frag} : CaD K (rB K) gSlB := by
  intro F H vs ds w Q e vw hg q
  unfold gSlB at hg
  split at hg
  · rename_i d i j
    cases vw with
    | cons h1 h2 =>
      obtain ⟨x, y, rfl, hx, hy⟩ := h2.two
      obtain rfl := hx.int
      obtain rfl := hy.int
      exact ⟨_, i, j, rfl, sl_sem e h1 hg q⟩
  · cases hg
theorem cd_slL {K : PySem.W.Frag} : CaD K (rL K) gSlL := by
  intro F H vs ds w Q e vw hg q
  unfold gSlL at hg
  split at hg
  · rename_i d i
    obtain ⟨x, y, rfl, hx, hy⟩ := vw.two
    obtain rfl := hy.int
    exact ⟨_, i, rfl, sl_sem e hx hg q⟩
  · cases hg
theorem cd_slH {K : PySem.W.Frag} : CaD K (rH K) gSlH := by
  intro F H vs ds w Q e vw hg q
  unfold gSlH at hg
  split at hg
  · rename_i d i
    obtain ⟨x, y, rfl, hx, hy⟩ := vw.two
    obtain rfl := hy.int
    exact ⟨_, i, rfl, sl_sem e hx hg q⟩
  · cases hg
theorem e_slL (ha : EvS X Wx a fa) (hl : EvS X Wx lo fl) : EvS X Wx (.Subscript a (.Slice (some lo) none none p2) pos) (opN gSlL [fa, fl]) :=
  PE.imp (pe_slice sl_all ha (po_some hl) po_none) fun σ H Q h => tOf_mono (aOf_2 (aOf_op cd_slL h)) fun _ _ q => tOf_mono q fun _ _ z => by
    obtain ⟨x, i, e, z⟩ := z
    cases e
    exact ⟨i, rfl, z⟩
theorem e_slH (ha : EvS X Wx a fa) (hl : EvS X Wx hi fh) : EvS X Wx (.Subscript a (.Slice none (some hi) none p2) pos) (opN gSlH [fa, fh]) :=
  PE.imp (pe_slice sl_all ha po_none (po_some hl)) fun σ H Q h => tOf_mono (aOf_2 (aOf_op cd_slH h)) fun _ _ q => tOf_mono q fun _ _ z => by
    obtain ⟨x, i, e, z⟩ := z
    cases e
    exact ⟨i, rfl, z⟩
def intOnly (f : M U) : M U := fun env => (f env).bind fun u e => match u with
  | .w (.v (.int _)) => .ok u e
  | _ => .stuck
theorem tOf_int {K : PySem.W.Frag} {mg : Str → Option Value} {f : M U} {σ : L2.St} {H : Hp} {Q : VK} (h : tOf K mg Wx (intOnly f) σ H Q) : tOf K mg Wx f σ H fun v H1 => ∃ i, v = .int i ∧ Q (.int i) H1 := by
  obtain ⟨F, env, own, S, h⟩ := h
  unfold intOnly at h
  refine tOf_use S (fun u env1 e1 v F1 H1 own1 p O1 => ?_) (fun c env1 e1 C F1 H1 own1 => ?_) (fun e1 => ?_)
  · rw [e1, R.bind_ok] at h
    split at h
    · rename_i r u' e' heq
      split at heq
      · rename_i i
        cases heq
        obtain ⟨_, hr⟩ := O1.r
        cases hr
        exact ⟨i, rfl, h _ _ _ _ _ O1⟩
      · cases heq
    · rename_i heq
      split at heq <;> cases heq
    · exact h.elim
  · rw [e1] at h
    exact h C F1 H1 own1
  · rw [e1] at h
    exact h
theorem e_slB (ha : EvS X Wx a fa) (hl : EvS X Wx lo fl) (hh : EvS X Wx hi fh) : EvS X Wx (.Subscript a (.Slice (some lo) (some hi) none p2) pos) (opN gSlB [fa, intOnly fl, fh]) :=
  PE.imp (pe_slice sl_all ha (po_some hl) (po_some hh)) fun σ H Q h => tOf_mono (aOf_cons (aOf_op cd_slB h)) fun _ _ q => tOf_mono (tOf_int (aOf_cons q)) fun v _ q => by
    obtain ⟨i, rfl, q⟩ := q
    refine ⟨i, rfl, tOf_mono (aOf_1 q) fun _ _ z => ?_⟩
    obtain ⟨x, i', j, e, z⟩ := z
    cases e
    exact ⟨j, rfl, z⟩
end

/-! ### names, constants -/
def eVar (i : Nat) : M U := fun env => match env[i]? with
  | some (some (.v d)) => .ok (.w (.v d)) env
  | some (some (.l _ _)) => .ok (.b i) env
  | some (some (.m _ _)) => .ok (.b i) env
  | some (some (.x _)) => .ok (.b i) env
  | _ => .stuck
def eD (d : D) : M U := fun env => .ok (.w (.v d)) env
section
variable {X : Cx} {Wx : WX} {pos : Pos}
theorem tOf_here {K : PySem.W.Frag} {mg : Str → Option Value} {F : Hp} {env : DEnv} {own : Nat → Fp} {σ : L2.St} {H : Hp} {w : W} {v : V} {Q : VK} {P : V → Hp → Prop} (S : Sit K F σ H env own) (r : RepW K F H v w (fun _ => False)) (h : ∀ v F' H' own' p, Out K F H own σ (.w w) v env F' H' own' p → Q v H') : Q v H :=
  h v F H own _ ⟨S, r, fun _ z => z.elim, Step.refl.sub fun _ z => z.elim id False.elim⟩
theorem e_var (i : Nat) {x : Str} (hN : X.N[i]? = some x := by rfl) (hv : Vis X.env.scope x := by first | exact Or.inl rfl | exact Or.inr (Or.inl rfl) | exact Or.inr (Or.inr rfl)) (hd : (x == ("__debug__" : Str)) = false := by decide)
    (hcd : (x == ("__classdict__" : Str)) = false := by decide) : EvS X Wx (.Name x pos) (eVar i) := PE.imp (pe_var hN hv hd hcd) fun σ H Q h => by
  obtain ⟨F, env, own, S, h⟩ := h
  unfold eVar at h
  split at h
  · rename_i u env' heq
    split at heq
    · rename_i d hw
      cases heq
      obtain ⟨v, hs, r⟩ := S.rep i _ hw
      exact ⟨v, hs, h v F H own (fun _ => False) ⟨S, ⟨fun _ z => z, r.2⟩, fun _ z => z.elim, Step.refl.sub fun _ z => z.elim id False.elim⟩⟩
    · rename_i b ds hw
      cases heq
      obtain ⟨v, hs, r⟩ := S.rep i _ hw
      exact ⟨v, hs, h v F H own (fun _ => False) ⟨S, ⟨fun _ z => z, hs⟩, fun _ z => z.elim, Step.refl.sub fun _ z => z.elim id False.elim⟩⟩
    · rename_i b ds hw
      cases heq
      obtain ⟨v, hs, r⟩ := S.rep i _ hw
      exact ⟨v, hs, h v F H own (fun _ => False) ⟨S, ⟨fun _ z => z, hs⟩, fun _ z => z.elim, Step.refl.sub fun _ z => z.elim id False.elim⟩⟩
    · rename_i b hw
      cases heq
      obtain ⟨v, hs, r⟩ := S.rep i _ hw
      exact ⟨v, hs, h v F H own (fun _ => False) ⟨S, ⟨fun _ z => z, hs⟩, fun _ z => z.elim, Step.refl.sub fun _ z => z.elim id False.elim⟩⟩
    · cases heq
  · rename_i heq
    split at heq <;> cases heq
  · exact h.elim
theorem e_const {e : Expr} {v : V} {d : D} (he : PE X e (tC v)) (r : ∀ F, RepD X.K F v d) : EvS X Wx e (eD d) := PE.imp he fun σ H Q h => by
  obtain ⟨F, env, own, S, h⟩ := h
  exact h v F H own (fun _ => False) ⟨S, ⟨fun _ z => z, r F⟩, fun _ z => z.elim, Step.refl.sub fun _ z => z.elim id False.elim⟩
theorem e_int {i : Int} {j : Nat} : EvS X Wx (.Constant (.int i) j pos) (eD (.int i)) := e_const pe_int fun _ => .int i
theorem e_bl {i : Bool} {j : Nat} : EvS X Wx (.Constant (.bool i) j pos) (eD (.bl i)) := e_const pe_bl fun _ => .bl i
theorem e_non {j : Nat} : EvS X Wx (.Constant .none j pos) (eD .non) := e_const pe_non fun _ => .non
theorem e_str {x : Str} {j : Nat} : EvS X Wx (.Constant (.str x) j pos) (eD (.str x)) := e_const pe_str fun _ => .str x
theorem e_glob {x : Str} {v : V} {d : D} {u : Value} (hg : Gl X x) (hm : X.mg x = some u) (r : RelV v u) (rd : ∀ F, RepD X.K F v d) (hd : (x == ("__debug__" : Str)) = false := by decide) : EvS X Wx (.Name x pos) (eD d) := e_const (pe_glob hg hm r hd) rd
theorem e_bltn {x : Str} {v : V} {d : D} {u : Value} (hg : Gl X x) (hm : X.mg x = none) (hv : bootBuiltins x = some u) (r : RelV v u) (rd : ∀ F, RepD X.K F v d) (hn : x ≠ "__name__" := by decide) (hd : (x == ("__debug__" : Str)) = false := by decide) : EvS X Wx (.Name x pos) (eD d) := e_const (pe_bltn hg hm hv r hn hd) rd
end
end DL

namespace DL
open PySem PySem.Spec PyProof.Rows L2

/-! ### for good -/
def frz1 (env : DEnv) : U → Option (D × DEnv)
  | .w w => if w.opq then none else some (datW w, env)
  | .b i => match env[i]? with
    | some (some (.v d)) => some (d, env)
    | some (some (.l false ds)) => some (.lst ds, env.set i (some (.v (.lst ds))))
    | some (some (.m ks ds)) => some (.dic ks ds, env.set i (some (.v (.dic ks ds))))
    | some (some (.x (.d k ks ds))) => some (.dix k ks ds, env.set i (some (.v (.dix k ks ds))))
    | _ => none
def frzs (env : DEnv) : List U → Option (List D × DEnv)
  | [] => some ([], env)
  | u :: us => match frz1 env u with
    | some (d, e1) => match frzs e1 us with
      | some (ds, e2) => some (d :: ds, e2)
      | none => none
    | none => none
section
variable {K : PySem.W.Frag} {F H F1 H1 : Hp} {σ : L2.St} {env env' : DEnv} {own own1 : Nat → Fp} {p : Fp}
theorem Sit.noF (S : Sit K F σ H env own) {a : Addr} {i : Nat} (h : own i a) : F a = none := (S.there ⟨i, h⟩).2
/-- a list of nobody's name is let stand for good -/
theorem Sit.frzT (S : Sit K F σ H env own) {a : Addr} {ho : HO} (hH : H a = some ho) (hF : F a = none) (d : ¬ all own a) : Sit K (upd F a ho) σ H env own where
  ex := fun x o h => by
    by_cases z : x = a
    · subst z; rw [upd_same] at h; rw [hH]; exact h
    · rw [upd_ne z] at h; exact S.ex x o h
  len := S.len
  rep := fun i w h => by
    obtain ⟨v, e, r⟩ := S.rep i w h
    refine ⟨v, e, r.frame (same_upd hF) (fun _ _ _ q => q) fun x q => ?_⟩
    have ne : x ≠ a := fun z => d ⟨i, z ▸ q⟩
    rw [upd_ne ne]
    exact S.noF q
  emp := S.emp
  dis := S.dis
/-- what the i-th name alone holds is let stand for good -/
theorem Sit.frzN {i : Nat} {a : Addr} {ho : HO} {w : W} {d : D} {p : Fp} (S : Sit K F σ H env own) (hw : env[i]? = some (some w)) (hσ : σ[i]? = some (some (.ref a))) (hp : ∀ x, own i x ↔ x = a) (hH : H a = some ho) (hF : F a = none) (rd : RepD K (upd F a ho) (.ref a) d) :
    ∃ own', Sit K (upd F a ho) σ H (env.set i (some (.v d))) own' ∧ Step F H (fun a => all own a ∨ p a) (upd F a ho) H (all own') := by
  have pa := (hp a).mpr rfl
  have hi : i < env.length := (List.getElem?_eq_some_iff.mp hw).1
  refine ⟨fun j x => j ≠ i ∧ own j x, ⟨fun x o h => ?_, by rw [List.length_set]; exact S.len, fun j w h => ?_, fun j x h => ?_, fun j k x h1 h2 => S.dis j k x h1.2 h2.2⟩, same_upd hF, fun _ _ h _ => h, fun x z => ?_, fun x o h n => ?_⟩
  · by_cases z : x = a
    · subst z; rw [upd_same] at h; rw [hH]; exact h
    · rw [upd_ne z] at h; exact S.ex x o h
  · by_cases z : j = i
    · subst z
      rw [List.getElem?_set_self hi] at h
      cases h
      exact ⟨.ref a, hσ, fun x y => y.1 rfl, rd⟩
    · rw [List.getElem?_set_ne (Ne.symm z)] at h
      obtain ⟨v, e, r2⟩ := S.rep j w h
      refine ⟨v, e, ?_⟩
      have e3 : (fun x => j ≠ i ∧ own j x) = own j := funext fun x => propext ⟨fun y => y.2, fun y => ⟨z, y⟩⟩
      show RepW K _ H v w (fun x => j ≠ i ∧ own j x)
      rw [e3]
      refine r2.frame (same_upd hF) (fun _ _ _ q => q) fun x q => ?_
      have ne : x ≠ a := fun y => z (S.dis j i x q ((hp x).mpr y))
      rw [upd_ne ne]
      exact S.noF q
  · obtain ⟨w, e⟩ := S.emp j x h.2
    exact ⟨w, by rw [List.getElem?_set_ne (Ne.symm h.1)]; exact e⟩
  · obtain ⟨j, _, y⟩ := z
    exact .inl (.inl ⟨j, y⟩)
  · by_cases z : x = a
    · subst z; exact .inl (.inl ⟨i, pa⟩)
    · rw [upd_ne z, n] at h; cases h
theorem frz1_ok {v : V} {u : U} {d : D} (S : Sit K F σ H env own) (r : RepU K F H σ v u p) (dj : ∀ a, p a → ¬ all own a) (h : frz1 env u = some (d, env')) :
    ∃ F' own', Sit K F' σ H env' own' ∧ RepD K F' v d ∧ Step F H (fun a => all own a ∨ p a) F' H (all own') := by
  have refl : Step F H (fun a => all own a ∨ p a) F H (all own) := Step.refl.sub fun _ z => .inl z
  cases u with
  | w w =>
    have h : (if w.opq then none else some (datW w, env)) = some (d, env') := h
    cases ho : w.opq with
    | true => rw [ho, if_pos rfl] at h; cases h
    | false =>
    rw [ho, if_neg Bool.false_ne_true] at h
    cases h
    cases w with
    | x y =>
      cases y with
      | o b c ns ws => cases ho
      | t ws => cases ho
      | d k ks ds =>
        obtain ⟨a, o, us, vs, rfl, hp, hH, hF, hk, r1, r2⟩ := r
        have pa := (hp a).mpr rfl
        refine ⟨upd F a o, own, S.frzT hH hF (dj a pa), .dix upd_same hk (r1.mono (same_upd hF)) (r2.mono (same_upd hF)), same_upd hF, fun _ _ h _ => h, fun _ z => .inl (.inl z), fun x o h n => ?_⟩
        by_cases z : x = a
        · subst z; exact .inl (.inr pa)
        · rw [upd_ne z, n] at h; cases h
    | v d => exact ⟨F, own, S, r.2, refl⟩
    | l b ds =>
      obtain ⟨a, vs, rfl, hp, hH, hF, rr⟩ := r
      have pa := (hp a).mpr rfl
      refine ⟨upd F a (.lst vs), own, S.frzT hH hF (dj a pa), .lst (.inl upd_same) (rr.mono (same_upd hF)), same_upd hF, fun _ _ h _ => h, fun _ z => .inl (.inl z), fun x o h n => ?_⟩
      by_cases z : x = a
      · subst z; exact .inl (.inr pa)
      · rw [upd_ne z, n] at h; cases h
    | m ks ds =>
      obtain ⟨a, vs, rfl, hp, hH, hF, hk, rr⟩ := r
      have pa := (hp a).mpr rfl
      refine ⟨upd F a (.dT vs), own, S.frzT hH hF (dj a pa), .dic upd_same hk (rr.mono (same_upd hF)), same_upd hF, fun _ _ h _ => h, fun _ z => .inl (.inl z), fun x o h n => ?_⟩
      by_cases z : x = a
      · subst z; exact .inl (.inr pa)
      · rw [upd_ne z, n] at h; cases h
  | b i =>
    have h : (match env[i]? with | some (some (.v d)) => some (d, env) | some (some (.l false ds)) => some (.lst ds, env.set i (some (.v (.lst ds)))) | some (some (.m ks ds)) => some (.dic ks ds, env.set i (some (.v (.dic ks ds)))) | some (some (.x (.d k ks ds))) => some (.dix k ks ds, env.set i (some (.v (.dix k ks ds)))) | _ => none) = some (d, env') := h
    split at h
    · rename_i d' hw
      cases h
      obtain ⟨v', e1, r'⟩ := S.rep i _ hw
      have e2 : v' = v := by
        rw [r.2] at e1
        injection e1 with e1
        injection e1 with e1
        exact e1.symm
      subst e2
      exact ⟨F, own, S, r'.2, refl⟩
    · rename_i ds hw
      cases h
      obtain ⟨v', e1, r'⟩ := S.rep i _ hw
      have e2 : v' = v := by
        rw [r.2] at e1
        injection e1 with e1
        injection e1 with e1
        exact e1.symm
      subst e2
      obtain ⟨a, vs, rfl, hp, hH, hF, rr⟩ := r'
      have pa := (hp a).mpr rfl
      have hi : i < env.length := (List.getElem?_eq_some_iff.mp hw).1
      refine ⟨upd F a (.lst vs), fun j x => j ≠ i ∧ own j x, ⟨fun x o h => ?_, by rw [List.length_set]; exact S.len, fun j w h => ?_, fun j x h => ?_, fun j k x h1 h2 => S.dis j k x h1.2 h2.2⟩, .lst (.inl upd_same) (rr.mono (same_upd hF)), same_upd hF, fun _ _ h _ => h, fun x z => ?_, fun x o h n => ?_⟩
      · by_cases z : x = a
        · subst z; rw [upd_same] at h; rw [hH]; exact h
        · rw [upd_ne z] at h; exact S.ex x o h
      · by_cases z : j = i
        · subst z
          rw [List.getElem?_set_self hi] at h
          cases h
          exact ⟨.ref a, r.2, fun x y => y.1 rfl, .lst (.inl upd_same) (rr.mono (same_upd hF))⟩
        · rw [List.getElem?_set_ne (Ne.symm z)] at h
          obtain ⟨v, e, r2⟩ := S.rep j w h
          refine ⟨v, e, ?_⟩
          have e3 : (fun x => j ≠ i ∧ own j x) = own j := funext fun x => propext ⟨fun y => y.2, fun y => ⟨z, y⟩⟩
          show RepW K _ H v w (fun x => j ≠ i ∧ own j x)
          rw [e3]
          refine r2.frame (same_upd hF) (fun _ _ _ q => q) fun x q => ?_
          have ne : x ≠ a := fun y => z (S.dis j i x q ((hp x).mpr y))
          rw [upd_ne ne]
          exact S.noF q
      · obtain ⟨w, e⟩ := S.emp j x h.2
        exact ⟨w, by rw [List.getElem?_set_ne (Ne.symm h.1)]; exact e⟩
      · obtain ⟨j, _, y⟩ := z
        exact .inl (.inl ⟨j, y⟩)
      · by_cases z : x = a
        · subst z; exact .inl (.inl ⟨i, pa⟩)
        · rw [upd_ne z, n] at h; cases h
    · rename_i ks ds hw
      cases h
      obtain ⟨v', e1, r'⟩ := S.rep i _ hw
      have e2 : v' = v := by
        rw [r.2] at e1
        injection e1 with e1
        injection e1 with e1
        exact e1.symm
      subst e2
      obtain ⟨a, vs, rfl, hp, hH, hF, hk, rr⟩ := r'
      have pa := (hp a).mpr rfl
      have hi : i < env.length := (List.getElem?_eq_some_iff.mp hw).1
      refine ⟨upd F a (.dT vs), fun j x => j ≠ i ∧ own j x, ⟨fun x o h => ?_, by rw [List.length_set]; exact S.len, fun j w h => ?_, fun j x h => ?_, fun j k x h1 h2 => S.dis j k x h1.2 h2.2⟩, .dic upd_same hk (rr.mono (same_upd hF)), same_upd hF, fun _ _ h _ => h, fun x z => ?_, fun x o h n => ?_⟩
      · by_cases z : x = a
        · subst z; rw [upd_same] at h; rw [hH]; exact h
        · rw [upd_ne z] at h; exact S.ex x o h
      · by_cases z : j = i
        · subst z
          rw [List.getElem?_set_self hi] at h
          cases h
          exact ⟨.ref a, r.2, fun x y => y.1 rfl, .dic upd_same hk (rr.mono (same_upd hF))⟩
        · rw [List.getElem?_set_ne (Ne.symm z)] at h
          obtain ⟨v, e, r2⟩ := S.rep j w h
          refine ⟨v, e, ?_⟩
          have e3 : (fun x => j ≠ i ∧ own j x) = own j := funext fun x => propext ⟨fun y => y.2, fun y => ⟨z, y⟩⟩
          show RepW K _ H v w (fun x => j ≠ i ∧ own j x)
          rw [e3]
          refine r2.frame (same_upd hF) (fun _ _ _ q => q) fun x q => ?_
          have ne : x ≠ a := fun y => z (S.dis j i x q ((hp x).mpr y))
          rw [upd_ne ne]
          exact S.noF q
      · obtain ⟨w, e⟩ := S.emp j x h.2
        exact ⟨w, by rw [List.getElem?_set_ne (Ne.symm h.1)]; exact e⟩
      · obtain ⟨j, _, y⟩ := z
        exact .inl (.inl ⟨j, y⟩)
      · by_cases z : x = a
        · subst z; exact .inl (.inl ⟨i, pa⟩)
        · rw [upd_ne z, n] at h; cases h
    · rename_i k ks ds hw
      cases h
      obtain ⟨v', e1, r'⟩ := S.rep i _ hw
      have e2 : v' = v := by
        rw [r.2] at e1
        injection e1 with e1
        injection e1 with e1
        exact e1.symm
      subst e2
      obtain ⟨a, o, us, vs, rfl, hp, hH, hF, hk, r1, r2⟩ := r'
      have rd : RepD K (upd F a o) (.ref a) (.dix k ks ds) := .dix upd_same hk (r1.mono (same_upd hF)) (r2.mono (same_upd hF))
      obtain ⟨own', S', st⟩ := S.frzN (p := p) hw e1 hp hH hF rd
      exact ⟨_, own', S', rd, st⟩
    · cases h
theorem frzs_ok : ∀ {us : List U} {vs : List V} {ds : List D} {F : Hp} {env env' : DEnv} {own : Nat → Fp} {p : Fp}, Sit K F σ H env own → RepUs K F H σ vs us p → (∀ a, p a → ¬ all own a) → frzs env us = some (ds, env') →
    ∃ F' own', Sit K F' σ H env' own' ∧ RepDs K F' vs ds ∧ Step F H (fun a => all own a ∨ p a) F' H (all own')
  | [], [], ds, F, env, env', own, p, S, r, dj, h => by
    cases h
    exact ⟨F, own, S, .nil, Step.refl.sub fun _ z => .inl z⟩
  | u :: us, v :: vs, ds, F, env, env', own, p, S, r, dj, h => by
    obtain ⟨p1, p2, hp, hd, r1, r2⟩ := r
    have h : (match frz1 env u with | some (d, e1) => (match frzs e1 us with | some (ds, e2) => some (d :: ds, e2) | none => none) | none => none) = some (ds, env') := h
    split at h
    · rename_i d e1 h1
      split at h
      · rename_i ds2 e2 h2
        cases h
        obtain ⟨F1, own1, S1, rd1, s1⟩ := frz1_ok S r1 (fun a q => dj a ((hp a).mpr (.inl q))) h1
        obtain ⟨r2', dj2⟩ := RepUs.stepU r2 (fun a q z => by
          rcases z with z | z
          · exact dj a ((hp a).mpr (.inr q)) z
          · exact hd a z q) s1
        obtain ⟨F2, own2, S2, rd2, s2⟩ := frzs_ok S1 r2' dj2 h2
        refine ⟨F2, own2, S2, .cons (rd1.mono s2.ex) rd2, ((s1.more p2).trans s2).sup fun a z => ?_⟩
        rcases z with (z | z) | z
        · exact .inl z
        · exact .inr ((hp a).mpr (.inl z))
        · exact .inr ((hp a).mpr (.inr z))
      · cases h
    · cases h
  | [], _ :: _, _, _, _, _, _, _, _, r, _, _ => r.elim
  | _ :: _, [], _, _, _, _, _, _, _, r, _, _ => r.elim
theorem OutL.frz {F2 : Hp} {us : List U} {vs : List V} {ds : List D} (O : OutL K F H own σ us vs env F1 H1 own1 p) (h : frzs env us = some (ds, env')) : ∃ F2 own2, RepDs K F2 vs ds ∧ OutR K F H own σ env' F2 H1 own2 := by
  obtain ⟨F2, own2, S2, r2, s2⟩ := frzs_ok O.S O.r O.d h
  exact ⟨F2, own2, r2, S2, O.s.trans s2⟩
theorem Out.frz {u : U} {v : V} {d : D} (O : Out K F H own σ u v env F1 H1 own1 p) (h : frz1 env u = some (d, env')) : ∃ F2 own2, RepD K F2 v d ∧ OutR K F H own σ env' F2 H1 own2 := by
  obtain ⟨F2, own2, S2, r2, s2⟩ := frz1_ok O.S O.r O.d h
  exact ⟨F2, own2, r2, S2, O.s.trans s2⟩
end

/-! ### displays -/
def dTup (fs : List (M U)) : M U := fun env => (evs fs env).bind fun us e1 => match frzs e1 us with
  | some (ds, e2) => if ds.length ≤ 1000000 then .ok (.w (.v (.tup ds))) e2 else .stuck
  | none => .stuck
def dLst (fs : List (M U)) : M U := fun env => (evs fs env).bind fun us e1 => match frzs e1 us with
  | some (ds, e2) => if ds.length ≤ 1000000 then .ok (.w (.l false ds)) e2 else .stuck
  | none => .stuck
section
variable {X : Cx} {Wx : WX} {es : List Expr} {fs : List (M U)} {pos : Pos}
theorem e_tup {k : Nat} (ha : EaS X Wx es fs) : EvS X Wx (.Tuple es k pos) (dTup fs) := PE.imp (pe_tup ha) fun σ H Q h => by
  obtain ⟨F, env, own, S, h⟩ := h
  refine ⟨F, env, own, S, ?_⟩
  unfold dTup at h
  cases e : evs fs env with
  | stuck => rw [e] at h; exact h
  | raise c env1 => rw [e] at h; exact h
  | ok us env1 =>
    rw [e, R.bind_ok] at h
    intro vs F1 H1 own1 p O
    cases e1 : frzs env1 us with
    | none => rw [e1] at h; exact h.elim
    | some pr =>
      obtain ⟨ds, e2⟩ := pr
      rw [e1] at h
      dsimp only at h
      obtain ⟨F2, own2, r2, O2⟩ := O.frz (F2 := F) e1
      by_cases hl : ds.length ≤ 1000000
      · rw [if_pos hl] at h
        refine ⟨by rw [r2.length]; exact sz hl, fun q hq => ?_⟩
        have g : Grow F2 H1 (upd F2 q (.tup vs)) (upd H1 q (.tup vs)) _ := Grow.data O2.S.ex hq
        exact h _ _ _ _ _ (g.out O2 (RepW.ofRep (.tup (upd_same) (r2.mono (same_upd (sub_none O2.S.ex hq))))))
      · rw [if_neg hl] at h; exact h.elim
theorem e_lst (ha : EaS X Wx es fs) : EvS X Wx (.List es pos) (dLst fs) := PE.imp (pe_lst ha) fun σ H Q h => by
  obtain ⟨F, env, own, S, h⟩ := h
  refine ⟨F, env, own, S, ?_⟩
  unfold dLst at h
  cases e : evs fs env with
  | stuck => rw [e] at h; exact h
  | raise c env1 => rw [e] at h; exact h
  | ok us env1 =>
    rw [e, R.bind_ok] at h
    intro vs F1 H1 own1 p O
    cases e1 : frzs env1 us with
    | none => rw [e1] at h; exact h.elim
    | some pr =>
      obtain ⟨ds, e2⟩ := pr
      rw [e1] at h
      dsimp only at h
      obtain ⟨F2, own2, r2, O2⟩ := O.frz (F2 := F) e1
      by_cases hl : ds.length ≤ 1000000
      · rw [if_pos hl] at h
        refine ⟨by rw [r2.length]; exact sz hl, fun q hq => ?_⟩
        have g : Grow F2 H1 F2 (upd H1 q (.lst vs)) _ := Grow.ofOwn O2.S.ex hq
        exact h _ _ _ _ _ (g.out O2 ⟨q, vs, rfl, fun _ => Iff.rfl, upd_same, sub_none O2.S.ex hq, r2⟩)
      · rw [if_neg hl] at h; exact h.elim
end

/-! ### tests -/
def tst (f : M U) : M Bool := fun env => (f env).bind fun u e1 => match dat e1 u with
  | some (.bl b) => .ok b e1
  | _ => .stuck
section
variable {K : PySem.W.Frag} {mg : Str → Option Value} {Wx : WX} {f : M U} {σ : L2.St} {H : Hp}
theorem tOf_tst {Q : Bool → Hp → Prop} (h : ttOf K mg Wx (tst f) σ H Q) : tOf K mg Wx f σ H fun x H1 => ∃ c, x = .bl c ∧ Q c H1 := by
  obtain ⟨F, env, own, S, h⟩ := h
  unfold tst at h
  refine tOf_use S (fun u env1 e1 v F1 H1 own1 p O1 => ?_) (fun c env1 e1 C F1 H1 own1 => ?_) (fun e1 => ?_)
  · rw [e1, R.bind_ok] at h
    cases e2 : dat env1 u with
    | none => rw [e2] at h; exact h.elim
    | some d =>
      rw [e2] at h
      have vw := RepU.view O1.S O1.r e2
      cases d with
      | bl b => exact ⟨b, vw.bl, h _ _ _ O1.drop⟩
      | _ => exact h.elim
  · rw [e1] at h
    exact h C F1 H1 own1
  · rw [e1] at h
    exact h
end
section
variable {X : Cx} {Wx : WX} {a b e : Expr} {fa fb : M U} {ta tb : M Bool} {pos : Pos} {g : List D → Option W} {rest : List Expr}
theorem t_val (h : EvS X Wx e fa) (he : ∀ whole, isTrue e X.env whole = (do let v ← whole; standAt e.pos; holding [v] (truthy v)) := by intro _; rfl) : TtS X Wx e (tst fa) := PT.imp (pt_val h he) fun σ H Q q => tOf_tst q
theorem t_cmp {op : CmpOp} {r : R2} (ho : OpR X (compareOp op) r) (cd : CaD X.K (r2 r) g) (ha : EvS X Wx a fa) (hb : EvS X Wx b fb) (hm : behindInMarks op b = false) : TtS X Wx (.Compare a [op] [b] pos) (tst (opN g [fa, fb])) :=
  PT.imp (pt_cmpR ho ha hb hm) fun σ H Q h => tOf_mono (aOf_2 (aOf_op cd (tOf_tst h))) fun _ _ q => tOf_mono q fun _ _ z => r2_two z
theorem ttOf_bind {K : PySem.W.Frag} {mg : Str → Option Value} {β : Type} {f : M Bool} {σ : L2.St} {H F : Hp} {env : DEnv} {own : Nat → Fp} {Q : Bool → Hp → Prop} (S : Sit K F σ H env own)
    (hok : ∀ b env1, f env = .ok b env1 → ∀ F1 H1 own1, OutR K F H own σ env1 F1 H1 own1 → Q b H1)
    (hr : ∀ c env1, f env = .raise c env1 → ∀ C F1 H1 own1, mg c = some (.ref C) → OutR K F H own σ env1 F1 H1 own1 → Wx (.ref C) none σ H1)
    (hs : f env ≠ .stuck) : ttOf K mg Wx f σ H Q := ttOf_use S hok hr hs
def tAndD (t u : M Bool) : M Bool := fun env => (t env).bind fun b e1 => if b then u e1 else .ok false e1
def tOrD (t u : M Bool) : M Bool := fun env => (t env).bind fun b e1 => if b then .ok true e1 else u e1
def tNotD (t : M Bool) : M Bool := fun env => (t env).bind fun b e1 => .ok (!b) e1
abbrev TwS (X : Cx) (Wx : WX) (e : Expr) (f : M Bool) : Prop := PW X e (ttOf X.K X.mg Wx f)
theorem w_and1 (ha : TtS X Wx a ta) : TwS X Wx (.BoolOp .And [a] pos) ta := pw_and1 ha
theorem w_or1 (ha : TtS X Wx a ta) : TwS X Wx (.BoolOp .Or [a] pos) ta := pw_or1 ha
theorem w_and (ha : TtS X Wx a ta) (hb : TwS X Wx (.BoolOp .And (b :: rest) pos) tb) : TwS X Wx (.BoolOp .And (a :: b :: rest) pos) (tAndD ta tb) := PW.imp (pw_and ha hb) fun σ H Q h => by
  obtain ⟨F, env, own, S, h⟩ := h
  unfold tAndD at h
  refine ttOf_use S (fun c env1 e1 F1 H1 own1 O1 => ?_) (fun c env1 e1 C F1 H1 own1 => ?_) (fun e1 => ?_)
  · rw [e1, R.bind_ok] at h
    cases c with
    | true =>
      rw [if_pos rfl] at h
      show ttOf _ _ _ _ _ _ _
      refine ⟨F1, env1, own1, O1.S, ?_⟩
      cases e2 : tb env1 with
      | ok u env2 => rw [e2] at h; exact fun F2 H2 own2 O2 => h _ _ _ (O1.trans O2)
      | raise c env2 => rw [e2] at h; exact fun C F2 H2 own2 hm O2 => h C F2 H2 own2 hm (O1.trans O2)
      | stuck => rw [e2] at h; exact h
    | false =>
      rw [if_neg Bool.false_ne_true] at h
      exact h F1 H1 own1 O1
  · rw [e1] at h
    exact h C F1 H1 own1
  · rw [e1] at h
    exact h
theorem w_or (ha : TtS X Wx a ta) (hb : TwS X Wx (.BoolOp .Or (b :: rest) pos) tb) : TwS X Wx (.BoolOp .Or (a :: b :: rest) pos) (tOrD ta tb) := PW.imp (pw_or ha hb) fun σ H Q h => by
  obtain ⟨F, env, own, S, h⟩ := h
  unfold tOrD at h
  refine ttOf_use S (fun c env1 e1 F1 H1 own1 O1 => ?_) (fun c env1 e1 C F1 H1 own1 => ?_) (fun e1 => ?_)
  · rw [e1, R.bind_ok] at h
    cases c with
    | false =>
      rw [if_neg Bool.false_ne_true] at h
      show ttOf _ _ _ _ _ _ _
      refine ⟨F1, env1, own1, O1.S, ?_⟩
      cases e2 : tb env1 with
      | ok u env2 => rw [e2] at h; exact fun F2 H2 own2 O2 => h _ _ _ (O1.trans O2)
      | raise c env2 => rw [e2] at h; exact fun C F2 H2 own2 hm O2 => h C F2 H2 own2 hm (O1.trans O2)
      | stuck => rw [e2] at h; exact h
    | true =>
      rw [if_pos rfl] at h
      exact h F1 H1 own1 O1
  · rw [e1] at h
    exact h C F1 H1 own1
  · rw [e1] at h
    exact h
theorem t_w (h : TwS X Wx a ta) : TtS X Wx a ta := PW.pt h
theorem t_not (ha : TtS X Wx a ta) : TtS X Wx (.UnaryOp .Not a pos) (tNotD ta) := PT.imp (pt_not ha) fun σ H Q h => by
  obtain ⟨F, env, own, S, h⟩ := h
  unfold tNotD at h
  refine ttOf_use S (fun c env1 e1 F1 H1 own1 O1 => ?_) (fun c env1 e1 C F1 H1 own1 => ?_) (fun e1 => ?_)
  · rw [e1, R.bind_ok] at h
    exact h F1 H1 own1 O1
  · rw [e1] at h
    exact h C F1 H1 own1
  · rw [e1] at h
    exact h
/-! as values -/
def vAnd (fa fb : M U) : M U := fun env => (fa env).bind fun u e1 => match dat e1 u with
  | some (.bl b) => if b then fb e1 else .ok (.w (.v (.bl false))) e1
  | _ => .stuck
def vOr (fa fb : M U) : M U := fun env => (fa env).bind fun u e1 => match dat e1 u with
  | some (.bl b) => if b then .ok (.w (.v (.bl true))) e1 else fb e1
  | _ => .stuck
def gNot : List D → Option W
  | [.bl b] => some (.v (.bl (!b)))
  | _ => none
theorem tOf_after {K : PySem.W.Frag} {mg : Str → Option Value} {fb : M U} {σ : L2.St} {F H F1 H1 : Hp} {env1 : DEnv} {own own1 : Nat → Fp} {Q : VK} (O1 : OutR K F H own σ env1 F1 H1 own1)
    (h : match fb env1 with
      | .ok u env' => ∀ v F' H' own' p, Out K F H own σ u v env' F' H' own' p → Q v H'
      | .raise c env' => ∀ C F' H' own', mg c = some (.ref C) → OutR K F H own σ env' F' H' own' → Wx (.ref C) none σ H'
      | .stuck => False) : tOf K mg Wx fb σ H1 Q := by
  refine ⟨F1, env1, own1, O1.S, ?_⟩
  cases e2 : fb env1 with
  | ok u env2 => rw [e2] at h; exact fun v F2 H2 own2 p O2 => h _ _ _ _ _ (O1.out O2)
  | raise c env2 => rw [e2] at h; exact fun C F2 H2 own2 hm O2 => h C F2 H2 own2 hm (O1.trans O2)
  | stuck => rw [e2] at h; exact h
theorem e_one {op : BoolOp} (h : EvS X Wx a fa) : EvS X Wx (.BoolOp op [a] pos) fa := pe_one h
theorem e_and (ha : EvS X Wx a fa) (hb : EvS X Wx (.BoolOp .And (b :: rest) pos) fb) : EvS X Wx (.BoolOp .And (a :: b :: rest) pos) (vAnd fa fb) := PE.imp (pe_and ha hb) fun σ H Q h => by
  obtain ⟨F, env, own, S, h⟩ := h
  unfold vAnd at h
  refine tOf_use S (fun u env1 e1 v F1 H1 own1 p O1 => ?_) (fun c env1 e1 C F1 H1 own1 => ?_) (fun e1 => ?_)
  · rw [e1, R.bind_ok] at h
    cases e2 : dat env1 u with
    | none => rw [e2] at h; exact h.elim
    | some d =>
      rw [e2] at h
      have vw := RepU.view O1.S O1.r e2
      cases d with
      | bl b =>
        refine ⟨b, vw.bl, ?_⟩
        cases b with
        | true => exact tOf_after O1.drop h
        | false => exact h _ _ _ _ _ ((Grow.refl O1.S.ex).out O1.drop (RepW.ofBl false))
      | _ => exact h.elim
  · rw [e1] at h
    exact h C F1 H1 own1
  · rw [e1] at h
    exact h
theorem e_or (ha : EvS X Wx a fa) (hb : EvS X Wx (.BoolOp .Or (b :: rest) pos) fb) : EvS X Wx (.BoolOp .Or (a :: b :: rest) pos) (vOr fa fb) := PE.imp (pe_or ha hb) fun σ H Q h => by
  obtain ⟨F, env, own, S, h⟩ := h
  unfold vOr at h
  refine tOf_use S (fun u env1 e1 v F1 H1 own1 p O1 => ?_) (fun c env1 e1 C F1 H1 own1 => ?_) (fun e1 => ?_)
  · rw [e1, R.bind_ok] at h
    cases e2 : dat env1 u with
    | none => rw [e2] at h; exact h.elim
    | some d =>
      rw [e2] at h
      have vw := RepU.view O1.S O1.r e2
      cases d with
      | bl b =>
        refine ⟨b, vw.bl, ?_⟩
        cases b with
        | false => exact tOf_after O1.drop h
        | true => exact h _ _ _ _ _ ((Grow.refl O1.S.ex).out O1.drop (RepW.ofBl true))
      | _ => exact h.elim
  · rw [e1] at h
    exact h C F1 H1 own1
  · rw [e1] at h
    exact h
theorem e_not (ha : EvS X Wx a fa) : EvS X Wx (.UnaryOp .Not a pos) (opN gNot [fa]) := PE.imp (pe_not ha) fun σ H Q h => by
  have cd : CaD X.K (fun vs H Q => ∃ c, vs = [.bl c] ∧ Q (.bl (!c)) H) gNot := by
    intro F H vs ds w Q e vw hg q
    unfold gNot at hg
    split at hg
    · rename_i b
      obtain ⟨x, rfl, hx⟩ := vw.one
      cases hg
      exact ⟨b, by rw [hx.bl], fin_bl e q⟩
    · cases hg
  exact tOf_mono (aOf_1 (aOf_op cd h)) fun x _ q => by
    obtain ⟨c, e, q⟩ := q
    cases e
    exact ⟨c, rfl, q⟩
def eIf (t : M Bool) (fa fb : M U) : M U := fun env => (t env).bind fun b e1 => if b then fa e1 else fb e1
theorem e_if {c : Expr} (hc : TtS X Wx c ta) (ha : EvS X Wx a fa) (hb : EvS X Wx b fb) : EvS X Wx (.IfExp c a b pos) (eIf ta fa fb) := PE.imp (pe_ifExp hc ha hb) fun σ H Q h => by
  obtain ⟨F, env, own, S, h⟩ := h
  unfold eIf at h
  refine ttOf_use S (fun c env1 e1 F1 H1 own1 O1 => ?_) (fun c env1 e1 C F1 H1 own1 => ?_) (fun e1 => ?_)
  · rw [e1, R.bind_ok] at h
    cases c with
    | true => exact tOf_after O1 h
    | false => exact tOf_after O1 h
  · rw [e1] at h
    exact h C F1 H1 own1
  · rw [e1] at h
    exact h
end
end DL

namespace DL
open PySem PySem.Spec PyProof.Rows L2

/-! ### lists of ints, of truths -/
def intOf : D → Option Int
  | .int i => some i
  | _ => none
def intsOf : List D → Option (List Int)
  | [] => some []
  | .int i :: ds => (intsOf ds).map (i :: ·)
  | _ :: _ => none
def blsOf : List D → Option (List Bool)
  | [] => some []
  | .bl i :: ds => (blsOf ds).map (i :: ·)
  | _ :: _ => none
theorem intsOf_eq : ∀ {ds : List D} {ns : List Int}, intsOf ds = some ns → ds = ns.map D.int
  | [], _, h => by cases h; rfl
  | .int i :: ds, _, h => by
    obtain ⟨ms, h1, rfl⟩ := Option.map_eq_some_iff.mp h
    rw [intsOf_eq h1]; rfl
  | .non :: _, _, h => by cases h
  | .bl _ :: _, _, h => by cases h
  | .str _ :: _, _, h => by cases h
  | .tup _ :: _, _, h => by cases h
  | .lst _ :: _, _, h => by cases h
  | .nam _ _ :: _, _, h => by cases h
  | .ty _ :: _, _, h => by cases h
  | .scr _ :: _, _, h => by cases h
  | .dic _ _ :: _, _, h => by cases h
  | .dix _ _ _ :: _, _, h => by cases h
  | .ins _ _ _ :: _, _, h => by cases h
theorem blsOf_eq : ∀ {ds : List D} {ns : List Bool}, blsOf ds = some ns → ds = ns.map D.bl
  | [], _, h => by cases h; rfl
  | .bl i :: ds, _, h => by
    obtain ⟨ms, h1, rfl⟩ := Option.map_eq_some_iff.mp h
    rw [blsOf_eq h1]; rfl
  | .non :: _, _, h => by cases h
  | .int _ :: _, _, h => by cases h
  | .str _ :: _, _, h => by cases h
  | .tup _ :: _, _, h => by cases h
  | .lst _ :: _, _, h => by cases h
  | .nam _ _ :: _, _, h => by cases h
  | .ty _ :: _, _, h => by cases h
  | .scr _ :: _, _, h => by cases h
  | .dic _ _ :: _, _, h => by cases h
  | .dix _ _ _ :: _, _, h => by cases h
  | .ins _ _ _ :: _, _, h => by cases h
@[simp] theorem intsOf_map (ns : List Int) : intsOf (ns.map D.int) = some ns := by
  induction ns with
  | nil => rfl
  | cons n r ih => rw [List.map_cons]; show (intsOf (r.map D.int)).map _ = _; rw [ih]; rfl
@[simp] theorem blsOf_map (ns : List Bool) : blsOf (ns.map D.bl) = some ns := by
  induction ns with
  | nil => rfl
  | cons n r ih => rw [List.map_cons]; show (blsOf (r.map D.bl)).map _ = _; rw [ih]; rfl
theorem RepDs.bls {K : PySem.W.Frag} {F : Hp} : ∀ {vs : List V} {ns : List Bool}, RepDs K F vs (ns.map D.bl) → vs = ns.map V.bl
  | _, [], .nil => rfl
  | _, n :: r, .cons (.bl _) t => by rw [List.map_cons, ← RepDs.bls t]

/-! ### len, list, tuple -/
def gLen : List D → Option W
  | [.lst ds] => some (.v (.int ds.length))
  | [.tup ds] => some (.v (.int ds.length))
  | [.scr ns] => some (.v (.int ns.length))
  | [.str x] => if x.length ≤ 1000000 then some (.v (.int x.length)) else none
  | _ => none
theorem CallR.or {X : Cx} {f : Value} {r r' : List V → Hp → VK → Prop} (h : CallR X f r) (h' : CallR X f r') : CallR X f (fun vs H Q => r vs H Q ∨ r' vs H Q) := by
  intro pins s σ H xs us Q I rx q
  rcases q with q | q
  · exact h pins s σ H xs us Q I rx q
  · exact h' pins s σ H xs us Q I rx q
section
variable {X : Cx} {K : PySem.W.Frag}
def rLenA (K : PySem.W.Frag) : List V → Hp → VK → Prop := fun vs H Q => (∃ p ys, vs = [.ref p] ∧ (SqL K H p ys ∨ SqT K H p ys) ∧ Q (.int ys.length) H) ∨ (∃ z, vs = [.str z] ∧ z.length ≤ sizeLine ∧ Q (.int z.length) H)
theorem call_lenA : CallR X (.builtin "len") (rLenA X.K) := CallR.or call_len_seq call_len_str
theorem cd_len : CaD K (rLenA K) gLen := by
  intro F H vs ds w Q e vw hg q
  unfold gLen at hg
  split at hg
  · obtain ⟨x, rfl, hx⟩ := vw.one
    cases hg
    obtain ⟨a, us, rfl, h2, r⟩ := hx.lst
    exact .inl ⟨a, us, rfl, .inl (.inl h2), by rw [r.length]; exact fin_int e q⟩
  · obtain ⟨x, rfl, hx⟩ := vw.one
    cases hg
    obtain ⟨a, us, rfl, _, h2, r⟩ := hx.tup e
    exact .inl ⟨a, us, rfl, .inr h2, by rw [r.length]; exact fin_int e q⟩
  · rename_i ns
    obtain ⟨x, rfl, hx⟩ := vw.one
    cases hg
    obtain ⟨a, rfl, h2⟩ := hx.scr e
    exact .inl ⟨a, _, rfl, .inl h2, by rw [List.length_map]; exact fin_int e q⟩
  · rename_i z
    obtain ⟨x, rfl, hx⟩ := vw.one
    split at hg
    · rename_i hl
      cases hg
      exact .inr ⟨z, by rw [hx.str], sz hl, fin_int e q⟩
    · cases hg
  · cases hg
def gList : List D → Option W
  | [.lst ds] => some (.l false ds)
  | [.tup ds] => some (.l false ds)
  | [.scr ns] => some (.l false (ns.map D.int))
  | _ => none
theorem cd_list : CaD K (fun xs H Q => ∃ p ys, xs = [.ref p] ∧ (SqL K H p ys ∨ SqT K H p ys) ∧ ∀ l, H l = none → Q (.ref l) (upd H l (.lst ys))) gList := by
  intro F H vs ds w Q e vw hg q
  unfold gList at hg
  split at hg
  · obtain ⟨x, rfl, hx⟩ := vw.one
    cases hg
    obtain ⟨a, us, rfl, h2, r⟩ := hx.lst
    exact ⟨a, us, rfl, .inl (.inl h2), fin_lst e r q⟩
  · obtain ⟨x, rfl, hx⟩ := vw.one
    cases hg
    obtain ⟨a, us, rfl, _, h2, r⟩ := hx.tup e
    exact ⟨a, us, rfl, .inr h2, fin_lst e r q⟩
  · obtain ⟨x, rfl, hx⟩ := vw.one
    cases hg
    obtain ⟨a, rfl, h2⟩ := hx.scr e
    exact ⟨a, _, rfl, .inl h2, fin_lst e (RepDs.of_ints _) q⟩
  · cases hg
def gTuple : List D → Option W
  | [.lst ds] => some (.v (.tup ds))
  | [.tup ds] => some (.v (.tup ds))
  | _ => none
theorem cd_tuple : CaD K (fun xs H Q => ∃ p ys, xs = [.ref p] ∧ ((SqL K H p ys ∧ ∀ l, H l = none → Q (.ref l) (upd H l (.tup ys))) ∨ (SqT K H p ys ∧ Q (.ref p) H))) gTuple := by
  intro F H vs ds w Q e vw hg q
  unfold gTuple at hg
  split at hg
  · obtain ⟨x, rfl, hx⟩ := vw.one
    cases hg
    obtain ⟨a, us, rfl, h2, r⟩ := hx.lst
    exact ⟨a, us, rfl, .inl ⟨.inl h2, fin_tup e r q⟩⟩
  · obtain ⟨x, rfl, hx⟩ := vw.one
    cases hg
    obtain ⟨a, us, rfl, f1, h2, r⟩ := hx.tup e
    exact ⟨a, us, rfl, .inr ⟨h2, fin_rep e (.tup f1 r) q⟩⟩
  · cases hg
end

/-! ### sum, min, max, all, any -/
section
variable {prog : Program} {w : World} {A : Around} {E : Value → Shared → Prop} {s : Shared} {l : Addr}
theorem sum_intTup {xs : Array (Int × Tok)} {Q : Value → Shared → Prop} (hh : A.handled = none) (hl : s.heap.IsTuple l (intItems xs))
    (h : ∀ h' tk t', (∀ b o, s.heap.get? b = some o → h'.get? b = some o) → Q (.int (preSum (numAt xs) xs.size) t') { s with heap := h', toks := tk }) :
    wpAny (model prog w) A (call (.builtin "sum") [.ref l]) Q E s := by
  have hlt : l < s.heap.objs.size := by obtain ⟨_, e, _⟩ := hl; exact Heap.lt_size e
  refine call_sum_walkG (wpAny_pyIter_tuple hl ?_)
  refine ⟨_, [s.heap.objs.size, l], [s.heap.objs.size], _, _, _, numAt xs, rfl, Walks.tuple (A := A.in1) hh _ l (Nat.ne_of_lt hlt) (intItems xs), ⟨⟨_, Heap.get?_push_size _ rfl, rfl, rfl⟩, hl.push _⟩, fun b hb => ?_, (fun _ _ => intItems_at), fun h' tk t' hk => ?_⟩
  · show b < (s.heap.push _).objs.size
    rw [Heap.size_push]
    rcases List.mem_cons.mp hb with rfl | hb
    · exact Nat.lt_succ_self _
    · rcases List.mem_cons.mp hb with rfl | hb
      · exact Nat.lt_succ_of_lt hlt
      · cases hb
  · have hold : ∀ d o, s.heap.get? d = some o → h'.get? d = some o := fun d o e => by
      refine hk d o (fun hm => ?_) (Heap.get?_push_of_some _ e)
      rcases List.mem_cons.mp hm with e1 | hm
      · have := Heap.lt_size e; rw [e1] at this; exact Nat.lt_irrefl _ this
      · cases hm
    have := h h' tk t' hold
    simpa [intItems] using this
theorem sum_rawT {its : List Value} {ns : List Int} {Q : Value → Shared → Prop} (hh : A.handled = none) (hl : s.heap.IsTuple l its.toArray) (hi : IntsAre its ns)
    (h : ∀ h' tk t', (∀ b o, s.heap.get? b = some o → h'.get? b = some o) → Q (.int ns.sum t') { s with heap := h', toks := tk }) : wpAny (model prog w) A (call (.builtin "sum") [.ref l]) Q E s := by
  obtain ⟨xs, e⟩ := hi.allInts.items
  have hn : numsOf (intItems xs).toList = ns := by rw [← e]; exact hi.numsOf
  rw [nums_intItems] at hn
  rw [e] at hl
  refine sum_intTup hh hl fun h' tk t' hk => ?_
  have := h h' tk t' hk
  rw [preSum_eq, List.take_of_length_le (by simp), hn]; exact this
end
section
variable {X : Cx} {K : PySem.W.Frag}
def rSumT (K : PySem.W.Frag) : List V → Hp → VK → Prop := fun vs H Q => ∃ (a : Addr) (ns : List Int), vs = [V.ref a] ∧ SqT K H a (ns.map V.int) ∧ Q (.int ns.sum) H
theorem cr_sumT (hc : X.calm = true) : CallR X (.builtin "sum") (rSumT X.K) := by
  intro pins s σ H vs us Q I r h
  obtain ⟨a, ns, rfl, hs, q⟩ := h
  obtain ⟨its, rv, hl, _⟩ := I.tuple hs
  rw [Vals.ref1 r]
  exact sum_rawT (I.ok.hd hc) hl rv.ints fun h' tk t' hk => ⟨.int _, H, I.kept hk, ⟨_, rfl⟩, q⟩
def rSumA (K : PySem.W.Frag) : List V → Hp → VK → Prop := fun vs H Q => rSum K vs H Q ∨ rSumT K vs H Q
theorem cr_sumA (hc : X.calm = true) : CallR X (.builtin "sum") (rSumA X.K) := CallR.or (cr_sum hc) (cr_sumT hc)
def gSum : List D → Option W
  | [.lst ds] => (intsOf ds).map fun ns => .v (.int ns.sum)
  | [.tup ds] => (intsOf ds).map fun ns => .v (.int ns.sum)
  | _ => none
theorem cd_sum : CaD K (rSumA K) gSum := by
  intro F H vs ds w Q e vw hg q
  unfold gSum at hg
  split at hg
  · obtain ⟨x, rfl, hx⟩ := vw.one
    obtain ⟨ns, h1, rfl⟩ := Option.map_eq_some_iff.mp hg
    obtain ⟨a, us, rfl, h2, r⟩ := hx.lst
    rw [intsOf_eq h1] at r
    have := r.ints
    subst this
    exact .inl ⟨a, ns, rfl, .inl h2, fin_int e q⟩
  · obtain ⟨x, rfl, hx⟩ := vw.one
    obtain ⟨ns, h1, rfl⟩ := Option.map_eq_some_iff.mp hg
    obtain ⟨a, us, rfl, _, h2, r⟩ := hx.tup e
    rw [intsOf_eq h1] at r
    have := r.ints
    subst this
    exact .inr ⟨a, ns, rfl, h2, fin_int e q⟩
  · cases hg
def gAll : List D → Option W
  | [.lst ds] => (blsOf ds).map fun ns => .v (.bl (ns.all id))
  | _ => none
def gAny : List D → Option W
  | [.lst ds] => (blsOf ds).map fun ns => .v (.bl (ns.any id))
  | _ => none
theorem cd_all : CaD K (rAll K) gAll := by
  intro F H vs ds w Q e vw hg q
  unfold gAll at hg
  split at hg
  · obtain ⟨x, rfl, hx⟩ := vw.one
    obtain ⟨ns, h1, rfl⟩ := Option.map_eq_some_iff.mp hg
    obtain ⟨a, us, rfl, h2, r⟩ := hx.lst
    rw [blsOf_eq h1] at r
    have := r.bls
    subst this
    exact ⟨a, ns, rfl, .inl h2, fin_bl e q⟩
  · cases hg
theorem cd_any : CaD K (rAny K) gAny := by
  intro F H vs ds w Q e vw hg q
  unfold gAny at hg
  split at hg
  · obtain ⟨x, rfl, hx⟩ := vw.one
    obtain ⟨ns, h1, rfl⟩ := Option.map_eq_some_iff.mp hg
    obtain ⟨a, us, rfl, h2, r⟩ := hx.lst
    rw [blsOf_eq h1] at r
    have := r.bls
    subst this
    exact ⟨a, ns, rfl, .inl h2, fin_bl e q⟩
  · cases hg
/-! min and max of two, of three, of a list -/
def imax : List Int → Int
  | [] => 0
  | [x] => x
  | x :: y :: r => let m := imax (y :: r); if m > x then m else x
def imin : List Int → Int
  | [] => 0
  | [x] => x
  | x :: y :: r => let m := imin (y :: r); if m < x then m else x
theorem imax_spec : ∀ (x : Int) (r : List Int), imax (x :: r) ∈ x :: r ∧ ∀ y ∈ x :: r, y ≤ imax (x :: r)
  | x, [] => ⟨by simp [imax], fun y h => by simp at h; subst h; simp [imax]⟩
  | x, y :: r => by
    obtain ⟨h1, h2⟩ := imax_spec y r
    have e : imax (x :: y :: r) = if imax (y :: r) > x then imax (y :: r) else x := rfl
    by_cases c : imax (y :: r) > x
    · rw [e, if_pos c]
      refine ⟨List.mem_cons_of_mem _ h1, fun z hz => ?_⟩
      rcases List.mem_cons.mp hz with rfl | hz
      · omega
      · exact h2 z hz
    · rw [e, if_neg c]
      refine ⟨List.mem_cons_self, fun z hz => ?_⟩
      rcases List.mem_cons.mp hz with rfl | hz
      · omega
      · have := h2 z hz; omega
theorem imin_spec : ∀ (x : Int) (r : List Int), imin (x :: r) ∈ x :: r ∧ ∀ y ∈ x :: r, imin (x :: r) ≤ y
  | x, [] => ⟨by simp [imin], fun y h => by simp at h; subst h; simp [imin]⟩
  | x, y :: r => by
    obtain ⟨h1, h2⟩ := imin_spec y r
    have e : imin (x :: y :: r) = if imin (y :: r) < x then imin (y :: r) else x := rfl
    by_cases c : imin (y :: r) < x
    · rw [e, if_pos c]
      refine ⟨List.mem_cons_of_mem _ h1, fun z hz => ?_⟩
      rcases List.mem_cons.mp hz with rfl | hz
      · omega
      · exact h2 z hz
    · rw [e, if_neg c]
      refine ⟨List.mem_cons_self, fun z hz => ?_⟩
      rcases List.mem_cons.mp hz with rfl | hz
      · omega
      · have := h2 z hz; omega
def gMax : List D → Option W
  | [.int i, .int j] => some (.v (.int (if j > i then j else i)))
  | [.lst ds] => match intsOf ds with
    | some (n :: ns) => some (.v (.int (imax (n :: ns))))
    | _ => none
  | _ => none
def gMin : List D → Option W
  | [.int i, .int j] => some (.v (.int (if j < i then j else i)))
  | [.int i, .int j, .int k] => some (.v (.int (if j < i then (if k < j then k else j) else (if k < i then k else i))))
  | [.lst ds] => match intsOf ds with
    | some (n :: ns) => some (.v (.int (imin (n :: ns))))
    | _ => none
  | _ => none
def rMaxA (K : PySem.W.Frag) : List V → Hp → VK → Prop := fun vs H Q => (∃ i j, vs = [.int i, .int j] ∧ Q (.int (if j > i then j else i)) H) ∨ rMax K vs H Q
theorem call_maxA (hc : X.calm = true) : CallR X (.builtin "max") (rMaxA X.K) := CallR.or (call_max2 hc) (cr_max hc)
def rMin3 : List V → Hp → VK → Prop := fun vs H Q => ∃ i j k, vs = [.int i, .int j, .int k] ∧ Q (.int (if j < i then (if k < j then k else j) else (if k < i then k else i))) H
theorem call_min3 (hc : X.calm = true) : CallR X (.builtin "min") rMin3 := by
  intro pins s σ H xs us Q I r h
  obtain ⟨i, j, k, rfl, q⟩ := h
  cases r with
  | cons r1 r => cases r with
    | cons r2 r => cases r with
      | cons r3 r =>
        cases r
        obtain ⟨t, rfl⟩ := r1
        obtain ⟨t2, rfl⟩ := r2
        obtain ⟨t3, rfl⟩ := r3
        refine min_three_ints (I.ok.hd hc) fun h' tk hk => ?_
        refine ⟨.int _, H, I.kept hk, ?_, q⟩
        by_cases c1 : j < i
        · by_cases c2 : k < j
          · exact ⟨t3, by rw [if_pos c1, if_pos c2, if_pos c1, if_pos c2]⟩
          · exact ⟨t2, by rw [if_pos c1, if_neg c2, if_pos c1, if_neg c2]⟩
        · by_cases c2 : k < i
          · exact ⟨t3, by rw [if_neg c1, if_pos c2, if_neg c1, if_pos c2]⟩
          · exact ⟨t, by rw [if_neg c1, if_neg c2, if_neg c1, if_neg c2]⟩
def rMinA (K : PySem.W.Frag) : List V → Hp → VK → Prop := fun vs H Q => (fun vs H Q => (∃ i j, vs = [.int i, .int j] ∧ Q (.int (if j < i then j else i)) H) ∨ rMin K vs H Q) vs H Q ∨ rMin3 vs H Q
theorem call_minA (hc : X.calm = true) : CallR X (.builtin "min") (rMinA X.K) := CallR.or (CallR.or (call_min2 hc) (cr_min hc)) (call_min3 hc)
theorem cd_max : CaD K (rMaxA K) gMax := by
  intro F H vs ds w Q e vw hg q
  unfold gMax at hg
  split at hg
  · rename_i i j
    obtain ⟨x, y, rfl, hx, hy⟩ := vw.two
    cases hg
    exact .inl ⟨i, j, by rw [hx.int, hy.int], fin_int e q⟩
  · obtain ⟨x, rfl, hx⟩ := vw.one
    split at hg
    · rename_i n ns h1
      cases hg
      obtain ⟨a, us, rfl, h2, r⟩ := hx.lst
      rw [intsOf_eq h1] at r
      have := r.ints
      subst this
      refine .inr ⟨a, n :: ns, rfl, .inl h2, by simp, fun m hm hx => ?_⟩
      obtain ⟨s1, s2⟩ := imax_spec n ns
      have em : m = imax (n :: ns) := Int.le_antisymm (s2 m hm) (hx _ s1)
      rw [em]
      exact fin_int e q
    · cases hg
  · cases hg
theorem cd_min : CaD K (rMinA K) gMin := by
  intro F H vs ds w Q e vw hg q
  unfold gMin at hg
  split at hg
  · rename_i i j
    obtain ⟨x, y, rfl, hx, hy⟩ := vw.two
    cases hg
    exact .inl (.inl ⟨i, j, by rw [hx.int, hy.int], fin_int e q⟩)
  · rename_i i j k
    cases vw with
    | cons h1 h2 =>
      obtain ⟨x, y, rfl, hx, hy⟩ := h2.two
      cases hg
      exact .inr ⟨i, j, k, by rw [h1.int, hx.int, hy.int], fin_int e q⟩
  · obtain ⟨x, rfl, hx⟩ := vw.one
    split at hg
    · rename_i n ns h1
      cases hg
      obtain ⟨a, us, rfl, h2, r⟩ := hx.lst
      rw [intsOf_eq h1] at r
      have := r.ints
      subst this
      refine .inl (.inr ⟨a, n :: ns, rfl, .inl h2, by simp, fun m hm hx => ?_⟩)
      obtain ⟨s1, s2⟩ := imin_spec n ns
      have em : m = imin (n :: ns) := Int.le_antisymm (hx _ s1) (s2 m hm)
      rw [em]
      exact fin_int e q
    · cases hg
  · cases hg
end

/-! ### sorted, of ints -/
def insI (x : Int) : List Int → List Int
  | [] => [x]
  | y :: r => if x ≤ y then x :: y :: r else y :: insI x r
def sortI : List Int → List Int
  | [] => []
  | x :: r => insI x (sortI r)
theorem insI_perm (x : Int) : ∀ l : List Int, (insI x l).Perm (x :: l)
  | [] => List.Perm.refl _
  | y :: r => by
    unfold insI
    by_cases c : x ≤ y
    · rw [if_pos c]
    · rw [if_neg c]
      exact ((insI_perm x r).cons y).trans (List.Perm.swap x y r)
theorem sortI_perm : ∀ l : List Int, (sortI l).Perm l
  | [] => List.Perm.refl _
  | x :: r => (insI_perm x (sortI r)).trans ((sortI_perm r).cons x)
theorem insI_sorted (x : Int) : ∀ l : List Int, l.Pairwise (· ≤ ·) → (insI x l).Pairwise (· ≤ ·)
  | [], _ => List.pairwise_singleton _ _
  | y :: r, h => by
    obtain ⟨h1, h2⟩ := List.pairwise_cons.mp h
    unfold insI
    by_cases c : x ≤ y
    · rw [if_pos c]
      refine List.pairwise_cons.mpr ⟨fun z hz => ?_, h⟩
      rcases List.mem_cons.mp hz with rfl | hz
      · exact c
      · have := h1 z hz; omega
    · rw [if_neg c]
      refine List.pairwise_cons.mpr ⟨fun z hz => ?_, insI_sorted x r h2⟩
      rcases List.mem_cons.mp ((insI_perm x r).mem_iff.mp hz) with rfl | hz
      · omega
      · exact h1 z hz
theorem sortI_sorted : ∀ l : List Int, (sortI l).Pairwise (· ≤ ·)
  | [] => List.Pairwise.nil
  | x :: r => insI_sorted x _ (sortI_sorted r)
theorem sorted_uniq : ∀ {l m : List Int}, l.Pairwise (· ≤ ·) → m.Pairwise (· ≤ ·) → l.Perm m → l = m := fun h1 h2 p => p.eq_of_pairwise (fun a b _ _ x y => Int.le_antisymm x y) h1 h2
def gSortI : List D → Option W
  | [.lst ds] => (intsOf ds).map fun ns => .l false ((sortI ns).map D.int)
  | _ => none
theorem cd_sortI {K : PySem.W.Frag} : CaD K (rSortedI K) gSortI := by
  intro F H vs ds w Q e vw hg q
  unfold gSortI at hg
  split at hg
  · obtain ⟨x, rfl, hx⟩ := vw.one
    obtain ⟨ns, h1, rfl⟩ := Option.map_eq_some_iff.mp hg
    obtain ⟨a, us, rfl, h2, r⟩ := hx.lst
    rw [intsOf_eq h1] at r
    have := r.ints
    subst this
    refine ⟨a, ns, rfl, .inl h2, fun ns' p hp hs hn => ?_⟩
    have en : ns' = sortI ns := sorted_uniq hs (sortI_sorted ns) (hp.trans (sortI_perm ns).symm)
    subst en
    exact fin_lst e (RepDs.of_ints _) q p hn
  · cases hg

/-! ### is -/
def isNonD : D → Bool
  | .non => true
  | _ => false
def gIs : List D → Option W
  | [.bl a, .bl b] => some (.v (.bl (decide (a = b))))
  | [d, .non] => some (.v (.bl (isNonD d)))
  | _ => none
def gIsNot : List D → Option W
  | [.bl a, .bl b] => some (.v (.bl (!decide (a = b))))
  | [d, .non] => some (.v (.bl (!isNonD d)))
  | _ => none
section
variable {X : Cx} {K : PySem.W.Frag}
def rIsA : R2 := fun x y H Q => rIsB x y H Q ∨ (y = .non ∧ Q (.bl (decide (x = .non))) H)
def rIsNotA : R2 := fun x y H Q => rNotB x y H Q ∨ (y = .non ∧ Q (.bl (!decide (x = .non))) H)
theorem op_isA : OpR X (compareOp .Is) rIsA := op_isBl.or op_isN
theorem op_isNotA : OpR X (compareOp .IsNot) rIsNotA := op_notBl.or op_notN
theorem View.isNon {F H : Hp} {v : V} {d : D} (h : View K F H v d) : decide (v = .non) = isNonD d := by
  cases d with
  | lst ds => obtain ⟨a, _, rfl, _⟩ := h; rfl
  | dic ks ds => obtain ⟨a, _, rfl, _⟩ := h; rfl
  | dix k ks ds => obtain ⟨a, _, _, _, rfl, _⟩ := h; rfl
  | ins c ns ds => cases (show RepD K F v (.ins c ns ds) from h); rfl
  | non => rw [View.non h]; rfl
  | bl b => rw [View.bl h]; rfl
  | int i => rw [View.int h]; rfl
  | str x => rw [View.str h]; rfl
  | tup l => cases (show RepD K F v (.tup l) from h); rfl
  | nam a c => cases (show RepD K F v (.nam a c) from h) <;> rfl
  | ty n => cases (show RepD K F v (.ty n) from h); rfl
  | scr n => cases (show RepD K F v (.scr n) from h); rfl
theorem cd_is : CaD K (r2 rIsA) gIs := by
  intro F H vs ds w Q e vw hg q
  unfold gIs at hg
  split at hg
  · rename_i a b
    obtain ⟨x, y, rfl, hx, hy⟩ := vw.two
    cases hg
    exact ⟨_, _, rfl, .inl ⟨a, b, hx.bl, hy.bl, fin_bl e q⟩⟩
  · rename_i d
    obtain ⟨x, y, rfl, hx, hy⟩ := vw.two
    cases hg
    refine ⟨_, _, rfl, .inr ⟨hy.non, ?_⟩⟩
    rw [hx.isNon]
    exact fin_bl e q
  · cases hg
theorem cd_isNot : CaD K (r2 rIsNotA) gIsNot := by
  intro F H vs ds w Q e vw hg q
  unfold gIsNot at hg
  split at hg
  · rename_i a b
    obtain ⟨x, y, rfl, hx, hy⟩ := vw.two
    cases hg
    exact ⟨_, _, rfl, .inl ⟨a, b, hx.bl, hy.bl, fin_bl e q⟩⟩
  · rename_i d
    obtain ⟨x, y, rfl, hx, hy⟩ := vw.two
    cases hg
    refine ⟨_, _, rfl, .inr ⟨hy.non, ?_⟩⟩
    rw [hx.isNon]
    exact fin_bl e q
  · cases hg
end

/-! ### in, not in -/
def flatD : D → Bool
  | .non => true
  | .bl _ => true
  | .int _ => true
  | .str _ => true
  | _ => false
/-- what may be asked to be among the items of a list (of any data), of a tuple (of flat things) -/
def memD (x : D) : D → Option Bool
  | .lst ds => if fine 60 x && fine 60 (.lst ds) then some (ds.any fun z => deq z x) else none
  | .tup ds => if flatD x && ds.all flatD then some (ds.any fun z => deq z x) else none
  | _ => none
def gIn : List D → Option W
  | [x, c] => (memD x c).map fun b => .v (.bl b)
  | _ => none
def gNotIn : List D → Option W
  | [x, c] => (memD x c).map fun b => .v (.bl (!b))
  | _ => none
theorem flat_rep {K : PySem.W.Frag} {F : Hp} {v : V} {d : D} (h : RepD K F v d) (hf : flatD d = true) : flatV v = true := by
  cases h <;> first | rfl | cases hf
theorem eqV_rep {K : PySem.W.Frag} {F : Hp} {v u : V} {d e : D} (h : RepD K F v d) (hu : RepD K F u e) (hf : flatD d = true) (hg : flatD e = true) : eqV v u = deq d e := by
  cases h <;> (first | (exact absurd (show false = true from hf) Bool.false_ne_true) | (cases hu <;> first | rfl | cases hg))
theorem inV_rep {K : PySem.W.Frag} {F : Hp} {x : V} {d : D} (hx : RepD K F x d) (hf : flatD d = true) : ∀ {vs : List V} {ds : List D}, RepDs K F vs ds → ds.all flatD = true → inV x vs = (ds.any fun z => deq z d) ∧ vs.all flatV = true
  | _, _, .nil, _ => ⟨rfl, rfl⟩
  | _, _, .cons h r, a => by
    rw [List.all_cons, Bool.and_eq_true] at a
    obtain ⟨h1, h2⟩ := inV_rep hx hf r a.2
    unfold inV at h1 ⊢
    rw [List.any_cons, List.any_cons, h1, eqV_rep h hx a.1 hf, List.all_cons, h2, flat_rep h a.1]
    exact ⟨rfl, rfl⟩
theorem View.rep_flat {K : PySem.W.Frag} {F H : Hp} {v : V} {d : D} (h : View K F H v d) (hf : flatD d = true) : RepD K F v d := by
  cases d <;> first | exact h | cases hf
def rInA (K : PySem.W.Frag) : R2 := fun x y H Q => rIn K false x y H Q ∨ rInD K x y H Q
def rNotInA (K : PySem.W.Frag) : R2 := fun x y H Q => rIn K true x y H Q ∨ rNotInD K x y H Q
theorem op_inA {X : Cx} (hu : X.A.units + 65 < cLine) : OpR X (compareOp .In) (rInA X.K) := op_in_seq.or (op_inD hu)
theorem op_notInA {X : Cx} (hu : X.A.units + 65 < cLine) : OpR X (compareOp .NotIn) (rNotInA X.K) := op_notIn_seq.or (op_notInD hu)
theorem any_toPys (d : D) : ∀ ds : List D, ((toPys ds).any fun z => PyData.eqv z (toPy d)) = ds.any fun z => deq z d
  | [] => rfl
  | x :: r => by rw [toPys, List.any_cons, List.any_cons, any_toPys d r]; rfl
theorem cd_in {K : PySem.W.Frag} : CaD K (r2 (rInA K)) gIn := by
  intro F H vs ds w Q e vw hg q
  unfold gIn at hg
  split at hg
  · rename_i d c
    obtain ⟨x, y, rfl, hx, hy⟩ := vw.two
    obtain ⟨b, h1, rfl⟩ := Option.map_eq_some_iff.mp hg
    unfold memD at h1
    split at h1
    · rename_i ds
      split at h1
      · rename_i hf
        cases h1
        obtain ⟨f1, f2⟩ := Bool.and_eq_true_iff.mp hf
        have hd := hy.dp e f2
        refine ⟨_, _, rfl, .inr ⟨toPy d, toPys ds, hx.dp e f1, hd, fine_shaped f1, fine_shaped f2, ?_⟩⟩
        rw [any_toPys]
        exact fin_bl e q
      · cases h1
    · rename_i ds
      split at h1
      · rename_i hf
        cases h1
        obtain ⟨f1, f2⟩ := Bool.and_eq_true_iff.mp hf
        obtain ⟨a, us, rfl, _, h2, r⟩ := hy.tup e
        have rx := hx.rep_flat f1
        obtain ⟨g1, g2⟩ := inV_rep rx f1 r f2
        refine ⟨_, _, rfl, .inl ⟨a, us, rfl, .inr h2, flat_rep rx f1, g2, ?_⟩⟩
        rw [if_neg Bool.false_ne_true, g1]
        exact fin_bl e q
      · cases h1
    · cases h1
  · cases hg
theorem cd_notIn {K : PySem.W.Frag} : CaD K (r2 (rNotInA K)) gNotIn := by
  intro F H vs ds w Q e vw hg q
  unfold gNotIn at hg
  split at hg
  · rename_i d c
    obtain ⟨x, y, rfl, hx, hy⟩ := vw.two
    obtain ⟨b, h1, rfl⟩ := Option.map_eq_some_iff.mp hg
    unfold memD at h1
    split at h1
    · rename_i ds
      split at h1
      · rename_i hf
        cases h1
        obtain ⟨f1, f2⟩ := Bool.and_eq_true_iff.mp hf
        have hd := hy.dp e f2
        refine ⟨_, _, rfl, .inr ⟨toPy d, toPys ds, hx.dp e f1, hd, fine_shaped f1, fine_shaped f2, ?_⟩⟩
        rw [any_toPys]
        exact fin_bl e q
      · cases h1
    · rename_i ds
      split at h1
      · rename_i hf
        cases h1
        obtain ⟨f1, f2⟩ := Bool.and_eq_true_iff.mp hf
        obtain ⟨a, us, rfl, _, h2, r⟩ := hy.tup e
        have rx := hx.rep_flat f1
        obtain ⟨g1, g2⟩ := inV_rep rx f1 r f2
        refine ⟨_, _, rfl, .inl ⟨a, us, rfl, .inr h2, flat_rep rx f1, g2, ?_⟩⟩
        rw [if_pos rfl, g1]
        exact fin_bl e q
      · cases h1
    · cases h1
  · cases hg

/-! ### isinstance -/
def tyName : D → String
  | .non => "NoneType"
  | .bl _ => "bool"
  | .int _ => "int"
  | .str _ => "str"
  | .tup _ => "tuple"
  | .lst _ => "list"
  | _ => ""
def isTy (d : D) (u : String) : Option Bool := match d with
  | .non => if u = "int" ∨ u = "bool" ∨ u = "str" ∨ u = "tuple" ∨ u = "list" ∨ u = "dict" then some false else none
  | .bl _ => if u = "int" ∨ u = "bool" then some true else if u = "str" ∨ u = "tuple" ∨ u = "list" ∨ u = "dict" then some false else none
  | .int _ => if u = "int" then some true else if u = "bool" ∨ u = "str" ∨ u = "tuple" ∨ u = "list" ∨ u = "dict" then some false else none
  | .str _ => if u = "str" then some true else if u = "bool" ∨ u = "int" ∨ u = "tuple" ∨ u = "list" ∨ u = "dict" then some false else none
  | .tup _ => if u = "tuple" then some true else if u = "bool" ∨ u = "int" ∨ u = "str" ∨ u = "list" ∨ u = "dict" then some false else none
  | .lst _ => if u = "list" then some true else if u = "bool" ∨ u = "int" ∨ u = "str" ∨ u = "tuple" ∨ u = "dict" then some false else none
  | _ => none
def gIsi : List D → Option W
  | [d, .ty u] => (isTy d u).map fun b => .v (.bl b)
  | _ => none
theorem kit_all (K : PySem.W.Frag) : ∀ t ∈ ["NoneType", "bool", "int", "str", "tuple", "list"], ∀ u ∈ ["bool", "int", "str", "tuple", "list", "dict"], PySem.W.kitOne K (.type t) (.type u) = some (t == u || (t == "bool" && u == "int")) := by
  intro t ht u hu
  simp only [List.mem_cons, List.mem_nil_iff, or_false] at ht hu
  rcases ht with rfl | rfl | rfl | rfl | rfl | rfl <;> rcases hu with rfl | rfl | rfl | rfl | rfl | rfl <;> rfl
end DL

namespace DL
open PySem PySem.Spec PyProof.Rows L2

section
variable {K : PySem.W.Frag} {F H : Hp}
theorem tyx_list {a : Addr} {vs : List V} (h : Rd H a (.lst vs)) : TyX K H (.ref a) (.type "list") := by
  rcases h with h | ⟨o, h⟩
  · exact .base (.lst h)
  · exact .base (.frz h)
theorem tyx_tuple {a : Addr} {vs : List V} (h : SqT K H a vs) : TyX K H (.ref a) (.type "tuple") := by
  rcases h with (h | ⟨o, h⟩) | ⟨o, its, n, h, c, _⟩
  · exact .base (.tup h)
  · exact .fTuple h
  · exact .kTuple h c
theorem View.ty {v : V} {d : D} (e : Same F H) (h : View K F H v d) {u : String} {b : Bool} (hb : isTy d u = some b) : ∃ t, TyX K H v (.type t) ∧ PySem.W.kitOne K (.type t) (.type u) = some b := by
  have key : ∀ t ∈ ["NoneType", "bool", "int", "str", "tuple", "list"], ∀ u ∈ ["bool", "int", "str", "tuple", "list", "dict"], PySem.W.kitOne K (.type t) (.type u) = some (t == u || (t == "bool" && u == "int")) := kit_all K
  cases d with
  | non =>
    refine ⟨"NoneType", ?_, ?_⟩
    · rw [h.non]; exact .base .non
    · unfold isTy at hb
      dsimp only at hb
      split at hb
      · rename_i hu
        cases hb
        rcases hu with rfl | rfl | rfl | rfl | rfl | rfl <;> exact key _ (by decide) _ (by decide)
      · cases hb
  | bl x =>
    refine ⟨"bool", ?_, ?_⟩
    · rw [h.bl]; exact .base (.bl x)
    · unfold isTy at hb
      dsimp only at hb
      split at hb
      · rename_i hu
        cases hb
        rcases hu with rfl | rfl <;> exact key _ (by decide) _ (by decide)
      · split at hb
        · rename_i hu
          cases hb
          rcases hu with rfl | rfl | rfl | rfl <;> exact key _ (by decide) _ (by decide)
        · cases hb
  | int x =>
    refine ⟨"int", ?_, ?_⟩
    · rw [h.int]; exact .base (.int x)
    · unfold isTy at hb
      dsimp only at hb
      split at hb
      · rename_i hu
        cases hb
        subst hu
        exact key _ (by decide) _ (by decide)
      · split at hb
        · rename_i hu
          cases hb
          rcases hu with rfl | rfl | rfl | rfl | rfl <;> exact key _ (by decide) _ (by decide)
        · cases hb
  | str x =>
    refine ⟨"str", ?_, ?_⟩
    · rw [h.str]; exact .base (.str x)
    · unfold isTy at hb
      dsimp only at hb
      split at hb
      · rename_i hu
        cases hb
        subst hu
        exact key _ (by decide) _ (by decide)
      · split at hb
        · rename_i hu
          cases hb
          rcases hu with rfl | rfl | rfl | rfl | rfl <;> exact key _ (by decide) _ (by decide)
        · cases hb
  | tup x =>
    refine ⟨"tuple", ?_, ?_⟩
    · obtain ⟨a, vs, rfl, _, q, _⟩ := h.tup e
      exact tyx_tuple q
    · unfold isTy at hb
      dsimp only at hb
      split at hb
      · rename_i hu
        cases hb
        subst hu
        exact key _ (by decide) _ (by decide)
      · split at hb
        · rename_i hu
          cases hb
          rcases hu with rfl | rfl | rfl | rfl | rfl <;> exact key _ (by decide) _ (by decide)
        · cases hb
  | lst x =>
    refine ⟨"list", ?_, ?_⟩
    · obtain ⟨a, vs, rfl, q, _⟩ := h.lst
      exact tyx_list q
    · unfold isTy at hb
      dsimp only at hb
      split at hb
      · rename_i hu
        cases hb
        subst hu
        exact key _ (by decide) _ (by decide)
      · split at hb
        · rename_i hu
          cases hb
          rcases hu with rfl | rfl | rfl | rfl | rfl <;> exact key _ (by decide) _ (by decide)
        · cases hb
  | nam x c => cases hb
  | dic ks ds => cases hb
  | dix k ks ds => cases hb
  | ins c ns ds => cases hb
  | ty x => cases hb
  | scr x => cases hb
theorem cd_isi : CaD K (rIsi K) gIsi := by
  intro F H vs ds w Q e vw hg q
  unfold gIsi at hg
  split at hg
  · rename_i d u
    obtain ⟨x, y, rfl, hx, hy⟩ := vw.two
    obtain ⟨b, h1, rfl⟩ := Option.map_eq_some_iff.mp hg
    obtain ⟨t, h2, h3⟩ := hx.ty e h1
    cases (show RepD K F y (.ty u) from hy)
    exact ⟨x, .ty u, .type t, .type u, b, rfl, .ty u, h2, h3, fin_bl e q⟩
  · cases hg
end

/-! ### a op b op' c -/
def vChain (g g' : List D → Option W) (fa fb fc : M U) : M U := fun env => (fa env).bind fun u1 e1 => (fb e1).bind fun u2 e2 => match dat e2 u1, dat e2 u2 with
  | some d1, some d2 => match g [d1, d2] with
    | some (.v (.bl k)) => if k then (fc e2).bind fun u3 e3 => (match dat e3 u2, dat e3 u3 with
        | some d2, some d3 => (match g' [d2, d3] with
          | some w => .ok (.w w) e3
          | none => .stuck)
        | _, _ => .stuck) else .ok (.w (.v (.bl false))) e2
    | _ => .stuck
  | _, _ => .stuck
section
variable {X : Cx} {Wx : WX} {a b c : Expr} {fa fb fc : M U} {pos : Pos} {g g' : List D → Option W}
theorem chain_sem {K : PySem.W.Frag} {mg : Str → Option Value} {r r' : R2} {σ : L2.St} {H : Hp} {Q : VK} (cd : CaD K (r2 r) g) (cd' : CaD K (r2 r') g') (h : tOf K mg Wx (vChain g g' fa fb fc) σ H Q) :
    tChain r r' (tOf K mg Wx fa) (tOf K mg Wx fb) (tOf K mg Wx fc) σ H Q := by
  obtain ⟨F, env, own, S, h⟩ := h
  unfold vChain at h
  refine tOf_use S (fun u1 env1 e1 v1 F1 H1 own1 p1 O1 => ?_) (fun c env1 e1 C F1 H1 own1 => ?_) (fun e1 => ?_)
  · rw [e1, R.bind_ok] at h
    refine tOf_use O1.S (fun u2 env2 e2 v2 F2 H2 own2 p2 O2 => ?_) (fun c env2 e2 C F2 H2 own2 hm O2 => ?_) (fun e2 => ?_)
    · rw [e2, R.bind_ok] at h
      have OO := O1.out2 O2
      cases e3 : dat env2 u1 with
      | none => rw [e3] at h; exact h.elim
      | some d1 =>
        cases e4 : dat env2 u2 with
        | none => rw [e3, e4] at h; exact h.elim
        | some d2 =>
          rw [e3, e4] at h
          dsimp only at h
          cases e5 : g [d1, d2] with
          | none => rw [e5] at h; exact h.elim
          | some w =>
            rw [e5] at h
            cases w with
            | l _ _ => exact h.elim
            | m _ _ => exact h.elim
            | x _ => exact h.elim
            | v d =>
              cases d with
              | bl k =>
                dsimp only at h
                refine r2_two (cd F2 H2 [v1, v2] [d1, d2] _ _ OO.S.ex (.cons (RepU.view OO.S OO.r1 e3) (.cons (RepU.view OO.S OO.r2 e4) .nil)) e5 fun v F' H' p gr rw' => ?_)
                obtain ⟨hp, rr⟩ := rw'
                cases rr
                refine ⟨k, rfl, ?_⟩
                have O3 : Out K F H own σ u2 v2 env2 F' H' own2 p2 := by
                  have O2' := OO.snd
                  refine ⟨gr.sit OO.S, ?_, O2'.d, ?_⟩
                  · have st := (gr.step own2).sub (fp2 := all own2) fun _ z => .inl z
                    exact (RepU.stepU O2'.r O2'.d st).1
                  · have st := (gr.step own2).sub (fp2 := all own2) fun _ z => .inl z
                    exact O2'.s.trans (st.more p2)
                cases k with
                | false =>
                  rw [if_neg Bool.false_ne_true] at h ⊢
                  exact h _ _ _ _ _ (gr.out OO.drop ⟨hp, .bl false⟩)
                | true =>
                  rw [if_pos rfl] at h ⊢
                  refine tOf_use O3.S (fun u3 env3 e6 v3 F3 H3 own3 p3 O4 => ?_) (fun c env3 e6 C F3 H3 own3 hm O4 => ?_) (fun e6 => ?_)
                  · rw [e6, R.bind_ok] at h
                    have O5 := O3.out2 O4
                    cases e7 : dat env3 u2 with
                    | none => rw [e7] at h; exact h.elim
                    | some d2' =>
                      cases e8 : dat env3 u3 with
                      | none => rw [e7, e8] at h; exact h.elim
                      | some d3 =>
                        rw [e7, e8] at h
                        dsimp only at h
                        cases e9 : g' [d2', d3] with
                        | none => rw [e9] at h; exact h.elim
                        | some w =>
                          rw [e9] at h
                          refine r2_two (cd' F3 H3 [v2, v3] [d2', d3] _ _ O5.S.ex (.cons (RepU.view O5.S O5.r1 e7) (.cons (RepU.view O5.S O5.r2 e8) .nil)) e9 fun v F'' H'' p gr' rw'' => ?_)
                          exact h _ _ _ _ _ (gr'.out O5.drop rw'')
                  · rw [e6] at h
                    exact h C F3 H3 own3 hm (O3.drop.trans O4)
                  · rw [e6] at h
                    exact h
              | _ => exact h.elim
    · rw [e2] at h
      exact h C F2 H2 own2 hm (O1.drop.trans O2)
    · rw [e2] at h
      exact h
  · rw [e1] at h
    exact h C F1 H1 own1
  · rw [e1] at h
    exact h
theorem e_chain {op op' : CmpOp} {r r' : R2} (ho : OpR X (compareOp op) r) (ho' : OpR X (compareOp op') r') (cd : CaD X.K (r2 r) g) (cd' : CaD X.K (r2 r') g') (ha : EvS X Wx a fa) (hb : EvS X Wx b fb) (hc : EvS X Wx c fc)
    (hm : lastMarks [op, op'] [b, c] = false := by with_unfolding_all rfl) : EvS X Wx (.Compare a [op, op'] [b, c] pos) (vChain g g' fa fb fc) :=
  PE.imp (pe_chain ho ho' ha hb hc hm) fun σ H Q h => chain_sem cd cd' h
theorem t_chain {op op' : CmpOp} {r r' : R2} (ho : OpR X (compareOp op) r) (ho' : OpR X (compareOp op') r') (cd : CaD X.K (r2 r) g) (cd' : CaD X.K (r2 r') g') (ha : EvS X Wx a fa) (hb : EvS X Wx b fb) (hc : EvS X Wx c fc)
    (hm : lastMarks [op, op'] [b, c] = false := by with_unfolding_all rfl) : TtS X Wx (.Compare a [op, op'] [b, c] pos) (tst (vChain g g' fa fb fc)) :=
  PT.imp (pt_chain ho ho' ha hb hc hm) fun σ H Q h => chain_sem cd cd' (tOf_tst h)
end
end DL

namespace DL
open PySem PySem.Spec PyProof.Rows L2

/-! ### what a def tells -/
inductive RF where
  | ok (w : W) (ws : List W)
  | raise (c : Str) (ws : List W)
  | stuck
abbrev ASit (K : PySem.W.Frag) (F H : Hp) (vs : List V) (ws : List W) (own : Nat → Fp) : Prop := Sit K F (vs.map some) H (ws.map some) own
structure OutF (K : PySem.W.Frag) (F H : Hp) (own : Nat → Fp) (vs : List V) (ws : List W) (w : W) (v : V) (F' H' : Hp) (own' : Nat → Fp) (p : Fp) : Prop where
  S : ASit K F' H' vs ws own'
  r : RepW K F' H' v w p
  d : ∀ a, p a → ¬ all own' a
  s : Step F H (all own) F' H' (fun a => all own' a ∨ p a)
def spOf (K : PySem.W.Frag) (mg : Str → Option Value) (n : Nat) (g : List W → RF) : Sp := fun vs H Q E => vs.length = n ∧ ∃ F ws own, ASit K F H vs ws own ∧ match g ws with
  | .ok w ws' => ∀ v F' H' own' p, OutF K F H own vs ws' w v F' H' own' p → Q v H'
  | .raise c ws' => ∀ C F' H' own', mg c = some (.ref C) → ASit K F' H' vs ws' own' → Step F H (all own) F' H' (all own') → E (.ref C) none H'
  | .stuck => False
abbrev FnS (P : Program) (w : World) (K : PySem.W.Frag) (mg : Str → Option Value) (base : Heap) (k : Nat) (f : Addr) (fd : FuncData) (ps : List Str) (g : List W → RF) : Prop :=
  FnOk P w K mg base (L2.CX P w) k f fd ps (spOf K mg ps.length g)
/-- a def that is known to tell g tells whatever g tells where it isn't stuck -/
theorem FnS.weak {P : Program} {w : World} {K : PySem.W.Frag} {mg : Str → Option Value} {base : Heap} {k : Nat} {f : Addr} {fd : FuncData} {ps : List Str} {g g' : List W → RF} (h : FnS P w K mg base k f fd ps g) (e : ∀ ws, g' ws ≠ .stuck → g ws = g' ws) :
    FnS P w K mg base k f fd ps g' := FnOk.imp h fun vs H Q E q => by
  obtain ⟨hl, F, ws, own, S, q⟩ := q
  refine ⟨hl, F, ws, own, S, ?_⟩
  by_cases hs : g' ws = .stuck
  · rw [hs] at q; exact q.elim
  · rw [e ws hs]; exact q

/-! ### handing in arguments -/
def frzM : List (Option Nat) → DEnv → List U → Option (List (Option D) × DEnv)
  | [], env, [] => some ([], env)
  | none :: ms, env, u :: us => match frz1 env u with
    | some (d, e1) => match frzM ms e1 us with
      | some (l, e2) => some (some d :: l, e2)
      | none => none
    | none => none
  | some i :: ms, env, .b j :: us => if i = j then (match frzM ms env us with
      | some (l, e2) => some (none :: l, e2)
      | none => none) else none
  | _, _, _ => none
def takeW (env : DEnv) : List (Option Nat) → List (Option D) → Option (List W)
  | [], [] => some []
  | none :: ms, some d :: l => match takeW env ms l with
    | some ws => some (.v d :: ws)
    | none => none
  | some i :: ms, none :: l => match env[i]? with
    | some (some (.l _ ds)) => (match takeW env ms l with
      | some ws => some (.l true ds :: ws)
      | none => none)
    | some (some (.x (.o _ c ns fs))) => (match takeW env ms l with
      | some ws => some (.x (.o true c ns fs) :: ws)
      | none => none)
    | _ => none
  | _, _ => none
def putW : List (Option Nat) → List W → DEnv → Option DEnv
  | [], [], env => some env
  | none :: ms, _ :: ws, env => putW ms ws env
  | some i :: ms, .l _ ds :: ws, env => match env[i]? with
    | some (some (.l b _)) => putW ms ws (env.set i (some (.l b ds)))
    | _ => none
  | some i :: ms, .x (.o _ c ns fs) :: ws, env => match env[i]? with
    | some (some (.x (.o b _ _ _))) => putW ms ws (env.set i (some (.x (.o b c ns fs))))
    | _ => none
  | _, _, _ => none
def callF (g : List W → RF) (ms : List (Option Nat)) (fs : List (M U)) : M U := fun env => (evs fs env).bind fun us e1 => match frzM ms e1 us with
  | some (l, e2) => match takeW e2 ms l with
    | some ws => match g ws with
      | .ok w ws' => (match putW ms ws' e2 with
        | some e3 => .ok (.w w) e3
        | none => .stuck)
      | .raise c ws' => (match putW ms ws' e2 with
        | some e3 => .raise c e3
        | none => .stuck)
      | .stuck => .stuck
    | none => .stuck
  | none => .stuck

section
variable {K : PySem.W.Frag} {H : Hp} {σ : L2.St}
/-- how the handed in things lie behind the freezing -/
inductive Hand (K : PySem.W.Frag) (F : Hp) (σ : L2.St) : List (Option Nat) → List V → List (Option D) → Prop where
  | nil : Hand K F σ [] [] []
  | dat {ms : List (Option Nat)} {vs : List V} {l : List (Option D)} {v : V} {d : D} : RepD K F v d → Hand K F σ ms vs l → Hand K F σ (none :: ms) (v :: vs) (some d :: l)
  | bor {ms : List (Option Nat)} {vs : List V} {l : List (Option D)} {v : V} {i : Nat} : σ[i]? = some (some v) → Hand K F σ ms vs l → Hand K F σ (some i :: ms) (v :: vs) (none :: l)
theorem Hand.mono {F F' : Hp} (e : Same F F') : ∀ {ms : List (Option Nat)} {vs : List V} {l : List (Option D)}, Hand K F σ ms vs l → Hand K F' σ ms vs l
  | _, _, _, .nil => .nil
  | _, _, _, .dat r h => .dat (r.mono e) (h.mono e)
  | _, _, _, .bor r h => .bor r (h.mono e)
theorem Hand.len {F : Hp} : ∀ {ms : List (Option Nat)} {vs : List V} {l : List (Option D)}, Hand K F σ ms vs l → ms.length = vs.length
  | _, _, _, .nil => rfl
  | _, _, _, .dat _ h => by rw [List.length_cons, List.length_cons, h.len]
  | _, _, _, .bor _ h => by rw [List.length_cons, List.length_cons, h.len]
theorem Hand.slot {F : Hp} : ∀ {ms : List (Option Nat)} {vs : List V} {l : List (Option D)} {j i : Nat}, Hand K F σ ms vs l → ms[j]? = some (some i) → ∃ v, vs[j]? = some v ∧ σ[i]? = some (some v)
  | _, _, _, j, _, .nil, e => by simp at e
  | _, _, _, 0, _, .dat _ h, e => by simp at e
  | _, _, _, j + 1, _, .dat _ h, e => by
    obtain ⟨v, h1, h2⟩ := Hand.slot (j := j) h (by simpa using e)
    exact ⟨v, by simpa using h1, h2⟩
  | _, _, _, 0, _, .bor r h, e => by simp at e; subst e; exact ⟨_, rfl, r⟩
  | _, _, _, j + 1, _, .bor _ h, e => by
    obtain ⟨v, h1, h2⟩ := Hand.slot (j := j) h (by simpa using e)
    exact ⟨v, by simpa using h1, h2⟩
theorem frzM_ok : ∀ {ms : List (Option Nat)} {us : List U} {vs : List V} {l : List (Option D)} {F : Hp} {env env' : DEnv} {own : Nat → Fp} {p : Fp}, Sit K F σ H env own → RepUs K F H σ vs us p → (∀ a, p a → ¬ all own a) → frzM ms env us = some (l, env') →
    ∃ F' own', Sit K F' σ H env' own' ∧ Hand K F' σ ms vs l ∧ Step F H (fun a => all own a ∨ p a) F' H (all own')
  | [], [], [], l, F, env, env', own, p, S, r, dj, h => by
    cases h
    exact ⟨F, own, S, .nil, Step.refl.sub fun _ z => .inl z⟩
  | none :: ms, u :: us, v :: vs, l, F, env, env', own, p, S, r, dj, h => by
    obtain ⟨p1, p2, hp, hd, r1, r2⟩ := r
    have h : (match frz1 env u with | some (d, e1) => (match frzM ms e1 us with | some (l, e2) => some (some d :: l, e2) | none => none) | none => none) = some (l, env') := h
    split at h
    · rename_i d e1 h1
      split at h
      · rename_i l2 e2 h2
        cases h
        obtain ⟨F1, own1, S1, rd1, s1⟩ := frz1_ok S r1 (fun a q => dj a ((hp a).mpr (.inl q))) h1
        obtain ⟨r2', dj2⟩ := RepUs.stepU r2 (fun a q z => by
          rcases z with z | z
          · exact dj a ((hp a).mpr (.inr q)) z
          · exact hd a z q) s1
        obtain ⟨F2, own2, S2, rd2, s2⟩ := frzM_ok S1 r2' dj2 h2
        refine ⟨F2, own2, S2, .dat (rd1.mono s2.ex) rd2, ((s1.more p2).trans s2).sup fun a z => ?_⟩
        rcases z with (z | z) | z
        · exact .inl z
        · exact .inr ((hp a).mpr (.inl z))
        · exact .inr ((hp a).mpr (.inr z))
      · cases h
    · cases h
  | some i :: ms, .b j :: us, v :: vs, l, F, env, env', own, p, S, r, dj, h => by
    obtain ⟨p1, p2, hp, hd, r1, r2⟩ := r
    replace h : (if i = j then (match frzM ms env us with | some (l, e2) => some (none :: l, e2) | none => none) else none) = some (l, env') := h
    by_cases hij : i = j
    · rw [if_pos hij] at h
      subst hij
      split at h
      · rename_i l2 e2 h2
        cases h
        obtain ⟨F2, own2, S2, rd2, s2⟩ := frzM_ok S r2 (fun a q => dj a ((hp a).mpr (.inr q))) h2
        refine ⟨F2, own2, S2, .bor r1.2 rd2, s2.sup fun a z => z.imp_right fun y => (hp a).mpr (.inr y)⟩
      · cases h
    · rw [if_neg hij] at h; cases h
  | some _ :: _, .w _ :: _, _, _, _, _, _, _, _, _, _, _, h => by cases h
  | [], _ :: _, _, _, _, _, _, _, _, _, _, _, h => by cases h
  | none :: _, [], _, _, _, _, _, _, _, _, _, _, h => by cases h
  | some _ :: _, [], _, _, _, _, _, _, _, _, _, _, h => by cases h
  | [], [], _ :: _, _, _, _, _, _, _, _, r, _, _ => r.elim
  | none :: _, _ :: _, [], _, _, _, _, _, _, _, r, _, _ => r.elim
  | some _ :: _, .b _ :: _, [], _, _, _, _, _, _, _, r, _, _ => r.elim
/-- what is taken -/
theorem takeW_ok {F : Hp} {env : DEnv} {own : Nat → Fp} (S : Sit K F σ H env own) : ∀ {ms : List (Option Nat)} {vs : List V} {l : List (Option D)} {ws : List W}, Hand K F σ ms vs l → takeW env ms l = some ws →
    ws.length = vs.length ∧ ∀ (j : Nat) (w : W), ws[j]? = some w → ∃ v, vs[j]? = some v ∧ ((ms[j]? = some none ∧ ∃ d, w = .v d ∧ RepD K F v d) ∨ ∃ i, ms[j]? = some (some i) ∧ RepW K F H v w (own i) ∧ ∃ w', env[i]? = some (some w'))
  | _, _, _, _, .nil, h => by
    cases h
    exact ⟨rfl, fun j w e => by simp at e⟩
  | _, _, _, ws, .dat (ms := ms) (vs := vs) (l := l) (v := v) (d := d) r hh, h => by
    have h : (match takeW env ms l with | some ws => some (W.v d :: ws) | none => none) = some ws := h
    split at h
    · rename_i ws2 h2
      cases h
      obtain ⟨hl, hj⟩ := takeW_ok S hh h2
      refine ⟨by rw [List.length_cons, List.length_cons, hl], fun j w e => ?_⟩
      cases j with
      | zero =>
        simp at e
        subst e
        exact ⟨v, rfl, .inl ⟨rfl, d, rfl, r⟩⟩
      | succ j => exact hj j w (by simpa using e)
    · cases h
  | _, _, _, ws, .bor (ms := ms) (vs := vs) (l := l) (v := v) (i := i) r hh, h => by
    have h : (match env[i]? with | some (some (.l _ ds)) => (match takeW env ms l with | some ws => some (W.l true ds :: ws) | none => none) | some (some (.x (.o _ c ns fs))) => (match takeW env ms l with | some ws => some (W.x (.o true c ns fs) :: ws) | none => none) | _ => none) = some ws := h
    split at h
    · rename_i b ds hw
      split at h
      · rename_i ws2 h2
        cases h
        obtain ⟨hl, hj⟩ := takeW_ok S hh h2
        refine ⟨by rw [List.length_cons, List.length_cons, hl], fun j w e => ?_⟩
        cases j with
        | zero =>
          simp at e
          subst e
          obtain ⟨v', e1, r'⟩ := S.rep i _ hw
          rw [r] at e1
          cases e1
          exact ⟨v, rfl, .inr ⟨i, rfl, r', _, hw⟩⟩
        | succ j => exact hj j w (by simpa using e)
      · cases h
    · rename_i b c ns fs hw
      split at h
      · rename_i ws2 h2
        cases h
        obtain ⟨hl, hj⟩ := takeW_ok S hh h2
        refine ⟨by rw [List.length_cons, List.length_cons, hl], fun j w e => ?_⟩
        cases j with
        | zero =>
          simp at e
          subst e
          obtain ⟨v', e1, r'⟩ := S.rep i _ hw
          rw [r] at e1
          cases e1
          exact ⟨v, rfl, .inr ⟨i, rfl, r', _, hw⟩⟩
        | succ j => exact hj j w (by simpa using e)
      · cases h
    · cases h
/-- as good in the place of the other -/
def SameRep (w w' : W) : Prop := ∀ (K : PySem.W.Frag) (F H : Hp) (v : V) (p : Fp), RepW K F H v w p → RepW K F H v w' p
/-- what is put back -/
theorem putW_ok : ∀ {ms : List (Option Nat)} {ws : List W} {env env' : DEnv}, (ms.filterMap id).Nodup → putW ms ws env = some env' →
    env'.length = env.length ∧ (∀ i, (∀ j : Nat, ms[j]? ≠ some (some i)) → env'[i]? = env[i]?) ∧ ∀ (j i : Nat), ms[j]? = some (some i) → ∃ w w', ws[j]? = some w ∧ env'[i]? = some (some w') ∧ SameRep w w'
  | [], [], env, env', nd, h => by
    cases h
    exact ⟨rfl, fun _ _ => rfl, fun j i e => by simp at e⟩
  | none :: ms, w :: ws, env, env', nd, h => by
    obtain ⟨h1, h2, h3⟩ := putW_ok (ms := ms) (ws := ws) (env := env) (env' := env') (by simpa using nd) h
    refine ⟨h1, fun i hi => h2 i fun j e => hi (j + 1) (by simpa using e), fun j i e => ?_⟩
    cases j with
    | zero => simp at e
    | succ j =>
      obtain ⟨w1, w2, e1, e2, e3⟩ := h3 j i (by simpa using e)
      exact ⟨w1, w2, by simpa using e1, e2, e3⟩
  | some i :: ms, .x (.o b0 c ns fs) :: ws, env, env', nd, h => by
    have h : (match env[i]? with | some (some (.x (.o b _ _ _))) => putW ms ws (env.set i (some (.x (.o b c ns fs)))) | _ => none) = some env' := h
    have nd' : i ∉ ms.filterMap id ∧ (ms.filterMap id).Nodup := by
      have : (i :: ms.filterMap id).Nodup := by simpa using nd
      exact List.nodup_cons.mp this
    split at h
    · rename_i b c0 ns0 fs0 hw
      obtain ⟨h1, h2, h3⟩ := putW_ok nd'.2 h
      have hi : i < env.length := (List.getElem?_eq_some_iff.mp hw).1
      have no : ∀ j : Nat, ms[j]? ≠ some (some i) := fun j e => nd'.1 (List.mem_filterMap.mpr ⟨some i, List.mem_of_getElem? e, rfl⟩)
      refine ⟨by rw [h1, List.length_set], fun k hk => ?_, fun j k e => ?_⟩
      · have ne : k ≠ i := fun z => hk 0 (by simp [z])
        rw [h2 k fun j e => hk (j + 1) (by simpa using e), List.getElem?_set_ne (Ne.symm ne)]
      · cases j with
        | zero =>
          simp at e
          subst e
          refine ⟨.x (.o b0 c ns fs), .x (.o b c ns fs), rfl, ?_, fun _ _ _ _ _ r => r⟩
          rw [h2 i no, List.getElem?_set_self hi]
        | succ j =>
          obtain ⟨w1, w2, e1, e2, e3⟩ := h3 j k (by simpa using e)
          exact ⟨w1, w2, by simpa using e1, e2, e3⟩
    · cases h
  | some i :: ms, .l b0 ds :: ws, env, env', nd, h => by
    have h : (match env[i]? with | some (some (.l b _)) => putW ms ws (env.set i (some (.l b ds))) | _ => none) = some env' := h
    have nd' : i ∉ ms.filterMap id ∧ (ms.filterMap id).Nodup := by
      have : (i :: ms.filterMap id).Nodup := by simpa using nd
      exact List.nodup_cons.mp this
    split at h
    · rename_i b ds0 hw
      obtain ⟨h1, h2, h3⟩ := putW_ok nd'.2 h
      have hi : i < env.length := (List.getElem?_eq_some_iff.mp hw).1
      have no : ∀ j : Nat, ms[j]? ≠ some (some i) := fun j e => nd'.1 (List.mem_filterMap.mpr ⟨some i, List.mem_of_getElem? e, rfl⟩)
      refine ⟨by rw [h1, List.length_set], fun k hk => ?_, fun j k e => ?_⟩
      · have ne : k ≠ i := fun z => hk 0 (by simp [z])
        rw [h2 k fun j e => hk (j + 1) (by simpa using e), List.getElem?_set_ne (Ne.symm ne)]
      · cases j with
        | zero =>
          simp at e
          subst e
          refine ⟨.l b0 ds, .l b ds, rfl, ?_, fun _ _ _ _ _ r => r⟩
          rw [h2 i no, List.getElem?_set_self hi]
        | succ j =>
          obtain ⟨w1, w2, e1, e2, e3⟩ := h3 j k (by simpa using e)
          exact ⟨w1, w2, by simpa using e1, e2, e3⟩
    · cases h
  | some _ :: _, .v _ :: _, _, _, _, h => by cases h
  | some _ :: _, .m _ _ :: _, _, _, _, h => by cases h
  | some _ :: _, .x (.d _ _ _) :: _, _, _, _, h => by cases h
  | some _ :: _, .x (.t _) :: _, _, _, _, h => by cases h
  | [], _ :: _, _, _, _, h => by cases h
  | none :: _, [], _, _, _, h => by cases h
  | some _ :: _, [], _, _, _, h => by cases h
theorem ms_inj : ∀ {ms : List (Option Nat)} {j k i : Nat}, (ms.filterMap id).Nodup → ms[j]? = some (some i) → ms[k]? = some (some i) → j = k
  | [], j, k, i, _, e, _ => by simp at e
  | none :: ms, 0, _, i, _, e, _ => by simp at e
  | none :: ms, j + 1, 0, i, _, _, e => by simp at e
  | none :: ms, j + 1, k + 1, i, nd, e1, e2 => by
    have q := ms_inj (ms := ms) (j := j) (k := k) (i := i) (by simpa using nd) (by simpa using e1) (by simpa using e2)
    omega
  | some x :: ms, 0, 0, i, _, _, _ => rfl
  | some x :: ms, 0, k + 1, i, nd, e1, e2 => by
    have : (x :: ms.filterMap id).Nodup := by simpa using nd
    simp at e1
    subst e1
    have hm : x ∈ ms.filterMap id := List.mem_filterMap.mpr ⟨some x, List.mem_of_getElem? (i := k) (by simpa using e2), rfl⟩
    exact absurd hm (List.nodup_cons.mp this).1
  | some x :: ms, j + 1, 0, i, nd, e1, e2 => by
    have : (x :: ms.filterMap id).Nodup := by simpa using nd
    simp at e2
    subst e2
    have hm : x ∈ ms.filterMap id := List.mem_filterMap.mpr ⟨some x, List.mem_of_getElem? (i := j) (by simpa using e1), rfl⟩
    exact absurd hm (List.nodup_cons.mp this).1
  | some x :: ms, j + 1, k + 1, i, nd, e1, e2 => by
    have : (x :: ms.filterMap id).Nodup := by simpa using nd
    have q := ms_inj (ms := ms) (j := j) (k := k) (i := i) (List.nodup_cons.mp this).2 (by simpa using e1) (by simpa using e2)
    omega
theorem get_map_some {α : Type} {l : List α} {i : Nat} {x : α} (h : (l.map some)[i]? = some (some x)) : l[i]? = some x := by
  rw [List.getElem?_map] at h
  cases e : l[i]? with
  | none => rw [e] at h; cases h
  | some y => rw [e] at h; cases h; rfl
theorem get_some_map {α : Type} {l : List α} {i : Nat} {x : α} (h : l[i]? = some x) : (l.map some)[i]? = some (some x) := by
  rw [List.getElem?_map, h]; rfl

/-- what the callee is handed -/
def ownA (ms : List (Option Nat)) (own : Nat → Fp) : Nat → Fp := fun j a => ∃ i, ms[j]? = some (some i) ∧ own i a
/-- what the caller has behind the call -/
def ownC (ms : List (Option Nat)) (own ownA' : Nat → Fp) : Nat → Fp := fun i a => (∃ j : Nat, ms[j]? = some (some i) ∧ ownA' j a) ∨ ((∀ j : Nat, ms[j]? ≠ some (some i)) ∧ own i a)
theorem ownA_sub {ms : List (Option Nat)} {own : Nat → Fp} {a : Addr} (h : all (ownA ms own) a) : all own a := by
  obtain ⟨j, i, _, h⟩ := h
  exact ⟨i, h⟩
theorem sit_in {F : Hp} {env : DEnv} {own : Nat → Fp} {ms : List (Option Nat)} {vs : List V} {l : List (Option D)} {ws : List W} (nd : (ms.filterMap id).Nodup) (S : Sit K F σ H env own) (hh : Hand K F σ ms vs l) (ht : takeW env ms l = some ws) : ASit K F H vs ws (ownA ms own) := by
  obtain ⟨hl, hj⟩ := takeW_ok S hh ht
  refine ⟨S.ex, by rw [List.length_map, List.length_map, hl], fun j w e => ?_, fun j a h => ?_, fun j k a h1 h2 => ?_⟩
  · obtain ⟨v, e1, h⟩ := hj j w (get_map_some e)
    refine ⟨v, get_some_map e1, ?_⟩
    rcases h with ⟨hn, d, rfl, r⟩ | ⟨i, hm, r, _⟩
    · refine ⟨fun a z => ?_, r⟩
      obtain ⟨i, e2, _⟩ := z
      rw [hn] at e2
      cases e2
    · have e3 : ownA ms own j = own i := funext fun a => propext ⟨fun ⟨i', e4, z⟩ => by rw [hm] at e4; cases e4; exact z, fun z => ⟨i, hm, z⟩⟩
      rw [e3]
      exact r
  · obtain ⟨i, e, _⟩ := h
    have hjl : j < ws.length := by rw [hl, ← hh.len]; exact (List.getElem?_eq_some_iff.mp e).1
    exact ⟨ws[j], get_some_map (List.getElem?_eq_getElem hjl)⟩
  · obtain ⟨i, e1, z1⟩ := h1
    obtain ⟨i', e2, z2⟩ := h2
    have := S.dis i i' a z1 z2
    subst this
    exact ms_inj nd e1 e2
theorem sit_out {F H1 F3 H3 : Hp} {env env3 : DEnv} {own ownA' : Nat → Fp} {ms : List (Option Nat)} {vs : List V} {l : List (Option D)} {ws' : List W} {fpx : Fp} (nd : (ms.filterMap id).Nodup) (S : Sit K F σ H1 env own) (hh : Hand K F σ ms vs l)
    (S' : ASit K F3 H3 vs ws' ownA') (s : Step F H1 (all (ownA ms own)) F3 H3 fpx) (hx : ∀ a, all ownA' a → fpx a) (hp : putW ms ws' env = some env3) :
    Sit K F3 σ H3 env3 (ownC ms own ownA') ∧ Step F H1 (all own) F3 H3 (fun a => all (ownC ms own ownA') a ∨ fpx a) := by
  obtain ⟨p1, p2, p3⟩ := putW_ok nd hp
  have keyN : ∀ i a, (∀ j : Nat, ms[j]? ≠ some (some i)) → own i a → ¬ all (ownA ms own) a := fun i a hn hi z => by
    obtain ⟨j, i', e, z⟩ := z
    have := S.dis i i' a hi z
    subst this
    exact hn j e
  refine ⟨⟨S'.ex, by rw [p1]; exact S.len, fun i w e => ?_, fun i a h => ?_, fun i k a h1 h2 => ?_⟩, s.ex, fun a o h n => s.keep a o h fun z => n (ownA_sub z), fun a h => ?_, fun a o h n => (s.frz a o h n).imp_left ownA_sub⟩
  · by_cases hb : ∃ j : Nat, ms[j]? = some (some i)
    · obtain ⟨j, hj⟩ := hb
      obtain ⟨w1, w2, e1, e2, e3⟩ := p3 j i hj
      rw [e] at e2
      cases e2
      obtain ⟨v, hv, r⟩ := S'.rep j _ (get_some_map e1)
      replace r := e3 _ _ _ _ _ r
      obtain ⟨v', hv', hs⟩ := hh.slot hj
      have ev := get_map_some hv
      rw [hv'] at ev
      cases ev
      refine ⟨_, hs, ?_⟩
      have e3 : ownC ms own ownA' i = ownA' j := funext fun a => propext ⟨fun z => by
        rcases z with ⟨j', e4, z⟩ | ⟨z, _⟩
        · rw [ms_inj nd hj e4]; exact z
        · exact absurd hj (z j), fun z => .inl ⟨j, hj, z⟩⟩
      rw [e3]
      exact r
    · have hn : ∀ j : Nat, ms[j]? ≠ some (some i) := fun j z => hb ⟨j, z⟩
      rw [p2 i hn] at e
      obtain ⟨v, hv, r⟩ := S.rep i w e
      refine ⟨v, hv, ?_⟩
      have e3 : ownC ms own ownA' i = own i := funext fun a => propext ⟨fun z => by
        rcases z with ⟨j', e4, z⟩ | ⟨_, z⟩
        · exact absurd e4 (hn j')
        · exact z, fun z => .inr ⟨hn, z⟩⟩
      rw [e3]
      exact (RepW.stepW r (fun a q => keyN i a hn q) s).1
  · rcases h with ⟨j, e, z⟩ | ⟨hn, z⟩
    · obtain ⟨w1, w2, e1, e2, e3⟩ := p3 j i e
      exact ⟨_, e2⟩
    · obtain ⟨w, e⟩ := S.emp i a z
      exact ⟨w, by rw [p2 i hn]; exact e⟩
  · have mix : ∀ {i k : Nat} {j : Nat}, ms[j]? = some (some i) → ownA' j a → (∀ j : Nat, ms[j]? ≠ some (some k)) → own k a → False := fun {i k j} e z hn y => by
      rcases s.new a (hx a ⟨j, z⟩) with q | q
      · exact keyN k a hn y q
      · obtain ⟨⟨o, e⟩, _⟩ := S.there ⟨k, y⟩
        rw [q] at e
        cases e
    rcases h1 with ⟨j, e1, z1⟩ | ⟨n1, z1⟩ <;> rcases h2 with ⟨j', e2, z2⟩ | ⟨n2, z2⟩
    · have := S'.dis j j' a z1 z2
      subst this
      rw [e1] at e2
      cases e2
      rfl
    · exact (mix e1 z1 n2 z2).elim
    · exact (mix e2 z2 n1 z1).elim
    · exact S.dis i k a z1 z2
  · rcases h with ⟨i, z⟩ | z
    · rcases z with ⟨j, e, z⟩ | ⟨_, z⟩
      · exact (s.new a (hx a ⟨j, z⟩)).imp_left ownA_sub
      · exact .inl ⟨i, z⟩
    · exact (s.new a z).imp_left ownA_sub
end

section
variable {X : Cx} {Wx : WX} {k : Nat} {f : Addr} {fd : FuncData} {ps : List Str} {g : List W → RF} {x : Str} {p pos : Pos} {e : Expr} {es : List Expr} {fs : List (M U)} {ms : List (Option Nat)}
theorem call_sem {K : PySem.W.Frag} {mg : Str → Option Value} {n : Nat} {σ : L2.St} {H : Hp} {Q : VK} (nd : (ms.filterMap id).Nodup) (hn : ms.length = n) (h : tOf K mg Wx (callF g ms fs) σ H Q) :
    aOf K mg Wx (evs fs) σ H fun vs H1 => spOf K mg n g (vs ++ []) H1 Q (fun c d H' => Wx c d σ H') := by
  obtain ⟨F, env, own, S, h⟩ := h
  refine ⟨F, env, own, S, ?_⟩
  unfold callF at h
  cases e : evs fs env with
  | stuck => rw [e] at h; exact h
  | raise c env1 => rw [e] at h; exact h
  | ok us env1 =>
    rw [e, R.bind_ok] at h
    intro vs F1 H1 own1 q O
    rw [List.append_nil]
    cases e1 : frzM ms env1 us with
    | none => rw [e1] at h; exact h.elim
    | some pr =>
      obtain ⟨l, e2⟩ := pr
      rw [e1] at h
      dsimp only at h
      cases e3 : takeW e2 ms l with
      | none => rw [e3] at h; exact h.elim
      | some ws =>
        rw [e3] at h
        dsimp only at h
        obtain ⟨F2, own2, S2, hh, s2⟩ := frzM_ok O.S O.r O.d e1
        have s02 := O.s.trans s2
        refine ⟨by rw [← hh.len]; exact hn, F2, ws, ownA ms own2, sit_in nd S2 hh e3, ?_⟩
        cases e4 : g ws with
        | stuck => rw [e4] at h; exact h
        | ok w ws' =>
          rw [e4] at h
          dsimp only at h
          intro v F3 H3 ownA' pw O3
          cases e5 : putW ms ws' e2 with
          | none => rw [e5] at h; exact h.elim
          | some env3 =>
            rw [e5] at h
            obtain ⟨S4, s4⟩ := sit_out nd S2 hh O3.S O3.s (fun a z => .inl z) e5
            refine h v F3 H3 (ownC ms own2 ownA') pw ⟨S4, O3.r, fun a z y => ?_, (s02.trans s4).sub fun a z => z.imp_right .inr⟩
            obtain ⟨i, y⟩ := y
            rcases y with ⟨j, _, y⟩ | ⟨hnn, y⟩
            · exact O3.d a z ⟨j, y⟩
            · rcases O3.s.new a (.inr z) with q | q
              · obtain ⟨j, i', e6, q⟩ := q
                have := S2.dis i i' a y q
                subst this
                exact hnn j e6
              · obtain ⟨⟨o, e6⟩, _⟩ := S2.there ⟨i, y⟩
                rw [q] at e6
                cases e6
        | raise c ws' =>
          rw [e4] at h
          dsimp only at h
          intro C F3 H3 ownA' hm S3 s3
          cases e5 : putW ms ws' e2 with
          | none => rw [e5] at h; exact h.elim
          | some env3 =>
            rw [e5] at h
            obtain ⟨S4, s4⟩ := sit_out nd S2 hh S3 s3 (fun a z => z) e5
            exact h C F3 H3 (ownC ms own2 ownA') hm ⟨S4, (s02.trans s4).sub fun a z => .inl z⟩
theorem e_call (G : FnS X.prog X.w X.K X.mg X.base k f fd ps g) (tk : Takes X Wx) (hr : Room k X.A) (hg : Gl X x) (hm : X.mg x = some (.ref f)) (hk : PySem.W.keepIn X.K (.ref f) = true) (hb : Binds X.K fd ps []) (ha : EaS X Wx (e :: es) fs)
    (nd : (ms.filterMap id).Nodup) (hn : ms.length = ps.length) (hdb : (x == ("__debug__" : Str)) = false := by decide) (he : starEach (e :: es) X.env = (false, eval e X.env) :: starEach es X.env := by rfl) (hpl : (backTo pos (starEach es X.env)).any (·.1) = false := by rfl) :
    EvS X Wx (.Call (.Name x p) (e :: es) [] pos) (callF g ms fs) :=
  PE.imp (pe_callSD (E := fun σ c d H' => Wx c d σ H') G hr hg hm hk hb .nil (fun σ => passAt tk σ) ha hdb he hpl) fun σ H Q h => call_sem nd hn h
end
end DL

/-! enumerate(tuple) -/
namespace PySem
set_option maxHeartbeats 1000000 in
theorem dl_enum_newB {v : Value} {o : Obj} {H : Heap → Prop} (B : Begins v o H) :
    Meets (Builtin.«enumerate.__new__» ⟨[.type "enumerate", v], []⟩) (fun _ R s => H s.heap ∧
      R (.ok (.ret (.ref (s.heap.push o).objs.size))) { s with heap := (s.heap.push o).push { cls := .type "enumerate", data := .fields #[.none, .bool false, .ref s.heap.objs.size, rawInt 0, .none, .none] } }) :=
  .of_wp fun prog w A R s h => by
    obtain ⟨hp, g, d, tk, os⟩ := s; obtain ⟨h1, h⟩ := h
    have hsub := sub_enumerate
    have q1 : ∀ {A' : Around} {E : Value → Shared → Prop} {Q : Value → Shared → Prop}, Q (.ref hp.objs.size) ⟨hp.push o, g, d, tk, os⟩ → wpAny (model prog w) A' (pyIter v) Q E ⟨hp, g, d, tk, os⟩ :=
      fun q => B.iter prog w _ _ ⟨hp, g, d, tk, os⟩ _ h1 q
    wp_walk using q1
    refine wpAny_stack_any fun st => wpAny_pure ?_
    split
    · rename_i c _ _ _ _ _
      cases (c == Value.type "enumerate")
      · wp_walk using q1
        exact ⟨_, rfl, h⟩
      · wp_walk using q1
        exact ⟨_, rfl, h⟩
    · wp_walk using q1
      exact ⟨_, rfl, h⟩
section
variable {prog : Program} {w : World} {A : Around} {E : Value → Shared → Prop} {s : Shared}
theorem dl_enum_begins {v : Value} {o : Obj} {H : Heap → Prop} {Q : Value → Shared → Prop} (B : Begins v o H) (h1 : H s.heap)
    (h : ∀ h', IsEnum h' (s.heap.objs.size + 1) s.heap.objs.size 0 .none → h'.get? s.heap.objs.size = some o → h'.objs.size = s.heap.objs.size + 2 →
      (∀ b o, s.heap.get? b = some o → h'.get? b = some o) → Q (.ref (s.heap.objs.size + 1)) { s with heap := h' }) :
    wpAny (model prog w) A (call (.type "enumerate") [v]) Q E s := by
  refine callType_new F.called_enumerate (by decide) (F.typeCall_enumerate_1 _) (F.newCall_enumerate_1 _) (fun obj => F.args_object_init_2 obj _) F.entry_enumerate_new
    (dl_enum_newB B) ⟨h1, ?_⟩
  have hz : (s.heap.push o).objs.size = s.heap.objs.size + 1 := Heap.size_push ..
  show _ ∧ _
  rw [hz]
  have he : IsEnum ((s.heap.push o).push { cls := .type "enumerate", data := .fields #[.none, .bool false, .ref s.heap.objs.size, rawInt 0, .none, .none] }) (s.heap.objs.size + 1) s.heap.objs.size 0 .none := by
    have := Heap.get?_push_size (s.heap.push o) (o := { cls := .type "enumerate", data := .fields #[.none, .bool false, .ref s.heap.objs.size, rawInt 0, .none, .none] }) rfl
    rw [hz] at this; exact this
  refine ⟨⟨_, he, rfl⟩, h _ he (Heap.get?_push_of_some _ (Heap.get?_push_size _ B.free)) (by rw [Heap.size_push, hz]) fun b o x => Heap.get?_push_of_some _ (Heap.get?_push_of_some _ x)⟩
end
end PySem
namespace DL
open PySem PySem.Spec PyProof.Rows L2
def IteT (K : PySem.W.Frag) (a : Addr) : It :=
  ⟨fun i H => ∃ (xs : List V) (x : V), SqT K H a xs ∧ xs[i]? = some x, fun i H v H' => ∃ T x, v = .ref T ∧ H T = none ∧ H' = upd H T (.tup [.int (i : Nat), x]) ∧ ∀ xs, SqT K H a xs → xs[i]? = some x, fun i H => ∃ xs : List V, SqT K H a xs ∧ xs.length = i⟩
theorem turn_enumT {P : Program} {w : World} {K : PySem.W.Frag} {elts : List Expr} {kk : Nat} {tpos : Pos} (a e it : Addr) (items : Array Value) :
    Turn P w K (.Tuple elts kk tpos) (IteT K a) [e, it] e (fun i h => (∃ old, IsEnum h e it ((i : Nat) : Int) old) ∧ h.IsTupleIter it a i ∧ e ≠ it ∧ a ≠ it ∧ e ≠ a) where
  mem := by simp
  obj := fun i h st b hb => by
    obtain ⟨⟨old, he⟩, ⟨o, ho, hc, hd⟩, _⟩ := st
    have e' : b = e ∨ b = it := by simpa using hb
    rcases e' with z | z
    · rw [z]; exact ⟨_, he, fun v q => nomatch q⟩
    · rw [z]; exact ⟨o, ho, fun v q => by rw [hd] at q; cases q⟩
  keep := fun i h h' st k => let ⟨⟨old, he⟩, hi, hne⟩ := st; ⟨⟨old, k e (by simp) _ he⟩, hi.at fun o q => k it (by simp) o q, hne⟩
  item := by
    intro X hP hw hK hc i pins s σ H E I hf st hg
    subst hP hw hK
    obtain ⟨⟨old, he⟩, hit, hne, hne2, hne3⟩ := st
    obtain ⟨xs, x, hq, hx⟩ := hg
    obtain ⟨its, rv, p, hz⟩ := I.tuple hq
    obtain ⟨u, hu, ru⟩ := rv.get hx
    have hel : e < s.heap.objs.size := Heap.lt_size he
    have hil : it < s.heap.objs.size := by obtain ⟨_, q, _⟩ := hit; exact Heap.lt_size q
    have hi : i < its.toArray.size := by
      rw [List.size_toArray]
      exact (List.getElem?_eq_some_iff.mp hu).1
    refine wpAny_pyNext_enum_itemD (Draws.tuple (A := X.A.in1) (I.ok.hd hc) it a hne2 its.toArray) he ⟨hit, p⟩ hi hne (by simp [hne, hne3]) fun u' h' tk hu' ho hst' hT hsz hk => ?_
    have eu : u' = u := by
      have : its.toArray[i]? = some u' := hu'
      have q : its[i]? = some u' := by simpa using this
      rw [hu] at q
      exact (Option.some.inj q).symm
    subst eu
    refine ⟨_, rfl, wpAny_letOwnedTupleGo_enum (s := { s with heap := h', toks := tk + 1 }) ho fun h'' he' sb => ?_⟩
    have hT2 : h''.get? s.heap.objs.size = some { cls := .type "tuple", data := .seq #[.int i tk, u'] } := (sb.2 _ (Nat.ne_of_gt hel)).trans hT
    have new : ObjOk X.prog X.w (upd H s.heap.objs.size (.tup [.int (i : Nat), x])) h'' s.heap.objs.size (.tup [.int (i : Nat), x]) :=
      ⟨by show 2 ≤ sizeLine; decide, [.int i tk, u'], .cons ⟨_, rfl⟩ (.cons ru .nil), ⟨_, hT2, rfl, _, rfl⟩⟩
    have I1 : Inv X pins σ (upd H s.heap.objs.size (.tup [.int (i : Nat), x])) { s with heap := h'', toks := tk + 1 } :=
      I.turnedNew (ch := [e, it]) (fun b ob hb q => (sb.2 b (fun z => hb (by simp [z]))).trans (hk b ob (fun z => hb (by simp [z])) (fun z => hb (by simp [z])) q)) hf (Nat.le_refl _) new
    refine ⟨.ref s.heap.objs.size, _, I1, rfl, ⟨_, x, rfl, I.hok.fresh (Nat.le_refl _), rfl, fun ys hy => by rw [I.tuple_inj hy hq]; exact hx⟩, ⟨⟨u', ?_⟩, hst'.1.at fun o q => (sb.2 it (Ne.symm hne)).trans q, hne, hne2, hne3⟩, fun b hb => ?_⟩
    · have e1 : ((i + 1 : Nat) : Int) = (i : Int) + 1 := by omega
      rw [e1]; exact he'
    · have hb' : b < s.heap.objs.size := by
        have e' : b = e ∨ b = it := by simpa using hb
        rcases e' with z | z
        · rw [z]; exact hel
        · rw [z]; exact hil
      rw [upd_ne (Nat.ne_of_lt hb')]
      exact (hf b hb).1
  done := by
    intro X hP hw hK hc i pins s σ H E I hf st hg
    subst hP hw hK
    obtain ⟨⟨old, he⟩, hit, hne, hne2, hne3⟩ := st
    obtain ⟨xs, hq, hx⟩ := hg
    obtain ⟨its, rv, p, hz⟩ := I.tuple hq
    obtain ⟨f0, f1, f2, f3, f4, f5⟩ := hf it (by simp)
    have hl := rv.length
    have hst : s.heap.IsTupleIter it a its.toArray.size ∧ s.heap.IsTuple a its.toArray := by
      rw [List.size_toArray, ← hl, hx]
      exact ⟨hit, p⟩
    exact wpAny_pyNext_enum_endD (Draws.tuple (A := X.A.in1) (I.ok.hd hc) it a hne2 its.toArray) he hst fun h' eb => ⟨rfl, I.turned (t' := s.toks) (fun b o hb q => eb b o hb q) f0 f1 f3 f4 f5⟩
  self := fun A i s Q E st h => let ⟨⟨_, he⟩, _⟩ := st; wpAny_pyIter_enum he h
/-- enumerate of a list or a tuple -/
def iEnumA (K : PySem.W.Frag) (ta : TA) : TI := fun σ H R => ta σ H fun vs H1 => ∃ a xs, vs = [.ref a] ∧ ((SqL K H1 a xs ∧ R (Ite K a) H1) ∨ (SqT K H1 a xs ∧ R (IteT K a) H1))
theorem pi_enumA {X : Cx} {e : Expr} {ta : TA} {p pos tpos : Pos} {elts : List Expr} {kk : Nat} (hg : Gl X "enumerate") (hm : X.mg "enumerate" = none) (ha : PA X [e] ta) (hs : starEach [e] X.env = [(false, eval e X.env)] := by rfl) :
    PI X (.Tuple elts kk tpos) (.Call (.Name "enumerate" p) [e] [] pos) (iEnumA X.K ta) := by
  refine ⟨fun pins s σ H R I h => ?_⟩
  refine Call_ (ld_blt I hg hm boot_enumerate (PyProof.Rows.callWith_type1 (thn (ha.run pos pins s σ H _ I h) fun us s1 ⟨vs, H1, I1, r1, q1⟩ => ?_) hs rfl))
  obtain ⟨a, xs, ex, q⟩ := q1
  subst ex
  cases r1 with
  | cons r rr =>
    cases rr
    cases r
    rcases q with ⟨hq, q⟩ | ⟨hq, q⟩
    · obtain ⟨its, rv, p', hz⟩ := I1.list hq
      refine call_enumerate_list p'.isList fun h' he hit hsz hk => wpAny_pyIter_enum he ?_
      have I2 : Inv X pins σ H1 { s1 with heap := h' } := I1.kept (t' := s1.toks) hk
      refine ⟨s1.heap.objs.size + 1, [s1.heap.objs.size + 1, s1.heap.objs.size], _, _, H1, rfl, I2, turn_enum a (s1.heap.objs.size + 1) s1.heap.objs.size, ⟨⟨.none, he⟩, hit, Nat.succ_ne_self _⟩, fun b hb => ?_, q⟩
      have e' : b = s1.heap.objs.size + 1 ∨ b = s1.heap.objs.size := by simpa using hb
      have hle : s1.heap.objs.size ≤ b := by
        rcases e' with z | z
        · rw [z]; exact Nat.le_add_right _ _
        · rw [z]; exact Nat.le_refl _
      exact I1.fpOk hle (I1.hok.fresh hle)
    · obtain ⟨its, rv, p', hz⟩ := I1.tuple hq
      have hal : a < s1.heap.objs.size := by obtain ⟨_, e, _⟩ := p'; exact Heap.lt_size e
      refine dl_enum_begins (begins_tuple a its.toArray) p' fun h' he hit hsz hk => wpAny_pyIter_enum he ?_
      have I2 : Inv X pins σ H1 { s1 with heap := h' } := I1.kept (t' := s1.toks) hk
      refine ⟨s1.heap.objs.size + 1, [s1.heap.objs.size + 1, s1.heap.objs.size], _, _, H1, rfl, I2, turn_enumT a (s1.heap.objs.size + 1) s1.heap.objs.size its.toArray, ⟨⟨.none, he⟩, ⟨_, hit, rfl, rfl⟩, Nat.succ_ne_self _, Nat.ne_of_lt hal, Nat.ne_of_gt (Nat.lt_succ_of_lt hal)⟩, fun b hb => ?_, q⟩
      have e' : b = s1.heap.objs.size + 1 ∨ b = s1.heap.objs.size := by simpa using hb
      have hle : s1.heap.objs.size ≤ b := by
        rcases e' with z | z
        · rw [z]; exact Nat.le_add_right _ _
        · rw [z]; exact Nat.le_refl _
      exact I1.fpOk hle (I1.hok.fresh hle)
/-- a list or a tuple walked -/
def iSeq (K : PySem.W.Frag) (tl : TE) : TI := fun σ H R => tl σ H fun x H1 => ∃ a xs, x = .ref a ∧ ((SqL K H1 a xs ∧ R (Itl K a) H1) ∨ (SqT K H1 a xs ∧ R (Itt K a) H1))
theorem pi_seq {X : Cx} {tg l : Expr} {tl : TE} (hl : PE X l tl) : PI X tg l (iSeq X.K tl) := by
  refine ⟨fun pins s σ H R I h => ?_⟩
  refine thn (hl.run pins s σ H _ I h) fun v s1 ⟨x, H1, I1, r1, q1⟩ => ?_
  obtain ⟨a, xs, e, q⟩ := q1
  subst e
  cases r1
  rcases q with ⟨hq, q⟩ | ⟨hq, q⟩
  · obtain ⟨its, rv, p, hz⟩ := I1.list hq
    refine wpAny_pyIter_list p.isList ?_
    refine ⟨s1.heap.objs.size, [s1.heap.objs.size], _, _, H1, rfl, I1.kept (t' := s1.toks) fun b o e => Heap.get?_push_of_some _ e, turn_list a _, ⟨_, Heap.get?_push_size _ rfl, rfl, rfl⟩, fun b hb => ?_, q⟩
    have e : b = s1.heap.objs.size := by simpa using hb
    subst e
    exact I1.fpOk (Nat.le_refl _) (I1.hok.fresh (Nat.le_refl _))
  · obtain ⟨its, rv, p, hz⟩ := I1.tuple hq
    refine wpAny_pyIter_tuple (show s1.heap.IsTuple a its.toArray from p) ?_
    refine ⟨s1.heap.objs.size, [s1.heap.objs.size], _, _, H1, rfl, I1.kept (t' := s1.toks) fun b o e => Heap.get?_push_of_some _ e, turn_tuple a _, ⟨_, Heap.get?_push_size _ rfl, rfl, rfl⟩, fun b hb => ?_, q⟩
    have e : b = s1.heap.objs.size := by simpa using hb
    subst e
    exact I1.fpOk (Nat.le_refl _) (I1.hok.fresh (Nat.le_refl _))
end DL

namespace DL
open PySem PySem.Spec PyProof.Rows L2

/-! ### names stored -/
def ownU (env : DEnv) : U → Option (W × DEnv)
  | .w (.v d) => some (.v d, env)
  | .w (.l _ ds) => some (.l false ds, env)
  | .w (.m ks ds) => some (.m ks ds, env)
  | .w (.x (.d k ks ds)) => some (.x (.d k ks ds), env)
  | .w (.x (.o _ c ns fs)) => some (.x (.o false c ns fs), env)
  | .w (.x (.t _)) => none
  | .b i => match frz1 env (.b i) with
    | some (d, e) => some (.v d, e)
    | none => none
def setS (i : Nat) (w : W) (env : DEnv) : Option DEnv := match env[i]? with
  | some (some (.l true _)) => none
  | some (some (.x (.o true _ _ _))) => none
  | some _ => some (env.set i (some w))
  | none => none
section
variable {K : PySem.W.Frag} {F H F1 H1 : Hp} {σ σ1 : L2.St} {env env1 env' : DEnv} {own own1 : Nat → Fp} {p : Fp}
theorem ownU_ok {u : U} {v : V} {w : W} (O : Out K F H own σ u v env1 F1 H1 own1 p) (h : ownU env1 u = some (w, env')) : ∃ F2 own2 p2, Out K F H own σ (.w w) v env' F2 H1 own2 p2 := by
  cases u with
  | w x =>
    cases x with
    | v d => cases h; exact ⟨F1, own1, p, O⟩
    | l b ds =>
      cases h
      exact ⟨F1, own1, p, O.S, O.r, O.d, O.s⟩
    | m ks ds => cases h; exact ⟨F1, own1, p, O⟩
    | x y =>
      cases y with
      | d k ks ds => cases h; exact ⟨F1, own1, p, O⟩
      | o b c ns fs => cases h; exact ⟨F1, own1, p, O.S, O.r, O.d, O.s⟩
      | t fs => cases h
  | b i =>
    have h : (match frz1 env1 (.b i) with | some (d, e) => some (W.v d, e) | none => none) = some (w, env') := h
    split at h
    · rename_i d e he
      cases h
      obtain ⟨F2, own2, r2, O2⟩ := O.frz he
      exact ⟨F2, own2, _, (Grow.refl O2.S.ex).out O2 (RepW.ofRep r2)⟩
    · cases h
theorem setS_ok {i : Nat} {v : V} {w : W} (S : Sit K F σ H env own) (r : RepW K F H v w p) (d : ∀ a, p a → ¬ all own a) (h : setS i w env = some env') : ∃ own', Sit K F (σ.set i (some v)) H env' own' ∧ ∀ a, all own' a → all own a ∨ p a := by
  have hi : i < env.length ∧ env' = env.set i (some w) := by
    unfold setS at h
    split at h
    · cases h
    · cases h
    · rename_i x hx
      cases h
      exact ⟨(List.getElem?_eq_some_iff.mp hx).1, rfl⟩
    · cases h
  obtain ⟨hi, rfl⟩ := hi
  have hσ : i < σ.length := by rw [← S.len]; exact hi
  refine ⟨fun j a => (j = i ∧ p a) ∨ (j ≠ i ∧ own j a), ⟨S.ex, by rw [List.length_set, List.length_set]; exact S.len, fun j w' e => ?_, fun j a z => ?_, fun j k a z1 z2 => ?_⟩, fun a z => ?_⟩
  · by_cases hj : j = i
    · subst hj
      rw [List.getElem?_set_self hi] at e
      cases e
      refine ⟨v, List.getElem?_set_self hσ, ?_⟩
      have e2 : (fun a => (j = j ∧ p a) ∨ (j ≠ j ∧ own j a)) = p := funext fun a => propext ⟨fun z => z.elim (fun y => y.2) fun y => absurd rfl y.1, fun z => .inl ⟨rfl, z⟩⟩
      show RepW K F H v w (fun a => (j = j ∧ p a) ∨ (j ≠ j ∧ own j a))
      rw [e2]
      exact r
    · rw [List.getElem?_set_ne (Ne.symm hj)] at e
      obtain ⟨v', e1, r'⟩ := S.rep j w' e
      refine ⟨v', by rw [List.getElem?_set_ne (Ne.symm hj)]; exact e1, ?_⟩
      have e2 : (fun a => (j = i ∧ p a) ∨ (j ≠ i ∧ own j a)) = own j := funext fun a => propext ⟨fun z => z.elim (fun y => absurd y.1 hj) fun y => y.2, fun z => .inr ⟨hj, z⟩⟩
      show RepW K F H v' w' (fun a => (j = i ∧ p a) ∨ (j ≠ i ∧ own j a))
      rw [e2]
      exact r'
  · rcases z with ⟨rfl, _⟩ | ⟨hj, z⟩
    · exact ⟨w, List.getElem?_set_self hi⟩
    · obtain ⟨w', e⟩ := S.emp j a z
      exact ⟨w', by rw [List.getElem?_set_ne (Ne.symm hj)]; exact e⟩
  · rcases z1 with ⟨h1, y1⟩ | ⟨h1, y1⟩ <;> rcases z2 with ⟨h2, y2⟩ | ⟨h2, y2⟩
    · rw [h1, h2]
    · exact absurd ⟨k, y2⟩ (d a y1)
    · exact absurd ⟨j, y1⟩ (d a y2)
    · exact S.dis j k a y1 y2
  · obtain ⟨j, z⟩ := z
    rcases z with ⟨_, z⟩ | ⟨_, z⟩
    · exact .inr z
    · exact .inl ⟨j, z⟩
theorem Out.set {i : Nat} {v : V} {w : W} (O : Out K F H own σ (.w w) v env1 F1 H1 own1 p) (h : setS i w env1 = some env') : ∃ own', OutR K F H own (σ.set i (some v)) env' F1 H1 own' := by
  obtain ⟨own', S', hs⟩ := setS_ok O.S O.r O.d h
  exact ⟨own', S', O.s.sub fun a z => hs a z⟩
end

/-! ### targets -/
abbrev MT := D → DEnv → Option DEnv
abbrev MTs := List D → DEnv → Option DEnv
def gOf (K : PySem.W.Frag) (is : List Nat) (m : MT) : TG := fun v σ H Q => ∃ F env own d, Sit K F σ H env own ∧ RepD K F v d ∧ match m d env with
  | some env' => ∀ σ' F' H' own', Only is σ σ' → OutR K F H own σ' env' F' H' own' → Q σ' H'
  | none => False
def gsOf (K : PySem.W.Frag) (is : List Nat) (m : MTs) : TGs := fun vs σ H Q => ∃ F env own ds, Sit K F σ H env own ∧ RepDs K F vs ds ∧ match m ds env with
  | some env' => ∀ σ' F' H' own', Only is σ σ' → OutR K F H own σ' env' F' H' own' → Q σ' H'
  | none => False
abbrev TgS (X : Cx) (tg : Expr) (is : List Nat) (m : MT) : Prop := PG X tg (gOf X.K is m)
abbrev TgsS (X : Cx) (tgs : List Expr) (is : List Nat) (m : MTs) : Prop := PGs X tgs (gsOf X.K is m)
theorem PG.imp {X : Cx} {e : Expr} {t t' : TG} (h : PG X e t) (i : ∀ v σ H Q, t' v σ H Q → t v σ H Q) : PG X e t' := ⟨fun pins s σ H v u Q I r q => h.run pins s σ H v u Q I r (i v σ H Q q)⟩
theorem PGs.imp {X : Cx} {e : List Expr} {t t' : TGs} (h : PGs X e t) (i : ∀ v σ H Q, t' v σ H Q → t v σ H Q) : PGs X e t' := ⟨fun pins s σ H v u Q I r q => h.run pins s σ H v u Q I r (i v σ H Q q)⟩
def mName (i : Nat) : MT := fun d env => setS i (.v d) env
def mNil : MTs := fun ds env => match ds with
  | [] => some env
  | _ => none
def mCons (m : MT) (ms : MTs) : MTs := fun ds env => match ds with
  | d :: r => (m d env).bind fun e => ms r e
  | [] => none
def mTup (ms : MTs) (n : Nat) : MT := fun d env => match d with
  | .tup ds => if ds.length = n then ms ds env else none
  | _ => none
section
variable {X : Cx} {pos : Pos}
theorem g_name {i : Nat} {x : Str} (hN : X.N.Nodup) (hi : X.N[i]? = some x) (hx : Loc X.env.scope x) (hf : X.fn x = true ∨ X.env.scope.names.lookup x = some .local := by first | exact .inl rfl | exact .inr rfl | assumption) : TgS X (.Name x pos) [i] (mName i) := PG.imp (pg_name hN hi hx hf) fun v σ H Q h => by
  obtain ⟨F, env, own, d, S, r, h⟩ := h
  unfold mName at h
  cases e : setS i (.v d) env with
  | none => rw [e] at h; exact h.elim
  | some env' =>
    rw [e] at h
    obtain ⟨own', O⟩ := ((Grow.refl S.ex).out (OutR.refl S) (RepW.ofRep r)).set e
    exact h _ _ _ _ ⟨List.length_set, fun j hj => List.getElem?_set_ne fun z => hj (by simp [z])⟩ O
theorem gs_nil : TgsS X [] [] mNil := PGs.imp pgs_nil fun vs σ H Q h => by
  obtain ⟨F, env, own, ds, S, r, h⟩ := h
  unfold mNil at h
  cases r with
  | nil => exact ⟨rfl, h _ _ _ _ Only.refl (OutR.refl S)⟩
  | cons _ _ => exact h.elim
theorem gs_cons {e : Expr} {es : List Expr} {is js : List Nat} {m : MT} {ms : MTs} (h1 : TgS X e is m) (h2 : TgsS X es js ms) (hs : (assignEach (e :: es) X.env).map (·.2) = assign e X.env :: (assignEach es X.env).map (·.2) := by rfl) : TgsS X (e :: es) (is ++ js) (mCons m ms) := PGs.imp (pgs_cons h1 h2 hs) fun vs σ H Q h => by
  obtain ⟨F, env, own, ds, S, r, h⟩ := h
  unfold mCons at h
  cases r with
  | nil => exact h.elim
  | cons rd rs =>
    rename_i v d vs ds
    dsimp only at h
    refine ⟨v, vs, rfl, F, env, own, d, S, rd, ?_⟩
    cases e1 : m d env with
    | none => rw [e1] at h; exact h
    | some env1 =>
      rw [e1, Option.bind_some] at h
      intro σ1 F1 H1 own1 y1 O1
      refine ⟨F1, env1, own1, ds, O1.S, rs.mono O1.s.ex, ?_⟩
      cases e2 : ms ds env1 with
      | none => rw [e2] at h; exact h
      | some env2 =>
        rw [e2] at h
        exact fun σ2 F2 H2 own2 y2 O2 => h _ _ _ _ (y1.trans y2) (O1.trans O2)
theorem g_tup {es : List Expr} {k n : Nat} {is : List Nat} {ms : MTs} (hc : X.calm = true) (h : TgsS X es is ms) (hn : (assignEach es X.env).length = n := by rfl) (hst : (assignEach es X.env).findIdx? (·.1) = none := by rfl) : TgS X (.Tuple es k pos) is (mTup ms n) := PG.imp (pg_tup hc h hn hst) fun v σ H Q h => by
  obtain ⟨F, env, own, d, S, r, h⟩ := h
  unfold mTup at h
  cases r with
  | tup q rs =>
    rename_i a vs ds
    dsimp only at h
    by_cases hl : ds.length = n
    · rw [if_pos hl] at h
      exact ⟨a, vs, rfl, SqT.of (S.ex _ _ q), by rw [rs.length]; exact hl, F, env, own, ds, S, rs, h⟩
    · rw [if_neg hl] at h; exact h.elim
  | _ => exact h.elim
end

/-! ### what is walked -/
structure Feeds (K : PySem.W.Frag) (J : It) (F0 : Hp) (ds : List D) : Prop where
  go : ∀ F H i, Same F0 F → Same F H → i < ds.length → J.go i H
  yld : ∀ F H i x H' d, Same F0 F → Same F H → ds[i]? = some d → J.yld i H x H' → ∃ F', Grow F H F' H' (fun _ => False) ∧ RepD K F' x d
  stop : ∀ F H, Same F0 F → Same F H → J.stop ds.length H
def iOf (K : PySem.W.Frag) (mg : Str → Option Value) (Wx : WX) (f : M (List D)) : TI := fun σ H R => ∃ F env own, Sit K F σ H env own ∧ match f env with
  | .ok ds env' => ∀ J F' H' own', OutR K F H own σ env' F' H' own' → Feeds K J F' ds → R J H'
  | .raise c env' => ∀ C F' H' own', mg c = some (.ref C) → OutR K F H own σ env' F' H' own' → Wx (.ref C) none σ H'
  | .stuck => False
abbrev ItS (X : Cx) (Wx : WX) (tg e : Expr) (f : M (List D)) : Prop := PI X tg e (iOf X.K X.mg Wx f)
theorem PI.imp {X : Cx} {tg e : Expr} {t t' : TI} (h : PI X tg e t) (i : ∀ σ H R, t' σ H R → t σ H R) : PI X tg e t' := ⟨fun pins s σ H R I q => h.run pins s σ H R I (i σ H R q)⟩
def seqOf : D → Option (List D)
  | .lst ds => some ds
  | .tup ds => some ds
  | _ => none
def iterSeq (f : M U) : M (List D) := fun env => (f env).bind fun u e1 => match frz1 e1 u with
  | some (d, e2) => (match seqOf d with
    | some ds => .ok ds e2
    | none => .stuck)
  | none => .stuck
def pairs0 (ds : List D) : List D := (ds.zipIdx).map fun p => .tup [.int (p.2 : Nat), p.1]
def iterEnum (f : M U) : M (List D) := fun env => (iterSeq f env).bind fun ds e => .ok (pairs0 ds) e
def rangeD (lo hi : Int) : List D := (List.range (hi - lo).toNat).map fun i => .int (lo + (i : Nat))
def iterR1 (f : M U) : M (List D) := fun env => (evs [f] env).bind fun us e1 => match datL e1 us with
  | some [.int n] => if -(2 ^ 62) ≤ n ∧ n < 2 ^ 62 then .ok (rangeD 0 n) e1 else .stuck
  | _ => .stuck
def iterR2 (f g : M U) : M (List D) := fun env => (evs [f, g] env).bind fun us e1 => match datL e1 us with
  | some [.int m, .int n] => if (-(2 ^ 62) ≤ m ∧ m < 2 ^ 62) ∧ (-(2 ^ 62) ≤ n ∧ n < 2 ^ 62) then .ok (rangeD m n) e1 else .stuck
  | _ => .stuck
section
variable {X : Cx} {Wx : WX} {tg e a b : Expr} {f fa fb : M U} {pos p tpos : Pos}
theorem feeds_l {K : PySem.W.Frag} {F0 : Hp} {a : Addr} {vs : List V} {ds : List D} (h : Rd F0 a (.lst vs)) (r : RepDs K F0 vs ds) : Feeds K (Itl K a) F0 ds where
  go := fun F H i e1 e2 hi => by
    have hv : i < vs.length := by rw [r.length]; exact hi
    exact ⟨vs, vs[i], .inl (sameL (e1.trans e2) h), List.getElem?_eq_getElem hv⟩
  yld := fun F H i x H' d e1 e2 hd y => by
    obtain ⟨rfl, y⟩ := y
    obtain ⟨v, h1, h2⟩ := r.get hd
    have := y vs (.inl (sameL (e1.trans e2) h))
    rw [h1] at this
    cases this
    exact ⟨F, Grow.refl e2, h2.mono e1⟩
  stop := fun F H e1 e2 => ⟨vs, .inl (sameL (e1.trans e2) h), Nat.le_of_eq r.length⟩
theorem feeds_t {K : PySem.W.Frag} {F0 : Hp} {a : Addr} {vs : List V} {ds : List D} (h : SqT K F0 a vs) (r : RepDs K F0 vs ds) : Feeds K (Itt K a) F0 ds where
  go := fun F H i e1 e2 hi => by
    have hv : i < vs.length := by rw [r.length]; exact hi
    exact ⟨vs, vs[i], sameT (e1.trans e2) h, List.getElem?_eq_getElem hv⟩
  yld := fun F H i x H' d e1 e2 hd y => by
    obtain ⟨rfl, y⟩ := y
    obtain ⟨v, h1, h2⟩ := r.get hd
    have := y vs (sameT (e1.trans e2) h)
    rw [h1] at this
    cases this
    exact ⟨F, Grow.refl e2, h2.mono e1⟩
  stop := fun F H e1 e2 => ⟨vs, sameT (e1.trans e2) h, Nat.le_of_eq r.length⟩
theorem pairs0_get {ds : List D} {i : Nat} {d : D} (h : (pairs0 ds)[i]? = some d) : ∃ x, ds[i]? = some x ∧ d = .tup [.int (i : Nat), x] := by
  unfold pairs0 at h
  rw [List.getElem?_map, List.getElem?_zipIdx] at h
  cases e : ds[i]? with
  | none => rw [e] at h; cases h
  | some x => rw [e] at h; simp at h; exact ⟨x, rfl, h.symm⟩
theorem pairs0_len (ds : List D) : (pairs0 ds).length = ds.length := by unfold pairs0; simp
theorem feeds_el {K : PySem.W.Frag} {F0 : Hp} {a : Addr} {vs : List V} {ds : List D} (h : Rd F0 a (.lst vs)) (r : RepDs K F0 vs ds) : Feeds K (Ite K a) F0 (pairs0 ds) where
  go := fun F H i e1 e2 hi => by
    rw [pairs0_len] at hi
    have hv : i < vs.length := by rw [r.length]; exact hi
    exact ⟨vs, vs[i], .inl (sameL (e1.trans e2) h), List.getElem?_eq_getElem hv⟩
  yld := fun F H i x H' d e1 e2 hd y => by
    obtain ⟨T, x, rfl, nT, rfl, y⟩ := y
    obtain ⟨dx, hx, rfl⟩ := pairs0_get hd
    obtain ⟨v, h1, h2⟩ := r.get hx
    have := y vs (.inl (sameL (e1.trans e2) h))
    rw [h1] at this
    cases this
    exact ⟨upd F T (.tup [.int (i : Nat), x]), Grow.data e2 nT, .tup upd_same (.cons (.int _) (.cons ((h2.mono e1).mono (same_upd (sub_none e2 nT))) .nil))⟩
  stop := fun F H e1 e2 => ⟨vs, .inl (sameL (e1.trans e2) h), by rw [pairs0_len]; exact Nat.le_of_eq r.length⟩
theorem feeds_et {K : PySem.W.Frag} {F0 : Hp} {a : Addr} {vs : List V} {ds : List D} (h : SqT K F0 a vs) (r : RepDs K F0 vs ds) : Feeds K (IteT K a) F0 (pairs0 ds) where
  go := fun F H i e1 e2 hi => by
    rw [pairs0_len] at hi
    have hv : i < vs.length := by rw [r.length]; exact hi
    exact ⟨vs, vs[i], sameT (e1.trans e2) h, List.getElem?_eq_getElem hv⟩
  yld := fun F H i x H' d e1 e2 hd y => by
    obtain ⟨T, x, rfl, nT, rfl, y⟩ := y
    obtain ⟨dx, hx, rfl⟩ := pairs0_get hd
    obtain ⟨v, h1, h2⟩ := r.get hx
    have := y vs (sameT (e1.trans e2) h)
    rw [h1] at this
    cases this
    exact ⟨upd F T (.tup [.int (i : Nat), x]), Grow.data e2 nT, .tup upd_same (.cons (.int _) (.cons ((h2.mono e1).mono (same_upd (sub_none e2 nT))) .nil))⟩
  stop := fun F H e1 e2 => ⟨vs, sameT (e1.trans e2) h, by rw [pairs0_len]; exact r.length⟩
theorem feeds_r {K : PySem.W.Frag} {F0 : Hp} {lo hi : Int} : Feeds K (Itr lo (hi - lo).toNat) F0 (rangeD lo hi) where
  go := fun F H i _ _ h => by
    show i < _
    unfold rangeD at h
    simpa using h
  yld := fun F H i x H' d e1 e2 hd y => by
    obtain ⟨rfl, rfl⟩ := y
    unfold rangeD at hd
    rw [List.getElem?_map] at hd
    cases e : (List.range (hi - lo).toNat)[i]? with
    | none => rw [e] at hd; cases hd
    | some j =>
      rw [e] at hd
      have : j = i := by
        obtain ⟨h1, h2⟩ := List.getElem?_eq_some_iff.mp e
        simpa using h2.symm
      subst this
      cases hd
      exact ⟨F, Grow.refl e2, .int _⟩
  stop := fun F H _ _ => by
    show _ ≤ _
    unfold rangeD
    simp
theorem i_seq (h : EvS X Wx e f) : ItS X Wx tg e (iterSeq f) := PI.imp (pi_seq h) fun σ H RR h => by
  obtain ⟨F, env, own, S, h⟩ := h
  unfold iterSeq at h
  refine tOf_use S (fun u env1 e1 v F1 H1 own1 p O1 => ?_) (fun c env1 e1 C F1 H1 own1 => ?_) (fun e1 => ?_)
  · rw [e1, R.bind_ok] at h
    cases e2 : frz1 env1 u with
    | none => rw [e2] at h; exact h.elim
    | some pr =>
      obtain ⟨d, env2⟩ := pr
      rw [e2] at h
      dsimp only at h
      obtain ⟨F2, own2, r2, O2⟩ := O1.frz e2
      cases r2 with
      | lst q rs => exact ⟨_, _, rfl, .inl ⟨.inl (sameL O2.S.ex q), h _ _ _ _ O2 (feeds_l q rs)⟩⟩
      | tup q rs => exact ⟨_, _, rfl, .inr ⟨SqT.of (O2.S.ex _ _ q), h _ _ _ _ O2 (feeds_t (SqT.of q) rs)⟩⟩
      | _ => exact h.elim
  · rw [e1] at h
    exact h C F1 H1 own1
  · rw [e1] at h
    exact h
theorem i_enum {elts : List Expr} {kk : Nat} (hg : Gl X "enumerate") (hm : X.mg "enumerate" = none) (ha : EvS X Wx e f) (hs : starEach [e] X.env = [(false, eval e X.env)] := by rfl) : ItS X Wx (.Tuple elts kk tpos) (.Call (.Name "enumerate" p) [e] [] pos) (iterEnum f) :=
  PI.imp (pi_enumA hg hm (pa_cons ha pa_nil (by rw [hs]; rfl)) hs) fun σ H RR h => by
  obtain ⟨F, env, own, S, h⟩ := h
  unfold iterEnum iterSeq at h
  refine tOf_use S (fun u env1 e1 v F1 H1 own1 p O1 => ?_) (fun c env1 e1 C F1 H1 own1 => ?_) (fun e1 => ?_)
  · rw [e1, R.bind_ok] at h
    cases e2 : frz1 env1 u with
    | none => rw [e2] at h; exact h.elim
    | some pr =>
      obtain ⟨d, env2⟩ := pr
      rw [e2] at h
      dsimp only at h
      obtain ⟨F2, own2, r2, O2⟩ := O1.frz e2
      cases r2 with
      | lst q rs => exact ⟨_, _, rfl, .inl ⟨.inl (sameL O2.S.ex q), h _ _ _ _ O2 (feeds_el q rs)⟩⟩
      | tup q rs => exact ⟨_, _, rfl, .inr ⟨SqT.of (O2.S.ex _ _ q), h _ _ _ _ O2 (feeds_et (SqT.of q) rs)⟩⟩
      | _ => exact h.elim
  · rw [e1] at h
    exact h C F1 H1 own1
  · rw [e1] at h
    exact h
theorem i_range1 (hg : Gl X "range") (hm : X.mg "range" = none) (ha : EvS X Wx a fa) (hs : starEach [a] X.env = [(false, eval a X.env)] := by rfl) : ItS X Wx tg (.Call (.Name "range" p) [a] [] pos) (iterR1 fa) :=
  PI.imp (pi_range1 hg hm (show EaS X Wx [a] [fa] from ea_cons ha ea_nil (by rw [hs]; rfl)) hs) fun σ H RR h => by
  obtain ⟨F, env, own, S, h⟩ := h
  refine ⟨F, env, own, S, ?_⟩
  unfold iterR1 at h
  cases e : evs [fa] env with
  | stuck => rw [e] at h; exact h
  | raise c env1 => rw [e] at h; exact h
  | ok us env1 =>
    rw [e, R.bind_ok] at h
    intro vs F1 H1 own1 q O
    cases e1 : datL env1 us with
    | none => rw [e1] at h; exact h.elim
    | some ds =>
      rw [e1] at h
      have vw := RepUs.views O.S O.r e1
      split at h
      · rename_i ds' env' heq
        split at heq
        · rename_i n hn
          cases hn
          split at heq
          · rename_i hb
            cases heq
            obtain ⟨x, rfl, hx⟩ := vw.one
            refine ⟨n, by rw [hx.int], hb.1, hb.2, ?_⟩
            have := h _ _ _ _ O.drop (feeds_r (K := X.K) (F0 := F1) (lo := 0) (hi := n))
            simpa using this
          · cases heq
        · cases heq
      · rename_i heq
        split at heq
        · split at heq <;> cases heq
        · cases heq
      · exact h.elim
theorem i_range2 (hg : Gl X "range") (hm : X.mg "range" = none) (ha : EvS X Wx a fa) (hb : EvS X Wx b fb) (hs : starEach [a, b] X.env = [(false, eval a X.env), (false, eval b X.env)] := by rfl) (hs2 : starEach [b] X.env = [(false, eval b X.env)] := by rfl) : ItS X Wx tg (.Call (.Name "range" p) [a, b] [] pos) (iterR2 fa fb) :=
  PI.imp (pi_range2 hg hm (show EaS X Wx [a, b] [fa, fb] from ea_cons ha (ea_cons hb ea_nil (by rw [hs2]; rfl)) (by rw [hs, hs2])) hs hs2) fun σ H RR h => by
  obtain ⟨F, env, own, S, h⟩ := h
  refine ⟨F, env, own, S, ?_⟩
  unfold iterR2 at h
  cases e : evs [fa, fb] env with
  | stuck => rw [e] at h; exact h
  | raise c env1 => rw [e] at h; exact h
  | ok us env1 =>
    rw [e, R.bind_ok] at h
    intro vs F1 H1 own1 q O
    cases e1 : datL env1 us with
    | none => rw [e1] at h; exact h.elim
    | some ds =>
      rw [e1] at h
      have vw := RepUs.views O.S O.r e1
      split at h
      · rename_i ds' env' heq
        split at heq
        · rename_i m n hn
          cases hn
          split at heq
          · rename_i hb
            cases heq
            obtain ⟨x, y, rfl, hx, hy⟩ := vw.two
            exact ⟨m, n, by rw [hx.int, hy.int], ⟨hb.1.1, hb.1.2, hb.2.1, hb.2.2⟩, h _ _ _ _ O.drop feeds_r⟩
          · cases heq
        · cases heq
      · rename_i heq
        split at heq
        · split at heq <;> cases heq
        · cases heq
      · exact h.elim
end
end DL

namespace DL
open PySem PySem.Spec PyProof.Rows L2

/-! ### statements -/
/-- what is wanted behind a statement that tells r -/
def Po (K : PySem.W.Frag) (mg : Str → Option Value) (Wx : WX) (is : List Nat) (E : Ends) (σ : L2.St) (F H : Hp) (own : Nat → Fp) (r : R Fl) : Prop := match r with
  | .ok .next env' => ∀ σ' F' H' own', Only is σ σ' → OutR K F H own σ' env' F' H' own' → E.nx σ' H'
  | .ok .brk env' => ∀ σ' F' H' own', Only is σ σ' → OutR K F H own σ' env' F' H' own' → E.bk σ' H'
  | .ok .cont env' => ∀ σ' F' H' own', Only is σ σ' → OutR K F H own σ' env' F' H' own' → E.ct σ' H'
  | .ok (.ret u) env' => ∀ v σ' F' H' own' p, Only is σ σ' → Out K F H own σ' u v env' F' H' own' p → E.rt v H'
  | .raise c env' => ∀ C σ' F' H' own', Only is σ σ' → mg c = some (.ref C) → OutR K F H own σ' env' F' H' own' → Wx (.ref C) none σ' H'
  | .stuck => False
section
variable {K : PySem.W.Frag} {mg : Str → Option Value} {Wx : WX} {E E' : Ends} {F H F1 H1 : Hp} {σ σ1 : L2.St} {env env1 : DEnv} {own own1 : Nat → Fp} {f : M Fl} {r : R Fl} {is js : List Nat}
theorem sOf_iff : sOf K mg Wx is f E σ H ↔ ∃ F env own, Sit K F σ H env own ∧ Po K mg Wx is E σ F H own (f env) := Iff.rfl
/-- later -/
theorem Po.after (O : OutR K F H own σ1 env1 F1 H1 own1) (hy : ∀ σ2, Only js σ1 σ2 → Only is σ σ2) (h : Po K mg Wx is E σ F H own r) : Po K mg Wx js E σ1 F1 H1 own1 r := by
  unfold Po at h ⊢
  split at h
  · exact fun σ' F' H' own' y O' => h σ' F' H' own' (hy _ y) (O.trans O')
  · exact fun σ' F' H' own' y O' => h σ' F' H' own' (hy _ y) (O.trans O')
  · exact fun σ' F' H' own' y O' => h σ' F' H' own' (hy _ y) (O.trans O')
  · exact fun v σ' F' H' own' p y O' => h v σ' F' H' own' p (hy _ y) (O.out O')
  · exact fun C σ' F' H' own' y hm O' => h C σ' F' H' own' (hy _ y) hm (O.trans O')
  · exact h
theorem sOf_after (O : OutR K F H own σ1 env1 F1 H1 own1) (hy : ∀ σ2, Only js σ1 σ2 → Only is σ σ2) (h : Po K mg Wx is E σ F H own (f env1)) : sOf K mg Wx js f E σ1 H1 := ⟨F1, env1, own1, O.S, h.after O hy⟩
end

def sNext : M Fl := fun env => .ok .next env
def sBrk : M Fl := fun env => .ok .brk env
def sCont : M Fl := fun env => .ok .cont env
def sSeq (a b : M Fl) : M Fl := fun env => (a env).bind fun fl e => match fl with
  | .next => b e
  | fl => .ok fl e
def sSet (i : Nat) (f : M U) : M Fl := fun env => (f env).bind fun u e1 => match ownU e1 u with
  | some (w, e2) => (match setS i w e2 with
    | some e3 => .ok .next e3
    | none => .stuck)
  | none => .stuck
def sTgt (m : MT) (f : M U) : M Fl := fun env => (f env).bind fun u e1 => match frz1 e1 u with
  | some (d, e2) => (match m d e2 with
    | some e3 => .ok .next e3
    | none => .stuck)
  | none => .stuck
def sExpr (f : M U) : M Fl := fun env => (f env).bind fun _ e => .ok .next e
def sRet (f : M U) : M Fl := fun env => (f env).bind fun u e => .ok (.ret u) e
def sIf (t : M Bool) (a b : M Fl) : M Fl := fun env => (t env).bind fun c e => if c then a e else b e
def sRaise (c : Str) : M Fl := fun env => .raise c env
section
variable {X : Cx} {Wx : WX} {st : Stmt} {sts : List Stmt} {is js : List Nat} {f g : M Fl} {e c : Expr} {fe : M U} {t : M Bool} {pos pos' : Pos}
theorem ss_nil : SsS X Wx [] [] sNext := PSs.imp pss_nil fun E σ H h => by
  obtain ⟨F, env, own, S, h⟩ := h
  exact h _ _ _ _ Only.refl (OutR.refl S)
theorem ss_one (h : StS X Wx st is f) : SsS X Wx [st] is f := pss_one h
theorem ss_cons (h1 : StS X Wx st is f) (h2 : SsS X Wx sts js g) : SsS X Wx (st :: sts) (is ++ js) (sSeq f g) := PSs.imp (pss_cons h1 h2) fun E σ H h => by
  obtain ⟨F, env, own, S, h⟩ := h
  refine ⟨F, env, own, S, ?_⟩
  unfold sSeq at h
  cases e : f env with
  | stuck => rw [e] at h; exact h
  | raise _ _ => rw [e] at h; exact fun C σ' F' H' own' y hm O => h C σ' F' H' own' (y.left js) hm O
  | ok fl env1 =>
    rw [e, R.bind_ok] at h
    cases fl with
    | next => exact fun σ' F' H' own' y O => sOf_after O (fun σ2 z => y.trans z) h
    | brk => exact fun σ' F' H' own' y O => h σ' F' H' own' (y.left js) O
    | cont => exact fun σ' F' H' own' y O => h σ' F' H' own' (y.left js) O
    | ret _ => exact fun v σ' F' H' own' p y O => h v σ' F' H' own' p (y.left js) O
theorem s_pass : StS X Wx (.Pass pos) [] sNext := PS.imp ps_pass fun E σ H h => by
  obtain ⟨F, env, own, S, h⟩ := h
  exact h _ _ _ _ Only.refl (OutR.refl S)
theorem s_brk : StS X Wx (.Break pos) [] sBrk := PS.imp ps_break fun E σ H h => by
  obtain ⟨F, env, own, S, h⟩ := h
  exact h _ _ _ _ Only.refl (OutR.refl S)
theorem s_cont : StS X Wx (.Continue pos) [] sCont := PS.imp ps_continue fun E σ H h => by
  obtain ⟨F, env, own, S, h⟩ := h
  exact h _ _ _ _ Only.refl (OutR.refl S)
theorem s_set {i : Nat} {x : Str} (hN : X.N.Nodup) (hi : X.N[i]? = some x) (hx : Loc X.env.scope x) (he : EvS X Wx e fe) (hs : swapsWith e (some (.Name x pos')) pos.line X.env = pure false := by rfl) (hf : X.fn x = true ∨ X.env.scope.names.lookup x = some .local := by first | exact .inl rfl | exact .inr rfl | assumption) :
    StS X Wx (.Assign [.Name x pos'] e pos) [i] (sSet i fe) := PS.imp (ps_set hN hi hx he hs hf) fun E σ H h => by
  obtain ⟨F, env, own, S, h⟩ := h
  unfold sSet at h
  refine tOf_use S (fun u env1 e1 v F1 H1 own1 p O1 => ?_) (fun c env1 e1 C F1 H1 own1 => ?_) (fun e1 => ?_)
  · rw [e1, R.bind_ok] at h
    cases e2 : ownU env1 u with
    | none => rw [e2] at h; exact h.elim
    | some pr =>
      obtain ⟨w, env2⟩ := pr
      rw [e2] at h
      dsimp only at h
      obtain ⟨F2, own2, p2, O2⟩ := ownU_ok O1 e2
      cases e3 : setS i w env2 with
      | none => rw [e3] at h; exact h.elim
      | some env3 =>
        rw [e3] at h
        obtain ⟨own3, O3⟩ := O2.set e3
        exact h _ _ _ _ Only.set O3
  · rw [e1] at h
    exact h C σ F1 H1 own1 Only.refl
  · rw [e1] at h
    exact h
theorem s_tgt {tg : Expr} {is : List Nat} {m : MT} (he : EvS X Wx e fe) (hg : TgS X tg is m) (hs : swapsWithSole [tg] e pos.line X.env = pure false := by rfl) (hw : swappedStores [tg] e X.env = pure none := by rfl)
    (h1 : (assignEach [tg] X.env).map (·.2) = [assign tg X.env] := by rfl) : StS X Wx (.Assign [tg] e pos) is (sTgt m fe) := PS.imp (ps_asg he hg hs hw h1) fun E σ H h => by
  obtain ⟨F, env, own, S, h⟩ := h
  unfold sTgt at h
  refine tOf_use S (fun u env1 e1 v F1 H1 own1 p O1 => ?_) (fun c env1 e1 C F1 H1 own1 => ?_) (fun e1 => ?_)
  · rw [e1, R.bind_ok] at h
    cases e2 : frz1 env1 u with
    | none => rw [e2] at h; exact h.elim
    | some pr =>
      obtain ⟨d, env2⟩ := pr
      rw [e2] at h
      dsimp only at h
      obtain ⟨F2, own2, r2, O2⟩ := O1.frz e2
      refine ⟨F2, env2, own2, d, O2.S, r2, ?_⟩
      cases e3 : m d env2 with
      | none => rw [e3] at h; exact h
      | some env3 =>
        rw [e3] at h
        exact fun σ' F' H' own' y O3 => h _ _ _ _ y (O2.trans O3)
  · rw [e1] at h
    exact h C σ F1 H1 own1 Only.refl
  · rw [e1] at h
    exact h
theorem s_expr (he : EvS X Wx e fe) (hs : swapsWith e none pos.line X.env = pure false := by rfl) : StS X Wx (.Expr e pos) [] (sExpr fe) := PS.imp (ps_expr he hs) fun E σ H h => by
  obtain ⟨F, env, own, S, h⟩ := h
  unfold sExpr at h
  refine tOf_use S (fun u env1 e1 v F1 H1 own1 p O1 => ?_) (fun c env1 e1 C F1 H1 own1 => ?_) (fun e1 => ?_)
  · rw [e1, R.bind_ok] at h
    exact h _ _ _ _ Only.refl O1.drop
  · rw [e1] at h
    exact h C σ F1 H1 own1 Only.refl
  · rw [e1] at h
    exact h
theorem s_ret (he : EvS X Wx e fe) : StS X Wx (.Return (some e) pos) [] (sRet fe) := PS.imp (ps_ret he) fun E σ H h => by
  obtain ⟨F, env, own, S, h⟩ := h
  unfold sRet at h
  refine tOf_use S (fun u env1 e1 v F1 H1 own1 p O1 => ?_) (fun c env1 e1 C F1 H1 own1 => ?_) (fun e1 => ?_)
  · rw [e1, R.bind_ok] at h
    exact h _ _ _ _ _ _ Only.refl O1
  · rw [e1] at h
    exact h C σ F1 H1 own1 Only.refl
  · rw [e1] at h
    exact h
theorem s_if {a b : List Stmt} (hc : TtS X Wx c t) (ha : SsS X Wx a is f) (hb : SsS X Wx b js g) : StS X Wx (.If c a b pos) (is ++ js) (sIf t f g) := PS.imp (ps_if hc ha hb) fun E σ H h => by
  obtain ⟨F, env, own, S, h⟩ := h
  unfold sIf at h
  refine ttOf_use S (fun c env1 e1 F1 H1 own1 O1 => ?_) (fun c env1 e1 C F1 H1 own1 => ?_) (fun e1 => ?_)
  · rw [e1, R.bind_ok] at h
    cases c with
    | true => exact sOf_after O1 (fun σ2 y => y.left js) h
    | false => exact sOf_after O1 (fun σ2 y => y.right is) h
  · rw [e1] at h
    exact h C σ F1 H1 own1 Only.refl
  · rw [e1] at h
    exact h
end

/-! ### while -/
def whileN (t : M Bool) (b : M Fl) : Nat → M Fl
  | 0, _ => .stuck
  | n + 1, env => (t env).bind fun c e1 => if c then (b e1).bind fun fl e2 => (match fl with
      | .next => whileN t b n e2
      | .cont => whileN t b n e2
      | .brk => .ok .next e2
      | .ret u => .ok (.ret u) e2) else .ok .next e1
theorem R.bind_ns {α β : Type} {r : R α} {k k' : α → DEnv → R β} (h : r.bind k ≠ .stuck) (e : ∀ a env, k a env ≠ .stuck → k' a env = k a env) : r.bind k' = r.bind k := by
  cases r with
  | ok a env => exact e a env h
  | raise _ _ => rfl
  | stuck => rfl
theorem whileN_mono (t : M Bool) (b : M Fl) : ∀ (n : Nat) (env : DEnv), whileN t b n env ≠ .stuck → whileN t b (n + 1) env = whileN t b n env
  | 0, env, h => absurd rfl h
  | n + 1, env, h => by
    rw [whileN] at h
    rw [whileN, whileN]
    refine R.bind_ns h fun c e1 h1 => ?_
    cases c with
    | false => rfl
    | true =>
      rw [if_pos rfl] at h1
      rw [if_pos rfl, if_pos rfl]
      refine R.bind_ns h1 fun fl e2 h2 => ?_
      cases fl with
      | next => exact whileN_mono t b n e2 h2
      | cont => exact whileN_mono t b n e2 h2
      | brk => rfl
      | ret _ => rfl
theorem whileN_le (t : M Bool) (b : M Fl) {n m : Nat} {env : DEnv} (h : whileN t b n env ≠ .stuck) (l : n ≤ m) : whileN t b m env = whileN t b n env := by
  induction m with
  | zero => rw [Nat.le_zero.mp l]
  | succ m ih =>
    rcases Nat.lt_or_ge n (m + 1) with q | q
    · have e := ih (Nat.le_of_lt_succ q)
      rw [whileN_mono t b m env (by rw [e]; exact h), e]
    · rw [Nat.le_antisymm l q]
open Classical in
noncomputable def sWhile (t : M Bool) (b : M Fl) : M Fl := fun env => if h : ∃ n, whileN t b n env ≠ .stuck then whileN t b (choose h) env else .stuck
theorem sWhile_eq {t : M Bool} {b : M Fl} {n : Nat} {env : DEnv} {r : R Fl} (h : whileN t b n env = r) (hr : r ≠ .stuck) : sWhile t b env = r := by
  have ex : ∃ n, whileN t b n env ≠ .stuck := ⟨n, by rw [h]; exact hr⟩
  unfold sWhile
  rw [dif_pos ex]
  have hc := Classical.choose_spec ex
  rcases Nat.le_total (Classical.choose ex) n with l | l
  · rw [← whileN_le t b hc l, h]
  · rw [whileN_le t b (by rw [h]; exact hr) l, h]
theorem sWhile_step {t : M Bool} {b : M Fl} {env : DEnv} : sWhile t b env = (t env).bind fun c e1 => if c then (b e1).bind fun fl e2 => (match fl with
      | .next => sWhile t b e2
      | .cont => sWhile t b e2
      | .brk => .ok .next e2
      | .ret u => .ok (.ret u) e2) else .ok .next e1 := by
  by_cases ex : ∃ n, whileN t b n env ≠ .stuck
  · obtain ⟨n, hn⟩ := ex
    rw [sWhile_eq rfl hn]
    cases n with
    | zero => exact absurd rfl hn
    | succ n =>
      rw [whileN] at hn ⊢
      symm
      refine R.bind_ns hn fun c e1 h1 => ?_
      cases c with
      | false => rfl
      | true =>
        rw [if_pos rfl] at h1
        rw [if_pos rfl, if_pos rfl]
        refine R.bind_ns h1 fun fl e2 h2 => ?_
        cases fl with
        | next => exact sWhile_eq rfl h2
        | cont => exact sWhile_eq rfl h2
        | brk => rfl
        | ret _ => rfl
  · have e : sWhile t b env = .stuck := by
      unfold sWhile
      rw [dif_neg ex]
    rw [e]
    cases e1 : t env with
    | stuck => rfl
    | raise c env1 => exact absurd ⟨1, by rw [whileN, e1]; exact fun z => nomatch z⟩ ex
    | ok c env1 =>
      rw [R.bind_ok]
      cases c with
      | false => exact absurd ⟨1, by rw [whileN, e1]; exact fun z => nomatch z⟩ ex
      | true =>
        rw [if_pos rfl]
        cases e2 : b env1 with
        | stuck => rfl
        | raise c env2 => exact absurd ⟨1, by rw [whileN, e1, R.bind_ok, if_pos rfl, e2]; exact fun z => nomatch z⟩ ex
        | ok fl env2 =>
          rw [R.bind_ok]
          have key : ∀ fl', (fl' = Fl.next ∨ fl' = Fl.cont) → b env1 = .ok fl' env2 → sWhile t b env2 = .stuck := fun fl' hf hb => by
            unfold sWhile
            rw [dif_neg]
            rintro ⟨n, hn⟩
            refine ex ⟨n + 1, ?_⟩
            rw [whileN, e1, R.bind_ok, if_pos rfl, hb, R.bind_ok]
            rcases hf with rfl | rfl <;> exact hn
          cases fl with
          | next => exact (key .next (.inl rfl) e2).symm
          | cont => exact (key .cont (.inr rfl) e2).symm
          | brk => exact absurd ⟨1, by rw [whileN, e1, R.bind_ok, if_pos rfl, e2]; exact fun z => nomatch z⟩ ex
          | ret u => exact absurd ⟨1, by rw [whileN, e1, R.bind_ok, if_pos rfl, e2]; exact fun z => nomatch z⟩ ex
section
variable {X : Cx} {Wx : WX} {c : Expr} {body : List Stmt} {is : List Nat} {t : M Bool} {b : M Fl} {pos : Pos}
theorem s_while (hp : PassesOwn (model X.prog X.w) X.A X.env X.xe) (hc : TtS X Wx c t) (hb : SsS X Wx body is b) : StS X Wx (.While c body [] pos) is (sWhile t b) := PS.imp (ps_while hp hc hb) fun E σ H h => by
  obtain ⟨F, env, own, S, h⟩ := h
  have h : Po X.K X.mg Wx is E σ F H own (sWhile t b env) := h
  have ns : sWhile t b env ≠ .stuck := fun z => by rw [z] at h; exact h
  obtain ⟨n0, hn0⟩ : ∃ n, whileN t b n env = sWhile t b env := by
    by_cases ex : ∃ n, whileN t b n env ≠ .stuck
    · obtain ⟨n, hn⟩ := ex
      exact ⟨n, (sWhile_eq rfl hn).symm⟩
    · exact absurd (by unfold sWhile; rw [dif_neg ex]) ns
  generalize sWhile t b env = r at h ns hn0
  refine ⟨fun m σ1 H1 => Only is σ σ1 ∧ ∃ F1 env1 own1, OutR X.K F H own σ1 env1 F1 H1 own1 ∧ whileN t b m env1 = r, ⟨n0, Only.refl, F, env, own, OutR.refl S, hn0⟩, ?_⟩
  rintro m σ1 H1 ⟨y1, F1, env1, own1, O1, hm⟩
  cases m with
  | zero => exact absurd hm.symm ns
  | succ m =>
    rw [whileN] at hm
    refine ttOf_use O1.S (fun c env2 e2 F2 H2 own2 O2 => ?_) (fun c env2 e2 C F2 H2 own2 hmg O2 => ?_) (fun e2 => ?_)
    · rw [e2, R.bind_ok] at hm
      cases c with
      | false =>
        rw [if_neg Bool.false_ne_true] at hm ⊢
        rw [← hm] at h
        exact h _ _ _ _ y1 (O1.trans O2)
      | true =>
        rw [if_pos rfl] at hm ⊢
        refine ⟨fun σ' H' => Only is σ σ' ∧ ∃ F' env' own', OutR X.K F H own σ' env' F' H' own' ∧ whileN t b m env' = r, fun σ' H' q => ⟨m, Nat.lt_succ_self _, q⟩, ?_⟩
        refine ⟨F2, env2, own2, O2.S, ?_⟩
        have O12 := O1.trans O2
        cases e3 : b env2 with
        | stuck => rw [e3] at hm; exact absurd hm.symm ns
        | raise c env3 =>
          rw [e3, R.bind_raise] at hm
          rw [← hm] at h
          exact fun C σ' F' H' own' y3 hmg O3 => h C σ' F' H' own' (y1.join y3) hmg (O12.trans O3)
        | ok fl env3 =>
          rw [e3, R.bind_ok] at hm
          cases fl with
          | next => exact fun σ' F' H' own' y3 O3 => ⟨y1.join y3, F', env3, own', O12.trans O3, hm⟩
          | cont => exact fun σ' F' H' own' y3 O3 => ⟨y1.join y3, F', env3, own', O12.trans O3, hm⟩
          | brk =>
            have hm : R.ok Fl.next env3 = r := hm
            rw [← hm] at h
            exact fun σ' F' H' own' y3 O3 => h _ _ _ _ (y1.join y3) (O12.trans O3)
          | ret u =>
            have hm : R.ok (Fl.ret u) env3 = r := hm
            rw [← hm] at h
            exact fun v σ' F' H' own' p y3 O3 => h _ _ _ _ _ _ (y1.join y3) (O12.out O3)
    · rw [e2, R.bind_raise] at hm
      rw [← hm] at h
      exact h C σ1 F2 H2 own2 y1 hmg (O1.trans O2)
    · rw [e2] at hm
      exact ns hm.symm
end

/-! ### for -/
def forD (m : MT) (b : M Fl) : List D → M Fl
  | [], env => .ok .next env
  | d :: ds, env => match m d env with
    | some e1 => (b e1).bind fun fl e2 => (match fl with
      | .next => forD m b ds e2
      | .cont => forD m b ds e2
      | .brk => .ok .next e2
      | .ret u => .ok (.ret u) e2)
    | none => .stuck
def sFor (it : M (List D)) (m : MT) (b : M Fl) : M Fl := fun env => (it env).bind fun ds e => forD m b ds e
section
variable {X : Cx} {Wx : WX} {tg iter : Expr} {is js : List Nat} {body : List Stmt} {it : M (List D)} {m : MT} {b : M Fl} {pos : Pos}
theorem s_for (hp : PassesOwn (model X.prog X.w) X.A X.env X.xe) (hc : X.calm = true) (hi : ItS X Wx tg iter it) (hg : TgS X tg is m) (hb : SsS X Wx body js b)
    (hs : ∀ x, foldedSetIterable iter X.env x = pure x := by intro _; rfl) : StS X Wx (.For tg iter body [] pos) (is ++ js) (sFor it m b) := PS.imp (ps_for hp hc hi hg hb hs) fun E σ H h => by
  obtain ⟨F, env, own, S, h⟩ := h
  have h : Po X.K X.mg Wx (is ++ js) E σ F H own (sFor it m b env) := h
  refine ⟨F, env, own, S, ?_⟩
  unfold sFor at h
  cases e : it env with
  | stuck => rw [e] at h; exact h
  | raise c env1 => rw [e] at h; exact fun C F' H' own' => h C σ F' H' own' Only.refl
  | ok ds env1 =>
    rw [e, R.bind_ok] at h
    intro J F1 H1 own1 O1 fd
    have ns : forD m b ds env1 ≠ .stuck := fun z => by rw [z] at h; exact h
    generalize hr : forD m b ds env1 = r at h ns
    refine ⟨fun i k σ2 H2 => k = ds.length - i ∧ i ≤ ds.length ∧ Only (is ++ js) σ σ2 ∧ ∃ F2 env2 own2, OutR X.K F H own σ2 env2 F2 H2 own2 ∧ Same F1 F2 ∧ forD m b (ds.drop i) env2 = r, ⟨ds.length, by simp, Nat.zero_le _, Only.refl, F1, env1, own1, O1, Same.refl _, hr⟩, ?_⟩
    rintro i k σ2 H2 ⟨rfl, hi, y2, F2, env2, own2, O2, s12, hq⟩
    by_cases hlt : i < ds.length
    · refine .inr ⟨fd.go F2 H2 i s12 O2.S.ex hlt, fun σ' H' => Only (is ++ js) σ σ' ∧ ∃ F' env' own', OutR X.K F H own σ' env' F' H' own' ∧ Same F1 F' ∧ forD m b (ds.drop (i + 1)) env' = r, fun σ' H' ⟨y', F', env', own', O', s', q⟩ => ⟨ds.length - (i + 1), by omega, rfl, hlt, y', F', env', own', O', s', q⟩, fun x H' y => ?_⟩
      have hd : ds[i]? = some ds[i] := List.getElem?_eq_getElem hlt
      obtain ⟨F3, gr, r3⟩ := fd.yld F2 H2 i x H' ds[i] s12 O2.S.ex hd y
      have hdr : ds.drop i = ds[i] :: ds.drop (i + 1) := List.drop_eq_getElem_cons hlt
      rw [hdr, forD] at hq
      have O3 : OutR X.K F H own σ2 env2 F3 H' own2 := ⟨gr.sit O2.S, O2.s.trans ((gr.step own2).sub fun _ z => .inl z)⟩
      refine ⟨F3, env2, own2, ds[i], O3.S, r3, ?_⟩
      cases e3 : m ds[i] env2 with
      | none => rw [e3] at hq; exact ns hq.symm
      | some env3 =>
        rw [e3] at hq
        dsimp only at hq
        intro σ4 F4 H4 own4 y4 O4
        have y24 : Only (is ++ js) σ σ4 := y2.join (y4.left js)
        have O34 := O3.trans O4
        refine ⟨F4, env3, own4, O4.S, ?_⟩
        cases e5 : b env3 with
        | stuck => rw [e5] at hq; exact absurd hq.symm ns
        | raise c env5 =>
          rw [e5, R.bind_raise] at hq
          rw [← hq] at h
          exact fun C σ' F' H' own' y5 hmg O5 => h C σ' F' H' own' (y24.join (y5.right is)) hmg (O34.trans O5)
        | ok fl env5 =>
          rw [e5, R.bind_ok] at hq
          have s14 : Same F1 F4 := (s12.trans gr.exF).trans O4.s.ex
          cases fl with
          | next => exact fun σ' F' H' own' y5 O5 => ⟨y24.join (y5.right is), F', env5, own', O34.trans O5, s14.trans O5.s.ex, hq⟩
          | cont => exact fun σ' F' H' own' y5 O5 => ⟨y24.join (y5.right is), F', env5, own', O34.trans O5, s14.trans O5.s.ex, hq⟩
          | brk =>
            have hq : R.ok Fl.next env5 = r := hq
            rw [← hq] at h
            exact fun σ' F' H' own' y5 O5 => h _ _ _ _ (y24.join (y5.right is)) (O34.trans O5)
          | ret u =>
            have hq : R.ok (Fl.ret u) env5 = r := hq
            rw [← hq] at h
            exact fun v σ' F' H' own' p y5 O5 => h _ _ _ _ _ _ (y24.join (y5.right is)) (O34.out O5)
    · have ei : i = ds.length := by omega
      subst ei
      refine .inl ⟨fd.stop F2 H2 s12 O2.S.ex, ?_⟩
      rw [List.drop_length] at hq
      have hq : R.ok Fl.next env2 = r := hq
      rw [← hq] at h
      exact h _ _ _ _ y2 O2
end
end DL

namespace DL
open PySem PySem.Spec PyProof.Rows L2

/-! ### comprehensions -/
def wipeA {α : Type} (l : List (Option α)) : List Nat → List (Option α)
  | [] => l
  | v :: vs => (wipeA l vs).set v none
theorem wipe_eq (σ : L2.St) : ∀ vs : List Nat, wipe σ vs = wipeA σ vs
  | [] => rfl
  | v :: vs => by rw [wipe, wipeA, wipe_eq σ vs]
theorem wipeA_len {α : Type} (l : List (Option α)) : ∀ vs : List Nat, (wipeA l vs).length = l.length
  | [] => rfl
  | v :: vs => by rw [wipeA, List.length_set, wipeA_len l vs]
theorem wipeA_out {α : Type} {l : List (Option α)} {i : Nat} : ∀ {vs : List Nat}, i ∉ vs → (wipeA l vs)[i]? = l[i]?
  | [], _ => rfl
  | v :: vs, h => by
    rw [wipeA, List.getElem?_set_ne (fun z => h (by simp [z])), wipeA_out fun z => h (List.mem_cons_of_mem _ z)]
theorem wipeA_in {α : Type} {l : List (Option α)} {i : Nat} : ∀ {vs : List Nat}, i ∈ vs → ∀ x, (wipeA l vs)[i]? ≠ some (some x)
  | [], h, _ => by cases h
  | v :: vs, h, x => by
    rw [wipeA]
    by_cases e : v = i
    · subst e
      by_cases hl : v < (wipeA l vs).length
      · rw [List.getElem?_set_self hl]; exact fun z => nomatch z
      · rw [List.getElem?_eq_none (by simpa using hl)]; exact fun z => nomatch z
    · rw [List.getElem?_set_ne e]
      rcases List.mem_cons.mp h with z | z
      · exact absurd z.symm e
      · exact wipeA_in z x
theorem wipeA_some {α : Type} {l : List (Option α)} {i : Nat} {x : α} {vs : List Nat} (h : (wipeA l vs)[i]? = some (some x)) : l[i]? = some (some x) ∧ i ∉ vs := by
  by_cases hi : i ∈ vs
  · exact absurd h (wipeA_in hi x)
  · rw [wipeA_out hi] at h; exact ⟨h, hi⟩
theorem ext_get {α : Type} {l m : List α} (h : ∀ i : Nat, l[i]? = m[i]?) : l = m := List.ext_getElem? h
theorem wipe_only {σ σ' : L2.St} {is vs : List Nat} (o : Only is σ σ') (hs : ∀ i ∈ is, i ∈ vs) : wipe σ' vs = wipe σ vs := by
  rw [wipe_eq, wipe_eq]
  refine ext_get fun i => ?_
  by_cases hi : i ∈ vs
  · have key : ∀ l : L2.St, l.length = σ.length → (wipeA l vs)[i]? = if i < σ.length then some none else none := fun l hl => by
      by_cases c : i < σ.length
      · rw [if_pos c]
        have hc : i < (wipeA l vs).length := by rw [wipeA_len, hl]; exact c
        rw [List.getElem?_eq_getElem hc]
        cases e : (wipeA l vs)[i] with
        | none => rfl
        | some x => exact absurd (by rw [List.getElem?_eq_getElem hc, e]) (wipeA_in (l := l) hi x)
      · rw [if_neg c]
        exact List.getElem?_eq_none (by rw [wipeA_len, hl]; omega)
    rw [key σ' o.1, key σ rfl]
  · rw [wipeA_out hi, wipeA_out hi]
    exact o.2 i fun z => hi (hs i z)
theorem wipe_wipe {σ : L2.St} {vs : List Nat} : wipe (wipe σ vs) vs = wipe σ vs :=
  wipe_only (is := vs) ⟨wipe_length σ vs, fun j h => by rw [wipe_eq, wipeA_out h]⟩ fun _ h => h
/-- the names of a comprehension hold data, if anything, ahead of it -/
def dataAt (env : DEnv) (vs : List Nat) : Bool := vs.all fun v => match env[v]? with
  | some (some (.l _ _)) => false
  | some (some (.m _ _)) => false
  | some (some (.x _)) => false
  | _ => true
def unwipe (e1 : DEnv) : List Nat → DEnv → DEnv
  | [], e2 => e2
  | v :: vs, e2 => (unwipe e1 vs e2).set v ((e1[v]?).getD none)
theorem unwipe_len (e1 e2 : DEnv) : ∀ vs : List Nat, (unwipe e1 vs e2).length = e2.length
  | [] => rfl
  | v :: vs => by rw [unwipe, List.length_set, unwipe_len e1 e2 vs]
theorem unwipe_out {e1 e2 : DEnv} {i : Nat} : ∀ {vs : List Nat}, i ∉ vs → (unwipe e1 vs e2)[i]? = e2[i]?
  | [], _ => rfl
  | v :: vs, h => by
    rw [unwipe, List.getElem?_set_ne (fun z => h (by simp [z])), unwipe_out fun z => h (List.mem_cons_of_mem _ z)]
theorem unwipe_in {e1 e2 : DEnv} {i : Nat} {w : W} : ∀ {vs : List Nat}, i ∈ vs → (unwipe e1 vs e2)[i]? = some (some w) → e1[i]? = some (some w)
  | [], h, _ => by cases h
  | v :: vs, h, q => by
    rw [unwipe] at q
    by_cases e : v = i
    · subst e
      by_cases hl : v < (unwipe e1 vs e2).length
      · rw [List.getElem?_set_self hl] at q
        cases z : e1[v]? with
        | none => rw [z] at q; cases q
        | some x => rw [z] at q; simpa using q
      · rw [List.getElem?_eq_none (by simpa using hl)] at q; cases q
    · rw [List.getElem?_set_ne e] at q
      rcases List.mem_cons.mp h with z | z
      · exact absurd z.symm e
      · exact unwipe_in z q
def compD (vs : List Nat) (m : MT) (t : M Bool) (f : M U) : List D → M (List D)
  | [], env => .ok [] env
  | d :: ds, env => match m d env with
    | none => .stuck
    | some e1 => (t e1).bind fun b e2 => if b then (f e2).bind fun u e3 => (match frz1 e3 u with
        | some (y, e4) => (compD vs m t f ds (wipeA e4 vs)).bind fun ys e5 => .ok (y :: ys) e5
        | none => .stuck) else compD vs m t f ds (wipeA e2 vs)
def eComp (it : M (List D)) (vs : List Nat) (m : MT) (t : M Bool) (f : M U) : M U := fun env => (it env).bind fun ds e1 => if dataAt e1 vs then (match compD vs m t f ds (wipeA e1 vs) with
  | .ok ys e2 => if ds.length ≤ 1000000 then .ok (.w (.l false ys)) (unwipe e1 vs e2) else .stuck
  | _ => .stuck) else .stuck
abbrev Wx0 : WX := fun _ _ _ _ => False
def tYesD : M Bool := fun env => .ok true env
section
variable {K : PySem.W.Frag} {F H : Hp} {σ : L2.St} {env : DEnv} {own : Nat → Fp} {vs : List Nat}
theorem dataAt_no (S : Sit K F σ H env own) (h : dataAt env vs = true) {i : Nat} (hi : i ∈ vs) (a : Addr) : ¬ own i a := fun z => by
  obtain ⟨w, e⟩ := S.emp i a z
  unfold dataAt at h
  rw [List.all_eq_true] at h
  have := h i hi
  rw [e] at this
  obtain ⟨v, _, r⟩ := S.rep i w e
  cases w with
  | v d => exact r.1 a z
  | l _ _ => cases this
  | m _ _ => cases this
  | x _ => cases this
theorem Sit.wipe (S : Sit K F σ H env own) (h : ∀ i ∈ vs, ∀ a, ¬ own i a) : Sit K F (L2.wipe σ vs) H (wipeA env vs) own where
  ex := S.ex
  len := by rw [wipe_eq, wipeA_len, wipeA_len]; exact S.len
  rep := fun i w e => by
    obtain ⟨e1, hi⟩ := wipeA_some e
    obtain ⟨v, hv, r⟩ := S.rep i w e1
    exact ⟨v, by rw [wipe_eq, wipeA_out hi]; exact hv, r⟩
  emp := fun i a z => by
    have hi : i ∉ vs := fun q => h i q a z
    obtain ⟨w, e⟩ := S.emp i a z
    exact ⟨w, by rw [wipeA_out hi]; exact e⟩
  dis := S.dis
/-- what one turn leaves is wiped: whatever it owned there is let go -/
def ownW (vs : List Nat) (own : Nat → Fp) : Nat → Fp := fun i a => i ∉ vs ∧ own i a
theorem ownW_sub {a : Addr} (h : all (ownW vs own) a) : all own a := by
  obtain ⟨i, _, z⟩ := h
  exact ⟨i, z⟩
theorem Sit.wipe2 (S : Sit K F σ H env own) : Sit K F (L2.wipe σ vs) H (wipeA env vs) (ownW vs own) where
  ex := S.ex
  len := by rw [wipe_eq, wipeA_len, wipeA_len]; exact S.len
  rep := fun i w e => by
    obtain ⟨e1, hi⟩ := wipeA_some e
    obtain ⟨v, hv, r⟩ := S.rep i w e1
    refine ⟨v, by rw [wipe_eq, wipeA_out hi]; exact hv, ?_⟩
    have e3 : ownW vs own i = own i := funext fun a => propext ⟨fun z => z.2, fun z => ⟨hi, z⟩⟩
    rw [e3]
    exact r
  emp := fun i a z => by
    obtain ⟨w, e⟩ := S.emp i a z.2
    exact ⟨w, by rw [wipeA_out z.1]; exact e⟩
  dis := fun i j a z1 z2 => S.dis i j a z1.2 z2.2
theorem unwipe_sit {F1 F2 H1 H2 : Hp} {env1 env2 : DEnv} {own1 own2 : Nat → Fp} (S1 : Sit K F1 σ H1 env1 own1) (h1 : dataAt env1 vs = true) (e12 : Same F1 F2) (S2 : Sit K F2 (L2.wipe σ vs) H2 env2 own2) :
    Sit K F2 σ H2 (unwipe env1 vs env2) (ownW vs own2) where
  ex := S2.ex
  len := by rw [unwipe_len, S2.len, wipe_eq, wipeA_len]
  rep := fun i w e => by
    by_cases hi : i ∈ vs
    · have e1 := unwipe_in hi e
      obtain ⟨v, hv, r⟩ := S1.rep i w e1
      refine ⟨v, hv, ?_⟩
      cases w with
      | v d => exact ⟨fun a z => z.1 hi, r.2.mono e12⟩
      | l _ _ =>
        unfold dataAt at h1
        rw [List.all_eq_true] at h1
        have := h1 i hi
        rw [e1] at this
        cases this
      | m _ _ =>
        unfold dataAt at h1
        rw [List.all_eq_true] at h1
        have := h1 i hi
        rw [e1] at this
        cases this
      | x _ =>
        unfold dataAt at h1
        rw [List.all_eq_true] at h1
        have := h1 i hi
        rw [e1] at this
        cases this
    · rw [unwipe_out hi] at e
      obtain ⟨v, hv, r⟩ := S2.rep i w e
      refine ⟨v, ?_, ?_⟩
      · rw [wipe_eq, wipeA_out hi] at hv; exact hv
      · have e3 : ownW vs own2 i = own2 i := funext fun a => propext ⟨fun z => z.2, fun z => ⟨hi, z⟩⟩
        rw [e3]
        exact r
  emp := fun i a z => by
    obtain ⟨w, e⟩ := S2.emp i a z.2
    exact ⟨w, by rw [unwipe_out z.1]; exact e⟩
  dis := fun i j a z1 z2 => S2.dis i j a z1.2 z2.2
end
/-- where a turn of a comprehension stands: the list at P holds ys so far -/
structure Mid (K : PySem.W.Frag) (F0 H0 : Hp) (own0 : Nat → Fp) (P : Addr) (σ' : L2.St) (env' : DEnv) (F' H' : Hp) (own' : Nat → Fp) (ys : List D) : Prop where
  S : Sit K F' σ' H' env' own'
  at' : ∃ vs, H' P = some (.lst vs) ∧ RepDs K F' vs ys
  fr : F' P = none
  no : ¬ all own' P
  s : Step F0 H0 (all own0) F' H' (fun a => all own' a ∨ a = P)
section
variable {K : PySem.W.Frag} {F0 H0 F1 H1 F2 H2 : Hp} {own0 own1 own2 : Nat → Fp} {P : Addr} {σ1 σ2 : L2.St} {env1 env2 : DEnv} {ys : List D}
theorem Mid.step (M : Mid K F0 H0 own0 P σ1 env1 F1 H1 own1 ys) (O : OutR K F1 H1 own1 σ2 env2 F2 H2 own2) : Mid K F0 H0 own0 P σ2 env2 F2 H2 own2 ys := by
  obtain ⟨vs, hP, r⟩ := M.at'
  refine ⟨O.S, ⟨vs, O.s.keep P _ hP M.no, r.mono O.s.ex⟩, ?_, fun z => ?_, ?_⟩
  · cases e : F2 P with
    | none => rfl
    | some o =>
      rcases O.s.frz P o e M.fr with z | z
      · exact absurd z M.no
      · rw [hP] at z; cases z
  · rcases O.s.new P z with y | y
    · exact M.no y
    · rw [hP] at y; cases y
  · exact M.s.trans (O.s.more fun a => a = P)
/-- one more item -/
theorem Mid.push {v : V} {d : D} (M : Mid K F0 H0 own0 P σ1 env1 F1 H1 own1 ys) (r : RepD K F1 v d) (vs : List V) (hP : H1 P = some (.lst vs)) : Mid K F0 H0 own0 P σ1 env1 F1 (upd H1 P (.lst (vs ++ [v]))) own1 (ys ++ [d]) := by
  obtain ⟨vs', hP', rr⟩ := M.at'
  rw [hP] at hP'
  cases hP'
  have keep : ∀ a o, a ≠ P → H1 a = some o → upd H1 P (.lst (vs ++ [v])) a = some o := fun a o ne h => by rw [upd_ne ne]; exact h
  refine ⟨⟨fun a o h => ?_, M.S.len, fun i w e => ?_, M.S.emp, M.S.dis⟩, ⟨_, upd_same, rr.append (.cons r .nil)⟩, M.fr, M.no, M.s.ex, fun a o h n => ?_, M.s.new, M.s.frz⟩
  · have ne : a ≠ P := fun z => by rw [z, M.fr] at h; cases h
    exact keep a o ne (M.S.ex a o h)
  · obtain ⟨u, hu, ru⟩ := M.S.rep i w e
    refine ⟨u, hu, ru.frame (Same.refl _) (fun a o q h => keep a o (fun z => M.no (z ▸ ⟨i, q⟩)) h) fun a q => (ru.there q).2⟩
  · have h1 := M.s.keep a o h n
    have ne : a ≠ P := fun z => by
      rcases M.s.new P (.inr rfl) with y | y
      · exact n (z ▸ y)
      · rw [z] at h; rw [y] at h; cases h
    exact keep a o ne h1
end
theorem comp_sem {K : PySem.W.Frag} {mg : Str → Option Value} {Wx : WX} {it : M (List D)} {is vs : List Nat} {m : MT} {t : M Bool} {f : M U} {σ : L2.St} {H : Hp} {Q : VK} (hsub : ∀ i ∈ is, i ∈ vs) (h : tOf K mg Wx (eComp it vs m t f) σ H Q) :
    tLc (iOf K mg Wx it) (gOf K is m) (ttOf K mg Wx0 t) (tOf K mg Wx0 f) vs σ H Q := by
  obtain ⟨F, env, own, S, h⟩ := h
  unfold eComp at h
  refine ⟨F, env, own, S, ?_⟩
  cases e : it env with
  | stuck => rw [e] at h; exact h
  | raise c env1 => rw [e] at h; exact h
  | ok ds env1 =>
    rw [e, R.bind_ok] at h
    intro J F1 H1 own1 O1 fd P hP
    by_cases hda : dataAt env1 vs = true
    · rw [if_pos hda] at h
      cases ec : compD vs m t f ds (wipeA env1 vs) with
      | stuck => rw [ec] at h; exact h.elim
      | raise _ _ => rw [ec] at h; exact h.elim
      | ok yall efin =>
        rw [ec] at h
        dsimp only at h
        by_cases hlen : ds.length ≤ 1000000
        · rw [if_pos hlen] at h
          -- the start
          have S1w := O1.S.wipe (vs := vs) fun i hi a => dataAt_no O1.S hda hi a
          have g0 : Grow F1 H1 F1 (upd H1 P (.lst [])) (fun a => a = P) := Grow.ofOwn O1.S.ex hP
          have M0 : Mid K F1 H1 own1 P (wipe σ vs) (wipeA env1 vs) F1 (upd H1 P (.lst [])) own1 [] := by
            refine ⟨g0.sit S1w, ⟨[], upd_same, .nil⟩, sub_none O1.S.ex hP, fun z => ?_, g0.step own1⟩
            obtain ⟨⟨o, e2⟩, _⟩ := O1.S.there z
            rw [hP] at e2
            cases e2
          refine ⟨fun i k H' => k = ds.length - i ∧ i ≤ ds.length ∧ ∃ F' env' own' ys, ys.length ≤ i ∧ Same F1 F' ∧ Mid K F1 H1 own1 P (wipe σ vs) env' F' H' own' ys ∧ ∃ rest, compD vs m t f (ds.drop i) env' = .ok rest efin ∧ ys ++ rest = yall,
            ⟨ds.length, by simp, Nat.zero_le _, F1, wipeA env1 vs, own1, [], Nat.zero_le _, Same.refl _, M0, yall, ec, rfl⟩, ?_⟩
          rintro i k H' ⟨rfl, hi, F', env', own', ys, hyl, s1, M, rest, hr, hy⟩
          by_cases hlt : i < ds.length
          · refine .inr ⟨fd.go F' H' i s1 M.S.ex hlt, fun H'' => i + 1 ≤ ds.length ∧ ∃ F' env' own' ys, ys.length ≤ i + 1 ∧ Same F1 F' ∧ Mid K F1 H1 own1 P (wipe σ vs) env' F' H'' own' ys ∧ ∃ rest, compD vs m t f (ds.drop (i + 1)) env' = .ok rest efin ∧ ys ++ rest = yall,
              fun H'' q => ⟨ds.length - (i + 1), by omega, rfl, q.1, q.2⟩, fun x H'' y => ?_⟩
            have hd : ds[i]? = some ds[i] := List.getElem?_eq_getElem hlt
            obtain ⟨F3, gr, r3⟩ := fd.yld F' H' i x H'' ds[i] s1 M.S.ex hd y
            have hdr : ds.drop i = ds[i] :: ds.drop (i + 1) := List.drop_eq_getElem_cons hlt
            rw [hdr, compD] at hr
            have M3 : Mid K F1 H1 own1 P (wipe σ vs) env' F3 H'' own' ys := M.step ⟨gr.sit M.S, (gr.step own').sub fun _ z => .inl z⟩
            refine ⟨F3, env', own', ds[i], M3.S, r3, ?_⟩
            cases e3 : m ds[i] env' with
            | none => rw [e3] at hr; cases hr
            | some ea =>
              rw [e3] at hr
              dsimp only at hr
              intro σ4 F4 H4 own4 o4 O4
              have w4 : wipe σ4 vs = wipe σ vs := (wipe_only o4 hsub).trans wipe_wipe
              refine ⟨w4, ?_⟩
              have M4 := M3.step O4
              have s4 : Same F1 F4 := (s1.trans gr.exF).trans O4.s.ex
              refine ttOf_use O4.S (fun b eb ebt F5 H5 own5 O5 => ?_) (fun c eb ebt => ?_) (fun ebt => ?_)
              · rw [ebt, R.bind_ok] at hr
                have M5 := M4.step O5
                have s5 := s4.trans O5.s.ex
                cases b with
                | false =>
                  rw [if_neg Bool.false_ne_true] at hr ⊢
                  have O6 : OutR K F5 H5 own5 (wipe σ vs) (wipeA eb vs) F5 H5 (ownW vs own5) := by
                    rw [← w4]
                    exact ⟨O5.S.wipe2, Step.refl.sub fun a z => ownW_sub z⟩
                  exact ⟨hlt, F5, _, _, ys, by omega, s5, M5.step O6, rest, hr, hy⟩
                | true =>
                  rw [if_pos rfl] at hr ⊢
                  refine tOf_use O5.S (fun u ec' eu v F6 H6 own6 p O6 => ?_) (fun c ec' eu => ?_) (fun eu => ?_)
                  · rw [eu, R.bind_ok] at hr
                    cases ef : frz1 ec' u with
                    | none => rw [ef] at hr; cases hr
                    | some pr =>
                      obtain ⟨yd, ed⟩ := pr
                      rw [ef] at hr
                      dsimp only at hr
                      obtain ⟨F7, own7, r7, O7⟩ := O6.frz ef
                      have M7 := M5.step O7
                      have s7 := s5.trans O7.s.ex
                      cases eg : compD vs m t f (ds.drop (i + 1)) (wipeA ed vs) with
                      | stuck => rw [eg] at hr; cases hr
                      | raise _ _ => rw [eg] at hr; cases hr
                      | ok rest2 ee =>
                        rw [eg, R.bind_ok] at hr
                        cases hr
                        obtain ⟨avs, hP7, rr7⟩ := M7.at'
                        have hal := rr7.length
                        refine ⟨avs, hP7, by rw [hal]; exact szl (by omega), hlt, F7, wipeA ed vs, ownW vs own7, ys ++ [yd], by rw [List.length_append]; simp; omega, s7, ?_, rest2, eg, by rw [List.append_assoc]; exact hy⟩
                        have M8 := M7.push r7 avs hP7
                        have O8 : OutR K F7 (upd H6 P (.lst (avs ++ [v]))) own7 (wipe σ vs) (wipeA ed vs) F7 (upd H6 P (.lst (avs ++ [v]))) (ownW vs own7) := by
                          rw [← w4]
                          exact ⟨M8.S.wipe2, Step.refl.sub fun a z => ownW_sub z⟩
                        exact M8.step O8
                  · rw [eu] at hr; cases hr
                  · rw [eu] at hr; cases hr
              · rw [ebt] at hr; cases hr
              · rw [ebt] at hr; cases hr
          · have ei : i = ds.length := by omega
            subst ei
            refine .inl ⟨fd.stop F' H' s1 M.S.ex, ?_⟩
            rw [List.drop_length, compD] at hr
            cases hr
            rw [List.append_nil] at hy
            subst hy
            obtain ⟨avs, hPE, rr⟩ := M.at'
            have SF := unwipe_sit O1.S hda s1 M.S
            refine h (.ref P) F' H' (ownW vs own') (fun a => a = P) ⟨SF, ⟨P, avs, rfl, fun _ => Iff.rfl, hPE, M.fr, rr⟩, fun a z y => ?_, ?_⟩
            · have z' : a = P := z
              subst z'
              exact M.no (ownW_sub y)
            · exact (O1.s.trans M.s).sub fun a z => z.imp_left ownW_sub
        · rw [if_neg hlen] at h; exact h.elim
    · rw [if_neg hda] at h; exact h.elim
section
variable {X : Cx} {Wx : WX} {elt tg iter c : Expr} {scope : Scope} {own : List (Str × Nat)} {pos : Pos} {it : M (List D)} {is : List Nat} {m : MT} {t : M Bool} {f : M U}
theorem tt_yes {K : PySem.W.Frag} {mg : Str → Option Value} {σ : L2.St} {H : Hp} {Q : Bool → Hp → Prop} (h : ttOf K mg Wx0 tYesD σ H Q) : tYes σ H Q := by
  obtain ⟨F, env, own, S, h⟩ := h
  exact h _ _ _ (OutR.refl S)
theorem PTs.imp {X : Cx} {e : List Expr} {t t' : TT} (h : PTs X e t) (i : ∀ σ H Q, t' σ H Q → t σ H Q) : PTs X e t' := ⟨fun pins s σ H Q I q => h.run pins s σ H Q I (i σ H Q q)⟩
/-- [elt for tg in iter] -/
theorem e_comp (hc : X.calm = true) (hN : X.N.Nodup) (hi : ItS X Wx tg iter it) (ok : BlkOk X.N X.env.scope scope own)
    (hg : ∀ (s : Shared) (H : Hp) (C : Addr) (cl : List (Str × Addr)) (fp : List Addr), TgS (X.blk s H scope (compEnvC scope cl C X.env) fp) tg is m)
    (he : ∀ (s : Shared) (H : Hp) (C : Addr) (cl : List (Str × Addr)) (fp : List Addr), EvS (X.blk s H scope (compEnvC scope cl C X.env) fp) Wx0 elt f) (hsub : ∀ i ∈ is, i ∈ own.map (·.2)) (hs : ∀ x, foldedSetIterable iter X.env x = pure x := by intro _; rfl) :
    EvS X Wx (.ListComp elt [⟨tg, iter, [], 0⟩] scope pos) (eComp it (own.map (·.2)) m tYesD f) :=
  PE.imp (pe_lc hc hN hi ok hg (fun s H C cl fp => (PTs.imp pts_nil fun σ H Q q => tt_yes q : PTs _ [] (ttOf X.K X.mg Wx0 tYesD))) he hs) fun σ H Q h => comp_sem hsub h
/-- [elt for tg in iter if c] -/
theorem e_compIf (hc : X.calm = true) (hN : X.N.Nodup) (hi : ItS X Wx tg iter it) (ok : BlkOk X.N X.env.scope scope own)
    (hg : ∀ (s : Shared) (H : Hp) (C : Addr) (cl : List (Str × Addr)) (fp : List Addr), TgS (X.blk s H scope (compEnvC scope cl C X.env) fp) tg is m)
    (ht : ∀ (s : Shared) (H : Hp) (C : Addr) (cl : List (Str × Addr)) (fp : List Addr), TtS (X.blk s H scope (compEnvC scope cl C X.env) fp) Wx0 c t)
    (he : ∀ (s : Shared) (H : Hp) (C : Addr) (cl : List (Str × Addr)) (fp : List Addr), EvS (X.blk s H scope (compEnvC scope cl C X.env) fp) Wx0 elt f) (hsub : ∀ i ∈ is, i ∈ own.map (·.2)) (hs : ∀ x, foldedSetIterable iter X.env x = pure x := by intro _; rfl) :
    EvS X Wx (.ListComp elt [⟨tg, iter, [c], 0⟩] scope pos) (eComp it (own.map (·.2)) m t f) :=
  PE.imp (pe_lc hc hN hi ok hg (fun s H C cl fp => pts_one (ht s H C cl fp)) he hs) fun σ H Q h => comp_sem hsub h
end
end DL

namespace DL
open PySem PySem.Spec PyProof.Rows L2

/-! ### y = [..] -/
theorem set_sem {K : PySem.W.Frag} {mg : Str → Option Value} {Wx : WX} {i : Nat} {fe : M U} {E : Ends} {σ : L2.St} {H : Hp} (h : sOf K mg Wx [i] (sSet i fe) E σ H) : tAsg (tOf K mg Wx fe) (gName i) E σ H := by
  obtain ⟨F, env, own, S, h⟩ := h
  unfold sSet at h
  refine tOf_use S (fun u env1 e1 v F1 H1 own1 p O1 => ?_) (fun c env1 e1 C F1 H1 own1 => ?_) (fun e1 => ?_)
  · rw [e1, R.bind_ok] at h
    cases e2 : ownU env1 u with
    | none => rw [e2] at h; exact h.elim
    | some pr =>
      obtain ⟨w, env2⟩ := pr
      rw [e2] at h
      dsimp only at h
      obtain ⟨F2, own2, p2, O2⟩ := ownU_ok O1 e2
      cases e3 : setS i w env2 with
      | none => rw [e3] at h; exact h.elim
      | some env3 =>
        rw [e3] at h
        obtain ⟨own3, O3⟩ := O2.set e3
        exact h _ _ _ _ Only.set O3
  · rw [e1] at h
    exact h C σ F1 H1 own1 Only.refl
  · rw [e1] at h
    exact h
section
variable {X : Cx} {Wx : WX} {elt tg iter c : Expr} {scope : Scope} {own : List (Str × Nat)} {pos spos py : Pos} {it : M (List D)} {is : List Nat} {m : MT} {t : M Bool} {f : M U} {i : Nat} {y : Str}
theorem s_comp (hc : X.calm = true) (hN : X.N.Nodup) (hy : X.N[i]? = some y) (hyl : X.env.scope.names.lookup y = some .local)
    (hsw : swapsWith (.ListComp elt [⟨tg, iter, [], 0⟩] scope pos) (some (.Name y py)) spos.line X.env = pure true) (hi : ItS X Wx tg iter it) (ok : BlkOk X.N X.env.scope scope own)
    (hg : ∀ (s : Shared) (H : Hp) (C : Addr) (cl : List (Str × Addr)) (fp : List Addr), TgS (X.blk s H scope (compEnvC scope cl C X.env) fp) tg is m)
    (he : ∀ (s : Shared) (H : Hp) (C : Addr) (cl : List (Str × Addr)) (fp : List Addr), EvS (X.blk s H scope (compEnvC scope cl C X.env) fp) Wx0 elt f) (hsub : ∀ i ∈ is, i ∈ own.map (·.2)) (hs : ∀ x, foldedSetIterable iter X.env x = pure x := by intro _; rfl) :
    StS X Wx (.Assign [.Name y py] (.ListComp elt [⟨tg, iter, [], 0⟩] scope pos) spos) [i] (sSet i (eComp it (own.map (·.2)) m tYesD f)) :=
  PS.imp (ps_setLc hc hN hy hyl hsw hi ok hg (fun s H C cl fp => (PTs.imp pts_nil fun σ H Q q => tt_yes q : PTs _ [] (ttOf X.K X.mg Wx0 tYesD))) he hs) fun E σ H h => comp_sem hsub (set_sem h)
theorem s_compIf (hc : X.calm = true) (hN : X.N.Nodup) (hy : X.N[i]? = some y) (hyl : X.env.scope.names.lookup y = some .local)
    (hsw : swapsWith (.ListComp elt [⟨tg, iter, [c], 0⟩] scope pos) (some (.Name y py)) spos.line X.env = pure true) (hi : ItS X Wx tg iter it) (ok : BlkOk X.N X.env.scope scope own)
    (hg : ∀ (s : Shared) (H : Hp) (C : Addr) (cl : List (Str × Addr)) (fp : List Addr), TgS (X.blk s H scope (compEnvC scope cl C X.env) fp) tg is m)
    (ht : ∀ (s : Shared) (H : Hp) (C : Addr) (cl : List (Str × Addr)) (fp : List Addr), TtS (X.blk s H scope (compEnvC scope cl C X.env) fp) Wx0 c t)
    (he : ∀ (s : Shared) (H : Hp) (C : Addr) (cl : List (Str × Addr)) (fp : List Addr), EvS (X.blk s H scope (compEnvC scope cl C X.env) fp) Wx0 elt f) (hsub : ∀ i ∈ is, i ∈ own.map (·.2)) (hs : ∀ x, foldedSetIterable iter X.env x = pure x := by intro _; rfl) :
    StS X Wx (.Assign [.Name y py] (.ListComp elt [⟨tg, iter, [c], 0⟩] scope pos) spos) [i] (sSet i (eComp it (own.map (·.2)) m t f)) :=
  PS.imp (ps_setLc hc hN hy hyl hsw hi ok hg (fun s H C cl fp => pts_one (ht s H C cl fp)) he hs) fun E σ H h => comp_sem hsub (set_sem h)
end

/-! ### a list of one's own changed -/
section
variable {K : PySem.W.Frag} {F H : Hp} {σ : L2.St} {env : DEnv} {own : Nat → Fp}
theorem Sit.mut {i : Nat} {a : Addr} {b : Bool} {ds ds' : List D} {vs' : List V} (S : Sit K F σ H env own) (he : env[i]? = some (some (.l b ds))) (hσ : σ[i]? = some (some (.ref a))) (r : RepDs K F vs' ds') :
    OutR K F H own σ (env.set i (some (.l b ds'))) F (upd H a (.lst vs')) own := by
  obtain ⟨v, hv, a', vs, ev, hp, hH, hF, r0⟩ := S.rep i _ he
  rw [hσ] at hv
  cases hv
  cases ev
  have hi : i < env.length := (List.getElem?_eq_some_iff.mp he).1
  have pa : own i a := (hp a).mpr rfl
  refine ⟨⟨fun x o h => ?_, by rw [List.length_set]; exact S.len, fun j w e => ?_, fun j x z => ?_, S.dis⟩, Same.refl _, fun x o h n => ?_, fun x z => .inl z, fun x o h n => by rw [h] at n; cases n⟩
  · have ne : x ≠ a := fun z => by rw [z, hF] at h; cases h
    rw [upd_ne ne]
    exact S.ex x o h
  · by_cases hj : j = i
    · subst hj
      rw [List.getElem?_set_self hi] at e
      cases e
      exact ⟨.ref a, hσ, a, vs', rfl, hp, upd_same, hF, r⟩
    · rw [List.getElem?_set_ne (Ne.symm hj)] at e
      obtain ⟨u, hu, ru⟩ := S.rep j w e
      refine ⟨u, hu, ru.frame (Same.refl _) (fun x o q h => ?_) fun x q => (ru.there q).2⟩
      have ne : x ≠ a := fun z => hj (S.dis j i x q (z ▸ pa))
      rw [upd_ne ne]
      exact h
  · by_cases hj : j = i
    · subst hj; exact ⟨_, List.getElem?_set_self hi⟩
    · obtain ⟨w, e⟩ := S.emp j x z
      exact ⟨w, by rw [List.getElem?_set_ne (Ne.symm hj)]; exact e⟩
  · have ne : x ≠ a := fun z => n (z ▸ ⟨i, pa⟩)
    rw [upd_ne ne]
    exact h
end
/-- x.append(e), x in the i-th slot -/
def eApp (i : Nat) (fe : M U) : M U := fun env => match env[i]? with
  | some (some (.l _ _)) => (fe env).bind fun u e1 => (match frz1 e1 u with
    | some (d, e2) => (match e2[i]? with
      | some (some (.l b ds)) => if ds.length < 1000000 then .ok (.w (.v .non)) (e2.set i (some (.l b (ds ++ [d])))) else .stuck
      | _ => .stuck)
    | none => .stuck)
  | _ => .stuck
/-- x[k] = e -/
def sStore (i : Nat) (fk fe : M U) : M Fl := fun env => match env[i]? with
  | some (some (.l _ _)) => (fe env).bind fun u e1 => (fk e1).bind fun uk e2 => (match frz1 e2 u with
    | some (d, e3) => (match dat e3 uk, e3[i]? with
      | some (.int n), some (some (.l b ds)) => (match ixN ds.length n with
        | some j => .ok .next (e3.set i (some (.l b (ds.set j d))))
        | none => .stuck)
      | _, _ => .stuck)
    | none => .stuck)
  | _ => .stuck
section
variable {X : Cx} {Wx : WX} {e k : Expr} {fe fk : M U} {i : Nat} {x : Str} {pos p1 apos cpos tpos : Pos}
theorem e_app (hN : X.N[i]? = some x := by rfl) (hv : Vis X.env.scope x := by first | exact Or.inl rfl | exact Or.inr (Or.inl rfl) | exact Or.inr (Or.inr rfl)) (hd : (x == ("__debug__" : Str)) = false := by decide) (hcd : (x == ("__classdict__" : Str)) = false := by decide) (he : EvS X Wx e fe)
    (hs0 : starEach [e] X.env = (false, eval e X.env) :: starEach [] X.env := by rfl)
    (hbase : attributeBase (.Name x p1) "append" X.env (eval (.Name x p1) X.env) = eval (.Name x p1) X.env := by rfl)
    (hfew : ((backTo cpos (starEach [e] X.env)).all (fun x => !x.1) && (backToKw cpos (keywordEach [] X.env)).all (fun x => x.1.isSome)
      && decide ([e].length + ([] : List Keyword).length + (if ([] : List Keyword).isEmpty then 0 else 1) < 30)) = true := by rfl)
    (hline : (apos.endLine == cpos.line) = true := by rfl) (hplain : (backTo cpos (starEach [] X.env)).any (·.1) = false := by rfl) :
    EvS X Wx (.Call (.Attribute (.Name x p1) "append" apos) [e] [] cpos) (eApp i fe) :=
  PE.imp (pe_bm PySem.F.plainAttrs_list PySem.F.slot_list_append PySem.F.type_list_append mt_append (pe_var hN hv hd hcd) (pa_cons he pa_nil hs0) hbase hfew hline hs0 hplain) fun σ H Q h => by
  obtain ⟨F, env, own, S, h⟩ := h
  unfold eApp at h
  split at h
  · rename_i u env' heq
    split at heq
    · rename_i b ds hw
      obtain ⟨v, hv, a, vs, rfl, hp, hH, hF, r0⟩ := S.rep i _ hw
      refine ⟨.ref a, hv, Or.inl ⟨rfl, vs, .inl (.inl hH)⟩, ?_⟩
      refine tOf_use S (fun u' env1 e1 v1 F1 H1 own1 p O1 => ?_) (fun c env1 e1 C F1 H1 own1 => ?_) (fun e1 => ?_)
      · rw [e1, R.bind_ok] at heq
        split at heq
        · rename_i d env2 e2
          split at heq
          · rename_i b2 ds2 hw2
            split at heq
            · rename_i hl
              cases heq
              obtain ⟨F2, own2, r2, O2⟩ := O1.frz e2
              obtain ⟨v2, hv2, a2, vs2, ev2, hp2, hH2, hF2, r3⟩ := O2.S.rep i _ hw2
              rw [hv] at hv2
              cases hv2
              cases ev2
              refine ⟨a, vs2, v1, rfl, rfl, hH2, by rw [r3.length]; exact szl hl, ?_⟩
              have O3 := O2.S.mut hw2 hv (r3.append (.cons r2 .nil))
              exact h _ _ _ _ _ ((Grow.refl O3.S.ex).out (O2.trans O3) RepW.ofNon)
            · cases heq
          · cases heq
        · cases heq
      · rw [e1] at heq; cases heq
      · rw [e1] at heq; cases heq
    · cases heq
  · rename_i c env' heq
    split at heq
    · rename_i b ds hw
      obtain ⟨v, hv, a, vs, rfl, hp, hH, hF, r0⟩ := S.rep i _ hw
      refine ⟨.ref a, hv, Or.inl ⟨rfl, vs, .inl (.inl hH)⟩, ?_⟩
      refine tOf_use S (fun u' env1 e1 v1 F1 H1 own1 p O1 => ?_) (fun c env1 e1 C F1 H1 own1 => ?_) (fun e1 => ?_)
      · rw [e1, R.bind_ok] at heq
        split at heq
        · split at heq
          · split at heq <;> cases heq
          · cases heq
        · cases heq
      · rw [e1, R.bind_raise] at heq
        cases heq
        exact h C F1 H1 own1
      · rw [e1] at heq; cases heq
    · cases heq
  · exact h.elim
theorem s_store (hN : X.N[i]? = some x := by rfl) (hv : Vis X.env.scope x := by first | exact Or.inl rfl | exact Or.inr (Or.inl rfl) | exact Or.inr (Or.inr rfl)) (hd : (x == ("__debug__" : Str)) = false := by decide) (hcd : (x == ("__classdict__" : Str)) = false := by decide) (he : EvS X Wx e fe) (hk : EvS X Wx k fk)
    (ha : ∀ v, assign (.Subscript (.Name x p1) k tpos) X.env v = (do
      let ov ← holding [v] (eval (.Name x p1) X.env)
      let iv ← holding [v, ov] (eval k X.env)
      standAt tpos
      holding [v, ov, iv] (setItem ov iv v)
      release [v, ov, iv] []) := by intro _; rfl)
    (hs : swapsWithSole [.Subscript (.Name x p1) k tpos] e pos.line X.env = pure false := by rfl) (hw : swappedStores [.Subscript (.Name x p1) k tpos] e X.env = pure none := by rfl)
    (h1 : (assignEach [.Subscript (.Name x p1) k tpos] X.env).map (·.2) = [assign (.Subscript (.Name x p1) k tpos) X.env] := by rfl) :
    StS X Wx (.Assign [.Subscript (.Name x p1) k tpos] e pos) [] (sStore i fk fe) :=
  PS.imp (ps_asg he (pg_sub (pe_var hN hv hd hcd) hk set_list ha) hs hw h1) fun E σ H h => by
  obtain ⟨F, env, own, S, h⟩ := h
  have h : Po X.K X.mg Wx [] E σ F H own (sStore i fk fe env) := h
  cases hw0 : env[i]? with
  | none => unfold sStore at h; rw [hw0] at h; exact h.elim
  | some ow =>
    cases ow with
    | none => unfold sStore at h; rw [hw0] at h; exact h.elim
    | some w0 =>
      cases w0 with
      | v d => unfold sStore at h; rw [hw0] at h; exact h.elim
      | m ks ds => unfold sStore at h; rw [hw0] at h; exact h.elim
      | x _ => unfold sStore at h; rw [hw0] at h; exact h.elim
      | l b0 ds0 =>
        unfold sStore at h
        rw [hw0] at h
        dsimp only at h
        obtain ⟨v, hv, a, vs, rfl, hp, hH, hF, r0⟩ := S.rep i _ hw0
        refine tOf_use S (fun u env1 e1 v1 F1 H1 own1 p O1 => ?_) (fun c env1 e1 C F1 H1 own1 hm O1 => ?_) (fun e1 => ?_)
        · rw [e1, R.bind_ok] at h
          refine ⟨.ref a, hv, ?_⟩
          refine tOf_use O1.S (fun uk env2 e2 vk F2 H2 own2 p2 O2 => ?_) (fun c env2 e2 C F2 H2 own2 hm O2 => ?_) (fun e2 => ?_)
          · rw [e2, R.bind_ok] at h
            have OO := O1.out2 O2
            cases e3 : frz1 env2 u with
            | none => rw [e3] at h; exact h.elim
            | some pr =>
              obtain ⟨d, env3⟩ := pr
              rw [e3] at h
              dsimp only at h
              obtain ⟨F3, own3, S3, r3, s3⟩ := frz1_ok OO.S OO.r1 OO.d1 e3
              have st := OO.s.trans ((s3.more p2).sup fun x z => by
                rcases z with (z | z) | z
                · exact .inl (.inl z)
                · exact .inr z
                · exact .inl (.inr z))
              obtain ⟨rk, dk⟩ := RepU.stepU OO.r2 (fun x q z => by
                rcases z with z | z
                · exact OO.d2 x q z
                · exact OO.d12 x z q) s3
              have O3 : OutR X.K F H own σ env3 F3 H2 own3 := ⟨S3, st.sub fun x z => .inl z⟩
              cases e4 : dat env3 uk with
              | none => rw [e4] at h; exact h.elim
              | some dk' =>
                have vw := RepU.view S3 rk e4
                cases dk' with
                | int n =>
                  cases e5 : env3[i]? with
                  | none => rw [e4, e5] at h; exact h.elim
                  | some ow =>
                    cases ow with
                    | none => rw [e4, e5] at h; exact h.elim
                    | some w =>
                      cases w with
                      | v _ => rw [e4, e5] at h; exact h.elim
                      | m _ _ => rw [e4, e5] at h; exact h.elim
                      | x _ => rw [e4, e5] at h; exact h.elim
                      | l b ds =>
                        rw [e4, e5] at h
                        dsimp only at h
                        cases e6 : ixN ds.length n with
                        | none => rw [e6] at h; exact h.elim
                        | some j =>
                          rw [e6] at h
                          obtain ⟨v2, hv2, a2, vs2, ev2, hp2, hH2, hF2, r4⟩ := S3.rep i _ e5
                          rw [hv] at hv2
                          cases hv2
                          cases ev2
                          refine ⟨a, vs2, n, j, rfl, vw.int, hH2, by rw [r4.length]; exact e6, ?_⟩
                          exact h _ _ _ _ Only.refl (O3.trans (S3.mut e5 hv (r4.set r3 j)))
                | _ => rw [e4] at h; exact h.elim
          · rw [e2] at h
            exact h C σ F2 H2 own2 Only.refl hm (O1.drop.trans O2)
          · rw [e2] at h
            exact h
        · rw [e1] at h
          exact h C σ F1 H1 own1 Only.refl hm O1
        · rw [e1] at h
          exact h
end

/-! ### raise -/
section
variable {X : Cx} {Wx : WX} {C : Addr} {bmB : List Value} {B newId initId : String} {x m : Str} {j : Nat} {p p2 pos pos' : Pos}
theorem s_raise (hc : X.calm = true) (tk : Takes X Wx) (Fb : ExcBaseFacts B newId initId bmB) (q : PySem.W.excIn X.K C bmB newId = true) (gC : X.mg x = some (.ref C)) (kC : PySem.W.keepIn X.K (.ref C) = true) (r : Raises X (.ref C)) (hg : Gl X x)
    (hdb : (x == ("__debug__" : Str)) = false := by decide) : StS X Wx (.Raise (some (.Call (.Name x p) [.Constant (.str m) j p2] [] pos)) none pos') [] (sRaise x) :=
  PS.imp (ps_raise hc tk (pmk_own Fb q gC kC r hg hdb)) fun E σ H h => by
  obtain ⟨F, env, own, S, h⟩ := h
  exact h C σ F H own Only.refl gC (OutR.refl S)
end

/-! ### a def -/
def bor : W → W
  | .v d => .v d
  | .l _ ds => .l true ds
  | .m ks ds => .m ks ds
  | .x (.o _ c ns fs) => .x (.o true c ns fs)
  | .x y => .x y
def retW (env : DEnv) : U → Option W
  | .w (.v d) => some (.v d)
  | .w (.l _ ds) => some (.l false ds)
  | .w (.m ks ds) => some (.m ks ds)
  | .w (.x (.o _ c ns fs)) => some (.x (.o false c ns fs))
  | .w (.x y) => some (.x y)
  | .b i => match env[i]? with
    | some (some (.v d)) => some (.v d)
    | some (some (.l false ds)) => some (.l false ds)
    | some (some (.x (.o false c ns fs))) => some (.x (.o false c ns fs))
    | _ => none
def backs (env : DEnv) : Nat → List W → Option (List W)
  | _, [] => some []
  | j, .v d :: ws => match backs env (j + 1) ws with
    | some r => some (.v d :: r)
    | none => none
  | j, .l b _ :: ws => match env[j]? with
    | some (some (.l true ds)) => (match backs env (j + 1) ws with
      | some r => some (.l b ds :: r)
      | none => none)
    | _ => none
  | j, .x (.o b _ _ _) :: ws => match env[j]? with
    | some (some (.x (.o true c ns fs))) => (match backs env (j + 1) ws with
      | some r => some (.x (.o b c ns fs) :: r)
      | none => none)
    | _ => none
  | _, .m _ _ :: _ => none
  | _, .x (.d _ _ _) :: _ => none
  | _, .x (.t _) :: _ => none
/-- what is stored to is no list that was handed in -/
def keeps (is : List Nat) (ws : List W) : Bool := is.all fun j => match ws[j]? with
  | some (.l _ _) => false
  | some (.x _) => false
  | _ => true
def lentT : W → Bool
  | .l true _ => true
  | .x (.o true _ _ _) => true
  | _ => false
/-- what is lent -/
def lent : W → Bool
  | .l _ _ => true
  | .x (.o _ _ _ _) => true
  | _ => false
/-- what a body that tells f makes of a def with np parameters and nl names -/
def mkFn (is : List Nat) (np nl : Nat) (f : M Fl) : List W → RF := fun ws => if keeps is ws = true ∧ ws.length = np then (match f (ws.map (fun w => some (bor w)) ++ List.replicate (nl - np) none) with
  | .ok (.ret u) env => (match retW env u, backs env 0 ws with
    | some w, some ws' => .ok w ws'
    | _, _ => .stuck)
  | .ok .next env => (match backs env 0 ws with
    | some ws' => .ok (.v .non) ws'
    | none => .stuck)
  | .raise c env => (match backs env 0 ws with
    | some ws' => .raise c ws'
    | none => .stuck)
  | _ => .stuck) else .stuck
section
variable {K : PySem.W.Frag} {F H F1 H1 : Hp} {vs : List V} {ws ws' : List W} {own own1 : Nat → Fp} {σ1 : L2.St} {env1 : DEnv}
theorem RepW.bor {v : V} {w : W} {p : Fp} (r : RepW K F H v w p) : RepW K F H v (DL.bor w) p := by
  cases w with
  | v d => exact r
  | l b ds => exact r
  | m ks ds => exact r
  | x y => cases y <;> exact r
theorem sit_start {n : Nat} (S : ASit K F H vs ws own) : Sit K F (vs.map some ++ List.replicate n none) H (ws.map (fun w => some (DL.bor w)) ++ List.replicate n none) own := by
  have hl : ws.length = vs.length := by have := S.len; simpa using this
  refine ⟨S.ex, by simp [hl], fun i w e => ?_, fun i a z => ?_, S.dis⟩
  · by_cases hi : i < ws.length
    · rw [List.getElem?_append_left (by simpa using hi), List.getElem?_map, List.getElem?_eq_getElem hi] at e
      have e' : DL.bor ws[i] = w := by simpa using e
      subst e'
      obtain ⟨v, hv, r⟩ := S.rep i ws[i] (get_some_map (List.getElem?_eq_getElem hi))
      refine ⟨v, ?_, r.bor⟩
      rw [List.getElem?_append_left (by rw [List.length_map, ← hl]; exact hi)]
      exact hv
    · rw [List.getElem?_append_right (by simpa using Nat.le_of_not_lt hi), List.getElem?_replicate] at e
      split at e <;> cases e
  · obtain ⟨w, e⟩ := S.emp i a z
    have hi : i < ws.length := by
      have := (List.getElem?_eq_some_iff.mp (get_map_some e)).1
      exact this
    refine ⟨DL.bor ws[i], ?_⟩
    rw [List.getElem?_append_left (by simpa using hi), List.getElem?_map, List.getElem?_eq_getElem hi]
    rfl
theorem backs_ok : ∀ {ws ws' : List W} {j : Nat}, backs env1 j ws = some ws' → ws'.length = ws.length ∧ ∀ (i : Nat) (w : W), ws'[i]? = some w → (∃ d, w = .v d ∧ ws[i]? = some (.v d)) ∨ ∃ w0 w1, ws[i]? = some w0 ∧ lent w0 = true ∧ env1[j + i]? = some (some w1) ∧ lentT w1 = true ∧ SameRep w1 w
  | [], ws', j, h => by
    cases h
    exact ⟨rfl, fun i w e => by simp at e⟩
  | .v d :: ws, ws', j, h => by
    have h : (match backs env1 (j + 1) ws with | some r => some (W.v d :: r) | none => none) = some ws' := h
    split at h
    · rename_i r hr
      cases h
      obtain ⟨h1, h2⟩ := backs_ok hr
      refine ⟨by rw [List.length_cons, List.length_cons, h1], fun i w e => ?_⟩
      cases i with
      | zero => simp at e; subst e; exact .inl ⟨d, rfl, rfl⟩
      | succ i =>
        have := h2 i w (by simpa using e)
        rw [show j + (i + 1) = j + 1 + i by omega]
        simpa using this
    · cases h
  | .m _ _ :: _, _, _, h => by cases h
  | .x (.d _ _ _) :: _, _, _, h => by cases h
  | .x (.t _) :: _, _, _, h => by cases h
  | .x (.o b c0 ns0 fs0) :: ws, ws', j, h => by
    have h : (match env1[j]? with | some (some (.x (.o true c ns fs))) => (match backs env1 (j + 1) ws with | some r => some (W.x (.o b c ns fs) :: r) | none => none) | _ => none) = some ws' := h
    split at h
    · rename_i c ns fs hw
      split at h
      · rename_i r hr
        cases h
        obtain ⟨h1, h2⟩ := backs_ok hr
        refine ⟨by rw [List.length_cons, List.length_cons, h1], fun i w e => ?_⟩
        cases i with
        | zero => simp at e; subst e; exact .inr ⟨_, .x (.o true c ns fs), rfl, rfl, by simpa using hw, rfl, fun _ _ _ _ _ r => r⟩
        | succ i =>
          have := h2 i w (by simpa using e)
          rw [show j + (i + 1) = j + 1 + i by omega]
          simpa using this
      · cases h
    · cases h
  | .l b ds0 :: ws, ws', j, h => by
    have h : (match env1[j]? with | some (some (.l true ds)) => (match backs env1 (j + 1) ws with | some r => some (W.l b ds :: r) | none => none) | _ => none) = some ws' := h
    split at h
    · rename_i ds hw
      split at h
      · rename_i r hr
        cases h
        obtain ⟨h1, h2⟩ := backs_ok hr
        refine ⟨by rw [List.length_cons, List.length_cons, h1], fun i w e => ?_⟩
        cases i with
        | zero => simp at e; subst e; exact .inr ⟨_, .l true ds, rfl, rfl, by simpa using hw, rfl, fun _ _ _ _ _ r => r⟩
        | succ i =>
          have := h2 i w (by simpa using e)
          rw [show j + (i + 1) = j + 1 + i by omega]
          simpa using this
      · cases h
    · cases h
/-- what the def's own frame has left of its parameters -/
def ownP (ws : List W) (own : Nat → Fp) : Nat → Fp := fun j a => (∃ w0, ws[j]? = some w0 ∧ lent w0 = true) ∧ own j a
theorem sit_end {is : List Nat} {n : Nat} (S : ASit K F H vs ws own) (O : OutR K F H own σ1 env1 F1 H1 own1) (y : Only is (vs.map some ++ List.replicate n none) σ1) (hb : backs env1 0 ws = some ws') (hno : ∀ (j : Nat) w0, ws[j]? = some w0 → lent w0 = true → j ∉ is) : ASit K F1 H1 vs ws' (ownP ws own1) := by
  obtain ⟨h1, h2⟩ := backs_ok hb
  have hl : ws.length = vs.length := by have := S.len; simpa using this
  refine ⟨O.S.ex, by simp [h1, hl], fun i w e => ?_, fun i a z => ?_, fun i k a z1 z2 => O.S.dis i k a z1.2 z2.2⟩
  · rcases h2 i w (get_map_some e) with ⟨d, rfl, e2⟩ | ⟨w0, w1, e2, hlt, e3, _, sr⟩
    · obtain ⟨v, hv, r⟩ := S.rep i _ (get_some_map e2)
      refine ⟨v, hv, fun a z => ?_, r.2.mono O.s.ex⟩
      obtain ⟨⟨w0, e3, hq⟩, _⟩ := z
      rw [e2] at e3
      cases e3
      cases hq
    · rw [Nat.zero_add] at e3
      obtain ⟨v, hv, r⟩ := O.S.rep i _ e3
      obtain ⟨v0, hv0, _⟩ := S.rep i _ (get_some_map e2)
      have hi : i < vs.length := by rw [← hl]; exact (List.getElem?_eq_some_iff.mp e2).1
      have ev : v = v0 := by
        rw [y.2 i (hno i _ e2 hlt), List.getElem?_append_left (by simpa using hi), hv0] at hv
        cases hv
        rfl
      subst ev
      refine ⟨v, hv0, ?_⟩
      have e4 : ownP ws own1 i = own1 i := funext fun a => propext ⟨fun z => z.2, fun z => ⟨⟨_, e2, hlt⟩, z⟩⟩
      rw [e4]
      exact sr _ _ _ _ _ r
  · obtain ⟨⟨w0, e2, _⟩, _⟩ := z
    have hi : i < ws'.length := by rw [h1]; exact (List.getElem?_eq_some_iff.mp e2).1
    exact ⟨ws'[i], get_some_map (List.getElem?_eq_getElem hi)⟩
theorem ownP_sub {a : Addr} (h : all (ownP ws own) a) : all own a := by
  obtain ⟨i, _, z⟩ := h
  exact ⟨i, z⟩
end
section
variable {P : Program} {w : World} {K : PySem.W.Frag} {mg : Str → Option Value} {base : Heap}
theorem fn_ok {x qual : Str} {st : Stmt} {f : Addr} {fd : FuncData} {N ps : List Str} {k : Nat} {is : List Nat} {fb : M Fl} (F : Fun K x qual st f fd) (S : FnScope N ps (defScope st))
    (hb : ∀ (cdv : Value) (A : Around) (outer : List Env) (s : Shared) (H : Hp) (E : XK), Room k (A.deeper (envOfC qual (defScope st) s.heap.objs.size f cdv)) →
      SsS (cxOf (L2.CX P w) P w K mg base N qual (defScope st) f cdv A outer s H E) (fun c d _ H => E c d H) (defBody st) is fb)
    : FnS P w K mg base (k + 1) f fd ps (mkFn is ps.length N.length fb) := by
  refine F.okX S (fun vs H Q E h => h.1) (fun cdv A outer s H vs Q E hr h => ?_)
  obtain ⟨hl, F0, ws, own, SA, h⟩ := h
  have hno : keeps is ws = true := by
    cases e : keeps is ws with
    | true => rfl
    | false =>
      unfold mkFn at h
      rw [e, if_neg (fun z => Bool.false_ne_true z.1)] at h
      exact h.elim
  have hno' : ∀ (j : Nat) w0, ws[j]? = some w0 → lent w0 = true → j ∉ is := fun j w0 e hq z => by
    unfold keeps at hno
    rw [List.all_eq_true] at hno
    have := hno j z
    rw [e] at this
    cases w0 with
    | l b ds => cases this
    | x y => cases this
    | v d => cases hq
    | m ks ds => cases hq
  refine ⟨_, hb cdv A outer s H E hr, F0, ws.map (fun w => some (bor w)) ++ List.replicate (N.length - ps.length) none, own, ?_, ?_⟩
  · show Sit K F0 (L2.start N vs) H _ own
    unfold L2.start
    rw [hl]
    exact sit_start SA
  · have hwl : ws.length = ps.length := by have := SA.len; simp at this; omega
    unfold mkFn at h
    rw [if_pos ⟨hno, hwl⟩] at h
    have e0 : L2.start N vs = vs.map some ++ List.replicate (N.length - ps.length) none := by unfold L2.start; rw [hl]
    generalize hr2 : fb (ws.map (fun w => some (bor w)) ++ List.replicate (N.length - ps.length) none) = r at h ⊢
    rw [e0]
    cases r with
    | stuck => exact h
    | raise c env1 =>
      dsimp only at h
      intro C σ' F' H' own' y hm O
      cases e : backs env1 0 ws with
      | none => rw [e] at h; exact h.elim
      | some ws' =>
        rw [e] at h
        exact h C F' H' (ownP ws own') hm (sit_end SA O y e hno') (O.s.sub fun a z => ownP_sub z)
    | ok fl env1 =>
      cases fl with
      | brk => exact h.elim
      | cont => exact h.elim
      | next =>
        dsimp only at h
        intro σ' F' H' own' y O
        cases e : backs env1 0 ws with
        | none => rw [e] at h; exact h.elim
        | some ws' =>
          rw [e] at h
          exact h .non F' H' (ownP ws own') (fun _ => False) ⟨sit_end SA O y e hno', RepW.ofNon, fun _ z => z.elim, O.s.sub fun a z => z.elim ownP_sub False.elim⟩
      | ret u =>
        dsimp only at h
        intro v σ' F' H' own' p y O
        cases e1 : retW env1 u with
        | none => rw [e1] at h; exact h.elim
        | some wr =>
          cases e : backs env1 0 ws with
          | none => rw [e1, e] at h; exact h.elim
          | some ws' =>
            rw [e1, e] at h
            dsimp only at h
            have SE := sit_end SA O.drop y e hno'
            cases u with
            | w x =>
              have hx : RepW K F' H' v wr p := by
                cases x with
                | v d => cases e1; exact O.r
                | l b ds => cases e1; exact O.r
                | m ks ds => cases e1; exact O.r
                | x y => cases y <;> (cases e1; exact O.r)
              exact h v F' H' (ownP ws own') p ⟨SE, hx, fun a z q => O.d a z (ownP_sub q), O.s.sub fun a z => z.imp_left ownP_sub⟩
            | b i =>
              have e1 : (match env1[i]? with | some (some (.v d)) => some (W.v d) | some (some (.l false ds)) => some (.l false ds) | some (some (.x (.o false c ns fs))) => some (.x (.o false c ns fs)) | _ => none) = some wr := e1
              obtain ⟨hp, hv⟩ := O.r
              split at e1
              · rename_i d hw
                cases e1
                obtain ⟨v', hv', r⟩ := O.S.rep i _ hw
                rw [hv] at hv'
                cases hv'
                exact h v F' H' (ownP ws own') (fun _ => False) ⟨SE, RepW.ofRep r.2, fun _ z => z.elim, O.s.sub fun a z => z.elim (fun q => .inl (ownP_sub q)) False.elim⟩
              · rename_i ds hw
                cases e1
                obtain ⟨v', hv', r⟩ := O.S.rep i _ hw
                rw [hv] at hv'
                cases hv'
                refine h v F' H' (ownP ws own') (own' i) ⟨SE, r, fun a z q => ?_, O.s.sub fun a z => ?_⟩
                · obtain ⟨j, ⟨w0, e2, hq⟩, q⟩ := q
                  have := O.S.dis i j a z q
                  subst this
                  obtain ⟨h1, h2⟩ := backs_ok e
                  have hi : i < ws'.length := by rw [h1]; exact (List.getElem?_eq_some_iff.mp e2).1
                  rcases h2 i ws'[i] (List.getElem?_eq_getElem hi) with ⟨d, _, e3⟩ | ⟨_, w1, _, _, e3, e4, _⟩
                  · rw [e2] at e3; cases e3; cases hq
                  · rw [Nat.zero_add, hw] at e3; cases e3; cases e4
                · rcases z with z | z
                  · exact .inl (ownP_sub z)
                  · exact .inl ⟨i, z⟩
              · rename_i c ns fs hw
                cases e1
                obtain ⟨v', hv', r⟩ := O.S.rep i _ hw
                rw [hv] at hv'
                cases hv'
                refine h v F' H' (ownP ws own') (own' i) ⟨SE, r, fun a z q => ?_, O.s.sub fun a z => ?_⟩
                · obtain ⟨j, ⟨w0, e2, hq⟩, q⟩ := q
                  have := O.S.dis i j a z q
                  subst this
                  obtain ⟨h1, h2⟩ := backs_ok e
                  have hi : i < ws'.length := by rw [h1]; exact (List.getElem?_eq_some_iff.mp e2).1
                  rcases h2 i ws'[i] (List.getElem?_eq_getElem hi) with ⟨d, _, e3⟩ | ⟨_, w1, _, _, e3, e4, _⟩
                  · rw [e2] at e3; cases e3; cases hq
                  · rw [Nat.zero_add, hw] at e3; cases e3; cases e4
                · rcases z with z | z
                  · exact .inl (ownP_sub z)
                  · exact .inl ⟨i, z⟩
              · cases e1
end
end DL

namespace DL
open PySem PySem.Spec PyProof.Rows L2

/-! ### two fors -/
def compD2 (vs vs1 : List Nat) (m : MT) (it1 : M (List D)) (m1 : MT) (f : M U) : List D → M (List D)
  | [], env => .ok [] env
  | d :: ds, env => match m d env with
    | none => .stuck
    | some e1 => (it1 e1).bind fun ds1 e2 => (compD vs1 m1 tYesD f ds1 (wipeA e2 vs1)).bind fun ys e3 => (compD2 vs vs1 m it1 m1 f ds (wipeA e3 vs)).bind fun zs e4 => .ok (ys ++ zs) e4
def eComp2 (it : M (List D)) (vs vs1 : List Nat) (m : MT) (it1 : M (List D)) (m1 : MT) (f : M U) : M U := fun env => (it env).bind fun ds e1 => if dataAt e1 vs then (match compD2 vs vs1 m it1 m1 f ds (wipeA e1 vs) with
  | .ok ys e2 => if ys.length ≤ 1000000 then .ok (.w (.l false ys)) (unwipe e1 vs e2) else .stuck
  | _ => .stuck) else .stuck
theorem comp2_sem {K : PySem.W.Frag} {mg : Str → Option Value} {Wx : WX} {it it1 : M (List D)} {is is1 vs vs1 : List Nat} {m m1 : MT} {f : M U} {σ : L2.St} {H : Hp} {Q : VK} (hsub : ∀ i ∈ is, i ∈ vs) (hsub1 : ∀ i ∈ is1, i ∈ vs1) (hv : ∀ i ∈ vs1, i ∈ vs) (h : tOf K mg Wx (eComp2 it vs vs1 m it1 m1 f) σ H Q) :
    tLc2 (iOf K mg Wx it) (gOf K is m) (ttOf K mg Wx0 tYesD) (iOf K mg Wx0 it1) (gOf K is1 m1) (ttOf K mg Wx0 tYesD) (tOf K mg Wx0 f) vs vs1 σ H Q := by
  obtain ⟨F, env, own, S, h⟩ := h
  unfold eComp2 at h
  refine ⟨F, env, own, S, ?_⟩
  cases e : it env with
  | stuck => rw [e] at h; exact h
  | raise c env1 => rw [e] at h; exact h
  | ok ds env1 =>
    rw [e, R.bind_ok] at h
    intro J F1 H1 own1 O1 fd P hP
    by_cases hda : dataAt env1 vs = true
    · rw [if_pos hda] at h
      cases ec : compD2 vs vs1 m it1 m1 f ds (wipeA env1 vs) with
      | stuck => rw [ec] at h; exact h.elim
      | raise _ _ => rw [ec] at h; exact h.elim
      | ok yall efin =>
        rw [ec] at h
        dsimp only at h
        by_cases hlen : yall.length ≤ 1000000
        · rw [if_pos hlen] at h
          have S1w := O1.S.wipe (vs := vs) fun i hi a => dataAt_no O1.S hda hi a
          have g0 : Grow F1 H1 F1 (upd H1 P (.lst [])) (fun a => a = P) := Grow.ofOwn O1.S.ex hP
          have M0 : Mid K F1 H1 own1 P (wipe σ vs) (wipeA env1 vs) F1 (upd H1 P (.lst [])) own1 [] := by
            refine ⟨g0.sit S1w, ⟨[], upd_same, .nil⟩, sub_none O1.S.ex hP, fun z => ?_, g0.step own1⟩
            obtain ⟨⟨o, e2⟩, _⟩ := O1.S.there z
            rw [hP] at e2
            cases e2
          refine ⟨fun i k H' => k = ds.length - i ∧ i ≤ ds.length ∧ ∃ F' env' own' ys, Same F1 F' ∧ Mid K F1 H1 own1 P (wipe σ vs) env' F' H' own' ys ∧ ∃ rest, compD2 vs vs1 m it1 m1 f (ds.drop i) env' = .ok rest efin ∧ ys ++ rest = yall,
            ⟨ds.length, by simp, Nat.zero_le _, F1, wipeA env1 vs, own1, [], Same.refl _, M0, yall, ec, rfl⟩, ?_⟩
          rintro i k H' ⟨rfl, hi, F', env', own', ys, s1, M, rest, hr, hy⟩
          by_cases hlt : i < ds.length
          · refine .inr ⟨fd.go F' H' i s1 M.S.ex hlt, fun H'' => i + 1 ≤ ds.length ∧ ∃ F' env' own' ys, Same F1 F' ∧ Mid K F1 H1 own1 P (wipe σ vs) env' F' H'' own' ys ∧ ∃ rest, compD2 vs vs1 m it1 m1 f (ds.drop (i + 1)) env' = .ok rest efin ∧ ys ++ rest = yall,
              fun H'' q => ⟨ds.length - (i + 1), by omega, rfl, q.1, q.2⟩, fun x H'' y => ?_⟩
            have hd : ds[i]? = some ds[i] := List.getElem?_eq_getElem hlt
            obtain ⟨F3, gr, r3⟩ := fd.yld F' H' i x H'' ds[i] s1 M.S.ex hd y
            have hdr : ds.drop i = ds[i] :: ds.drop (i + 1) := List.drop_eq_getElem_cons hlt
            rw [hdr, compD2] at hr
            have M3 : Mid K F1 H1 own1 P (wipe σ vs) env' F3 H'' own' ys := M.step ⟨gr.sit M.S, (gr.step own').sub fun _ z => .inl z⟩
            refine ⟨F3, env', own', ds[i], M3.S, r3, ?_⟩
            cases e3 : m ds[i] env' with
            | none => rw [e3] at hr; cases hr
            | some ea =>
              rw [e3] at hr
              dsimp only at hr
              intro σ4 F4 H4 own4 o4 O4
              have w4 : wipe σ4 vs = wipe σ vs := (wipe_only o4 hsub).trans wipe_wipe
              refine ⟨w4, ?_⟩
              have M4 := M3.step O4
              have s4 : Same F1 F4 := (s1.trans gr.exF).trans O4.s.ex
              refine ⟨F4, ea, own4, O4.S, ?_⟩
              show ∀ F' H' own', OutR K F4 H4 own4 σ4 ea F' H' own' → _
              intro F5 H5 own5 O5
              have M5 := M4.step O5
              have s5 := s4.trans O5.s.ex
              rw [if_pos rfl]
              refine ⟨F5, ea, own5, O5.S, ?_⟩
              cases ei : it1 ea with
              | stuck => rw [ei] at hr; cases hr
              | raise _ _ => rw [ei] at hr; cases hr
              | ok ds1 eb =>
                rw [ei, R.bind_ok] at hr
                intro J1 F6 H6 own6 O6 fd1
                have M6 := M5.step O6
                have s6 := s5.trans O6.s.ex
                cases ej : compD vs1 m1 tYesD f ds1 (wipeA eb vs1) with
                | stuck => rw [ej] at hr; cases hr
                | raise _ _ => rw [ej] at hr; cases hr
                | ok yin ein =>
                  rw [ej, R.bind_ok] at hr
                  cases ek : compD2 vs vs1 m it1 m1 f (ds.drop (i + 1)) (wipeA ein vs) with
                  | stuck => rw [ek] at hr; cases hr
                  | raise _ _ => rw [ek] at hr; cases hr
                  | ok rest2 ee =>
                    rw [ek, R.bind_ok] at hr
                    cases hr
                    -- the inner loop
                    have M7 : Mid K F1 H1 own1 P (wipe σ4 vs1) (wipeA eb vs1) F6 H6 (ownW vs1 own6) ys := M6.step ⟨O6.S.wipe2, Step.refl.sub fun a z => ownW_sub z⟩
                    refine ⟨fun j k H' => k = ds1.length - j ∧ j ≤ ds1.length ∧ ∃ F' env' own' ys', Same F6 F' ∧ Mid K F1 H1 own1 P (wipe σ4 vs1) env' F' H' own' ys' ∧ ∃ rest, compD vs1 m1 tYesD f (ds1.drop j) env' = .ok rest ein ∧ ys' ++ rest = ys ++ yin,
                      ⟨ds1.length, by simp, Nat.zero_le _, F6, wipeA eb vs1, ownW vs1 own6, ys, Same.refl _, M7, yin, ej, rfl⟩, ?_⟩
                    rintro j k H8 ⟨rfl, hj, F8, env8, own8, ys8, s68, M8, rest8, hr8, hy8⟩
                    by_cases hlt1 : j < ds1.length
                    · refine .inr ⟨fd1.go F8 H8 j s68 M8.S.ex hlt1, fun H'' => j + 1 ≤ ds1.length ∧ ∃ F' env' own' ys', Same F6 F' ∧ Mid K F1 H1 own1 P (wipe σ4 vs1) env' F' H'' own' ys' ∧ ∃ rest, compD vs1 m1 tYesD f (ds1.drop (j + 1)) env' = .ok rest ein ∧ ys' ++ rest = ys ++ yin,
                        fun H'' q => ⟨ds1.length - (j + 1), by omega, rfl, q.1, q.2⟩, fun x H9 y => ?_⟩
                      have hd1 : ds1[j]? = some ds1[j] := List.getElem?_eq_getElem hlt1
                      obtain ⟨F9, gr9, r9⟩ := fd1.yld F8 H8 j x H9 ds1[j] s68 M8.S.ex hd1 y
                      have hdr1 : ds1.drop j = ds1[j] :: ds1.drop (j + 1) := List.drop_eq_getElem_cons hlt1
                      rw [hdr1, compD] at hr8
                      have M9 : Mid K F1 H1 own1 P (wipe σ4 vs1) env8 F9 H9 own8 ys8 := M8.step ⟨gr9.sit M8.S, (gr9.step own8).sub fun _ z => .inl z⟩
                      refine ⟨F9, env8, own8, ds1[j], M9.S, r9, ?_⟩
                      cases e10 : m1 ds1[j] env8 with
                      | none => rw [e10] at hr8; cases hr8
                      | some ec1 =>
                        rw [e10] at hr8
                        dsimp only at hr8
                        intro σ10 F10 H10 own10 o10 O10
                        have w10 : wipe σ10 vs1 = wipe σ4 vs1 := (wipe_only o10 hsub1).trans wipe_wipe
                        refine ⟨w10, ?_⟩
                        have M10 := M9.step O10
                        have s10 : Same F6 F10 := (s68.trans gr9.exF).trans O10.s.ex
                        refine ⟨F10, ec1, own10, O10.S, ?_⟩
                        show ∀ F' H' own', OutR K F10 H10 own10 σ10 ec1 F' H' own' → _
                        intro F11 H11 own11 O11
                        have M11 := M10.step O11
                        have s11 := s10.trans O11.s.ex
                        rw [if_pos rfl]
                        rw [show tYesD ec1 = .ok true ec1 from rfl, R.bind_ok, if_pos rfl] at hr8
                        refine tOf_use O11.S (fun u eu1 eu v F12 H12 own12 p O12 => ?_) (fun c eu1 eu => ?_) (fun eu => ?_)
                        · rw [eu, R.bind_ok] at hr8
                          cases ef : frz1 eu1 u with
                          | none => rw [ef] at hr8; cases hr8
                          | some pr =>
                            obtain ⟨yd, ed⟩ := pr
                            rw [ef] at hr8
                            dsimp only at hr8
                            obtain ⟨F13, own13, r13, O13⟩ := O12.frz ef
                            have M13 := M11.step O13
                            have s13 := s11.trans O13.s.ex
                            cases eg : compD vs1 m1 tYesD f (ds1.drop (j + 1)) (wipeA ed vs1) with
                            | stuck => rw [eg] at hr8; cases hr8
                            | raise _ _ => rw [eg] at hr8; cases hr8
                            | ok rest9 ee9 =>
                              rw [eg, R.bind_ok] at hr8
                              cases hr8
                              obtain ⟨avs, hP13, rr13⟩ := M13.at'
                              have hal := rr13.length
                              have hll : ys8.length < 1000000 := by
                                have q1 := congrArg List.length hy8
                                have q2 := congrArg List.length hy
                                simp only [List.length_append, List.length_cons] at q1 q2
                                omega
                              refine ⟨avs, hP13, by rw [hal]; exact szl hll, hlt1, F13, wipeA ed vs1, ownW vs1 own13, ys8 ++ [yd], s13, ?_, rest9, eg, by rw [List.append_assoc]; exact hy8⟩
                              have M14 := M13.push r13 avs hP13
                              have O14 : OutR K F13 (upd H12 P (.lst (avs ++ [v]))) own13 (wipe σ4 vs1) (wipeA ed vs1) F13 (upd H12 P (.lst (avs ++ [v]))) (ownW vs1 own13) := by
                                rw [← w10]
                                exact ⟨M14.S.wipe2, Step.refl.sub fun a z => ownW_sub z⟩
                              exact M14.step O14
                        · rw [eu] at hr8; cases hr8
                        · rw [eu] at hr8; cases hr8
                    · have ej' : j = ds1.length := by omega
                      subst ej'
                      rw [List.drop_length, compD] at hr8
                      cases hr8
                      rw [List.append_nil] at hy8
                      subst hy8
                      refine .inl ⟨fd1.stop F8 H8 s68 M8.S.ex, hlt, F8, wipeA ein vs, ownW vs own8, ys ++ yin, s6.trans s68, ?_, rest2, ek, by rw [List.append_assoc]; exact hy⟩
                      have w8 : wipe (wipe σ4 vs1) vs = wipe σ vs := by
                        rw [← w4]
                        exact wipe_only (is := vs1) ⟨wipe_length σ4 vs1, fun q hq => by rw [wipe_eq, wipeA_out hq]⟩ hv
                      have O15 : OutR K F8 H8 own8 (wipe σ vs) (wipeA ein vs) F8 H8 (ownW vs own8) := by
                        rw [← w8]
                        exact ⟨M8.S.wipe2, Step.refl.sub fun a z => ownW_sub z⟩
                      exact M8.step O15
          · have ei : i = ds.length := by omega
            subst ei
            refine .inl ⟨fd.stop F' H' s1 M.S.ex, ?_⟩
            rw [List.drop_length, compD2] at hr
            cases hr
            rw [List.append_nil] at hy
            subst hy
            obtain ⟨avs, hPE, rr⟩ := M.at'
            have SF := unwipe_sit O1.S hda s1 M.S
            refine h (.ref P) F' H' (ownW vs own') (fun a => a = P) ⟨SF, ⟨P, avs, rfl, fun _ => Iff.rfl, hPE, M.fr, rr⟩, fun a z y => ?_, ?_⟩
            · have z' : a = P := z
              subst z'
              exact M.no (ownW_sub y)
            · exact (O1.s.trans M.s).sub fun a z => z.imp_left ownW_sub
        · rw [if_neg hlen] at h; exact h.elim
    · rw [if_neg hda] at h; exact h.elim
section
variable {X : Cx} {Wx : WX} {elt tg iter tg1 iter1 : Expr} {scope : Scope} {own : List (Str × Nat)} {vs1 is is1 : List Nat} {pos : Pos} {it it1 : M (List D)} {m m1 : MT} {f : M U}
theorem e_comp2 (hc : X.calm = true) (hN : X.N.Nodup) (hi : ItS X Wx tg iter it) (ok : BlkOk X.N X.env.scope scope own) (hv : ∀ i ∈ vs1, i ∈ own.map (·.2))
    (hg : ∀ (s : Shared) (H : Hp) (C : Addr) (cl : List (Str × Addr)) (fp : List Addr), TgS (X.blk s H scope (compEnvC scope cl C X.env) fp) tg is m)
    (hi1 : ∀ (s : Shared) (H : Hp) (C : Addr) (cl : List (Str × Addr)) (fp : List Addr), ItS (X.blk s H scope (compEnvC scope cl C X.env) fp) Wx0 tg1 iter1 it1)
    (hg1 : ∀ (s : Shared) (H : Hp) (C : Addr) (cl : List (Str × Addr)) (fp : List Addr), TgS (X.blk s H scope (compEnvC scope cl C X.env) fp) tg1 is1 m1)
    (he : ∀ (s : Shared) (H : Hp) (C : Addr) (cl : List (Str × Addr)) (fp : List Addr), EvS (X.blk s H scope (compEnvC scope cl C X.env) fp) Wx0 elt f) (hsub : ∀ i ∈ is, i ∈ own.map (·.2)) (hsub1 : ∀ i ∈ is1, i ∈ vs1)
    (hs : ∀ x, foldedSetIterable iter X.env x = pure x := by intro _; rfl) (hs1 : ∀ env x, foldedSetIterable iter1 env x = pure x := by intro _ _; rfl) :
    EvS X Wx (.ListComp elt [⟨tg, iter, [], 0⟩, ⟨tg1, iter1, [], 0⟩] scope pos) (eComp2 it (own.map (·.2)) vs1 m it1 m1 f) :=
  PE.imp (pe_lc2 hc hN hi ok hv hg (fun s H C cl fp => (PTs.imp pts_nil fun σ H Q q => tt_yes q : PTs _ [] (ttOf X.K X.mg Wx0 tYesD))) hi1 hg1 (fun s H C cl fp => (PTs.imp pts_nil fun σ H Q q => tt_yes q : PTs _ [] (ttOf X.K X.mg Wx0 tYesD))) he hs hs1) fun σ H Q h => comp2_sem hsub hsub1 hv h
end

/-! ### a, b = x, y -/
def sPar (i j : Nat) (fs : List (M U)) : M Fl := fun env => (evs fs env).bind fun us e1 => match frzs e1 us with
  | some ([d1, d2], e2) => (match setS i (.v d1) e2 with
    | some e3 => (match setS j (.v d2) e3 with
      | some e4 => .ok .next e4
      | none => .stuck)
    | none => .stuck)
  | _ => .stuck
section
variable {X : Cx} {Wx : WX} {i j : Nat} {x y : Str} {a b : Expr} {fa fb : M U} {px py pt pos : Pos} {kt k2 : Nat} {pt2 : Pos}
theorem s_par (hc : X.calm = true) (hN : X.N.Nodup) (hi : X.N[i]? = some x) (hj : X.N[j]? = some y) (hij : i ≠ j)
    (hx : X.env.scope.names.lookup x = some .local) (hy : X.env.scope.names.lookup y = some .local) (ha : EaS X Wx [a, b] [fa, fb])
    (hw : swappedStores [.Tuple [.Name x px, .Name y py] kt pt] (.Tuple [a, b] k2 pt2) X.env = pure (some [x, y]))
    (hs : swapsWithSole [.Tuple [.Name x px, .Name y py] kt pt] (.Tuple [a, b] k2 pt2) pos.line X.env = pure false := by rfl) :
    StS X Wx (.Assign [.Tuple [.Name x px, .Name y py] kt pt] (.Tuple [a, b] k2 pt2) pos) [i, j] (sPar i j [fa, fb]) :=
  PS.imp (ps_par hc hN hi hj hij hx hy ha hw hs) fun E σ H h => by
  obtain ⟨F, env, own, S, h⟩ := h
  have h : Po X.K X.mg Wx [i, j] E σ F H own (sPar i j [fa, fb] env) := h
  refine ⟨F, env, own, S, ?_⟩
  unfold sPar at h
  cases e : evs [fa, fb] env with
  | stuck => rw [e] at h; exact h
  | raise c env1 => rw [e] at h; exact fun C F' H' own' => h C σ F' H' own' Only.refl
  | ok us env1 =>
    rw [e, R.bind_ok] at h
    intro vs F1 H1 own1 p O
    cases e1 : frzs env1 us with
    | none => rw [e1] at h; exact h.elim
    | some pr =>
      obtain ⟨ds, e2⟩ := pr
      rw [e1] at h
      obtain ⟨F2, own2, r2, O2⟩ := O.frz (F2 := F) e1
      match ds, r2, h with
      | [d1, d2], .cons r1 (.cons r2 .nil), h =>
        rename_i v1 v2
        dsimp only at h
        refine ⟨v1, v2, rfl, ?_⟩
        cases e3 : setS i (.v d1) e2 with
        | none => rw [e3] at h; exact h.elim
        | some env3 =>
          rw [e3] at h
          dsimp only at h
          cases e4 : setS j (.v d2) env3 with
          | none => rw [e4] at h; exact h.elim
          | some env4 =>
            rw [e4] at h
            obtain ⟨own3, O3⟩ := ((Grow.refl O2.S.ex).out O2 (RepW.ofRep (H' := H1) r1)).set e3
            obtain ⟨own4, O4⟩ := ((Grow.refl O3.S.ex).out O3 (RepW.ofRep (H' := H1) r2)).set e4
            exact h _ _ _ _ (Only.set.trans Only.set) O4
      | [], _, h => exact h.elim
      | [_], _, h => exact h.elim
      | _ :: _ :: _ :: _, _, h => exact h.elim
end

/-! ### list(range(..)), tuple(range(..)) -/
def gRg (mk : List D → W) : List D → Option W
  | [.int n] => if -(2 ^ 62) ≤ n ∧ n ≤ 1000000 then some (mk (rangeD 0 n)) else none
  | [.int m, .int n] => if (-(2 ^ 62) ≤ m ∧ m < 2 ^ 62) ∧ (-(2 ^ 62) ≤ n ∧ n < 2 ^ 62) ∧ n - m ≤ 1000000 then some (mk (rangeD m n)) else none
  | _ => none
abbrev mkT (ds : List D) : W := .v (.tup ds)
abbrev mkL (ds : List D) : W := .l false ds
theorem rep_rg {K : PySem.W.Frag} {F : Hp} (a b : Int) : RepDs K F (rgV a b) (rangeD a b) := by
  unfold rgV rangeD
  induction (List.range (b - a).toNat) with
  | nil => exact .nil
  | cons x r ih => exact .cons (.int _) ih
section
variable {X : Cx} {Wx : WX} {a b : Expr} {fa fb : M U} {pos p p2 pos2 : Pos}
def rRg1 (K : PySem.W.Frag) (o : List V → HO) : List V → Hp → VK → Prop := fun vs H Q => ∃ n, vs = [.int n] ∧ RgOk 0 n ∧ ∀ q, H q = none → Q (.ref q) (upd H q (o (rgV 0 n)))
def rRg2 (K : PySem.W.Frag) (o : List V → HO) : List V → Hp → VK → Prop := fun vs H Q => ∃ m n, vs = [.int m, .int n] ∧ RgOk m n ∧ ∀ q, H q = none → Q (.ref q) (upd H q (o (rgV m n)))
theorem cd_rgT1 {K : PySem.W.Frag} : CaD K (fun vs H Q => ∀ n, vs = [.int n] → rRg1 K .tup vs H Q) (gRg mkT) := by
  intro F H vs ds w Q e vw hg q n hn
  subst hn
  unfold gRg at hg
  split at hg
  · rename_i n'
    split at hg
    · rename_i hb
      cases hg
      obtain ⟨x, ex, hx⟩ := vw.one
      cases ex
      cases hx.int
      exact ⟨n, rfl, ⟨by decide, by decide, hb.1, by omega, by omega⟩, fin_tup e (rep_rg 0 n) q⟩
    · cases hg
  · obtain ⟨x, y, ex, _⟩ := vw.two
    cases ex
  · cases hg
theorem tOf_ints1 {K : PySem.W.Frag} {mg : Str → Option Value} {mk : List D → W} {σ : L2.St} {H : Hp} {Q : VK} {o : List V → HO} (hfin : ∀ {F H : Hp} {a b : Int} {Q : VK}, Same F H → (∀ v F' H' p, Grow F H F' H' p → RepW K F' H' v (mk (rangeD a b)) p → Q v H') → ∀ p, H p = none → Q (.ref p) (upd H p (o (rgV a b))))
    (h : tOf K mg Wx (opN (gRg mk) [fa]) σ H Q) : tOf K mg Wx fa σ H fun x H1 => ∃ n, x = .int n ∧ RgOk 0 n ∧ ∀ q, H1 q = none → Q (.ref q) (upd H1 q (o (rgV 0 n))) := by
  have cd : CaD K (fun vs H Q => ∃ x, vs = [x] ∧ ∃ n, x = .int n ∧ RgOk 0 n ∧ ∀ q, H q = none → Q (.ref q) (upd H q (o (rgV 0 n))))  (fun ds => match ds with | [_] => gRg mk ds | _ => none) := by
    intro F H vs ds w Q e vw hg q
    match ds, vw, hg with
    | [d], vw, hg =>
      obtain ⟨x, rfl, hx⟩ := vw.one
      refine ⟨x, rfl, ?_⟩
      replace hg : gRg mk [d] = some w := hg
      unfold gRg at hg
      split at hg
      · rename_i n heq
        cases heq
        split at hg
        · rename_i hb
          cases hg
          exact ⟨n, hx.int, ⟨by decide, by decide, hb.1, by omega, by omega⟩, hfin e q⟩
        · cases hg
      · rename_i heq; cases heq
      · cases hg
  have h' : tOf K mg Wx (opN (fun ds => match ds with | [_] => gRg mk ds | _ => none) [fa]) σ H Q := by
    have e : opN (fun ds => match ds with | [_] => gRg mk ds | _ => none) [fa] = opN (gRg mk) [fa] := by
      funext env
      unfold opN evs evs
      cases fa env with
      | stuck => rfl
      | raise _ _ => rfl
      | ok u e1 =>
        simp only [R.bind_ok, datL]
        cases dat e1 u with
        | none => rfl
        | some d => rfl
    rw [e]; exact h
  exact tOf_mono (aOf_1 (aOf_op cd h')) fun x _ q => by
    obtain ⟨x', e, q⟩ := q
    cases e
    exact q
theorem tOf_ints2 {K : PySem.W.Frag} {mg : Str → Option Value} {mk : List D → W} {σ : L2.St} {H : Hp} {Q : VK} {o : List V → HO} (hfin : ∀ {F H : Hp} {a b : Int} {Q : VK}, Same F H → (∀ v F' H' p, Grow F H F' H' p → RepW K F' H' v (mk (rangeD a b)) p → Q v H') → ∀ p, H p = none → Q (.ref p) (upd H p (o (rgV a b))))
    (h : tOf K mg Wx (opN (gRg mk) [fa, fb]) σ H Q) : tOf K mg Wx fa σ H fun x H1 => tOf K mg Wx fb σ H1 fun y H2 => ∃ m n, x = .int m ∧ y = .int n ∧ RgOk m n ∧ ∀ q, H2 q = none → Q (.ref q) (upd H2 q (o (rgV m n))) := by
  have cd : CaD K (fun vs H Q => ∃ x y, vs = [x, y] ∧ ∃ m n, x = .int m ∧ y = .int n ∧ RgOk m n ∧ ∀ q, H q = none → Q (.ref q) (upd H q (o (rgV m n))))  (fun ds => match ds with | [_, _] => gRg mk ds | _ => none) := by
    intro F H vs ds w Q e vw hg q
    match ds, vw, hg with
    | [d, d2], vw, hg =>
      obtain ⟨x, y, rfl, hx, hy⟩ := vw.two
      refine ⟨x, y, rfl, ?_⟩
      replace hg : gRg mk [d, d2] = some w := hg
      unfold gRg at hg
      split at hg
      · rename_i heq; cases heq
      · rename_i m n heq
        cases heq
        split at hg
        · rename_i hb
          cases hg
          exact ⟨m, n, hx.int, hy.int, ⟨hb.1.1, hb.1.2, hb.2.1.1, hb.2.1.2, by omega⟩, hfin e q⟩
        · cases hg
      · cases hg
  have h' : tOf K mg Wx (opN (fun ds => match ds with | [_, _] => gRg mk ds | _ => none) [fa, fb]) σ H Q := by
    have e : opN (fun ds => match ds with | [_, _] => gRg mk ds | _ => none) [fa, fb] = opN (gRg mk) [fa, fb] := by
      funext env
      unfold opN evs evs evs
      cases fa env with
      | stuck => rfl
      | raise _ _ => rfl
      | ok u e1 =>
        simp only [R.bind_ok]
        cases fb e1 with
        | stuck => rfl
        | raise _ _ => rfl
        | ok u2 e2 =>
          simp only [R.bind_ok, datL]
          cases dat e2 u with
          | none => rfl
          | some d =>
            cases dat e2 u2 with
            | none => rfl
            | some d2 => rfl
    rw [e]; exact h
  exact tOf_mono (aOf_2 (aOf_op cd h')) fun x _ q => tOf_mono q fun y _ q => by
    obtain ⟨x', y', e, q⟩ := q
    cases e
    exact q
theorem e_tupRg1 (hc : X.calm = true) (hgt : Gl X "tuple") (hmt : X.mg "tuple" = none) (hg : Gl X "range") (hm : X.mg "range" = none) (ha : EvS X Wx a fa) (na : starEach [a] X.env = (false, eval a X.env) :: starEach [] X.env := by rfl)
    (na2 : starEach [.Call (.Name "range" p2) [a] [] pos2] X.env = (false, eval (.Call (.Name "range" p2) [a] [] pos2) X.env) :: starEach [] X.env := by rfl) : EvS X Wx (.Call (.Name "tuple" p) [.Call (.Name "range" p2) [a] [] pos2] [] pos) (opN (gRg mkT) [fa]) :=
  PE.imp (pe_tupRg hc hgt hmt (prg_1 hg hm ha na) na2) fun σ H Q h => tOf_mono (tOf_ints1 (fun e q => fin_tup e (rep_rg _ _) q) h) fun x _ q => by
    obtain ⟨n, rfl, ok, q⟩ := q
    exact ⟨n, rfl, ok, q⟩
theorem e_lstRg1 (hc : X.calm = true) (hgt : Gl X "list") (hmt : X.mg "list" = none) (hg : Gl X "range") (hm : X.mg "range" = none) (ha : EvS X Wx a fa) (na : starEach [a] X.env = (false, eval a X.env) :: starEach [] X.env := by rfl)
    (na2 : starEach [.Call (.Name "range" p2) [a] [] pos2] X.env = (false, eval (.Call (.Name "range" p2) [a] [] pos2) X.env) :: starEach [] X.env := by rfl) : EvS X Wx (.Call (.Name "list" p) [.Call (.Name "range" p2) [a] [] pos2] [] pos) (opN (gRg mkL) [fa]) :=
  PE.imp (pe_listRg hc hgt hmt (prg_1 hg hm ha na) na2) fun σ H Q h => tOf_mono (tOf_ints1 (fun e q => fin_lst e (rep_rg _ _) q) h) fun x _ q => by
    obtain ⟨n, rfl, ok, q⟩ := q
    exact ⟨n, rfl, ok, q⟩
theorem e_tupRg2 (hc : X.calm = true) (hgt : Gl X "tuple") (hmt : X.mg "tuple" = none) (hg : Gl X "range") (hm : X.mg "range" = none) (ha : EvS X Wx a fa) (hb : EvS X Wx b fb) (na : starEach [a, b] X.env = (false, eval a X.env) :: starEach [b] X.env := by rfl)
    (nb : starEach [b] X.env = (false, eval b X.env) :: starEach [] X.env := by rfl) (hp : (backTo pos2 (starEach [b] X.env)).any (·.1) = false := by rfl)
    (na2 : starEach [.Call (.Name "range" p2) [a, b] [] pos2] X.env = (false, eval (.Call (.Name "range" p2) [a, b] [] pos2) X.env) :: starEach [] X.env := by rfl) : EvS X Wx (.Call (.Name "tuple" p) [.Call (.Name "range" p2) [a, b] [] pos2] [] pos) (opN (gRg mkT) [fa, fb]) :=
  PE.imp (pe_tupRg hc hgt hmt (prg_2 hg hm ha hb na nb hp) na2) fun σ H Q h => tOf_mono (tOf_ints2 (fun e q => fin_tup e (rep_rg _ _) q) h) fun x _ q => tOf_mono q fun y _ q => by
    obtain ⟨m, n, rfl, rfl, ok, q⟩ := q
    exact ⟨m, n, rfl, rfl, ok, q⟩
theorem e_lstRg2 (hc : X.calm = true) (hgt : Gl X "list") (hmt : X.mg "list" = none) (hg : Gl X "range") (hm : X.mg "range" = none) (ha : EvS X Wx a fa) (hb : EvS X Wx b fb) (na : starEach [a, b] X.env = (false, eval a X.env) :: starEach [b] X.env := by rfl)
    (nb : starEach [b] X.env = (false, eval b X.env) :: starEach [] X.env := by rfl) (hp : (backTo pos2 (starEach [b] X.env)).any (·.1) = false := by rfl)
    (na2 : starEach [.Call (.Name "range" p2) [a, b] [] pos2] X.env = (false, eval (.Call (.Name "range" p2) [a, b] [] pos2) X.env) :: starEach [] X.env := by rfl) : EvS X Wx (.Call (.Name "list" p) [.Call (.Name "range" p2) [a, b] [] pos2] [] pos) (opN (gRg mkL) [fa, fb]) :=
  PE.imp (pe_listRg hc hgt hmt (prg_2 hg hm ha hb na nb hp) na2) fun σ H Q h => tOf_mono (tOf_ints2 (fun e q => fin_lst e (rep_rg _ _) q) h) fun x _ q => tOf_mono q fun y _ q => by
    obtain ⟨m, n, rfl, rfl, ok, q⟩ := q
    exact ⟨m, n, rfl, rfl, ok, q⟩
end
end DL

namespace DL
open PySem PySem.Spec PyProof.Rows L2

/-! ### range(a, b, c), c above 0 -/
def rangeC (lo c : Int) (n : Nat) : List D := (List.range n).map fun i => .int (lo + (i : Nat) * c)
def iterR3 (f g h : M U) : M (List D) := fun env => (evs [f, g, h] env).bind fun us e1 => match datL e1 us with
  | some [.int a, .int b, .int c] => if 0 < c ∧ c < 1000000 ∧ (0 ≤ a ∧ a ≤ 1000000) ∧ (0 ≤ b ∧ b ≤ 1000000) then .ok (rangeC a c (if b ≤ a then 0 else ((b - a - 1) / c + 1).toNat)) e1 else .stuck
  | _ => .stuck
theorem feeds_c {K : PySem.W.Frag} {F0 : Hp} {lo c : Int} {n : Nat} : Feeds K (Itc lo c n) F0 (rangeC lo c n) where
  go := fun F H i _ _ h => by
    show i < _
    unfold rangeC at h
    simpa using h
  yld := fun F H i x H' d e1 e2 hd y => by
    obtain ⟨rfl, rfl⟩ := y
    unfold rangeC at hd
    rw [List.getElem?_map] at hd
    cases e : (List.range n)[i]? with
    | none => rw [e] at hd; cases hd
    | some j =>
      rw [e] at hd
      have : j = i := by
        obtain ⟨h1, h2⟩ := List.getElem?_eq_some_iff.mp e
        simpa using h2.symm
      subst this
      cases hd
      exact ⟨F, Grow.refl e2, .int _⟩
  stop := fun F H _ _ => by
    show _ ≤ _
    unfold rangeC
    simp
theorem rgc_ok {a b c : Int} (h : 0 < c ∧ c < 1000000 ∧ (0 ≤ a ∧ a ≤ 1000000) ∧ (0 ≤ b ∧ b ≤ 1000000)) : RgC a b c (if b ≤ a then 0 else ((b - a - 1) / c + 1).toNat) := by
  obtain ⟨h1, h2, ⟨h3, h4⟩, ⟨h5, h6⟩⟩ := h
  have hz : Builtin.Range.rangeSize a b c = ((if b ≤ a then 0 else ((b - a - 1) / c + 1).toNat : Nat) : Int) := by
    unfold Builtin.Range.rangeSize
    by_cases q : b ≤ a
    · simp [h1, q, Int.not_lt.mpr q]
    · have : 0 ≤ (b - a - 1) / c := Int.ediv_nonneg (by omega) (by omega)
      have ef : (b - a - 1).fdiv c = (b - a - 1) / c := Int.fdiv_eq_ediv_of_nonneg _ (by omega)
      simp [h1, q, Int.not_le.mp q]
      omega
  refine ⟨by omega, by omega, ?_, hz⟩
  have hn : 0 ≤ Builtin.Range.rangeSize a b c ∧ Builtin.Range.rangeSize a b c ≤ 1000001 := by
    unfold Builtin.Range.rangeSize
    rw [if_pos h1]
    split
    · have q1 : 0 ≤ (b - a - 1) / c := Int.ediv_nonneg (by omega) (by omega)
      have q2 : (b - a - 1) / c ≤ b - a - 1 := Int.ediv_le_self _ (by omega)
      omega
    · omega
  unfold Builtin.Range.small
  generalize Builtin.Range.rangeSize a b c = z at hn
  simp only [Builtin.Range.rangeFitsLong, Bool.and_eq_true, Bool.or_eq_true, decide_eq_true_eq, beq_iff_eq, show c > 0 from h1, if_true]
  omega
section
variable {X : Cx} {Wx : WX} {tg a b c : Expr} {fa fb fc : M U} {p pos : Pos}
theorem i_range3 (hg : Gl X "range") (hm : X.mg "range" = none) (ha : EvS X Wx a fa) (hb : EvS X Wx b fb) (hc : EvS X Wx c fc) (hs : starEach [a, b, c] X.env = (false, eval a X.env) :: starEach [b, c] X.env := by rfl) (hs2 : starEach [b, c] X.env = (false, eval b X.env) :: starEach [c] X.env := by rfl) (hs3 : starEach [c] X.env = (false, eval c X.env) :: starEach [] X.env := by rfl)
    (hpl : (backTo pos (starEach [b, c] X.env)).any (·.1) = false := by rfl) : ItS X Wx tg (.Call (.Name "range" p) [a, b, c] [] pos) (iterR3 fa fb fc) :=
  PI.imp (pi_range3 hg hm (show EaS X Wx [a, b, c] [fa, fb, fc] from ea_cons ha (ea_cons hb (ea_cons hc ea_nil hs3) hs2) hs) hs hpl) fun σ H RR h => by
  obtain ⟨F, env, own, S, h⟩ := h
  refine ⟨F, env, own, S, ?_⟩
  unfold iterR3 at h
  cases e : evs [fa, fb, fc] env with
  | stuck => rw [e] at h; exact h
  | raise c env1 => rw [e] at h; exact h
  | ok us env1 =>
    rw [e, R.bind_ok] at h
    intro vs F1 H1 own1 q O
    cases e1 : datL env1 us with
    | none => rw [e1] at h; exact h.elim
    | some ds =>
      rw [e1] at h
      have vw := RepUs.views O.S O.r e1
      split at h
      · rename_i ds' env' heq
        split at heq
        · rename_i i j k hn
          cases hn
          split at heq
          · rename_i hb
            cases heq
            cases vw with
            | cons h1 h2 =>
              obtain ⟨x, y, rfl, hx, hy⟩ := h2.two
              exact ⟨i, j, k, _, by rw [h1.int, hx.int, hy.int], rgc_ok hb, h _ _ _ _ O.drop feeds_c⟩
          · cases heq
        · cases heq
      · rename_i heq
        split at heq
        · split at heq <;> cases heq
        · cases heq
      · exact h.elim
end

/-! ### list.index, list.count -/
def idxD (d : D) : List D → Option Nat
  | [] => none
  | x :: r => if deq x d then some 0 else (idxD d r).map (· + 1)
def gIdx : List D → Option W
  | [.lst ds, d] => if fine 60 (.lst ds) && fine 60 d then (idxD d ds).map fun n => .v (.int (n : Nat)) else none
  | _ => none
theorem idxD_spec {d : D} : ∀ {ds : List D} {n : Nat}, idxD d ds = some n → ∃ x, ds[n]? = some x ∧ deq x d = true ∧ ∀ m x', m < n → ds[m]? = some x' → deq x' d = false
  | [], n, h => by cases h
  | x :: r, n, h => by
    unfold idxD at h
    by_cases c : deq x d = true
    · rw [if_pos c] at h
      cases h
      exact ⟨x, rfl, c, fun m x' hm => absurd hm (Nat.not_lt_zero _)⟩
    · rw [if_neg c] at h
      obtain ⟨k, h1, rfl⟩ := Option.map_eq_some_iff.mp h
      obtain ⟨y, h2, h3, h4⟩ := idxD_spec h1
      refine ⟨y, by simpa using h2, h3, fun m x' hm e => ?_⟩
      cases m with
      | zero =>
        simp at e
        subst e
        cases q : deq x d with
        | true => exact absurd q c
        | false => rfl
      | succ m => exact h4 m x' (by omega) (by simpa using e)
theorem toPys_get : ∀ {ds : List D} {n : Nat} {x : D}, ds[n]? = some x → (toPys ds)[n]? = some (toPy x) := fun {ds n x} h => by
  rw [toPys_map, List.getElem?_map, h]; rfl
theorem toPys_get' {ds : List D} {n : Nat} {z : PyData} (h : (toPys ds)[n]? = some z) : ∃ x, ds[n]? = some x ∧ z = toPy x := by
  rw [toPys_map, List.getElem?_map] at h
  cases e : ds[n]? with
  | none => rw [e] at h; cases h
  | some x => rw [e] at h; cases h; exact ⟨x, rfl, rfl⟩
/-- o.m(e): the receiver a list; what it tells, by data; nothing is changed -/
def opM (g : List D → Option W) (fo fe : M U) : M U := fun env => (fo env).bind fun u0 e0 => match dat e0 u0 with
  | some (.lst _) => (fe e0).bind fun u e1 => (match dat e1 u0, dat e1 u with
    | some d0, some d => (match g [d0, d] with
      | some w => .ok (.w w) e1
      | none => .stuck)
    | _, _ => .stuck)
  | _ => .stuck
def rM (r : V → List V → Hp → VK → Prop) : List V → Hp → VK → Prop := fun vs H Q => ∃ x y, vs = [x, y] ∧ r x [y] H Q
theorem meth_sem {K : PySem.W.Frag} {mg : Str → Option Value} {Wx : WX} {r : V → List V → Hp → VK → Prop} {g : List D → Option W} {fo fe : M U} {σ : L2.St} {H : Hp} {Q : VK} (cd : CaD K (rM r) g) (h : tOf K mg Wx (opM g fo fe) σ H Q) :
    tBM K "list" r (tOf K mg Wx fo) (tCons (tOf K mg Wx fe) tNil) σ H Q := by
  obtain ⟨F, env, own, S, h⟩ := h
  unfold opM at h
  refine tOf_use S (fun u0 env0 e0 v0 F0 H0 own0 p0 O0 => ?_) (fun c env1 e1 C F1 H1 own1 => ?_) (fun e1 => ?_)
  · rw [e0, R.bind_ok] at h
    cases ed : dat env0 u0 with
    | none => rw [ed] at h; exact h.elim
    | some d0 =>
      rw [ed] at h
      cases d0 with
      | lst ds0 =>
        dsimp only at h
        obtain ⟨a, vs, rfl, hr, _⟩ := (RepU.view O0.S O0.r ed).lst
        refine ⟨Or.inl ⟨rfl, vs, .inl hr⟩, ?_⟩
        refine tOf_use O0.S (fun u env1 e1 v F1 H1 own1 p1 O1 => ?_) (fun c env1 e1 C F1 H1 own1 hm O1 => ?_) (fun e1 => ?_)
        · rw [e1, R.bind_ok] at h
          have OO := O0.out2 O1
          cases e2 : dat env1 u0 with
          | none => rw [e2] at h; exact h.elim
          | some d1 =>
            cases e3 : dat env1 u with
            | none => rw [e2, e3] at h; exact h.elim
            | some d =>
              rw [e2, e3] at h
              dsimp only at h
              cases e4 : g [d1, d] with
              | none => rw [e4] at h; exact h.elim
              | some w =>
                rw [e4] at h
                obtain ⟨x, y, ex, q⟩ := cd F1 H1 [.ref a, v] [d1, d] w Q OO.S.ex (.cons (RepU.view OO.S OO.r1 e2) (.cons (RepU.view OO.S OO.r2 e3) .nil)) e4 fun v' F' H' p gr rw' => h _ _ _ _ _ (gr.out OO.drop rw')
                cases ex
                exact q
        · rw [e1] at h
          exact h C F1 H1 own1 hm (O0.drop.trans O1)
        · rw [e1] at h
          exact h
      | _ => exact h.elim
  · rw [e1] at h
    exact h C F1 H1 own1
  · rw [e1] at h
    exact h
theorem cd_idx {K : PySem.W.Frag} : CaD K (rM (rIndexD K)) gIdx := by
  intro F H vs ds w Q e vw hg q
  unfold gIdx at hg
  split at hg
  · rename_i xs d
    obtain ⟨x, y, rfl, hx, hy⟩ := vw.two
    split at hg
    · rename_i hf
      obtain ⟨f1, f2⟩ := Bool.and_eq_true_iff.mp hf
      obtain ⟨n, h1, rfl⟩ := Option.map_eq_some_iff.mp hg
      obtain ⟨z, h2, h3, h4⟩ := idxD_spec h1
      have hd := hx.dp e f1
      obtain ⟨a, us, rfl, _⟩ := hx.lst
      exact ⟨_, _, rfl, a, y, toPy d, toPys xs, n, toPy z, rfl, rfl, hd, hy.dp e f2, fine_shaped f1, fine_shaped f2, toPys_get h2, h3, fun m z' hm hz => by
        obtain ⟨x', e1, rfl⟩ := toPys_get' hz
        exact h4 m x' hm e1, fin_int e q⟩
    · cases hg
  · cases hg
def gCnt : List D → Option W
  | [.lst ds, .int k] => (intsOf ds).map fun ns => .v (.int ((ns.count k : Nat) : Int))
  | _ => none
theorem cd_cnt {K : PySem.W.Frag} : CaD K (rM (rCntI K)) gCnt := by
  intro F H vs ds w Q e vw hg q
  unfold gCnt at hg
  split at hg
  · rename_i xs k
    obtain ⟨x, y, rfl, hx, hy⟩ := vw.two
    obtain ⟨ns, h1, rfl⟩ := Option.map_eq_some_iff.mp hg
    obtain ⟨a, us, rfl, h2, r⟩ := hx.lst
    rw [intsOf_eq h1] at r
    have := r.ints
    subst this
    exact ⟨_, _, rfl, a, ns, k, rfl, by rw [hy.int], .inl h2, fin_int e q⟩
  · cases hg
section
variable {X : Cx} {Wx : WX} {o e : Expr} {fo fe : M U} {apos cpos : Pos} {name : Str} {id : String} {r : V → List V → Hp → VK → Prop} {g : List D → Option W}
theorem e_meth (slot : Slot "list" name id) (hty : typeOf (.builtin id) = pure (.type "method_descriptor")) (hm : MtR X id r) (cd : CaD X.K (rM r) g) (ho : EvS X Wx o fo) (he : EvS X Wx e fe)
    (hs0 : starEach [e] X.env = (false, eval e X.env) :: starEach [] X.env := by rfl)
    (hbase : attributeBase o name X.env (eval o X.env) = eval o X.env := by rfl)
    (hfew : ((backTo cpos (starEach [e] X.env)).all (fun x => !x.1) && (backToKw cpos (keywordEach [] X.env)).all (fun x => x.1.isSome)
      && decide ([e].length + ([] : List Keyword).length + (if ([] : List Keyword).isEmpty then 0 else 1) < 30)) = true := by rfl)
    (hline : (apos.endLine == cpos.line) = true := by rfl) (hplain : (backTo cpos (starEach [] X.env)).any (·.1) = false := by rfl) :
    EvS X Wx (.Call (.Attribute o name apos) [e] [] cpos) (opM g fo fe) :=
  PE.imp (pe_bm PySem.F.plainAttrs_list slot hty hm ho (pa_cons he pa_nil hs0) hbase hfew hline hs0 hplain) fun σ H Q h => meth_sem cd h
end

/-! ### sorted, of tuples of ints -/
theorem RepDs.perm {K : PySem.W.Frag} {F : Hp} : ∀ {xs ys : List V}, ys.Perm xs → ∀ {ds : List D}, RepDs K F xs ds → ∃ ds', RepDs K F ys ds' ∧ ds'.Perm ds := fun {xs ys} p => by
  induction p with
  | nil => intro ds r; cases r; exact ⟨[], .nil, List.Perm.refl _⟩
  | cons x p ih =>
    intro ds r
    cases r with
    | cons h t =>
      obtain ⟨ds', r', p'⟩ := ih t
      exact ⟨_, .cons h r', p'.cons _⟩
  | swap x y l =>
    intro ds r
    cases r with
    | cons h t => cases t with
      | cons h2 t2 => exact ⟨_, .cons h2 (.cons h t2), List.Perm.swap _ _ _⟩
  | trans p1 p2 ih1 ih2 =>
    intro ds r
    obtain ⟨d1, r1, q1⟩ := ih2 r
    obtain ⟨d2, r2, q2⟩ := ih1 r1
    exact ⟨d2, r2, q2.trans q1⟩
def tupInts : D → Option (List Int)
  | .tup l => intsOf l
  | _ => none
def okT (d : Nat) (B : Int) (x : D) : Bool := match tupInts x with
  | some ns => ns.length == d && ns.all fun m => decide (0 ≤ m) && decide (m < B)
  | none => false
def codeT (B : Int) (x : D) : Int := match tupInts x with
  | some ns => TS.code B ns
  | none => 0
def insT (B : Int) (x : D) : List D → List D
  | [] => [x]
  | y :: r => if codeT B x ≤ codeT B y then x :: y :: r else y :: insT B x r
def sortT (B : Int) : List D → List D
  | [] => []
  | x :: r => insT B x (sortT B r)
theorem insT_perm (B : Int) (x : D) : ∀ l : List D, (insT B x l).Perm (x :: l)
  | [] => List.Perm.refl _
  | y :: r => by
    unfold insT
    by_cases c : codeT B x ≤ codeT B y
    · rw [if_pos c]
    · rw [if_neg c]
      exact ((insT_perm B x r).cons y).trans (List.Perm.swap x y r)
theorem sortT_perm (B : Int) : ∀ l : List D, (sortT B l).Perm l
  | [] => List.Perm.refl _
  | x :: r => (insT_perm B x (sortT B r)).trans ((sortT_perm B r).cons x)
theorem insT_sorted (B : Int) (x : D) : ∀ l : List D, l.Pairwise (fun a b => codeT B a ≤ codeT B b) → (insT B x l).Pairwise (fun a b => codeT B a ≤ codeT B b)
  | [], _ => List.pairwise_singleton _ _
  | y :: r, h => by
    obtain ⟨h1, h2⟩ := List.pairwise_cons.mp h
    unfold insT
    by_cases c : codeT B x ≤ codeT B y
    · rw [if_pos c]
      refine List.pairwise_cons.mpr ⟨fun z hz => ?_, h⟩
      rcases List.mem_cons.mp hz with rfl | hz
      · exact c
      · have := h1 z hz; omega
    · rw [if_neg c]
      refine List.pairwise_cons.mpr ⟨fun z hz => ?_, insT_sorted B x r h2⟩
      rcases List.mem_cons.mp ((insT_perm B x r).mem_iff.mp hz) with rfl | hz
      · omega
      · exact h1 z hz
theorem sortT_sorted (B : Int) : ∀ l : List D, (sortT B l).Pairwise (fun a b => codeT B a ≤ codeT B b)
  | [] => List.Pairwise.nil
  | x :: r => insT_sorted B x _ (sortT_sorted B r)
theorem code_inj {B : Int} : ∀ {r q : List Int}, r.length = q.length → TS.Bd B r → TS.Bd B q → TS.code B r = TS.code B q → r = q
  | [], [], _, _, _, _ => rfl
  | [], _ :: _, h, _, _, _ => by cases h
  | _ :: _, [], h, _, _, _ => by cases h
  | d :: r, e :: q, h, hr, hq, hc => by
    have hl : r.length = q.length := by simpa using h
    rcases Int.lt_trichotomy d e with z | z | z
    · have := TS.code_lt hl hr.tail hq.tail z
      omega
    · subst z
      have k1 := TS.code_same (B := B) (d := d) hl
      have k2 := TS.code_same (B := B) (d := d) hl.symm
      have e1 : TS.code B r = TS.code B q := by
        by_cases c : TS.code B r < TS.code B q
        · have := k1.mpr c; omega
        · by_cases c2 : TS.code B q < TS.code B r
          · have := k2.mpr c2; omega
          · omega
      rw [code_inj hl hr.tail hq.tail e1]
    · have := TS.code_lt hl.symm hq.tail hr.tail z
      omega
theorem okT_spec {d : Nat} {B : Int} {x : D} (h : okT d B x = true) : ∃ ns, x = .tup (ns.map D.int) ∧ ns.length = d ∧ TS.Bd B ns ∧ codeT B x = TS.code B ns := by
  unfold okT at h
  cases e : tupInts x with
  | none => rw [e] at h; cases h
  | some ns =>
    rw [e] at h
    obtain ⟨h1, h2⟩ := Bool.and_eq_true_iff.mp h
    refine ⟨ns, ?_, beq_iff_eq.mp h1, fun m hm => ?_, by unfold codeT; rw [e]⟩
    · cases x with
      | tup l => rw [intsOf_eq (show intsOf l = some ns from e)]
      | _ => cases e
    · rw [List.all_eq_true] at h2
      have := h2 m hm
      simp only [Bool.and_eq_true, decide_eq_true_eq] at this
      exact this
def gSortT (d : Nat) (B : Int) : List D → Option W
  | [.lst ds] => if ds.length < 64 ∧ ds.all (okT d B) = true then some (.l false (sortT B ds)) else none
  | _ => none
theorem cd_sortT {K : PySem.W.Frag} {d : Nat} {B : Int} : CaD K (rSortU K d B) (gSortT d B) := by
  intro F H vs ds w Q e vw hg q
  unfold gSortT at hg
  split at hg
  · rename_i xs
    obtain ⟨x, rfl, hx⟩ := vw.one
    split at hg
    · rename_i hc
      cases hg
      obtain ⟨hl, ha⟩ := hc
      rw [List.all_eq_true] at ha
      obtain ⟨a, us, rfl, h2, r⟩ := hx.lst
      have rep : ∀ {v : V} {ns : List Int}, RepD K F v (.tup (ns.map D.int)) → TupI K H v ns := fun {v ns} h => by
        cases h with
        | tup h1 h2 =>
          rw [h2.ints] at h1
          exact ⟨_, rfl, SqT.of (e _ _ h1)⟩
      refine ⟨a, us, rfl, .inl h2, by rw [r.length]; exact hl, fun v hv => ?_, fun ys p hp hs hn => ?_⟩
      · obtain ⟨i, hi⟩ := List.getElem?_of_mem hv
        obtain ⟨dd, h3, h4⟩ := r.getv hi
        obtain ⟨ns, rfl, h5, h6, _⟩ := okT_spec (ha dd (List.mem_of_getElem? h3))
        exact ⟨ns, rep h4, h5, h6⟩
      · obtain ⟨ds', r', p'⟩ := r.perm hp
        have ok' : ∀ y ∈ ds', okT d B y = true := fun y hy => ha y (p'.mem_iff.mp hy)
        have srt : ds'.Pairwise (fun a b => codeT B a ≤ codeT B b) := by
          have key : ∀ {ys : List V} {ds' : List D}, RepDs K F ys ds' → (∀ y ∈ ds', okT d B y = true) → ys.Pairwise (fun x y => ∀ n m, TupI K H x n → TupI K H y m → TS.code B n ≤ TS.code B m) → ds'.Pairwise (fun a b => codeT B a ≤ codeT B b) := by
            intro ys ds' r ok hs
            induction ys generalizing ds' with
            | nil => cases r; exact List.Pairwise.nil
            | cons v vs ih =>
              cases r with
              | cons h t =>
                obtain ⟨s1, s2⟩ := List.pairwise_cons.mp hs
                refine List.pairwise_cons.mpr ⟨fun z hz => ?_, ih t (fun y hy => ok y (List.mem_cons_of_mem _ hy)) s2⟩
                obtain ⟨i, hi⟩ := List.getElem?_of_mem hz
                obtain ⟨u, hu, ru⟩ := t.get hi
                obtain ⟨n1, rfl, _, _, c1⟩ := okT_spec (ok _ List.mem_cons_self)
                obtain ⟨n2, rfl, _, _, c2⟩ := okT_spec (ok z (List.mem_cons_of_mem _ hz))
                rw [c1, c2]
                exact s1 u (List.mem_of_getElem? hu) n1 n2 (rep h) (rep ru)
          exact key r' ok' hs
        have ed : ds' = sortT B xs := (p'.trans (sortT_perm B xs).symm).eq_of_pairwise (fun x y hx hy c1 c2 => by
          obtain ⟨n1, rfl, l1, b1, e1⟩ := okT_spec (ok' x hx)
          obtain ⟨n2, rfl, l2, b2, e2⟩ := okT_spec (ok' y (by
            have : y ∈ ds' ∨ y ∈ sortT B xs := by first | exact .inl hy | exact .inr hy
            rcases this with z | z
            · exact z
            · exact p'.mem_iff.mpr ((sortT_perm B xs).mem_iff.mp z)))
          rw [code_inj (l1.trans l2.symm) b1 b2 (by omega)]) srt (sortT_sorted B xs)
        subst ed
        exact fin_lst e r' q p hn
    · cases hg
  · cases hg
end DL

namespace DL
open PySem PySem.Spec PyProof.Rows L2

/-! ### what a caller knows of a def, of an error's class -/
structure Cal (P : Program) (w : World) (K : PySem.W.Frag) (mg : Str → Option Value) (base : Heap) (k : Nat) (x : Str) (ps : List Str) (g : List W → RF) : Prop where
  ex : ∃ (f : Addr) (fd : FuncData), FnS P w K mg base k f fd ps g ∧ mg x = some (.ref f) ∧ PySem.W.keepIn K (.ref f) = true ∧ Binds K fd ps []
abbrev veMro : List Value := [.type "ValueError", .type "Exception", .type "BaseException", .type "object"]
structure Exn (K : PySem.W.Frag) (mg : Str → Option Value) (x : Str) : Prop where
  ex : ∃ C : Addr, mg x = some (.ref C) ∧ PySem.W.excIn K C veMro "ValueError.__new__" = true ∧ PySem.W.keepIn K (.ref C) = true ∧ PySem.W.subIn K (.ref C) (.type "BaseException") = some true ∧ PySem.W.typeIn K (.ref C) = some (.type "type")
theorem Cal.mono {P : Program} {w : World} {K : PySem.W.Frag} {mg : Str → Option Value} {base : Heap} {j k : Nat} {x : Str} {ps : List Str} {g : List W → RF} (c : Cal P w K mg base j x ps g) (h : j ≤ k) : Cal P w K mg base k x ps g := by
  obtain ⟨f, fd, G, r⟩ := c.ex
  exact ⟨f, fd, G.mono h, r⟩
theorem Cal.weak {P : Program} {w : World} {K : PySem.W.Frag} {mg : Str → Option Value} {base : Heap} {k : Nat} {x : Str} {ps : List Str} {g g' : List W → RF} (c : Cal P w K mg base k x ps g) (e : ∀ ws, g' ws ≠ .stuck → g ws = g' ws) : Cal P w K mg base k x ps g' := by
  obtain ⟨f, fd, G, r⟩ := c.ex
  exact ⟨f, fd, FnS.weak G e, r⟩
section
variable {X : Cx} {Wx : WX} {j k : Nat} {ps : List Str} {g : List W → RF} {x : Str} {p pos pos' p2 : Pos} {e : Expr} {es : List Expr} {fs : List (M U)} {ms : List (Option Nat)}
theorem e_callC (C : Cal X.prog X.w X.K X.mg X.base j x ps g) (tk : Takes X Wx) (hr : Room k X.A) (ha : EaS X Wx (e :: es) fs) (hjk : j ≤ k) (hg : Gl X x := by rfl)
    (nd : (ms.filterMap id).Nodup := by decide) (hn : ms.length = ps.length := by rfl) (hdb : (x == ("__debug__" : Str)) = false := by decide) (he : starEach (e :: es) X.env = (false, eval e X.env) :: starEach es X.env := by rfl) (hpl : (backTo pos (starEach es X.env)).any (·.1) = false := by rfl) :
    EvS X Wx (.Call (.Name x p) (e :: es) [] pos) (callF g ms fs) := by
  obtain ⟨f, fd, G, hm, hk, hb⟩ := C.ex
  exact e_call G tk (hr.mono hjk) hg hm hk hb ha nd hn hdb he hpl
theorem s_raiseC {m : Str} {i : Nat} (C : Exn X.K X.mg x) (tk : Takes X Wx) (hc : X.calm = true := by rfl) (hg : Gl X x := by rfl) (hdb : (x == ("__debug__" : Str)) = false := by decide) :
    StS X Wx (.Raise (some (.Call (.Name x p) [.Constant (.str m) i p2] [] pos)) none pos') [] (sRaise x) := by
  obtain ⟨A, gC, q, kC, bC, tC⟩ := C.ex
  exact s_raise hc tk PySem.F.excBase_ValueError q gC kC (raises_own bC tC) hg hdb
end

theorem hu65 {A : Around} {k : Nat} (hr : Room k A) : A.units + 65 < cLine := by have := hr.un; omega
/-! ### the law -/
def lawOk (g : List W → RF) : Prop := ∀ ns : List Int, ns.length ≤ 63 → ∃ ws, g [.v (.scr ns)] = .ok (.v (.bl true)) ws
def spLaw (K : PySem.W.Frag) : Sp := fun vs H Q _ => ∃ (a : Addr) (ns : List Int), vs = [.ref a] ∧ SqL K H a (ns.map V.int) ∧ ns.length ≤ 63 ∧ (∀ b, H b = none ∨ ∃ o xs, H b = some (.frz o (.lst xs))) ∧ ∀ H', Q (.bl true) H'
theorem law_of {P : Program} {w : World} {K : PySem.W.Frag} {mg : Str → Option Value} {base : Heap} {k : Nat} {f : Addr} {fd : FuncData} {x : Str} {g : List W → RF} (G : FnS P w K mg base k f fd [x] g) (h : lawOk g) : FnOk P w K mg base CX0 k f fd [x] (spLaw K) := by
  refine ⟨fun vs H Q E q => by obtain ⟨a, ns, rfl, _⟩ := q; rfl, fun A outer s H args us vs Q E hr he hb hv hs => ?_⟩
  obtain ⟨a, ns, rfl, hS, hl, hO, q⟩ := hs
  obtain ⟨ws, hg⟩ := h ns hl
  have sp : spOf K mg [x].length g [.ref a] H Q E0 := by
    refine ⟨rfl, H, [.v (.scr ns)], fun _ _ => False, ⟨Same.refl _, rfl, fun i w e => ?_, fun _ _ z => z.elim, fun _ _ _ z => z.elim⟩, ?_⟩
    · cases i with
      | zero => simp at e; subst e; exact ⟨.ref a, rfl, fun _ z => z, .scr hS⟩
      | succ i => simp at e
    · rw [hg]
      intro v F' H' own' p O
      obtain ⟨_, r⟩ := O.r
      cases r
      exact q H'
  refine codeAny_mono (G.run A outer s H args us [.ref a] Q E0 hr he hb hv sp) fun r s' hq => ?_
  cases r with
  | ok fl => cases fl <;> exact hq
  | error e =>
    obtain ⟨_, _, _, _, _, _, _, _, _, _, _, _, z⟩ := (show L2.CX P w outer H s E0 e s' from hq)
    exact z.elim
end DL

namespace DL
open PySem PySem.Spec PyProof.Rows L2
/-! ### telling what a body makes, by simp -/
@[simp ↓] theorem eVar_ap (i : Nat) (env : DEnv) : eVar i env = (match env[i]? with
  | some (some (.v d)) => .ok (.w (.v d)) env
  | some (some (.l _ _)) => .ok (.b i) env
  | some (some (.m _ _)) => .ok (.b i) env
  | some (some (.x _)) => .ok (.b i) env
  | _ => .stuck : R U) := Eq.trans rfl rfl
@[simp ↓] theorem eD_ap (d : D) (env : DEnv) : eD d env = (.ok (.w (.v d)) env : R U) := Eq.trans rfl rfl
@[simp ↓] theorem opN_ap (g : List D → Option W) (fs : List (M U)) (env : DEnv) : opN g fs env = ((evs fs env).bind fun us e1 => match datL e1 us with
  | some ds => match g ds with
    | some w => .ok (.w w) e1
    | none => .stuck
  | none => .stuck : R U) := Eq.trans rfl rfl
@[simp ↓] theorem intOnly_ap (f : M U) (env : DEnv) : intOnly f env = ((f env).bind fun u e => match u with
  | .w (.v (.int _)) => .ok u e
  | _ => .stuck : R U) := Eq.trans rfl rfl
@[simp ↓] theorem dTup_ap (fs : List (M U)) (env : DEnv) : dTup fs env = ((evs fs env).bind fun us e1 => match frzs e1 us with
  | some (ds, e2) => if ds.length ≤ 1000000 then .ok (.w (.v (.tup ds))) e2 else .stuck
  | none => .stuck : R U) := Eq.trans rfl rfl
@[simp ↓] theorem dLst_ap (fs : List (M U)) (env : DEnv) : dLst fs env = ((evs fs env).bind fun us e1 => match frzs e1 us with
  | some (ds, e2) => if ds.length ≤ 1000000 then .ok (.w (.l false ds)) e2 else .stuck
  | none => .stuck : R U) := Eq.trans rfl rfl
@[simp ↓] theorem tst_ap (f : M U) (env : DEnv) : tst f env = ((f env).bind fun u e1 => match dat e1 u with
  | some (.bl b) => .ok b e1
  | _ => .stuck : R Bool) := Eq.trans rfl rfl
@[simp ↓] theorem tAndD_ap (t u : M Bool) (env : DEnv) : tAndD t u env = ((t env).bind fun b e1 => if b then u e1 else .ok false e1 : R Bool) := Eq.trans rfl rfl
@[simp ↓] theorem tOrD_ap (t u : M Bool) (env : DEnv) : tOrD t u env = ((t env).bind fun b e1 => if b then .ok true e1 else u e1 : R Bool) := Eq.trans rfl rfl
@[simp ↓] theorem tNotD_ap (t : M Bool) (env : DEnv) : tNotD t env = ((t env).bind fun b e1 => .ok (!b) e1 : R Bool) := Eq.trans rfl rfl
@[simp ↓] theorem vAnd_ap (fa fb : M U) (env : DEnv) : vAnd fa fb env = ((fa env).bind fun u e1 => match dat e1 u with
  | some (.bl b) => if b then fb e1 else .ok (.w (.v (.bl false))) e1
  | _ => .stuck : R U) := Eq.trans rfl rfl
@[simp ↓] theorem vOr_ap (fa fb : M U) (env : DEnv) : vOr fa fb env = ((fa env).bind fun u e1 => match dat e1 u with
  | some (.bl b) => if b then .ok (.w (.v (.bl true))) e1 else fb e1
  | _ => .stuck : R U) := Eq.trans rfl rfl
@[simp ↓] theorem eIf_ap (t : M Bool) (fa fb : M U) (env : DEnv) : eIf t fa fb env = ((t env).bind fun b e1 => if b then fa e1 else fb e1 : R U) := Eq.trans rfl rfl
@[simp ↓] theorem vChain_ap (g g' : List D → Option W) (fa fb fc : M U) (env : DEnv) : vChain g g' fa fb fc env = ((fa env).bind fun u1 e1 => (fb e1).bind fun u2 e2 => match dat e2 u1, dat e2 u2 with
  | some d1, some d2 => match g [d1, d2] with
    | some (.v (.bl k)) => if k then (fc e2).bind fun u3 e3 => (match dat e3 u2, dat e3 u3 with
        | some d2, some d3 => (match g' [d2, d3] with
          | some w => .ok (.w w) e3
          | none => .stuck)
        | _, _ => .stuck) else .ok (.w (.v (.bl false))) e2
    | _ => .stuck
  | _, _ => .stuck : R U) := Eq.trans rfl rfl
@[simp ↓] theorem callF_ap (g : List W → RF) (ms : List (Option Nat)) (fs : List (M U)) (env : DEnv) : callF g ms fs env = ((evs fs env).bind fun us e1 => match frzM ms e1 us with
  | some (l, e2) => match takeW e2 ms l with
    | some ws => match g ws with
      | .ok w ws' => (match putW ms ws' e2 with
        | some e3 => .ok (.w w) e3
        | none => .stuck)
      | .raise c ws' => (match putW ms ws' e2 with
        | some e3 => .raise c e3
        | none => .stuck)
      | .stuck => .stuck
    | none => .stuck
  | none => .stuck : R U) := Eq.trans rfl rfl
@[simp ↓] theorem iterSeq_ap (f : M U) (env : DEnv) : iterSeq f env = ((f env).bind fun u e1 => match frz1 e1 u with
  | some (d, e2) => (match seqOf d with
    | some ds => .ok ds e2
    | none => .stuck)
  | none => .stuck : R (List D)) := Eq.trans rfl rfl
@[simp ↓] theorem iterEnum_ap (f : M U) (env : DEnv) : iterEnum f env = ((iterSeq f env).bind fun ds e => .ok (pairs0 ds) e : R (List D)) := Eq.trans rfl rfl
@[simp ↓] theorem iterR1_ap (f : M U) (env : DEnv) : iterR1 f env = ((evs [f] env).bind fun us e1 => match datL e1 us with
  | some [.int n] => if -(2 ^ 62) ≤ n ∧ n < 2 ^ 62 then .ok (rangeD 0 n) e1 else .stuck
  | _ => .stuck : R (List D)) := Eq.trans rfl rfl
@[simp ↓] theorem iterR2_ap (f g : M U) (env : DEnv) : iterR2 f g env = ((evs [f, g] env).bind fun us e1 => match datL e1 us with
  | some [.int m, .int n] => if (-(2 ^ 62) ≤ m ∧ m < 2 ^ 62) ∧ (-(2 ^ 62) ≤ n ∧ n < 2 ^ 62) then .ok (rangeD m n) e1 else .stuck
  | _ => .stuck : R (List D)) := Eq.trans rfl rfl
@[simp ↓] theorem iterR3_ap (f g h : M U) (env : DEnv) : iterR3 f g h env = ((evs [f, g, h] env).bind fun us e1 => match datL e1 us with
  | some [.int a, .int b, .int c] => if 0 < c ∧ c < 1000000 ∧ (0 ≤ a ∧ a ≤ 1000000) ∧ (0 ≤ b ∧ b ≤ 1000000) then .ok (rangeC a c (if b ≤ a then 0 else ((b - a - 1) / c + 1).toNat)) e1 else .stuck
  | _ => .stuck : R (List D)) := Eq.trans rfl rfl
@[simp ↓] theorem sNext_ap (env : DEnv) : sNext env = (.ok .next env : R Fl) := Eq.trans rfl rfl
@[simp ↓] theorem sBrk_ap (env : DEnv) : sBrk env = (.ok .brk env : R Fl) := Eq.trans rfl rfl
@[simp ↓] theorem sCont_ap (env : DEnv) : sCont env = (.ok .cont env : R Fl) := Eq.trans rfl rfl
@[simp ↓] theorem sSeq_ap (a b : M Fl) (env : DEnv) : sSeq a b env = ((a env).bind fun fl e => match fl with
  | .next => b e
  | fl => .ok fl e : R Fl) := Eq.trans rfl rfl
@[simp ↓] theorem sSet_ap (i : Nat) (f : M U) (env : DEnv) : sSet i f env = ((f env).bind fun u e1 => match ownU e1 u with
  | some (w, e2) => (match setS i w e2 with
    | some e3 => .ok .next e3
    | none => .stuck)
  | none => .stuck : R Fl) := Eq.trans rfl rfl
@[simp ↓] theorem sTgt_ap (m : MT) (f : M U) (env : DEnv) : sTgt m f env = ((f env).bind fun u e1 => match frz1 e1 u with
  | some (d, e2) => (match m d e2 with
    | some e3 => .ok .next e3
    | none => .stuck)
  | none => .stuck : R Fl) := Eq.trans rfl rfl
@[simp ↓] theorem sExpr_ap (f : M U) (env : DEnv) : sExpr f env = ((f env).bind fun _ e => .ok .next e : R Fl) := Eq.trans rfl rfl
@[simp ↓] theorem sRet_ap (f : M U) (env : DEnv) : sRet f env = ((f env).bind fun u e => .ok (.ret u) e : R Fl) := Eq.trans rfl rfl
@[simp ↓] theorem sIf_ap (t : M Bool) (a b : M Fl) (env : DEnv) : sIf t a b env = ((t env).bind fun c e => if c then a e else b e : R Fl) := Eq.trans rfl rfl
@[simp ↓] theorem sRaise_ap (c : Str) (env : DEnv) : sRaise c env = (.raise c env : R Fl) := Eq.trans rfl rfl
@[simp ↓] theorem sFor_ap (it : M (List D)) (m : MT) (b : M Fl) (env : DEnv) : sFor it m b env = ((it env).bind fun ds e => forD m b ds e : R Fl) := Eq.trans rfl rfl
@[simp ↓] theorem tYesD_ap (env : DEnv) : tYesD env = (.ok true env : R Bool) := Eq.trans rfl rfl
@[simp ↓] theorem eApp_ap (i : Nat) (fe : M U) (env : DEnv) : eApp i fe env = (match env[i]? with
  | some (some (.l _ _)) => (fe env).bind fun u e1 => (match frz1 e1 u with
    | some (d, e2) => (match e2[i]? with
      | some (some (.l b ds)) => if ds.length < 1000000 then .ok (.w (.v .non)) (e2.set i (some (.l b (ds ++ [d])))) else .stuck
      | _ => .stuck)
    | none => .stuck)
  | _ => .stuck : R U) := Eq.trans rfl rfl
@[simp ↓] theorem sStore_ap (i : Nat) (fk fe : M U) (env : DEnv) : sStore i fk fe env = (match env[i]? with
  | some (some (.l _ _)) => (fe env).bind fun u e1 => (fk e1).bind fun uk e2 => (match frz1 e2 u with
    | some (d, e3) => (match dat e3 uk, e3[i]? with
      | some (.int n), some (some (.l b ds)) => (match ixN ds.length n with
        | some j => .ok .next (e3.set i (some (.l b (ds.set j d))))
        | none => .stuck)
      | _, _ => .stuck)
    | none => .stuck)
  | _ => .stuck : R Fl) := Eq.trans rfl rfl
@[simp ↓] theorem mkFn_ap (is : List Nat) (np nl : Nat) (f : M Fl) (ws : List W) : mkFn is np nl f ws = (if keeps is ws = true ∧ ws.length = np then (match f (ws.map (fun w => some (bor w)) ++ List.replicate (nl - np) none) with
  | .ok (.ret u) env => (match retW env u, backs env 0 ws with
    | some w, some ws' => .ok w ws'
    | _, _ => .stuck)
  | .ok .next env => (match backs env 0 ws with
    | some ws' => .ok (.v .non) ws'
    | none => .stuck)
  | .raise c env => (match backs env 0 ws with
    | some ws' => .raise c ws'
    | none => .stuck)
  | _ => .stuck) else .stuck : RF) := Eq.trans rfl rfl
@[simp ↓] theorem sPar_ap (i j : Nat) (fs : List (M U)) (env : DEnv) : sPar i j fs env = ((evs fs env).bind fun us e1 => match frzs e1 us with
  | some ([d1, d2], e2) => (match setS i (.v d1) e2 with
    | some e3 => (match setS j (.v d2) e3 with
      | some e4 => .ok .next e4
      | none => .stuck)
    | none => .stuck)
  | _ => .stuck : R Fl) := Eq.trans rfl rfl
@[simp ↓] theorem opM_ap (g : List D → Option W) (fo fe : M U) (env : DEnv) : opM g fo fe env = ((fo env).bind fun u0 e0 => match dat e0 u0 with
  | some (.lst _) => (fe e0).bind fun u e1 => (match dat e1 u0, dat e1 u with
    | some d0, some d => (match g [d0, d] with
      | some w => .ok (.w w) e1
      | none => .stuck)
    | _, _ => .stuck)
  | _ => .stuck : R U) := Eq.trans rfl rfl
@[simp ↓] theorem eComp_ap (it : M (List D)) (vs : List Nat) (m : MT) (t : M Bool) (f : M U) (env : DEnv) : eComp it vs m t f env = ((it env).bind fun ds e1 => if dataAt e1 vs then (match compD vs m t f ds (wipeA e1 vs) with
  | .ok ys e2 => if ds.length ≤ 1000000 then .ok (.w (.l false ys)) (unwipe e1 vs e2) else .stuck
  | _ => .stuck) else .stuck : R U) := Eq.trans rfl rfl
@[simp ↓] theorem eComp2_ap (it : M (List D)) (vs vs1 : List Nat) (m : MT) (it1 : M (List D)) (m1 : MT) (f : M U) (env : DEnv) : eComp2 it vs vs1 m it1 m1 f env = ((it env).bind fun ds e1 => if dataAt e1 vs then (match compD2 vs vs1 m it1 m1 f ds (wipeA e1 vs) with
  | .ok ys e2 => if ys.length ≤ 1000000 then .ok (.w (.l false ys)) (unwipe e1 vs e2) else .stuck
  | _ => .stuck) else .stuck : R U) := Eq.trans rfl rfl
@[simp ↓] theorem mName_ap (i : Nat) (d : D) (env : DEnv) : mName i d env = (setS i (.v d) env : Option DEnv) := Eq.trans rfl rfl
@[simp ↓] theorem mNil_ap (ds : List D) (env : DEnv) : mNil ds env = (match ds with
  | [] => some env
  | _ => none : Option DEnv) := Eq.trans rfl rfl
@[simp ↓] theorem mCons_ap (m : MT) (ms : MTs) (ds : List D) (env : DEnv) : mCons m ms ds env = (match ds with
  | d :: r => (m d env).bind fun e => ms r e
  | [] => none : Option DEnv) := Eq.trans rfl rfl
@[simp ↓] theorem mTup_ap (ms : MTs) (n : Nat) (d : D) (env : DEnv) : mTup ms n d env = (match d with
  | .tup ds => if ds.length = n then ms ds env else none
  | _ => none : Option DEnv) := Eq.trans rfl rfl
@[simp ↓] theorem evs_nil (env : DEnv) : evs [] env = .ok [] env := Eq.trans rfl rfl
@[simp ↓] theorem evs_cons (f : M U) (fs : List (M U)) (env : DEnv) : evs (f :: fs) env = (f env).bind fun u e1 => (evs fs e1).bind fun us e2 => .ok (u :: us) e2 := Eq.trans rfl rfl
@[simp] theorem datL_c0 (env : DEnv) : datL env ([]) = (some []) := Eq.trans rfl rfl
@[simp] theorem datL_c1 (env : DEnv) (u) (us) : datL env (u :: us) = (match dat env u, datL env us with
    | some d, some ds => some (d :: ds)
    | _, _ => none) := Eq.trans rfl rfl
@[simp] theorem opq_v (d : D) : W.opq (.v d) = false := Eq.trans rfl rfl
@[simp] theorem opq_l (b : Bool) (ds : List D) : W.opq (.l b ds) = false := Eq.trans rfl rfl
@[simp] theorem opq_m (ks : List (List Int)) (ds : List D) : W.opq (.m ks ds) = false := Eq.trans rfl rfl
@[simp] theorem opq_d (k : Bool) (ks ds : List D) : W.opq (.x (.d k ks ds)) = false := Eq.trans rfl rfl
@[simp] theorem opq_o (b : Bool) (c : Str) (ns : List Str) (fs : List W0) : W.opq (.x (.o b c ns fs)) = true := Eq.trans rfl rfl
@[simp] theorem opq_t (fs : List W0) : W.opq (.x (.t fs)) = true := Eq.trans rfl rfl
@[simp] theorem dat_c0 (env : DEnv) (w) : dat env (.w w) = (if w.opq then none else some (datW w)) := Eq.trans rfl rfl
@[simp] theorem dat_c1 (env : DEnv) (i) : dat env (.b i) = (match env[i]? with
    | some (some w) => if w.opq then none else some (datW w)
    | _ => none) := Eq.trans rfl rfl
@[simp] theorem datW_c3 (k : Bool) (ks ds : List D) : datW (.x (.d k ks ds)) = .dix k ks ds := Eq.trans rfl rfl
@[simp] theorem datW_c0  (d) : datW  (.v d) = (d) := by first | exact Eq.trans rfl rfl | (cases d <;> rfl)
@[simp] theorem datW_c1  (u1) (ds) : datW  (.l u1 ds) = (.lst ds) := Eq.trans rfl rfl
@[simp] theorem datW_c2  (ks) (ds) : datW  (.m ks ds) = (.dic ks ds) := Eq.trans rfl rfl
@[simp] theorem frz1_c0 (env : DEnv) (w) : frz1 env (.w w) = (if w.opq then none else some (datW w, env)) := Eq.trans rfl rfl
@[simp] theorem frz1_c1 (env : DEnv) (i) : frz1 env (.b i) = (match env[i]? with
    | some (some (.v d)) => some (d, env)
    | some (some (.l false ds)) => some (.lst ds, env.set i (some (.v (.lst ds))))
    | some (some (.m ks ds)) => some (.dic ks ds, env.set i (some (.v (.dic ks ds))))
    | some (some (.x (.d k ks ds))) => some (.dix k ks ds, env.set i (some (.v (.dix k ks ds))))
    | _ => none) := Eq.trans rfl rfl
@[simp] theorem frzs_c0 (env : DEnv) : frzs env ([]) = (some ([], env)) := Eq.trans rfl rfl
@[simp] theorem frzs_c1 (env : DEnv) (u) (us) : frzs env (u :: us) = (match frz1 env u with
    | some (d, e1) => match frzs e1 us with
      | some (ds, e2) => some (d :: ds, e2)
      | none => none
    | none => none) := Eq.trans rfl rfl
@[simp] theorem frzM_c0  (env) : frzM  ([]) env ([]) = (some ([], env)) := Eq.trans rfl rfl
@[simp] theorem frzM_c1  (ms) (env) (u) (us) : frzM  (none :: ms) env (u :: us) = (match frz1 env u with
    | some (d, e1) => match frzM ms e1 us with
      | some (l, e2) => some (some d :: l, e2)
      | none => none
    | none => none) := Eq.trans rfl rfl
@[simp] theorem frzM_c2  (i) (ms) (env) (j) (us) : frzM  (some i :: ms) env (.b j :: us) = (if i = j then (match frzM ms env us with
      | some (l, e2) => some (none :: l, e2)
      | none => none) else none) := Eq.trans rfl rfl
@[simp] theorem takeW_c0 (env : DEnv) : takeW env ([]) ([]) = (some []) := Eq.trans rfl rfl
@[simp] theorem takeW_c1 (env : DEnv) (ms) (d) (l) : takeW env (none :: ms) (some d :: l) = (match takeW env ms l with
    | some ws => some (.v d :: ws)
    | none => none) := by first | exact Eq.trans rfl rfl | (cases d <;> rfl)
@[simp] theorem takeW_c2 (env : DEnv) (i) (ms) (l) : takeW env (some i :: ms) (none :: l) = (match env[i]? with
    | some (some (.l _ ds)) => (match takeW env ms l with
      | some ws => some (.l true ds :: ws)
      | none => none)
    | some (some (.x (.o _ c ns fs))) => (match takeW env ms l with
      | some ws => some (.x (.o true c ns fs) :: ws)
      | none => none)
    | _ => none) := Eq.trans rfl rfl
@[simp] theorem putW_c3 (i) (ms) (b) (c) (ns) (fs) (ws) (env) : putW (some i :: ms) (.x (.o b c ns fs) :: ws) env = (match env[i]? with
    | some (some (.x (.o b _ _ _))) => putW ms ws (env.set i (some (.x (.o b c ns fs))))
    | _ => none) := Eq.trans rfl rfl
@[simp] theorem putW_c0  (env) : putW  ([]) ([]) env = (some env) := Eq.trans rfl rfl
@[simp] theorem putW_c1  (ms) (u1) (ws) (env) : putW  (none :: ms) (u1 :: ws) env = (putW ms ws env) := Eq.trans rfl rfl
@[simp] theorem putW_c2  (i) (ms) (u1) (ds) (ws) (env) : putW  (some i :: ms) (.l u1 ds :: ws) env = (match env[i]? with
    | some (some (.l b _)) => putW ms ws (env.set i (some (.l b ds)))
    | _ => none) := Eq.trans rfl rfl
@[simp] theorem ownU_c0 (env : DEnv) (d) : ownU env (.w (.v d)) = (some (.v d, env)) := by first | exact Eq.trans rfl rfl | (cases d <;> rfl)
@[simp] theorem ownU_c1 (env : DEnv) (u1) (ds) : ownU env (.w (.l u1 ds)) = (some (.l false ds, env)) := Eq.trans rfl rfl
@[simp] theorem ownU_c3 (env : DEnv) (ks) (ds) : ownU env (.w (.m ks ds)) = (some (.m ks ds, env)) := Eq.trans rfl rfl
@[simp] theorem ownU_c4 (env : DEnv) (k) (ks) (ds) : ownU env (.w (.x (.d k ks ds))) = (some (.x (.d k ks ds), env)) := Eq.trans rfl rfl
@[simp] theorem ownU_c5 (env : DEnv) (b) (c) (ns) (fs) : ownU env (.w (.x (.o b c ns fs))) = (some (.x (.o false c ns fs), env)) := Eq.trans rfl rfl
@[simp] theorem ownU_c2 (env : DEnv) (i) : ownU env (.b i) = (match frz1 env (.b i) with
    | some (d, e) => some (.v d, e)
    | none => none) := Eq.trans rfl rfl
@[simp] theorem seqOf_c0  (ds) : seqOf  (.lst ds) = (some ds) := Eq.trans rfl rfl
@[simp] theorem seqOf_c1  (ds) : seqOf  (.tup ds) = (some ds) := Eq.trans rfl rfl
@[simp] theorem bor_c0  (d) : bor  (.v d) = (.v d) := by first | exact Eq.trans rfl rfl | (cases d <;> rfl)
@[simp] theorem bor_c1  (u1) (ds) : bor  (.l u1 ds) = (.l true ds) := Eq.trans rfl rfl
@[simp] theorem bor_c2 (b) (c) (ns) (fs) : bor (.x (.o b c ns fs)) = (.x (.o true c ns fs)) := Eq.trans rfl rfl
@[simp] theorem retW_c4 (env : DEnv) (b) (c) (ns) (fs) : retW env (.w (.x (.o b c ns fs))) = (some (.x (.o false c ns fs))) := Eq.trans rfl rfl
@[simp] theorem retW_c5 (env : DEnv) (k) (ks) (ds) : retW env (.w (.x (.d k ks ds))) = (some (.x (.d k ks ds))) := Eq.trans rfl rfl
@[simp] theorem retW_c6 (env : DEnv) (fs) : retW env (.w (.x (.t fs))) = (some (.x (.t fs))) := Eq.trans rfl rfl
@[simp] theorem retW_c0 (env : DEnv) (d) : retW env (.w (.v d)) = (some (.v d)) := by first | exact Eq.trans rfl rfl | (cases d <;> rfl)
@[simp] theorem retW_c1 (env : DEnv) (u1) (ds) : retW env (.w (.l u1 ds)) = (some (.l false ds)) := Eq.trans rfl rfl
@[simp] theorem retW_c3 (env : DEnv) (ks) (ds) : retW env (.w (.m ks ds)) = (some (.m ks ds)) := Eq.trans rfl rfl
@[simp] theorem retW_c2 (env : DEnv) (i) : retW env (.b i) = (match env[i]? with
    | some (some (.v d)) => some (.v d)
    | some (some (.l false ds)) => some (.l false ds)
    | some (some (.x (.o false c ns fs))) => some (.x (.o false c ns fs))
    | _ => none) := Eq.trans rfl rfl
@[simp] theorem backs_c3 (env : DEnv) (j) (b) (c0) (n0) (f0) (ws) : backs env j (.x (.o b c0 n0 f0) :: ws) = (match env[j]? with
    | some (some (.x (.o true c ns fs))) => (match backs env (j + 1) ws with
      | some r => some (.x (.o b c ns fs) :: r)
      | none => none)
    | _ => none) := Eq.trans rfl rfl
@[simp] theorem backs_c0 (env : DEnv) (u1) : backs env u1 ([]) = (some []) := Eq.trans rfl rfl
@[simp] theorem backs_c1 (env : DEnv) (j) (d) (ws) : backs env j (.v d :: ws) = (match backs env (j + 1) ws with
    | some r => some (.v d :: r)
    | none => none) := by first | exact Eq.trans rfl rfl | (cases d <;> rfl)
@[simp] theorem backs_c2 (env : DEnv) (j) (b) (u1) (ws) : backs env j (.l b u1 :: ws) = (match env[j]? with
    | some (some (.l true ds)) => (match backs env (j + 1) ws with
      | some r => some (.l b ds :: r)
      | none => none)
    | _ => none) := Eq.trans rfl rfl
@[simp] theorem keeps_df (is : List Nat) (ws : List W) : keeps is ws = (is.all fun j => match ws[j]? with
  | some (.l _ _) => false
  | some (.x _) => false
  | _ => true : Bool) := rfl
@[simp] theorem wipeA_c0 {α : Type} (l : List (Option α)) : wipeA l ([]) = (l) := Eq.trans rfl rfl
@[simp] theorem wipeA_c1 {α : Type} (l : List (Option α)) (v) (vs) : wipeA l (v :: vs) = ((wipeA l vs).set v none) := Eq.trans rfl rfl
@[simp] theorem unwipe_c0 (e1 : DEnv) (e2) : unwipe e1 ([]) e2 = (e2) := Eq.trans rfl rfl
@[simp] theorem unwipe_c1 (e1 : DEnv) (v) (vs) (e2) : unwipe e1 (v :: vs) e2 = ((unwipe e1 vs e2).set v ((e1[v]?).getD none)) := Eq.trans rfl rfl
def okL : Option (Option W) → Bool
  | some (some (.l _ _)) => false
  | some (some (.m _ _)) => false
  | some (some (.x _)) => false
  | _ => true
@[simp] theorem okL_v (d : D) : okL (some (some (.v d))) = true := Eq.trans rfl rfl
@[simp] theorem okL_l (b : Bool) (ds : List D) : okL (some (some (.l b ds))) = false := Eq.trans rfl rfl
@[simp] theorem okL_d (ks : List (List Int)) (ds : List D) : okL (some (some (.m ks ds))) = false := Eq.trans rfl rfl
@[simp] theorem okL_x (y : Xt) : okL (some (some (.x y))) = false := Eq.trans rfl rfl
@[simp] theorem okL_n : okL (some none) = true := Eq.trans rfl rfl
@[simp] theorem okL_m (x : Option D) : okL (some (x.map W.v)) = true := by cases x <;> rfl
@[simp] theorem dataAt_df (env : DEnv) (vs : List Nat) : dataAt env vs = vs.all fun v => okL env[v]? := by
  unfold dataAt okL
  rfl
@[simp] theorem gAdd_c0  (i) (j) : gAdd  ([.int i, .int j]) = (some (.v (.int (i + j)))) := Eq.trans rfl rfl
@[simp] theorem gAdd_c1  (x) (y) : gAdd  ([.str x, .str y]) = (if x.length + y.length ≤ 1000000 then some (.v (.str (x ++ y))) else none) := Eq.trans rfl rfl
@[simp] theorem gAdd_c2  (xs) (ys) : gAdd  ([.tup xs, .tup ys]) = (if xs.length + ys.length ≤ 1000000 then some (.v (.tup (xs ++ ys))) else none) := Eq.trans rfl rfl
@[simp] theorem gAdd_c3  (xs) (ys) : gAdd  ([.lst xs, .lst ys]) = (if xs.length + ys.length ≤ 1000000 then some (.l false (xs ++ ys)) else none) := Eq.trans rfl rfl
@[simp] theorem gSub_c0  (i) (j) : gSub  ([.int i, .int j]) = (some (.v (.int (i - j)))) := Eq.trans rfl rfl
@[simp] theorem gDiv_c0  (i) (j) : gDiv  ([.int i, .int j]) = (if 0 < j ∧ j < 1073741824 then some (.v (.int (i / j))) else none) := Eq.trans rfl rfl
@[simp] theorem gMod_c0  (i) (j) : gMod  ([.int i, .int j]) = (if 0 < j then some (.v (.int (i % j))) else none) := Eq.trans rfl rfl
@[simp] theorem gNeg_c0  (i) : gNeg  ([.int i]) = (some (.v (.int (-i)))) := Eq.trans rfl rfl
@[simp] theorem gCmp_c0 (f : Int → Int → Bool) (i) (j) : gCmp f ([.int i, .int j]) = (some (.v (.bl (f i j)))) := Eq.trans rfl rfl
@[simp] theorem gNot_c0  (b) : gNot  ([.bl b]) = (some (.v (.bl (!b)))) := Eq.trans rfl rfl
@[simp] theorem gLen_c0  (ds) : gLen  ([.lst ds]) = (some (.v (.int ds.length))) := Eq.trans rfl rfl
@[simp] theorem gLen_c1  (ds) : gLen  ([.tup ds]) = (some (.v (.int ds.length))) := Eq.trans rfl rfl
@[simp] theorem gLen_c2  (ns) : gLen  ([.scr ns]) = (some (.v (.int ns.length))) := Eq.trans rfl rfl
@[simp] theorem gLen_c3  (x) : gLen  ([.str x]) = (if x.length ≤ 1000000 then some (.v (.int x.length)) else none) := Eq.trans rfl rfl
@[simp] theorem gList_c0  (ds) : gList  ([.lst ds]) = (some (.l false ds)) := Eq.trans rfl rfl
@[simp] theorem gList_c1  (ds) : gList  ([.tup ds]) = (some (.l false ds)) := Eq.trans rfl rfl
@[simp] theorem gList_c2  (ns) : gList  ([.scr ns]) = (some (.l false (ns.map D.int))) := Eq.trans rfl rfl
@[simp] theorem gTuple_c0  (ds) : gTuple  ([.lst ds]) = (some (.v (.tup ds))) := Eq.trans rfl rfl
@[simp] theorem gTuple_c1  (ds) : gTuple  ([.tup ds]) = (some (.v (.tup ds))) := Eq.trans rfl rfl
@[simp] theorem gIsi_c0  (d) (u) : gIsi  ([d, .ty u]) = ((isTy d u).map fun b => .v (.bl b)) := by first | exact Eq.trans rfl rfl | (cases d <;> rfl)
@[simp] theorem gIx_c0  (ds) (i) : gIx  ([.lst ds, .int i]) = ((atI ds i).map .v) := Eq.trans rfl rfl
@[simp] theorem gIx_c1  (ds) (i) : gIx  ([.tup ds, .int i]) = ((atI ds i).map .v) := Eq.trans rfl rfl
@[simp] theorem gIx_c2  (ns) (i) : gIx  ([.scr ns, .int i]) = ((atI ns i).map fun n => .v (.int n)) := Eq.trans rfl rfl
@[simp] theorem gIx_c3  (x) (i) : gIx  ([.str x, .int i]) = (if x.length ≤ 1000000 then (atI x.cps.toList i).map fun c => .v (.str ⟨#[c]⟩) else none) := Eq.trans rfl rfl
@[simp] theorem gSlB_c0  (d) (i) (j) : gSlB  ([d, .int i, .int j]) = (gSl (some i) (some j) d) := by first | exact Eq.trans rfl rfl | (cases d <;> rfl)
@[simp] theorem gSlL_c0  (d) (i) : gSlL  ([d, .int i]) = (gSl (some i) none d) := by first | exact Eq.trans rfl rfl | (cases d <;> rfl)
@[simp] theorem gSlH_c0  (d) (i) : gSlH  ([d, .int i]) = (gSl none (some i) d) := by first | exact Eq.trans rfl rfl | (cases d <;> rfl)
@[simp] theorem gSl_c0 (lo hi : Option Int) (ds) : gSl lo hi (.lst ds) = (some (.l false (cutA ds lo hi))) := Eq.trans rfl rfl
@[simp] theorem gSl_c1 (lo hi : Option Int) (ds) : gSl lo hi (.tup ds) = (some (.v (.tup (cutA ds lo hi)))) := Eq.trans rfl rfl
@[simp] theorem gIs_c0  (a) (b) : gIs  ([.bl a, .bl b]) = (some (.v (.bl (decide (a = b))))) := Eq.trans rfl rfl
@[simp] theorem gIs_c1  (d) : gIs  ([d, .non]) = (some (.v (.bl (isNonD d)))) := by first | exact Eq.trans rfl rfl | (cases d <;> rfl)
@[simp] theorem gIsNot_c0  (a) (b) : gIsNot  ([.bl a, .bl b]) = (some (.v (.bl (!decide (a = b))))) := Eq.trans rfl rfl
@[simp] theorem gIsNot_c1  (d) : gIsNot  ([d, .non]) = (some (.v (.bl (!isNonD d)))) := by first | exact Eq.trans rfl rfl | (cases d <;> rfl)
@[simp] theorem isNonD_c0  : isNonD  (.non) = (true) := Eq.trans rfl rfl
@[simp] theorem gRg_c0 (mk : List D → W) (n) : gRg mk ([.int n]) = (if -(2 ^ 62) ≤ n ∧ n ≤ 1000000 then some (mk (rangeD 0 n)) else none) := Eq.trans rfl rfl
@[simp] theorem gRg_c1 (mk : List D → W) (m) (n) : gRg mk ([.int m, .int n]) = (if (-(2 ^ 62) ≤ m ∧ m < 2 ^ 62) ∧ (-(2 ^ 62) ≤ n ∧ n < 2 ^ 62) ∧ n - m ≤ 1000000 then some (mk (rangeD m n)) else none) := Eq.trans rfl rfl
@[simp] theorem isNonD_int (i : Int) : isNonD (.int i) = false := Eq.trans rfl rfl
@[simp] theorem isNonD_bl (i : Bool) : isNonD (.bl i) = false := Eq.trans rfl rfl
@[simp] theorem isNonD_str (i : Str) : isNonD (.str i) = false := Eq.trans rfl rfl
@[simp] theorem isNonD_tup (i : List D) : isNonD (.tup i) = false := Eq.trans rfl rfl
@[simp] theorem isNonD_lst (i : List D) : isNonD (.lst i) = false := Eq.trans rfl rfl
def okS : Option W → Bool
  | some (.l true _) => false
  | some (.x (.o true _ _ _)) => false
  | _ => true
def okI : Option (Option W) → Bool
  | none => false
  | some x => okS x
@[simp] theorem okI_some (x : Option W) : okI (some x) = okS x := Eq.trans rfl rfl
@[simp] theorem okI_none : okI none = false := Eq.trans rfl rfl
@[simp] theorem okS_none : okS none = true := Eq.trans rfl rfl
@[simp] theorem okS_v (d : D) : okS (some (.v d)) = true := Eq.trans rfl rfl
@[simp] theorem okS_f (ds : List D) : okS (some (.l false ds)) = true := Eq.trans rfl rfl
@[simp] theorem okS_m (ks : List (List Int)) (ds : List D) : okS (some (.m ks ds)) = true := Eq.trans rfl rfl
@[simp] theorem okS_x1 (c ns fs) : okS (some (.x (.o false c ns fs))) = true := Eq.trans rfl rfl
@[simp] theorem okS_x2 (c ns fs) : okS (some (.x (.o true c ns fs))) = false := Eq.trans rfl rfl
@[simp] theorem okS_x3 (k ks ds) : okS (some (.x (.d k ks ds))) = true := Eq.trans rfl rfl
@[simp] theorem okS_t (ds : List D) : okS (some (.l true ds)) = false := Eq.trans rfl rfl
@[simp] theorem okS_map (x : Option D) : okS (x.map W.v) = true := by cases x <;> rfl
@[simp] theorem setS_def (i : Nat) (w : W) (env : DEnv) : setS i w env = if okI env[i]? then some (env.set i (some w)) else none := by
  unfold setS okI okS
  cases env[i]? with
  | none => rfl
  | some x => match x with
    | none => rfl
    | some (.v d) => rfl
    | some (.l false ds) => rfl
    | some (.l true ds) => rfl
    | some (.m ks ds) => rfl
    | some (.x (.d k ks ds)) => rfl
    | some (.x (.t fs)) => rfl
    | some (.x (.o true c ns fs)) => rfl
    | some (.x (.o false c ns fs)) => rfl
@[simp] theorem isTy_int {i : Int} : isTy (.int i) "int" = some true := by simp [isTy]
@[simp] theorem isTy_intb {i : Int} : isTy (.int i) "bool" = some false := by simp [isTy]
@[simp] theorem isTy_tup {l : List D} : isTy (.tup l) "tuple" = some true := by simp [isTy]
section
variable {vs : List Nat} {m : MT} {t : M Bool} {f : M U} {E0 : DEnv} {α : Type}
theorem comp_map {enc ψ : α → D} : ∀ (xs : List α), (∀ x ∈ xs, ∀ rest, compD vs m t f (enc x :: rest) E0 = (compD vs m t f rest E0).bind fun ys e => .ok (ψ x :: ys) e) → compD vs m t f (xs.map enc) E0 = .ok (xs.map ψ) E0
  | [], _ => rfl
  | x :: xs, h => by
    rw [List.map_cons, h x (List.mem_cons_self ..), comp_map xs fun y hy => h y (List.mem_cons_of_mem _ hy)]
    rfl
theorem comp_filt {enc ψ : α → D} {p : α → Bool} : ∀ (xs : List α), (∀ x ∈ xs, ∀ rest, compD vs m t f (enc x :: rest) E0 = if p x then (compD vs m t f rest E0).bind fun ys e => .ok (ψ x :: ys) e else compD vs m t f rest E0) → compD vs m t f (xs.map enc) E0 = .ok ((xs.filter p).map ψ) E0
  | [], _ => rfl
  | x :: xs, h => by
    have ih := comp_filt xs fun y hy => h y (List.mem_cons_of_mem _ hy)
    rw [List.map_cons, h x (List.mem_cons_self ..), ih]
    by_cases hp : p x
    · rw [if_pos hp, List.filter_cons_of_pos hp]; rfl
    · rw [if_neg hp, List.filter_cons_of_neg hp]
end

@[simp] theorem intsOf_mapS (ns : List Int) : intsOf (ns.map D.int) = some ns := intsOf_map ns
@[simp] theorem blsOf_mapS (ns : List Bool) : blsOf (ns.map D.bl) = some ns := blsOf_map ns
/-! ### slices, items -/
theorem cutA_hi {α : Type} {xs : List α} {n : Int} (h : 0 ≤ n) : cutA xs none (some n) = xs.take n.toNat := by
  obtain ⟨k, rfl⟩ := Int.eq_ofNat_of_zero_le h
  unfold cutA
  rw [HT.sIx_none, HT.sIx_nat]
  simp [List.take_eq_take_iff]
theorem cutA_lo {α : Type} {xs : List α} {n : Int} (h : 0 ≤ n) : cutA xs (some n) none = xs.drop n.toNat := by
  obtain ⟨k, rfl⟩ := Int.eq_ofNat_of_zero_le h
  unfold cutA
  rw [HT.sIx_none, HT.sIx_nat, Int.toNat_natCast]
  rcases Nat.le_total k xs.length with l | l
  · rw [Nat.min_eq_left l]
    exact List.take_of_length_le (by rw [List.length_drop]; exact Nat.le_refl _)
  · rw [Nat.min_eq_right l]
    simp [List.drop_eq_nil_of_le l]
theorem cutA_map {α β : Type} (f : α → β) (xs : List α) (lo hi : Option Int) : cutA (xs.map f) lo hi = (cutA xs lo hi).map f := by
  unfold cutA
  rw [List.length_map, ← List.map_drop, ← List.map_take]
theorem atI_of {α : Type} {xs : List α} {n : Int} (h : 0 ≤ n) : atI xs n = xs[n.toNat]? := by
  unfold atI ixN
  rw [if_pos h]
  by_cases l : n < xs.length
  · rw [if_pos l]; rfl
  · rw [if_neg l, List.getElem?_eq_none (by omega)]; rfl
theorem atI_map {α β : Type} (f : α → β) (xs : List α) (n : Int) : atI (xs.map f) n = (atI xs n).map f := by
  unfold atI
  rw [List.length_map]
  cases ixN xs.length n with
  | none => rfl
  | some j => simp
/-! ### encoded data: equality -/
structure En {α : Type} [DecidableEq α] (e : α → D) (n : Nat) : Prop where
  eq : ∀ x y, deq (e x) (e y) = decide (x = y)
  fn : ∀ x m, n ≤ m → fine m (e x) = true
theorem deq_tups (xs ys : List D) : deq (.tup xs) (.tup ys) = PyData.eqvAll (toPys xs) (toPys ys) := by
  unfold deq; rw [toPy, toPy, PyData.eqv]
theorem deq_lsts (xs ys : List D) : deq (.lst xs) (.lst ys) = PyData.eqvAll (toPys xs) (toPys ys) := by
  unfold deq; rw [toPy, toPy, PyData.eqv]
theorem all_cons (x y : D) (xs ys : List D) : PyData.eqvAll (toPys (x :: xs)) (toPys (y :: ys)) = (deq x y && PyData.eqvAll (toPys xs) (toPys ys)) := by
  rw [toPys, toPys, PyData.eqvAll]; rfl
theorem all_nil : PyData.eqvAll (toPys []) (toPys []) = true := by rw [toPys, PyData.eqvAll]
theorem all_nc (x : D) (xs : List D) : PyData.eqvAll (toPys []) (toPys (x :: xs)) = false := by rw [toPys, toPys, PyData.eqvAll]
theorem all_cn (x : D) (xs : List D) : PyData.eqvAll (toPys (x :: xs)) (toPys []) = false := by rw [toPys, toPys, PyData.eqvAll]
theorem deq_int (i j : Int) : deq (.int i) (.int j) = decide (i = j) := by
  unfold deq; rw [toPy, toPy, PyData.eqv]; rfl
theorem deq_bl (i j : Bool) : deq (.bl i) (.bl j) = decide (i = j) := by
  unfold deq; rw [toPy, toPy, PyData.eqv]; cases i <;> cases j <;> rfl
theorem all_en {α : Type} [DecidableEq α] {e : α → D} {n : Nat} (h : En e n) : ∀ xs ys : List α, PyData.eqvAll (toPys (xs.map e)) (toPys (ys.map e)) = decide (xs = ys)
  | [], [] => by simp [all_nil]
  | [], y :: ys => by simp [all_nc]
  | x :: xs, [] => by simp [all_cn]
  | x :: xs, y :: ys => by
    rw [List.map_cons, List.map_cons, all_cons, all_en h xs ys, h.eq]
    by_cases a : x = y <;> by_cases b : xs = ys <;> simp [a, b]
theorem fine_tup {l : List D} {n : Nat} (h : l.all (fine n) = true) : fine (n + 1) (.tup l) = true := h
theorem fine_lst {l : List D} {n : Nat} (h : l.all (fine n) = true) : fine (n + 1) (.lst l) = true := h
theorem en_int : En D.int 1 := ⟨deq_int, fun x m h => by cases m with | zero => omega | succ m => rfl⟩
theorem en_bl : En D.bl 1 := ⟨deq_bl, fun x m h => by cases m with | zero => omega | succ m => rfl⟩
theorem en_tup {α : Type} [DecidableEq α] {e : α → D} {n : Nat} (h : En e n) : En (fun xs : List α => D.tup (xs.map e)) (n + 1) :=
  ⟨fun x y => by rw [deq_tups, all_en h], fun x m hm => by
    cases m with
    | zero => omega
    | succ m =>
      refine fine_tup ?_
      rw [List.all_eq_true]
      intro z hz
      obtain ⟨w, _, rfl⟩ := List.mem_map.mp hz
      exact h.fn w m (by omega)⟩
theorem en_lst {α : Type} [DecidableEq α] {e : α → D} {n : Nat} (h : En e n) : En (fun xs : List α => D.lst (xs.map e)) (n + 1) :=
  ⟨fun x y => by rw [deq_lsts, all_en h], fun x m hm => by
    cases m with
    | zero => omega
    | succ m =>
      refine fine_lst ?_
      rw [List.all_eq_true]
      intro z hz
      obtain ⟨w, _, rfl⟩ := List.mem_map.mp hz
      exact h.fn w m (by omega)⟩
theorem gEq_en {α : Type} [DecidableEq α] {e : α → D} {n : Nat} (h : En e n) (x y : α) (hn : n ≤ 60 := by decide) : gEq [e x, e y] = some (.v (.bl (decide (x = y)))) := by
  show (if (fine 60 (e x) && fine 60 (e y)) = true then _ else _) = _
  rw [h.fn x 60 hn, h.fn y 60 hn, h.eq]; rfl
theorem gNe_en {α : Type} [DecidableEq α] {e : α → D} {n : Nat} (h : En e n) (x y : α) (hn : n ≤ 60 := by decide) : gNe [e x, e y] = some (.v (.bl (!decide (x = y)))) := by
  show (if (fine 60 (e x) && fine 60 (e y)) = true then _ else _) = _
  rw [h.fn x 60 hn, h.fn y 60 hn, h.eq]; rfl
@[simp] theorem gEq_int (i j : Int) : gEq [.int i, .int j] = some (.v (.bl (decide (i = j)))) := gEq_en en_int i j
@[simp] theorem gNe_int (i j : Int) : gNe [.int i, .int j] = some (.v (.bl (!decide (i = j)))) := gNe_en en_int i j
@[simp] theorem gEq_scr (ns : List Int) : gEq [.scr ns, .lst []] = some (.v (.bl (decide (ns = [])))) := by
  have e : deq (.scr ns) (.lst []) = decide (ns = []) := by
    unfold deq; rw [toPy, toPy, PyData.eqv]
    cases ns with
    | nil => rw [toPys, List.map_nil, PyData.eqvAll]; rfl
    | cons n ns => rw [toPys, List.map_cons, PyData.eqvAll]; simp
  show some (W.v (D.bl (deq (.scr ns) (.lst [])))) = _
  rw [e]
end DL

/-! Errors that are caught and kept: try .. except X as e: y = e; isinstance of what was caught. -/
namespace DL
open PySem PySem.Spec PyProof.Rows L2

theorem caO_ok {P : Program} {w : World} {H : Hp} {h : Heap} {a C : Addr} {oe : Obj} {vs : Array Value} (e : h.get? a = some oe) (z : Zc (.ref C) none oe) (d : oe.data = .fields vs) : ObjOk P w H h a (CaO C a) :=
  ⟨⟨oe, vs, e, z, d⟩, ⟨oe, e⟩, fun _ _ ⟨o, v, q, r⟩ k => ⟨o, v, k o q, r⟩⟩

/-! ### classes and defs by their names -/
structure Nam (K : PySem.W.Frag) (mg : Str → Option Value) (c : Str) : Prop where
  ex : ∃ C : Addr, mg c = some (.ref C) ∧ PySem.W.nsIn K mainGlobals c = some (some (.ref C))
theorem e_nam {X : Cx} {Wx : WX} {c : Str} {pos : Pos} (N : Nam X.K X.mg c) (hg : Gl X c := by rfl) (hd : (c == ("__debug__" : Str)) = false := by decide) : EvS X Wx (.Name c pos) (eD (.nam false c)) := by
  obtain ⟨C, h1, h2⟩ := N.ex
  exact e_glob (v := .ref C) hg h1 rfl (fun _ => .glob h2) hd

/-! ### isinstance of what was caught -/
def excSub (c c' : Str) : Bool := c == c' || c' == "ChairError"
structure ExcTab (K : PySem.W.Frag) (cs ts : List Str) : Prop where
  cls : ∀ c ∈ cs, ∀ C : Addr, PySem.W.nsIn K mainGlobals c = some (some (.ref C)) → ExcC K C ∧ PySem.W.kitOne K (.ref C) (.type "ValueError") = some true
  sub : ∀ c ∈ cs, ∀ c' ∈ ts, ∀ C C' : Addr, PySem.W.nsIn K mainGlobals c = some (some (.ref C)) → PySem.W.nsIn K mainGlobals c' = some (some (.ref C')) → PySem.W.kitOne K (.ref C) (.ref C') = some (excSub c c')
theorem kit_same {K : PySem.W.Frag} {C : Addr} {c : Str} : PySem.W.kitOne K (.ref C) (.ref C) = some (excSub c c) := by
  unfold PySem.W.kitOne
  rw [if_pos (by exact beq_self_eq_true _)]
  unfold excSub
  rw [show (c == c) = true from beq_self_eq_true c]
  rfl
theorem kit_other {K : PySem.W.Frag} {C C' : Addr} {c c' : Str} (ne : (Value.ref C == Value.ref C') = false) (hd : PySem.W.hasDictIn K C' = true) (ht : PySem.W.typeIn K (.ref C') = some (.type "type")) (hs : PySem.W.subIn K (.ref C) (.ref C') = some false) (e : excSub c c' = false := by decide +kernel) : PySem.W.kitOne K (.ref C) (.ref C') = some (excSub c c') := by
  obtain ⟨cd, hc, _⟩ := PySem.W.any_some hd
  unfold PySem.W.kitOne
  rw [if_neg (by rw [ne]; exact Bool.false_ne_true), e]
  show (if ((PySem.W.clsIn K C').isSome && PySem.W.typeIn K (.ref C') == some (.type "type")) = true then PySem.W.subIn K (.ref C) (.ref C') else none) = _
  rw [if_pos (by rw [hc, ht]; rfl)]
  exact hs
theorem kit_ve {K : PySem.W.Frag} {C : Addr} (hs : PySem.W.subIn K (.ref C) (.type "ValueError") = some true) : PySem.W.kitOne K (.ref C) (.type "ValueError") = some true := by
  unfold PySem.W.kitOne
  split
  · rfl
  · show (if PySem.W.kitMeta "ValueError" = true then PySem.W.subIn K (.ref C) (.type "ValueError") else none) = _
    rw [if_pos (by decide +kernel)]
    exact hs
def gIsiE (cs ts : List Str) : List D → Option W
  | [.nam true c, .nam false c'] => if c ∈ cs ∧ c' ∈ ts then some (.v (.bl (excSub c c'))) else none
  | [.nam true c, .ty u] => if c ∈ cs ∧ u = "ValueError" then some (.v (.bl true)) else none
  | _ => none
def rIsX (K : PySem.W.Frag) : List V → Hp → VK → Prop := fun xs H Q => ∃ (a C : Addr) (c : V) (cv : Value) (b : Bool), xs = [.ref a, c] ∧ ClsV c cv ∧ H a = some (CaO C a) ∧ ExcC K C ∧ PySem.W.kitOne K (.ref C) cv = some b ∧ Q (.bl b) H
theorem call_isX {X : Cx} : CallR X (.builtin "isinstance") (rIsX X.K) := by
  intro pins s σ H xs us Q I r h
  obtain ⟨a, C, c, cv, b, rfl, k, ha, eC, e, q⟩ := h
  obtain ⟨u1, u2, rfl, r1, r2⟩ := vals2 r
  cases (show u1 = Value.ref a from r1)
  have e2 := k.eq r2
  subst e2
  obtain ⟨⟨oe, vs, hget, hz, hv⟩, _, _⟩ := (show ObjOk X.prog X.w H s.heap a (CaO C a) from I.hok a _ ha)
  have J : PySem.W.InstAt s.heap a oe C none := by
    obtain ⟨oc, od, oda, osl⟩ := oe
    obtain ⟨z1, z2⟩ := hz
    simp only at z1 z2 hv
    subst z1 z2 hv
    exact ⟨hget, rfl, rfl, trivial⟩
  exact PySem.W.kia_one (PySem.W.handS_kitx_exc eC.hg eC.hk eC.hs eC.hd eC.ha eC.hn eC.ht eC.hm) I.kIn J e (fun z => nomatch z) fun tk => ⟨.bl b, H, I.tok tk, rfl, q⟩
theorem cd_isX {K : PySem.W.Frag} {cs ts : List Str} (T : ExcTab K cs ts) : CaD K (rIsX K) (gIsiE cs ts) := by
  intro F H vs ds w Q e vw hg q
  unfold gIsiE at hg
  split at hg
  · rename_i c c'
    obtain ⟨x, y, rfl, hx, hy⟩ := vw.two
    split at hg
    · rename_i hm
      cases hg
      cases (show RepD K F x (.nam true c) from hx) with
      | @exn a C _ hn ha =>
        cases (show RepD K F y (.nam false c') from hy) with
        | @glob C' _ hn' => exact ⟨a, C, _, .ref C', _, rfl, .own C', e _ _ ha, (T.cls c hm.1 C hn).1, T.sub c hm.1 c' hm.2 C C' hn hn', fin_bl e q⟩
    · cases hg
  · rename_i c u
    obtain ⟨x, y, rfl, hx, hy⟩ := vw.two
    split at hg
    · rename_i hm
      cases hg
      cases (show RepD K F x (.nam true c) from hx) with
      | @exn a C _ hn ha =>
        obtain ⟨hc, rfl⟩ := hm
        cases (show RepD K F y (.ty "ValueError") from hy)
        exact ⟨a, C, _, .type "ValueError", _, rfl, .ty _, e _ _ ha, (T.cls c hc C hn).1, (T.cls c hc C hn).2, fin_bl e q⟩
    · cases hg
  · cases hg

/-! ### list.count of bools -/
def eqb (k : Bool) (v : Value) : Bool := match v with
  | .bool n => n == k
  | _ => false
def gCntB : List D → Option W
  | [.lst ds, .bl k] => (blsOf ds).map fun ns => .v (.int ((ns.count k : Nat) : Int))
  | _ => none
def rCntB (K : PySem.W.Frag) : V → List V → Hp → VK → Prop := fun x xs H Q => ∃ (p : Addr) (ns : List Bool) (k : Bool), x = .ref p ∧ xs = [.bl k] ∧ SqL K H p (ns.map V.bl) ∧ Q (.int (ns.count k : Nat)) H
theorem vals_bls : ∀ {ns : List Bool} {us : List Value}, Vals (ns.map V.bl) us → us = ns.map Value.bool
  | [], _, .nil => rfl
  | n :: ns, _, .cons r t => by
    rw [vals_bls t]
    cases (show _ = Value.bool n from r)
    rfl
theorem mt_bcount {X : Cx} : MtR X "list.count" (rCntB X.K) := by
  intro pins s σ H x xs v us Q I rx rxs h
  obtain ⟨p, ns, k, rfl, rfl, hs, q⟩ := h
  cases rx
  obtain ⟨u, rfl, ru⟩ := rxs.one
  cases (show u = Value.bool k from ru)
  obtain ⟨its, rv, ⟨⟨cls, dd, data, sl⟩, n, ho, hc, hdn, hd⟩, hlen⟩ := I.list hs
  simp only at hc hd
  subst hc hd
  have hi := vals_bls rv
  subst hi
  refine call_meets PySem.F.slot_list_count ⟨_, ho, rfl⟩ PySem.F.entry_list_count (PySem.F.args_list_count_2 _ _) (SeqAt.list_countAt p (ns.map Value.bool).toArray n dd sl (.bool k) (eqb k)) ⟨ho, fun y hy => ?_, ?_⟩
  · have hy : y ∈ ns.map Value.bool := by simpa using hy
    obtain ⟨b, _, rfl⟩ := List.mem_map.mp hy
    exact SeqAt.EqAt.bool_bool b k
  · have ec : (ns.map Value.bool).countP (eqb k) = ns.count k := by
      rw [List.countP_map]
      rfl
    refine ⟨.int (ns.count k : Nat), H, I.tok _, ⟨s.toks, ?_⟩, q⟩
    show Value.int (((ns.map Value.bool).countP (eqb k) : Nat) : Int) s.toks = Value.int ((ns.count k : Nat) : Int) s.toks
    rw [ec]
theorem bls_rep {K : PySem.W.Frag} {F : Hp} : ∀ {vs : List V} {ns : List Bool}, RepDs K F vs (ns.map D.bl) → vs = ns.map V.bl
  | _, [], .nil => rfl
  | _, n :: r, .cons (.bl _) t => by rw [List.map_cons, ← bls_rep t]
theorem cd_cntB {K : PySem.W.Frag} : CaD K (rM (rCntB K)) gCntB := by
  intro F H vs ds w Q e vw hg q
  unfold gCntB at hg
  split at hg
  · rename_i xs k
    obtain ⟨x, y, rfl, hx, hy⟩ := vw.two
    obtain ⟨ns, h1, rfl⟩ := Option.map_eq_some_iff.mp hg
    obtain ⟨a, us, rfl, h2, r⟩ := hx.lst
    rw [blsOf_eq h1] at r
    have := bls_rep r
    subst this
    exact ⟨_, _, rfl, a, ns, k, rfl, by rw [hy.bl], .inl h2, fin_int e q⟩
  · cases hg

/-! ### try .. except x as n: y = n -/
structure CatTab (K : PySem.W.Frag) (mg : Str → Option Value) (x : Str) (cs : List Str) : Prop where
  ex : ∃ C0 : Addr, mg x = some (.ref C0) ∧ ∀ c ∈ cs, ∃ C : Addr, PySem.W.nsIn K mainGlobals c = some (some (.ref C)) ∧ mg c = some (.ref C) ∧ PySem.W.exmOne K (.ref C) (.ref C0) = some true
def clrS (i : Nat) (env : DEnv) : Option DEnv := match env[i]? with
  | some (some (.l true _)) => none
  | some _ => some (env.set i none)
  | none => none
/-- i: the clause's name; j: the name that keeps it -/
def sTry (cs : List Str) (i j : Nat) (fb : M Fl) : M Fl := fun env => match fb env with
  | .raise c e1 => if c ∈ cs then (match setS j (.v (.nam true c)) e1 with
      | some e2 => (match clrS i e2 with
        | some e3 => .ok .next e3
        | none => .stuck)
      | none => .stuck) else .stuck
  | r => r
theorem clrS_ok {K : PySem.W.Frag} {F H : Hp} {σ : L2.St} {env env' : DEnv} {own : Nat → Fp} {i : Nat} (S : Sit K F σ H env own) (h : clrS i env = some env') : ∃ own', Sit K F (σ.set i none) H env' own' ∧ ∀ a, all own' a → all own a := by
  have hi : i < env.length ∧ env' = env.set i none := by
    unfold clrS at h
    split at h
    · cases h
    · rename_i x hx
      cases h
      exact ⟨(List.getElem?_eq_some_iff.mp hx).1, rfl⟩
    · cases h
  obtain ⟨hi, rfl⟩ := hi
  have hσ : i < σ.length := by rw [← S.len]; exact hi
  refine ⟨fun j a => j ≠ i ∧ own j a, ⟨S.ex, by rw [List.length_set, List.length_set]; exact S.len, fun j w e => ?_, fun j a z => ?_, fun j k a z1 z2 => S.dis j k a z1.2 z2.2⟩, fun a ⟨j, z⟩ => ⟨j, z.2⟩⟩
  · have hj : j ≠ i := fun z => by
      subst z
      rw [List.getElem?_set_self hi] at e
      cases e
    rw [List.getElem?_set_ne (Ne.symm hj)] at e
    obtain ⟨v, h1, h2⟩ := S.rep j w e
    refine ⟨v, by rw [List.getElem?_set_ne (Ne.symm hj)]; exact h1, ?_⟩
    have e3 : (fun a => j ≠ i ∧ own j a) = own j := funext fun a => propext ⟨fun z => z.2, fun z => ⟨hj, z⟩⟩
    rw [e3]
    exact h2
  · obtain ⟨w, e⟩ := S.emp j a z.2
    exact ⟨w, by rw [List.getElem?_set_ne (Ne.symm z.1)]; exact e⟩

section
variable {X : Cx} {pins : List (Addr × Obj)} {σ : L2.St} {H : Hp} {s : Shared}
/-- an object that nothing of ours knows is known from now on -/
theorem inv_adopt {a : Addr} {o : HO} (I : Inv X pins σ H s) (na : H a = none) (n0 : X.s_0.heap.get? a = none) (nL : a ≠ X.env.locals) (nC : ∀ y c, X.env.cells.lookup y = some c → c ≠ a) (np : ∀ p ∈ X.pn ++ pins, p.1 ≠ a)
    (no : ∀ b, o ≠ .own b) (h : ObjOk X.prog X.w (upd H a o) s.heap a o) : Inv X pins σ (upd H a o) s where
  ok := I.ok
  os := I.os
  bare := I.bare
  base := { keep := I.base.keep, slot := I.base.slot, there := I.base.there
            free := fun b u q n x => by
              have ne : b ≠ a := fun z => by rw [z, n0] at q; cases q
              rw [upd_ne ne]
              exact I.base.free b u q n x
            tups := fun b xs q => by
              have r := I.base.tups b xs q
              rw [upd_ne (ne_of_none r na)]
              exact r
            frzs := fun b u xs q => by
              have r := I.base.frzs b u xs q
              rw [upd_ne (ne_of_none r na)]
              exact r
            tbls := fun b ps q => by
              obtain ⟨m, r⟩ := I.base.tbls b ps q
              exact ⟨m, by rw [upd_ne (ne_of_none r na)]; exact r⟩ }
  loc := I.loc
  cell := I.cell
  free := by rw [upd_ne (Ne.symm nL)]; exact I.free
  freeC := fun y c e => by rw [upd_ne (nC y c e)]; exact I.freeC y c e
  pin := fun p hp => by
    obtain ⟨h1, h2, h3⟩ := I.pin p hp
    exact ⟨h1, by rw [upd_ne (np p hp)]; exact h2, h3⟩
  hok := fun b u e => by
    by_cases hb : b = a
    · subst hb
      rw [upd_same] at e
      cases e
      exact h
    · rw [upd_ne hb] at e
      refine (I.hok b u e).stay (fun _ _ _ q => q) (fun c q => ?_) fun c xs q => ?_
      · rw [upd_ne (ne_of_none q na)]; exact q
      · rw [upd_ne (ne_of_none q na)]; exact q
  len := I.len
end

section
variable {X : Cx} {Wx : WX} {x n y : Str} {i j : Nat} {is : List Nat} {cs : List Str} {body : List Stmt} {fb : M Fl} {np p1 p2 p3 pos pos' : Pos}
/-- what is wished for where the body raises -/
def wKeep (mg : Str → Option Value) (cs : List Str) (i j : Nat) (D : Ends) : WX := fun cls d σ H => d = none ∧ ∃ c C, c ∈ cs ∧ cls = .ref C ∧ mg c = some (.ref C) ∧ ∀ a, H a = none → D.nx ((σ.set j (some (.ref a))).set i none) (upd H a (CaO C a))
theorem s_try (hs : X.stack = X.env :: X.outer) (hf : X.env.frame = some X.env.locals) (hex : X.ex = []) (hN : X.N.Nodup) (hi : X.N[i]? = some n) (hln : X.env.kindOf n = some .local) (hj : X.N[j]? = some y) (hlj : X.env.kindOf y = some .local) (hij : i ≠ j) (hg : Gl X x) (ct : CatTab X.K X.mg x cs)
    (hb : ∀ (W : WX) (pn : List (Addr × Obj)) (xe : Value → Shared → Prop), Takes (X.tr pn xe) W → PassesOwn (model X.prog X.w) X.A X.env xe → SsS (X.tr pn xe) W body is fb)
    (hdb : (x == ("__debug__" : Str)) = false := by decide) (hdn : (n == ("__debug__" : Str)) = false := by decide) (hcn : (n == ("__classdict__" : Str)) = false := by decide)
    (hsw : swapsWith (.Name n p2) (some (.Name y p1)) p3.line X.env = pure false := by rfl) :
    StS X Wx (.Try body [.ExceptHandler (some (.Name x np)) (some n) [.Assign [.Name y p1] (.Name n p2) p3] pos'] [] [] pos) (is ++ [j, i]) (sTry cs i j fb) := by
  obtain ⟨C0, hC0, hcs⟩ := ct.ex
  refine ⟨fun pins s σ H D I h => ?_⟩
  obtain ⟨F, env, own, S, h⟩ := h
  have ok := I.ok
  have hfr : X.A.frames = some (X.env :: X.outer) := by rw [ok.frames, hs]
  have hbody : sOf X.K X.mg (wKeep X.mg cs i j D) is fb D σ H := by
    refine ⟨F, env, own, S, ?_⟩
    unfold sTry at h
    cases e : fb env with
    | stuck => rw [e] at h; exact h
    | ok fl e1 =>
      rw [e] at h
      cases fl with
      | next => exact fun σ' F' H' own' o r => h σ' F' H' own' (o.left _) r
      | brk => exact fun σ' F' H' own' o r => h σ' F' H' own' (o.left _) r
      | cont => exact fun σ' F' H' own' o r => h σ' F' H' own' (o.left _) r
      | ret u => exact fun v σ' F' H' own' p o r => h v σ' F' H' own' p (o.left _) r
    | raise c e1 =>
      rw [e] at h
      dsimp only at h
      by_cases hc : c ∈ cs
      · rw [if_pos hc] at h
        cases e2 : setS j (.v (.nam true c)) e1 with
        | none => rw [e2] at h; exact h.elim
        | some env2 =>
          rw [e2] at h
          dsimp only at h
          cases e3 : clrS i env2 with
          | none => rw [e3] at h; exact h.elim
          | some env3 =>
            rw [e3] at h
            intro C σ' F' H' own' o mgC O
            refine ⟨rfl, c, C, hc, rfl, mgC, fun a na => ?_⟩
            obtain ⟨C', hns, mgC', _⟩ := hcs c hc
            have eC : C' = C := by rw [mgC'] at mgC; cases mgC; rfl
            subst eC
            have g := Grow.data (o := CaO C' a) O.S.ex na
            have S1 := g.sit O.S
            obtain ⟨own2, S2, k2⟩ := setS_ok (v := .ref a) (w := .v (.nam true c)) S1 (p := fun _ => False) ⟨fun _ z => z, RepD.exn hns upd_same⟩ (fun _ z => z.elim) e2
            obtain ⟨own3, S3, k3⟩ := clrS_ok S2 e3
            refine h _ _ _ own3 (o.trans ((Only.set (i := j)).trans (Only.set (i := i)))) ⟨S3, O.s.trans ((g.step own').sub fun b z => ?_)⟩
            exact (k2 b (k3 b z)).elim Or.inl fun z => z.elim
      · rw [if_neg hc] at h
        exact h.elim
  refine wpAny_Try_except ?_
  refine wpAny_mono ((hb (wKeep X.mg cs i j D) (X.pn ++ pins) (fun ev t1 => wpAny (model X.prog X.w) X.A (noteFrame ev X.env) (fun _ t2 => wpAny (model X.prog X.w) X.A (setFlight ev none) (fun _ t3 =>
    wpAny (model X.prog X.w) X.A (handleBy ev X.env [.ExceptHandler (some (.Name x np)) (some n) [.Assign [.Name y p1] (.Name n p2) p3] pos']) (SP X pins D) X.xe t3) X.xe t2) X.xe t1) (fun u t xx => ?_) PassesOwn.looking).run [] s σ H D (I.toTry _) hbody) (fun fl t hsp => ?_) (fun _ _ z => z)
  · obtain ⟨a, B, sI, pi, σ1, H1, cls, dd, rfl, J1, nb, up, sky, na, os, ag, rfl, c, C, hc, rfl, mgC, hnx⟩ := xx
    obtain ⟨C', hns, mgC', hexm⟩ := hcs c hc
    have eC : C' = C := by rw [mgC'] at mgC; cases mgC; rfl
    subst eC
    have J : Inv X pins σ1 H1 sI := J1.ofTry ok
    rw [show (X.tr (X.pn ++ pins) (fun ev t1 => wpAny (model X.prog X.w) X.A (noteFrame ev X.env) (fun _ t2 => wpAny (model X.prog X.w) X.A (setFlight ev none) (fun _ t3 => wpAny (model X.prog X.w) X.A (handleBy ev X.env [.ExceptHandler (some (.Name x np)) (some n) [.Assign [.Name y p1] (.Name n p2) p3] pos']) (SP X pins D) X.xe t3) X.xe t2) X.xe t1)).stack = X.env :: X.outer from hs] at sky
    have nb' : ∀ b o, sI.heap.get? b = some o → b ∉ frs (X.env :: X.outer) → B.get? b = some o := fun b o q z => nb b o q (by rw [show (X.tr (X.pn ++ pins) _).stack = X.env :: X.outer from hs]; exact z)
    refine Sky.land Zc.steady hfr hf sky fun g1 w1 v1 => ?_
    have K1 : Inv X pins σ1 H1 { t with heap := g1 } := J.landed nb w1.1 (up.trans v1) os ag
    obtain ⟨o1, a1, q1, z1, d1⟩ := w1.there
    have nfr : a ∉ frs (X.env :: X.outer) := fun hm => by
      obtain ⟨_, o', e', hnf⟩ := w1.2.2.1.mem hm
      rw [q1] at e'
      cases e'
      exact hnf _ d1
    have nL : a ≠ X.env.locals := fun z => nfr (List.mem_filterMap.mpr ⟨X.env, List.mem_cons_self, by rw [hf, z]⟩)
    have nF : a ∉ X.fs := fun hm => by
      obtain ⟨ev, he, q⟩ := List.mem_filterMap.mp hm
      exact nfr (List.mem_filterMap.mpr ⟨ev, List.mem_cons_of_mem _ he, q⟩)
    have nB : B.get? a = none := w1.2.1
    have nI : sI.heap.get? a = none := by
      cases q : sI.heap.get? a with
      | none => rfl
      | some o => rw [nb' a o q nfr] at nB; cases nB
    have n0 : X.s_0.heap.get? a = none := by
      cases q : X.s_0.heap.get? a with
      | none => rfl
      | some o =>
        obtain ⟨o', q'⟩ := J.base.there a o q (by rw [hex]; exact List.not_mem_nil)
        rw [nI] at q'
        cases q'
    have npn : ∀ p ∈ X.pn ++ pins, p.1 ≠ a := fun p hp z => by
      have q := (J.pin p hp).1
      rw [z, nI] at q
      cases q
    have nC : ∀ v c, X.env.cells.lookup v = some c → c ≠ a := fun v c q z => by
      obtain ⟨u, r⟩ := J.cell v c q
      obtain ⟨o, r1, _⟩ := r
      rw [z, nI] at r1
      cases r1
    refine wpAny_handleBy_cons (codeAny_handlers_test ?_) (by intro q; cases q)
    have typ : PySem.W.Looks (model X.prog X.w) g1 (typeOf (.ref a)) (.ref C') := fun A Q E s k q => wpAny_typeOf_ref (k _ _ q1) (by rw [z1.1]; exact q)
    have mat := PySem.W.exm_one (M := model X.prog X.w) K1.kIn typ hexm
    refine ld_glob (X := X.suite a ((a, o1) :: (X.pn ++ pins))) (K1.suite q1 d1 na nL nF) hg hC0 (mat.here ?_) hdb
    refine codeAny_handlers_suite_as ?_
    refine HandSPX.lands_againZ w1 fun g2 w2 v2 => ?_
    have K2 : Inv X pins σ1 H1 { t with heap := g2 } := J.landed nb w2.1 ((up.trans v1).trans v2) os ag
    obtain ⟨o2, a2, q2, z2, d2⟩ := w2.there
    refine store_ok (X := X.suite a ((a, o2) :: (X.pn ++ pins))) (v := .ref a) (K2.suite q2 d2 na nL nF) hN hi (.inl hln) rfl (fun t5 K5 => ?_) (.inr hln)
    have hset : PSs (X.suite a ((a, o2) :: (X.pn ++ pins))) [.Assign [.Name y p1] (.Name n p2) p3] (tAsg (tVar i) (gName j)) := pss_one (ps_set hN hj (.inl hlj) (pe_var hi (.inl hln) hdn hcn) hsw (.inr hlj))
    have hil : i < σ1.length := by rw [J.len]; exact (List.getElem?_eq_some_iff.mp hi).1
    refine wpAny_mono (hset.run [] t5 _ H1 { nx := fun σ6 H6 => σ6 = (σ1.set i (some (.ref a))).set j (some (.ref a)) ∧ H6 = H1, rt := fun _ _ => False } K5 ?_) (fun fl t6 hsp => ?_) (fun _ _ z => z.elim)
    · exact ⟨.ref a, List.getElem?_set_self hil, rfl, rfl⟩
    · cases fl with
      | next =>
        obtain ⟨σ6, H6, K6, rfl, rfl⟩ := hsp
        obtain ⟨g6, _⟩ := K6.pin (a, o2) (List.mem_append_left _ List.mem_cons_self)
        have K7 := inv_adopt (a := a) (o := CaO C' a) (K6.unsuite ok) na n0 nL nC npn (fun b z => by cases z) (caO_ok g6 z2 d2)
        refine gone_ok K7 hN hi hln fun t8 K8 => ⟨_, _, K8, ?_⟩
        have es : ((σ1.set i (some (V.ref a))).set j (some (.ref a))).set i none = (σ1.set j (some (.ref a))).set i none := by
          rw [List.set_comm _ _ hij, List.set_set]
        rw [es]
        exact hnx a na
      | brk => obtain ⟨_, _, _, z⟩ := hsp; exact z.elim
      | cont => obtain ⟨_, _, _, z⟩ := hsp; exact z.elim
      | ret u => obtain ⟨_, _, _, _, _, z⟩ := hsp; exact z.elim
  · cases fl with
    | next =>
      obtain ⟨σ', H', K', q⟩ := hsp
      exact wpAny_execs_nil ⟨σ', H', K'.ofTry ok, q⟩
    | brk =>
      obtain ⟨σ', H', K', q⟩ := hsp
      exact ⟨σ', H', K'.ofTry ok, q⟩
    | cont =>
      obtain ⟨σ', H', K', q⟩ := hsp
      exact ⟨σ', H', K'.ofTry ok, q⟩
    | ret u =>
      obtain ⟨v, σ', H', K', r, q⟩ := hsp
      exact ⟨v, σ', H', K'.ofTry ok, r, q⟩
end
end DL

/-! e[::-1] of lists and tuples -/
namespace DL
open PySem PySem.Spec PyProof.Rows L2

section
variable {prog : Program} {w : World} {A : Around} {E : Value → Shared → Prop} {s : Shared}
theorem adjust_rev (n : Nat) : Builtin.Slice.sliceAdjust none none (-1) (n : Int) = ((n : Int) - 1, -1) := by
  unfold Builtin.Slice.sliceAdjust
  simp
theorem places_rev (n : Nat) : Builtin.Slice.slicePlaces ((n : Int) - 1) (-1) (-1) = n := by
  unfold Builtin.Slice.slicePlaces
  have h1 : ¬ ((-1 : Int) > 0) := by decide
  rw [if_neg h1]
  by_cases h : (n : Int) - 1 > -1
  · rw [if_pos h, show (- -1 : Int) = 1 by decide, Int.ediv_one]
    omega
  · rw [if_neg h]
    omega
theorem applied_rev {sl : Addr} {t : Tok} {n : Nat} {Q : Int × Int × Nat → Shared → Prop} (hs : s.heap.IsSliceOf sl .none .none (.int (-1) t)) (h : Q ((n : Int) - 1, -1, n) s) : wpAny (model prog w) A (Builtin.Slice.sliceApplied (.ref sl) (pure (n : Int))) Q E s := by
  obtain ⟨os, hos, hcs, hds⟩ := id hs
  unfold Builtin.Slice.sliceApplied Builtin.Slice.sliceFields
  refine wpAny_bind (wpAny_bind (wpAny_field hos hds (x := .none) rfl (wpAny_bind (wpAny_field hos hds (x := .none) rfl (wpAny_bind (wpAny_field hos hds (x := .int (-1) t) rfl (wpAny_pure ?_)))))))
  refine wpAny_bind (slicePart_int ?_)
  show wpAny _ _ (if ((-1 : Int) == 0) = true then _ else _) _ _ s
  rw [if_neg (by decide)]
  refine wpAny_bind (slicePart_none (wpAny_bind (slicePart_none (wpAny_bind (wpAny_pure ?_)))))
  show wpAny _ _ (match Builtin.Slice.sliceAdjust none none (-1) (n : Int) with | (lo, hi) => pure (lo, (-1 : Int), Builtin.Slice.slicePlaces lo hi (-1))) _ _ s
  rw [adjust_rev n]
  show wpAny _ _ (pure ((n : Int) - 1, (-1 : Int), Builtin.Slice.slicePlaces ((n : Int) - 1) (-1) (-1))) _ _ s
  rw [places_rev]
  exact wpAny_pure h
theorem pick_rev (xs : Array Value) : ((List.range xs.size).filterMap fun (m : Nat) => xs[(((xs.size : Int) - 1) + (m : Int) * -1).toNat]?).toArray = xs.toList.reverse.toArray := by
  have e : (List.range xs.size).filterMap (fun (m : Nat) => xs[(((xs.size : Int) - 1) + (m : Int) * -1).toNat]?) = ((List.range xs.size).map fun k => xs.size - 1 - k).filterMap (xs[·]?) := by
    rw [List.filterMap_map]
    congr 1
    funext m
    show xs[(((xs.size : Int) - 1) + (m : Int) * -1).toNat]? = xs[xs.size - 1 - m]?
    rw [show (((xs.size : Int) - 1) + (m : Int) * -1).toNat = xs.size - 1 - m by omega]
  rw [e, PySem.W.krv_range, List.filterMap_reverse, PySem.W.krv_all]
theorem getItem_tuple_rev {t sl : Addr} {items : Array Value} {tk : Tok} {Q : Value → Shared → Prop} (ht : IsTup s.heap t items) (hs : s.heap.IsSliceOf sl .none .none (.int (-1) tk))
    (h : Q (.ref s.heap.objs.size) { s with heap := s.heap.push { cls := .type "tuple", data := .seq items.toList.reverse.toArray } }) (hsz : items.size ≤ sizeLine) : wpAny (model prog w) A (getItem (.ref t) (.ref sl)) Q E s := by
  have hok : sizeOk (.seq items.toList.reverse.toArray) := by
    show items.toList.reverse.toArray.size ≤ sizeLine
    rw [List.size_toArray, List.length_reverse, Array.length_toList]
    exact hsz
  obtain ⟨os, hos, hcs, hds⟩ := id hs
  have hTs : s.TypeIs (.ref sl) "slice" := ⟨os, hos, hcs⟩
  unfold getItem
  try with_reducible refine wpAny_holding ?_
  first | refine wpAny_bind (wpAny_pure ?_) | skip
  refine wpAny_bind (wpAny_sequenceKey ht.typeIs (by decide) ?_)
  refine wpAny_bind (wpAny_callSpecial?_slot (name := Str.ofString "__getitem__") ht.typeIs PyProof.Rows.slot_tuple_getitem
    (wpAny_call_entry PyProof.Rows.slot_tuple_getitem ht.typeIs entry_tuple_getitem ?_ (args_tuple_getitem _ _)))
  show wpAny _ _ (Builtin.Tuple.tupleItemsOf (.ref t) >>= _) _ _ s
  refine wpAny_bind (tupleItemsOf_ ht ?_)
  refine wpAny_bind (wpAny_typeOf hTs ?_)
  rw [if_pos (by decide)]
  refine wpAny_bind (applied_rev hs ?_)
  have hno : ¬ ((((items.size : Int) - 1) == 0 && (-1 : Int) == 1 && items.size == items.size) = true) := by
    intro q
    rw [Bool.and_eq_true, Bool.and_eq_true] at q
    exact absurd q.1.2 (by decide)
  show wpAny _ _ (if (((items.size : Int) - 1) == 0 && (-1 : Int) == 1 && items.size == items.size) = true then _ else _) _ _ s
  rw [if_neg hno, pick_rev]
  first
    | exact wpAny_bind (m := Builtin.Tuple.tupleExact _) (wpAny_newObj_type (wpAny_pure ⟨_, rfl, wpAny_pure h⟩) hok)
    | exact wpAny_bind (m := Builtin.Tuple.tupleExact _) (wpAny_newObj_type (wpAny_bind (wpAny_pure (wpAny_pure ⟨_, rfl, wpAny_pure h⟩))) hok)
    | exact wpAny_bind (wpAny_bind (m := Builtin.Tuple.tupleExact _) (wpAny_newObj_type (wpAny_pure (wpAny_pure ⟨_, rfl, wpAny_pure h⟩)) hok))
    | exact wpAny_bind (wpAny_bind (m := Builtin.Tuple.tupleExact _) (wpAny_newObj_type (wpAny_pure ⟨_, rfl, wpAny_pure h⟩) hok))
end
theorem vals_reverse : ∀ {xs : List V} {us : List Value}, Vals xs us → Vals xs.reverse us.reverse
  | _, _, .nil => .nil
  | _, _, .cons r t => by
    rw [List.reverse_cons, List.reverse_cons]
    exact (vals_reverse t).append (.cons r .nil)
def rRev (K : PySem.W.Frag) (x : V) (H : Hp) (Q : VK) : Prop := ∃ a xs, x = .ref a ∧ ((SqL K H a xs ∧ ∀ p, H p = none → Q (.ref p) (upd H p (.lst xs.reverse))) ∨ (SqT K H a xs ∧ ∀ p, H p = none → Q (.ref p) (upd H p (.tup xs.reverse))))
section
variable {X : Cx} {Wx : WX} {e st : Expr} {te : TE} {fe : M U} {pos p2 q1 q2 : Pos} {j : Nat}
theorem pe_rev (he : PE X e te) (hst : PE X st (tC (.int (-1)))) : PE X (.Subscript e (.Slice none none (some st) p2) pos) (fun σ H Q => te σ H fun x H1 => rRev X.K x H1 Q) := by
  refine ⟨fun pins s σ H Q I h => ?_⟩
  refine Subscript_ (thn (he.run pins s σ H _ I h) fun v s1 ⟨x, H1, I1, r1, q1⟩ => ?_)
  refine wpAny_Slice ?_
  rw [evalPart_none]
  refine wpAny_pure (wpAny_pure ?_)
  rw [evalPart_some]
  refine thn (hst.run pins s1 σ H1 (fun y H2 => y = .int (-1) ∧ H2 = H1) I1 ⟨rfl, rfl⟩) fun u s3 hu => ?_
  obtain ⟨y, H3, I3, r3, rfl, rfl⟩ := hu
  obtain ⟨tk, rfl⟩ := r3
  have I4 : Inv X pins σ H3 { s3 with heap := s3.heap.push { cls := .type "slice", data := .fields #[.none, .none, .int (-1) tk] } } := I3.kept (t' := s3.toks) fun b ob q => Heap.get?_push_of_some _ q
  obtain ⟨a, xs, rfl, hq⟩ := q1
  cases r1
  show wpAny (model X.prog X.w) X.A (subscriptTail e (.Slice none none (some st) p2) (.ref a) (.ref s3.heap.objs.size)) (EP X pins σ Q) X.xe { s3 with heap := s3.heap.push { cls := .type "slice", data := .fields #[.none, .none, .int (-1) tk] } }
  have hsl : ({ s3 with heap := s3.heap.push { cls := .type "slice", data := .fields #[.none, .none, .int (-1) tk] } } : Shared).heap.IsSliceOf s3.heap.objs.size .none .none (.int (-1) tk) := Heap.IsSliceOf.new ..
  generalize ({ s3 with heap := s3.heap.push { cls := .type "slice", data := .fields #[.none, .none, .int (-1) tk] } } : Shared) = s4 at *
  rcases hq with ⟨hl, q⟩ | ⟨ht, q⟩
  · obtain ⟨its, r, hi, hz⟩ := I4.list hl
    have hlen := r.length
    refine tail_any (ops := [.ref a, .ref s3.heap.objs.size]) hi.isList.typeIs slot_list_getitem.lookup ?_ (by with_unfolding_all rfl)
    refine wpAny_getItem_list_slice hi.isList hsl .none .none (.int (-1) tk) (by simp) ?_ (by rw [List.size_toArray] <;> omega)
    rw [PySem.W.krv_pick]
    refine ⟨.ref s4.heap.objs.size, _, I4.laid (t' := s4.toks) (o := .lst xs.reverse) (fun b ob q => Heap.get?_push_of_some _ q) (Nat.le_refl _) ?_, rfl, q _ (I4.hok.fresh (Nat.le_refl _))⟩
    exact ⟨by rw [List.length_reverse]; exact hz, its.reverse, 0, vals_reverse r, Heap.get?_push_size _ rfl⟩
  · obtain ⟨its, r, hi, hz⟩ := I4.tuple ht
    have hlen := r.length
    refine tail_any (ops := [.ref a, .ref s3.heap.objs.size]) hi.typeIs PyProof.Rows.slot_tuple_getitem.lookup ?_ (by with_unfolding_all rfl)
    refine getItem_tuple_rev hi hsl ?_ (by rw [List.size_toArray] <;> omega)
    refine ⟨.ref s4.heap.objs.size, _, I4.laid (t' := s4.toks) (o := .tup xs.reverse) (fun b ob q => Heap.get?_push_of_some _ q) (Nat.le_refl _) ?_, rfl, q _ (I4.hok.fresh (Nat.le_refl _))⟩
    exact ⟨by rw [List.length_reverse]; exact hz, its.reverse, vals_reverse r, IsTup.new _ _⟩
def gRev : List D → Option W
  | [.lst ds] => some (.l false ds.reverse)
  | [.tup ds] => some (.v (.tup ds.reverse))
  | _ => none
theorem cd_rev {K : PySem.W.Frag} : CaD K (fun vs H Q => ∃ x, vs = [x] ∧ rRev K x H Q) gRev := by
  intro F H vs ds w Q e vw hg q
  unfold gRev at hg
  split at hg
  · rename_i ds
    cases hg
    cases vw with
    | cons h1 h2 =>
      cases h2
      obtain ⟨a, us, rfl, h2, r⟩ := h1.lst
      exact ⟨_, rfl, a, us, rfl, .inl ⟨.inl h2, fin_lst e r.reverse q⟩⟩
  · rename_i ds
    cases hg
    cases vw with
    | cons h1 h2 =>
      cases h2
      obtain ⟨a, us, rfl, f1, h2, r⟩ := h1.tup e
      exact ⟨_, rfl, a, us, rfl, .inr ⟨h2, fin_tup e r.reverse q⟩⟩
  · cases hg
theorem pe_m1 : PE X (.UnaryOp .USub (.Constant (.int 1) j q1) q2) (tC (.int (-1))) := by
  exact PE.imp (pe_un un_neg pe_int) fun σ H Q h => ⟨1, rfl, h⟩
theorem e_rev (ha : EvS X Wx e fe) : EvS X Wx (.Subscript e (.Slice none none (some (.UnaryOp .USub (.Constant (.int 1) j q1) q2)) p2) pos) (opN gRev [fe]) :=
  PE.imp (pe_rev ha pe_m1) fun σ H Q h => tOf_mono (aOf_1 (aOf_op cd_rev h)) fun _ _ z => by
    obtain ⟨x, e, z⟩ := z
    cases e
    exact z
end
/-! ### tuple * 0 -/
theorem tuple_mul0 (l : Addr) (a : Value) (r : List Value) (n : Nat) (dd : Option Addr) (sl : Array (Option Value)) (u : Tok) :
    Meets (Builtin.«tuple.__mul__» ⟨[.ref l, .int 0 u], []⟩) (fun _ R s => s.heap.get? l = some { cls := .type "tuple", dict := dd, data := .seq (a :: r).toArray n, slots := sl } ∧ R (.ok (.ret (Value.ref s.heap.objs.size))) { s with heap := s.heap.push { cls := Value.type "tuple", data := Data.seq #[] }, toks := s.toks }) :=
  .of_wp fun prog w A R s h => by
    obtain ⟨hp, g, d, tk, os⟩ := s
    obtain ⟨hl, h⟩ := h
    have f1 := AutoSeq1.idx_int
    have c1 : ((a :: r).toArray.isEmpty || (0 : Int) == 1) = false := rfl
    have c2 : (decide ((0 : Int) ≤ 0) || (a :: r).toArray.isEmpty) = true := rfl
    wp_walk using wpAny_loadPart' hl
    repeat (first
      | (refine wpAny_ite_false (by decide) ?_; wp_walk using wpAny_loadPart' hl)
      | (refine wpAny_ite_false (decide_eq_false (by rw [c1]; exact Bool.false_ne_true)) ?_; wp_walk using wpAny_loadPart' hl)
      | (refine wpAny_ite_true (decide_eq_true c2) ?_; wp_walk using wpAny_loadPart' hl))
    exact ⟨_, rfl, h⟩
def rRepT0 (K : PySem.W.Frag) : R2 := fun x y H Q => ∃ l xs, x = .ref l ∧ y = .int 0 ∧ SqT K H l xs ∧ xs ≠ [] ∧ ∀ p, H p = none → Q (.ref p) (upd H p (.tup []))
theorem op_repT0 {X : Cx} : OpR X (binaryOp .Mult) (rRepT0 X.K) := by
  intro pins s σ H x y v u Q I rx ry h
  obtain ⟨l, xs, rfl, rfl, hT, hne, q⟩ := h
  cases rx
  obtain ⟨t, rfl⟩ := ry
  obtain ⟨its, r, ⟨⟨cls, dd, data, sl⟩, ho, hc, n, hd⟩, hs⟩ := I.tuple hT
  simp only at hc hd
  subst hc hd
  cases its with
  | nil => exact absurd (List.eq_nil_of_length_eq_zero r.length) hne
  | cons a its =>
    refine wpAny_binaryOp_repeat_ref (T := "tuple") (U := "int") (by decide) ⟨_, ho, rfl⟩ (fun s' => typeIs_int s' 0 t) noFill_tuple_mul F.fills_int_mul F.slot_int_rmul repeat_tuple F.slot_int_index.lookup
      (call_meets F.slot_int_rmul (typeIs_int s 0 t) F.entry_int_rmul (F.args_int_rmul_2 _ _) (int_rmul_tuple 0 t l (a :: its).toArray n dd sl)
        ⟨ho, rfl, ⟨_, ho, rfl⟩, call_meets F.slot_tuple_mul ⟨_, ho, rfl⟩ F.entry_tuple_mul (F.args_tuple_mul_2 _ _) (tuple_mul0 l a its n dd sl t) ⟨ho, ?_⟩⟩)
    exact ⟨.ref s.heap.objs.size, _, I.laid (t' := s.toks) (o := .tup []) (fun b ob q => Heap.get?_push_of_some _ q) (Nat.le_refl _) ⟨Nat.zero_le _, [], .nil, IsTup.new _ _⟩, rfl, q _ (I.hok.fresh (Nat.le_refl _))⟩
def rMulZ (K : PySem.W.Frag) : R2 := fun x y H Q => rMulA K x y H Q ∨ rRepT0 K x y H Q
theorem op_mulZ {X : Cx} : OpR X (binaryOp .Mult) (rMulZ X.K) := op_mulA.or op_repT0
def gMulZ : List D → Option W
  | [.tup (d :: ds), .int k] => if k = 0 then some (.v (.tup [])) else gMul [.tup (d :: ds), .int k]
  | ds => gMul ds
theorem cd_mulZ {K : PySem.W.Frag} : CaD K (r2 (rMulZ K)) gMulZ := by
  intro F H vs ds w Q e vw hg q
  have key : gMul ds = some w → r2 (rMulZ K) vs H Q := fun h => by
    obtain ⟨x, y, e1, z⟩ := cd_mul F H vs ds w Q e vw h q
    exact ⟨x, y, e1, .inl z⟩
  unfold gMulZ at hg
  split at hg
  · rename_i d xs k
    by_cases hk : k = 0
    · rw [if_pos hk] at hg
      cases hg
      subst hk
      obtain ⟨x, y, rfl, hx, hy⟩ := vw.two
      obtain ⟨a, us, rfl, f1, h2, r⟩ := hx.tup e
      refine ⟨_, _, rfl, .inr ⟨a, us, rfl, hy.int, h2, fun z => ?_, fin_tup e .nil q⟩⟩
      have := r.length
      rw [z] at this
      simp at this
    · rw [if_neg hk] at hg
      exact key hg
  · exact key hg
end DL

/-! A def that a name holds is called; what is never reached. -/
namespace DL
open PySem PySem.Spec PyProof.Rows L2
def callV (i : Nat) (tab : List (Str × (List W → RF))) (ms : List (Option Nat)) (fs : List (M U)) : M U := fun env => match env[i]? with
  | some (some (.v (.nam false c))) => (match tab.lookup c with
    | some g => callF g ms fs env
    | none => .stuck)
  | _ => .stuck
/-- what a caller knows of the defs that a name may hold -/
def Tab (P : Program) (w : World) (K : PySem.W.Frag) (mg : Str → Option Value) (base : Heap) (j : Nat) (n : Nat) (tab : List (Str × (List W → RF))) : Prop := ∀ c g, (c, g) ∈ tab → Nam K mg c ∧ ∃ ps, ps.length = n ∧ Cal P w K mg base j c ps g
theorem tab_nil {P : Program} {w : World} {K : PySem.W.Frag} {mg : Str → Option Value} {base : Heap} {j n : Nat} : Tab P w K mg base j n [] := fun _ _ h => by cases h
theorem tab_cons {P : Program} {w : World} {K : PySem.W.Frag} {mg : Str → Option Value} {base : Heap} {i j n : Nat} {c : Str} {g : List W → RF} {ps : List Str} {tab : List (Str × (List W → RF))} (N : Nam K mg c) (C : Cal P w K mg base i c ps g) (h : Tab P w K mg base j n tab) (hij : i ≤ j := by decide) (hn : ps.length = n := by rfl) : Tab P w K mg base j n ((c, g) :: tab) := fun c' g' hm => by
  rcases List.mem_cons.mp hm with e | hm
  · cases e
    exact ⟨N, ps, hn, C.mono hij⟩
  · exact h c' g' hm
theorem mem_of_lookup {tab : List (Str × (List W → RF))} {c : Str} {g : List W → RF} (h : tab.lookup c = some g) : (c, g) ∈ tab := by
  induction tab with
  | nil => cases h
  | cons q r ih =>
    obtain ⟨a, b⟩ := q
    rw [List.lookup_cons] at h
    cases e : c == a with
    | true =>
      rw [e] at h
      cases h
      rw [eq_of_beq e]
      exact List.mem_cons_self ..
    | false =>
      rw [e] at h
      exact List.mem_cons_of_mem _ (ih h)
section
variable {X : Cx} {Wx : WX} {i j k n : Nat} {x : Str} {p pos : Pos} {e : Expr} {es : List Expr} {fs : List (M U)} {ms : List (Option Nat)} {tab : List (Str × (List W → RF))}
theorem e_callV (T : Tab X.prog X.w X.K X.mg X.base j n tab) (tk : Takes X Wx) (hr : Room k X.A) (ha : EaS X Wx (e :: es) fs) (hjk : j ≤ k) (hN : X.N[i]? = some x := by rfl) (hv : Vis X.env.scope x := by first | exact Or.inl rfl | exact Or.inr (Or.inl rfl) | exact Or.inr (Or.inr rfl))
    (nd : (ms.filterMap id).Nodup := by decide) (hn : ms.length = n := by rfl) (hdb : (x == ("__debug__" : Str)) = false := by decide) (hcd : (x == ("__classdict__" : Str)) = false := by decide) (he : starEach (e :: es) X.env = (false, eval e X.env) :: starEach es X.env := by rfl) (hpl : (backTo pos (starEach es X.env)).any (·.1) = false := by rfl) :
    EvS X Wx (.Call (.Name x p) (e :: es) [] pos) (callV i tab ms fs) := by
  refine ⟨fun pins s σ H Q I h => ?_⟩
  obtain ⟨F, env, own, S, h⟩ := h
  unfold callV at h
  cases e1 : env[i]? with
  | none => rw [e1] at h; exact h.elim
  | some o =>
    rw [e1] at h
    cases o with
    | none => exact h.elim
    | some wv =>
      cases wv with
      | l b ds => exact h.elim
      | m ks ds => exact h.elim
      | x _ => exact h.elim
      | v d =>
        cases d with
        | nam b c =>
          cases b with
          | true => exact h.elim
          | false =>
            dsimp only at h
            cases e2 : tab.lookup c with
            | none => rw [e2] at h; exact h.elim
            | some g =>
              rw [e2] at h
              obtain ⟨N, ps, hps, C⟩ := T c g (mem_of_lookup e2)
              obtain ⟨f, fd, G, hm, hk, hb⟩ := C.ex
              obtain ⟨C', hm', hns⟩ := N.ex
              rw [hm] at hm'
              cases hm'
              obtain ⟨v, hs, _, rd⟩ := S.rep i _ e1
              have ev : v = .ref f := by
                cases rd with
                | @glob C2 _ hn2 =>
                  rw [hns] at hn2
                  cases hn2
                  rfl
              subst ev
              have ht := call_sem (ms := ms) (fs := fs) (g := g) (Wx := Wx) (K := X.K) (mg := X.mg) (n := ps.length) nd (by omega) (⟨F, env, own, S, h⟩ : tOf X.K X.mg Wx (callF g ms fs) σ H Q)
              refine wpAny_Call_Name_kw (thn ((pe_var (pos := p) hN hv hdb hcd).run pins s σ H (fun v H1 => v = .ref f ∧ H1 = H) I ⟨.ref f, hs, rfl, rfl⟩) fun u s1 z => ?_)
              obtain ⟨v, H1, I1, r1, rfl, rfl⟩ := z
              cases r1
              refine PySem.W.callWith_K (h₀ := X.base) I.ok.mod.kin hk (thn (ha.run pos pins s1 σ _ _ I1 ht) fun us s2 z => ?_) he hpl
              obtain ⟨vs, H2, I2, r, q⟩ := z
              exact ⟨I2.kIn, run_fnSD (E := fun σ c d H' => Wx c d σ H') G (hr.mono hjk) hb .nil (passAt tk σ) I2 r q⟩
        | _ => exact h.elim
/-- never reached -/
def eStuck : M U := fun _ => .stuck
def sStuck : M Fl := fun _ => .stuck
theorem e_stuck {e : Expr} : EvS X Wx e eStuck := ⟨fun pins s σ H Q I h => by
  obtain ⟨F, env, own, S, h⟩ := h
  exact h.elim⟩
theorem s_stuck {st : Stmt} {is : List Nat} : StS X Wx st is sStuck := ⟨fun pins s σ H Q I h => by
  obtain ⟨F, env, own, S, h⟩ := h
  exact h.elim⟩
end
end DL

/-! Dicts whose keys are tuples of ints. -/
namespace DL
open PySem PySem.Spec PyProof.Rows L2

/-! ### plain -/
def dGet : List (List Int) → List D → List Int → Option D
  | k' :: ks, d :: ds, k => if k' = k then some d else dGet ks ds k
  | _, _, _ => none
def dRep : List (List Int) → List D → List Int → D → List D
  | k' :: ks, d' :: ds, k, d => (if k' = k then d else d') :: dRep ks ds k d
  | _, _, _, _ => []
def dPutK (ks : List (List Int)) (k : List Int) : List (List Int) := if k ∈ ks then ks else ks ++ [k]
def dPutD (ks : List (List Int)) (ds : List D) (k : List Int) (d : D) : List D := if k ∈ ks then dRep ks ds k d else ds ++ [d]

/-! ### as HandS has it -/
theorem keyI_inj {k k' : List Int} : keyI k = keyI k' ↔ k = k' := by
  constructor
  · intro h
    unfold keyI at h
    exact (List.map_inj_right (fun a b z => by injection z)).mp h
  · intro h
    rw [h]
theorem keyI_kV (k : List Int) : (keyI k).map kV = k.map V.int := by
  unfold keyI
  rw [List.map_map]
  rfl
section
variable {K : PySem.W.Frag} {F : Hp}
theorem get_rep : ∀ {kvs : List (List Key × V)} {ks : List (List Int)} {ds : List D} (k : List Int), kvs.map (·.1) = ks.map keyI → RepDs K F (kvs.map (·.2)) ds → match dGet ks ds k with
    | some d => ∃ v, valV kvs (keyI k) = some v ∧ RepD K F v d
    | none => valV kvs (keyI k) = none
  | [], ks, ds, k, hk, r => by
    have hk : ks = [] := by cases ks with | nil => rfl | cons a b => simp at hk
    subst hk
    exact valV_nil
  | (k0, v0) :: kvs, ks, ds, k, hk, r => by
    cases ks with
    | nil => simp at hk
    | cons k' ks =>
      simp only [List.map_cons, List.cons.injEq] at hk r
      cases r with
      | @cons _ d _ ds' h t =>
        obtain ⟨e, hk⟩ := hk
        by_cases c : k' = k
        · subst c
          rw [show dGet (k' :: ks) (d :: ds') k' = some d by simp [dGet]]
          exact ⟨v0, valV_pos e, h⟩
        · have := get_rep k hk t
          rw [show dGet (k' :: ks) (d :: ds') k = dGet ks ds' k by simp [dGet, c]]
          have ne : ¬ (k0, v0).1 = keyI k := fun z => c (keyI_inj.mp (e.symm.trans z))
          split at this
          · rw [valV_neg ne]
            exact this
          · rw [valV_neg ne]
            exact this
theorem any_key : ∀ {kvs : List (List Key × V)} {ks : List (List Int)} (k : List Int), kvs.map (·.1) = ks.map keyI → (kvs.any fun kv => decide (kv.1 = keyI k)) = decide (k ∈ ks)
  | [], ks, k, hk => by
    have hk : ks = [] := by cases ks with | nil => rfl | cons a b => simp at hk
    subst hk
    rfl
  | q :: kvs, ks, k, hk => by
    cases ks with
    | nil => simp at hk
    | cons k' ks =>
      simp only [List.map_cons, List.cons.injEq] at hk
      rw [List.any_cons, any_key k hk.2, hk.1]
      by_cases c : k = k'
      · subst c
        simp
      · have : ¬ keyI k' = keyI k := fun z => c (keyI_inj.mp z).symm
        simp [this, c]
theorem put_rep {kvs : List (List Key × V)} {ks : List (List Int)} {ds : List D} (k : List Int) {v : V} {d : D} (hk : kvs.map (·.1) = ks.map keyI) (r : RepDs K F (kvs.map (·.2)) ds) (rv : RepD K F v d) :
    (putK kvs (keyI k) v).map (·.1) = (dPutK ks k).map keyI ∧ RepDs K F ((putK kvs (keyI k) v).map (·.2)) (dPutD ks ds k d) := by
  unfold putK dPutK dPutD
  rw [any_key k hk]
  by_cases c : k ∈ ks
  · rw [decide_eq_true c, if_pos rfl, if_pos c, if_pos c]
    clear c
    induction kvs generalizing ks ds with
    | nil =>
      have hk : ks = [] := by cases ks with | nil => rfl | cons a b => simp at hk
      subst hk
      cases r
      exact ⟨rfl, .nil⟩
    | cons q kvs ih =>
      cases ks with
      | nil => simp at hk
      | cons k' ks =>
        simp only [List.map_cons, List.cons.injEq] at hk r ⊢
        cases r with
        | @cons _ d0 _ ds' h t =>
          obtain ⟨i1, i2⟩ := ih hk.2 t
          have e1 : (if q.1 = keyI k then (q.1, v) else q).1 = q.1 := by split <;> rfl
          refine ⟨⟨e1.trans hk.1, i1⟩, ?_⟩
          rw [dRep]
          refine .cons ?_ i2
          by_cases c : k' = k
          · subst c
            rw [if_pos hk.1, if_pos rfl]
            exact rv
          · have ne : ¬ q.1 = keyI k := fun z => c (keyI_inj.mp (hk.1.symm.trans z))
            rw [if_neg ne, if_neg c]
            exact h
  · rw [decide_eq_false c, if_neg (by simp), if_neg c, if_neg c]
    rw [List.map_append, List.map_append, List.map_append, hk]
    exact ⟨rfl, r.append (.cons rv .nil)⟩
/-- a key, as HandS wants it -/
theorem key_rep {b : V} {es : List D} {k : List Int} (h : RepD K F b (.tup es)) (hi : intsOf es = some k) : ∃ a, b = .ref a ∧ F a = some (.tup ((keyI k).map kV)) := by
  cases h with
  | @tup a vs _ q r =>
    rw [intsOf_eq hi] at r
    have := r.ints
    subst this
    exact ⟨a, rfl, by rw [keyI_kV]; exact q⟩
end

/-! ### d[k], k in d -/
def gDGet : List D → Option W
  | [.dic ks ds, .tup es] => match intsOf es with
    | some k => (dGet ks ds k).map .v
    | none => none
  | _ => none
def gDIn : List D → Option W
  | [.tup es, .dic ks ds] => match intsOf es with
    | some k => some (.v (.bl (dGet ks ds k).isSome))
    | none => none
  | _ => none
def gDNotIn : List D → Option W
  | [.tup es, .dic ks ds] => match intsOf es with
    | some k => some (.v (.bl (!(dGet ks ds k).isSome)))
    | none => none
  | _ => none
def rDGet : R2 := fun x y H Q => ∃ a v, x = .ref a ∧ DGet H a y (some v) ∧ Q v H
def rDIn : R2 := fun y x H Q => ∃ a o, x = .ref a ∧ DGet H a y o ∧ Q (.bl o.isSome) H
def rDNotIn : R2 := fun y x H Q => ∃ a o, x = .ref a ∧ DGet H a y o ∧ Q (.bl (!o.isSome)) H
section
variable {X : Cx} {Wx : WX} {a b : Expr} {fa fb : M U} {pos : Pos}
theorem op_dIn (hu : X.A.units + 1 < cLine) : OpR X (compareOp .In) rDIn := by
  intro pins s σ H y x v u Q I ry rx h
  obtain ⟨a, o, rfl, g, q⟩ := h
  cases (show u = Value.ref a from rx)
  exact d_in hu I g ry fun s3 I3 => ⟨.bl o.isSome, H, I3, rfl, q⟩
theorem op_dNotIn (hu : X.A.units + 1 < cLine) : OpR X (compareOp .NotIn) rDNotIn := by
  intro pins s σ H y x v u Q I ry rx h
  obtain ⟨a, o, rfl, g, q⟩ := h
  cases (show u = Value.ref a from rx)
  exact d_notIn hu I g ry fun s3 I3 => ⟨.bl (!o.isSome), H, I3, rfl, q⟩
theorem dget_view {K : PySem.W.Frag} {F H : Hp} {x y : V} {ks : List (List Int)} {ds es : List D} {k : List Int} (e : Same F H) (hx : View K F H x (.dic ks ds)) (hy : View K F H y (.tup es)) (hi : intsOf es = some k) :
    ∃ a o, x = .ref a ∧ DGet H a y o ∧ match dGet ks ds k with
      | some d => ∃ v, o = some v ∧ RepD K F v d
      | none => o = none := by
  obtain ⟨a, kvs, rfl, hH, hk, r⟩ := hx
  obtain ⟨b, rfl, hb⟩ := key_rep (show RepD K F y (.tup es) from hy) hi
  refine ⟨a, valV kvs (keyI k), rfl, DGet.t hH (e _ _ hb), ?_⟩
  exact get_rep k hk r
theorem cd_dGet {K : PySem.W.Frag} : CaD K (r2 rDGet) gDGet := by
  intro F H vs ds w Q e vw hg q
  unfold gDGet at hg
  split at hg
  · rename_i ks dd es
    obtain ⟨x, y, rfl, hx, hy⟩ := vw.two
    split at hg
    · rename_i k hi
      obtain ⟨d, hd, rfl⟩ := Option.map_eq_some_iff.mp hg
      obtain ⟨a, o, rfl, g, z⟩ := dget_view e hx hy hi
      rw [hd] at z
      obtain ⟨v, rfl, rv⟩ := z
      exact ⟨_, _, rfl, a, v, rfl, g, fin_rep e rv q⟩
    · cases hg
  · cases hg
theorem cd_dIn {K : PySem.W.Frag} : CaD K (r2 rDIn) gDIn := by
  intro F H vs ds w Q e vw hg q
  unfold gDIn at hg
  split at hg
  · rename_i es ks dd
    obtain ⟨x, y, rfl, hx, hy⟩ := vw.two
    split at hg
    · rename_i k hi
      cases hg
      obtain ⟨a, o, rfl, g, z⟩ := dget_view e hy hx hi
      refine ⟨_, _, rfl, a, o, rfl, g, ?_⟩
      have : o.isSome = (dGet ks dd k).isSome := by
        cases hd : dGet ks dd k with
        | some d =>
          rw [hd] at z
          obtain ⟨v, rfl, _⟩ := z
          rfl
        | none =>
          rw [hd] at z
          rw [z]
          rfl
      rw [this]
      exact fin_bl e q
    · cases hg
  · cases hg
theorem cd_dNotIn {K : PySem.W.Frag} : CaD K (r2 rDNotIn) gDNotIn := by
  intro F H vs ds w Q e vw hg q
  unfold gDNotIn at hg
  split at hg
  · rename_i es ks dd
    obtain ⟨x, y, rfl, hx, hy⟩ := vw.two
    split at hg
    · rename_i k hi
      cases hg
      obtain ⟨a, o, rfl, g, z⟩ := dget_view e hy hx hi
      refine ⟨_, _, rfl, a, o, rfl, g, ?_⟩
      have : o.isSome = (dGet ks dd k).isSome := by
        cases hd : dGet ks dd k with
        | some d =>
          rw [hd] at z
          obtain ⟨v, rfl, _⟩ := z
          rfl
        | none =>
          rw [hd] at z
          rw [z]
          rfl
      rw [this]
      exact fin_bl e q
    · cases hg
  · cases hg
theorem e_dget (hu : X.A.units + 1 < cLine) (ha : EvS X Wx a fa) (hb : EvS X Wx b fb) (hs : NoSl b := by intro _ _; rfl) : EvS X Wx (.Subscript a b pos) (opN gDGet [fa, fb]) :=
  PE.imp (pe_dget hu ha hb hs) fun σ H Q h => tOf_mono (aOf_2 (aOf_op cd_dGet h)) fun _ _ q => tOf_mono q fun _ _ z => r2_two z
/-! ### {} -/
def eDNew : M U := fun env => .ok (.w (.m [] [])) env
theorem e_dnew : EvS X Wx (.Dict [] [] pos) eDNew := PE.imp pe_dnewT fun σ H Q h => by
  obtain ⟨F, env, own, S, h⟩ := h
  intro p hp
  have g : Grow F H F (upd H p (.dT [])) (fun a => a = p) := Grow.ofOwn S.ex hp
  exact h (.ref p) F (upd H p (.dT [])) own (fun a => a = p) (g.out (OutR.refl S) ⟨p, [], rfl, fun _ => Iff.rfl, upd_same, sub_none S.ex hp, rfl, .nil⟩)
end
/-! ### d[k] = e -/
section
variable {K : PySem.W.Frag} {F H : Hp} {σ : L2.St} {env : DEnv} {own : Nat → Fp}
theorem Sit.mutM {i : Nat} {a : Addr} {ks ks' : List (List Int)} {ds ds' : List D} {kvs' : List (List Key × V)} (S : Sit K F σ H env own) (he : env[i]? = some (some (.m ks ds))) (hσ : σ[i]? = some (some (.ref a))) (hk' : kvs'.map (·.1) = ks'.map keyI) (r : RepDs K F (kvs'.map (·.2)) ds') :
    OutR K F H own σ (env.set i (some (.m ks' ds'))) F (upd H a (.dT kvs')) own := by
  obtain ⟨v, hv, a', vs, ev, hp, hH, hF, hk, r0⟩ := S.rep i _ he
  rw [hσ] at hv
  cases hv
  cases ev
  have hi : i < env.length := (List.getElem?_eq_some_iff.mp he).1
  have pa : own i a := (hp a).mpr rfl
  refine ⟨⟨fun x o h => ?_, by rw [List.length_set]; exact S.len, fun j w e => ?_, fun j x z => ?_, S.dis⟩, Same.refl _, fun x o h n => ?_, fun x z => .inl z, fun x o h n => by rw [h] at n; cases n⟩
  · have ne : x ≠ a := fun z => by rw [z, hF] at h; cases h
    rw [upd_ne ne]
    exact S.ex x o h
  · by_cases hj : j = i
    · subst hj
      rw [List.getElem?_set_self hi] at e
      cases e
      exact ⟨.ref a, hσ, a, kvs', rfl, hp, upd_same, hF, hk', r⟩
    · rw [List.getElem?_set_ne (Ne.symm hj)] at e
      obtain ⟨u, hu, ru⟩ := S.rep j w e
      refine ⟨u, hu, ru.frame (Same.refl _) (fun x o q h => ?_) fun x q => (ru.there q).2⟩
      have ne : x ≠ a := fun z => hj (S.dis j i x q (z ▸ pa))
      rw [upd_ne ne]
      exact h
  · by_cases hj : j = i
    · subst hj; exact ⟨_, List.getElem?_set_self hi⟩
    · obtain ⟨w, e⟩ := S.emp j x z
      exact ⟨w, by rw [List.getElem?_set_ne (Ne.symm hj)]; exact e⟩
  · have ne : x ≠ a := fun z => n (z ▸ ⟨i, pa⟩)
    rw [upd_ne ne]
    exact h
end
def sStoreD (i : Nat) (fk fe : M U) : M Fl := fun env => match env[i]? with
  | some (some (.m _ _)) => (fe env).bind fun u e1 => (fk e1).bind fun uk e2 => (match frz1 e2 u with
    | some (d, e3) => (match dat e3 uk, e3[i]? with
      | some (.tup es), some (some (.m ks ds)) => (match intsOf es with
        | some k => if ds.length < 1000000 then .ok .next (e3.set i (some (.m (dPutK ks k) (dPutD ks ds k d)))) else .stuck
        | none => .stuck)
      | _, _ => .stuck)
    | none => .stuck)
  | _ => .stuck
section
variable {X : Cx} {Wx : WX} {e k : Expr} {fe fk : M U} {i : Nat} {x : Str} {pos p1 tpos : Pos}
theorem s_storeD (hu : X.A.units + 1 < cLine) (he : EvS X Wx e fe) (hk : EvS X Wx k fk) (hN : X.N[i]? = some x := by rfl) (hv : Vis X.env.scope x := by first | exact Or.inl rfl | exact Or.inr (Or.inl rfl) | exact Or.inr (Or.inr rfl)) (hd : (x == ("__debug__" : Str)) = false := by decide) (hcd : (x == ("__classdict__" : Str)) = false := by decide)
    (hs : swapsWith e (some (.Subscript (.Name x p1) k tpos)) pos.line X.env = pure false := by rfl) :
    StS X Wx (.Assign [.Subscript (.Name x p1) k tpos] e pos) [] (sStoreD i fk fe) :=
  PS.imp (ps_dput hu (pe_var hN hv hd hcd) hk he hs) fun E σ H h => by
  obtain ⟨F, env, own, S, h⟩ := h
  have h : Po X.K X.mg Wx [] E σ F H own (sStoreD i fk fe env) := h
  cases hw0 : env[i]? with
  | none => unfold sStoreD at h; rw [hw0] at h; exact h.elim
  | some ow =>
    cases ow with
    | none => unfold sStoreD at h; rw [hw0] at h; exact h.elim
    | some w0 =>
      cases w0 with
      | v d => unfold sStoreD at h; rw [hw0] at h; exact h.elim
      | l b ds => unfold sStoreD at h; rw [hw0] at h; exact h.elim
      | x _ => unfold sStoreD at h; rw [hw0] at h; exact h.elim
      | m ks0 ds0 =>
        unfold sStoreD at h
        rw [hw0] at h
        dsimp only at h
        obtain ⟨v, hv, a, vs, rfl, hp, hH, hF, hk0, r0⟩ := S.rep i _ hw0
        refine tOf_use S (fun u env1 e1 v1 F1 H1 own1 p O1 => ?_) (fun c env1 e1 C F1 H1 own1 hm O1 => ?_) (fun e1 => ?_)
        · rw [e1, R.bind_ok] at h
          refine ⟨.ref a, hv, ?_⟩
          refine tOf_use O1.S (fun uk env2 e2 vk F2 H2 own2 p2 O2 => ?_) (fun c env2 e2 C F2 H2 own2 hm O2 => ?_) (fun e2 => ?_)
          · rw [e2, R.bind_ok] at h
            have OO := O1.out2 O2
            cases e3 : frz1 env2 u with
            | none => rw [e3] at h; exact h.elim
            | some pr =>
              obtain ⟨d, env3⟩ := pr
              rw [e3] at h
              dsimp only at h
              obtain ⟨F3, own3, S3, r3, s3⟩ := frz1_ok OO.S OO.r1 OO.d1 e3
              have st := OO.s.trans ((s3.more p2).sup fun x z => by
                rcases z with (z | z) | z
                · exact .inl (.inl z)
                · exact .inr z
                · exact .inl (.inr z))
              obtain ⟨rk, dk⟩ := RepU.stepU OO.r2 (fun x q z => by
                rcases z with z | z
                · exact OO.d2 x q z
                · exact OO.d12 x z q) s3
              have O3 : OutR X.K F H own σ env3 F3 H2 own3 := ⟨S3, st.sub fun x z => .inl z⟩
              cases e4 : dat env3 uk with
              | none => rw [e4] at h; exact h.elim
              | some dk' =>
                have vw := RepU.view S3 rk e4
                cases dk' with
                | tup es =>
                  cases e5 : env3[i]? with
                  | none => rw [e4, e5] at h; exact h.elim
                  | some ow =>
                    cases ow with
                    | none => rw [e4, e5] at h; exact h.elim
                    | some w =>
                      cases w with
                      | v _ => rw [e4, e5] at h; exact h.elim
                      | l _ _ => rw [e4, e5] at h; exact h.elim
                      | x _ => rw [e4, e5] at h; exact h.elim
                      | m ks ds =>
                        rw [e4, e5] at h
                        dsimp only at h
                        cases e6 : intsOf es with
                        | none => rw [e6] at h; exact h.elim
                        | some k =>
                          rw [e6] at h
                          dsimp only at h
                          split at h
                          · rename_i hlen
                            obtain ⟨v2, hv2, a2, kvs2, ev2, hp2, hH2, hF2, hk2, r4⟩ := S3.rep i _ e5
                            rw [hv] at hv2
                            cases hv2
                            cases ev2
                            obtain ⟨b, hb, hbF⟩ := key_rep (show RepD X.K F3 vk (.tup es) from vw) e6
                            subst hb
                            obtain ⟨q1, q2⟩ := put_rep k hk2 r4 r3
                            have hl2 : kvs2.length < sizeLine := by
                              have := r4.length
                              rw [List.length_map] at this
                              rw [this]
                              exact szl hlen
                            exact ⟨a, _, rfl, DPut.t hH2 (S3.ex _ _ hbF) hl2, h _ _ _ _ Only.refl (O3.trans (S3.mutM e5 hv q1 q2))⟩
                          · exact h.elim
                | _ => rw [e4] at h; exact h.elim
          · rw [e2] at h
            exact h C σ F2 H2 own2 Only.refl hm (O1.drop.trans O2)
          · rw [e2] at h
            exact h
        · rw [e1] at h
          exact h C σ F1 H1 own1 Only.refl hm O1
        · rw [e1] at h
          exact h
end
/-! ### {k: c} -/
def tDisp1 (tk : TE) (c : Int) : TE := fun σ H Q => ∀ p, H p = none → tk σ (upd H p (.dT [])) fun x H1 => ∃ b kk, x = .ref b ∧ H1 b = some (.tup (kk.map kV)) ∧ H1 p = some (.dT []) ∧ Q (.ref p) (upd H1 p (.dT [(kk, .int c)]))
section
variable {X : Cx} {Wx : WX} {k : Expr} {tk : TE} {fk : M U} {c : Int} {j : Nat} {pos p2 : Pos}
theorem pe_disp1 (hu : X.A.units + 1 < cLine) (hk : PE X k tk) : PE X (.Dict [some k] [.Constant (.int c) j p2] pos) (tDisp1 tk c) := by
  refine ⟨fun pins s σ H Q I q => ?_⟩
  have hn := I.hok.fresh (Nat.le_refl s.heap.objs.size)
  have I1 := I.laid (a := s.heap.objs.size) (o := .dT []) (h' := s.heap.push { cls := .type "dict", data := .dict #[] }) (t' := s.toks) (fun _ _ q => Heap.get?_push_of_some _ q) (Nat.le_refl _) (dt_empty s.heap I.big)
  have hlen := pairTrees_length [some k] [.Constant (.int c) j p2] X.env pos rfl rfl
  have h0 : pairTrees [some k] [.Constant (.int c) j p2] X.env pos ≠ [] := fun z => by
    rw [z] at hlen
    cases hlen
  have hl1 : (pairTrees [some k] [.Constant (.int c) j p2] X.env pos).length ≤ 15 := by
    rw [hlen]
    show 1 ≤ 15
    decide
  rw [arm_eval_Dict, zip_pairTrees [some k] [.Constant (.int c) j p2] X.env pos rfl rfl, dictDisplay_pairs _ h0 (by omega)]
  refine wpAny_bind (wpAny_standAt (wpAny_bind (wpAny_subDictH (knd := tupleKind (mixKind X.prog X.w)) (Q := fun d s' => wpAny (model X.prog X.w) X.A (pure (Value.ref d)) (EP X pins σ Q) X.xe s') ?_ hl1 ?_)))
  · show X.A.units < cLine
    omega
  · refine pairTrees_cons_walk (thn (hk.run pins _ σ _ _ I1 (q _ hn)) fun u s1 z => ?_)
    obtain ⟨x, H1, I2, rx, b, kk, rfl, hb, hp, hq⟩ := z
    cases (show u = Value.ref b from rx)
    refine thn (pe_int.run pins s1 σ H1 (fun y H2 => y = .int c ∧ H2 = H1) I2 ⟨rfl, rfl⟩) fun w2 s2 z => ?_
    obtain ⟨y, H2, I3, ry, rfl, rfl⟩ := z
    refine pairTrees_nil_walk ?_
    obtain ⟨z, hd, xs, rel, dd⟩ := dt_of I3.hok hp
    cases rel
    refine ⟨[(kk, b, w2)], ⟨rfl, rfl, key_of I3.hok hb, trivial⟩, dd, fun h' tk' dk hs => wpAny_pure ?_⟩
    obtain ⟨q', es, ep, hq', h2, h3, h4, _, h5⟩ := dk
    have hb' : upd H2 s.heap.objs.size (.dT [(kk, .int c)]) b = some (.tup (kk.map kV)) := by
      rw [upd_ne (ne_of hb hp (fun z => nomatch z))]
      exact hb
    have ok : ObjOk X.prog X.w (upd H2 s.heap.objs.size (.dT [(kk, .int c)])) h' s.heap.objs.size (.dT [(kk, .int c)]) :=
      ⟨by show 1 ≤ sizeLine; decide, hd, [(kk, b, w2)], .cons ⟨rfl, hb', ry⟩ .nil, q', es, ep, hq', h2, h3, h4, h5⟩
    exact ⟨.ref s.heap.objs.size, _, d_write I3 (by rw [hp]; exact True.intro) hs ⟨q', hq'⟩ ok, rfl, hq⟩
def eDict1 (fk : M U) (c : Int) : M U := fun env => (fk env).bind fun u e1 => match dat e1 u with
  | some (.tup es) => (match intsOf es with
    | some k => .ok (.w (.m [k] [.int c])) e1
    | none => .stuck)
  | _ => .stuck
theorem e_disp1 (hu : X.A.units + 1 < cLine) (hk : EvS X Wx k fk) : EvS X Wx (.Dict [some k] [.Constant (.int c) j p2] pos) (eDict1 fk c) := PE.imp (pe_disp1 hu hk) fun σ H Q h => by
  obtain ⟨F, env, own, S, h⟩ := h
  intro p hp
  have g : Grow F H F (upd H p (.dT [])) (fun a => a = p) := Grow.ofOwn S.ex hp
  have S' := g.sit S
  have npo : ¬ all own p := fun z => by
    obtain ⟨⟨o, e⟩, _⟩ := S.there z
    rw [hp] at e
    cases e
  unfold eDict1 at h
  refine tOf_use S' (fun u env1 e1 v F1 H1 own1 p1 O1 => ?_) (fun c' env1 e1 C F1 H1 own1 hm O1 => ?_) (fun e1 => ?_)
  · rw [e1, R.bind_ok] at h
    cases e2 : dat env1 u with
    | none => rw [e2] at h; exact h.elim
    | some dd =>
      rw [e2] at h
      have vw := RepU.view O1.S O1.r e2
      cases dd with
      | tup es =>
        dsimp only at h
        cases e3 : intsOf es with
        | none => rw [e3] at h; exact h.elim
        | some kk =>
          rw [e3] at h
          obtain ⟨b, rfl, hb⟩ := key_rep (show RepD X.K F1 v (.tup es) from vw) e3
          have hp1 : H1 p = some (.dT []) := O1.s.keep p _ upd_same npo
          have np1 : ¬ all own1 p := fun z => by
            rcases O1.s.new p (.inl z) with y | y
            · exact npo y
            · rw [upd_same] at y
              cases y
          have nF1 : F1 p = none := by
            cases q : F1 p with
            | none => rfl
            | some o =>
              rcases O1.s.frz p o q (sub_none S.ex hp) with y | y
              · exact absurd y npo
              · rw [upd_same] at y
                cases y
          refine ⟨b, keyI kk, rfl, O1.S.ex _ _ hb, hp1, ?_⟩
          refine h (.ref p) F1 (upd H1 p (.dT [(keyI kk, .int c)])) own1 (fun a => a = p) ⟨⟨fun x o q => ?_, O1.S.len, fun i w q => ?_, O1.S.emp, O1.S.dis⟩, ⟨p, [(keyI kk, .int c)], rfl, fun _ => Iff.rfl, upd_same, nF1, rfl, .cons (.int c) .nil⟩, fun a z => by rw [z]; exact np1, O1.s.ex, fun a o q n => ?_, fun a z => ?_, fun a o q n => ?_⟩
          · have ne : x ≠ p := fun z => by rw [z, nF1] at q; cases q
            rw [upd_ne ne]
            exact O1.S.ex x o q
          · obtain ⟨v2, hv2, r2⟩ := O1.S.rep i w q
            refine ⟨v2, hv2, r2.frame (Same.refl _) (fun x o q h => ?_) fun x q => (r2.there q).2⟩
            have ne : x ≠ p := fun z => np1 ⟨i, z ▸ q⟩
            rw [upd_ne ne]
            exact h
          · have ne : a ≠ p := fun z => by rw [z, hp] at q; cases q
            rw [upd_ne ne]
            exact O1.s.keep a o (by rw [upd_ne ne]; exact q) n
          · rcases z with z | z
            · rcases O1.s.new a (.inl z) with y | y
              · exact .inl y
              · by_cases c : a = p
                · rw [c]; exact .inr hp
                · rw [upd_ne c] at y
                  exact .inr y
            · rw [z]; exact .inr hp
          · rcases O1.s.frz a o q n with y | y
            · exact .inl y
            · by_cases c : a = p
              · rw [c]; exact .inr hp
              · rw [upd_ne c] at y
                exact .inr y
      | _ => exact h.elim
  · rw [e1] at h
    refine h C F1 H1 own1 hm ⟨O1.S, O1.s.ex, fun a o q n => ?_, fun a z => ?_, fun a o q n => ?_⟩
    · have ne : a ≠ p := fun z => by rw [z, hp] at q; cases q
      exact O1.s.keep a o (by rw [upd_ne ne]; exact q) n
    · rcases O1.s.new a z with y | y
      · exact .inl y
      · by_cases c : a = p
        · rw [c]; exact .inr hp
        · rw [upd_ne c] at y
          exact .inr y
    · rcases O1.s.frz a o q n with y | y
      · exact .inl y
      · by_cases c : a = p
        · rw [c]; exact .inr hp
        · rw [upd_ne c] at y
          exact .inr y
  · rw [e1] at h
    exact h
end
end DL

/-! Texts. -/
namespace DL
open PySem PySem.Spec PyProof.Rows L2

def strsOf : List D → Option (List Str)
  | [] => some []
  | .str x :: r => (strsOf r).map (x :: ·)
  | _ => none
theorem strsOf_eq : ∀ {ds : List D} {ys : List Str}, strsOf ds = some ys → ds = ys.map D.str
  | [], ys, h => by cases h; rfl
  | .str x :: r, ys, h => by
    have h : (strsOf r).map (x :: ·) = some ys := h
    obtain ⟨zs, h1, rfl⟩ := Option.map_eq_some_iff.mp h
    rw [strsOf_eq h1]
    rfl
  | .non :: _, _, h => by cases h
  | .bl _ :: _, _, h => by cases h
  | .int _ :: _, _, h => by cases h
  | .tup _ :: _, _, h => by cases h
  | .lst _ :: _, _, h => by cases h
  | .ty _ :: _, _, h => by cases h
  | .nam _ _ :: _, _, h => by cases h
  | .scr _ :: _, _, h => by cases h
  | .dic _ _ :: _, _, h => by cases h
  | .dix _ _ _ :: _, _, h => by cases h
  | .ins _ _ _ :: _, _, h => by cases h
theorem strsOf_map : ∀ ys : List Str, strsOf (ys.map D.str) = some ys
  | [] => rfl
  | y :: r => by
    show (strsOf (r.map D.str)).map (y :: ·) = some (y :: r)
    rw [strsOf_map r]
    rfl
theorem RepDs.strs {K : PySem.W.Frag} {F : Hp} : ∀ {vs : List V} {ys : List Str}, RepDs K F vs (ys.map D.str) → vs = ys.map V.str
  | _, [], .nil => rfl
  | _, _ :: _, .cons (.str _) t => by rw [List.map_cons, ← RepDs.strs t]
theorem RepDs.of_strs {K : PySem.W.Frag} {F : Hp} : ∀ ys : List Str, RepDs K F (ys.map V.str) (ys.map D.str)
  | [] => .nil
  | n :: r => .cons (.str n) (RepDs.of_strs r)
theorem szm {n : Nat} (h : n ≤ 1000000) : n ≤ sizeLine := Nat.le_trans h (by decide)
theorem szm2 {n : Nat} (h : n ≤ 1000000) : n + 2 ≤ sizeLine := Nat.le_trans (Nat.add_le_add_right h 2) (by decide)
/-! ### o.m(e), o a text -/
def opMS (g : List D → Option W) (fo fe : M U) : M U := fun env => (fo env).bind fun u0 e0 => match dat e0 u0 with
  | some (.str _) => (fe e0).bind fun u e1 => (match dat e1 u0, dat e1 u with
    | some d0, some d => (match g [d0, d] with
      | some w => .ok (.w w) e1
      | none => .stuck)
    | _, _ => .stuck)
  | _ => .stuck
theorem meth_semS {K : PySem.W.Frag} {mg : Str → Option Value} {Wx : WX} {r : V → List V → Hp → VK → Prop} {g : List D → Option W} {fo fe : M U} {σ : L2.St} {H : Hp} {Q : VK} (cd : CaD K (rM r) g) (h : tOf K mg Wx (opMS g fo fe) σ H Q) :
    tM1 r (tOf K mg Wx fo) (tOf K mg Wx fe) σ H Q := by
  obtain ⟨F, env, own, S, h⟩ := h
  unfold opMS at h
  refine tOf_use S (fun u0 env0 e0 v0 F0 H0 own0 p0 O0 => ?_) (fun c env1 e1 C F1 H1 own1 => ?_) (fun e1 => ?_)
  · rw [e0, R.bind_ok] at h
    cases ed : dat env0 u0 with
    | none => rw [ed] at h; exact h.elim
    | some d0 =>
      rw [ed] at h
      cases d0 with
      | str x0 =>
        dsimp only at h
        have hx := (RepU.view O0.S O0.r ed).str
        refine ⟨⟨x0, hx⟩, ?_⟩
        refine tOf_use O0.S (fun u env1 e1 v F1 H1 own1 p1 O1 => ?_) (fun c env1 e1 C F1 H1 own1 hm O1 => ?_) (fun e1 => ?_)
        · rw [e1, R.bind_ok] at h
          have OO := O0.out2 O1
          cases e2 : dat env1 u0 with
          | none => rw [e2] at h; exact h.elim
          | some d1 =>
            cases e3 : dat env1 u with
            | none => rw [e2, e3] at h; exact h.elim
            | some d =>
              rw [e2, e3] at h
              dsimp only at h
              cases e4 : g [d1, d] with
              | none => rw [e4] at h; exact h.elim
              | some w =>
                rw [e4] at h
                obtain ⟨x, y, ex, q⟩ := cd F1 H1 [v0, v] [d1, d] w Q OO.S.ex (.cons (RepU.view OO.S OO.r1 e2) (.cons (RepU.view OO.S OO.r2 e3) .nil)) e4 fun v' F' H' p gr rw' => h _ _ _ _ _ (gr.out OO.drop rw')
                cases ex
                exact q
        · rw [e1] at h
          exact h C F1 H1 own1 hm (O0.drop.trans O1)
        · rw [e1] at h
          exact h
      | _ => exact h.elim
  · rw [e1] at h
    exact h C F1 H1 own1
  · rw [e1] at h
    exact h

def gSplit : List D → Option W
  | [.str a, .str b] => if (b.length == 0) = false ∧ a.length ≤ 1000000 then some (.l false ((Txt.split a b).map D.str)) else none
  | _ => none
def gPart : List D → Option W
  | [.str a, .str b] => if (b.length == 0) = false ∧ a.length ≤ 1000000 then some (.v (.tup [.str (Txt.partition a b).1, .str (Txt.partition a b).2.1, .str (Txt.partition a b).2.2])) else none
  | _ => none
def gJoin : List D → Option W
  | [.str a, .lst ds] => match strsOf ds with
    | some ys => if (ys.map (·.length)).sum + ys.length * a.length ≤ 1000000 then some (.v (.str (Txt.join a ys))) else none
    | none => none
  | _ => none
def rSplitS : V → List V → Hp → VK → Prop := fun x xs H Q => ∃ a b, x = .str a ∧ xs = [.str b] ∧ (b.length == 0) = false ∧ a.length + 2 ≤ sizeLine ∧ rNewStrs (Txt.split a b) H Q
def rPartS : V → List V → Hp → VK → Prop := fun x xs H Q => ∃ a b, x = .str a ∧ xs = [.str b] ∧ (b.length == 0) = false ∧ a.length ≤ sizeLine ∧
  ∀ p, H p = none → Q (.ref p) (upd H p (.tup [.str (Txt.partition a b).1, .str (Txt.partition a b).2.1, .str (Txt.partition a b).2.2]))
def rJoinS (K : PySem.W.Frag) : V → List V → Hp → VK → Prop := fun x xs H Q => ∃ a p, ∃ ys : List Str, x = .str a ∧ xs = [.ref p] ∧ (SqL K H p (ys.map V.str) ∨ SqT K H p (ys.map V.str)) ∧
  (ys.map (·.length)).sum + ys.length * a.length ≤ 16777216 ∧ Q (.str (Txt.join a ys)) H
theorem cd_split {K : PySem.W.Frag} : CaD K (rM rSplitS) gSplit := by
  intro F H vs ds w Q e vw hg q
  unfold gSplit at hg
  split at hg
  · rename_i a b
    obtain ⟨x, y, rfl, hx, hy⟩ := vw.two
    split at hg
    · rename_i hc
      cases hg
      refine ⟨x, y, rfl, a, b, hx.str, by rw [hy.str], hc.1, szm2 hc.2, ?_⟩
      exact fin_lst e (RepDs.of_strs _) q
    · cases hg
  · cases hg
theorem cd_part {K : PySem.W.Frag} : CaD K (rM rPartS) gPart := by
  intro F H vs ds w Q e vw hg q
  unfold gPart at hg
  split at hg
  · rename_i a b
    obtain ⟨x, y, rfl, hx, hy⟩ := vw.two
    split at hg
    · rename_i hc
      cases hg
      refine ⟨x, y, rfl, a, b, hx.str, by rw [hy.str], hc.1, szm hc.2, ?_⟩
      exact fin_tup e (.cons (.str _) (.cons (.str _) (.cons (.str _) .nil))) q
    · cases hg
  · cases hg
theorem cd_join {K : PySem.W.Frag} : CaD K (rM (rJoinS K)) gJoin := by
  intro F H vs ds w Q e vw hg q
  unfold gJoin at hg
  split at hg
  · rename_i a es
    obtain ⟨x, y, rfl, hx, hy⟩ := vw.two
    split at hg
    · rename_i ys hys
      split at hg
      · rename_i hc
        cases hg
        obtain ⟨p, us, rfl, h2, r⟩ := hy.lst
        rw [strsOf_eq hys] at r
        have := r.strs
        subst this
        exact ⟨x, _, rfl, a, p, ys, hx.str, rfl, .inl (.inl h2), Nat.le_trans hc (by decide), fin_str e q⟩
      · cases hg
    · cases hg
  · cases hg
section
variable {X : Cx} {Wx : WX} {o e : Expr} {fo fe : M U} {apos pos : Pos}
theorem e_split (ho : EvS X Wx o fo) (he : EvS X Wx e fe) (hs : starEach [e] X.env = [(false, eval e X.env)] := by rfl) (hbase : attributeBase o "split" X.env (eval o X.env) = eval o X.env := by rfl) (hline : (apos.endLine == pos.line) = true := by rfl) :
    EvS X Wx (.Call (.Attribute o "split" apos) [e] [] pos) (opMS gSplit fo fe) := PE.imp (pe_split ho he hs hbase hline) fun σ H Q h => meth_semS cd_split h
theorem e_part (ho : EvS X Wx o fo) (he : EvS X Wx e fe) (hs : starEach [e] X.env = [(false, eval e X.env)] := by rfl) (hbase : attributeBase o "partition" X.env (eval o X.env) = eval o X.env := by rfl) (hline : (apos.endLine == pos.line) = true := by rfl) :
    EvS X Wx (.Call (.Attribute o "partition" apos) [e] [] pos) (opMS gPart fo fe) := PE.imp (pe_partition ho he hs hbase hline) fun σ H Q h => meth_semS cd_part h
theorem e_join (ho : EvS X Wx o fo) (he : EvS X Wx e fe) (hs : starEach [e] X.env = [(false, eval e X.env)] := by rfl) (hbase : attributeBase o "join" X.env (eval o X.env) = eval o X.env := by rfl) (hline : (apos.endLine == pos.line) = true := by rfl) :
    EvS X Wx (.Call (.Attribute o "join" apos) [e] [] pos) (opMS gJoin fo fe) := PE.imp (pe_join ho he hs hbase hline) fun σ H Q h => meth_semS cd_join h
end

/-! ### int(text), str(int), sign in text, text[a:], text[:b] -/
def gIntS : List D → Option W
  | [.str a] => match PySem.intText? a with
    | some n => if a.length ≤ 640 then some (.v (.int n)) else none
    | none => none
  | _ => none
theorem cd_intS {K : PySem.W.Frag} : CaD K (fun xs H Q => ∃ a n, xs = [.str a] ∧ PySem.intText? a = some n ∧ a.length ≤ 640 ∧ Q (.int n) H) gIntS := by
  intro F H vs ds w Q e vw hg q
  unfold gIntS at hg
  split at hg
  · rename_i a
    obtain ⟨x, rfl, hx⟩ := vw.one
    split at hg
    · rename_i n hn
      split at hg
      · rename_i hc
        cases hg
        exact ⟨a, n, by rw [hx.str], hn, hc, fin_int e q⟩
      · cases hg
    · cases hg
  · cases hg
def gStrI : List D → Option W
  | [.int i] => if i.natAbs.log2 < 1920 then some (.v (.str (toString i))) else none
  | _ => none
theorem cd_strI {K : PySem.W.Frag} : CaD K (fun xs H Q => ∃ i : Int, xs = [.int i] ∧ i.natAbs.log2 < 1920 ∧ Q (.str (toString i)) H) gStrI := by
  intro F H vs ds w Q e vw hg q
  unfold gStrI at hg
  split at hg
  · rename_i i
    obtain ⟨x, rfl, hx⟩ := vw.one
    split at hg
    · rename_i hc
      cases hg
      exact ⟨i, by rw [hx.int], hc, fin_str e q⟩
    · cases hg
  · cases hg
def gInS : List D → Option W
  | [.str x, .str z] => if x.length = 1 then some (.v (.bl (decide (x.cps.toList.headD 0 ∈ z.cps.toList)))) else none
  | _ => none
def rInS : R2 := fun x y H Q => ∃ (c : Nat) (z : Str), x = .str ⟨#[c]⟩ ∧ y = .str z ∧ Q (.bl (decide (c ∈ z.cps.toList))) H
theorem str_one {x : Str} (h : x.length = 1) : x = ⟨#[x.cps.toList.headD 0]⟩ := by
  obtain ⟨⟨l⟩⟩ := x
  have h : l.length = 1 := h
  match l, h with
  | [c], _ => rfl
theorem cd_inS {K : PySem.W.Frag} : CaD K (r2 rInS) gInS := by
  intro F H vs ds w Q e vw hg q
  unfold gInS at hg
  split at hg
  · rename_i x z
    obtain ⟨u, v, rfl, hx, hy⟩ := vw.two
    split at hg
    · rename_i hc
      cases hg
      exact ⟨u, v, rfl, _, z, by rw [hx.str]; exact congrArg V.str (str_one hc), hy.str, fin_bl e q⟩
    · cases hg
  · cases hg
def gSlS (lo hi : Option Int) : D → Option W
  | .str z => if z.length ≤ 1000000 then some (.v (.str (cutS z lo hi))) else none
  | _ => none
theorem slS_sem {K : PySem.W.Frag} {F H : Hp} {v : V} {d : D} {w : W} {lo hi : Option Int} {Q : VK} (e : Same F H) (hx : View K F H v d) (hg : gSlS lo hi d = some w) (q : ∀ v F' H' p, Grow F H F' H' p → RepW K F' H' v w p → Q v H') : rSlS v lo hi H Q := by
  cases d with
  | str z =>
    have hg : (if z.length ≤ 1000000 then some (W.v (.str (cutS z lo hi))) else none) = some w := hg
    split at hg
    · rename_i hc
      cases hg
      exact ⟨z, hx.str, szm hc, fin_str e q⟩
    · cases hg
  | _ => cases hg
def gSlLS : List D → Option W
  | [d, .int i] => gSlS (some i) none d
  | _ => none
def gSlHS : List D → Option W
  | [d, .int i] => gSlS none (some i) d
  | _ => none
def rLS : List V → Hp → VK → Prop := fun vs H Q => ∃ x i, vs = [x, .int i] ∧ rSlS x (some i) none H Q
def rHS : List V → Hp → VK → Prop := fun vs H Q => ∃ x i, vs = [x, .int i] ∧ rSlS x none (some i) H Q
theorem cd_slLS {K : PySem.W.Frag} : CaD K rLS gSlLS := by
  intro F H vs ds w Q e vw hg q
  unfold gSlLS at hg
  split at hg
  · rename_i d i
    obtain ⟨x, y, rfl, hx, hy⟩ := vw.two
    obtain rfl := hy.int
    exact ⟨_, i, rfl, slS_sem e hx hg q⟩
  · cases hg
theorem cd_slHS {K : PySem.W.Frag} : CaD K rHS gSlHS := by
  intro F H vs ds w Q e vw hg q
  unfold gSlHS at hg
  split at hg
  · rename_i d i
    obtain ⟨x, y, rfl, hx, hy⟩ := vw.two
    obtain rfl := hy.int
    exact ⟨_, i, rfl, slS_sem e hx hg q⟩
  · cases hg
section
variable {X : Cx} {Wx : WX} {a lo hi : Expr} {fa fl fh : M U} {pos p2 : Pos}
theorem e_slLS (ha : EvS X Wx a fa) (hl : EvS X Wx lo fl) : EvS X Wx (.Subscript a (.Slice (some lo) none none p2) pos) (opN gSlLS [fa, fl]) :=
  PE.imp (pe_slice sl_str ha (po_some hl) po_none) fun σ H Q h => tOf_mono (aOf_2 (aOf_op cd_slLS h)) fun _ _ q => tOf_mono q fun _ _ z => by
    obtain ⟨x, i, e, z⟩ := z
    cases e
    exact ⟨i, rfl, z⟩
theorem e_slHS (ha : EvS X Wx a fa) (hl : EvS X Wx hi fh) : EvS X Wx (.Subscript a (.Slice none (some hi) none p2) pos) (opN gSlHS [fa, fh]) :=
  PE.imp (pe_slice sl_str ha po_none (po_some hl)) fun σ H Q h => tOf_mono (aOf_2 (aOf_op cd_slHS h)) fun _ _ q => tOf_mono q fun _ _ z => by
    obtain ⟨x, i, e, z⟩ := z
    cases e
    exact ⟨i, rfl, z⟩
end

/-! ### f'..' -/
def eFmt (f : M U) : M U := fun env => (f env).bind fun u e1 => match dat e1 u with
  | some (.str y) => if y.length ≤ 1000000 then .ok (.w (.v (.str y))) e1 else .stuck
  | some (.int i) => if i.natAbs.log2 < 1920 then .ok (.w (.v (.str (toString i)))) e1 else .stuck
  | _ => .stuck
def eJs : List (M U) → Str → M U
  | [], acc, env => .ok (.w (.v (.str acc))) env
  | f :: fs, acc, env => (f env).bind fun u e1 => match u with
    | .w (.v (.str y)) => if (acc ++ y).length ≤ 1000000 then eJs fs (acc ++ y) e1 else .stuck
    | _ => .stuck
section
variable {X : Cx} {Wx : WX} {e : Expr} {f : M U} {pos : Pos}
theorem e_fmt (he : EvS X Wx e f) : EvS X Wx (.FormattedValue e (-1) none pos) (eFmt f) := PE.imp (pe_fmt he) fun σ H Q h => by
  obtain ⟨F, env, own, S, h⟩ := h
  unfold eFmt at h
  refine tOf_use S (fun u env1 e1 v F1 H1 own1 p O1 => ?_) (fun c env1 e1 C F1 H1 own1 => ?_) (fun e1 => ?_)
  · rw [e1, R.bind_ok] at h
    cases ed : dat env1 u with
    | none => rw [ed] at h; exact h.elim
    | some d =>
      rw [ed] at h
      have vw := RepU.view O1.S O1.r ed
      cases d with
      | str y =>
        dsimp only at h
        split at h
        · rename_i hc
          refine .inl ⟨y, vw.str, szm (by split at hc <;> first | assumption | cases hc), ?_⟩
          split at hc
          · cases hc
            exact h _ _ _ _ _ ((Grow.refl O1.S.ex).out O1.drop (RepW.ofRep (.str y)))
          · cases hc
        · rename_i hc
          split at hc <;> cases hc
        · exact h.elim
      | int i =>
        dsimp only at h
        split at h
        · rename_i hc
          refine .inr ⟨i, vw.int, (by split at hc <;> first | assumption | cases hc), ?_⟩
          split at hc
          · cases hc
            exact h _ _ _ _ _ ((Grow.refl O1.S.ex).out O1.drop (RepW.ofRep (.str _)))
          · cases hc
        · rename_i hc
          split at hc <;> cases hc
        · exact h.elim
      | _ => exact h.elim
  · rw [e1] at h
    exact h C F1 H1 own1
  · rw [e1] at h
    exact h
theorem js_sem {K : PySem.W.Frag} {mg : Str → Option Value} {σ : L2.St} {Q : VK} : ∀ {fs : List (M U)} {acc : Str} {H : Hp}, tOf K mg Wx (eJs fs acc) σ H Q → tJs (fs.map (tOf K mg Wx)) acc σ H fun out H1 => Q (.str out) H1
  | [], acc, H, h => by
    obtain ⟨F, env, own, S, h⟩ := h
    exact h _ _ _ _ _ ((Grow.refl S.ex).out (OutR.refl S) (RepW.ofRep (.str acc)))
  | f :: fs, acc, H, h => by
    obtain ⟨F, env, own, S, h⟩ := h
    unfold eJs at h
    show tOf K mg Wx f σ H _
    refine tOf_use S (fun u env1 e1 v F1 H1 own1 p O1 => ?_) (fun c env1 e1 C F1 H1 own1 => ?_) (fun e1 => ?_)
    · rw [e1, R.bind_ok] at h
      match u, O1, h with
      | .w (.v (.str y)), O1, h =>
        dsimp only at h
        obtain ⟨_, hr⟩ := O1.r
        cases hr
        by_cases hc : (acc ++ y).length ≤ 1000000
        · rw [if_pos hc] at h
          refine ⟨y, rfl, szm hc, js_sem ⟨F1, env1, own1, O1.S, ?_⟩⟩
          cases e2 : eJs fs (acc ++ y) env1 with
          | ok u2 env2 =>
            rw [e2] at h
            exact fun v2 F2 H2 own2 p2 O2 => h _ _ _ _ _ (O1.drop.out O2)
          | raise c env2 =>
            rw [e2] at h
            exact fun C F2 H2 own2 hm O2 => h C F2 H2 own2 hm (O1.drop.trans O2)
          | stuck =>
            rw [e2] at h
            exact h
        · rw [if_neg hc] at h
          exact h.elim
      | .b _, _, h => exact h.elim
      | .w (.l _ _), _, h => exact h.elim
      | .w (.m _ _), _, h => exact h.elim
      | .w (.x _), _, h => exact h.elim
      | .w (.v .non), _, h => exact h.elim
      | .w (.v (.bl _)), _, h => exact h.elim
      | .w (.v (.int _)), _, h => exact h.elim
      | .w (.v (.tup _)), _, h => exact h.elim
      | .w (.v (.lst _)), _, h => exact h.elim
      | .w (.v (.ty _)), _, h => exact h.elim
      | .w (.v (.nam _ _)), _, h => exact h.elim
      | .w (.v (.scr _)), _, h => exact h.elim
      | .w (.v (.dic _ _)), _, h => exact h.elim
      | .w (.v (.dix _ _ _)), _, h => exact h.elim
      | .w (.v (.ins _ _ _)), _, h => exact h.elim
    · rw [e1] at h
      exact h C F1 H1 own1
    · rw [e1] at h
      exact h
abbrev EjS (X : Cx) (Wx : WX) (es : List Expr) (fs : List (M U)) : Prop := PJ X es (fs.map (tOf X.K X.mg Wx))
theorem ej_nil : EjS X Wx [] [] := PJ.nil
theorem ej_cons {es : List Expr} {fs : List (M U)} (h : EvS X Wx e f) (r : EjS X Wx es fs) : EjS X Wx (e :: es) (f :: fs) := PJ.cons h r
theorem e_joined {v1 v2 : Expr} {rest : List Expr} {fs : List (M U)} (h : EjS X Wx (v1 :: v2 :: rest) fs) : EvS X Wx (.JoinedStr (v1 :: v2 :: rest) pos) (eJs fs Str.empty) := PE.imp (pe_joined h) fun σ H Q q => js_sem q
end
/-! ### telling, by simp -/
@[simp ↓] theorem opMS_ap (g : List D → Option W) (fo fe : M U) (env : DEnv) : opMS g fo fe env = ((fo env).bind fun u0 e0 => match dat e0 u0 with
  | some (.str _) => (fe e0).bind fun u e1 => (match dat e1 u0, dat e1 u with
    | some d0, some d => (match g [d0, d] with
      | some w => .ok (.w w) e1
      | none => .stuck)
    | _, _ => .stuck)
  | _ => .stuck : R U) := Eq.trans rfl rfl
@[simp ↓] theorem eFmt_ap (f : M U) (env : DEnv) : eFmt f env = ((f env).bind fun u e1 => match dat e1 u with
  | some (.str y) => if y.length ≤ 1000000 then .ok (.w (.v (.str y))) e1 else .stuck
  | some (.int i) => if i.natAbs.log2 < 1920 then .ok (.w (.v (.str (toString i)))) e1 else .stuck
  | _ => .stuck : R U) := Eq.trans rfl rfl
@[simp ↓] theorem eJs_nil (acc : Str) (env : DEnv) : eJs [] acc env = (.ok (.w (.v (.str acc))) env : R U) := by rw [eJs]
@[simp ↓] theorem eJs_cons (f : M U) (fs : List (M U)) (acc : Str) (env : DEnv) : eJs (f :: fs) acc env = ((f env).bind fun u e1 => match u with
    | .w (.v (.str y)) => if (acc ++ y).length ≤ 1000000 then eJs fs (acc ++ y) e1 else .stuck
    | _ => .stuck : R U) := by rw [eJs]
@[simp] theorem gSplit_c (a b : Str) : gSplit [.str a, .str b] = if (b.length == 0) = false ∧ a.length ≤ 1000000 then some (.l false ((Txt.split a b).map D.str)) else none := Eq.trans rfl rfl
@[simp] theorem gPart_c (a b : Str) : gPart [.str a, .str b] = if (b.length == 0) = false ∧ a.length ≤ 1000000 then some (.v (.tup [.str (Txt.partition a b).1, .str (Txt.partition a b).2.1, .str (Txt.partition a b).2.2])) else none := Eq.trans rfl rfl
theorem gJoin_strs (a : Str) (ys : List Str) : gJoin [.str a, .lst (ys.map D.str)] = if (ys.map (·.length)).sum + ys.length * a.length ≤ 1000000 then some (.v (.str (Txt.join a ys))) else none := by
  show (match strsOf (ys.map D.str) with
    | some ys => if (ys.map (fun y : Str => y.length)).sum + ys.length * a.length ≤ 1000000 then some (W.v (.str (Txt.join a ys))) else none
    | none => none) = _
  rw [strsOf_map]
@[simp] theorem gIntS_c (a : Str) : gIntS [.str a] = match PySem.intText? a with
    | some n => if a.length ≤ 640 then some (.v (.int n)) else none
    | none => none := Eq.trans rfl rfl
@[simp] theorem gStrI_c (i : Int) : gStrI [.int i] = if i.natAbs.log2 < 1920 then some (.v (.str (toString i))) else none := Eq.trans rfl rfl
theorem gInS_c (x z : Str) : gInS [.str x, .str z] = if x.length = 1 then some (.v (.bl (decide (x.cps.toList.headD 0 ∈ z.cps.toList)))) else none := Eq.trans rfl rfl
@[simp] theorem gSlLS_c (z : Str) (i : Int) : gSlLS [.str z, .int i] = if z.length ≤ 1000000 then some (.v (.str (cutS z (some i) none))) else none := Eq.trans rfl rfl
@[simp] theorem gSlHS_c (z : Str) (i : Int) : gSlHS [.str z, .int i] = if z.length ≤ 1000000 then some (.v (.str (cutS z none (some i)))) else none := Eq.trans rfl rfl
theorem deq_str (x y : Str) : deq (.str x) (.str y) = decide (x = y) := by
  unfold deq
  simp [toPy]
  try rfl
def asc (x : Str) : Prop := ∀ c ∈ x.cps.toList, c < 128
theorem asc_ok {x : Str} (h : asc x) : PyData.strOk x = true := by
  unfold PyData.strOk
  rw [Array.all_eq_true_iff_forall_mem]
  intro c hc
  have := h c (Array.mem_toList_iff.mpr hc)
  simp
  omega
theorem gEq_str {i j : Str} (hi : asc i) (hj : asc j) : gEq [.str i, .str j] = some (.v (.bl (decide (i = j)))) := by
  show (if (fine 60 (.str i) && fine 60 (.str j)) = true then _ else _) = _
  rw [show fine 60 (.str i) = true from asc_ok hi, show fine 60 (.str j) = true from asc_ok hj, Bool.and_self, if_pos rfl, deq_str]
theorem gNe_str {i j : Str} (hi : asc i) (hj : asc j) : gNe [.str i, .str j] = some (.v (.bl (!decide (i = j)))) := by
  show (if (fine 60 (.str i) && fine 60 (.str j)) = true then _ else _) = _
  rw [show fine 60 (.str i) = true from asc_ok hi, show fine 60 (.str j) = true from asc_ok hj, Bool.and_self, if_pos rfl, deq_str]
end DL

/-! What only adds to the heap: expressions that change nothing that stands. -/
namespace DL
open PySem PySem.Spec PyProof.Rows L2

section
variable {K : PySem.W.Frag} {F H F1 H1 F2 H2 : Hp} {σ : L2.St} {env : DEnv} {own : Nat → Fp} {p p1 p2 : Fp}
theorem Grow.gone (g : Grow F H F1 H1 p) {a : Addr} (h : H1 a = none) : H a = none := by
  cases e : H a with
  | none => rfl
  | some o => rw [g.exH a o e] at h; cases h
theorem Grow.trans (g : Grow F H F1 H1 p1) (k : Grow F1 H1 F2 H2 p2) : Grow F H F2 H2 p2 where
  exF := g.exF.trans k.exF
  exH := g.exH.trans k.exH
  sub := k.sub
  fr := fun a o h n => by
    cases e : F1 a with
    | some u => exact g.fr a u e n
    | none => exact g.gone (k.fr a o h e)
  np := fun a h => g.gone (k.np a h)
/-- what stood before, or was told, stays -/
theorem Grow.repW {v : V} {w : W} (g : Grow F H F1 H1 p1) (r : RepW K F H v w p) : RepW K F1 H1 v w p := by
  refine r.frame g.exF (fun a o _ q => g.exH a o q) fun a q => ?_
  obtain ⟨⟨o, e1⟩, e2⟩ := r.there q
  cases z : F1 a with
  | none => rfl
  | some u => rw [g.fr a u z e2] at e1; cases e1
theorem Grow.drop (g : Grow F H F1 H1 p) : Grow F H F1 H1 (fun _ => False) := ⟨g.exF, g.exH, g.sub, g.fr, fun _ h => h.elim⟩
end

/-! ### expressions -/
abbrev G := DEnv → Option W
def gOfG (K : PySem.W.Frag) (f : G) : TE := fun σ H Q => ∃ F env own, Sit K F σ H env own ∧ match f env with
  | some w => ∀ v F' H' p, Grow F H F' H' p → RepW K F' H' v w p → Q v H'
  | none => False
abbrev EvG (X : Cx) (e : Expr) (f : G) : Prop := PE X e (gOfG X.K f)
/-- as any expression -/
def eG (f : G) : M U := fun env => match f env with
  | some w => .ok (.w w) env
  | none => .stuck
theorem e_g {X : Cx} {Wx : WX} {e : Expr} {f : G} (h : EvG X e f) : EvS X Wx e (eG f) := PE.imp h fun σ H Q h => by
  obtain ⟨F, env, own, S, h⟩ := h
  refine ⟨F, env, own, S, ?_⟩
  unfold eG at h
  cases e : f env with
  | none => rw [e] at h; exact h.elim
  | some w =>
    rw [e] at h
    exact fun v F' H' p g r => h v F' H' own p (g.out (OutR.refl S) r)
inductive RepWs (K : PySem.W.Frag) (F H : Hp) : List V → List W → Prop where
  | nil : RepWs K F H [] []
  | cons {v : V} {w : W} {vs : List V} {ws : List W} {p : Fp} : RepW K F H v w p → RepWs K F H vs ws → RepWs K F H (v :: vs) (w :: ws)
theorem Grow.repWs {K : PySem.W.Frag} {F H F1 H1 : Hp} {p1 : Fp} (g : Grow F H F1 H1 p1) : ∀ {vs : List V} {ws : List W}, RepWs K F H vs ws → RepWs K F1 H1 vs ws
  | _, _, .nil => .nil
  | _, _, .cons r t => .cons (g.repW r) (Grow.repWs g t)
def evsG : List G → DEnv → Option (List W)
  | [], _ => some []
  | f :: fs, env => match f env, evsG fs env with
    | some w, some ws => some (w :: ws)
    | _, _ => none
def aOfG (K : PySem.W.Frag) (f : DEnv → Option (List W)) : TA := fun σ H Q => ∃ F env own, Sit K F σ H env own ∧ match f env with
  | some ws => ∀ vs F' H', Grow F H F' H' (fun _ => False) → RepWs K F' H' vs ws → Q vs H'
  | none => False
abbrev EaG (X : Cx) (es : List Expr) (fs : List G) : Prop := PA X es (aOfG X.K (evsG fs))
def datWs : List W → Option (List D)
  | [] => some []
  | w :: ws => if w.opq then none else (datWs ws).map (datW w :: ·)
theorem RepWs.views {K : PySem.W.Frag} {F H : Hp} (e : Same F H) : ∀ {vs : List V} {ws : List W} {ds : List D}, RepWs K F H vs ws → datWs ws = some ds → Views K F H vs ds
  | _, _, _, .nil, h => by cases h; exact .nil
  | _, _, _, .cons (w := w) (ws := ws) r t, h => by
    have h : (if w.opq then none else (datWs ws).map (datW w :: ·)) = some _ := h
    cases ho : w.opq with
    | true => rw [ho, if_pos rfl] at h; cases h
    | false =>
      rw [ho, if_neg Bool.false_ne_true] at h
      obtain ⟨ds, h1, rfl⟩ := Option.map_eq_some_iff.mp h
      exact .cons (RepW.view e r ho) (RepWs.views e t h1)
def opG (g : List D → Option W) (fs : List G) : G := fun env => match evsG fs env with
  | some ws => match datWs ws with
    | some ds => g ds
    | none => none
  | none => none
section
variable {X : Cx} {e : Expr} {es : List Expr} {f : G} {fs : List G}
theorem ga_nil : EaG X [] [] := PA.imp pa_nil fun σ H Q h => by
  obtain ⟨F, env, own, S, h⟩ := h
  exact h [] F H (Grow.refl S.ex) .nil
theorem ga_cons (ha : EvG X e f) (hr : EaG X es fs) (hs : starEach (e :: es) X.env = (false, eval e X.env) :: starEach es X.env := by rfl) : EaG X (e :: es) (f :: fs) := PA.imp (pa_cons ha hr hs) fun σ H Q h => by
  obtain ⟨F, env, own, S, h⟩ := h
  unfold evsG at h
  refine ⟨F, env, own, S, ?_⟩
  cases e1 : f env with
  | none => rw [e1] at h; exact h.elim
  | some w =>
    cases e2 : evsG fs env with
    | none => rw [e1, e2] at h; exact h.elim
    | some ws =>
      rw [e1, e2] at h
      intro v F1 H1 p g r
      refine ⟨F1, env, own, g.sit S, ?_⟩
      rw [e2]
      intro vs F2 H2 g2 rs
      exact h _ _ _ (g.drop.trans g2) (.cons (g2.repW r) rs)
theorem aOfG_op {K : PySem.W.Frag} {r : List V → Hp → VK → Prop} {g : List D → Option W} {fs : List G} {σ : L2.St} {H : Hp} {Q : VK} (c : CaD K r g) (h : gOfG K (opG g fs) σ H Q) : aOfG K (evsG fs) σ H fun vs H1 => r vs H1 Q := by
  obtain ⟨F, env, own, S, h⟩ := h
  refine ⟨F, env, own, S, ?_⟩
  unfold opG at h
  cases e : evsG fs env with
  | none => rw [e] at h; exact h.elim
  | some ws =>
    rw [e] at h
    dsimp only at h
    intro vs F1 H1 gr rs
    cases e1 : datWs ws with
    | none => rw [e1] at h; exact h.elim
    | some ds =>
      rw [e1] at h
      dsimp only at h
      cases e2 : g ds with
      | none => rw [e2] at h; exact h.elim
      | some w =>
        rw [e2] at h
        exact c F1 H1 vs ds w Q gr.sub (rs.views gr.sub e1) e2 fun v F' H' p' g' rw' => h v F' H' p' (gr.trans g') rw'
theorem aOfG_1 {K : PySem.W.Frag} {fa : G} {σ : L2.St} {H : Hp} {Q : List V → Hp → Prop} (h : aOfG K (evsG [fa]) σ H Q) : gOfG K fa σ H fun x H1 => Q [x] H1 := by
  obtain ⟨F, env, own, S, h⟩ := h
  refine ⟨F, env, own, S, ?_⟩
  unfold evsG at h
  cases e : fa env with
  | none => rw [e] at h; exact h.elim
  | some w =>
    rw [e] at h
    exact fun v F' H' p g r => h [v] F' H' g.drop (.cons r .nil)
theorem aOfG_cons {K : PySem.W.Frag} {fa : G} {fs : List G} {σ : L2.St} {H : Hp} {Q : List V → Hp → Prop} (h : aOfG K (evsG (fa :: fs)) σ H Q) : gOfG K fa σ H fun x H1 => aOfG K (evsG fs) σ H1 fun xs H2 => Q (x :: xs) H2 := by
  obtain ⟨F, env, own, S, h⟩ := h
  refine ⟨F, env, own, S, ?_⟩
  unfold evsG at h
  cases e : fa env with
  | none => rw [e] at h; exact h.elim
  | some w =>
    rw [e] at h
    intro v F1 H1 p g r
    refine ⟨F1, env, own, g.sit S, ?_⟩
    cases e2 : evsG fs env with
    | none => rw [e2] at h; exact h.elim
    | some ws =>
      rw [e2] at h
      exact fun vs F2 H2 g2 rs => h _ _ _ (g.drop.trans g2) (.cons (g2.repW r) rs)
theorem gOfG_mono {K : PySem.W.Frag} {fa : G} {σ : L2.St} {H : Hp} {Q Q' : VK} (h : gOfG K fa σ H Q) (i : ∀ v H, Q v H → Q' v H) : gOfG K fa σ H Q' := by
  obtain ⟨F, env, own, S, h⟩ := h
  refine ⟨F, env, own, S, ?_⟩
  cases e : fa env with
  | none => rw [e] at h; exact h
  | some w => rw [e] at h; exact fun v F1 H1 p g r => i _ _ (h v F1 H1 p g r)
theorem aOfG_2 {K : PySem.W.Frag} {fa fb : G} {σ : L2.St} {H : Hp} {Q : List V → Hp → Prop} (h : aOfG K (evsG [fa, fb]) σ H Q) : gOfG K fa σ H fun x H1 => gOfG K fb σ H1 fun y H2 => Q [x, y] H2 :=
  gOfG_mono (aOfG_cons h) fun _ _ q => aOfG_1 q
end
section
variable {X : Cx} {a b : Expr} {fa fb : G} {pos p : Pos} {es : List Expr} {e : Expr} {fs : List G} {g : List D → Option W}
theorem g_bin {op : Operator} {r : R2} (ho : OpR X (binaryOp op) r) (cd : CaD X.K (r2 r) g) (ha : EvG X a fa) (hb : EvG X b fb) : EvG X (.BinOp a op b pos) (opG g [fa, fb]) :=
  PE.imp (pe_op ho ha hb) fun σ H Q h => gOfG_mono (aOfG_2 (aOfG_op cd h)) fun _ _ q => gOfG_mono q fun _ _ z => r2_two z
theorem g_un {op : UnaryOp} {r : V → Hp → VK → Prop} (ho : UnR X (unaryOp op) r) (cd : CaD X.K (r1 r) g) (ha : EvG X a fa) : EvG X (.UnaryOp op a pos) (opG g [fa]) :=
  PE.imp (pe_un ho ha) fun σ H Q h => gOfG_mono (aOfG_1 (aOfG_op cd h)) fun _ _ q => r1_one q
theorem g_cmp {op : CmpOp} {r : R2} (ho : OpR X (compareOp op) r) (cd : CaD X.K (r2 r) g) (ha : EvG X a fa) (hb : EvG X b fb) (hm : behindInMarks op b = false) : EvG X (.Compare a [op] [b] pos) (opG g [fa, fb]) :=
  PE.imp (pe_cmpR ho ha hb hm) fun σ H Q h => gOfG_mono (aOfG_2 (aOfG_op cd h)) fun _ _ q => gOfG_mono q fun _ _ z => r2_two z
theorem g_ix {r : R2} (ho : IxR X r) (cd : CaD X.K (r2 r) g) (ha : EvG X a fa) (hb : EvG X b fb) (hs : PlainIx b) : EvG X (.Subscript a b pos) (opG g [fa, fb]) :=
  PE.imp (pe_ix ho ha hb hs) fun σ H Q h => gOfG_mono (aOfG_2 (aOfG_op cd h)) fun _ _ q => gOfG_mono q fun _ _ z => r2_two z
theorem g_callB {id : String} {x : Str} {r : List V → Hp → VK → Prop} (hc : CallR X (.builtin id) r) (cd : CaD X.K r g) (hg : Gl X x) (hm : X.mg x = none) (hv : bootBuiltins x = some (.builtin id)) (ha : EaG X (e :: es) fs) (hn : x ≠ "__name__" := by decide) (hdb : (x == ("__debug__" : Str)) = false := by decide)
    (he : starEach (e :: es) X.env = (false, eval e X.env) :: starEach es X.env := by rfl) (hpl : (backTo pos (starEach es X.env)).any (·.1) = false := by rfl) : EvG X (.Call (.Name x p) (e :: es) [] pos) (opG g fs) :=
  PE.imp (pe_callB hc hg hm hv ha hn hdb he hpl) fun σ H Q h => aOfG_op cd h
theorem g_callTy {T : String} {x : Str} {r : List V → Hp → VK → Prop} (hc : CallR X (.type T) r) (cd : CaD X.K r g) (hg : Gl X x) (hm : X.mg x = none) (hv : bootBuiltins x = some (.type T)) (ha : EaG X (e :: es) fs) (hn : x ≠ "__name__" := by decide) (hdb : (x == ("__debug__" : Str)) = false := by decide)
    (he : starEach (e :: es) X.env = (false, eval e X.env) :: starEach es X.env := by rfl) (hpl : (backTo pos (starEach es X.env)).any (·.1) = false := by rfl) : EvG X (.Call (.Name x p) (e :: es) [] pos) (opG g fs) :=
  PE.imp (pe_callTy hc hg hm hv ha hn hdb he hpl) fun σ H Q h => aOfG_op cd h
/-- a constant -/
def cG (d : D) : G := fun _ => some (.v d)
theorem g_const {v : V} {d : D} (he : PE X e (tC v)) (r : ∀ F, RepD X.K F v d) : EvG X e (cG d) := PE.imp he fun σ H Q h => by
  obtain ⟨F, env, own, S, h⟩ := h
  exact h v F H (fun _ => False) (Grow.refl S.ex) (RepW.ofRep (r F))
theorem g_int {i : Int} {j : Nat} : EvG X (.Constant (.int i) j pos) (cG (.int i)) := g_const pe_int fun _ => .int i
theorem g_bl {i : Bool} {j : Nat} : EvG X (.Constant (.bool i) j pos) (cG (.bl i)) := g_const pe_bl fun _ => .bl i
theorem g_non {j : Nat} : EvG X (.Constant .none j pos) (cG .non) := g_const pe_non fun _ => .non
/-- a name that holds data -/
def vG (i : Nat) : G := fun env => match env[i]? with
  | some (some (.v d)) => some (.v d)
  | _ => none
theorem g_var (i : Nat) {x : Str} (hN : X.N[i]? = some x := by rfl) (hv : Vis X.env.scope x := by first | exact Or.inl rfl | exact Or.inr (Or.inl rfl) | exact Or.inr (Or.inr rfl)) (hd : (x == ("__debug__" : Str)) = false := by decide)
    (hcd : (x == ("__classdict__" : Str)) = false := by decide) : EvG X (.Name x pos) (vG i) := PE.imp (pe_var hN hv hd hcd) fun σ H Q h => by
  obtain ⟨F, env, own, S, h⟩ := h
  unfold vG at h
  split at h
  · rename_i w heq
    split at heq
    · rename_i d hw
      cases heq
      obtain ⟨v, hs, r⟩ := S.rep i _ hw
      exact ⟨v, hs, h v F H (fun _ => False) (Grow.refl S.ex) (RepW.ofRep r.2)⟩
    · cases heq
  · exact h.elim
end
end DL

/-! Things of classes: their attributes. -/
namespace DL
open PySem PySem.Spec PyProof.Rows L2

/-! ### names and values side by side -/
theorem lookup_zip : ∀ {ns : List Str} {vs : List V} {j : Nat} {f : Str}, ns.Nodup → ns[j]? = some f → (ns.zip vs).lookup f = vs[j]?
  | [], _, _, _, _, h => by simp at h
  | n :: ns, [], j, f, _, _ => by simp
  | n :: ns, v :: vs, 0, f, nd, h => by
    have : n = f := by simpa using h
    subst this
    simp
  | n :: ns, v :: vs, j + 1, f, nd, h => by
    have hm : f ∈ ns := List.mem_of_getElem? (i := j) (by simpa using h)
    have ne : ¬ f = n := fun z => (List.nodup_cons.mp nd).1 (z ▸ hm)
    have hb : (f == n) = false := beq_eq_false_iff_ne.mpr ne
    rw [List.zip_cons_cons, List.lookup_cons, hb, List.getElem?_cons_succ]
    exact lookup_zip (List.nodup_cons.mp nd).2 (by simpa using h)
theorem lookup_zip_none {m : Str} : ∀ {ns : List Str} {vs : List V}, m ∉ ns → (ns.zip vs).lookup m = none
  | [], _, _ => by simp
  | n :: ns, [], _ => by simp
  | n :: ns, v :: vs, h => by
    have hb : (m == n) = false := beq_eq_false_iff_ne.mpr fun z => h (by simp [z])
    rw [List.zip_cons_cons, List.lookup_cons, hb]
    exact lookup_zip_none fun z => h (List.mem_cons_of_mem _ z)
theorem putF_set {y : V} : ∀ {ns : List Str} {vs : List V} {j : Nat} {f : Str}, ns.Nodup → ns[j]? = some f → j < vs.length → putF f y (ns.zip vs) = ns.zip (vs.set j y)
  | [], _, _, _, _, h, _ => by simp at h
  | n :: ns, [], j, f, _, _, hj => by simp at hj
  | n :: ns, v :: vs, 0, f, nd, h, _ => by
    have : n = f := by simpa using h
    subst this
    rw [List.zip_cons_cons, putF, if_pos rfl]
    rfl
  | n :: ns, v :: vs, j + 1, f, nd, h, hj => by
    have hm : f ∈ ns := List.mem_of_getElem? (i := j) (by simpa using h)
    have ne : ¬ n = f := fun z => (List.nodup_cons.mp nd).1 (z ▸ hm)
    rw [List.zip_cons_cons, putF, if_neg ne, List.set_cons_succ, List.zip_cons_cons, putF_set (List.nodup_cons.mp nd).2 (by simpa using h) (by simpa using hj)]
theorem putF_new {y : V} : ∀ {ns : List Str} {vs : List V} {f : Str}, ns.Nodup → ns[vs.length]? = some f → putF f y (ns.zip vs) = ns.zip (vs ++ [y])
  | [], _, _, _, h => by simp at h
  | n :: ns, [], f, _, h => by
    have : n = f := by simpa using h
    subst this
    simp [putF]
  | n :: ns, v :: vs, f, nd, h => by
    have hm : f ∈ ns := List.mem_of_getElem? (i := vs.length) (by simpa using h)
    have ne : ¬ n = f := fun z => (List.nodup_cons.mp nd).1 (z ▸ hm)
    rw [List.zip_cons_cons, putF, if_neg ne, List.cons_append, List.zip_cons_cons, putF_new (List.nodup_cons.mp nd).2 (by simpa using h)]

/-! ### what is known of a class -/
structure ClsF (K : PySem.W.Frag) (c : Str) (ns : List Str) : Prop where
  ex : ∃ C, PySem.W.nsIn K mainGlobals c = some (some (.ref C)) ∧ Cls K C ∧ ∀ f ∈ ns, NoAttr K C f
def datW0 : W0 → D
  | .v d => d
  | .l ds => .lst ds
  | .d k ks ds => .dix k ks ds
section
variable {K : PySem.W.Frag} {F H F1 H1 : Hp} {σ : L2.St} {env : DEnv} {own : Nat → Fp} {p : Fp}
theorem RepW0.view {v : V} {w : W0} {p : Fp} (e : Same F H) (r : RepW0 K F H v w p) : View K F H v (datW0 w) := by
  cases w with
  | v d => exact View.of e r.2
  | l ds =>
    obtain ⟨a, vs, rfl, _, hc, _, q⟩ := r
    exact ⟨a, vs, rfl, .inl hc, q⟩
  | d k ks ds =>
    obtain ⟨a, o, us, vs, rfl, _, hc, _, hk, r1, r2⟩ := r
    exact ⟨a, o, us, vs, rfl, hc, hk, r1, r2⟩
theorem RepW0s.get : ∀ {vs : List V} {ws : List W0} {p : Fp} {j : Nat} {w : W0}, RepW0s K F H vs ws p → ws[j]? = some w → ∃ v, ∃ q : Fp, vs[j]? = some v ∧ RepW0 K F H v w q ∧ ∀ a, q a → p a
  | [], [], _, _, _, _, h => by simp at h
  | v :: vs, w :: ws, p, 0, w', r, h => by
    obtain ⟨p1, p2, hp, _, r1, _⟩ := r
    simp at h
    subst h
    exact ⟨v, p1, rfl, r1, fun a z => (hp a).mpr (.inl z)⟩
  | v :: vs, w :: ws, p, j + 1, w', r, h => by
    obtain ⟨p1, p2, hp, _, _, r2⟩ := r
    obtain ⟨v', q, h1, h2, h3⟩ := RepW0s.get r2 (j := j) (by simpa using h)
    exact ⟨v', q, by simpa using h1, h2, fun a z => (hp a).mpr (.inr (h3 a z))⟩
  | [], _ :: _, _, _, _, r, _ => r.elim
  | _ :: _, [], _, _, _, r, _ => r.elim
/-- what the i-th name's attribute holds -/
theorem Sit.fld {i j : Nat} {b : Bool} {c f : Str} {ns : List Str} {ws : List W0} {w : W0} (S : Sit K F σ H env own) (T : ClsF K c ns) (nd : ns.Nodup) (hf : ns[j]? = some f) (hw : env[i]? = some (some (.x (.o b c ns ws)))) (hj : ws[j]? = some w) :
    ∃ a C dx fs v, ∃ q : Fp, σ[i]? = some (some (.ref a)) ∧ H a = some (.ins C dx fs) ∧ Cls K C ∧ NoAttr K C f ∧ fs.lookup f = some v ∧ RepW0 K F H v w q := by
  obtain ⟨v, hv, a, dx, C, vs, p0, rfl, hc, h1, h2, f1, f2, hl, r, hp, n1, n2⟩ := S.rep i _ hw
  obtain ⟨C', hc', cl, na⟩ := T.ex
  rw [hc] at hc'
  cases hc'
  obtain ⟨v, q, hvj, rv, _⟩ := r.get hj
  exact ⟨a, C, dx, _, v, q, hv, h1, cl, na f (List.mem_of_getElem? hf), by rw [lookup_zip nd hf]; exact hvj, rv⟩
end
/-! ### what is read as it stands -/
def vOf (K : PySem.W.Frag) (f : DEnv → Option D) : TE := fun σ H Q => ∃ F env own, Sit K F σ H env own ∧ match f env with
  | some d => ∀ v, View K F H v d → Q v H
  | none => False
abbrev EvV (X : Cx) (e : Expr) (f : DEnv → Option D) : Prop := PE X e (vOf X.K f)
def nameV (i : Nat) : DEnv → Option D := fun env => dat env (.b i)
def fldW (i : Nat) (c : Str) (ns : List Str) (j : Nat) (env : DEnv) : Option W0 := match env[i]? with
  | some (some (.x (.o _ c' ns' ws))) => if c' = c ∧ ns' = ns then ws[j]? else none
  | _ => none
def fldV (i : Nat) (c : Str) (ns : List Str) (j : Nat) : DEnv → Option D := fun env => (fldW i c ns j env).map datW0
def fG (i : Nat) (c : Str) (ns : List Str) (j : Nat) : G := fun env => match fldW i c ns j env with
  | some (.v d) => some (.v d)
  | _ => none
theorem fldW_some {i j : Nat} {c : Str} {ns : List Str} {env : DEnv} {w : W0} (h : fldW i c ns j env = some w) : ∃ b ws, env[i]? = some (some (.x (.o b c ns ws))) ∧ ws[j]? = some w := by
  unfold fldW at h
  split at h
  · rename_i b c' ns' ws hw
    split at h
    · rename_i hc
      obtain ⟨rfl, rfl⟩ := hc
      exact ⟨b, ws, hw, h⟩
    · cases h
  · cases h
section
variable {X : Cx} {i j : Nat} {x c f : Str} {ns : List Str} {pos p : Pos}
theorem v_var (hN : X.N[i]? = some x := by rfl) (hv : Vis X.env.scope x := by first | exact Or.inl rfl | exact Or.inr (Or.inl rfl) | exact Or.inr (Or.inr rfl)) (hd : (x == ("__debug__" : Str)) = false := by decide) (hcd : (x == ("__classdict__" : Str)) = false := by decide) :
    EvV X (.Name x pos) (nameV i) := PE.imp (pe_var hN hv hd hcd) fun σ H Q h => by
  obtain ⟨F, env, own, S, h⟩ := h
  unfold nameV at h
  cases e : dat env (.b i) with
  | none => rw [e] at h; exact h.elim
  | some d =>
    rw [e] at h
    have e0 := e
    have e : (match env[i]? with | some (some w) => (if w.opq then none else some (datW w)) | _ => none) = some d := e
    split at e
    · rename_i w hw
      obtain ⟨v, hs, r⟩ := S.rep i _ hw
      exact ⟨v, hs, h v (RepU.view S (u := .b i) (p := fun _ => False) ⟨fun _ z => z, hs⟩ e0)⟩
    · cases e
theorem v_fld (T : ClsF X.K c ns) (nd : ns.Nodup) (hf : ns[j]? = some f) (hN : X.N[i]? = some x := by rfl) (hv : Vis X.env.scope x := by first | exact Or.inl rfl | exact Or.inr (Or.inl rfl) | exact Or.inr (Or.inr rfl)) (hd : (x == ("__debug__" : Str)) = false := by decide) (hcd : (x == ("__classdict__" : Str)) = false := by decide)
    (hb : attributeBase (.Name x p) f X.env (eval (.Name x p) X.env) = eval (.Name x p) X.env := by rfl) : EvV X (.Attribute (.Name x p) f pos) (fldV i c ns j) := PE.imp (pe_fld (pe_var hN hv hd hcd) hb) fun σ H Q h => by
  obtain ⟨F, env, own, S, h⟩ := h
  unfold fldV at h
  cases e : fldW i c ns j env with
  | none => rw [e] at h; exact h.elim
  | some w =>
    rw [e] at h
    obtain ⟨b, ws, hw, hj⟩ := fldW_some e
    obtain ⟨a, C, dx, fs, v, q, h1, h2, h3, h4, h5, r⟩ := S.fld T nd hf hw hj
    exact ⟨.ref a, h1, a, C, dx, fs, v, rfl, h2, h3, h4, h5, h v (r.view S.ex)⟩
theorem g_fld (T : ClsF X.K c ns) (nd : ns.Nodup) (hf : ns[j]? = some f) (hN : X.N[i]? = some x := by rfl) (hv : Vis X.env.scope x := by first | exact Or.inl rfl | exact Or.inr (Or.inl rfl) | exact Or.inr (Or.inr rfl)) (hd : (x == ("__debug__" : Str)) = false := by decide) (hcd : (x == ("__classdict__" : Str)) = false := by decide)
    (hb : attributeBase (.Name x p) f X.env (eval (.Name x p) X.env) = eval (.Name x p) X.env := by rfl) : EvG X (.Attribute (.Name x p) f pos) (fG i c ns j) := PE.imp (pe_fld (pe_var hN hv hd hcd) hb) fun σ H Q h => by
  obtain ⟨F, env, own, S, h⟩ := h
  unfold fG at h
  split at h
  · rename_i w heq
    split at heq
    · rename_i d e
      cases heq
      obtain ⟨b, ws, hw, hj⟩ := fldW_some e
      obtain ⟨a, C, dx, fs, v, q, h1, h2, h3, h4, h5, r⟩ := S.fld T nd hf hw hj
      exact ⟨.ref a, h1, a, C, dx, fs, v, rfl, h2, h3, h4, h5, h v F H (fun _ => False) (Grow.refl S.ex) (RepW.ofRep r.2)⟩
    · cases heq
  · exact h.elim
end
/-! ### operations whose first part is read as it stands -/
def opV (g : List D → Option W) (fv : DEnv → Option D) (fs : List G) : G := fun env => match fv env, evsG fs env with
  | some d, some ws => match datWs ws with
    | some ds => g (d :: ds)
    | none => none
  | _, _ => none
/-- the first part last -/
def opVr (g : List D → Option W) (fa : G) (fv : DEnv → Option D) : G := fun env => match fa env, fv env with
  | some w, some d => if w.opq then none else g [datW w, d]
  | _, _ => none
section
variable {K : PySem.W.Frag} {r : List V → Hp → VK → Prop} {g : List D → Option W} {fv : DEnv → Option D} {fs : List G} {σ : L2.St} {H : Hp} {Q : VK}
theorem opV_sem (c : CaD K r g) (h : gOfG K (opV g fv fs) σ H Q) : vOf K fv σ H fun v H1 => aOfG K (evsG fs) σ H1 fun vs H2 => r (v :: vs) H2 Q := by
  obtain ⟨F, env, own, S, h⟩ := h
  refine ⟨F, env, own, S, ?_⟩
  unfold opV at h
  cases e : fv env with
  | none => rw [e] at h; exact h.elim
  | some d =>
    rw [e] at h
    intro v vw
    refine ⟨F, env, own, S, ?_⟩
    cases e1 : evsG fs env with
    | none => rw [e1] at h; exact h.elim
    | some ws =>
      rw [e1] at h
      dsimp only at h
      intro vs F1 H1 gr rs
      cases e2 : datWs ws with
      | none => rw [e2] at h; exact h.elim
      | some ds =>
        rw [e2] at h
        dsimp only at h
        cases e3 : g (d :: ds) with
        | none => rw [e3] at h; exact h.elim
        | some w =>
          rw [e3] at h
          exact c F1 H1 (v :: vs) (d :: ds) w Q gr.sub (.cons (vw.mono gr.exF gr.exH) (rs.views gr.sub e2)) e3 fun v F' H' p' g' rw' => h v F' H' p' (gr.trans g') rw'
theorem opVr_sem {fa : G} (c : CaD K r g) (h : gOfG K (opVr g fa fv) σ H Q) : gOfG K fa σ H fun x H1 => vOf K fv σ H1 fun v H2 => r [x, v] H2 Q := by
  obtain ⟨F, env, own, S, h⟩ := h
  refine ⟨F, env, own, S, ?_⟩
  unfold opVr at h
  cases e : fa env with
  | none => rw [e] at h; exact h.elim
  | some w =>
    rw [e] at h
    intro x F1 H1 p gr rx
    refine ⟨F1, env, own, gr.sit S, ?_⟩
    cases e1 : fv env with
    | none => rw [e1] at h; exact h.elim
    | some d =>
      rw [e1] at h
      dsimp only at h
      intro v vw
      cases ho : w.opq with
      | true => rw [ho, if_pos rfl] at h; exact h.elim
      | false =>
        rw [ho, if_neg Bool.false_ne_true] at h
        cases e3 : g [datW w, d] with
        | none => rw [e3] at h; exact h.elim
        | some w' =>
          rw [e3] at h
          exact c F1 H1 [x, v] [datW w, d] w' Q gr.sub (.cons (RepW.view gr.sub rx ho) (.cons vw .nil)) e3 fun v F' H' p' g' rw' => h v F' H' p' (gr.trans g') rw'
end
section
variable {X : Cx} {a b lo hi : Expr} {fv : DEnv → Option D} {fb fl fh : G} {pos p p2 : Pos} {g : List D → Option W}
theorem vOf_mono {K : PySem.W.Frag} {σ : L2.St} {H : Hp} {Q Q' : VK} (h : vOf K fv σ H Q) (i : ∀ v H, Q v H → Q' v H) : vOf K fv σ H Q' := by
  obtain ⟨F, env, own, S, h⟩ := h
  refine ⟨F, env, own, S, ?_⟩
  cases e : fv env with
  | none => rw [e] at h; exact h
  | some w => rw [e] at h; exact fun v q => i _ _ (h v q)
theorem aOfG_0 {K : PySem.W.Frag} {σ : L2.St} {H : Hp} {Q : List V → Hp → Prop} (h : aOfG K (evsG []) σ H Q) : Q [] H := by
  obtain ⟨F, env, own, S, h⟩ := h
  exact h [] F H (Grow.refl S.ex) .nil
/-- f(a), a built-in -/
theorem gv_callB {id : String} {x : Str} {r : List V → Hp → VK → Prop} (hc : CallR X (.builtin id) r) (cd : CaD X.K r g) (hg : Gl X x) (hm : X.mg x = none) (hv : bootBuiltins x = some (.builtin id)) (ha : EvV X a fv) (hn : x ≠ "__name__" := by decide) (hdb : (x == ("__debug__" : Str)) = false := by decide)
    (he : starEach [a] X.env = (false, eval a X.env) :: starEach [] X.env := by rfl) (hpl : (backTo pos (starEach [] X.env)).any (·.1) = false := by rfl) : EvG X (.Call (.Name x p) [a] [] pos) (opV g fv []) :=
  PE.imp (pe_callB hc hg hm hv (pa_cons ha pa_nil he) hn hdb he hpl) fun σ H Q h => vOf_mono (opV_sem cd h) fun _ _ q => aOfG_0 q
theorem gv_ix {r : R2} (ho : IxR X r) (cd : CaD X.K (r2 r) g) (ha : EvV X a fv) (hb : EvG X b fb) (hs : PlainIx b) : EvG X (.Subscript a b pos) (opV g fv [fb]) :=
  PE.imp (pe_ix ho ha hb hs) fun σ H Q h => vOf_mono (opV_sem cd h) fun _ _ q => gOfG_mono (aOfG_1 q) fun _ _ z => r2_two z
theorem gv_cmpL {op : CmpOp} {r : R2} (ho : OpR X (compareOp op) r) (cd : CaD X.K (r2 r) g) (ha : EvV X a fv) (hb : EvG X b fb) (hm : behindInMarks op b = false) : EvG X (.Compare a [op] [b] pos) (opV g fv [fb]) :=
  PE.imp (pe_cmpR ho ha hb hm) fun σ H Q h => vOf_mono (opV_sem cd h) fun _ _ q => gOfG_mono (aOfG_1 q) fun _ _ z => r2_two z
theorem gv_cmpR {op : CmpOp} {r : R2} (ho : OpR X (compareOp op) r) (cd : CaD X.K (r2 r) g) (ha : EvG X a fb) (hb : EvV X b fv) (hm : behindInMarks op b = false) : EvG X (.Compare a [op] [b] pos) (opVr g fb fv) :=
  PE.imp (pe_cmpR ho ha hb hm) fun σ H Q h => gOfG_mono (opVr_sem cd h) fun _ _ q => vOf_mono q fun _ _ z => r2_two z
theorem gv_slL (ha : EvV X a fv) (hl : EvG X lo fl) : EvG X (.Subscript a (.Slice (some lo) none none p2) pos) (opV gSlL fv [fl]) :=
  PE.imp (pe_slice sl_all ha (po_some hl) po_none) fun σ H Q h => vOf_mono (opV_sem cd_slL h) fun _ _ q => gOfG_mono (aOfG_1 q) fun _ _ z => by
    obtain ⟨x, i, e, z⟩ := z
    cases e
    exact ⟨i, rfl, z⟩
theorem gv_slH (ha : EvV X a fv) (hl : EvG X hi fh) : EvG X (.Subscript a (.Slice none (some hi) none p2) pos) (opV gSlH fv [fh]) :=
  PE.imp (pe_slice sl_all ha po_none (po_some hl)) fun σ H Q h => vOf_mono (opV_sem cd_slH h) fun _ _ q => gOfG_mono (aOfG_1 q) fun _ _ z => by
    obtain ⟨x, i, e, z⟩ := z
    cases e
    exact ⟨i, rfl, z⟩
end
/-! ### a tuple of data -/
def allV : List W → Option (List D)
  | [] => some []
  | .v d :: ws => (allV ws).map (d :: ·)
  | _ => none
theorem RepWs.allV {K : PySem.W.Frag} {F H : Hp} : ∀ {vs : List V} {ws : List W} {ds : List D}, RepWs K F H vs ws → DL.allV ws = some ds → RepDs K F vs ds
  | _, _, _, .nil, h => by cases h; exact .nil
  | _, .v d :: ws, _, .cons r t, h => by
    have h : (DL.allV ws).map (d :: ·) = some _ := h
    obtain ⟨ds, h1, rfl⟩ := Option.map_eq_some_iff.mp h
    exact .cons r.2 (RepWs.allV t h1)
  | _, .l _ _ :: _, _, .cons r t, h => by cases h
  | _, .m _ _ :: _, _, .cons r t, h => by cases h
  | _, .x _ :: _, _, .cons r t, h => by cases h
def tupG (fs : List G) : G := fun env => match evsG fs env with
  | some ws => (match allV ws with
    | some ds => if ds.length ≤ 1000000 then some (.v (.tup ds)) else none
    | none => none)
  | none => none
theorem gg_tup {X : Cx} {es : List Expr} {fs : List G} {n : Nat} {pos : Pos} (h : EaG X es fs) : EvG X (.Tuple es n pos) (tupG fs) := PE.imp (pe_tup h) fun σ H Q h => by
  obtain ⟨F, env, own, S, h⟩ := h
  refine ⟨F, env, own, S, ?_⟩
  unfold tupG at h
  cases e : evsG fs env with
  | none => rw [e] at h; exact h.elim
  | some ws =>
    rw [e] at h
    dsimp only at h
    intro vs F1 H1 gr rs
    cases e1 : allV ws with
    | none => rw [e1] at h; exact h.elim
    | some ds =>
      rw [e1] at h
      dsimp only at h
      have rd := rs.allV e1
      by_cases hl : ds.length ≤ 1000000
      · rw [if_pos hl] at h
        exact ⟨szm (by rw [rd.length]; exact hl), fin_tup gr.sub rd fun v F' H' p g' r' => h v F' H' p (gr.trans g') r'⟩
      · rw [if_neg hl] at h
        exact h.elim
end DL

/-! Things of classes: their attributes stored, and changed in place. -/
namespace DL
open PySem PySem.Spec PyProof.Rows L2
section
variable {K : PySem.W.Frag} {F H F1 H1 F' H' : Hp} {σ : L2.St} {env : DEnv} {own : Nat → Fp} {p t : Fp}
/-- what was made is let stand for good -/
theorem Grow.frz {v : V} {w : W} (g : Grow F H F1 H1 p) (r : RepW K F1 H1 v w p) (ho : w.opq = false) : ∃ F2, Grow F H F2 H1 (fun _ => False) ∧ RepD K F2 v (datW w) := by
  have key : ∀ {a : Addr} {o : HO}, p a → H1 a = some o → F1 a = none → Grow F H (upd F1 a o) H1 (fun _ => False) := fun {a o} pa h1 f1 => by
    have ha := g.np a pa
    refine ⟨g.exF.trans (same_upd f1), g.exH, fun x u h => ?_, fun x u h n => ?_, fun _ h => h.elim⟩
    · by_cases z : x = a
      · subst z; rw [upd_same] at h; rw [h1]; exact h
      · rw [upd_ne z] at h; exact g.sub x u h
    · by_cases z : x = a
      · rw [z]; exact ha
      · rw [upd_ne z] at h; exact g.fr x u h n
  cases w with
  | v d => exact ⟨F1, g.drop, r.2⟩
  | l b ds =>
    obtain ⟨a, vs, rfl, hp, hH, hF, rr⟩ := r
    exact ⟨_, key ((hp a).mpr rfl) hH hF, .lst (.inl upd_same) (rr.mono (same_upd hF))⟩
  | m ks ds =>
    obtain ⟨a, vs, rfl, hp, hH, hF, hk, rr⟩ := r
    exact ⟨_, key ((hp a).mpr rfl) hH hF, .dic upd_same hk (rr.mono (same_upd hF))⟩
  | x y =>
    cases y with
    | d k ks ds =>
      obtain ⟨a, o, us, vs, rfl, hp, hH, hF, hk, r1, r2⟩ := r
      exact ⟨_, key ((hp a).mpr rfl) hH hF, .dix upd_same hk (r1.mono (same_upd hF)) (r2.mono (same_upd hF))⟩
    | o b c ns ws => cases ho
    | t ws => cases ho
/-- what the i-th name holds is another one -/
theorem Sit.repl {i : Nat} {v : V} {w : W} {p' : Fp} (S : Sit K F σ H env own) (hi : i < env.length) (hσ : σ[i]? = some (some v)) (dt : ∀ a, t a → ¬ all own a) (ex : Same F' H') (exF : Same F F')
    (keep : ∀ a o, H a = some o → ¬ own i a → ¬ t a → H' a = some o) (fr : ∀ a o, F' a = some o → F a = none → H a = none ∨ own i a ∨ t a) (r : RepW K F' H' v w p') (np : ∀ a, p' a → H a = none ∨ own i a ∨ t a) :
    ∃ own', Sit K F' σ H' (env.set i (some w)) own' ∧ Step F H (fun a => all own a ∨ t a) F' H' (all own') := by
  have other : ∀ j a, j ≠ i → own j a → ¬ (H a = none ∨ own i a ∨ t a) := fun j a hj h z => by
    rcases z with z | z | z
    · obtain ⟨⟨o, e⟩, _⟩ := S.there ⟨j, h⟩
      rw [z] at e
      cases e
    · exact hj (S.dis j i a h z)
    · exact dt a z ⟨j, h⟩
  refine ⟨fun j a => (j = i ∧ p' a) ∨ (j ≠ i ∧ own j a), ⟨ex, by rw [List.length_set]; exact S.len, fun j w' e => ?_, fun j a z => ?_, fun j k a z1 z2 => ?_⟩, exF, fun a o h n => keep a o h (fun z => n (.inl ⟨i, z⟩)) (fun z => n (.inr z)), fun a z => ?_, fun a o h n => ?_⟩
  · by_cases hj : j = i
    · subst hj
      rw [List.getElem?_set_self hi] at e
      cases e
      refine ⟨v, hσ, ?_⟩
      have e2 : (fun a => (j = j ∧ p' a) ∨ (j ≠ j ∧ own j a)) = p' := funext fun a => propext ⟨fun z => z.elim (fun y => y.2) fun y => absurd rfl y.1, fun z => .inl ⟨rfl, z⟩⟩
      show RepW K F' H' v w (fun a => (j = j ∧ p' a) ∨ (j ≠ j ∧ own j a))
      rw [e2]
      exact r
    · rw [List.getElem?_set_ne (Ne.symm hj)] at e
      obtain ⟨v', e1, r'⟩ := S.rep j w' e
      refine ⟨v', e1, ?_⟩
      have e2 : (fun a => (j = i ∧ p' a) ∨ (j ≠ i ∧ own j a)) = own j := funext fun a => propext ⟨fun z => z.elim (fun y => absurd y.1 hj) fun y => y.2, fun z => .inr ⟨hj, z⟩⟩
      show RepW K F' H' v' w' (fun a => (j = i ∧ p' a) ∨ (j ≠ i ∧ own j a))
      rw [e2]
      refine r'.frame exF (fun a o q h => keep a o h (fun z => other j a hj q (.inr (.inl z))) (fun z => other j a hj q (.inr (.inr z)))) fun a q => ?_
      cases z : F' a with
      | none => rfl
      | some u => exact absurd (fr a u z (r'.there q).2) (other j a hj q)
  · rcases z with ⟨rfl, _⟩ | ⟨hj, z⟩
    · exact ⟨w, List.getElem?_set_self hi⟩
    · obtain ⟨w', e⟩ := S.emp j a z
      exact ⟨w', by rw [List.getElem?_set_ne (Ne.symm hj)]; exact e⟩
  · rcases z1 with ⟨h1, y1⟩ | ⟨h1, y1⟩ <;> rcases z2 with ⟨h2, y2⟩ | ⟨h2, y2⟩
    · rw [h1, h2]
    · exact absurd (np a y1) (other k a h2 y2)
    · exact absurd (np a y2) (other j a h1 y1)
    · exact S.dis j k a y1 y2
  · obtain ⟨j, z⟩ := z
    rcases z with ⟨_, z⟩ | ⟨_, z⟩
    · rcases np a z with y | y | y
      · exact .inr y
      · exact .inl (.inl ⟨i, y⟩)
      · exact .inl (.inr y)
    · exact .inl (.inl ⟨j, z⟩)
  · rcases fr a o h n with y | y | y
    · exact .inr y
    · exact .inl (.inl ⟨i, y⟩)
    · exact .inl (.inr y)
/-- one of what the attributes hold is another one -/
theorem RepW0s.upd : ∀ {vs : List V} {ws : List W0} {p : Fp} {j : Nat} {w : W0}, RepW0s K F H vs ws p → ws[j]? = some w → ∃ v, ∃ q : Fp, vs[j]? = some v ∧ RepW0 K F H v w q ∧ (∀ a, q a → p a) ∧
    ∀ {F' H' : Hp} {v' : V} {w' : W0} {q' : Fp}, Same F F' → (∀ a o, p a → ¬ q a → H a = some o → H' a = some o) → (∀ a, p a → ¬ q a → F' a = none) → RepW0 K F' H' v' w' q' → (∀ a, q' a → p a → q a) → RepW0s K F' H' (vs.set j v') (ws.set j w') (fun a => (p a ∧ ¬ q a) ∨ q' a)
  | [], [], _, _, _, _, h => by simp at h
  | v :: vs, w :: ws, p, 0, w0, r, h => by
    obtain ⟨p1, p2, hp, hd, r1, r2⟩ := r
    simp at h
    subst h
    refine ⟨v, p1, rfl, r1, fun a z => (hp a).mpr (.inl z), fun {F' H' v' w' q'} e k n rw' dq => ?_⟩
    refine ⟨q', p2, fun a => ⟨fun z => ?_, fun z => ?_⟩, fun a z y => hd a (dq a z ((hp a).mpr (.inr y))) y, rw', r2.frame e (fun a o z => k a o ((hp a).mpr (.inr z)) fun y => hd a y z) (fun a z => n a ((hp a).mpr (.inr z)) fun y => hd a y z)⟩
    · rcases z with ⟨z, y⟩ | z
      · rcases (hp a).mp z with x | x
        · exact absurd x y
        · exact .inr x
      · exact .inl z
    · rcases z with z | z
      · exact .inr z
      · exact .inl ⟨(hp a).mpr (.inr z), fun y => hd a y z⟩
  | v :: vs, w :: ws, p, j + 1, w0, r, h => by
    obtain ⟨p1, p2, hp, hd, r1, r2⟩ := r
    obtain ⟨v0, q, h1, h2, h3, h4⟩ := RepW0s.upd r2 (j := j) (by simpa using h)
    refine ⟨v0, q, by simpa using h1, h2, fun a z => (hp a).mpr (.inr (h3 a z)), fun {F' H' v' w' q'} e k n rw' dq => ?_⟩
    have h5 := h4 e (fun a o z y => k a o ((hp a).mpr (.inr z)) y) (fun a z y => n a ((hp a).mpr (.inr z)) y) rw' (fun a z y => dq a z ((hp a).mpr (.inr y)))
    have nq : ∀ a, p1 a → ¬ q a := fun a z y => hd a z (h3 a y)
    refine ⟨p1, fun a => (p2 a ∧ ¬ q a) ∨ q' a, fun a => ⟨fun z => ?_, fun z => ?_⟩, fun a z y => ?_, r1.frame e (fun a o z => k a o ((hp a).mpr (.inl z)) (nq a z)) (fun a z => n a ((hp a).mpr (.inl z)) (nq a z)), h5⟩
    · rcases z with ⟨z, y⟩ | z
      · rcases (hp a).mp z with x | x
        · exact .inl x
        · exact .inr (.inl ⟨x, y⟩)
      · exact .inr (.inr z)
    · rcases z with z | ⟨z, y⟩ | z
      · exact .inl ⟨(hp a).mpr (.inl z), nq a z⟩
      · exact .inl ⟨(hp a).mpr (.inr z), y⟩
      · exact .inr z
    · rcases y with ⟨y, _⟩ | y
      · exact hd a z y
      · exact nq a z (dq a y ((hp a).mpr (.inl z)))
  | [], _ :: _, _, _, _, r, _ => r.elim
  | _ :: _, [], _, _, _, r, _ => r.elim
theorem RepW0s.snoc : ∀ {vs : List V} {ws : List W0} {p q : Fp} {v : V} {w : W0}, RepW0s K F H vs ws p → RepW0 K F H v w q → (∀ a, q a → ¬ p a) → RepW0s K F H (vs ++ [v]) (ws ++ [w]) (fun a => p a ∨ q a)
  | [], [], p, q, v, w, r, rw', d => ⟨q, fun _ => False, fun a => ⟨fun z => z.elim (fun y => absurd y (r a)) .inl, fun z => z.elim .inr False.elim⟩, fun _ _ z => z, rw', fun _ z => z⟩
  | v0 :: vs, w0 :: ws, p, q, v, w, r, rw', d => by
    obtain ⟨p1, p2, hp, hd, r1, r2⟩ := r
    refine ⟨p1, fun a => p2 a ∨ q a, fun a => ⟨fun z => ?_, fun z => ?_⟩, fun a z y => ?_, r1, RepW0s.snoc r2 rw' fun a z y => d a z ((hp a).mpr (.inr y))⟩
    · rcases z with z | z
      · rcases (hp a).mp z with y | y
        · exact .inl y
        · exact .inr (.inl y)
      · exact .inr (.inr z)
    · rcases z with z | z | z
      · exact .inl ((hp a).mpr (.inl z))
      · exact .inl ((hp a).mpr (.inr z))
      · exact .inr z
    · rcases y with y | y
      · exact hd a z y
      · exact d a y ((hp a).mpr (.inl z))
  | [], _ :: _, _, _, _, _, r, _, _ => r.elim
  | _ :: _, [], _, _, _, _, r, _, _ => r.elim
end

/-! ### x.f.append(e) -/
def eAppF (i : Nat) (c : Str) (ns : List Str) (j : Nat) (fe : G) : M U := fun env => match env[i]? with
  | some (some (.x (.o b c' ns' ws))) => if c' = c ∧ ns' = ns then (match ws[j]?, fe env with
    | some (.l ds), some w => if w.opq = false ∧ ds.length < 1000000 then .ok (.w (.v .non)) (env.set i (some (.x (.o b c ns (ws.set j (.l (ds ++ [datW w]))))))) else .stuck
    | _, _ => .stuck) else .stuck
  | _ => .stuck
section
variable {X : Cx} {Wx : WX} {e : Expr} {fe : G} {i j : Nat} {x c f : Str} {ns : List Str} {p1 p2 apos cpos : Pos}
theorem e_appF (T : ClsF X.K c ns) (nd : ns.Nodup) (hf : ns[j]? = some f) (he : EvG X e fe) (hN : X.N[i]? = some x := by rfl) (hv : Vis X.env.scope x := by first | exact Or.inl rfl | exact Or.inr (Or.inl rfl) | exact Or.inr (Or.inr rfl)) (hd : (x == ("__debug__" : Str)) = false := by decide) (hcd : (x == ("__classdict__" : Str)) = false := by decide)
    (hb : attributeBase (.Name x p1) f X.env (eval (.Name x p1) X.env) = eval (.Name x p1) X.env := by rfl)
    (hs0 : starEach [e] X.env = (false, eval e X.env) :: starEach [] X.env := by rfl)
    (hbase : attributeBase (.Attribute (.Name x p1) f p2) "append" X.env (eval (.Attribute (.Name x p1) f p2) X.env) = eval (.Attribute (.Name x p1) f p2) X.env := by rfl)
    (hfew : ((backTo cpos (starEach [e] X.env)).all (fun x => !x.1) && (backToKw cpos (keywordEach [] X.env)).all (fun x => x.1.isSome)
      && decide ([e].length + ([] : List Keyword).length + (if ([] : List Keyword).isEmpty then 0 else 1) < 30)) = true := by rfl)
    (hline : (apos.endLine == cpos.line) = true := by rfl) (hplain : (backTo cpos (starEach [] X.env)).any (·.1) = false := by rfl) :
    EvS X Wx (.Call (.Attribute (.Attribute (.Name x p1) f p2) "append" apos) [e] [] cpos) (eAppF i c ns j fe) :=
  PE.imp (pe_bm PySem.F.plainAttrs_list PySem.F.slot_list_append PySem.F.type_list_append mt_append (pe_fld (pe_var hN hv hd hcd) hb) (pa_cons he pa_nil hs0) hbase hfew hline hs0 hplain) fun σ H Q h => by
  obtain ⟨F, env, own, S, h⟩ := h
  unfold eAppF at h
  cases hw : env[i]? with
  | none => rw [hw] at h; exact h.elim
  | some ow =>
    rw [hw] at h
    match ow, hw, h with
    | some (.x (.o b c' ns' ws)), hw, h =>
      dsimp only at h
      by_cases hc : c' = c ∧ ns' = ns
      · rw [if_pos hc] at h
        obtain ⟨rfl, rfl⟩ := hc
        cases hj : ws[j]? with
        | none => rw [hj] at h; exact h.elim
        | some w0 =>
          cases w0 with
          | v d => rw [hj] at h; exact h.elim
          | d k ks ds => rw [hj] at h; exact h.elim
          | l ds =>
            cases hfe : fe env with
            | none => rw [hj, hfe] at h; exact h.elim
            | some w =>
              rw [hj, hfe] at h
              dsimp only at h
              by_cases hcond : w.opq = false ∧ ds.length < 1000000
              · rw [if_pos hcond] at h
                obtain ⟨vv, hvv, a, dx, C, vs, p0, rfl, hcC, h1, h2, f1, f2, hl, r, hp, n1, n2⟩ := S.rep i _ hw
                obtain ⟨C', hc', cl, na⟩ := T.ex
                rw [hcC] at hc'
                cases hc'
                obtain ⟨v, q, hvj, rv, hqp, hupd⟩ := r.upd hj
                obtain ⟨lb, us, rfl, hq, hlH, hlF, rus⟩ := rv
                have ql := (hq lb).mpr rfl
                refine ⟨.ref a, hvv, a, C, dx, _, .ref lb, rfl, h1, cl, na f (List.mem_of_getElem? hf), by rw [lookup_zip nd hf]; exact hvj, ?_⟩
                refine ⟨Or.inl ⟨rfl, us, .inl (.inl hlH)⟩, ?_⟩
                refine ⟨F, env, own, S, ?_⟩
                rw [hfe]
                intro y F1 H1 pw gr ry
                obtain ⟨F2, g2, rd⟩ := gr.frz ry hcond.1
                have none2 : ∀ b, (∃ o, H b = some o) → F b = none → F2 b = none := fun b ⟨o, e⟩ n => by
                  cases z : F2 b with
                  | none => rfl
                  | some u => rw [g2.fr b u z n] at e; cases e
                have hl1 : H1 lb = some (.lst us) := g2.exH _ _ hlH
                refine ⟨lb, us, y, rfl, rfl, hl1, by rw [rus.length]; exact szl hcond.2, ?_⟩
                have hal : a ≠ lb := fun z => n1 (z ▸ hqp lb ql)
                have hdl : dx ≠ lb := fun z => n2 (z ▸ hqp lb ql)
                have rw2 : RepW0 X.K F2 (upd H1 lb (.lst (us ++ [y]))) (.ref lb) (.l (ds ++ [datW w])) q := ⟨lb, us ++ [y], rfl, hq, upd_same, none2 lb ⟨_, hlH⟩ hlF, (rus.mono g2.exF).append (.cons rd .nil)⟩
                have r2 := hupd (H' := upd H1 lb (.lst (us ++ [y]))) g2.exF (fun b o _ nq e => by rw [upd_ne (fun z => nq ((hq b).mpr z))]; exact g2.exH b o e) (fun b pb _ => none2 b (r.there pb).1 (r.there pb).2) rw2 (fun b z _ => z)
                have evs : vs.set j (.ref lb) = vs := by
                  obtain ⟨hjl, e⟩ := List.getElem?_eq_some_iff.mp hvj
                  rw [← e, List.set_getElem_self]
                rw [evs] at r2
                have hp2 : (fun b => (p0 b ∧ ¬ q b) ∨ q b) = p0 := funext fun b => propext ⟨fun z => z.elim (fun y => y.1) (hqp b), fun z => (Classical.em (q b)).elim .inr fun y => .inl ⟨z, y⟩⟩
                rw [hp2] at r2
                have hi : i < env.length := (List.getElem?_eq_some_iff.mp hw).1
                have RX : RepW X.K F2 (upd H1 lb (.lst (us ++ [y]))) (.ref a) (.x (.o b c' ns' (ws.set j (.l (ds ++ [datW w]))))) (own i) :=
                  ⟨a, dx, C, vs, p0, rfl, hcC, by rw [upd_ne hal]; exact g2.exH _ _ h1, by rw [upd_ne hdl]; exact g2.exH _ _ h2, none2 a ⟨_, h1⟩ f1, none2 dx ⟨_, h2⟩ f2, hl, r2, hp, n1, n2⟩
                obtain ⟨own', S', st⟩ := S.repl (t := fun _ => False) (F' := F2) (H' := upd H1 lb (.lst (us ++ [y]))) hi hvv (fun _ z => z.elim)
                  (fun b o e => by
                    have : b ≠ lb := fun z => by rw [z, none2 lb ⟨_, hlH⟩ hlF] at e; cases e
                    rw [upd_ne this]; exact g2.sub b o e) g2.exF
                  (fun b o e no _ => by
                    have : b ≠ lb := fun z => no ((hp b).mpr (.inr (z ▸ hqp lb ql)))
                    rw [upd_ne this]; exact g2.exH b o e)
                  (fun b o e n => .inl (g2.fr b o e n)) RX (fun b z => .inr (.inl z))
                exact h .non F2 (upd H1 lb (.lst (us ++ [y]))) own' (fun _ => False) ((Grow.refl S'.ex).out ⟨S', st.sup fun a z => z.elim id False.elim⟩ RepW.ofNon)
              · rw [if_neg hcond] at h
                exact h.elim
      · rw [if_neg hc] at h
        exact h.elim
    | none, _, h => exact h.elim
    | some (.v _), _, h => exact h.elim
    | some (.l _ _), _, h => exact h.elim
    | some (.m _ _), _, h => exact h.elim
    | some (.x (.d _ _ _)), _, h => exact h.elim
    | some (.x (.t _)), _, h => exact h.elim
end
end DL

namespace DL
open PySem PySem.Spec PyProof.Rows L2
/-! ### x.f = e -/
def toW0 : W → Option W0
  | .v d => some (.v d)
  | .l _ ds => some (.l ds)
  | .x (.d k ks ds) => some (.d k ks ds)
  | _ => none
theorem RepW.toW0 {K : PySem.W.Frag} {F H : Hp} {v : V} {w : W} {w0 : W0} {p : Fp} (r : RepW K F H v w p) (h : DL.toW0 w = some w0) : RepW0 K F H v w0 p := by
  cases w with
  | v d => cases h; exact r
  | l b ds => cases h; exact r
  | m ks ds => cases h
  | x y =>
    cases y with
    | d k ks ds => cases h; exact r
    | o b c ns ws => cases h
    | t ws => cases h
def putFd (j : Nat) (w : W0) (ws : List W0) : Option (List W0) := if j < ws.length then some (ws.set j w) else if j = ws.length then some (ws ++ [w]) else none
def storeF (i : Nat) (c : Str) (ns : List Str) (j : Nat) (w : W) (env : DEnv) : Option DEnv := match toW0 w, env[i]? with
  | some w0, some (some (.x (.o b c' ns' ws))) => if c' = c ∧ ns' = ns then (match putFd j w0 ws with
    | some ws' => some (env.set i (some (.x (.o b c ns ws'))))
    | none => none) else none
  | _, _ => none
def sFldS (i : Nat) (c : Str) (ns : List Str) (j : Nat) (fe : M U) : M Fl := fun env => (fe env).bind fun u e1 => match ownU e1 u with
  | some (w, e2) => (match storeF i c ns j w e2 with
    | some e3 => .ok .next e3
    | none => .stuck)
  | none => .stuck
section
variable {K : PySem.W.Frag} {F H : Hp} {σ : L2.St} {env env' : DEnv} {own : Nat → Fp} {p : Fp}
/-- an attribute is stored to -/
theorem Sit.storeF {i j : Nat} {c f : Str} {ns : List Str} {y : V} {w : W} (S : Sit K F σ H env own) (T : ClsF K c ns) (nd : ns.Nodup) (hf : ns[j]? = some f) (ry : RepW K F H y w p) (dp : ∀ a, p a → ¬ all own a) (h : DL.storeF i c ns j w env = some env') :
    ∃ a C dx fs, σ[i]? = some (some (.ref a)) ∧ H a = some (.ins C dx fs) ∧ Cls K C ∧ NoAttr K C f ∧ fs.length ≤ ns.length ∧ ∃ own', Sit K F σ (upd H a (.ins C dx (putF f y fs))) env' own' ∧ Step F H (fun a => all own a ∨ p a) F (upd H a (.ins C dx (putF f y fs))) (all own') := by
  unfold DL.storeF at h
  split at h
  · rename_i w0 b c' ns' ws hw0 hw
    split at h
    · rename_i hc
      obtain ⟨rfl, rfl⟩ := hc
      split at h
      · rename_i ws' hput
        cases h
        obtain ⟨vv, hvv, a, dx, C, vs, p0, rfl, hcC, h1, h2, f1, f2, hl, r, hp, n1, n2⟩ := S.rep i _ hw
        obtain ⟨C', hc', cl, na⟩ := T.ex
        rw [hcC] at hc'
        cases hc'
        have hi : i < env.length := (List.getElem?_eq_some_iff.mp hw).1
        have r0 := ry.toW0 hw0
        have nown : ∀ b, p b → ¬ own i b := fun b z q => dp b z ⟨i, q⟩
        have hai : own i a := (hp a).mpr (.inl (.inl rfl))
        have hdi : own i dx := (hp dx).mpr (.inl (.inr rfl))
        have hpi : ∀ b, p0 b → own i b := fun b z => (hp b).mpr (.inr z)
        have hdx : dx ≠ a := fun z => by rw [z, h1] at h2; cases h2
        refine ⟨a, C, dx, ns'.zip vs, hvv, h1, cl, na f (List.mem_of_getElem? hf), by rw [List.length_zip]; omega, ?_⟩
        have r0' : ∀ fs', RepW0 K F (L2.upd H a (.ins C dx fs')) y w0 p := fun fs' => r0.frame (Same.refl _) (fun b o z e => by rw [upd_ne (show b ≠ a from fun q => nown b z (by rw [q]; exact hai))]; exact e) (fun b z => (r0.there z).2)
        have hlen := r.length
        have fin : ∀ (vs' : List V) (p0' : Fp), putF f y (ns'.zip vs) = ns'.zip vs' → vs'.length ≤ ns'.length → RepW0s K F (L2.upd H a (.ins C dx (ns'.zip vs'))) vs' ws' p0' → (∀ b, p0' b → p0 b ∨ p b) →
            ∃ own', Sit K F σ (L2.upd H a (.ins C dx (putF f y (ns'.zip vs)))) (env.set i (some (.x (.o b c' ns' ws')))) own' ∧ Step F H (fun a => all own a ∨ p a) F (L2.upd H a (.ins C dx (putF f y (ns'.zip vs)))) (all own') := fun vs' p0' e1 e2 rs sub => by
          rw [e1]
          refine S.repl (t := p) (p' := fun b => (b = a ∨ b = dx) ∨ p0' b) hi hvv dp (fun b o e => ?_) (Same.refl _) (fun b o e no _ => ?_) (fun b o e n => by rw [e] at n; cases n) ⟨a, dx, C, vs', p0', rfl, hcC, upd_same, by rw [upd_ne hdx]; exact h2, f1, f2, e2, rs, fun _ => Iff.rfl, fun z => ?_, fun z => ?_⟩ (fun b z => ?_)
          · have : b ≠ a := fun z => by rw [z, f1] at e; cases e
            rw [upd_ne this]
            exact S.ex b o e
          · rw [upd_ne (show b ≠ a from fun z => no (by rw [z]; exact hai))]
            exact e
          · rcases sub a z with q | q
            · exact n1 q
            · exact nown a q hai
          · rcases sub dx z with q | q
            · exact n2 q
            · exact nown dx q hdi
          · rcases z with (z | z) | z
            · rw [z]; exact .inr (.inl hai)
            · rw [z]; exact .inr (.inl hdi)
            · rcases sub b z with q | q
              · exact .inr (.inl (hpi b q))
              · exact .inr (.inr q)
        unfold putFd at hput
        by_cases hj : j < ws.length
        · rw [if_pos hj] at hput
          cases hput
          obtain ⟨v, q, hvj, rv, hqp, hupd⟩ := r.upd (List.getElem?_eq_getElem hj)
          have e1 := putF_set (y := y) nd hf (vs := vs) (by rw [hlen]; exact hj)
          refine fin (vs.set j y) _ e1 (by rw [List.length_set]; exact hl) (hupd (Same.refl _) (fun b o pb _ e => by rw [upd_ne (show b ≠ a from fun z => n1 (z ▸ pb))]; exact e) (fun b pb _ => (r.there pb).2) (r0' _) (fun b z pb => absurd (hpi b pb) (nown b z))) fun b z => ?_
          rcases z with z | z
          · exact .inl z.1
          · exact .inr z
        · rw [if_neg hj] at hput
          by_cases hj2 : j = ws.length
          · rw [if_pos hj2] at hput
            cases hput
            have hjv : j = vs.length := by rw [hlen]; exact hj2
            have e1 := putF_new (y := y) nd (vs := vs) (f := f) (by rw [← hjv]; exact hf)
            have hjn : j < ns'.length := (List.getElem?_eq_some_iff.mp hf).1
            have rf : RepW0s K F (L2.upd H a (.ins C dx (ns'.zip (vs ++ [y])))) vs ws p0 := r.frame (Same.refl _) (fun b o pb e => by rw [upd_ne (show b ≠ a from fun z => n1 (z ▸ pb))]; exact e) (fun b pb => (r.there pb).2)
            exact fin (vs ++ [y]) (fun b => p0 b ∨ p b) e1 (by rw [List.length_append]; show vs.length + 1 ≤ _; omega) (rf.snoc (r0' _) fun b z pb => nown b z (hpi b pb)) fun b z => z
          · rw [if_neg hj2] at hput
            cases hput
      · cases h
    · cases h
  · cases h
end
section
variable {X : Cx} {Wx : WX} {e : Expr} {fe : M U} {i j : Nat} {x c f : Str} {ns : List Str} {p1 p2 pos : Pos}
theorem s_fldS (T : ClsF X.K c ns) (nd : ns.Nodup) (hf : ns[j]? = some f) (hns : ns.length < 1000) (he : EvS X Wx e fe) (hN : X.N[i]? = some x := by rfl) (hv : Vis X.env.scope x := by first | exact Or.inl rfl | exact Or.inr (Or.inl rfl) | exact Or.inr (Or.inr rfl)) (hd : (x == ("__debug__" : Str)) = false := by decide) (hcd : (x == ("__classdict__" : Str)) = false := by decide)
    (hs : swapsWith e (some (.Attribute (.Name x p1) f p2)) pos.line X.env = pure false := by rfl) : StS X Wx (.Assign [.Attribute (.Name x p1) f p2] e pos) [] (sFldS i c ns j fe) :=
  PS.imp (ps_fld (pe_var hN hv hd hcd) he hs) fun E σ H h => by
  obtain ⟨F, env, own, S, h⟩ := h
  have h : Po X.K X.mg Wx [] E σ F H own (sFldS i c ns j fe env) := h
  unfold sFldS at h
  refine tOf_use S (fun u env1 e1 v1 F1 H1 own1 p O1 => ?_) (fun c' env1 e1 C F1 H1 own1 hm O1 => ?_) (fun e1 => ?_)
  · rw [e1, R.bind_ok] at h
    cases e2 : ownU env1 u with
    | none => rw [e2] at h; exact h.elim
    | some pr =>
      obtain ⟨w, env2⟩ := pr
      rw [e2] at h
      dsimp only at h
      obtain ⟨F2, own2, p2', O2⟩ := ownU_ok O1 e2
      cases e3 : storeF i c ns j w env2 with
      | none => rw [e3] at h; exact h.elim
      | some env3 =>
        rw [e3] at h
        obtain ⟨a, C, dx, fs, h1, h2, h3, h4, h5, own3, S3, st⟩ := O2.S.storeF T nd hf O2.r O2.d e3
        exact ⟨.ref a, h1, a, C, dx, fs, rfl, h2, h3, h4, Nat.lt_of_le_of_lt h5 hns, h σ F2 _ own3 Only.refl ⟨S3, O2.s.trans st⟩⟩
  · rw [e1] at h
    exact h C σ F1 H1 own1 Only.refl hm O1
  · rw [e1] at h
    exact h
end
end DL

/-! Dicts whose keys are ints, or tuples of ints, bools, None and such tuples. -/
namespace DL
open PySem PySem.Spec PyProof.Rows L2
/-! ### keys -/
mutual
theorem nest_is {K : PySem.W.Frag} {P : Program} {w : World} {F H : Hp} {h : Heap} (ok : HOk P w H h) (e : Same F H) : ∀ {v : V} {d : D}, RepD K F v d → plainK d = true → ∀ u, RelV v u → NestedIs h (keyOf d) u
  | _, _, .non, _, u, ru => by
    cases (show u = Value.none from ru)
    simp only [keyOf]
    exact .none
  | _, _, .bl b, _, u, ru => by
    cases (show u = Value.bool b from ru)
    simp only [keyOf]
    exact .bool rfl
  | _, _, .int i, _, u, ru => by
    obtain ⟨t, rfl⟩ := ru
    simp only [keyOf]
    exact .int i t
  | _, _, .tup (a := a) q r, hp, u, ru => by
    cases (show u = Value.ref a from ru)
    obtain ⟨_, its, rv, o, ho, hc, n, hd⟩ := ok a _ (e _ _ q)
    simp only [keyOf]
    exact .tup ho hc hd (nest_all ok e r (by simpa [plainK] using hp) its rv)
  | _, _, .str x, hp, _, _ => by simp [plainK] at hp
  | _, _, .ty n, hp, _, _ => by simp [plainK] at hp
  | _, _, .glob _, hp, _, _ => by simp [plainK] at hp
  | _, _, .exn _ _, hp, _, _ => by simp [plainK] at hp
  | _, _, .scr _, hp, _, _ => by simp [plainK] at hp
  | _, _, .dic _ _ _, hp, _, _ => by simp [plainK] at hp
  | _, _, .dix _ _ _ _, hp, _, _ => by simp [plainK] at hp
  | _, _, .ins _ _ _ _, hp, _, _ => by simp [plainK] at hp
  | _, _, .lst _ _, hp, _, _ => by simp [plainK] at hp
theorem nest_all {K : PySem.W.Frag} {P : Program} {w : World} {F H : Hp} {h : Heap} (ok : HOk P w H h) (e : Same F H) : ∀ {vs : List V} {ds : List D}, RepDs K F vs ds → plainKs ds = true → ∀ us, Vals vs us → NestedAll h (keyOfs ds) us
  | _, _, .nil, _, us, ru => by
    cases ru
    simp only [keyOfs]
    exact .nil
  | _, _, .cons r t, hp, us, ru => by
    cases ru with
    | cons r1 r2 =>
      simp only [plainKs, Bool.and_eq_true] at hp
      simp only [keyOfs]
      exact .cons (nest_is ok e r hp.1 _ r1) (nest_all ok e t hp.2 _ r2)
end
/-- at b stands the key k -/
def KeyAt (H : Hp) (k : NestedKey) (b : Addr) : Prop := (∀ (P : Program) (w : World) (h : Heap), HOk P w H h → (nestedKind P w).is h k b) ∧ ∀ w : World, k.hash w = hash0 k
theorem KeyAt.of {K : PySem.W.Frag} {F H : Hp} {v : V} {d : D} (e : Same F H) (r : RepD K F v d) (hk : keyD d = true) : ∃ b, v = .ref b ∧ KeyAt H (keyOf d) b := by
  cases d with
  | tup l =>
    have hk' : (plainKs l && decide ((keyOf (.tup l)).depth ≤ 8)) = true := hk
    simp only [Bool.and_eq_true, decide_eq_true_eq] at hk'
    cases r with
    | tup q rs =>
      rename_i a vs
      exact ⟨a, rfl, fun P w h ok => ⟨nest_is ok e (RepD.tup (K := K) q rs) (by simpa [plainK] using hk'.1) _ rfl, hk'.2⟩, fun w => hash_kd w hk⟩
  | _ => cases hk
/-- a dict with such keys stands at a -/
def XDict (H : Hp) (a : Addr) (xs : List (NestedKey × Addr × Value)) : Prop := H a = some (NdO a xs) ∧ ∀ x ∈ xs, KeyAt H x.1 x.2.1
theorem XDict.ok {X : Cx} {pins : List (Addr × Obj)} {σ : L2.St} {H : Hp} {s : Shared} {a : Addr} {xs : List (NestedKey × Addr × Value)} (I : Inv X pins σ H s) (h : XDict H a xs) : (a == sysModules) = false ∧ s.heap.DictOfH (nestedKind X.prog X.w) a xs := by
  obtain ⟨⟨h0, o, es, ep, h1, h2, h3, h4, h5⟩, _, _⟩ := I.hok a _ h.1
  refine ⟨h0, o, es, ep, h1, h2, h3, ?_, fun x hx => (h.2 x hx).1 _ _ _ I.hok, h5⟩
  rw [h4]
  refine List.map_congr_left fun x hx => ?_
  show (⟨hash0 x.1, _, _⟩ : DictEntry) = ⟨x.1.hash X.w, _, _⟩
  rw [(h.2 x hx).2]
theorem room8 {A : Around} (h : A.units + 65 < cLine) : A.in1.units + 8 < cLine := by
  show A.units + 1 + 8 < cLine
  omega
def rXIn : R2 := fun y x H Q => ∃ a b k xs, x = .ref a ∧ y = .ref b ∧ XDict H a xs ∧ KeyAt H k b ∧ Q (.bl (atKey xs k).isSome) H
def rXNotIn : R2 := fun y x H Q => ∃ a b k xs, x = .ref a ∧ y = .ref b ∧ XDict H a xs ∧ KeyAt H k b ∧ Q (.bl (!(atKey xs k).isSome)) H
section
variable {X : Cx} {pos : Pos}
theorem op_xIn (hu : X.A.units + 65 < cLine) : OpR X (compareOp .In) rXIn := by
  intro pins s σ H y x v u Q I ry rx h
  obtain ⟨a, b, k, xs, rfl, rfl, hd, hk, q⟩ := h
  cases (show u = Value.ref a from rx)
  cases (show v = Value.ref b from ry)
  obtain ⟨h0, dd⟩ := hd.ok I
  exact wpAny_in_heap (room8 hu) (hk.1 _ _ _ I.hok) h0 dd ⟨.bl (atKey xs k).isSome, H, I.tok _, rfl, q⟩
theorem op_xNotIn (hu : X.A.units + 65 < cLine) : OpR X (compareOp .NotIn) rXNotIn := by
  intro pins s σ H y x v u Q I ry rx h
  obtain ⟨a, b, k, xs, rfl, rfl, hd, hk, q⟩ := h
  cases (show u = Value.ref a from rx)
  cases (show v = Value.ref b from ry)
  obtain ⟨h0, dd⟩ := hd.ok I
  show wpAny _ _ (do return Value.bool (!(← contains (.ref a) (.ref b)))) _ _ s
  exact wpAny_bind (wpAny_contains_heap (room8 hu) (hk.1 _ _ _ I.hok) h0 dd (wpAny_pure ⟨.bl (!(atKey xs k).isSome), H, I.tok _, rfl, q⟩))
theorem nd_empty {P : Program} {w : World} {H : Hp} (h : Heap) (hb : sysModules < h.objs.size) : ObjOk P w H (h.push { cls := .type "dict", data := .dict #[] }) h.objs.size (NdO h.objs.size []) := by
  have e : (h.push { cls := .type "dict", data := .dict #[] }).get? h.objs.size = some { cls := .type "dict", data := .dict #[] } := Heap.get?_push_size _ rfl
  refine ⟨⟨beq_eq_false_iff_ne.mpr (Ne.symm (Nat.ne_of_lt hb)), _, #[], 0, e, ⟨rfl, rfl, rfl⟩, rfl, rfl, List.nodup_nil⟩, ⟨_, e⟩, fun h1 h2 q k => ?_⟩
  obtain ⟨q0, o, es, ep, q1, q2⟩ := q
  exact ⟨q0, o, es, ep, k _ q1, q2⟩
def tDNewX : TE := fun _ H Q => ∀ p, H p = none → Q (.ref p) (upd H p (NdO p []))
theorem pe_dnewX : PE X (.Dict [] [] pos) tDNewX := ⟨fun pins s σ H Q I h =>
  wpAny_Dict_empty ⟨.ref s.heap.objs.size, _, I.laid (a := s.heap.objs.size) (o := NdO s.heap.objs.size []) (t' := s.toks) (fun _ _ q => Heap.get?_push_of_some _ q) (Nat.le_refl _) (nd_empty s.heap I.big), rfl, h _ (I.hok.fresh (Nat.le_refl _))⟩⟩
end
def rXGet : R2 := fun x y H Q => ∃ a b k xs v u, x = .ref a ∧ y = .ref b ∧ XDict H a xs ∧ KeyAt H k b ∧ (∃ p, atKey xs k = some (p, u)) ∧ RelV v u ∧ Q v H
def tXGet (td ty : TE) : TE := fun σ H Q => td σ H fun x H1 => ty σ H1 fun y H2 => rXGet x y H2 Q
section
variable {X : Cx} {o i : Expr} {td ty tv : TE} {pos pos' : Pos} {value : Expr}
theorem pe_xget (hu : X.A.units + 65 < cLine) (ho : PE X o td) (hi : PE X i ty) (hs : NoSl i) : PE X (.Subscript o i pos) (tXGet td ty) := by
  refine ⟨fun pins s σ H Q I h => ?_⟩
  refine subD_of PySem.F.slot_dict_getitem.lookup hs (thn (ho.run pins s σ H _ I h) fun u s1 ⟨x, H1, I1, rx, q1⟩ => thn (hi.run pins s1 σ H1 _ I1 q1) fun iv s2 ⟨y, H2, I2, ry, a, b, k, xs, v, val, ex, ey, hd, hk, hp, rv, q2⟩ => ?_)
  subst ex ey
  obtain rfl : u = Value.ref a := rx
  obtain rfl : iv = Value.ref b := ry
  obtain ⟨h0, dd⟩ := hd.ok I2
  obtain ⟨p, hp⟩ := hp
  exact ⟨dd.typeIs, wpAny_getItem_heap (room8 hu) (hk.1 _ _ _ I2.hok) dd hp ⟨v, H2, I2.tok _, rv, q2⟩⟩
/-- d[y] = v -/
def sXPut (td ty tv : TE) : TS := fun D σ H => tv σ H fun v H1 => td σ H1 fun x H2 => ty σ H2 fun y H3 => ∃ a b k xs, x = .ref a ∧ y = .ref b ∧ XDict H3 a xs ∧ KeyAt H3 k b ∧ xs.length ≤ sizeLine ∧ (∀ u, RelV v u → D.nx σ (upd H3 a (NdO a (storedH xs k b u))))
theorem ps_xput (hu : X.A.units + 65 < cLine) (ho : PE X o td) (hi : PE X i ty) (hv : PE X value tv) (hs : swapsWith value (some (.Subscript o i pos')) pos.line X.env = pure false) :
    PS X (.Assign [.Subscript o i pos'] value pos) (sXPut td ty tv) := by
  refine ⟨fun pins s σ H D I h => ?_⟩
  refine wpAny_Assign_Subscript (thn (hv.run pins s σ H _ I h) fun r s1 ⟨v, H1, I1, rv, q1⟩ => thn (ho.run pins s1 σ H1 _ I1 q1) fun u s2 ⟨x, H2, I2, rx, q2⟩ => thn (hi.run pins s2 σ H2 _ I2 q2) fun iv s3 ⟨y, H3, I3, ry, a, b, k, xs, ex, ey, hd, hk, hz, q3⟩ => ?_) hs
  subst ex ey
  obtain rfl : u = Value.ref a := rx
  obtain rfl : iv = Value.ref b := ry
  obtain ⟨h0, dd⟩ := hd.ok I3
  refine wpAny_setItem_heap (hsz := hz) (room8 hu) (hk.1 _ _ _ I3.hok) dd fun h' dd' hsb => ?_
  obtain ⟨q, es, ep, hq, h2, h3, h4, _, h5⟩ := dd'
  have hash : ∀ x ∈ storedH xs k b r, ∀ w : World, x.1.hash w = hash0 x.1 := fun x hx w => by
    unfold storedH at hx
    split at hx
    · obtain ⟨y, hy, rfl⟩ := List.mem_map.mp hx
      unfold putAt
      split <;> exact (hd.2 y hy).2 w
    · rcases List.mem_append.mp hx with z | z
      · exact (hd.2 x z).2 w
      · rw [show x = (k, b, r) by simpa using z]
        exact hk.2 w
  have e4 : es.toList = (storedH xs k b r).map (fun x => (⟨hash0 x.1, .ref x.2.1, x.2.2⟩ : DictEntry)) := by
    rw [h4]
    refine List.map_congr_left fun x hx => ?_
    show (⟨x.1.hash X.w, _, _⟩ : DictEntry) = ⟨hash0 x.1, _, _⟩
    rw [hash x hx]
  have ok : ObjOk X.prog X.w (upd H3 a (NdO a (storedH xs k b r))) h' a (NdO a (storedH xs k b r)) := by
    refine ⟨⟨h0, q, es, ep, hq, h2, h3, e4, h5⟩, ⟨_, hq⟩, fun g1 g2 z kk => ?_⟩
    obtain ⟨z0, o, es, ep, z1, z2⟩ := z
    exact ⟨z0, o, es, ep, kk _ z1, z2⟩
  exact ⟨σ, _, d_write I3 (by rw [hd.1]; exact True.intro) hsb ⟨q, hq⟩ ok, q3 r rv⟩
end
end DL

namespace DL
open PySem PySem.Spec PyProof.Rows L2
/-! ### plain -/
def dixGet : List D → List D → D → Option D
  | k' :: ks, d :: ds, k => if keyOf k' = keyOf k then some d else dixGet ks ds k
  | _, _, _ => none
def dixHas (ks : List D) (k : D) : Bool := ks.any fun k' => decide (keyOf k' = keyOf k)
def dixRep : List D → List D → D → D → List D
  | k' :: ks, d' :: ds, k, d => (if keyOf k' = keyOf k then d else d') :: dixRep ks ds k d
  | _, _, _, _ => []
def dixK (ks : List D) (k : D) : List D := if dixHas ks k then ks else ks ++ [k]
def dixD (ks ds : List D) (k d : D) : List D := if dixHas ks k then dixRep ks ds k d else ds ++ [d]
def okKey : Bool → D → Bool
  | true, .int _ => true
  | false, d => keyD d
  | _, _ => false
section
variable {K : PySem.W.Frag} {F : Hp}
theorem keyOf_int {a b : Int} : keyOf (.int a) = keyOf (.int b) ↔ a = b := by
  simp only [keyOf]
  exact ⟨fun h => by injection h, fun h => by rw [h]⟩
/-! keys that are tuples -/
theorem x_get : ∀ {xs : List (NestedKey × Addr × Value)} {vs : List V} {ks ds : List D} (k : D), Vals vs (xs.map (·.2.2)) → RepDs K F vs ds → xs.map (·.1) = ks.map keyOf → match dixGet ks ds k with
    | some d => ∃ p u v, atKey xs (keyOf k) = some (p, u) ∧ RelV v u ∧ RepD K F v d
    | none => atKey xs (keyOf k) = none
  | [], vs, ks, ds, k, hv, r, hk => by
    have : ks = [] := by cases ks with | nil => rfl | cons a b => simp at hk
    subst this
    rfl
  | x :: xs, vs, ks, ds, k, hv, r, hk => by
    cases ks with
    | nil => simp at hk
    | cons k' ks =>
      rw [List.map_cons] at hv
      cases hv with
      | @cons v u vs us rv hv' =>
        cases r with
        | @cons _ d _ ds' h t =>
          simp only [List.map_cons, List.cons.injEq] at hk
          have ih := x_get k hv' t hk.2
          by_cases c : keyOf k' = keyOf k
          · rw [show dixGet (k' :: ks) (d :: ds') k = some d by simp [dixGet, c]]
            refine ⟨x.2.1, x.2.2, v, ?_, rv, h⟩
            unfold atKey
            rw [List.find?_cons, decide_eq_true (by rw [hk.1]; exact c)]
            rfl
          · rw [show dixGet (k' :: ks) (d :: ds') k = dixGet ks ds' k by simp [dixGet, c]]
            have e : atKey (x :: xs) (keyOf k) = atKey xs (keyOf k) := by
              unfold atKey
              rw [List.find?_cons, decide_eq_false (by rw [hk.1]; exact c)]
            rw [e]
            exact ih
theorem x_has {xs : List (NestedKey × Addr × Value)} {ks : List D} (k : D) (hk : xs.map (·.1) = ks.map keyOf) : (atKey xs (keyOf k)).isSome = dixHas ks k := by
  induction xs generalizing ks with
  | nil =>
    have : ks = [] := by cases ks with | nil => rfl | cons a b => simp at hk
    subst this
    rfl
  | cons x xs ih =>
    cases ks with
    | nil => simp at hk
    | cons k' ks =>
      simp only [List.map_cons, List.cons.injEq] at hk
      have i := ih hk.2
      unfold atKey dixHas at i ⊢
      rw [List.find?_cons, List.any_cons, hk.1]
      by_cases c : keyOf k' = keyOf k
      · rw [decide_eq_true c]; rfl
      · rw [decide_eq_false c, Bool.false_or]; exact i
theorem x_rep {u : Value} {v : V} {d : D} (k : D) (ru : RelV v u) (rd : RepD K F v d) : ∀ {xs : List (NestedKey × Addr × Value)} {vs : List V} {ks ds : List D}, Vals vs (xs.map (·.2.2)) → RepDs K F vs ds → xs.map (·.1) = ks.map keyOf →
    ∃ vs', Vals vs' ((xs.map (putAt (keyOf k) u)).map (·.2.2)) ∧ RepDs K F vs' (dixRep ks ds k d)
  | [], vs, ks, ds, hv, r, hk => by
    have : ks = [] := by cases ks with | nil => rfl | cons a b => simp at hk
    subst this
    exact ⟨[], .nil, .nil⟩
  | x :: xs, vs, ks, ds, hv, r, hk => by
    cases ks with
    | nil => simp at hk
    | cons k' ks =>
      rw [List.map_cons] at hv
      cases hv with
      | @cons v0 u0 vs us rv hv' =>
        cases r with
        | @cons _ d0 _ ds' h t =>
          simp only [List.map_cons, List.cons.injEq] at hk
          obtain ⟨vs', i1, i2⟩ := x_rep k ru rd hv' t hk.2
          rw [dixRep]
          by_cases c : keyOf k' = keyOf k
          · rw [if_pos c, List.map_cons, List.map_cons]
            refine ⟨v :: vs', .cons ?_ i1, .cons rd i2⟩
            unfold putAt
            rw [if_pos (by rw [hk.1]; exact c)]
            exact ru
          · rw [if_neg c, List.map_cons, List.map_cons]
            refine ⟨v0 :: vs', .cons ?_ i1, .cons h i2⟩
            unfold putAt
            rw [if_neg (by rw [hk.1]; exact c)]
            exact rv
theorem put_keys (k : NestedKey) (u : Value) (xs : List (NestedKey × Addr × Value)) : (xs.map (putAt k u)).map (·.1) = xs.map (·.1) ∧ (xs.map (putAt k u)).map (fun x => V.ref x.2.1) = xs.map (fun x => V.ref x.2.1) := by
  constructor
  · rw [List.map_map]
    refine List.map_congr_left fun x _ => ?_
    show (putAt k u x).1 = x.1
    unfold putAt
    split <;> rfl
  · rw [List.map_map]
    refine List.map_congr_left fun x _ => ?_
    show V.ref (putAt k u x).2.1 = V.ref x.2.1
    unfold putAt
    split <;> rfl
theorem vals_one {v : V} {u : Value} (h : RelV v u) : Vals [v] [u] := .cons h .nil
/-- the dict with an entry stored -/
theorem x_put {a b : Addr} {xs : List (NestedKey × Addr × Value)} {us vs : List V} {ks ds : List D} {k d : D} {v : V} {u : Value} (hx : us = xs.map (fun x => V.ref x.2.1) ∧ Vals vs (xs.map (·.2.2)) ∧ xs.map (·.1) = ks.map keyOf ∧ ks.all keyD = true) (ru' : RepDs K F us ks) (rv : RepDs K F vs ds)
    (hk : keyD k = true) (rk : RepD K F (.ref b) k) (ru : RelV v u) (rd : RepD K F v d) :
    ∃ us' vs', DxO false a us' vs' (dixK ks k) (NdO a (storedH xs (keyOf k) b u)) ∧ RepDs K F us' (dixK ks k) ∧ RepDs K F vs' (dixD ks ds k d) := by
  obtain ⟨h1, h2, h3, h4⟩ := hx
  have hh := x_has k h3
  unfold storedH dixK dixD
  rw [hh]
  cases c : dixHas ks k with
  | true =>
    obtain ⟨vs', i1, i2⟩ := x_rep k ru rd h2 rv h3
    obtain ⟨p1, p2⟩ := put_keys (keyOf k) u xs
    simp only [if_pos]
    exact ⟨us, vs', ⟨_, rfl, by rw [p2]; exact h1, i1, by rw [p1]; exact h3, h4⟩, ru', i2⟩
  | false =>
    simp only [Bool.false_eq_true, if_false]
    refine ⟨us ++ [.ref b], vs ++ [v], ⟨_, rfl, by rw [List.map_append, h1]; rfl, by rw [List.map_append]; exact h2.append (vals_one ru), by rw [List.map_append, List.map_append, h3]; rfl, by rw [List.all_append, h4]; simp [hk]⟩, ru'.append (.cons rk .nil), rv.append (.cons rd .nil)⟩
/-! keys that are ints -/
theorem i_get : ∀ {kk : List Int} {vs : List V} {ds : List D} (n : Int), vs.length = kk.length → RepDs K F vs ds → match dixGet (kk.map D.int) ds (.int n) with
    | some d => ∃ v, valV ((kk.map Sum.inl).zip vs : List (Key × V)) (Sum.inl n) = some v ∧ RepD K F v d
    | none => valV ((kk.map Sum.inl).zip vs : List (Key × V)) (Sum.inl n) = none
  | [], vs, ds, n, hl, r => valV_nil
  | k :: kk, vs, ds, n, hl, r => by
    cases r with
    | nil => simp at hl
    | @cons v d vs ds h t =>
      have ih := i_get n (by simpa using hl) t
      by_cases c : k = n
      · subst c
        rw [show dixGet ((k :: kk).map D.int) (d :: ds) (.int k) = some d by simp [dixGet]]
        exact ⟨v, valV_pos rfl, h⟩
      · rw [show dixGet ((k :: kk).map D.int) (d :: ds) (.int n) = dixGet (kk.map D.int) ds (.int n) by simp [dixGet, keyOf_int, c]]
        have ne : ¬ ((Sum.inl k : Key), v).1 = Sum.inl n := fun z => c (Sum.inl.inj z)
        split at ih
        · rename_i d' hd'
          show ∃ v', valV ((Sum.inl k, v) :: (kk.map Sum.inl).zip vs) (Sum.inl n) = some v' ∧ _
          rw [valV_neg ne]
          exact ih
        · rename_i hd'
          show valV ((Sum.inl k, v) :: (kk.map Sum.inl).zip vs) (Sum.inl n) = none
          rw [valV_neg ne]
          exact ih
theorem i_any : ∀ {kk : List Int} {vs : List V} (n : Int), vs.length = kk.length → (((kk.map Sum.inl).zip vs : List (Key × V)).any fun kv => decide (kv.1 = Sum.inl n)) = dixHas (kk.map D.int) (.int n)
  | [], vs, n, hl => rfl
  | k :: kk, [], n, hl => by simp at hl
  | k :: kk, v :: vs, n, hl => by
    have ih := i_any (kk := kk) (vs := vs) n (by simpa using hl)
    unfold dixHas at ih ⊢
    rw [List.map_cons, List.map_cons, List.zip_cons_cons, List.any_cons, List.any_cons, ih]
    congr 1
    by_cases c : k = n
    · subst c; simp
    · rw [decide_eq_false (fun z => c (Sum.inl.inj z)), decide_eq_false (fun z => c (keyOf_int.mp z))]
theorem i_rep {v : V} {d : D} (rd : RepD K F v d) (n : Int) : ∀ {kk : List Int} {vs : List V} {ds : List D}, vs.length = kk.length → RepDs K F vs ds →
    ∃ vs', (((kk.map Sum.inl).zip vs : List (Key × V)).map fun kv => if kv.1 = Sum.inl n then (kv.1, v) else kv) = (kk.map Sum.inl).zip vs' ∧ vs'.length = kk.length ∧ RepDs K F vs' (dixRep (kk.map D.int) ds (.int n) d)
  | [], vs, ds, hl, r => by
    cases r with
    | nil => exact ⟨[], rfl, rfl, .nil⟩
    | cons _ _ => simp at hl
  | k :: kk, vs, ds, hl, r => by
    cases r with
    | nil => simp at hl
    | @cons v0 d0 vs ds h t =>
      obtain ⟨vs', i1, i2, i3⟩ := i_rep rd n (kk := kk) (by simpa using hl) t
      rw [List.map_cons, List.map_cons, List.zip_cons_cons, List.map_cons, i1, dixRep]
      by_cases c : k = n
      · subst c
        rw [if_pos rfl, if_pos rfl]
        exact ⟨v :: vs', rfl, by simp [i2], .cons rd i3⟩
      · rw [if_neg (fun z => c (Sum.inl.inj z)), if_neg (fun z => c (keyOf_int.mp z))]
        exact ⟨v0 :: vs', rfl, by simp [i2], .cons h i3⟩
theorem i_put {a : Addr} {kk : List Int} {vs : List V} {ds : List D} {n : Int} {v : V} {d : D} (hl : vs.length = kk.length) (rv : RepDs K F vs ds) (rd : RepD K F v d) :
    ∃ us' vs', DxO true a us' vs' (dixK (kk.map D.int) (.int n)) (.dK (putK ((kk.map Sum.inl).zip vs) (Sum.inl n) v)) ∧ RepDs K F us' (dixK (kk.map D.int) (.int n)) ∧ RepDs K F vs' (dixD (kk.map D.int) ds (.int n) d) := by
  unfold putK dixK dixD
  rw [i_any n hl]
  cases c : dixHas (kk.map D.int) (.int n) with
  | true =>
    obtain ⟨vs', i1, i2, i3⟩ := i_rep rd n hl rv
    simp only [if_pos]
    exact ⟨kk.map V.int, vs', ⟨kk, rfl, rfl, i2, by rw [i1]⟩, RepDs.of_ints kk, i3⟩
  | false =>
    simp only [Bool.false_eq_true, if_false]
    refine ⟨(kk ++ [n]).map V.int, vs ++ [v], ⟨kk ++ [n], rfl, by simp, by simp [hl], ?_⟩, by rw [show kk.map D.int ++ [D.int n] = (kk ++ [n]).map D.int by simp]; exact RepDs.of_ints _, rv.append (.cons rd .nil)⟩
    rw [List.map_append, List.zip_append (by simp [hl])]
    rfl
end
end DL

namespace DL
open PySem PySem.Spec PyProof.Rows L2
/-! ### d[k], k in d, k not in d -/
def gXGet : List D → Option W
  | [.dix b ks ds, k] => if okKey b k then (dixGet ks ds k).map .v else none
  | _ => none
def gXIn : List D → Option W
  | [k, .dix b ks ds] => if okKey b k then some (.v (.bl (dixGet ks ds k).isSome)) else none
  | _ => none
def gXNotIn : List D → Option W
  | [k, .dix b ks ds] => if okKey b k then some (.v (.bl (!(dixGet ks ds k).isSome))) else none
  | _ => none
section
variable {K : PySem.W.Frag} {F H : Hp}
theorem nd_view {a : Addr} {xs : List (NestedKey × Addr × Value)} {ks : List D} (e : Same F H) (hH : H a = some (NdO a xs)) (r1 : RepDs K F (xs.map (fun x => V.ref x.2.1)) ks) (hk : xs.map (·.1) = ks.map keyOf) (ha : ks.all keyD = true) : XDict H a xs := by
  refine ⟨hH, fun x hx => ?_⟩
  obtain ⟨n, hn, rfl⟩ := List.mem_iff_getElem.mp hx
  have hks : n < ks.length := by
    have := congrArg List.length hk
    rw [List.length_map, List.length_map] at this
    omega
  have e1 : keyOf ks[n] = xs[n].1 := by
    have := congrArg (fun l => l[n]?) hk
    simp only [List.getElem?_map, List.getElem?_eq_getElem hn, List.getElem?_eq_getElem hks, Option.map_some, Option.some.injEq] at this
    exact this.symm
  have e2 : (xs.map fun x => V.ref x.2.1)[n]? = some (.ref xs[n].2.1) := by rw [List.getElem?_map, List.getElem?_eq_getElem hn]; rfl
  obtain ⟨d, h1, h2⟩ := r1.getv e2
  rw [List.getElem?_eq_getElem hks] at h1
  cases h1
  obtain ⟨b', e3, kat'⟩ := KeyAt.of e h2 (List.all_eq_true.mp ha _ (List.getElem_mem hks))
  cases e3
  rw [← e1]
  exact kat'
theorem key_view {y : V} {k : D} (e : Same F H) (hy : View K F H y k) (hkd : keyD k = true) : ∃ bb, y = .ref bb ∧ KeyAt H (keyOf k) bb ∧ RepD K F (.ref bb) k := by
  have rk : RepD K F y k := by
    cases k with
    | tup l => exact hy
    | _ => cases hkd
  obtain ⟨bb, rfl, kat⟩ := KeyAt.of e rk hkd
  exact ⟨bb, rfl, kat, rk⟩
theorem okKey_f {k : D} (ok : okKey false k = true) : keyD k = true := by cases k <;> exact ok
/-- how a dict is looked up -/
theorem dix_view {x y : V} {b : Bool} {ks ds : List D} {k : D} (e : Same F H) (hx : View K F H x (.dix b ks ds)) (hy : View K F H y k) (ok : okKey b k = true) :
    (∃ a o, x = .ref a ∧ DGet H a y o ∧ match dixGet ks ds k with
      | some d => ∃ v, o = some v ∧ RepD K F v d
      | none => o = none) ∨ ∃ a bb xs, x = .ref a ∧ y = .ref bb ∧ XDict H a xs ∧ KeyAt H (keyOf k) bb ∧ match dixGet ks ds k with
      | some d => ∃ p u v, atKey xs (keyOf k) = some (p, u) ∧ RelV v u ∧ RepD K F v d
      | none => atKey xs (keyOf k) = none := by
  obtain ⟨a, o, us, vs, rfl, hH, hD, r1, r2⟩ := hx
  cases b with
  | true =>
    cases k with
    | int n =>
      obtain ⟨kk, rfl, rfl, hl, rfl⟩ := hD
      have := hy.int
      subst this
      exact .inl ⟨a, _, rfl, DGet.k (k := Sum.inl n) hH, i_get n hl r2⟩
    | _ => cases ok
  | false =>
    obtain ⟨xs, rfl, rfl, hv, hk, ha⟩ := hD
    obtain ⟨bb, rfl, kat, _⟩ := key_view e hy (okKey_f ok)
    exact .inr ⟨a, bb, xs, rfl, rfl, nd_view e hH r1 hk ha, kat, x_get k hv r2 hk⟩
end
def rXInA : R2 := fun y x H Q => rDIn y x H Q ∨ rXIn y x H Q
def rXNotInA : R2 := fun y x H Q => rDNotIn y x H Q ∨ rXNotIn y x H Q
section
variable {X : Cx} {K : PySem.W.Frag}
theorem op_xInA (hu : X.A.units + 65 < cLine) : OpR X (compareOp .In) rXInA := (op_dIn (by omega)).or (op_xIn hu)
theorem op_xNotInA (hu : X.A.units + 65 < cLine) : OpR X (compareOp .NotIn) rXNotInA := (op_dNotIn (by omega)).or (op_xNotIn hu)
theorem cd_xIn : CaD K (r2 rXInA) gXIn := by
  intro F H vs ds w Q e vw hg q
  unfold gXIn at hg
  split at hg
  · rename_i k b ks dd
    obtain ⟨x, y, rfl, hx, hy⟩ := vw.two
    split at hg
    · rename_i ok
      cases hg
      refine ⟨_, _, rfl, ?_⟩
      rcases dix_view e hy hx ok with ⟨a, o, rfl, g, z⟩ | ⟨a, bb, xs, rfl, rfl, hd, hk, z⟩
      · refine .inl ⟨a, o, rfl, g, ?_⟩
        have : o.isSome = (dixGet ks dd k).isSome := by
          cases c : dixGet ks dd k with
          | none => rw [c] at z; rw [z]; rfl
          | some d => rw [c] at z; obtain ⟨v, e1, _⟩ := z; rw [e1]; rfl
        rw [this]
        exact fin_bl e q
      · refine .inr ⟨a, bb, _, xs, rfl, rfl, hd, hk, ?_⟩
        have : (atKey xs (keyOf k)).isSome = (dixGet ks dd k).isSome := by
          cases c : dixGet ks dd k with
          | none => rw [c] at z; rw [z]; rfl
          | some d => rw [c] at z; obtain ⟨p, u, v, e1, _⟩ := z; rw [e1]; rfl
        rw [this]
        exact fin_bl e q
    · cases hg
  · cases hg
theorem cd_xNotIn : CaD K (r2 rXNotInA) gXNotIn := by
  intro F H vs ds w Q e vw hg q
  unfold gXNotIn at hg
  split at hg
  · rename_i k b ks dd
    obtain ⟨x, y, rfl, hx, hy⟩ := vw.two
    split at hg
    · rename_i ok
      cases hg
      refine ⟨_, _, rfl, ?_⟩
      rcases dix_view e hy hx ok with ⟨a, o, rfl, g, z⟩ | ⟨a, bb, xs, rfl, rfl, hd, hk, z⟩
      · refine .inl ⟨a, o, rfl, g, ?_⟩
        have : o.isSome = (dixGet ks dd k).isSome := by
          cases c : dixGet ks dd k with
          | none => rw [c] at z; rw [z]; rfl
          | some d => rw [c] at z; obtain ⟨v, e1, _⟩ := z; rw [e1]; rfl
        rw [this]
        exact fin_bl e q
      · refine .inr ⟨a, bb, _, xs, rfl, rfl, hd, hk, ?_⟩
        have : (atKey xs (keyOf k)).isSome = (dixGet ks dd k).isSome := by
          cases c : dixGet ks dd k with
          | none => rw [c] at z; rw [z]; rfl
          | some d => rw [c] at z; obtain ⟨p, u, v, e1, _⟩ := z; rw [e1]; rfl
        rw [this]
        exact fin_bl e q
    · cases hg
  · cases hg
end
/-! d[k] -/
def rXGetA : R2 := fun x y H Q => rDGet x y H Q ∨ rXGet x y H Q
def tXGetA (td ty : TE) : TE := fun σ H Q => td σ H fun x H1 => ty σ H1 fun y H2 => rXGetA x y H2 Q
theorem cd_xGet {K : PySem.W.Frag} : CaD K (r2 rXGetA) gXGet := by
  intro F H vs ds w Q e vw hg q
  unfold gXGet at hg
  split at hg
  · rename_i b ks dd k
    obtain ⟨x, y, rfl, hx, hy⟩ := vw.two
    split at hg
    · rename_i ok
      obtain ⟨d, hd, rfl⟩ := Option.map_eq_some_iff.mp hg
      refine ⟨_, _, rfl, ?_⟩
      rcases dix_view e hx hy ok with ⟨a, o, rfl, g, z⟩ | ⟨a, bb, xs, rfl, rfl, hdx, hk, z⟩
      · rw [hd] at z
        obtain ⟨v, rfl, rv⟩ := z
        exact .inl ⟨a, v, rfl, g, fin_rep e rv q⟩
      · rw [hd] at z
        obtain ⟨p, u, v, e1, rv, rd⟩ := z
        exact .inr ⟨a, bb, _, xs, v, u, rfl, rfl, hdx, hk, ⟨p, e1⟩, rv, fin_rep e rd q⟩
    · cases hg
  · cases hg
section
variable {X : Cx} {Wx : WX} {o i : Expr} {td ty : TE} {fv : DEnv → Option D} {fi : G} {fo fk : M U} {pos : Pos}
theorem pe_xgetA (hu : X.A.units + 65 < cLine) (ho : PE X o td) (hi : PE X i ty) (hs : NoSl i) : PE X (.Subscript o i pos) (tXGetA td ty) := by
  refine ⟨fun pins s σ H Q I h => ?_⟩
  refine subD_of PySem.F.slot_dict_getitem.lookup hs (thn (ho.run pins s σ H _ I h) fun u s1 ⟨x, H1, I1, rx, q1⟩ => thn (hi.run pins s1 σ H1 _ I1 q1) fun iv s2 ⟨y, H2, I2, ry, q2⟩ => ?_)
  rcases q2 with ⟨a, v, ex, g, q2⟩ | ⟨a, b, k, xs, v, val, ex, ey, hd, hk, hp, rv, q2⟩
  · subst ex
    obtain rfl : u = Value.ref a := rx
    exact ⟨dict_typeIs I2 g, d_getItem (by omega) I2 g ry fun w' s3 I3 rw' => ⟨v, H2, I3, rw', q2⟩⟩
  · subst ex ey
    obtain rfl : u = Value.ref a := rx
    obtain rfl : iv = Value.ref b := ry
    obtain ⟨h0, dd⟩ := hd.ok I2
    obtain ⟨p, hp⟩ := hp
    exact ⟨dd.typeIs, wpAny_getItem_heap (room8 hu) (hk.1 _ _ _ I2.hok) dd hp ⟨v, H2, I2.tok _, rv, q2⟩⟩
theorem gv_xget (hu : X.A.units + 65 < cLine) (ho : EvV X o fv) (hi : EvG X i fi) (hs : NoSl i := by intro _ _; rfl) : EvG X (.Subscript o i pos) (opV gXGet fv [fi]) :=
  PE.imp (pe_xgetA hu ho hi hs) fun σ H Q h => vOf_mono (opV_sem cd_xGet h) fun _ _ q => gOfG_mono (aOfG_1 q) fun _ _ z => r2_two z
theorem e_xget (hu : X.A.units + 65 < cLine) (ho : EvS X Wx o fo) (hi : EvS X Wx i fk) (hs : NoSl i := by intro _ _; rfl) : EvS X Wx (.Subscript o i pos) (opN gXGet [fo, fk]) :=
  PE.imp (pe_xgetA hu ho hi hs) fun σ H Q h => tOf_mono (aOf_2 (aOf_op cd_xGet h)) fun _ _ q => tOf_mono q fun _ _ z => r2_two z
end
/-! {} -/
def eXNew (b : Bool) : M U := fun env => .ok (.w (.x (.d b [] []))) env
section
variable {X : Cx} {Wx : WX} {pos : Pos}
theorem e_xnew {b : Bool} : EvS X Wx (.Dict [] [] pos) (eXNew b) := by
  cases b with
  | true =>
    exact PE.imp pe_dnewK fun σ H Q h => by
      obtain ⟨F, env, own, S, h⟩ := h
      intro p hp
      have g : Grow F H F (upd H p (.dK [])) (fun a => a = p) := Grow.ofOwn S.ex hp
      exact h (.ref p) F (upd H p (.dK [])) own (fun a => a = p) (g.out (OutR.refl S) ⟨p, _, [], [], rfl, fun _ => Iff.rfl, upd_same, sub_none S.ex hp, ⟨[], rfl, rfl, rfl, rfl⟩, .nil, .nil⟩)
  | false =>
    exact PE.imp pe_dnewX fun σ H Q h => by
      obtain ⟨F, env, own, S, h⟩ := h
      intro p hp
      have g : Grow F H F (upd H p (NdO p [])) (fun a => a = p) := Grow.ofOwn S.ex hp
      exact h (.ref p) F (upd H p (NdO p [])) own (fun a => a = p) (g.out (OutR.refl S) ⟨p, _, [], [], rfl, fun _ => Iff.rfl, upd_same, sub_none S.ex hp, ⟨[], rfl, rfl, .nil, rfl, rfl⟩, .nil, .nil⟩)
end
/-! d[k] = e -/
def sXPutA (td ty tv : TE) : TS := fun D σ H => tv σ H fun v H1 => td σ H1 fun x H2 => ty σ H2 fun y H3 => (∃ a H4, x = .ref a ∧ DPut H3 a y v H4 ∧ D.nx σ H4) ∨ ∃ a b k xs, x = .ref a ∧ y = .ref b ∧ XDict H3 a xs ∧ KeyAt H3 k b ∧ xs.length ≤ sizeLine ∧ (∀ u, RelV v u → D.nx σ (upd H3 a (NdO a (storedH xs k b u))))
section
variable {X : Cx} {o i : Expr} {td ty tv : TE} {pos pos' : Pos} {value : Expr}
theorem ps_xputA (hu : X.A.units + 65 < cLine) (ho : PE X o td) (hi : PE X i ty) (hv : PE X value tv) (hs : swapsWith value (some (.Subscript o i pos')) pos.line X.env = pure false) :
    PS X (.Assign [.Subscript o i pos'] value pos) (sXPutA td ty tv) := by
  refine ⟨fun pins s σ H D I h => ?_⟩
  refine wpAny_Assign_Subscript (thn (hv.run pins s σ H _ I h) fun r s1 ⟨v, H1, I1, rv, q1⟩ => thn (ho.run pins s1 σ H1 _ I1 q1) fun u s2 ⟨x, H2, I2, rx, q2⟩ => thn (hi.run pins s2 σ H2 _ I2 q2) fun iv s3 ⟨y, H3, I3, ry, q3⟩ => ?_) hs
  rcases q3 with ⟨a, H4, ex, g, q3⟩ | ⟨a, b, k, xs, ex, ey, hd, hk, hz, q3⟩
  · subst ex
    obtain rfl : u = Value.ref a := rx
    exact d_setItem (by omega) I3 g ry rv fun s4 I4 => ⟨σ, H4, I4, q3⟩
  · subst ex ey
    obtain rfl : u = Value.ref a := rx
    obtain rfl : iv = Value.ref b := ry
    obtain ⟨h0, dd⟩ := hd.ok I3
    refine wpAny_setItem_heap (hsz := hz) (room8 hu) (hk.1 _ _ _ I3.hok) dd fun h' dd' hsb => ?_
    obtain ⟨q, es, ep, hq, h2, h3, h4, _, h5⟩ := dd'
    have hash : ∀ x ∈ storedH xs k b r, ∀ w : World, x.1.hash w = hash0 x.1 := fun x hx w => by
      unfold storedH at hx
      split at hx
      · obtain ⟨y, hy, rfl⟩ := List.mem_map.mp hx
        unfold putAt
        split <;> exact (hd.2 y hy).2 w
      · rcases List.mem_append.mp hx with z | z
        · exact (hd.2 x z).2 w
        · rw [show x = (k, b, r) by simpa using z]
          exact hk.2 w
    have e4 : es.toList = (storedH xs k b r).map (fun x => (⟨hash0 x.1, .ref x.2.1, x.2.2⟩ : DictEntry)) := by
      rw [h4]
      refine List.map_congr_left fun x hx => ?_
      show (⟨x.1.hash X.w, _, _⟩ : DictEntry) = ⟨hash0 x.1, _, _⟩
      rw [hash x hx]
    have ok : ObjOk X.prog X.w (upd H3 a (NdO a (storedH xs k b r))) h' a (NdO a (storedH xs k b r)) := by
      refine ⟨⟨h0, q, es, ep, hq, h2, h3, e4, h5⟩, ⟨_, hq⟩, fun g1 g2 z kk => ?_⟩
      obtain ⟨z0, o, es, ep, z1, z2⟩ := z
      exact ⟨z0, o, es, ep, kk _ z1, z2⟩
    exact ⟨σ, _, d_write I3 (by rw [hd.1]; exact True.intro) hsb ⟨q, hq⟩ ok, q3 r rv⟩
end
/-- what the store makes of a dict at a -/
theorem dix_put {K : PySem.W.Frag} {F H : Hp} {a : Addr} {o : HO} {b : Bool} {us vs : List V} {ks ds : List D} {k d : D} {y v : V} {D' : Hp → Prop} (e : Same F H) (hH : H a = some o) (hD : DxO b a us vs ks o) (r1 : RepDs K F us ks) (r2 : RepDs K F vs ds) (ok : okKey b k = true) (ry : View K F H y k) (rd : RepD K F v d) (hz : ds.length < 1000000)
    (fin : ∀ o' us' vs', DxO b a us' vs' (dixK ks k) o' → RepDs K F us' (dixK ks k) → RepDs K F vs' (dixD ks ds k d) → D' (upd H a o')) :
    (∃ H4, DPut H a y v H4 ∧ D' H4) ∨ ∃ bb kk xs, y = .ref bb ∧ XDict H a xs ∧ KeyAt H kk bb ∧ xs.length ≤ sizeLine ∧ (∀ u, RelV v u → D' (upd H a (NdO a (storedH xs kk bb u)))) := by
  have hlen := r2.length
  cases b with
  | true =>
    cases k with
    | int n =>
      obtain ⟨kk, rfl, rfl, hl, rfl⟩ := hD
      have := ry.int
      subst this
      obtain ⟨us', vs', h1, h2, h3⟩ := i_put (a := a) (n := n) hl r2 rd
      refine .inl ⟨_, DPut.k (k := Sum.inl n) hH ?_, fin _ us' vs' h1 h2 h3⟩
      rw [List.length_zip, List.length_map]
      exact szl (by omega)
    | _ => cases ok
  | false =>
    obtain ⟨xs, rfl, rfl, hv, hk, ha⟩ := hD
    obtain ⟨bb, rfl, kat, rk⟩ := key_view e ry (okKey_f ok)
    refine .inr ⟨bb, keyOf k, xs, rfl, nd_view e hH r1 hk ha, kat, ?_, fun u ru => ?_⟩
    · have := hv.length
      rw [List.length_map] at this
      exact szm (by omega)
    · obtain ⟨us', vs', h1, h2, h3⟩ := x_put (a := a) (b := bb) ⟨rfl, hv, hk, ha⟩ r1 r2 (okKey_f ok) rk ru rd
      exact fin _ us' vs' h1 h2 h3
end DL

namespace DL
open PySem PySem.Spec PyProof.Rows L2
/-! ### d[k] = e, d a name -/
def putX (i : Nat) (k d : D) (env : DEnv) : Option DEnv := match env[i]? with
  | some (some (.x (.d b ks ds))) => if okKey b k = true ∧ ds.length < 1000000 then some (env.set i (some (.x (.d b (dixK ks k) (dixD ks ds k d))))) else none
  | _ => none
def sStoreX (i : Nat) (fk : G) (fe : M U) : M Fl := fun env => (fe env).bind fun u e1 => match frz1 e1 u with
  | some (d, e2) => (match fk e2 with
    | some (.v k) => (match putX i k d e2 with
      | some e3 => .ok .next e3
      | none => .stuck)
    | _ => .stuck)
  | none => .stuck
/-! ### x.f[k] = e -/
def putXF (i : Nat) (c : Str) (ns : List Str) (j : Nat) (k d : D) (env : DEnv) : Option DEnv := match env[i]? with
  | some (some (.x (.o bb c' ns' ws))) => if c' = c ∧ ns' = ns then (match ws[j]? with
    | some (.d b ks ds) => if okKey b k = true ∧ ds.length < 1000000 then some (env.set i (some (.x (.o bb c ns (ws.set j (.d b (dixK ks k) (dixD ks ds k d))))))) else none
    | _ => none) else none
  | _ => none
def sStoreXF (i : Nat) (c : Str) (ns : List Str) (j : Nat) (fk : G) (fe : M U) : M Fl := fun env => (fe env).bind fun u e1 => match frz1 e1 u with
  | some (d, e2) => (match fk e2 with
    | some (.v k) => (match putXF i c ns j k d e2 with
      | some e3 => .ok .next e3
      | none => .stuck)
    | _ => .stuck)
  | none => .stuck
section
variable {X : Cx} {Wx : WX} {e k : Expr} {fe : M U} {fk : G} {i j : Nat} {x c f : Str} {ns : List Str} {pos p1 p2 tpos : Pos}
theorem s_storeX (hu : X.A.units + 65 < cLine) (he : EvS X Wx e fe) (hk : EvG X k fk) (hN : X.N[i]? = some x := by rfl) (hv : Vis X.env.scope x := by first | exact Or.inl rfl | exact Or.inr (Or.inl rfl) | exact Or.inr (Or.inr rfl)) (hd : (x == ("__debug__" : Str)) = false := by decide) (hcd : (x == ("__classdict__" : Str)) = false := by decide)
    (hs : swapsWith e (some (.Subscript (.Name x p1) k tpos)) pos.line X.env = pure false := by rfl) :
    StS X Wx (.Assign [.Subscript (.Name x p1) k tpos] e pos) [] (sStoreX i fk fe) :=
  PS.imp (ps_xputA hu (pe_var hN hv hd hcd) hk he hs) fun E σ H h => by
  obtain ⟨F, env, own, S, h⟩ := h
  have h : Po X.K X.mg Wx [] E σ F H own (sStoreX i fk fe env) := h
  unfold sStoreX at h
  refine tOf_use S (fun u env1 e1 v1 F1 H1 own1 p O1 => ?_) (fun c env1 e1 C F1 H1 own1 hm O1 => ?_) (fun e1 => ?_)
  · rw [e1, R.bind_ok] at h
    cases e2 : frz1 env1 u with
    | none => rw [e2] at h; exact h.elim
    | some pr =>
      obtain ⟨d, env2⟩ := pr
      rw [e2] at h
      dsimp only at h
      obtain ⟨F2, own2, r2, O2⟩ := O1.frz e2
      cases e3 : fk env2 with
      | none => rw [e3] at h; exact h.elim
      | some wk =>
        rw [e3] at h
        cases wk with
        | l _ _ => exact h.elim
        | m _ _ => exact h.elim
        | x _ => exact h.elim
        | v kd =>
          dsimp only at h
          cases e4 : putX i kd d env2 with
          | none => rw [e4] at h; exact h.elim
          | some env3 =>
            rw [e4] at h
            dsimp only at h
            unfold putX at e4
            split at e4
            · rename_i b ks ds hw
              split at e4
              · rename_i hcond
                cases e4
                obtain ⟨vv, hvv, a, o, us, vs, rfl, hp, hH, hF, hD, ru, rv⟩ := O2.S.rep i _ hw
                refine ⟨.ref a, hvv, ?_⟩
                refine ⟨F2, env2, own2, O2.S, ?_⟩
                rw [e3]
                intro y F3 H3 pk gr rk
                have S3 := gr.sit O2.S
                obtain ⟨vv3, hvv3, a3, o3, us3, vs3, ev3, hp3, hH3, hF3, hD3, ru3, rv3⟩ := S3.rep i _ hw
                rw [hvv] at hvv3
                cases hvv3
                cases ev3
                have hi : i < env2.length := (List.getElem?_eq_some_iff.mp hw).1
                have key := dix_put (D' := fun H4 => E.nx σ H4) gr.sub hH3 hD3 ru3 rv3 hcond.1 (View.of gr.sub rk.2) (r2.mono gr.exF) hcond.2 fun o' us' vs' h1 h2 h3 => by
                  obtain ⟨own', S', st⟩ := S3.repl (t := fun _ => False) (F' := F3) (H' := upd H3 a o') (w := .x (.d b (dixK ks kd) (dixD ks ds kd d))) (p' := own2 i) hi hvv (fun _ z => z.elim)
                    (fun q u eq => by
                      have : q ≠ a := fun z => by rw [z, hF3] at eq; cases eq
                      rw [upd_ne this]; exact gr.sub q u eq) (Same.refl _)
                    (fun q u eq no _ => by
                      have : q ≠ a := fun z => no ((hp3 q).mpr z)
                      rw [upd_ne this]; exact eq)
                    (fun q u eq n => by rw [eq] at n; cases n) ⟨a, o', us', vs', rfl, hp3, upd_same, hF3, h1, h2, h3⟩ (fun q z => .inr (.inl z))
                  exact h σ F3 (upd H3 a o') own' Only.refl (O2.trans (OutR.trans ⟨S3, (gr.drop.step own2).sub fun _ z => .inl z⟩ ⟨S', st.sup fun _ z => z.elim id False.elim⟩))
                rcases key with ⟨H4, g, q⟩ | ⟨bb, kk, xs, ey, hx, hka, hz, q⟩
                · exact .inl ⟨a, H4, rfl, g, q⟩
                · exact .inr ⟨a, bb, kk, xs, rfl, ey, hx, hka, hz, q⟩
              · cases e4
            · cases e4
  · rw [e1] at h
    exact h C σ F1 H1 own1 Only.refl hm O1
  · rw [e1] at h
    exact h
theorem s_storeXF (hu : X.A.units + 65 < cLine) (T : ClsF X.K c ns) (nd : ns.Nodup) (hf : ns[j]? = some f) (he : EvS X Wx e fe) (hk : EvG X k fk) (hN : X.N[i]? = some x := by rfl) (hv : Vis X.env.scope x := by first | exact Or.inl rfl | exact Or.inr (Or.inl rfl) | exact Or.inr (Or.inr rfl)) (hd : (x == ("__debug__" : Str)) = false := by decide) (hcd : (x == ("__classdict__" : Str)) = false := by decide)
    (hb : attributeBase (.Name x p1) f X.env (eval (.Name x p1) X.env) = eval (.Name x p1) X.env := by rfl)
    (hs : swapsWith e (some (.Subscript (.Attribute (.Name x p1) f p2) k tpos)) pos.line X.env = pure false := by rfl) :
    StS X Wx (.Assign [.Subscript (.Attribute (.Name x p1) f p2) k tpos] e pos) [] (sStoreXF i c ns j fk fe) :=
  PS.imp (ps_xputA hu (pe_fld (pe_var hN hv hd hcd) hb) hk he hs) fun E σ H h => by
  obtain ⟨F, env, own, S, h⟩ := h
  have h : Po X.K X.mg Wx [] E σ F H own (sStoreXF i c ns j fk fe env) := h
  unfold sStoreXF at h
  refine tOf_use S (fun u env1 e1 v1 F1 H1 own1 p O1 => ?_) (fun c env1 e1 C F1 H1 own1 hm O1 => ?_) (fun e1 => ?_)
  · rw [e1, R.bind_ok] at h
    cases e2 : frz1 env1 u with
    | none => rw [e2] at h; exact h.elim
    | some pr =>
      obtain ⟨d, env2⟩ := pr
      rw [e2] at h
      dsimp only at h
      obtain ⟨F2, own2, r2, O2⟩ := O1.frz e2
      cases e3 : fk env2 with
      | none => rw [e3] at h; exact h.elim
      | some wk =>
        rw [e3] at h
        cases wk with
        | l _ _ => exact h.elim
        | m _ _ => exact h.elim
        | x _ => exact h.elim
        | v kd =>
          dsimp only at h
          cases e4 : putXF i c ns j kd d env2 with
          | none => rw [e4] at h; exact h.elim
          | some env3 =>
            rw [e4] at h
            dsimp only at h
            unfold putXF at e4
            split at e4
            · rename_i bb c' ns' ws hw
              split at e4
              · rename_i hc
                obtain ⟨rfl, rfl⟩ := hc
                split at e4
                · rename_i b ks ds hj
                  split at e4
                  · rename_i hcond
                    cases e4
                    obtain ⟨a, C, dx, fs, v0, q0, h1, h2, h3, h4, h5, _⟩ := O2.S.fld T nd hf hw hj
                    refine ⟨.ref a, h1, a, C, dx, fs, v0, rfl, h2, h3, h4, h5, ?_⟩
                    refine ⟨F2, env2, own2, O2.S, ?_⟩
                    rw [e3]
                    intro y F3 H3 pk gr rk
                    have S3 := gr.sit O2.S
                    obtain ⟨vv, hvv, a3, dx3, C3, vs, p0, ev, hcC, g1, g2, f1, f2, hl, r, hp, n1, n2⟩ := S3.rep i _ hw
                    rw [h1] at hvv
                    cases hvv
                    cases ev
                    have ef : fs = ns'.zip vs := by
                      have := gr.exH _ _ h2
                      rw [g1] at this
                      cases this
                      rfl
                    obtain ⟨v, q, hvj, rvv, hqp, hupd⟩ := r.upd hj
                    have ev0 : v0 = v := by
                      rw [ef, lookup_zip nd hf, hvj] at h5
                      cases h5
                      rfl
                    subst ev0
                    obtain ⟨l, o, us, vs', rfl, hq, hlH, hlF, hD, ru, rv⟩ := rvv
                    have ql := (hq l).mpr rfl
                    have hal : a ≠ l := fun z => n1 (z ▸ hqp l ql)
                    have hdl : dx3 ≠ l := fun z => n2 (z ▸ hqp l ql)
                    have hi : i < env2.length := (List.getElem?_eq_some_iff.mp hw).1
                    have key := dix_put (D' := fun H4 => E.nx σ H4) gr.sub hlH hD ru rv hcond.1 (View.of gr.sub rk.2) (r2.mono gr.exF) hcond.2 fun o' us' vs2 k1 k2 k3 => by
                      have rw2 : RepW0 X.K F3 (upd H3 l o') (.ref l) (.d b (dixK ks kd) (dixD ks ds kd d)) q := ⟨l, o', us', vs2, rfl, hq, upd_same, hlF, k1, k2, k3⟩
                      have r3 := hupd (H' := upd H3 l o') (Same.refl _) (fun b o _ nq eb => by rw [upd_ne (fun z => nq ((hq b).mpr z))]; exact eb) (fun b pb _ => (r.there pb).2) rw2 (fun b z _ => z)
                      have evs : vs.set j (.ref l) = vs := by
                        obtain ⟨hjl, ee⟩ := List.getElem?_eq_some_iff.mp hvj
                        rw [← ee, List.set_getElem_self]
                      rw [evs] at r3
                      have hp2 : (fun b => (p0 b ∧ ¬ q b) ∨ q b) = p0 := funext fun b => propext ⟨fun z => z.elim (fun y => y.1) (hqp b), fun z => (Classical.em (q b)).elim .inr fun y => .inl ⟨z, y⟩⟩
                      rw [hp2] at r3
                      have RX : RepW X.K F3 (upd H3 l o') (.ref a) (.x (.o bb c' ns' (ws.set j (.d b (dixK ks kd) (dixD ks ds kd d))))) (own2 i) :=
                        ⟨a, dx3, C3, vs, p0, rfl, hcC, by rw [upd_ne hal]; exact g1, by rw [upd_ne hdl]; exact g2, f1, f2, hl, r3, hp, n1, n2⟩
                      obtain ⟨own', S', st⟩ := S3.repl (t := fun _ => False) (F' := F3) (H' := upd H3 l o') hi h1 (fun _ z => z.elim)
                        (fun b o eb => by
                          have : b ≠ l := fun z => by rw [z, hlF] at eb; cases eb
                          rw [upd_ne this]; exact gr.sub b o eb) (Same.refl _)
                        (fun b o eb no _ => by
                          have : b ≠ l := fun z => no ((hp b).mpr (.inr (z ▸ hqp l ql)))
                          rw [upd_ne this]; exact eb)
                        (fun b o eb n => by rw [eb] at n; cases n) RX (fun b z => .inr (.inl z))
                      exact h σ F3 (upd H3 l o') own' Only.refl (O2.trans (OutR.trans ⟨S3, (gr.drop.step own2).sub fun _ z => .inl z⟩ ⟨S', st.sup fun _ z => z.elim id False.elim⟩))
                    rcases key with ⟨H4, g, q⟩ | ⟨bb', kk, xs, ey, hx, hka, hz, q⟩
                    · exact .inl ⟨l, H4, rfl, g, q⟩
                    · exact .inr ⟨l, bb', kk, xs, rfl, ey, hx, hka, hz, q⟩
                  · cases e4
                · cases e4
              · cases e4
            · cases e4
  · rw [e1] at h
    exact h C σ F1 H1 own1 Only.refl hm O1
  · rw [e1] at h
    exact h
end
end DL

/-! Methods called, things made. -/
namespace DL
open PySem PySem.Spec PyProof.Rows L2
section
variable {X : Cx} {CX : CXT} {k : Nat} {C f : Addr} {fd : FuncData} {ps : List Str} {sp : Sp} {E : L2.St → XK} {x m : Str} {p pos apos : Pos} {e o : Expr} {es : List Expr} {ta : TE} {t : TA}
def tMethS (C : Addr) (m : Str) (sp : Sp) (E : L2.St → XK) (ta : TE) (t : TA) : TE := fun σ H Q => ta σ H fun x H1 => ∃ a dx fs, x = .ref a ∧ H1 a = some (.ins C dx fs) ∧ fs.lookup m = none ∧ t σ H1 fun vs H2 => sp (x :: vs) H2 Q (E σ)
theorem pe_methSD {pl : Sem Bool} (he : PE X o ta) (c : Cls X.K C) (hm : Meth X.K C m f) (F : FnOk X.prog X.w X.K X.mg X.base CX k f fd ps sp) (hr : Room k X.A) (hb : Binds X.K fd ps []) (hx : ∀ σ, PassesAt CX X σ (E σ)) (ha : PA X (e :: es) t)
    (hst : starEach (e :: es) X.env = (false, eval e X.env) :: starEach es X.env := by rfl) (hpl : (backTo pos (starEach es X.env)).any (·.1) = false := by rfl)
    (ht : eval (.Call (.Attribute o m apos) (e :: es) [] pos) X.env = (do
      let ov ← eval o X.env
      standAt apos.atName
      let (f, first) ← holding [ov] (getMethod ov m pl)
      callWith pos f first (backTo pos (starEach (e :: es) X.env)) (backToKw pos (keywordEach [] X.env))) := by rfl) :
    PE X (.Call (.Attribute o m apos) (e :: es) [] pos) (tMethS C m sp E ta t) := by
  refine ⟨fun pins s σ H Q I h => ?_⟩
  refine PySem.W.methodCall_KW (pl := pl) (thn (he.run pins s σ H _ I h) fun u s1 ⟨x, H1, I1, rx, a, dx, fs, ex, ea, l, q⟩ => ?_) ht
  subst ex
  obtain rfl : u = Value.ref a := rx
  refine getmeth_ok I1 ea c hm l ?_
  refine PySem.W.callWith_K (first := [.ref a]) (h₀ := X.base) I.ok.mod.kin hm.kp (thn (ha.run pos pins s1 σ H1 _ I1 q) fun us s2 ⟨vs, H2, I2, r, q2⟩ => ⟨I2.kIn, ?_⟩) hst hpl
  exact run_fnSD (dvs := []) (us := .ref a :: us) (vs := .ref a :: vs) F hr hb .nil (hx σ) I2 (.cons rfl r) (by rw [List.append_nil]; exact q2)
theorem pe_meth0SD {pl : Sem Bool} (he : PE X o ta) (c : Cls X.K C) (hm : Meth X.K C m f) (F : FnOk X.prog X.w X.K X.mg X.base CX k f fd ps sp) (hr : Room k X.A) (hb : Binds X.K fd ps []) (hx : ∀ σ, PassesAt CX X σ (E σ))
    (ht : eval (.Call (.Attribute o m apos) [] [] pos) X.env = (do
      let ov ← eval o X.env
      standAt apos.atName
      let (f, first) ← holding [ov] (getMethod ov m pl)
      callWith pos f first (backTo pos (starEach [] X.env)) (backToKw pos (keywordEach [] X.env))) := by rfl) :
    PE X (.Call (.Attribute o m apos) [] [] pos) (tMethS C m sp E ta tNil) := by
  refine ⟨fun pins s σ H Q I h => ?_⟩
  refine PySem.W.methodCall_KW (pl := pl) (thn (he.run pins s σ H _ I h) fun u s1 ⟨x, H1, I1, rx, a, dx, fs, ex, ea, l, q⟩ => ?_) ht
  subst ex
  obtain rfl : u = Value.ref a := rx
  refine getmeth_ok I1 ea c hm l ?_
  exact PySem.W.callWith_K0 (first := [.ref a]) I1.kIn hm.kp (run_fnSD (dvs := []) (us := [.ref a]) (vs := [.ref a]) F hr hb .nil (hx σ) I1 (.cons rfl .nil) q)
theorem run_makeSD {pins : List (Addr × Obj)} {σ : L2.St} {H : Hp} {s : Shared} {Q : VK} {us : List Value} {vs : List V} (M : Mk X.K C f) (F : FnOk X.prog X.w X.K X.mg X.base CX k f fd ps sp) (hr : Room (k + 1) X.A) (hb : Binds X.K fd ps [])
    (hx : PassesAt CX X σ (E σ)) (I : Inv X pins σ H s) (r : Vals vs us)
    (h : ∀ x dx, H x = none → H dx = none → dx ≠ x → sp (.ref x :: vs) (upd (upd H dx (.own x)) x (.ins C dx [])) (fun v H2 => v = .non ∧ Q (.ref x) H2) (E σ)) :
    wpAny (model X.prog X.w) X.A (call (.ref C) us) (EP X pins σ Q) X.xe s := by
  have hq := h (s.heap.objs.size + 1) s.heap.objs.size (I.hok.fresh (Nat.le_succ _)) (I.hok.fresh (Nat.le_refl _)) (Nat.ne_of_lt (Nat.lt_succ_self _))
  have I2 := Inv.made (C := C) I
  have r2 : Vals (V.ref (s.heap.objs.size + 1) :: vs) (Value.ref (s.heap.objs.size + 1) :: us) := .cons rfl r
  have hl : (Value.ref (s.heap.objs.size + 1) :: us ++ []).length = ps.length := by
    have e := r2.length
    rw [F.len _ _ _ _ hq] at e
    rw [List.append_nil]
    exact e.symm
  have hbb := hb _ (Value.ref (s.heap.objs.size + 1) :: us) I2.kIn hl
  rw [List.append_nil] at hbb
  refine wpAny_call (make_map (f := f) I.kIn M.makes M.init (beq_iff_eq.mp M.fn) (codeAny_mono (F.run _ X.stack _ _ ⟨Value.ref (s.heap.objs.size + 1) :: us, []⟩ (Value.ref (s.heap.objs.size + 1) :: us) _ _ (E σ) (hr.make C us [])
    (I2.env0.make C us []) hbb r2 hq) fun r s' hq' => ?_))
  cases r with
  | error e => exact hx pins _ _ e s' I2 hq'
  | ok fl =>
    cases fl with
    | ret u =>
      obtain ⟨v, H', I3, rv, ev, q3⟩ := I2.after hq'
      subst ev
      exact ⟨rv, ⟨V.ref (s.heap.objs.size + 1), H', I3, rfl, q3⟩⟩
    | next => exact False.elim hq'
    | brk => exact False.elim hq'
    | cont => exact False.elim hq'
def tMakeS (C : Addr) (sp : Sp) (E : L2.St → XK) (t : TA) : TE := fun σ H Q => t σ H fun vs H1 => ∀ x dx, H1 x = none → H1 dx = none → dx ≠ x → sp (.ref x :: vs) (upd (upd H1 dx (.own x)) x (.ins C dx [])) (fun v H2 => v = .non ∧ Q (.ref x) H2) (E σ)
theorem pe_makeSD (M : Mk X.K C f) (F : FnOk X.prog X.w X.K X.mg X.base CX k f fd ps sp) (hr : Room (k + 1) X.A) (hg : Gl X x) (hm : X.mg x = some (.ref C)) (hb : Binds X.K fd ps []) (hx : ∀ σ, PassesAt CX X σ (E σ))
    (ha : PA X (e :: es) t) (hdb : (x == ("__debug__" : Str)) = false := by decide) (he : starEach (e :: es) X.env = (false, eval e X.env) :: starEach es X.env := by rfl) (hpl : (backTo pos (starEach es X.env)).any (·.1) = false := by rfl) :
    PE X (.Call (.Name x p) (e :: es) [] pos) (tMakeS C sp E t) := by
  refine ⟨fun pins s σ H Q I h => ?_⟩
  refine wpAny_Call_Name_kw (ld_glob I hg hm ?_ hdb)
  refine PySem.W.callWith_K (h₀ := X.base) I.ok.mod.kin M.kp (thn (ha.run pos pins s σ H _ I h) fun us s1 ⟨vs, H1, I1, r, q⟩ => ⟨I1.kIn, ?_⟩) he hpl
  exact run_makeSD M F hr hb (hx σ) I1 r q
end
/-! ### o.m(..), o a name -/
structure CalM (P : Program) (w : World) (K : PySem.W.Frag) (mg : Str → Option Value) (base : Heap) (k : Nat) (c m : Str) (ps : List Str) (g : List W → RF) : Prop where
  ex : ∃ (C f : Addr) (fd : FuncData), PySem.W.nsIn K mainGlobals c = some (some (.ref C)) ∧ Cls K C ∧ Meth K C m f ∧ FnS P w K mg base k f fd ps g ∧ Binds K fd ps []
def callM (c : Str) (ns : List Str) (g : List W → RF) (i : Nat) (ms : List (Option Nat)) (fs : List (M U)) : M U := fun env => match env[i]? with
  | some (some (.x (.o _ c' ns' _))) => if c' = c ∧ ns' = ns then callF g (some i :: ms) (eVar i :: fs) env else .stuck
  | _ => .stuck
theorem aOf_var {K : PySem.W.Frag} {mg : Str → Option Value} {Wx : WX} {i : Nat} {fs : List (M U)} {σ : L2.St} {H : Hp} {Z : List V → Hp → Prop} (h : aOf K mg Wx (evs (eVar i :: fs)) σ H Z) : ∃ v, σ[i]? = some (some v) ∧ aOf K mg Wx (evs fs) σ H fun vs H2 => Z (v :: vs) H2 := by
  obtain ⟨F, env, own, S, h⟩ := h
  unfold evs at h
  have key : ∀ (u : U) (v : V), eVar i env = .ok u env → σ[i]? = some (some v) → RepU K F H σ v u (fun _ => False) → aOf K mg Wx (evs fs) σ H fun vs H2 => Z (v :: vs) H2 := fun u v e hv r => by
    rw [e, R.bind_ok] at h
    refine ⟨F, env, own, S, ?_⟩
    have O1 : Out K F H own σ u v env F H own (fun _ => False) := ⟨S, r, fun _ z => z.elim, Step.refl.sub fun _ z => z.elim id False.elim⟩
    cases e2 : evs fs env with
    | ok us env2 =>
      rw [e2] at h
      exact fun vs F2 H2 own2 p2 O2 => h _ _ _ _ _ (O1.cons O2)
    | raise c env2 =>
      rw [e2] at h
      exact h
    | stuck =>
      rw [e2] at h
      exact h
  cases hw : env[i]? with
  | none => rw [show eVar i env = .stuck by unfold eVar; rw [hw]] at h; exact h.elim
  | some ow =>
    cases ow with
    | none => rw [show eVar i env = .stuck by unfold eVar; rw [hw]] at h; exact h.elim
    | some w =>
      obtain ⟨v, hs, r⟩ := S.rep i _ hw
      refine ⟨v, hs, ?_⟩
      cases w with
      | v d => exact key (.w (.v d)) v (by unfold eVar; rw [hw]) hs ⟨fun _ z => z, r.2⟩
      | l b ds => exact key (.b i) v (by unfold eVar; rw [hw]) hs ⟨fun _ z => z, hs⟩
      | m ks ds => exact key (.b i) v (by unfold eVar; rw [hw]) hs ⟨fun _ z => z, hs⟩
      | x y => exact key (.b i) v (by unfold eVar; rw [hw]) hs ⟨fun _ z => z, hs⟩
section
variable {X : Cx} {Wx : WX} {i j k : Nat} {x c m : Str} {ns ps : List Str} {g : List W → RF} {ms : List (Option Nat)} {e : Expr} {es : List Expr} {fs : List (M U)} {p1 apos pos : Pos}
theorem callM_sem {K : PySem.W.Frag} {mg : Str → Option Value} {C : Addr} {σ : L2.St} {H : Hp} {Q : VK} {n : Nat} (hC : PySem.W.nsIn K mainGlobals c = some (some (.ref C))) (hm : m ∉ ns) (nd : ((some i :: ms).filterMap id).Nodup) (hn : (some i :: ms).length = n) (h : tOf K mg Wx (callM c ns g i ms fs) σ H Q) :
    tMethS C m (spOf K mg n g) (fun σ c d H' => Wx c d σ H') (tVar i) (aOf K mg Wx (evs fs)) σ H Q := by
  obtain ⟨F, env, own, S, h⟩ := h
  unfold callM at h
  split at h
  case h_3 => exact h.elim
  all_goals
    rename_i heq
    split at heq
    · rename_i b c' ns' ws hw
      split at heq
      · rename_i hc
        obtain ⟨rfl, rfl⟩ := hc
        obtain ⟨vv, hvv, a, dx, C', vs, p0, rfl, hcC, h1, _⟩ := S.rep i _ hw
        rw [hC] at hcC
        cases hcC
        have h' : tOf K mg Wx (callF g (some i :: ms) (eVar i :: fs)) σ H Q := ⟨F, env, own, S, by rw [heq]; exact h⟩
        obtain ⟨v, hv, ha⟩ := aOf_var (call_sem nd hn h')
        rw [hvv] at hv
        cases hv
        refine ⟨.ref a, hvv, a, dx, _, rfl, h1, lookup_zip_none hm, ?_⟩
        obtain ⟨F9, env9, own9, S9, h9⟩ := ha
        refine ⟨F9, env9, own9, S9, ?_⟩
        cases e9 : evs fs env9 with
        | ok us env2 =>
          rw [e9] at h9
          intro vs F2 H2 own2 p2 O2
          have h10 := h9 vs F2 H2 own2 p2 O2
          dsimp only at h10
          rw [List.append_nil] at h10
          exact h10
        | raise cc env2 => rw [e9] at h9; exact h9
        | stuck => rw [e9] at h9; exact h9
      · cases heq
    · cases heq
theorem e_callM (C : CalM X.prog X.w X.K X.mg X.base j c m ps g) (tk : Takes X Wx) (hr : Room k X.A) (ha : EaS X Wx (e :: es) fs) (hjk : j ≤ k) (hm : m ∉ ns) (hN : X.N[i]? = some x := by rfl) (hv : Vis X.env.scope x := by first | exact Or.inl rfl | exact Or.inr (Or.inl rfl) | exact Or.inr (Or.inr rfl)) (hd : (x == ("__debug__" : Str)) = false := by decide) (hcd : (x == ("__classdict__" : Str)) = false := by decide)
    (nd : ((some i :: ms).filterMap id).Nodup := by decide) (hn : (some i :: ms).length = ps.length := by rfl) (hst : starEach (e :: es) X.env = (false, eval e X.env) :: starEach es X.env := by rfl) (hpl : (backTo pos (starEach es X.env)).any (·.1) = false := by rfl) {pl : Sem Bool}
    (ht : eval (.Call (.Attribute (.Name x p1) m apos) (e :: es) [] pos) X.env = (do
      let ov ← eval (.Name x p1) X.env
      standAt apos.atName
      let (f, first) ← holding [ov] (getMethod ov m pl)
      callWith pos f first (backTo pos (starEach (e :: es) X.env)) (backToKw pos (keywordEach [] X.env))) := by rfl) :
    EvS X Wx (.Call (.Attribute (.Name x p1) m apos) (e :: es) [] pos) (callM c ns g i ms fs) := by
  obtain ⟨CC, f, fd, hC, cl, me, G, hb⟩ := C.ex
  exact PE.imp (pe_methSD (E := fun σ c d H' => Wx c d σ H') (pl := pl) (pe_var hN hv hd hcd) cl me G (hr.mono hjk) hb (fun σ => passAt tk σ) ha hst hpl ht) fun σ H Q h => callM_sem hC hm nd hn h
theorem e_callM0 (C : CalM X.prog X.w X.K X.mg X.base j c m ps g) (tk : Takes X Wx) (hr : Room k X.A) (hjk : j ≤ k) (hm : m ∉ ns) (hN : X.N[i]? = some x := by rfl) (hv : Vis X.env.scope x := by first | exact Or.inl rfl | exact Or.inr (Or.inl rfl) | exact Or.inr (Or.inr rfl)) (hd : (x == ("__debug__" : Str)) = false := by decide) (hcd : (x == ("__classdict__" : Str)) = false := by decide)
    (hn : ps.length = 1 := by rfl) {pl : Sem Bool}
    (ht : eval (.Call (.Attribute (.Name x p1) m apos) [] [] pos) X.env = (do
      let ov ← eval (.Name x p1) X.env
      standAt apos.atName
      let (f, first) ← holding [ov] (getMethod ov m pl)
      callWith pos f first (backTo pos (starEach [] X.env)) (backToKw pos (keywordEach [] X.env))) := by rfl) :
    EvS X Wx (.Call (.Attribute (.Name x p1) m apos) [] [] pos) (callM c ns g i [] []) := by
  obtain ⟨CC, f, fd, hC, cl, me, G, hb⟩ := C.ex
  refine PE.imp (pe_meth0SD (E := fun σ c d H' => Wx c d σ H') (pl := pl) (pe_var hN hv hd hcd) cl me G (hr.mono hjk) hb (fun σ => passAt tk σ) ht) fun σ H Q h => ?_
  obtain ⟨v, h1, a, dx, fs, e1, h2, h3, h4⟩ := callM_sem (n := ps.length) hC hm (ms := []) (by simp) (by rw [hn]; rfl) h
  refine ⟨v, h1, a, dx, fs, e1, h2, h3, ?_⟩
  obtain ⟨F, env, own, S, h4⟩ := h4
  exact h4 [] F H own _ (OutL.nil S)
end
end DL

namespace DL
open PySem PySem.Spec PyProof.Rows L2
section
variable {K : PySem.W.Frag} {F H F1 H1 : Hp} {σ : L2.St} {env : DEnv} {own : Nat → Fp} {fp fp1 : Fp}
/-- what others do with what is not owned here -/
theorem Sit.stepO (S : Sit K F σ H env own) (s : Step F H fp F1 H1 fp1) (d : ∀ a, fp a → ¬ all own a) (ex : Same F1 H1) : Sit K F1 σ H1 env own where
  ex := ex
  len := S.len
  rep := fun i w e => by
    obtain ⟨v, hv, r⟩ := S.rep i w e
    exact ⟨v, hv, (RepW.stepW r (fun a q z => d a z ⟨i, q⟩) s).1⟩
  emp := S.emp
  dis := S.dis
/-- one thing of one's own and data are handed in -/
def own1 (q : Fp) : Nat → Fp := fun j a => j = 0 ∧ q a
theorem sit_one {v0 : V} {w0 : W} {q : Fp} {vs : List V} {ds : List D} (ex : Same F H) (r0 : RepW K F H v0 w0 q) (rd : RepDs K F vs ds) : ASit K F H (v0 :: vs) (w0 :: ds.map .v) (own1 q) := by
  refine ⟨ex, by simp [rd.length], fun i w e => ?_, fun i a z => ?_, fun i j a z1 z2 => by rw [z1.1, z2.1]⟩
  · have e := get_map_some e
    cases i with
    | zero =>
      simp at e
      subst e
      refine ⟨v0, rfl, ?_⟩
      have : own1 q 0 = q := funext fun a => propext ⟨fun z => z.2, fun z => ⟨rfl, z⟩⟩
      rw [this]
      exact r0
    | succ i =>
      rw [List.getElem?_cons_succ, List.getElem?_map] at e
      cases e1 : ds[i]? with
      | none => rw [e1] at e; cases e
      | some d =>
        rw [e1] at e
        cases e
        obtain ⟨v, h1, h2⟩ := rd.get e1
        refine ⟨v, get_some_map (by rw [List.getElem?_cons_succ]; exact h1), ?_⟩
        show (∀ a, ¬ own1 q (i + 1) a) ∧ RepD K F v d
        exact ⟨fun a z => absurd z.1 (Nat.succ_ne_zero i), h2⟩
  · rw [z.1]
    exact ⟨w0, rfl⟩
theorem own1_all {q : Fp} {a : Addr} : all (own1 q) a ↔ q a := ⟨fun ⟨_, _, z⟩ => z, fun z => ⟨0, rfl, z⟩⟩
end
/-! ### C(..) -/
structure CalN (P : Program) (w : World) (K : PySem.W.Frag) (mg : Str → Option Value) (base : Heap) (k : Nat) (c : Str) (ps : List Str) (g : List W → RF) : Prop where
  ex : ∃ (C f : Addr) (fd : FuncData), mg c = some (.ref C) ∧ PySem.W.nsIn K mainGlobals c = some (some (.ref C)) ∧ Mk K C f ∧ FnS P w K mg base k f fd ps g ∧ Binds K fd ps []
def callNew (c : Str) (ns : List Str) (g : List W → RF) (fs : List (M U)) : M U := fun env => (evs fs env).bind fun us e1 => match frzs e1 us with
  | some (ds, e2) => (match g (.x (.o true c ns []) :: ds.map .v) with
    | .ok (.v .non) (.x (.o _ c' ns' ws) :: _) => .ok (.w (.x (.o false c' ns' ws))) e2
    | .raise cc _ => .raise cc e2
    | _ => .stuck)
  | none => .stuck
/-! ### e.m(..), e a thing just made -/
def callTmp (c : Str) (ns : List Str) (g : List W → RF) (fr : M U) (fs : List (M U)) : M U := fun env => (fr env).bind fun u e0 => match u with
  | .w (.x (.o _ c' ns' ws)) => if c' = c ∧ ns' = ns then (evs fs e0).bind fun us e1 => (match frzs e1 us with
    | some (ds, e2) => (match g (.x (.o true c ns ws) :: ds.map .v) with
      | .ok w _ => .ok (.w w) e2
      | .raise cc _ => .raise cc e2
      | .stuck => .stuck)
    | none => .stuck) else .stuck
  | _ => .stuck
section
variable {X : Cx} {Wx : WX} {j k : Nat} {x c m : Str} {ns ps : List Str} {g : List W → RF} {e o : Expr} {es : List Expr} {fr : M U} {fs : List (M U)} {p apos pos : Pos}
theorem callNew_sem {K : PySem.W.Frag} {mg : Str → Option Value} {C : Addr} {σ : L2.St} {H : Hp} {Q : VK} {n : Nat} (hC : PySem.W.nsIn K mainGlobals c = some (some (.ref C))) (hn : fs.length + 1 = n) (h : tOf K mg Wx (callNew c ns g fs) σ H Q) :
    tMakeS C (spOf K mg n g) (fun σ c d H' => Wx c d σ H') (aOf K mg Wx (evs fs)) σ H Q := by
  obtain ⟨F, env, own, S, h⟩ := h
  refine ⟨F, env, own, S, ?_⟩
  unfold callNew at h
  cases e : evs fs env with
  | stuck => rw [e] at h; exact h
  | raise c env1 => rw [e] at h; exact h
  | ok us env1 =>
    rw [e, R.bind_ok] at h
    intro vs F1 H1 own1' p O x dx hx hdx hne
    cases e1 : frzs env1 us with
    | none => rw [e1] at h; exact h.elim
    | some pr =>
      obtain ⟨ds, env2⟩ := pr
      rw [e1] at h
      dsimp only at h
      obtain ⟨F2, own2, S2, rd, s2⟩ := frzs_ok O.S O.r O.d e1
      have f2x : F2 x = none := sub_none S2.ex hx
      have f2d : F2 dx = none := sub_none S2.ex hdx
      let H3 := upd (upd H1 dx (.own x)) x (.ins C dx [])
      have up : ∀ a u, H1 a = some u → H3 a = some u := fun a u q => by
        show upd (upd H1 dx (.own x)) x (.ins C dx []) a = _
        rw [upd_ne (ne_of_none q hx), upd_ne (ne_of_none q hdx)]
        exact q
      have ex3 : Same F2 H3 := fun a u q => up a u (S2.ex a u q)
      have hX : H3 x = some (.ins C dx []) := upd_same
      have hD : H3 dx = some (.own x) := by
        show upd (upd H1 dx (.own x)) x (.ins C dx []) dx = _
        rw [upd_ne hne]
        exact upd_same
      have r0 : RepW K F2 H3 (.ref x) (.x (.o true c ns [])) (fun a => a = x ∨ a = dx) := ⟨x, dx, C, [], fun _ => False, rfl, hC, by rw [List.zip_nil_right]; exact hX, hD, f2x, f2d, Nat.zero_le _, fun _ z => z, fun b => ⟨fun z => .inl z, fun z => z.elim id False.elim⟩, fun z => z, fun z => z⟩
      have SA := sit_one ex3 r0 rd
      have lenE : us.length = fs.length := by
        have : ∀ (fs : List (M U)) (env env1 : DEnv) (us : List U), evs fs env = .ok us env1 → us.length = fs.length := by
          intro fs
          induction fs with
          | nil => intro env env1 us h; unfold evs at h; cases h; rfl
          | cons f fs ih =>
            intro env env1 us h
            unfold evs at h
            cases ef : f env with
            | ok u ea =>
              rw [ef, R.bind_ok] at h
              cases er : evs fs ea with
              | ok us' eb =>
                rw [er, R.bind_ok] at h
                cases h
                rw [List.length_cons, List.length_cons, ih _ _ _ er]
              | raise c eb => rw [er] at h; cases h
              | stuck => rw [er] at h; cases h
            | raise c eb => rw [ef] at h; cases h
            | stuck => rw [ef] at h; cases h
        exact this _ _ _ _ e
      refine ⟨by rw [List.length_cons, O.r.length, lenE]; exact hn, F2, _, _, SA, ?_⟩
      have alloc : Step F2 H1 (fun _ => False) F2 H3 (all (own1 fun a => a = x ∨ a = dx)) := ⟨Same.refl _, fun a u q _ => up a u q, fun a z => .inr (by
        rcases own1_all.mp z with z | z
        · rw [z]; exact hx
        · rw [z]; exact hdx), fun a u q n' => by rw [q] at n'; cases n'⟩
      have sAll := O.s.trans s2
      cases e4 : g (.x (.o true c ns []) :: ds.map .v) with
      | stuck => rw [e4] at h; exact h
      | raise cc ws' =>
        rw [e4] at h
        dsimp only at h
        intro CC F3 H4 ownA' hm S3 s3
        have st := alloc.trans s3
        have S4 := S2.stepO st (fun _ z => z.elim) S3.ex
        refine h CC F3 H4 own2 hm ⟨S4, (sAll.trans ((st.more (all own2)).sup fun a z => z.elim False.elim id)).sub fun a z => .inr z⟩
      | ok w ws' =>
        rw [e4] at h
        match w, ws', e4, h with
        | .v .non, .x (.o b c' ns' ws) :: rest, e4, h =>
          dsimp only at h
          intro v F3 H4 ownA' pw O3
          have st := alloc.trans O3.s
          have S4 := S2.stepO st (fun _ z => z.elim) O3.S.ex
          obtain ⟨_, rv⟩ := O3.r
          cases rv
          refine ⟨rfl, ?_⟩
          obtain ⟨v', hv', rx⟩ := O3.S.rep 0 _ rfl
          have ev : v' = .ref x := by
            have := get_map_some hv'
            simpa using this.symm
          subst ev
          refine h (.ref x) F3 H4 own2 (ownA' 0) ⟨S4, rx, fun a z q => ?_, (sAll.trans ((st.more (all own2)).sup fun a z => z.elim False.elim id)).sub fun a z => ?_⟩
          · rcases st.new a (.inl ⟨0, z⟩) with y | y
            · exact y
            · obtain ⟨⟨o, e5⟩, _⟩ := S2.there q
              rw [y] at e5
              cases e5
          · rcases z with z | z
            · exact .inr z
            · exact .inl (.inl ⟨0, z⟩)
        | .l _ _, _, _, h => exact h.elim
        | .m _ _, _, _, h => exact h.elim
        | .x _, _, _, h => exact h.elim
        | .v (.bl _), _, _, h => exact h.elim
        | .v (.int _), _, _, h => exact h.elim
        | .v (.str _), _, _, h => exact h.elim
        | .v (.tup _), _, _, h => exact h.elim
        | .v (.lst _), _, _, h => exact h.elim
        | .v (.ty _), _, _, h => exact h.elim
        | .v (.nam _ _), _, _, h => exact h.elim
        | .v (.scr _), _, _, h => exact h.elim
        | .v (.dic _ _), _, _, h => exact h.elim
        | .v (.dix _ _ _), _, _, h => exact h.elim
        | .v (.ins _ _ _), _, _, h => exact h.elim
        | .v .non, [], _, h => exact h.elim
        | .v .non, .v _ :: _, _, h => exact h.elim
        | .v .non, .l _ _ :: _, _, h => exact h.elim
        | .v .non, .m _ _ :: _, _, h => exact h.elim
        | .v .non, .x (.d _ _ _) :: _, _, h => exact h.elim
        | .v .non, .x (.t _) :: _, _, h => exact h.elim
theorem e_callN (C : CalN X.prog X.w X.K X.mg X.base j c ps g) (tk : Takes X Wx) (hr : Room k X.A) (ha : EaS X Wx (e :: es) fs) (hjk : j + 1 ≤ k) (hn : fs.length + 1 = ps.length := by rfl) (hg : Gl X c := by rfl) (hdb : (c == ("__debug__" : Str)) = false := by decide) (he : starEach (e :: es) X.env = (false, eval e X.env) :: starEach es X.env := by rfl) (hpl : (backTo pos (starEach es X.env)).any (·.1) = false := by rfl) :
    EvS X Wx (.Call (.Name c p) (e :: es) [] pos) (callNew c ns g fs) := by
  obtain ⟨CC, f, fd, hm, hC, M, G, hb⟩ := C.ex
  exact PE.imp (pe_makeSD (E := fun σ c d H' => Wx c d σ H') M G (hr.mono hjk) hg hm hb (fun σ => passAt tk σ) ha hdb he hpl) fun σ H Q h => callNew_sem hC hn h
end
end DL

namespace DL
open PySem PySem.Spec PyProof.Rows L2
theorem evs_len : ∀ {fs : List (M U)} {env env1 : DEnv} {us : List U}, evs fs env = .ok us env1 → us.length = fs.length := by
  intro fs
  induction fs with
  | nil => intro env env1 us h; unfold evs at h; cases h; rfl
  | cons f fs ih =>
    intro env env1 us h
    unfold evs at h
    cases ef : f env with
    | ok u ea =>
      rw [ef, R.bind_ok] at h
      cases er : evs fs ea with
      | ok us' eb =>
        rw [er, R.bind_ok] at h
        cases h
        rw [List.length_cons, List.length_cons, ih er]
      | raise c eb => rw [er] at h; cases h
      | stuck => rw [er] at h; cases h
    | raise c eb => rw [ef] at h; cases h
    | stuck => rw [ef] at h; cases h
section
variable {X : Cx} {Wx : WX} {j k : Nat} {x c m : Str} {ns ps : List Str} {g : List W → RF} {e o : Expr} {es : List Expr} {fr : M U} {fs : List (M U)} {p apos pos : Pos}
theorem callTmp_sem {K : PySem.W.Frag} {mg : Str → Option Value} {C : Addr} {σ : L2.St} {H : Hp} {Q : VK} {n : Nat} (hC : PySem.W.nsIn K mainGlobals c = some (some (.ref C))) (hm : m ∉ ns) (hn : fs.length + 1 = n) (h : tOf K mg Wx (callTmp c ns g fr fs) σ H Q) :
    tMethS C m (spOf K mg n g) (fun σ c d H' => Wx c d σ H') (tOf K mg Wx fr) (aOf K mg Wx (evs fs)) σ H Q := by
  obtain ⟨F, env, own, S, h⟩ := h
  unfold callTmp at h
  refine tOf_use S (fun u env0 e0 v0 F0 H0 own0 p0 O0 => ?_) (fun c env1 e1 C F1 H1 own1 => ?_) (fun e1 => ?_)
  · rw [e0, R.bind_ok] at h
    split at h
    case h_3 => exact h.elim
    all_goals
      rename_i heq
      split at heq
      · rename_i b c' ns' ws
        split at heq
        · rename_i hc
          obtain ⟨rfl, rfl⟩ := hc
          obtain ⟨a, dx, C', vs0, q0, rfl, hcC, h1, _⟩ := O0.r
          rw [hC] at hcC
          cases hcC
          refine ⟨a, dx, _, rfl, h1, lookup_zip_none hm, ?_⟩
          refine ⟨F0, env0, own0, O0.S, ?_⟩
          cases e : evs fs env0 with
          | stuck => rw [e] at heq; cases heq
          | raise cc env1 =>
            rw [e] at heq
            first | (cases heq; done) | (cases heq; exact fun C F1 H1 own1 hm O => h C F1 H1 own1 hm (O0.drop.trans O))
          | ok us env1 =>
            rw [e, R.bind_ok] at heq
            intro vs F1 H1 own1' p O
            obtain ⟨r1, d1⟩ := RepU.stepU O0.r O0.d O.s
            cases e1 : frzs env1 us with
            | none => rw [e1] at heq; cases heq
            | some pr =>
              obtain ⟨ds, env2⟩ := pr
              rw [e1] at heq
              dsimp only at heq
              obtain ⟨F2, own2, S2, rd, s2⟩ := frzs_ok O.S O.r O.d e1
              obtain ⟨r2, d2⟩ := RepU.stepU (σ := σ) (u := .w (.x (.o b c' ns' ws))) r1 d1 s2
              have r2' : RepW K F2 H1 (.ref a) (.x (.o true c' ns' ws)) p0 := r2
              have SA := sit_one S2.ex r2' rd
              refine ⟨by rw [List.length_cons, O.r.length, evs_len e]; exact hn, F2, _, _, SA, ?_⟩
              have dis : ∀ z, all (own1 p0) z → ¬ all own2 z := fun z q => d2 z (own1_all.mp q)
              have sAll := (O0.s.trans (O.s.more p0)).trans (s2.more p0)
              cases e4 : g (.x (.o true c' ns' ws) :: ds.map .v) with
              | stuck => rw [e4] at heq; cases heq
              | raise cc ws' =>
                rw [e4] at heq
                dsimp only at heq
                first
                | (cases heq; done)
                | (cases heq
                   intro CC F3 H4 ownA' hm S3 s3
                   have S4 := S2.stepO s3 dis S3.ex
                   exact h CC F3 H4 own2 hm ⟨S4, (sAll.trans ((s3.more (all own2)).sup fun a z => z.elim (fun y => y.elim (fun y => .inr (own1_all.mp y)) .inl) False.elim)).sub fun a z => .inr z⟩)
                | (cases heq
                   intro CC F3 H4 ownA' hm S3 s3
                   have S4 := S2.stepO s3 dis S3.ex
                   exact h CC F3 H4 own2 hm ⟨S4, (sAll.trans ((s3.more (all own2)).sup fun a z => z.elim (fun y => .inr (own1_all.mp y)) .inl)).sub fun a z => .inr z⟩)
              | ok w ws' =>
                rw [e4] at heq
                dsimp only at heq
                first
                | (cases heq; done)
                | (cases heq
                   intro v F3 H4 ownA' pw O3
                   have S4 := S2.stepO O3.s dis O3.S.ex
                   refine h v F3 H4 own2 pw ⟨S4, O3.r, fun a z q => ?_, (sAll.trans ((O3.s.more (all own2)).sup fun a z => z.elim (fun y => .inr (own1_all.mp y)) .inl)).sub fun a z => ?_⟩
                   · rcases O3.s.new a (.inr z) with y | y
                     · exact dis a y q
                     · obtain ⟨⟨o, e5⟩, _⟩ := S2.there q
                       rw [y] at e5
                       cases e5
                   · rcases z with z | z
                     · exact .inr z
                     · exact .inl (.inr z))
        · cases heq
      · cases heq
  · rw [e1] at h
    exact h C F1 H1 own1
  · rw [e1] at h
    exact h
theorem e_callT (C : CalM X.prog X.w X.K X.mg X.base j c m ps g) (tk : Takes X Wx) (hr : Room k X.A) (ho : EvS X Wx o fr) (ha : EaS X Wx (e :: es) fs) (hjk : j ≤ k) (hm : m ∉ ns)
    (hn : fs.length + 1 = ps.length := by rfl) (hst : starEach (e :: es) X.env = (false, eval e X.env) :: starEach es X.env := by rfl) (hpl : (backTo pos (starEach es X.env)).any (·.1) = false := by rfl) {pl : Sem Bool}
    (ht : eval (.Call (.Attribute o m apos) (e :: es) [] pos) X.env = (do
      let ov ← eval o X.env
      standAt apos.atName
      let (f, first) ← holding [ov] (getMethod ov m pl)
      callWith pos f first (backTo pos (starEach (e :: es) X.env)) (backToKw pos (keywordEach [] X.env))) := by rfl) :
    EvS X Wx (.Call (.Attribute o m apos) (e :: es) [] pos) (callTmp c ns g fr fs) := by
  obtain ⟨CC, f, fd, hC, cl, me, G, hb⟩ := C.ex
  exact PE.imp (pe_methSD (E := fun σ c d H' => Wx c d σ H') (pl := pl) ho cl me G (hr.mono hjk) hb (fun σ => passAt tk σ) ha hst hpl ht) fun σ H Q h => callTmp_sem hC hm hn h
theorem e_callT0 (C : CalM X.prog X.w X.K X.mg X.base j c m ps g) (tk : Takes X Wx) (hr : Room k X.A) (ho : EvS X Wx o fr) (hjk : j ≤ k) (hm : m ∉ ns) (hn : ps.length = 1 := by rfl) {pl : Sem Bool}
    (ht : eval (.Call (.Attribute o m apos) [] [] pos) X.env = (do
      let ov ← eval o X.env
      standAt apos.atName
      let (f, first) ← holding [ov] (getMethod ov m pl)
      callWith pos f first (backTo pos (starEach [] X.env)) (backToKw pos (keywordEach [] X.env))) := by rfl) :
    EvS X Wx (.Call (.Attribute o m apos) [] [] pos) (callTmp c ns g fr []) := by
  obtain ⟨CC, f, fd, hC, cl, me, G, hb⟩ := C.ex
  refine PE.imp (pe_meth0SD (E := fun σ c d H' => Wx c d σ H') (pl := pl) ho cl me G (hr.mono hjk) hb (fun σ => passAt tk σ) ht) fun σ H Q h => ?_
  have h := callTmp_sem (n := ps.length) hC hm (fs := []) (by rw [hn]; rfl) h
  refine tOf_mono h fun v H1 q => ?_
  obtain ⟨a, dx, fs, e1, h2, h3, h4⟩ := q
  refine ⟨a, dx, fs, e1, h2, h3, ?_⟩
  obtain ⟨F, env, own, S, h4⟩ := h4
  exact h4 [] F H1 own _ (OutL.nil S)
end
/-! ### methods that only add -/
abbrev GF := List W → Option W
def spOfG (K : PySem.W.Frag) (n : Nat) (g : GF) : Sp := fun vs H Q E => vs.length = n ∧ ∃ F ws own, ASit K F H vs ws own ∧ match g ws with
  | some w => ∀ v F' H' p, Grow F H F' H' p → RepW K F' H' v w p → Q v H'
  | none => False
abbrev FnG (P : Program) (w : World) (K : PySem.W.Frag) (mg : Str → Option Value) (base : Heap) (k : Nat) (f : Addr) (fd : FuncData) (ps : List Str) (g : GF) : Prop :=
  FnOk P w K mg base (L2.CX P w) k f fd ps (spOfG K ps.length g)
abbrev MG := DEnv → Option (Option W)
def sgOf (K : PySem.W.Frag) (f : MG) : TS := fun E σ H => ∃ F env own, Sit K F σ H env own ∧ match f env with
  | some (some w) => ∀ v F' H' p, Grow F H F' H' p → RepW K F' H' v w p → E.rt v H'
  | some none => ∀ F' H', Grow F H F' H' (fun _ => False) → E.nx σ H'
  | none => False
abbrev StG (X : Cx) (st : Stmt) (f : MG) : Prop := PS X st (sgOf X.K f)
abbrev SsG (X : Cx) (st : List Stmt) (f : MG) : Prop := PSs X st (sgOf X.K f)
def retG (f : G) : MG := fun env => (f env).map some
def nextG : MG := fun _ => some none
def seqG (a b : MG) : MG := fun env => match a env with
  | some none => b env
  | r => r
def ifG (t : G) (a b : MG) : MG := fun env => match t env with
  | some (.v (.bl c)) => if c then a env else b env
  | _ => none
section
variable {X : Cx} {e c : Expr} {f t : G} {a b : MG} {st : Stmt} {sts as bs : List Stmt} {pos : Pos}
theorem sg_ret (he : EvG X e f) : StG X (.Return (some e) pos) (retG f) := PS.imp (ps_ret he) fun E σ H h => by
  obtain ⟨F, env, own, S, h⟩ := h
  refine ⟨F, env, own, S, ?_⟩
  unfold retG at h
  cases e1 : f env with
  | none => rw [e1] at h; exact h.elim
  | some w => rw [e1] at h; exact h
theorem ssg_nil : SsG X [] nextG := PSs.imp pss_nil fun E σ H h => by
  obtain ⟨F, env, own, S, h⟩ := h
  exact h F H (Grow.refl S.ex)
theorem ssg_one (h : StG X st a) : SsG X [st] a := pss_one h
theorem ssg_cons (h1 : StG X st a) (h2 : SsG X sts b) : SsG X (st :: sts) (seqG a b) := PSs.imp (pss_cons h1 h2) fun E σ H h => by
  obtain ⟨F, env, own, S, h⟩ := h
  refine ⟨F, env, own, S, ?_⟩
  unfold seqG at h
  cases e1 : a env with
  | none => rw [e1] at h; exact h.elim
  | some r =>
    rw [e1] at h
    cases r with
    | some w => exact h
    | none =>
      dsimp only at h
      intro F1 H1 g1
      refine ⟨F1, env, own, g1.sit S, ?_⟩
      cases e2 : b env with
      | none => rw [e2] at h; exact h
      | some r2 =>
        rw [e2] at h
        cases r2 with
        | some w => exact fun v F' H' p g r => h v F' H' p (g1.trans g) r
        | none => exact fun F' H' g => h F' H' (g1.trans g)
theorem sg_if (hc : EvG X c t) (ha : SsG X as a) (hb : SsG X bs b) (he : ∀ whole, isTrue c X.env whole = (do let v ← whole; standAt c.pos; holding [v] (truthy v)) := by intro _; rfl) : StG X (.If c as bs pos) (ifG t a b) := PS.imp (ps_if (pt_val hc he) ha hb) fun E σ H h => by
  obtain ⟨F, env, own, S, h⟩ := h
  refine ⟨F, env, own, S, ?_⟩
  unfold ifG at h
  have key : ∀ (r : MG), (match r env with | some (some w) => ∀ v F' H' p, Grow F H F' H' p → RepW X.K F' H' v w p → E.rt v H' | some none => ∀ F' H', Grow F H F' H' (fun _ => False) → E.nx σ H' | none => False) → ∀ F1 H1, Grow F H F1 H1 (fun _ => False) → sgOf X.K r E σ H1 := fun r h F1 H1 g1 => by
    refine ⟨F1, env, own, g1.sit S, ?_⟩
    cases e2 : r env with
    | none => rw [e2] at h; exact h
    | some r2 =>
      rw [e2] at h
      cases r2 with
      | some w => exact fun v F' H' p g r => h v F' H' p (g1.trans g) r
      | none => exact fun F' H' g => h F' H' (g1.trans g)
  split at h
  case h_3 => exact h.elim
  all_goals
    rename_i heq
    split at heq
    · rename_i cc ht
      rw [ht]
      intro v F1 H1 p g1 rv
      obtain ⟨_, rv⟩ := rv
      cases rv
      refine ⟨cc, rfl, ?_⟩
      cases cc with
      | true =>
        rw [if_pos rfl] at heq ⊢
        exact key a (by rw [heq]; exact h) F1 H1 g1.drop
      | false =>
        rw [if_neg Bool.false_ne_true] at heq ⊢
        exact key b (by rw [heq]; exact h) F1 H1 g1.drop
    · cases heq
end
/-- what a body that only adds makes of a def with np parameters and nl names -/
def mkG (np nl : Nat) (f : MG) : GF := fun ws => if ws.length = np then (match f (ws.map some ++ List.replicate (nl - np) none) with
  | some (some w) => some w
  | some none => some (.v .non)
  | none => none) else none
theorem sit_startG {K : PySem.W.Frag} {F H : Hp} {vs : List V} {ws : List W} {own : Nat → Fp} {n : Nat} (S : ASit K F H vs ws own) : Sit K F (vs.map some ++ List.replicate n none) H (ws.map some ++ List.replicate n none) own := by
  have hl : ws.length = vs.length := by have := S.len; simpa using this
  refine ⟨S.ex, by simp [hl], fun i w e => ?_, fun i a z => ?_, S.dis⟩
  · by_cases hi : i < ws.length
    · rw [List.getElem?_append_left (by simpa using hi)] at e
      obtain ⟨v, hv, r⟩ := S.rep i w e
      refine ⟨v, ?_, r⟩
      rw [List.getElem?_append_left (by rw [List.length_map, ← hl]; exact hi)]
      exact hv
    · rw [List.getElem?_append_right (by simpa using Nat.le_of_not_lt hi), List.getElem?_replicate] at e
      split at e <;> cases e
  · obtain ⟨w, e⟩ := S.emp i a z
    have hi : i < ws.length := (List.getElem?_eq_some_iff.mp (get_map_some e)).1
    exact ⟨w, by rw [List.getElem?_append_left (by simpa using hi)]; exact e⟩
theorem fnG_ok {P : Program} {w : World} {K : PySem.W.Frag} {mg : Str → Option Value} {base : Heap} {x qual : Str} {st : Stmt} {f : Addr} {fd : FuncData} {N ps : List Str} {k : Nat} {fb : MG} (F : Fun K x qual st f fd) (S : FnScope N ps (defScope st))
    (hb : ∀ (cdv : Value) (A : Around) (outer : List Env) (s : Shared) (H : Hp) (E : XK), Room k (A.deeper (envOfC qual (defScope st) s.heap.objs.size f cdv)) →
      SsG (cxOf (L2.CX P w) P w K mg base N qual (defScope st) f cdv A outer s H E) (defBody st) fb)
    : FnG P w K mg base (k + 1) f fd ps (mkG ps.length N.length fb) := by
  refine F.okX S (fun vs H Q E h => h.1) (fun cdv A outer s H vs Q E hr h => ?_)
  obtain ⟨hl, F0, ws, own, SA, h⟩ := h
  have hwl : ws.length = ps.length := by have := SA.len; simp at this; omega
  unfold mkG at h
  rw [if_pos hwl] at h
  have e0 : L2.start N vs = vs.map some ++ List.replicate (N.length - ps.length) none := by unfold L2.start; rw [hl]
  refine ⟨_, hb cdv A outer s H E hr, F0, ws.map some ++ List.replicate (N.length - ps.length) none, own, ?_, ?_⟩
  · rw [e0]
    exact sit_startG SA
  · cases e : fb (ws.map some ++ List.replicate (N.length - ps.length) none) with
    | none => rw [e] at h; exact h
    | some r =>
      rw [e] at h
      cases r with
      | some w => exact h
      | none => exact fun F' H' g => h .non F' H' (fun _ => False) g RepW.ofNon
end DL

namespace DL
open PySem PySem.Spec PyProof.Rows L2
/-! ### a method that only adds, called -/
structure CalG (P : Program) (w : World) (K : PySem.W.Frag) (mg : Str → Option Value) (base : Heap) (k : Nat) (c m : Str) (ps : List Str) (g : GF) : Prop where
  ex : ∃ (C f : Addr) (fd : FuncData), PySem.W.nsIn K mainGlobals c = some (some (.ref C)) ∧ Cls K C ∧ Meth K C m f ∧ FnG P w K mg base k f fd ps g ∧ Binds K fd ps []
def callMG (c : Str) (ns : List Str) (g : GF) (i : Nat) (fs : List G) : G := fun env => match env[i]? with
  | some (some (.x (.o b c' ns' ws))) => if c' = c ∧ ns' = ns then (match evsG fs env with
    | some as => (match allV as with
      | some ds => g (.x (.o b c ns ws) :: ds.map .v)
      | none => none)
    | none => none) else none
  | _ => none
theorem evsG_len : ∀ {fs : List G} {env : DEnv} {ws : List W}, evsG fs env = some ws → ws.length = fs.length
  | [], _, _, h => by cases h; rfl
  | f :: fs, env, ws, h => by
    unfold evsG at h
    split at h
    · rename_i w ws' h1 h2
      cases h
      rw [List.length_cons, List.length_cons, evsG_len h2]
    · cases h
theorem allV_len : ∀ {ws : List W} {ds : List D}, allV ws = some ds → ds.length = ws.length
  | [], _, h => by cases h; rfl
  | .v d :: ws, ds, h => by
    have h : (allV ws).map (d :: ·) = some ds := h
    obtain ⟨ds', h1, rfl⟩ := Option.map_eq_some_iff.mp h
    rw [List.length_cons, List.length_cons, allV_len h1]
  | .l _ _ :: _, _, h => by cases h
  | .m _ _ :: _, _, h => by cases h
  | .x _ :: _, _, h => by cases h
section
variable {X : Cx} {i j k : Nat} {x c m : Str} {ns ps : List Str} {g : GF} {e : Expr} {es : List Expr} {fs : List G} {p1 apos pos : Pos}
theorem g_callMG (C : CalG X.prog X.w X.K X.mg X.base j c m ps g) (hr : Room k X.A) (ha : EaG X (e :: es) fs) (hjk : j ≤ k) (hm : m ∉ ns) (hN : X.N[i]? = some x := by rfl) (hv : Vis X.env.scope x := by first | exact Or.inl rfl | exact Or.inr (Or.inl rfl) | exact Or.inr (Or.inr rfl)) (hd : (x == ("__debug__" : Str)) = false := by decide) (hcd : (x == ("__classdict__" : Str)) = false := by decide)
    (hn : fs.length + 1 = ps.length := by rfl) (hst : starEach (e :: es) X.env = (false, eval e X.env) :: starEach es X.env := by rfl) (hpl : (backTo pos (starEach es X.env)).any (·.1) = false := by rfl) {pl : Sem Bool}
    (ht : eval (.Call (.Attribute (.Name x p1) m apos) (e :: es) [] pos) X.env = (do
      let ov ← eval (.Name x p1) X.env
      standAt apos.atName
      let (f, first) ← holding [ov] (getMethod ov m pl)
      callWith pos f first (backTo pos (starEach (e :: es) X.env)) (backToKw pos (keywordEach [] X.env))) := by rfl) :
    EvG X (.Call (.Attribute (.Name x p1) m apos) (e :: es) [] pos) (callMG c ns g i fs) := by
  obtain ⟨CC, f, fd, hC, cl, me, GG, hb⟩ := C.ex
  refine PE.imp (pe_methSD (E := fun σ c d H' => False) (pl := pl) (pe_var hN hv hd hcd) cl me GG (hr.mono hjk) hb (fun σ => passAt takes0 σ) ha hst hpl ht) fun σ H Q h => ?_
  obtain ⟨F, env, own, S, h⟩ := h
  unfold callMG at h
  split at h
  · rename_i w heq
    split at heq
    · rename_i b c' ns' ws hw
      split at heq
      · rename_i hc
        obtain ⟨rfl, rfl⟩ := hc
        split at heq
        · rename_i as has
          split at heq
          · rename_i ds hds
            obtain ⟨vv, hvv, rr⟩ := S.rep i _ hw
            have rr0 := rr
            obtain ⟨a, dx, C', vs0, p0, rfl, hcC, h1, _⟩ := rr
            rw [hC] at hcC
            cases hcC
            refine ⟨.ref a, hvv, a, dx, _, rfl, h1, lookup_zip_none hm, ?_⟩
            refine ⟨F, env, own, S, ?_⟩
            rw [has]
            intro vs F1 H1 gr rs
            have rd := rs.allV hds
            have SA := sit_one gr.sub (gr.repW rr0) rd
            refine ⟨by rw [List.length_cons, rd.length, allV_len hds, evsG_len has]; exact hn, F1, _, _, SA, ?_⟩
            rw [heq]
            exact fun v F' H' p g' r' => h v F' H' p (gr.trans g') r'
          · cases heq
        · cases heq
      · cases heq
    · cases heq
  · exact h.elim
end
/-! ### targets, the heap as it stands -/
def gvOf (K : PySem.W.Frag) (is : List Nat) (m : MT) : TG := fun v σ H Q => ∃ F env own d, Sit K F σ H env own ∧ RepD K F v d ∧ match m d env with
  | some env' => ∀ σ' own', Only is σ σ' → Sit K F σ' H env' own' → (∀ a, all own' a → all own a) → Q σ' H
  | none => False
def gvsOf (K : PySem.W.Frag) (is : List Nat) (m : MTs) : TGs := fun vs σ H Q => ∃ F env own ds, Sit K F σ H env own ∧ RepDs K F vs ds ∧ match m ds env with
  | some env' => ∀ σ' own', Only is σ σ' → Sit K F σ' H env' own' → (∀ a, all own' a → all own a) → Q σ' H
  | none => False
abbrev TvS (X : Cx) (tg : Expr) (is : List Nat) (m : MT) : Prop := PG X tg (gvOf X.K is m)
abbrev TvsS (X : Cx) (tgs : List Expr) (is : List Nat) (m : MTs) : Prop := PGs X tgs (gvsOf X.K is m)
section
variable {X : Cx} {pos : Pos}
theorem gv_name {i : Nat} {x : Str} (hN : X.N.Nodup) (hi : X.N[i]? = some x) (hx : Loc X.env.scope x) (hf : X.fn x = true ∨ X.env.scope.names.lookup x = some .local := by first | exact .inl rfl | exact .inr rfl | assumption) : TvS X (.Name x pos) [i] (mName i) := PG.imp (pg_name hN hi hx hf) fun v σ H Q h => by
  obtain ⟨F, env, own, d, S, r, h⟩ := h
  unfold mName at h
  cases e : setS i (.v d) env with
  | none => rw [e] at h; exact h.elim
  | some env' =>
    rw [e] at h
    obtain ⟨own', S', hs⟩ := setS_ok (p := fun _ => False) S (RepW.ofRep r) (fun _ z => z.elim) e
    exact h _ _ ⟨List.length_set, fun j hj => List.getElem?_set_ne fun z => hj (by simp [z])⟩ S' fun a z => (hs a z).elim id False.elim
theorem gvs_nil : TvsS X [] [] mNil := PGs.imp pgs_nil fun vs σ H Q h => by
  obtain ⟨F, env, own, ds, S, r, h⟩ := h
  unfold mNil at h
  cases r with
  | nil => exact ⟨rfl, h _ _ Only.refl S fun _ z => z⟩
  | cons _ _ => exact h.elim
theorem gvs_cons {e : Expr} {es : List Expr} {is js : List Nat} {m : MT} {ms : MTs} (h1 : TvS X e is m) (h2 : TvsS X es js ms) (hs : (assignEach (e :: es) X.env).map (·.2) = assign e X.env :: (assignEach es X.env).map (·.2) := by rfl) : TvsS X (e :: es) (is ++ js) (mCons m ms) := PGs.imp (pgs_cons h1 h2 hs) fun vs σ H Q h => by
  obtain ⟨F, env, own, ds, S, r, h⟩ := h
  unfold mCons at h
  cases r with
  | nil => exact h.elim
  | cons rd rs =>
    rename_i v d vs ds
    dsimp only at h
    refine ⟨v, vs, rfl, F, env, own, d, S, rd, ?_⟩
    cases e1 : m d env with
    | none => rw [e1] at h; exact h
    | some env1 =>
      rw [e1, Option.bind_some] at h
      intro σ1 own1 y1 S1 o1
      refine ⟨F, env1, own1, ds, S1, rs, ?_⟩
      cases e2 : ms ds env1 with
      | none => rw [e2] at h; exact h
      | some env2 =>
        rw [e2] at h
        exact fun σ2 own2 y2 S2 o2 => h _ _ (y1.trans y2) S2 fun a z => o1 a (o2 a z)
theorem gv_tup {es : List Expr} {k n : Nat} {is : List Nat} {ms : MTs} (hc : X.calm = true) (h : TvsS X es is ms) (hn : (assignEach es X.env).length = n := by rfl) (hst : (assignEach es X.env).findIdx? (·.1) = none := by rfl) : TvS X (.Tuple es k pos) is (mTup ms n) := PG.imp (pg_tup hc h hn hst) fun v σ H Q h => by
  obtain ⟨F, env, own, d, S, r, h⟩ := h
  unfold mTup at h
  cases r with
  | tup q rs =>
    rename_i a vs ds
    dsimp only at h
    by_cases hl : ds.length = n
    · rw [if_pos hl] at h
      exact ⟨a, vs, rfl, SqT.of (S.ex _ _ q), by rw [rs.length]; exact hl, F, env, own, ds, S, rs, h⟩
    · rw [if_neg hl] at h; exact h.elim
  | _ => exact h.elim
end
/-! ### [elt for tg in xs], xs read as it stands -/
def compG (vs : List Nat) (m : MT) (f : G) : List D → DEnv → Option (List D)
  | [], _ => some []
  | d :: ds, env => match m d env with
    | some e => (match f e with
      | some w => if w.opq then none else (compG vs m f ds (wipeA e vs)).map (datW w :: ·)
      | none => none)
    | none => none
def eCompG (fv : DEnv → Option D) (vs : List Nat) (m : MT) (f : G) : G := fun env => match fv env with
  | some (.lst ds) => if dataAt env vs = true ∧ ds.length ≤ 1000000 then (compG vs m f ds (wipeA env vs)).map (.l false) else none
  | _ => none
theorem compG_sem {K : PySem.W.Frag} {fv : DEnv → Option D} {is vs : List Nat} {m : MT} {f : G} {σ : L2.St} {H : Hp} {Q : VK} (hsub : ∀ i ∈ is, i ∈ vs) (h : gOfG K (eCompG fv vs m f) σ H Q) :
    tLc (iList K (vOf K fv)) (gvOf K is m) tYes (gOfG K f) vs σ H Q := by
  obtain ⟨F, env, own, S, h⟩ := h
  unfold eCompG at h
  refine ⟨F, env, own, S, ?_⟩
  cases e : fv env with
  | none => rw [e] at h; exact h.elim
  | some dd =>
    rw [e] at h
    cases dd with
    | lst ds =>
      dsimp only at h
      by_cases hcond : dataAt env vs = true ∧ ds.length ≤ 1000000
      · rw [if_pos hcond] at h
        obtain ⟨hda, hlen⟩ := hcond
        cases ec : compG vs m f ds (wipeA env vs) with
        | none => rw [ec] at h; exact h.elim
        | some yall =>
          rw [ec] at h
          intro v vw
          obtain ⟨l, us, rfl, hl, rus⟩ := vw
          refine ⟨l, rfl, ⟨us, .inl hl⟩, fun P hP => ?_⟩
          have hus := rus.length
          have S1w := S.wipe (vs := vs) fun i hi a => dataAt_no S hda hi a
          have g0 : Grow F H F (upd H P (.lst [])) (fun a => a = P) := Grow.ofOwn S.ex hP
          refine ⟨fun i k H' => k = ds.length - i ∧ i ≤ ds.length ∧ ∃ F' env' own' ys avs, ys.length ≤ i ∧ Grow F H F' H' (fun a => a = P) ∧ Sit K F' (wipe σ vs) H' env' own' ∧ H' P = some (.lst avs) ∧ F' P = none ∧ ¬ all own' P ∧ RepDs K F' avs ys ∧ ∃ rest, compG vs m f (ds.drop i) env' = some rest ∧ ys ++ rest = yall,
            ⟨ds.length, by simp, Nat.zero_le _, F, wipeA env vs, own, [], [], Nat.zero_le _, g0, g0.sit S1w, upd_same, sub_none S.ex hP, fun z => ?_, .nil, yall, ec, rfl⟩, ?_⟩
          · obtain ⟨⟨o, e2⟩, _⟩ := S.there z
            rw [hP] at e2
            cases e2
          rintro i k H' ⟨rfl, hi, F', env', own', ys, avs, hyl, gr, S', hPe, hFP, nP, rys, rest, hr, hy⟩
          have hl' : SqL K H' l us := .inl (sameL gr.exH hl)
          by_cases hlt : i < ds.length
          · have hiu : i < us.length := by omega
            refine .inr ⟨⟨us, us[i], hl', List.getElem?_eq_getElem hiu⟩, fun H'' => i + 1 ≤ ds.length ∧ ∃ F' env' own' ys avs, ys.length ≤ i + 1 ∧ Grow F H F' H'' (fun a => a = P) ∧ Sit K F' (wipe σ vs) H'' env' own' ∧ H'' P = some (.lst avs) ∧ F' P = none ∧ ¬ all own' P ∧ RepDs K F' avs ys ∧ ∃ rest, compG vs m f (ds.drop (i + 1)) env' = some rest ∧ ys ++ rest = yall,
              fun H'' q => ⟨ds.length - (i + 1), by omega, rfl, q.1, q.2⟩, fun x H'' y => ?_⟩
            obtain ⟨rfl, y⟩ := y
            have hx := y us hl'
            have hd : ds[i]? = some ds[i] := List.getElem?_eq_getElem hlt
            obtain ⟨vx, h1, rx⟩ := rus.get hd
            rw [hx] at h1
            cases h1
            have hdr : ds.drop i = ds[i] :: ds.drop (i + 1) := List.drop_eq_getElem_cons hlt
            rw [hdr, compG] at hr
            refine ⟨F', env', own', ds[i], S', rx.mono gr.exF, ?_⟩
            cases e3 : m ds[i] env' with
            | none => rw [e3] at hr; cases hr
            | some ea =>
              rw [e3] at hr
              dsimp only at hr
              intro σ4 own4 o4 S4 sub4
              have w4 : wipe σ4 vs = wipe σ vs := (wipe_only o4 hsub).trans wipe_wipe
              refine ⟨w4, ?_⟩
              unfold tYes
              dsimp only
              rw [if_pos rfl]
              refine ⟨F', ea, own4, S4, ?_⟩
              cases ef : f ea with
              | none => rw [ef] at hr; cases hr
              | some w =>
                rw [ef] at hr
                dsimp only at hr
                cases ho : w.opq with
                | true => rw [ho, if_pos rfl] at hr; cases hr
                | false =>
                  rw [ho, if_neg Bool.false_ne_true] at hr
                  obtain ⟨rest2, hr2, rfl⟩ := Option.map_eq_some_iff.mp hr
                  intro v2 F5 H5 p5 g5 r5
                  obtain ⟨F6, g6, rd6⟩ := g5.frz r5 ho
                  have hP5 : H5 P = some (.lst avs) := g6.exH _ _ hPe
                  have nF6 : F6 P = none := by
                    cases z : F6 P with
                    | none => rfl
                    | some u => rw [g6.fr P u z hFP] at hPe; cases hPe
                  refine ⟨avs, hP5, by rw [rys.length]; exact szl (by omega), hlt, F6, wipeA ea vs, ownW vs own4, ys ++ [datW w], avs ++ [v2], by rw [List.length_append]; simp; omega, ?_, ?_, upd_same, nF6, ?_, (rys.mono g6.exF).append (.cons rd6 .nil), rest2, hr2, by rw [List.append_assoc]; exact hy⟩
                  · have gg := gr.trans g6
                    refine ⟨gg.exF, fun a o q => ?_, fun a o q => ?_, gg.fr, fun a q => by rw [q]; exact hP⟩
                    · rw [upd_ne (ne_of_none q hP)]
                      exact gg.exH a o q
                    · have ne : a ≠ P := fun z => by rw [z, nF6] at q; cases q
                      rw [upd_ne ne]
                      exact g6.sub a o q
                  · have S6 := g6.sit S4
                    have S7 : Sit K F6 σ4 (upd H5 P (.lst (avs ++ [v2]))) ea own4 := by
                      refine ⟨fun a o q => ?_, S6.len, fun n' w' e' => ?_, S6.emp, S6.dis⟩
                      · have ne : a ≠ P := fun z => by rw [z, nF6] at q; cases q
                        rw [upd_ne ne]
                        exact g6.sub a o q
                      · obtain ⟨u, hu, ru⟩ := S6.rep n' w' e'
                        refine ⟨u, hu, ru.frame (Same.refl _) (fun a o q h' => ?_) fun a q => (ru.there q).2⟩
                        have ne : a ≠ P := fun z => nP (sub4 P (z ▸ ⟨n', q⟩))
                        rw [upd_ne ne]
                        exact h'
                    have := S7.wipe2 (vs := vs)
                    rw [w4] at this
                    exact this
                  · exact fun z => nP (sub4 P (ownW_sub z))
          · have ei : i = ds.length := by omega
            subst ei
            refine .inl ⟨⟨us, hl', by omega⟩, ?_⟩
            rw [List.drop_length, compG] at hr
            cases hr
            rw [List.append_nil] at hy
            subst hy
            exact h (.ref P) F' H' (fun a => a = P) gr ⟨P, avs, rfl, fun _ => Iff.rfl, hPe, hFP, rys⟩
      · rw [if_neg hcond] at h
        exact h.elim
    | _ => exact h.elim
section
variable {X : Cx} {elt tg iter : Expr} {scope : Scope} {own : List (Str × Nat)} {pos : Pos} {fv : DEnv → Option D} {is : List Nat} {m : MT} {f : G}
theorem g_comp (hc : X.calm = true) (hN : X.N.Nodup) (hi : EvV X iter fv) (ok : BlkOk X.N X.env.scope scope own)
    (hg : ∀ (s : Shared) (H : Hp) (C : Addr) (cl : List (Str × Addr)) (fp : List Addr), TvS (X.blk s H scope (compEnvC scope cl C X.env) fp) tg is m)
    (he : ∀ (s : Shared) (H : Hp) (C : Addr) (cl : List (Str × Addr)) (fp : List Addr), EvG (X.blk s H scope (compEnvC scope cl C X.env) fp) elt f) (hsub : ∀ i ∈ is, i ∈ own.map (·.2)) (hs : ∀ x, foldedSetIterable iter X.env x = pure x := by intro _; rfl) :
    EvG X (.ListComp elt [⟨tg, iter, [], 0⟩] scope pos) (eCompG fv (own.map (·.2)) m f) :=
  PE.imp (pe_lc hc hN (pi_list hi) ok hg (fun s H C cl fp => pts_nil) he hs) fun σ H Q h => compG_sem hsub h
end
end DL

namespace DL
open PySem PySem.Spec PyProof.Rows L2
/-! ### x.f read, for good -/
def frzF (i : Nat) (c : Str) (ns : List Str) (j : Nat) (env : DEnv) : Option (D × DEnv) := match env[i]? with
  | some (some (.x (.o b c' ns' ws))) => if c' = c ∧ ns' = ns then (match ws[j]? with
    | some w => some (datW0 w, env.set i (some (.x (.o b c ns (ws.set j (.v (datW0 w)))))))
    | none => none) else none
  | _ => none
def eFldZ (i : Nat) (c : Str) (ns : List Str) (j : Nat) : M U := fun env => match frzF i c ns j env with
  | some (d, e) => .ok (.w (.v d)) e
  | none => .stuck
theorem RepW0.frz {K : PySem.W.Frag} {F H : Hp} {v : V} {w : W0} {q : Fp} (ex : Same F H) (r : RepW0 K F H v w q) : ∃ F', Same F F' ∧ Same F' H ∧ RepD K F' v (datW0 w) ∧ ∀ a o, F' a = some o → F a = none → q a := by
  have key : ∀ {a : Addr} {o : HO}, q a → H a = some o → F a = none → Same F (upd F a o) ∧ Same (upd F a o) H ∧ ∀ b u, upd F a o b = some u → F b = none → q b := fun {a o} qa h1 f1 => by
    refine ⟨same_upd f1, fun x u h => ?_, fun x u h n => ?_⟩
    · by_cases z : x = a
      · subst z; rw [upd_same] at h; rw [h1]; exact h
      · rw [upd_ne z] at h; exact ex x u h
    · by_cases z : x = a
      · rw [z]; exact qa
      · rw [upd_ne z, n] at h; cases h
  cases w with
  | v d => exact ⟨F, Same.refl _, ex, r.2, fun a o h n => by rw [h] at n; cases n⟩
  | l ds =>
    obtain ⟨a, vs, rfl, hp, hH, hF, rr⟩ := r
    obtain ⟨k1, k2, k3⟩ := key ((hp a).mpr rfl) hH hF
    exact ⟨_, k1, k2, .lst (.inl upd_same) (rr.mono k1), k3⟩
  | d k ks ds =>
    obtain ⟨a, o, us, vs, rfl, hp, hH, hF, hk, r1, r2⟩ := r
    obtain ⟨k1, k2, k3⟩ := key ((hp a).mpr rfl) hH hF
    exact ⟨_, k1, k2, .dix upd_same hk (r1.mono k1) (r2.mono k1), k3⟩
section
variable {X : Cx} {Wx : WX} {i j : Nat} {x c f : Str} {ns : List Str} {pos p : Pos}
theorem e_fldZ (T : ClsF X.K c ns) (nd : ns.Nodup) (hf : ns[j]? = some f) (hN : X.N[i]? = some x := by rfl) (hv : Vis X.env.scope x := by first | exact Or.inl rfl | exact Or.inr (Or.inl rfl) | exact Or.inr (Or.inr rfl)) (hd : (x == ("__debug__" : Str)) = false := by decide) (hcd : (x == ("__classdict__" : Str)) = false := by decide)
    (hb : attributeBase (.Name x p) f X.env (eval (.Name x p) X.env) = eval (.Name x p) X.env := by rfl) : EvS X Wx (.Attribute (.Name x p) f pos) (eFldZ i c ns j) := PE.imp (pe_fld (pe_var hN hv hd hcd) hb) fun σ H Q h => by
  obtain ⟨F, env, own, S, h⟩ := h
  unfold eFldZ frzF at h
  cases hw : env[i]? with
  | none => rw [hw] at h; exact h.elim
  | some ow =>
    rw [hw] at h
    match ow, hw, h with
    | some (.x (.o b c' ns' ws)), hw, h =>
      dsimp only at h
      by_cases hc : c' = c ∧ ns' = ns
      · rw [if_pos hc] at h
        obtain ⟨rfl, rfl⟩ := hc
        cases hj : ws[j]? with
        | none => rw [hj] at h; exact h.elim
        | some w0 =>
          rw [hj] at h
          dsimp only at h
          obtain ⟨vv, hvv, a, dx, C, vs, p0, rfl, hcC, h1, h2, f1, f2, hl, r, hp, n1, n2⟩ := S.rep i _ hw
          obtain ⟨C', hc', cl, na⟩ := T.ex
          rw [hcC] at hc'
          cases hc'
          obtain ⟨v, q, hvj, rv, hqp, hupd⟩ := r.upd hj
          refine ⟨.ref a, hvv, a, C, dx, _, v, rfl, h1, cl, na f (List.mem_of_getElem? hf), by rw [lookup_zip nd hf]; exact hvj, ?_⟩
          obtain ⟨F', sF, ex', rd, hq⟩ := rv.frz S.ex
          have none' : ∀ b, ¬ q b → F b = none → F' b = none := fun b nq n => by
            cases z : F' b with
            | none => rfl
            | some u => exact absurd (hq b u z n) nq
          have r2 := hupd (F' := F') (H' := H) (v' := v) (w' := .v (datW0 w0)) (q' := fun _ => False) sF (fun b o _ _ e => e) (fun b pb nq => none' b nq (r.there pb).2) ⟨fun _ z => z, rd⟩ (fun b z _ => z.elim)
          have evs : vs.set j v = vs := by
            obtain ⟨hjl, e⟩ := List.getElem?_eq_some_iff.mp hvj
            rw [← e, List.set_getElem_self]
          rw [evs] at r2
          have hi : i < env.length := (List.getElem?_eq_some_iff.mp hw).1
          have nqa : ¬ q a := fun z => n1 (hqp a z)
          have nqd : ¬ q dx := fun z => n2 (hqp dx z)
          have RX : RepW X.K F' H (.ref a) (.x (.o b c' ns' (ws.set j (.v (datW0 w0))))) (fun b => (b = a ∨ b = dx) ∨ ((p0 b ∧ ¬ q b) ∨ False)) :=
            ⟨a, dx, C, vs, fun b => (p0 b ∧ ¬ q b) ∨ False, rfl, hcC, h1, h2, none' a nqa f1, none' dx nqd f2, hl, r2, fun _ => Iff.rfl, fun z => z.elim (fun y => n1 y.1) id, fun z => z.elim (fun y => n2 y.1) id⟩
          obtain ⟨own', S', st⟩ := S.repl (t := fun _ => False) (F' := F') (H' := H) hi hvv (fun _ z => z.elim) ex' sF (fun b o e _ _ => e)
            (fun b o e n => .inr (.inl ((hp b).mpr (.inr (hqp b (hq b o e n)))))) RX (fun b z => by
              rcases z with z | (z | z)
              · exact .inr (.inl ((hp b).mpr (.inl z)))
              · exact .inr (.inl ((hp b).mpr (.inr z.1)))
              · exact z.elim)
          exact h v F' H own' (fun _ => False) ((Grow.refl S'.ex).out ⟨S', st.sup fun a z => z.elim id False.elim⟩ (RepW.ofRep rd))
      · rw [if_neg hc] at h
        exact h.elim
    | none, _, h => exact h.elim
    | some (.v _), _, h => exact h.elim
    | some (.l _ _), _, h => exact h.elim
    | some (.m _ _), _, h => exact h.elim
    | some (.x (.d _ _ _)), _, h => exact h.elim
    | some (.x (.t _)), _, h => exact h.elim
end
/-! ### (x, y, ..), names whose lists go along -/
def moveW (env : DEnv) (i : Nat) : Option (W0 × DEnv) := match env[i]? with
  | some (some (.v d)) => some (.v d, env)
  | some (some (.l false ds)) => some (.l ds, env.set i none)
  | _ => none
def moves : List Nat → DEnv → Option (List W0 × DEnv)
  | [], env => some ([], env)
  | i :: is, env => match moveW env i with
    | some (w, e1) => (match moves is e1 with
      | some (ws, e2) => some (w :: ws, e2)
      | none => none)
    | none => none
def eTupMv (is : List Nat) : M U := fun env => match moves is env with
  | some (ws, e) => .ok (.w (.x (.t ws))) e
  | none => .stuck
section
variable {K : PySem.W.Frag} {F H : Hp} {σ : L2.St}
theorem Sit.move1 {env env' : DEnv} {own : Nat → Fp} {i : Nat} {w : W0} (S : Sit K F σ H env own) (h : moveW env i = some (w, env')) :
    ∃ v, ∃ q : Fp, ∃ own', σ[i]? = some (some v) ∧ RepW0 K F H v w q ∧ Sit K F σ H env' own' ∧ (∀ a, q a → ¬ all own' a) ∧ (∀ a, all own' a ∨ q a → all own a) := by
  unfold moveW at h
  split at h
  · rename_i d hw
    cases h
    obtain ⟨v, hv, r⟩ := S.rep i _ hw
    exact ⟨v, fun _ => False, own, hv, ⟨fun _ z => z, r.2⟩, S, fun _ z => z.elim, fun a z => z.elim id False.elim⟩
  · rename_i ds hw
    cases h
    obtain ⟨v, hv, r⟩ := S.rep i _ hw
    have hi : i < env.length := (List.getElem?_eq_some_iff.mp hw).1
    refine ⟨v, own i, fun j a => j ≠ i ∧ own j a, hv, r, ⟨S.ex, by rw [List.length_set]; exact S.len, fun j w' e => ?_, fun j a z => ?_, fun j k a z1 z2 => S.dis j k a z1.2 z2.2⟩, fun a z y => ?_, fun a z => ?_⟩
    · by_cases hj : j = i
      · subst hj
        rw [List.getElem?_set_self hi] at e
        cases e
      · rw [List.getElem?_set_ne (Ne.symm hj)] at e
        obtain ⟨v', e1, r'⟩ := S.rep j w' e
        have e2 : (fun a => j ≠ i ∧ own j a) = own j := funext fun a => propext ⟨fun z => z.2, fun z => ⟨hj, z⟩⟩
        refine ⟨v', e1, ?_⟩
        show RepW K F H v' w' (fun a => j ≠ i ∧ own j a)
        rw [e2]
        exact r'
    · obtain ⟨w', e⟩ := S.emp j a z.2
      exact ⟨w', by rw [List.getElem?_set_ne (Ne.symm z.1)]; exact e⟩
    · obtain ⟨j, hj, y⟩ := y
      exact hj (S.dis j i a y z)
    · rcases z with ⟨j, _, z⟩ | z
      · exact ⟨j, z⟩
      · exact ⟨i, z⟩
  · cases h
def slots (σ : L2.St) : List Nat → List V → Prop
  | [], [] => True
  | i :: is, v :: vs => σ[i]? = some (some v) ∧ slots σ is vs
  | _, _ => False
theorem Sit.moves : ∀ {is : List Nat} {env env' : DEnv} {own : Nat → Fp} {ws : List W0}, Sit K F σ H env own → DL.moves is env = some (ws, env') →
    ∃ vs, ∃ q : Fp, ∃ own', slots σ is vs ∧ RepW0s K F H vs ws q ∧ Sit K F σ H env' own' ∧ (∀ a, q a → ¬ all own' a) ∧ (∀ a, all own' a ∨ q a → all own a)
  | [], env, env', own, ws, S, h => by
    cases h
    exact ⟨[], fun _ => False, own, True.intro, fun _ z => z, S, fun _ z => z.elim, fun a z => z.elim id False.elim⟩
  | i :: is, env, env', own, ws, S, h => by
    unfold DL.moves at h
    split at h
    · rename_i w e1 h1
      split at h
      · rename_i ws' e2 h2
        cases h
        obtain ⟨v, q, own1, hv, r, S1, d1, s1⟩ := S.move1 h1
        obtain ⟨vs, q2, own2, hvs, r2, S2, d2, s2⟩ := Sit.moves S1 h2
        refine ⟨v :: vs, fun a => q a ∨ q2 a, own2, ⟨hv, hvs⟩, ⟨q, q2, fun _ => Iff.rfl, fun a z y => d1 a z (s2 a (.inr y)), r, r2⟩, S2, fun a z y => ?_, fun a z => ?_⟩
        · rcases z with z | z
          · exact d1 a z (s2 a (.inl y))
          · exact d2 a z y
        · rcases z with z | z | z
          · exact s1 a (.inl (s2 a (.inl z)))
          · exact s1 a (.inr z)
          · exact s1 a (.inl (s2 a (.inr z)))
      · cases h
    · cases h
end
/-- names, told as they stand -/
def tSl (is : List Nat) : TA := fun σ H Q => ∃ vs, slots σ is vs ∧ Q vs H
theorem sl_nil {X : Cx} : PA X [] (tSl []) := PA.imp pa_nil fun σ H Q h => by
  obtain ⟨vs, h1, h2⟩ := h
  cases vs with
  | nil => exact h2
  | cons _ _ => exact h1.elim
theorem sl_cons {X : Cx} {x : Str} {es : List Expr} {is : List Nat} {pos : Pos} (i : Nat) (hr : PA X es (tSl is)) (hN : X.N[i]? = some x := by rfl) (hv : Vis X.env.scope x := by first | exact Or.inl rfl | exact Or.inr (Or.inl rfl) | exact Or.inr (Or.inr rfl)) (hd : (x == ("__debug__" : Str)) = false := by decide)
    (hcd : (x == ("__classdict__" : Str)) = false := by decide) (hs : starEach (.Name x pos :: es) X.env = (false, eval (.Name x pos) X.env) :: starEach es X.env := by rfl) : PA X (.Name x pos :: es) (tSl (i :: is)) := PA.imp (pa_cons (pe_var hN hv hd hcd) hr hs) fun σ H Q h => by
  obtain ⟨vs, h1, h2⟩ := h
  cases vs with
  | nil => exact h1.elim
  | cons v vs => exact ⟨v, h1.1, vs, h1.2, h2⟩
theorem slots_len {σ : L2.St} : ∀ {is : List Nat} {vs : List V}, slots σ is vs → vs.length = is.length
  | [], [], _ => rfl
  | _ :: _, _ :: _, h => by rw [List.length_cons, List.length_cons, slots_len h.2]
  | [], _ :: _, h => h.elim
  | _ :: _, [], h => h.elim
theorem e_tupMv {X : Cx} {Wx : WX} {es : List Expr} {is : List Nat} {n : Nat} {pos : Pos} (h : PA X es (tSl is)) (hn : is.length ≤ 1000 := by decide) : EvS X Wx (.Tuple es n pos) (eTupMv is) := PE.imp (pe_tup h) fun σ H Q h => by
  obtain ⟨F, env, own, S, h⟩ := h
  unfold eTupMv at h
  cases e : moves is env with
  | none => rw [e] at h; exact h.elim
  | some pr =>
    obtain ⟨ws, env'⟩ := pr
    rw [e] at h
    dsimp only at h
    obtain ⟨vs, q, own', hs, r, S', dj, sub⟩ := S.moves e
    refine ⟨vs, hs, szm (by rw [slots_len hs]; omega), fun T hT => ?_⟩
    have g : Grow F H (upd F T (.tup vs)) (upd H T (.tup vs)) (fun _ => False) := Grow.data S.ex hT
    have S2 := g.sit S'
    have nT : ∀ a, q a → a ≠ T := fun a z y => by
      obtain ⟨⟨o, e1⟩, _⟩ := r.there z
      rw [y, hT] at e1
      cases e1
    have fT : ∀ a, q a → upd F T (.tup vs) a = none := fun a z => by rw [upd_ne (nT a z)]; exact (r.there z).2
    refine h (.ref T) _ _ own' q ⟨S2, ⟨T, vs, rfl, upd_same, r.frame g.exF (fun a o z e1 => g.exH a o e1) fT⟩, dj, g.exF, fun a o e1 _ => g.exH a o e1, fun a z => .inl (sub a z), fun a o e1 n => .inr (g.fr a o e1 n)⟩
/-! ### a, x.f, .. = what is told as its own -/
def upW : W0 → W
  | .v d => .v d
  | .l ds => .l false ds
  | .d k ks ds => .x (.d k ks ds)
theorem RepW0.up {K : PySem.W.Frag} {F H : Hp} {v : V} {w : W0} {p : Fp} (r : RepW0 K F H v w p) : RepW K F H v (upW w) p := by
  cases w <;> exact r
abbrev MO := W0 → DEnv → Option DEnv
abbrev MOs := List W0 → DEnv → Option DEnv
def goOf (K : PySem.W.Frag) (is : List Nat) (m : MO) : TG := fun v σ H Q => ∃ F env own w, ∃ p : Fp, Sit K F σ H env own ∧ RepW0 K F H v w p ∧ (∀ a, p a → ¬ all own a) ∧ match m w env with
  | some env' => ∀ σ' H' own', Only is σ σ' → Sit K F σ' H' env' own' → Step F H (fun a => all own a ∨ p a) F H' (all own') → Q σ' H'
  | none => False
def gosOf (K : PySem.W.Frag) (is : List Nat) (m : MOs) : TGs := fun vs σ H Q => ∃ F env own ws, ∃ p : Fp, Sit K F σ H env own ∧ RepW0s K F H vs ws p ∧ (∀ a, p a → ¬ all own a) ∧ match m ws env with
  | some env' => ∀ σ' H' own', Only is σ σ' → Sit K F σ' H' env' own' → Step F H (fun a => all own a ∨ p a) F H' (all own') → Q σ' H'
  | none => False
abbrev ToS (X : Cx) (tg : Expr) (is : List Nat) (m : MO) : Prop := PG X tg (goOf X.K is m)
abbrev TosS (X : Cx) (tgs : List Expr) (is : List Nat) (m : MOs) : Prop := PGs X tgs (gosOf X.K is m)
def oName (i : Nat) : MO := fun w env => setS i (upW w) env
def oFld (i : Nat) (c : Str) (ns : List Str) (j : Nat) : MO := fun w env => storeF i c ns j (upW w) env
def oNil : MOs := fun ws env => match ws with
  | [] => some env
  | _ => none
def oCons (m : MO) (ms : MOs) : MOs := fun ws env => match ws with
  | w :: r => (match m w env with
    | some e => ms r e
    | none => none)
  | [] => none
def gAttr (K : PySem.W.Frag) (ta : TE) (f : Str) : TG := fun y σ H Q => ta σ H fun x H2 => ∃ a C dx fs, x = .ref a ∧ H2 a = some (.ins C dx fs) ∧ Cls K C ∧ NoAttr K C f ∧ fs.length < 1000 ∧ Q σ (upd H2 a (.ins C dx (putF f y fs)))
theorem pg_attr {X : Cx} {o : Expr} {f : Str} {ta : TE} {pos : Pos} (ha : PE X o ta) : PG X (.Attribute o f pos) (gAttr X.K ta f) := by
  refine ⟨fun pins s σ H v u Q I r h => ?_⟩
  rw [PySem.assign_Attribute]
  refine wpAny_bind (wpAny_holding (thn (ha.run pins s σ H _ I h) fun ov s2 ⟨x, H2, I2, rx, a, C, dx, fs, ex, ea, c, n, l, q2⟩ => ?_))
  subst ex
  obtain rfl : ov = Value.ref a := rx
  refine wpAny_bind (wpAny_standAt (wpAny_bind (wpAny_holding (setattr_ok I2 ea c n l r fun s3 I3 => ?_))))
  exact wpAny_release ⟨σ, _, I3, q2⟩
section
variable {X : Cx} {pos p1 : Pos}
theorem o_name {i : Nat} {x : Str} (hN : X.N.Nodup) (hi : X.N[i]? = some x) (hx : Loc X.env.scope x) (hf : X.fn x = true ∨ X.env.scope.names.lookup x = some .local := by first | exact .inl rfl | exact .inr rfl | assumption) : ToS X (.Name x pos) [i] (oName i) := PG.imp (pg_name hN hi hx hf) fun v σ H Q h => by
  obtain ⟨F, env, own, w, p, S, r, dj, h⟩ := h
  unfold oName at h
  cases e : setS i (upW w) env with
  | none => rw [e] at h; exact h.elim
  | some env' =>
    rw [e] at h
    obtain ⟨own', S', hs⟩ := setS_ok S r.up dj e
    exact h _ _ _ ⟨List.length_set, fun j hj => List.getElem?_set_ne fun z => hj (by simp [z])⟩ S' ⟨Same.refl _, fun _ _ q _ => q, fun a z => .inl (hs a z), fun a o q n => by rw [q] at n; cases n⟩
theorem o_fld {i j : Nat} {x c f : Str} {ns : List Str} (T : ClsF X.K c ns) (nd : ns.Nodup) (hf : ns[j]? = some f) (hns : ns.length < 1000) (hN : X.N[i]? = some x := by rfl) (hv : Vis X.env.scope x := by first | exact Or.inl rfl | exact Or.inr (Or.inl rfl) | exact Or.inr (Or.inr rfl)) (hd : (x == ("__debug__" : Str)) = false := by decide) (hcd : (x == ("__classdict__" : Str)) = false := by decide) :
    ToS X (.Attribute (.Name x p1) f pos) [] (oFld i c ns j) := PG.imp (pg_attr (pe_var hN hv hd hcd)) fun v σ H Q h => by
  obtain ⟨F, env, own, w, p, S, r, dj, h⟩ := h
  unfold oFld at h
  cases e : storeF i c ns j (upW w) env with
  | none => rw [e] at h; exact h.elim
  | some env' =>
    rw [e] at h
    obtain ⟨a, C, dx, fs, h1, h2, h3, h4, h5, own3, S3, st⟩ := S.storeF T nd hf r.up dj e
    exact ⟨.ref a, h1, a, C, dx, fs, rfl, h2, h3, h4, Nat.lt_of_le_of_lt h5 hns, h _ _ _ Only.refl S3 st⟩
theorem os_nil : TosS X [] [] oNil := PGs.imp pgs_nil fun vs σ H Q h => by
  obtain ⟨F, env, own, ws, p, S, r, dj, h⟩ := h
  unfold oNil at h
  match vs, ws, r, h with
  | [], [], r, h => exact ⟨rfl, h _ _ _ Only.refl S ⟨Same.refl _, fun _ _ q _ => q, fun a z => .inl (.inl z), fun a o q n => by rw [q] at n; cases n⟩⟩
  | _ :: _, _ :: _, _, h => exact h.elim
  | [], _ :: _, r, _ => exact r.elim
  | _ :: _, [], r, _ => exact r.elim
theorem os_cons {e : Expr} {es : List Expr} {is js : List Nat} {m : MO} {ms : MOs} (h1 : ToS X e is m) (h2 : TosS X es js ms) (hs : (assignEach (e :: es) X.env).map (·.2) = assign e X.env :: (assignEach es X.env).map (·.2) := by rfl) : TosS X (e :: es) (is ++ js) (oCons m ms) := PGs.imp (pgs_cons h1 h2 hs) fun vs σ H Q h => by
  obtain ⟨F, env, own, ws, p, S, r, dj, h⟩ := h
  unfold oCons at h
  match vs, ws, r, h with
  | [], [], _, h => exact h.elim
  | [], _ :: _, r, _ => exact r.elim
  | _ :: _, [], r, _ => exact r.elim
  | v :: vs, w :: ws, r, h =>
    dsimp only at h
    obtain ⟨p1, p2, hp, hd, r1, r2⟩ := r
    refine ⟨v, vs, rfl, F, env, own, w, p1, S, r1, fun a z => dj a ((hp a).mpr (.inl z)), ?_⟩
    cases e1 : m w env with
    | none => rw [e1] at h; exact h.elim
    | some env1 =>
      rw [e1] at h
      dsimp only at h ⊢
      intro σ1 H1 own1 y1 S1 s1
      have no : ∀ a, p2 a → ¬ (all own a ∨ p1 a) := fun a z y => y.elim (dj a ((hp a).mpr (.inr z))) fun x => hd a x z
      have r2' : RepW0s X.K F H1 vs ws p2 := r2.frame (Same.refl _) (fun a o z q => s1.keep a o q (no a z)) (fun a z => (r2.there z).2)
      have d2 : ∀ a, p2 a → ¬ all own1 a := fun a z y => by
        rcases s1.new a y with q | q
        · exact no a z q
        · obtain ⟨⟨o, e2⟩, _⟩ := r2.there z
          rw [q] at e2
          cases e2
      refine ⟨F, env1, own1, ws, p2, S1, r2', d2, ?_⟩
      cases e2 : ms ws env1 with
      | none => rw [e2] at h; exact h.elim
      | some env2 =>
        rw [e2] at h
        intro σ2 H2 own2 y2 S2 s2
        refine h _ _ _ (y1.trans y2) S2 (((s1.more p2).trans s2).sup fun a z => ?_)
        rcases z with (z | z) | z
        · exact .inl z
        · exact .inr ((hp a).mpr (.inl z))
        · exact .inr ((hp a).mpr (.inr z))
def sOwn (n : Nat) (ms : MOs) (fe : M U) : M Fl := fun env => (fe env).bind fun u e1 => match u with
  | .w (.x (.t ws)) => if ws.length = n then (match ms ws e1 with
    | some e2 => .ok .next e2
    | none => .stuck) else .stuck
  | _ => .stuck
theorem s_own {Wx : WX} {es : List Expr} {e : Expr} {k n : Nat} {is : List Nat} {ms : MOs} {fe : M U} {spos : Pos} (hc : X.calm = true) (he : EvS X Wx e fe) (h : TosS X es is ms) (hn : (assignEach es X.env).length = n := by rfl) (hst : (assignEach es X.env).findIdx? (·.1) = none := by rfl)
    (hs : swapsWithSole [.Tuple es k pos] e spos.line X.env = pure false := by rfl) (hw : swappedStores [.Tuple es k pos] e X.env = pure none := by rfl)
    (h1 : (assignEach [.Tuple es k pos] X.env).map (·.2) = [assign (.Tuple es k pos) X.env] := by rfl) : StS X Wx (.Assign [.Tuple es k pos] e spos) is (sOwn n ms fe) := PS.imp (ps_asg he (pg_tup hc h hn hst) hs hw h1) fun E σ H h => by
  obtain ⟨F, env, own, S, h⟩ := h
  unfold sOwn at h
  refine tOf_use S (fun u env1 e1 v F1 H1 own1 p O1 => ?_) (fun c env1 e1 C F1 H1 own1 => ?_) (fun e1 => ?_)
  · rw [e1, R.bind_ok] at h
    match u, O1, h with
    | .w (.x (.t ws)), O1, h =>
      dsimp only at h
      by_cases hl : ws.length = n
      · rw [if_pos hl] at h
        obtain ⟨a, vs, rfl, hF, r⟩ := O1.r
        refine ⟨a, vs, rfl, SqT.of (O1.S.ex _ _ hF), by rw [r.length]; exact hl, F1, env1, own1, ws, p, O1.S, r, O1.d, ?_⟩
        cases e2 : ms ws env1 with
        | none => rw [e2] at h; exact h.elim
        | some env2 =>
          rw [e2] at h
          exact fun σ' H' own' y S' s' => h _ _ _ _ y ⟨S', O1.s.trans s'⟩
      · rw [if_neg hl] at h
        exact h.elim
    | .w (.x (.d _ _ _)), _, h => exact h.elim
    | .w (.x (.o _ _ _ _)), _, h => exact h.elim
    | .w (.v _), _, h => exact h.elim
    | .w (.l _ _), _, h => exact h.elim
    | .w (.m _ _), _, h => exact h.elim
    | .b _, _, h => exact h.elim
  · rw [e1] at h
    exact h C σ F1 H1 own1 Only.refl
  · rw [e1] at h
    exact h
end
end DL

namespace DL
open PySem PySem.Spec PyProof.Rows L2
/-! ### tests of what is read as it stands -/
theorem gOfG_of {K : PySem.W.Frag} {mg : Str → Option Value} {Wx : WX} {f : G} {σ : L2.St} {H : Hp} {Q : VK} (h : tOf K mg Wx (eG f) σ H Q) : gOfG K f σ H Q := by
  obtain ⟨F, env, own, S, h⟩ := h
  refine ⟨F, env, own, S, ?_⟩
  unfold eG at h
  cases e : f env with
  | none => rw [e] at h; exact h.elim
  | some w =>
    rw [e] at h
    exact fun v F' H' p g r => h v F' H' own p (g.out (OutR.refl S) r)
def tgOf (K : PySem.W.Frag) (f : G) : TT := fun σ H Q => gOfG K f σ H fun x H1 => ∃ c, x = .bl c ∧ Q c H1
abbrev TtG (X : Cx) (e : Expr) (f : G) : Prop := PT X e (tgOf X.K f)
section
variable {X : Cx} {Wx : WX} {a b c e : Expr} {fa fb f t : G} {ga gb : MG} {fv : DEnv → Option D} {g : List D → Option W} {pos : Pos} {op : CmpOp} {r : R2} {as bs : List Stmt}
theorem t_g (h : TtG X e f) : TtS X Wx e (tst (eG f)) := PT.imp h fun σ H Q q => gOfG_of (tOf_tst q)
theorem tg_val (h : EvG X e f) (he : ∀ whole, isTrue e X.env whole = (do let v ← whole; standAt e.pos; holding [v] (truthy v)) := by intro _; rfl) : TtG X e f := PT.imp (pt_val h he) fun σ H Q q => q
theorem tg_cmp (ho : OpR X (compareOp op) r) (cd : CaD X.K (r2 r) g) (ha : EvG X a fa) (hb : EvG X b fb) (hm : behindInMarks op b = false) : TtG X (.Compare a [op] [b] pos) (opG g [fa, fb]) :=
  PT.imp (pt_cmpR ho ha hb hm) fun σ H Q h => gOfG_mono (aOfG_2 (aOfG_op cd h)) fun _ _ q => gOfG_mono q fun _ _ z => r2_two z
theorem tg_cmpL (ho : OpR X (compareOp op) r) (cd : CaD X.K (r2 r) g) (ha : EvV X a fv) (hb : EvG X b fb) (hm : behindInMarks op b = false) : TtG X (.Compare a [op] [b] pos) (opV g fv [fb]) :=
  PT.imp (pt_cmpR ho ha hb hm) fun σ H Q h => vOf_mono (opV_sem cd h) fun _ _ q => gOfG_mono (aOfG_1 q) fun _ _ z => r2_two z
theorem tg_cmpR (ho : OpR X (compareOp op) r) (cd : CaD X.K (r2 r) g) (ha : EvG X a fa) (hb : EvV X b fv) (hm : behindInMarks op b = false) : TtG X (.Compare a [op] [b] pos) (opVr g fa fv) :=
  PT.imp (pt_cmpR ho ha hb hm) fun σ H Q h => gOfG_mono (opVr_sem cd h) fun _ _ q => vOf_mono q fun _ _ z => r2_two z
theorem sg_ifT (hc : TtG X c t) (ha : SsG X as ga) (hb : SsG X bs gb) : StG X (.If c as bs pos) (ifG t ga gb) := PS.imp (ps_if hc ha hb) fun E σ H h => by
  obtain ⟨F, env, own, S, h⟩ := h
  refine ⟨F, env, own, S, ?_⟩
  unfold ifG at h
  have key : ∀ (r : MG), (match r env with | some (some w) => ∀ v F' H' p, Grow F H F' H' p → RepW X.K F' H' v w p → E.rt v H' | some none => ∀ F' H', Grow F H F' H' (fun _ => False) → E.nx σ H' | none => False) → ∀ F1 H1, Grow F H F1 H1 (fun _ => False) → sgOf X.K r E σ H1 := fun r h F1 H1 g1 => by
    refine ⟨F1, env, own, g1.sit S, ?_⟩
    cases e2 : r env with
    | none => rw [e2] at h; exact h
    | some r2 =>
      rw [e2] at h
      cases r2 with
      | some w => exact fun v F' H' p g r => h v F' H' p (g1.trans g) r
      | none => exact fun F' H' g => h F' H' (g1.trans g)
  split at h
  case h_3 => exact h.elim
  all_goals
    rename_i heq
    split at heq
    · rename_i cc ht
      rw [ht]
      intro v F1 H1 p g1 rv
      obtain ⟨_, rv⟩ := rv
      cases rv
      refine ⟨cc, rfl, ?_⟩
      cases cc with
      | true =>
        rw [if_pos rfl] at heq ⊢
        exact key ga (by rw [heq]; exact h) F1 H1 g1.drop
      | false =>
        rw [if_neg Bool.false_ne_true] at heq ⊢
        exact key gb (by rw [heq]; exact h) F1 H1 g1.drop
    · cases heq
end
end DL

namespace DL
open PySem PySem.Spec PyProof.Rows L2
/-! ### telling what a body makes, by simp: things of classes -/
@[simp ↓] theorem eG_ap (f : G) (env : _) : eG f env = (match f env with
  | some w => .ok (.w w) env
  | none => .stuck : R U) := Eq.trans rfl rfl
@[simp ↓] theorem opG_ap (g : List D → Option W) (fs : List G) (env : _) : opG g fs env = (match evsG fs env with
  | some ws => match datWs ws with
    | some ds => g ds
    | none => none
  | none => none : Option W) := Eq.trans rfl rfl
@[simp ↓] theorem vG_ap (i : Nat) (env : _) : vG i env = (match env[i]? with
  | some (some (.v d)) => some (.v d)
  | _ => none : Option W) := Eq.trans rfl rfl
@[simp ↓] theorem fldV_ap (i : Nat) (c : Str) (ns : List Str) (j : Nat) (env : _) : fldV i c ns j env = ((fldW i c ns j env).map datW0 : Option D) := Eq.trans rfl rfl
@[simp ↓] theorem fG_ap (i : Nat) (c : Str) (ns : List Str) (j : Nat) (env : _) : fG i c ns j env = (match fldW i c ns j env with
  | some (.v d) => some (.v d)
  | _ => none : Option W) := Eq.trans rfl rfl
@[simp ↓] theorem opV_ap (g : List D → Option W) (fv : DEnv → Option D) (fs : List G) (env : _) : opV g fv fs env = (match fv env, evsG fs env with
  | some d, some ws => match datWs ws with
    | some ds => g (d :: ds)
    | none => none
  | _, _ => none : Option W) := Eq.trans rfl rfl
@[simp ↓] theorem opVr_ap (g : List D → Option W) (fa : G) (fv : DEnv → Option D) (env : _) : opVr g fa fv env = (match fa env, fv env with
  | some w, some d => if w.opq then none else g [datW w, d]
  | _, _ => none : Option W) := Eq.trans rfl rfl
@[simp ↓] theorem tupG_ap (fs : List G) (env : _) : tupG fs env = (match evsG fs env with
  | some ws => (match allV ws with
    | some ds => if ds.length ≤ 1000000 then some (.v (.tup ds)) else none
    | none => none)
  | none => none : Option W) := Eq.trans rfl rfl
@[simp ↓] theorem eAppF_ap (i : Nat) (c : Str) (ns : List Str) (j : Nat) (fe : G) (env : _) : eAppF i c ns j fe env = (match env[i]? with
  | some (some (.x (.o b c' ns' ws))) => if c' = c ∧ ns' = ns then (match ws[j]?, fe env with
    | some (.l ds), some w => if w.opq = false ∧ ds.length < 1000000 then .ok (.w (.v .non)) (env.set i (some (.x (.o b c ns (ws.set j (.l (ds ++ [datW w]))))))) else .stuck
    | _, _ => .stuck) else .stuck
  | _ => .stuck : R U) := Eq.trans rfl rfl
@[simp ↓] theorem sFldS_ap (i : Nat) (c : Str) (ns : List Str) (j : Nat) (fe : M U) (env : _) : sFldS i c ns j fe env = ((fe env).bind fun u e1 => match ownU e1 u with
  | some (w, e2) => (match storeF i c ns j w e2 with
    | some e3 => .ok .next e3
    | none => .stuck)
  | none => .stuck : R Fl) := Eq.trans rfl rfl
@[simp ↓] theorem sStoreX_ap (i : Nat) (fk : G) (fe : M U) (env : _) : sStoreX i fk fe env = ((fe env).bind fun u e1 => match frz1 e1 u with
  | some (d, e2) => (match fk e2 with
    | some (.v k) => (match putX i k d e2 with
      | some e3 => .ok .next e3
      | none => .stuck)
    | _ => .stuck)
  | none => .stuck : R Fl) := Eq.trans rfl rfl
@[simp ↓] theorem sStoreXF_ap (i : Nat) (c : Str) (ns : List Str) (j : Nat) (fk : G) (fe : M U) (env : _) : sStoreXF i c ns j fk fe env = ((fe env).bind fun u e1 => match frz1 e1 u with
  | some (d, e2) => (match fk e2 with
    | some (.v k) => (match putXF i c ns j k d e2 with
      | some e3 => .ok .next e3
      | none => .stuck)
    | _ => .stuck)
  | none => .stuck : R Fl) := Eq.trans rfl rfl
@[simp ↓] theorem eFldZ_ap (i : Nat) (c : Str) (ns : List Str) (j : Nat) (env : _) : eFldZ i c ns j env = (match frzF i c ns j env with
  | some (d, e) => .ok (.w (.v d)) e
  | none => .stuck : R U) := Eq.trans rfl rfl
@[simp ↓] theorem eTupMv_ap (is : List Nat) (env : _) : eTupMv is env = (match moves is env with
  | some (ws, e) => .ok (.w (.x (.t ws))) e
  | none => .stuck : R U) := Eq.trans rfl rfl
@[simp ↓] theorem sOwn_ap (n : Nat) (ms : MOs) (fe : M U) (env : _) : sOwn n ms fe env = ((fe env).bind fun u e1 => match u with
  | .w (.x (.t ws)) => if ws.length = n then (match ms ws e1 with
    | some e2 => .ok .next e2
    | none => .stuck) else .stuck
  | _ => .stuck : R Fl) := Eq.trans rfl rfl
@[simp ↓] theorem callMG_ap (c : Str) (ns : List Str) (g : GF) (i : Nat) (fs : List G) (env : _) : callMG c ns g i fs env = (match env[i]? with
  | some (some (.x (.o b c' ns' ws))) => if c' = c ∧ ns' = ns then (match evsG fs env with
    | some as => (match allV as with
      | some ds => g (.x (.o b c ns ws) :: ds.map .v)
      | none => none)
    | none => none) else none
  | _ => none : Option W) := Eq.trans rfl rfl
@[simp ↓] theorem callM_ap (c : Str) (ns : List Str) (g : List W → RF) (i : Nat) (ms : List (Option Nat)) (fs : List (M U)) (env : _) : callM c ns g i ms fs env = (match env[i]? with
  | some (some (.x (.o _ c' ns' _))) => if c' = c ∧ ns' = ns then callF g (some i :: ms) (eVar i :: fs) env else .stuck
  | _ => .stuck : R U) := Eq.trans rfl rfl
@[simp ↓] theorem callNew_ap (c : Str) (ns : List Str) (g : List W → RF) (fs : List (M U)) (env : _) : callNew c ns g fs env = ((evs fs env).bind fun us e1 => match frzs e1 us with
  | some (ds, e2) => (match g (.x (.o true c ns []) :: ds.map .v) with
    | .ok (.v .non) (.x (.o _ c' ns' ws) :: _) => .ok (.w (.x (.o false c' ns' ws))) e2
    | .raise cc _ => .raise cc e2
    | _ => .stuck)
  | none => .stuck : R U) := Eq.trans rfl rfl
@[simp ↓] theorem callTmp_ap (c : Str) (ns : List Str) (g : List W → RF) (fr : M U) (fs : List (M U)) (env : _) : callTmp c ns g fr fs env = ((fr env).bind fun u e0 => match u with
  | .w (.x (.o _ c' ns' ws)) => if c' = c ∧ ns' = ns then (evs fs e0).bind fun us e1 => (match frzs e1 us with
    | some (ds, e2) => (match g (.x (.o true c ns ws) :: ds.map .v) with
      | .ok w _ => .ok (.w w) e2
      | .raise cc _ => .raise cc e2
      | .stuck => .stuck)
    | none => .stuck) else .stuck
  | _ => .stuck : R U) := Eq.trans rfl rfl
@[simp ↓] theorem eCompG_ap (fv : DEnv → Option D) (vs : List Nat) (m : MT) (f : G) (env : _) : eCompG fv vs m f env = (match fv env with
  | some (.lst ds) => if dataAt env vs = true ∧ ds.length ≤ 1000000 then (compG vs m f ds (wipeA env vs)).map (.l false) else none
  | _ => none : Option W) := Eq.trans rfl rfl
@[simp ↓] theorem eXNew_ap (b : Bool) (env : _) : eXNew b env = (.ok (.w (.x (.d b [] []))) env : R U) := Eq.trans rfl rfl
@[simp ↓] theorem retG_ap (f : G) (env : _) : retG f env = ((f env).map some : Option (Option W)) := Eq.trans rfl rfl
@[simp ↓] theorem nextG_ap (env : DEnv) : nextG env = (some none : Option (Option W)) := Eq.trans rfl rfl
@[simp ↓] theorem seqG_ap (a b : MG) (env : _) : seqG a b env = (match a env with
  | some none => b env
  | r => r : Option (Option W)) := Eq.trans rfl rfl
@[simp ↓] theorem ifG_ap (t : G) (a b : MG) (env : _) : ifG t a b env = (match t env with
  | some (.v (.bl c)) => if c then a env else b env
  | _ => none : Option (Option W)) := Eq.trans rfl rfl
@[simp ↓] theorem mkG_ap (np nl : Nat) (f : MG) (ws : _) : mkG np nl f ws = (if ws.length = np then (match f (ws.map some ++ List.replicate (nl - np) none) with
  | some (some w) => some w
  | some none => some (.v .non)
  | none => none) else none : Option W) := Eq.trans rfl rfl
@[simp ↓] theorem cG_ap (d : D) (env : DEnv) : cG d env = (some (.v d) : Option W) := Eq.trans rfl rfl
@[simp ↓] theorem nameV_ap (i : Nat) (env : DEnv) : nameV i env = (dat env (.b i) : Option D) := Eq.trans rfl rfl
@[simp ↓] theorem fldW_ap (i : Nat) (c : Str) (ns : List Str) (j : Nat) (env : DEnv) : fldW i c ns j env = (match env[i]? with
  | some (some (.x (.o _ c' ns' ws))) => if c' = c ∧ ns' = ns then ws[j]? else none
  | _ => none : Option W0) := Eq.trans rfl rfl
@[simp ↓] theorem evsG_nil (env : DEnv) : evsG [] env = (some [] : Option (List W)) := Eq.trans rfl rfl
@[simp ↓] theorem evsG_cons (f : G) (fs : List G) (env : DEnv) : evsG (f :: fs) env = (match f env, evsG fs env with
    | some w, some ws => some (w :: ws)
    | _, _ => none : Option (List W)) := Eq.trans rfl rfl
@[simp] theorem datWs_nil : datWs [] = some [] := Eq.trans rfl rfl
@[simp] theorem datWs_cons (w : W) (ws : List W) : datWs (w :: ws) = (if w.opq then none else (datWs ws).map (datW w :: ·)) := Eq.trans rfl rfl
@[simp] theorem allV_nil : allV [] = some [] := Eq.trans rfl rfl
@[simp] theorem allV_cons (d : D) (ws : List W) : allV (.v d :: ws) = (allV ws).map (d :: ·) := Eq.trans rfl rfl
@[simp] theorem datW0_v (d : D) : datW0 (.v d) = d := Eq.trans rfl rfl
@[simp] theorem datW0_l (ds : List D) : datW0 (.l ds) = .lst ds := Eq.trans rfl rfl
@[simp] theorem datW0_d (k : Bool) (ks ds : List D) : datW0 (.d k ks ds) = .dix k ks ds := Eq.trans rfl rfl
@[simp] theorem toW0_v (d : D) : toW0 (.v d) = some (.v d) := Eq.trans rfl rfl
@[simp] theorem toW0_l (b : Bool) (ds : List D) : toW0 (.l b ds) = some (.l ds) := Eq.trans rfl rfl
@[simp] theorem toW0_d (k : Bool) (ks ds : List D) : toW0 (.x (.d k ks ds)) = some (.d k ks ds) := Eq.trans rfl rfl
@[simp] theorem upW_v (d : D) : upW (.v d) = .v d := Eq.trans rfl rfl
@[simp] theorem upW_l (ds : List D) : upW (.l ds) = .l false ds := Eq.trans rfl rfl
@[simp] theorem upW_d (k : Bool) (ks ds : List D) : upW (.d k ks ds) = .x (.d k ks ds) := Eq.trans rfl rfl
@[simp] theorem putFd_df (j : Nat) (w : W0) (ws : List W0) : putFd j w ws = (if j < ws.length then some (ws.set j w) else if j = ws.length then some (ws ++ [w]) else none) := Eq.trans rfl rfl
@[simp] theorem storeF_df (i : Nat) (c : Str) (ns : List Str) (j : Nat) (w : W) (env : DEnv) : storeF i c ns j w env = (match toW0 w, env[i]? with
  | some w0, some (some (.x (.o b c' ns' ws))) => if c' = c ∧ ns' = ns then (match putFd j w0 ws with
    | some ws' => some (env.set i (some (.x (.o b c ns ws'))))
    | none => none) else none
  | _, _ => none) := Eq.trans rfl rfl
@[simp] theorem frzF_df (i : Nat) (c : Str) (ns : List Str) (j : Nat) (env : DEnv) : frzF i c ns j env = (match env[i]? with
  | some (some (.x (.o b c' ns' ws))) => if c' = c ∧ ns' = ns then (match ws[j]? with
    | some w => some (datW0 w, env.set i (some (.x (.o b c ns (ws.set j (.v (datW0 w)))))))
    | none => none) else none
  | _ => none) := Eq.trans rfl rfl
@[simp] theorem moveW_df (env : DEnv) (i : Nat) : moveW env i = (match env[i]? with
  | some (some (.v d)) => some (.v d, env)
  | some (some (.l false ds)) => some (.l ds, env.set i none)
  | _ => none) := Eq.trans rfl rfl
@[simp] theorem moves_nil (env : DEnv) : moves [] env = some ([], env) := Eq.trans rfl rfl
@[simp] theorem moves_cons (i : Nat) (is : List Nat) (env : DEnv) : moves (i :: is) env = (match moveW env i with
    | some (w, e1) => (match moves is e1 with
      | some (ws, e2) => some (w :: ws, e2)
      | none => none)
    | none => none) := Eq.trans rfl rfl
@[simp ↓] theorem oName_ap (i : Nat) (w : W0) (env : DEnv) : oName i w env = (setS i (upW w) env : Option DEnv) := Eq.trans rfl rfl
@[simp ↓] theorem oFld_ap (i : Nat) (c : Str) (ns : List Str) (j : Nat) (w : W0) (env : DEnv) : oFld i c ns j w env = (storeF i c ns j (upW w) env : Option DEnv) := Eq.trans rfl rfl
@[simp ↓] theorem oNil_ap (env : DEnv) : oNil [] env = (some env : Option DEnv) := Eq.trans rfl rfl
@[simp ↓] theorem oCons_ap (m : MO) (ms : MOs) (w : W0) (ws : List W0) (env : DEnv) : oCons m ms (w :: ws) env = (match m w env with
    | some e => ms ws e
    | none => none : Option DEnv) := Eq.trans rfl rfl
@[simp] theorem putX_df (i : Nat) (k d : D) (env : DEnv) : putX i k d env = (match env[i]? with
  | some (some (.x (.d b ks ds))) => if okKey b k = true ∧ ds.length < 1000000 then some (env.set i (some (.x (.d b (dixK ks k) (dixD ks ds k d))))) else none
  | _ => none) := Eq.trans rfl rfl
@[simp] theorem putXF_df (i : Nat) (c : Str) (ns : List Str) (j : Nat) (k d : D) (env : DEnv) : putXF i c ns j k d env = (match env[i]? with
  | some (some (.x (.o bb c' ns' ws))) => if c' = c ∧ ns' = ns then (match ws[j]? with
    | some (.d b ks ds) => if okKey b k = true ∧ ds.length < 1000000 then some (env.set i (some (.x (.o bb c ns (ws.set j (.d b (dixK ks k) (dixD ks ds k d))))))) else none
    | _ => none) else none
  | _ => none) := Eq.trans rfl rfl
@[simp] theorem gXGet_c (b : Bool) (ks ds : List D) (k : D) : gXGet [.dix b ks ds, k] = (if okKey b k = true then (dixGet ks ds k).map .v else none) := Eq.trans rfl rfl
@[simp] theorem gXIn_c (b : Bool) (ks ds : List D) (k : D) : gXIn [k, .dix b ks ds] = (if okKey b k = true then some (.v (.bl (dixGet ks ds k).isSome)) else none) := Eq.trans rfl rfl
@[simp] theorem gXNotIn_c (b : Bool) (ks ds : List D) (k : D) : gXNotIn [k, .dix b ks ds] = (if okKey b k = true then some (.v (.bl (!(dixGet ks ds k).isSome))) else none) := Eq.trans rfl rfl
@[simp] theorem okKey_i (n : Int) : okKey true (.int n) = true := Eq.trans rfl rfl
@[simp] theorem okKey_t (l : List D) : okKey false (.tup l) = keyD (.tup l) := Eq.trans rfl rfl
/-- a comprehension that only adds, over what stands -/
theorem compG_map {α : Type} {enc ψ : α → D} {vs : List Nat} {m : MT} {f : G} {env : DEnv} : ∀ (xs : List α), (∀ x ∈ xs, ∃ e w, m (enc x) env = some e ∧ f e = some w ∧ w.opq = false ∧ datW w = ψ x ∧ wipeA e vs = env) → compG vs m f (xs.map enc) env = some (xs.map ψ)
  | [], _ => by rw [List.map_nil, compG]; rfl
  | x :: xs, h => by
    obtain ⟨e, w, h1, h2, h3, h4, h5⟩ := h x (List.mem_cons_self ..)
    rw [List.map_cons, compG, h1]
    dsimp only
    rw [h2]
    dsimp only
    rw [h3, if_neg Bool.false_ne_true, h5, compG_map xs fun y hy => h y (List.mem_cons_of_mem _ hy), Option.map_some, h4]
    rfl
end DL

namespace DL
open PySem PySem.Spec PyProof.Rows L2
/-! ### a def called, lists lent where they are one's own -/
def effM : List (Option Nat) → List U → List (Option Nat)
  | some _ :: ms, .w _ :: us => none :: effM ms us
  | m :: ms, _ :: us => m :: effM ms us
  | ms, [] => ms
  | [], _ => []
def callL (g : List W → RF) (ms : List (Option Nat)) (fs : List (M U)) : M U := fun env => match evs fs env with
  | .ok us _ => callF g (effM ms us) fs env
  | _ => callF g ms fs env
theorem effM_len : ∀ (ms : List (Option Nat)) (us : List U), (effM ms us).length = ms.length
  | some _ :: ms, .w _ :: us => by rw [effM, List.length_cons, List.length_cons, effM_len ms us]
  | some _ :: ms, .b _ :: us => by rw [effM, List.length_cons, List.length_cons, effM_len ms us]; simp
  | none :: ms, _ :: us => by rw [effM, List.length_cons, List.length_cons, effM_len ms us]; simp
  | [], [] => rfl
  | m :: ms, [] => by cases m <;> rfl
  | [], _ :: _ => rfl
theorem effM_sub : ∀ (ms : List (Option Nat)) (us : List U), ((effM ms us).filterMap id).Sublist (ms.filterMap id)
  | some i :: ms, .w _ :: us => by
    have := effM_sub ms us
    rw [effM]
    simpa using this.cons i
  | some i :: ms, .b _ :: us => by
    have := effM_sub ms us
    rw [effM]
    · simpa using this
    · simp
  | none :: ms, _ :: us => by
    have := effM_sub ms us
    rw [effM]
    · simpa using this
    · simp
  | [], [] => List.Sublist.refl _
  | m :: ms, [] => by cases m <;> exact List.Sublist.refl _
  | [], _ :: _ => List.Sublist.refl _
section
variable {X : Cx} {Wx : WX} {j k : Nat} {ps : List Str} {g : List W → RF} {x : Str} {p pos : Pos} {e : Expr} {es : List Expr} {fs : List (M U)} {ms : List (Option Nat)}
theorem callL_sem {K : PySem.W.Frag} {mg : Str → Option Value} {n : Nat} {σ : L2.St} {H : Hp} {Q : VK} (nd : (ms.filterMap id).Nodup) (hn : ms.length = n) (h : tOf K mg Wx (callL g ms fs) σ H Q) :
    aOf K mg Wx (evs fs) σ H fun vs H1 => spOf K mg n g (vs ++ []) H1 Q (fun c d H' => Wx c d σ H') := by
  obtain ⟨F, env, own, S, h⟩ := h
  unfold callL at h
  cases ev : evs fs env with
  | ok us e1 =>
    rw [ev] at h
    exact call_sem ((effM_sub ms us).nodup nd) ((effM_len ms us).trans hn) ⟨F, env, own, S, h⟩
  | raise c e1 =>
    rw [ev] at h
    exact call_sem nd hn ⟨F, env, own, S, h⟩
  | stuck =>
    rw [ev] at h
    exact call_sem nd hn ⟨F, env, own, S, h⟩
theorem e_callL (C : Cal X.prog X.w X.K X.mg X.base j x ps g) (tk : Takes X Wx) (hr : Room k X.A) (ha : EaS X Wx (e :: es) fs) (hjk : j ≤ k) (hg : Gl X x := by rfl)
    (nd : (ms.filterMap id).Nodup := by decide) (hn : ms.length = ps.length := by rfl) (hdb : (x == ("__debug__" : Str)) = false := by decide) (he : starEach (e :: es) X.env = (false, eval e X.env) :: starEach es X.env := by rfl) (hpl : (backTo pos (starEach es X.env)).any (·.1) = false := by rfl) :
    EvS X Wx (.Call (.Name x p) (e :: es) [] pos) (callL g ms fs) := by
  obtain ⟨f, fd, G, hm, hk, hb⟩ := C.ex
  exact PE.imp (pe_callSD (E := fun σ c d H' => Wx c d σ H') G (hr.mono hjk) hg hm hk hb .nil (fun σ => passAt tk σ) ha hdb he hpl) fun σ H Q h => callL_sem nd hn h
end
@[simp ↓] theorem callL_ap (g : List W → RF) (ms : List (Option Nat)) (fs : List (M U)) (env : DEnv) : callL g ms fs env = (match evs fs env with
  | .ok us _ => callF g (effM ms us) fs env
  | _ => callF g ms fs env : R U) := Eq.trans rfl rfl
@[simp] theorem effM_nil (us : List U) : effM [] us = [] := by cases us <;> rfl
@[simp] theorem effM_n (ms : List (Option Nat)) (u : U) (us : List U) : effM (none :: ms) (u :: us) = none :: effM ms us := by rw [effM]; simp
@[simp] theorem effM_w (i : Nat) (ms : List (Option Nat)) (w : W) (us : List U) : effM (some i :: ms) (.w w :: us) = none :: effM ms us := by rw [effM]
@[simp] theorem effM_b (i j : Nat) (ms : List (Option Nat)) (us : List U) : effM (some i :: ms) (.b j :: us) = some i :: effM ms us := by rw [effM]; simp
end DL

/-! sorted(d.keys()), the keys ints. -/
namespace DL
open PySem PySem.Spec PyProof.Rows L2
def VwO (p d : Addr) : HO := .ext fun h => PySem.W.KdlKeysView h p d
def tKeysV (td : TE) : TE := fun σ H Q => td σ H fun x H1 => ∃ d kvs, x = .ref d ∧ H1 d = some (.dK kvs) ∧ ∀ p, H1 p = none → Q (.ref p) (upd H1 p (VwO p d))
def rSortKV : List V → Hp → VK → Prop := fun vs H Q => ∃ (p d : Addr) (kk : List Int) (ws : List V), vs = [.ref p] ∧ H p = some (VwO p d) ∧ H d = some (.dK ((kk.map Sum.inl).zip ws)) ∧ ws.length = kk.length ∧
  ∀ (ns' : List Int) (q : Addr), ns'.Perm kk → ns'.Pairwise (· ≤ ·) → H q = none → Q (.ref q) (upd H q (.lst (ns'.map V.int)))
section
variable {X : Cx} {e : Expr} {td : TE} {apos cpos : Pos}
theorem pe_keysV (he : PE X e td) (hbase : attributeBase e "keys" X.env (eval e X.env) = eval e X.env := by rfl) (hline : (apos.endLine == cpos.line) = true := by rfl) : PE X (.Call (.Attribute e "keys" apos) [] [] cpos) (tKeysV td) := by
  refine ⟨fun pins s σ H Q I h => ?_⟩
  refine wpAny_Call_method (T := "dict") (id := "dict.keys") hbase rfl hline F.plainAttrs_dict F.slot_dict_keys F.type_dict_keys (thn (he.run pins s σ H _ I h) fun u s1 ⟨x, H1, I1, rx, d, kvs, ex, hd, q⟩ => ?_)
  subst ex
  obtain rfl : u = Value.ref d := rx
  obtain ⟨hz, hs, vs, kv, hm⟩ := I1.hok d _ hd
  refine ⟨hm.typeIs, hm.mapOf.noDict, ?_⟩
  have ok : ObjOk X.prog X.w (upd H1 s1.heap.objs.size (VwO s1.heap.objs.size d)) (s1.heap.push { cls := .type "dict_keys", data := .fields #[.ref d] }) s1.heap.objs.size (VwO s1.heap.objs.size d) := by
    refine ⟨⟨_, Heap.get?_push_size _ rfl, rfl, rfl⟩, ⟨_, Heap.get?_push_size _ rfl⟩, fun h1 h2 z k => ?_⟩
    obtain ⟨o, z1, z2⟩ := z
    exact ⟨o, k _ z1, z2⟩
  show wpAny _ _ (callWith cpos (.builtin "dict.keys") [.ref d] [] []) _ X.xe s1
  exact method_meetsIn F.slot_dict_keys F.entry_dict_keys rfl (PySem.evalArgs_none ⟨rfl, hm.typeIs, F.args_dict_keys_1 _, _, PySem.W.kdl_meets_keys (mixKind X.prog X.w) d hs, ⟨vs, hm⟩,
    ⟨.ref s1.heap.objs.size, _, I1.laid (a := s1.heap.objs.size) (o := VwO s1.heap.objs.size d) (t' := s1.toks) (fun _ _ q => Heap.get?_push_of_some _ q) (Nat.le_refl _) ok, rfl, q _ (I1.hok.fresh (Nat.le_refl _))⟩⟩)
theorem ints_of_get : ∀ {vs : List Value} {kk : List Int}, vs.length = kk.length → (∀ (j : Nat) (v : Value), vs[j]? = some v → ∃ k, kk[j]? = some k ∧ ∃ t, v = .int k t) → IntsAre vs kk
  | [], [], _, _ => .nil
  | v :: vs, k :: kk, h, h2 => by
    obtain ⟨k', e1, t, rfl⟩ := h2 0 v rfl
    cases e1
    exact .cons _ _ (ints_of_get (by simpa using h) fun j v hj => h2 (j + 1) v hj)
theorem kv_keys : ∀ {kvs : List (Key × V)} {xs : List (Key × Value)}, KV kvs xs → xs.map (·.1) = kvs.map (·.1)
  | _, _, .nil => rfl
  | _, _, .cons h t => by rw [List.map_cons, List.map_cons, kv_keys t, h.1]
theorem cr_sortKV (hc : X.calm = true) : CallR X (.builtin "sorted") rSortKV := by
  intro pins s σ H vs us Q I r h
  obtain ⟨p, d, kk, ws, rfl, hp, hd, hl, q⟩ := h
  rw [Vals.ref1 r]
  obtain ⟨hv, _, _⟩ := I.hok p _ hp
  obtain ⟨hz, hs, xs, kv, hm⟩ := I.hok d _ hd
  obtain ⟨ep, hat⟩ := hm.dictAt
  have hxl : xs.length = kk.length := by
    have := Paired.length kv
    rw [List.length_zip, List.length_map, hl, Nat.min_self] at this
    exact this.symm
  have hn : xs.length ≤ sizeLine := by
    rw [List.length_zip, List.length_map, hl, Nat.min_self] at hz
    rw [hxl]; exact hz
  refine PySem.Calls.call_function_entry kind_sorted plain_sorted entry_sorted (args_sorted1 _) ?_
  unfold Builtin.«sorted»
  refine wpAny_bind (m := checkCount "sorted" 1 1 _) (wpAny_pure ?_)
  refine wpAny_bind (PySem.W.kdu_collect (A := X.A.in1) (PySem.W.kdl_keys (knd := mixKind X.prog X.w) (r := p) (d := d) (kvs := xs) (ep := ep)) (I.ok.hd hc) ⟨hv, hat⟩ hn fun h' tk acc hk hacc => ?_)
  have hal : acc.toList.length = kk.length := by rw [Array.length_toList, hacc.1, hxl]
  have hi : IntsAre acc.toList kk := ints_of_get hal fun j v hj => by
    obtain ⟨k, x, h1, h2⟩ := hacc.2 j v (by rw [← Array.getElem?_toList]; exact hj)
    have e1 := kv_keys kv
    rw [List.map_fst_zip (by rw [List.length_map, hl]; exact Nat.le_refl _)] at e1
    have e2 : (kk.map (Sum.inl : Int → Key))[j]? = some k := by rw [← e1, List.getElem?_map, h1]; rfl
    rw [List.getElem?_map] at e2
    obtain ⟨i, h3, rfl⟩ := Option.map_eq_some_iff.mp e2
    rcases keyIs_shape (k := Sum.inl i) (v := v) h2 with ⟨i', t, e3, e4⟩ | ⟨x', t, e3, e4⟩
    · cases e3
      exact ⟨i, h3, t, e4⟩
    · cases e3
  refine wpAny_bind (wpAny_newList ?_ (by rw [hal, ← hxl]; exact hn))
  have hoL : (h'.push { cls := .type "list", data := .seq acc.toList.toArray }).get? h'.objs.size = some (seqObj "list" acc.toList.toArray 0) := Heap.get?_push_size _ rfl
  refine wpAny_bind (wpAny_holding (wpAny_call_entry PyProof.Rows.slot_list_sort ⟨_, hoL, rfl⟩ PyProof.Rows.entry_list_sort (SrtO.list_sort_ord SrtO.swo_int hoL (by rw [hal, ← hxl]; exact hn) (fun h2 => SrtO.ints_sortable hi h2) fun out h1 h2 => ⟨_, rfl, ?_⟩) (PyProof.Rows.args_list_sort _)))
  refine wpAny_pure ⟨_, rfl, ?_⟩
  obtain ⟨k1, k2, k3⟩ := SrtO.ints_out hi h1 h2
  obtain ⟨ep', he'⟩ := PyProof.Rows.sortedHeap_at (vs := acc.toList) (out := out.toArray) hoL
  have hlen : ((out.map SrtO.iv).map V.int).length ≤ sizeLine := by
    rw [List.length_map, k2.length_eq, ← hxl]
    exact hn
  have I2 : Inv X pins σ H { s with heap := h', toks := tk } := I.kept hk
  exact ⟨.ref h'.objs.size, upd H h'.objs.size (.lst ((out.map SrtO.iv).map V.int)), I2.laid (t' := tk) (fun b o this => by
    rw [PyProof.Rows.sortedHeap_old (Nat.ne_of_lt (Heap.lt_size this)) (Nat.lt_of_lt_of_le (Heap.lt_size this) (by rw [Heap.size_push]; exact Nat.le_succ _))]
    exact Heap.get?_push_of_some _ this) (Nat.le_refl _) ⟨hlen, out, ep', vals_of_ints k1, he'⟩, rfl, q _ _ k2 k3 (I2.hok.fresh (Nat.le_refl _))⟩
end
def gSortK : List D → Option W
  | [.dix true ks ds] => (intsOf ks).map fun ns => .l false ((sortI ns).map D.int)
  | _ => none
def rSortKD : V → Hp → VK → Prop := fun x H Q => ∃ d kvs, x = .ref d ∧ H d = some (.dK kvs) ∧ ∀ p, H p = none → rSortKV [.ref p] (upd H p (VwO p d)) Q
theorem cd_sortK {K : PySem.W.Frag} : CaD K (r1 rSortKD) gSortK := by
  intro F H vs ds w Q e vw hg q
  unfold gSortK at hg
  split at hg
  · rename_i ks dd
    obtain ⟨x, rfl, hx⟩ := vw.one
    obtain ⟨ns, h1, rfl⟩ := Option.map_eq_some_iff.mp hg
    obtain ⟨a, o, us, ws, rfl, h2, ⟨kk, rfl, rfl, hl, rfl⟩, r1, r2⟩ := hx
    have en : kk = ns := by
      have := intsOf_eq h1
      exact (List.map_inj_right (f := D.int) (fun x y h => by injection h)).mp this
    subst en
    refine ⟨_, rfl, a, _, rfl, h2, fun p hp => ⟨p, a, kk, ws, rfl, upd_same, ?_, hl, fun ns' q' hpm hs hn => ?_⟩⟩
    · rw [upd_ne (fun z => by subst z; rw [h2] at hp; cases hp)]
      exact h2
    · have e2 : ns' = sortI kk := sorted_uniq hs (sortI_sorted kk) (hpm.trans (sortI_perm kk).symm)
      subst e2
      have g1 : Grow F H F (upd H p (VwO p a)) (fun _ => False) := ⟨Same.refl _, fun b o hb => by rw [upd_ne (fun z => by subst z; rw [hb] at hp; cases hp)]; exact hb, fun b o hb => by
        have hb2 := e _ _ hb
        rw [upd_ne (fun z => by subst z; rw [hb2] at hp; cases hp)]; exact hb2, fun b o h n => (by rw [h] at n; cases n), fun _ h => h.elim⟩
      have back : ∀ b, upd H p (VwO p a) b = none → H b = none := fun b this => by
        cases hb : H b with
        | none => rfl
        | some o' => rw [g1.exH _ _ hb] at this; cases this
      exact fin_lst g1.sub (RepDs.of_ints _) (fun v F' H' pp gr rr => q v F' H' pp ⟨gr.exF, g1.exH.trans gr.exH, gr.sub, fun b o h n => back b (gr.fr b o h n), fun b hb => back b (gr.np b hb)⟩ rr) q' hn
  · cases hg
section
variable {X : Cx} {Wx : WX} {e : Expr} {fe : M U} {apos cpos p pos : Pos}
theorem e_sortK (hc : X.calm = true) (hg : Gl X "sorted") (hm : X.mg "sorted" = none) (he : EvS X Wx e fe) (hbase : attributeBase e "keys" X.env (eval e X.env) = eval e X.env := by rfl) (hline : (apos.endLine == cpos.line) = true := by rfl)
    (hs : starEach [Expr.Call (.Attribute e "keys" apos) [] [] cpos] X.env = [(false, eval (.Call (.Attribute e "keys" apos) [] [] cpos) X.env)] := by rfl) :
    EvS X Wx (.Call (.Name "sorted" p) [.Call (.Attribute e "keys" apos) [] [] cpos] [] pos) (opN gSortK [fe]) :=
  PE.imp (pe_callB (cr_sortKV hc) hg hm (by decide +kernel) (pa_cons (pe_keysV he hbase hline) pa_nil hs) (he := hs)) fun σ H Q h =>
    tOf_mono (aOf_1 (aOf_op cd_sortK h)) fun x H1 z => by
      obtain ⟨d, kvs, ex, hd, z⟩ := r1_one z
      exact ⟨d, kvs, ex, hd, fun p hp => z p hp⟩
end
end DL

/-! zip in a for, abs, max of a tuple of ints. -/
namespace DL
open PySem PySem.Spec PyProof.Rows L2
section
variable {prog : Program} {w : World} {A : Around} {E : Value → Shared → Prop} {s : Shared} {l : Addr}
theorem max_intTup {xs : Array (Int × Tok)} {Q : Value → Shared → Prop} (hh : A.handled = none) (hl : s.heap.IsTuple l (intItems xs)) (hne : 0 < xs.size)
    (h : ∀ v h' tk, (intItems xs)[argBest (fun i j => decide (numAt xs i > numAt xs j)) (xs.size - 1)]? = some v → (∀ b o, s.heap.get? b = some o → h'.get? b = some o) → Q v { s with heap := h', toks := tk }) :
    wpAny (model prog w) A (call (.builtin "max") [.ref l]) Q E s := by
  have hlt : l < s.heap.objs.size := by obtain ⟨_, e, _⟩ := hl; exact Heap.lt_size e
  refine call_max_walk (wpAny_pyIter_tuple hl ?_)
  refine ⟨_, [s.heap.objs.size, l], [s.heap.objs.size], _, _, _, _, rfl, Walks.tuple (A := A.in1) hh _ l (Nat.ne_of_lt hlt) (intItems xs), ⟨⟨_, Heap.get?_push_size _ rfl, rfl, rfl⟩, hl.push _⟩, fun b hb => ?_, by simpa [intItems] using hne, CmpOf.ints_gt (numAt xs) (fun _ _ => intItems_at), fun v h' tk hP hk => ?_⟩
  · show b < (s.heap.push _).objs.size
    rw [Heap.size_push]
    rcases List.mem_cons.mp hb with rfl | hb
    · exact Nat.lt_succ_self _
    · rcases List.mem_cons.mp hb with rfl | hb
      · exact Nat.lt_succ_of_lt hlt
      · cases hb
  · refine h v h' tk (by simpa [intItems] using hP) fun d o e => ?_
    refine hk d o (fun hm => ?_) (Heap.get?_push_of_some _ e)
    rcases List.mem_cons.mp hm with e1 | hm
    · have := Heap.lt_size e; rw [e1] at this; exact Nat.lt_irrefl _ this
    · cases hm
theorem max_rawT {its : List Value} {ns : List Int} {Q : Value → Shared → Prop} (hh : A.handled = none) (hl : s.heap.IsTuple l its.toArray) (hi : IntsAre its ns) (hne : 0 < ns.length)
    (h : ∀ h' tk M t', (∀ b o, s.heap.get? b = some o → h'.get? b = some o) → M ∈ ns → (∀ a, a ∈ ns → a ≤ M) → Q (.int M t') { s with heap := h', toks := tk }) : wpAny (model prog w) A (call (.builtin "max") [.ref l]) Q E s := by
  obtain ⟨xs, e⟩ := hi.allInts.items
  have hn : numsOf (intItems xs).toList = ns := by rw [← e]; exact hi.numsOf
  rw [nums_intItems] at hn
  subst hn
  rw [e] at hl
  have hsz : 0 < xs.size := by simpa using hne
  refine max_intTup hh hl hsz fun v h' tk hv hk => ?_
  obtain ⟨t, rfl⟩ := intItems_at hv
  obtain ⟨h1, h2⟩ := argBest_gt (numAt xs) (xs.size - 1)
  refine h h' tk _ t hk ?_ fun a ha => ?_
  · rw [numAt_eq]; exact PySem.getD_mem (by rw [List.length_map, Array.length_toList]; omega)
  · obtain ⟨j, hj, rfl⟩ := mem_getD ha
    rw [List.length_map, Array.length_toList] at hj
    rw [← numAt_eq]; exact h2 j (by omega)
end
section
variable {X : Cx} {K : PySem.W.Frag}
def rMaxT (K : PySem.W.Frag) : List V → Hp → VK → Prop := fun vs H Q => ∃ (a : Addr) (ns : List Int), vs = [V.ref a] ∧ SqT K H a (ns.map V.int) ∧ 0 < ns.length ∧ ∀ m, m ∈ ns → (∀ y, y ∈ ns → y ≤ m) → Q (.int m) H
theorem cr_maxT (hc : X.calm = true) : CallR X (.builtin "max") (rMaxT X.K) := by
  intro pins s σ H vs us Q I r h
  obtain ⟨a, ns, rfl, hs, hne, q⟩ := h
  obtain ⟨its, rv, hl, _⟩ := I.tuple hs
  rw [Vals.ref1 r]
  exact max_rawT (I.ok.hd hc) hl rv.ints hne fun h' tk m t' hk h1 h2 => ⟨.int _, H, I.kept hk, ⟨_, rfl⟩, q m h1 h2⟩
def gMaxT : List D → Option W
  | [.tup ds] => match intsOf ds with
    | some (n :: ns) => some (.v (.int (imax (n :: ns))))
    | _ => none
  | _ => none
theorem cd_maxT : CaD K (rMaxT K) gMaxT := by
  intro F H vs ds w Q e vw hg q
  unfold gMaxT at hg
  split at hg
  · obtain ⟨x, rfl, hx⟩ := vw.one
    split at hg
    · rename_i n ns h1
      cases hg
      have hx : RepD K F x (.tup _) := hx
      cases hx with
      | tup h2 r =>
        rw [intsOf_eq h1] at r
        have := r.ints
        subst this
        refine ⟨_, n :: ns, rfl, SqT.of (e _ _ h2), by simp, fun m hm hx => ?_⟩
        obtain ⟨s1, s2⟩ := imax_spec n ns
        have em : m = imax (n :: ns) := Int.le_antisymm (s2 m hm) (hx _ s1)
        rw [em]
        exact fin_int e q
    · cases hg
  · cases hg
def gAbs : List D → Option W
  | [.int i] => some (.v (.int (if i < 0 then -i else i)))
  | _ => none
theorem cd_abs : CaD K (fun xs H Q => ∃ i, xs = [.int i] ∧ Q (.int (if i < 0 then -i else i)) H) gAbs := by
  intro F H vs ds w Q e vw hg q
  unfold gAbs at hg
  split at hg
  · rename_i i
    obtain ⟨x, rfl, hx⟩ := vw.one
    cases hg
    exact ⟨i, by rw [hx.int], fin_int e q⟩
  · cases hg
end
/-! zip -/
def pairs2 (xs ys : List D) : List D := (xs.zip ys).map fun q => .tup [q.1, q.2]
def zipD : List D → Option (List D)
  | [.lst xs, .lst ys] => some (pairs2 xs ys)
  | [.tup xs, .tup ys] => some (pairs2 xs ys)
  | _ => none
def iterZip (f g : M U) : M (List D) := fun env => (evs [f, g] env).bind fun us e1 => match frzs e1 us with
  | some (ds, e2) => (match zipD ds with
    | some ps => .ok ps e2
    | none => .stuck)
  | none => .stuck
theorem pairs2_get {xs ys : List D} {i : Nat} {d : D} (h : (pairs2 xs ys)[i]? = some d) : ∃ x y, xs[i]? = some x ∧ ys[i]? = some y ∧ d = .tup [x, y] := by
  unfold pairs2 at h
  rw [List.getElem?_map] at h
  obtain ⟨q, h1, rfl⟩ := Option.map_eq_some_iff.mp h
  rw [List.getElem?_zip_eq_some] at h1
  exact ⟨q.1, q.2, h1.1, h1.2, rfl⟩
theorem pairs2_len (xs ys : List D) : (pairs2 xs ys).length = min xs.length ys.length := by unfold pairs2; simp
theorem feeds_zl {K : PySem.W.Frag} {F0 : Hp} {a b : Addr} {vs ws : List V} {xs ys : List D} (h : Rd F0 a (.lst vs)) (r : RepDs K F0 vs xs) (h' : Rd F0 b (.lst ws)) (r' : RepDs K F0 ws ys) : Feeds K (Itz K a b) F0 (pairs2 xs ys) where
  go := fun F H i e1 e2 hi => by
    rw [pairs2_len] at hi
    have hv : i < vs.length := by rw [r.length]; omega
    have hw : i < ws.length := by rw [r'.length]; omega
    exact ⟨vs, ws, vs[i], ws[i], .inl (sameL (e1.trans e2) h), .inl (sameL (e1.trans e2) h'), List.getElem?_eq_getElem hv, List.getElem?_eq_getElem hw⟩
  yld := fun F H i x H' d e1 e2 hd y => by
    obtain ⟨T, x, z, rfl, nT, rfl, y1, y2⟩ := y
    obtain ⟨dx, dy, hx, hy, rfl⟩ := pairs2_get hd
    obtain ⟨v, h1, h2⟩ := r.get hx
    obtain ⟨v', h1', h2'⟩ := r'.get hy
    have t1 := y1 vs (.inl (sameL (e1.trans e2) h))
    rw [h1] at t1
    cases t1
    have t2 := y2 ws (.inl (sameL (e1.trans e2) h'))
    rw [h1'] at t2
    cases t2
    exact ⟨upd F T (.tup [x, z]), Grow.data e2 nT, .tup upd_same (.cons ((h2.mono e1).mono (same_upd (sub_none e2 nT))) (.cons ((h2'.mono e1).mono (same_upd (sub_none e2 nT))) .nil))⟩
  stop := fun F H e1 e2 => ⟨vs, ws, .inl (sameL (e1.trans e2) h), .inl (sameL (e1.trans e2) h'), by rw [pairs2_len, r.length, r'.length]; omega⟩
theorem feeds_zt {K : PySem.W.Frag} {F0 : Hp} {a b : Addr} {vs ws : List V} {xs ys : List D} (h : SqT K F0 a vs) (r : RepDs K F0 vs xs) (h' : SqT K F0 b ws) (r' : RepDs K F0 ws ys) : Feeds K (RZ.ItzT K a b) F0 (pairs2 xs ys) where
  go := fun F H i e1 e2 hi => by
    rw [pairs2_len] at hi
    have hv : i < vs.length := by rw [r.length]; omega
    have hw : i < ws.length := by rw [r'.length]; omega
    exact ⟨vs, ws, vs[i], ws[i], sameT (e1.trans e2) h, sameT (e1.trans e2) h', List.getElem?_eq_getElem hv, List.getElem?_eq_getElem hw⟩
  yld := fun F H i x H' d e1 e2 hd y => by
    obtain ⟨T, x, z, rfl, nT, rfl, y1, y2⟩ := y
    obtain ⟨dx, dy, hx, hy, rfl⟩ := pairs2_get hd
    obtain ⟨v, h1, h2⟩ := r.get hx
    obtain ⟨v', h1', h2'⟩ := r'.get hy
    have t1 := y1 vs (sameT (e1.trans e2) h)
    rw [h1] at t1
    cases t1
    have t2 := y2 ws (sameT (e1.trans e2) h')
    rw [h1'] at t2
    cases t2
    exact ⟨upd F T (.tup [x, z]), Grow.data e2 nT, .tup upd_same (.cons ((h2.mono e1).mono (same_upd (sub_none e2 nT))) (.cons ((h2'.mono e1).mono (same_upd (sub_none e2 nT))) .nil))⟩
  stop := fun F H e1 e2 => ⟨vs, ws, sameT (e1.trans e2) h, sameT (e1.trans e2) h', by rw [pairs2_len, r.length, r'.length]; omega⟩
section
variable {X : Cx} {Wx : WX} {e e' : Expr} {f g : M U} {pos p tpos : Pos}
theorem i_zip {elts : List Expr} {kk : Nat} (hg : Gl X "zip") (hm : X.mg "zip" = none) (ha : EaS X Wx [e, e'] [f, g]) (hs : starEach [e, e'] X.env = (false, eval e X.env) :: starEach [e'] X.env := by rfl) (hpl : (backTo pos (starEach [e'] X.env)).any (·.1) = false := by rfl) : ItS X Wx (.Tuple elts kk tpos) (.Call (.Name "zip" p) [e, e'] [] pos) (iterZip f g) :=
  PI.imp (RZ.pi_zipA hg hm ha hs hpl) fun σ H RR h => by
  obtain ⟨F, env, own, S, h⟩ := h
  refine ⟨F, env, own, S, ?_⟩
  unfold iterZip at h
  cases ee : evs [f, g] env with
  | stuck => rw [ee] at h; exact h
  | raise c env1 => rw [ee] at h; exact h
  | ok us env1 =>
    rw [ee, R.bind_ok] at h
    intro vs F1 H1 own1 p O
    cases e1 : frzs env1 us with
    | none => rw [e1] at h; exact h.elim
    | some pr =>
      obtain ⟨ds, e2⟩ := pr
      rw [e1] at h
      obtain ⟨F2, own2, r2, O2⟩ := O.frz (F2 := F) e1
      dsimp only at h
      cases ez : zipD ds with
      | none => rw [ez] at h; exact h.elim
      | some ps =>
        rw [ez] at h
        dsimp only at h
        unfold zipD at ez
        split at ez
        · cases ez
          cases r2 with
          | cons ra rb =>
            cases rb with
            | cons rb rc =>
              cases rc
              cases ra with
              | lst q1 s1 =>
                cases rb with
                | lst q2 s2 => exact ⟨_, _, _, _, rfl, .inl ⟨.inl (sameL O2.S.ex q1), .inl (sameL O2.S.ex q2), h _ _ _ _ O2 (feeds_zl q1 s1 q2 s2)⟩⟩
        · cases ez
          cases r2 with
          | cons ra rb =>
            cases rb with
            | cons rb rc =>
              cases rc
              cases ra with
              | tup q1 s1 =>
                cases rb with
                | tup q2 s2 => exact ⟨_, _, _, _, rfl, .inr ⟨SqT.of (O2.S.ex _ _ q1), SqT.of (O2.S.ex _ _ q2), h _ _ _ _ O2 (feeds_zt (SqT.of q1) s1 (SqT.of q2) s2)⟩⟩
        · cases ez
end
@[simp ↓] theorem iterZip_ap (f g : M U) (env : DEnv) : iterZip f g env = ((evs [f, g] env).bind fun us e1 => match frzs e1 us with
  | some (ds, e2) => (match zipD ds with
    | some ps => .ok ps e2
    | none => .stuck)
  | none => .stuck : R (List D)) := Eq.trans rfl rfl
@[simp] theorem gAbs_c (i : Int) : gAbs [.int i] = some (.v (.int (if i < 0 then -i else i))) := Eq.trans rfl rfl
end DL

/-! d.get(k, []), d a name, its keys tuples. -/
namespace DL
open PySem PySem.Spec PyProof.Rows L2
def tXGetL (td ty : TE) : TE := fun σ H Q => td σ H fun x H1 => ∃ a xs0, x = .ref a ∧ XDict H1 a xs0 ∧ ty σ H1 fun y H2 => ∀ p, H2 p = none → ∃ b k xs, y = .ref b ∧ XDict (upd H2 p (.lst [])) a xs ∧ KeyAt (upd H2 p (.lst [])) k b ∧
  (match atKey xs k with
    | some q => ∃ v, RelV v q.2 ∧ Q v (upd H2 p (.lst []))
    | none => Q (.ref p) (upd H2 p (.lst [])))
section
variable {X : Cx} {o e : Expr} {td ty : TE} {apos cpos lp : Pos}
theorem pe_xgetL (hu : X.A.units + 65 < cLine) (ho : PE X o td) (he : PE X e ty) (m : M2 X o "get" apos e (.List [] lp) cpos) : PE X (.Call (.Attribute o "get" apos) [e, .List [] lp] [] cpos) (tXGetL td ty) := by
  refine ⟨fun pins s σ H Q I h => ?_⟩
  refine wpAny_Call_method m.base m.few m.line PySem.F.plainAttrs_dict PySem.F.slot_dict_get PySem.F.type_dict_get (thn (ho.run pins s σ H _ I h) fun u s1 ⟨x, H1, I1, rx, a, xs0, ex, d, q1⟩ => ?_)
  subst ex
  obtain rfl : u = Value.ref a := rx
  obtain ⟨h0, dd⟩ := d.ok I1
  refine ⟨dd.typeIs, ?_, ?_⟩
  · obtain ⟨o, es, ep, h1, h2, _⟩ := dd
    exact fun a' e' => by
      cases e'
      exact ⟨o, h1, h2.2.1⟩
  rw [m.trees]
  refine Calls.callWith_builtin rfl (Calls.evalArgs_plain (Calls.spliced_cons (thn (he.run pins s1 σ H1 _ I1 q1) fun iv s2 ⟨y, H2, I2, ry, q2⟩ =>
    Calls.spliced_cons (thn ((pe_lst (pos := lp) pa_nil).run pins s2 σ H2 (fun z H3 => ∃ p, z = .ref p ∧ H2 p = none ∧ H3 = upd H2 p (.lst [])) I2 ⟨Nat.zero_le _, fun p hp => ⟨p, rfl, hp, rfl⟩⟩) fun fv s3 ⟨z, H3, I3, rz, p, ez, hp, e3⟩ => Calls.spliced_nil ?_))))
  subst ez e3
  obtain rfl : fv = Value.ref p := rz
  obtain ⟨b, k, xs, ey, hd, hk, q⟩ := q2 p hp
  subst ey
  obtain rfl : iv = Value.ref b := ry
  obtain ⟨h0', dd'⟩ := hd.ok I3
  refine call_meetsIn PySem.F.slot_dict_get dd'.typeIs PySem.F.entry_dict_get (PySem.F.args_dict_get_3 _ _ _) (meetsH_dict_get_default (nestedKind X.prog X.w) a b h0' (.ref p)) ⟨room8 hu, k, xs, hk.1 _ _ _ I3.hok, dd', ?_⟩
  cases c : atKey xs k with
  | none =>
    rw [c] at q
    exact ⟨.ref p, _, I3.tok _, rfl, q⟩
  | some qq =>
    rw [c] at q
    obtain ⟨v, rv, q⟩ := q
    exact ⟨v, _, I3.tok _, rv, q⟩
end
def getXD (i : Nat) (env : DEnv) : Option (List D × List D) := match env[i]? with
  | some (some (.x (.d false ks ds))) => some (ks, ds)
  | _ => none
theorem getXD_some {i : Nat} {env : DEnv} {ks ds : List D} (h : getXD i env = some (ks, ds)) : env[i]? = some (some (.x (.d false ks ds))) := by
  unfold getXD at h
  split at h
  · rename_i k d hw
    cases h
    exact hw
  · cases h
def eGetL (i : Nat) (fk : G) : M U := fun env => match getXD i env with
  | some (ks, ds) => (match fk env with
    | some (.v k) => if okKey false k = true then .ok (.w (.v ((dixGet ks ds k).getD (.lst [])))) env else .stuck
    | _ => .stuck)
  | none => .stuck
section
variable {X : Cx} {Wx : WX} {e : Expr} {fk : G} {i : Nat} {x : Str} {p1 apos cpos lp : Pos}
theorem e_getL (hu : X.A.units + 65 < cLine) (hk : EvG X e fk) (hN : X.N[i]? = some x := by rfl) (hv : Vis X.env.scope x := by first | exact Or.inl rfl | exact Or.inr (Or.inl rfl) | exact Or.inr (Or.inr rfl)) (hd : (x == ("__debug__" : Str)) = false := by decide) (hcd : (x == ("__classdict__" : Str)) = false := by decide)
    (m : M2 X (.Name x p1) "get" apos e (.List [] lp) cpos := by exact ⟨by rfl, by rfl, by rfl, by rfl⟩) : EvS X Wx (.Call (.Attribute (.Name x p1) "get" apos) [e, .List [] lp] [] cpos) (eGetL i fk) :=
  PE.imp (pe_xgetL hu (pe_var hN hv hd hcd) hk m) fun σ H Q h => by
  obtain ⟨F, env, own, S, h⟩ := h
  unfold eGetL at h
  cases e0 : getXD i env with
  | none => rw [e0] at h; exact h.elim
  | some pr =>
    obtain ⟨ks, ds⟩ := pr
    rw [e0] at h
    dsimp only at h
    have hw := getXD_some e0
    cases e3 : fk env with
    | none => rw [e3] at h; exact h.elim
    | some wk =>
      rw [e3] at h
      cases wk with
      | l _ _ => exact h.elim
      | m _ _ => exact h.elim
      | x _ => exact h.elim
      | v kd =>
        dsimp only at h
        by_cases hok : okKey false kd = true
        · rw [if_pos hok] at h
          obtain ⟨vv, hvv, a, o, us, vs, rfl, hp, hH, hF, ⟨xs, rfl, rfl, hvs, hks, hall⟩, ru, rv⟩ := S.rep i _ hw
          refine ⟨.ref a, hvv, a, xs, rfl, nd_view S.ex hH ru hks hall, ?_⟩
          refine ⟨F, env, own, S, ?_⟩
          rw [e3]
          intro y F3 H3 pk gr rk p hpn
          have S3 := gr.sit S
          obtain ⟨vv3, hvv3, a3, o3, us3, vs3, ev3, hp3, hH3, hF3, ⟨xs3, rfl, rfl, hvs3, hks3, hall3⟩, ru3, rv3⟩ := S3.rep i _ hw
          rw [hvv] at hvv3
          cases hvv3
          cases ev3
          have gd : Grow F3 H3 (upd F3 p (.lst [])) (upd H3 p (.lst [])) (fun _ => False) := Grow.data gr.sub hpn
          have hHp : upd H3 p (.lst []) a = some (NdO a xs3) := by rw [upd_ne (fun z => by subst z; rw [hH3] at hpn; cases hpn)]; exact hH3
          have rk2 : RepD X.K (upd F3 p (.lst [])) y kd := rk.2.mono gd.exF
          obtain ⟨bb, rfl, kat, _⟩ := key_view gd.sub (View.of gd.sub rk2) (okKey_f hok)
          refine ⟨bb, keyOf kd, xs3, rfl, nd_view gd.sub hHp (ru3.mono gd.exF) hks3 hall3, kat, ?_⟩
          have xg := x_get kd hvs3 rv3 hks3
          have out : ∀ v d, RepD X.K (upd F3 p (.lst [])) v d → (dixGet ks ds kd).getD (.lst []) = d → Q v (upd H3 p (.lst [])) := fun v d rd ed => by
            rw [ed] at h
            have g2 : Grow F H (upd F3 p (.lst [])) (upd H3 p (.lst [])) (fun _ => False) := ⟨gr.exF.trans gd.exF, gr.exH.trans gd.exH, gd.sub, fun b ob hb nb => by
              cases hc : F3 b with
              | none => 
                have := gd.fr b ob hb hc
                cases hc2 : H b with
                | none => rfl
                | some oo => rw [gr.exH _ _ hc2] at this; cases this
              | some oo => exact gr.fr b oo hc nb, fun _ z => z.elim⟩
            exact h v _ _ _ _ (g2.out (OutR.refl S) (RepW.ofRep rd))
          cases c : dixGet ks ds kd with
          | none =>
            rw [c] at xg
            rw [xg]
            exact out (.ref p) (.lst []) (.lst (.inl upd_same) .nil) (by rw [c]; rfl)
          | some d =>
            rw [c] at xg
            obtain ⟨q, u, v, k1, k2, k3⟩ := xg
            rw [k1]
            exact ⟨v, k2, out v d (k3.mono gd.exF) (by rw [c]; rfl)⟩
        · rw [if_neg hok] at h
          exact h.elim
end
@[simp] theorem getXD_df (i : Nat) (env : DEnv) : getXD i env = (match env[i]? with
  | some (some (.x (.d false ks ds))) => some (ks, ds)
  | _ => none) := Eq.trans rfl rfl
@[simp ↓] theorem eGetL_ap (i : Nat) (fk : G) (env : DEnv) : eGetL i fk env = (match getXD i env with
  | some (ks, ds) => (match fk env with
    | some (.v k) => if okKey false k = true then .ok (.w (.v ((dixGet ks ds k).getD (.lst [])))) env else .stuck
    | _ => .stuck)
  | none => .stuck : R U) := Eq.trans rfl rfl
end DL

/-! a, b, c = x, y, z: what is new stays one's own. -/
namespace DL
open PySem PySem.Spec PyProof.Rows L2
def sPar3 (i j l : Nat) (fs : List (M U)) : M Fl := fun env => (evs fs env).bind fun us e1 => match us with
  | [.w w1, .w w2, .w w3] => (match setS i w1 e1 with
    | some e2 => (match setS j w2 e2 with
      | some e3 => (match setS l w3 e3 with
        | some e4 => .ok .next e4
        | none => .stuck)
      | none => .stuck)
    | none => .stuck)
  | _ => .stuck
section
variable {X : Cx} {Wx : WX} {i j l : Nat} {x y z : Str} {a b c : Expr} {fa fb fc : M U} {px py pz pt pos : Pos} {kt k2 : Nat} {pt2 : Pos}
theorem s_par3 (hc : X.calm = true) (hN : X.N.Nodup) (hi : X.N[i]? = some x) (hj : X.N[j]? = some y) (hl : X.N[l]? = some z) (hij : i ≠ j) (hil : i ≠ l) (hjl : j ≠ l)
    (hx : X.env.scope.names.lookup x = some .local) (hy : X.env.scope.names.lookup y = some .local) (hz : X.env.scope.names.lookup z = some .local) (ha : EaS X Wx [a, b, c] [fa, fb, fc])
    (hw : swappedStores [.Tuple [.Name x px, .Name y py, .Name z pz] kt pt] (.Tuple [a, b, c] k2 pt2) X.env = pure (some [x, y, z]))
    (hs : swapsWithSole [.Tuple [.Name x px, .Name y py, .Name z pz] kt pt] (.Tuple [a, b, c] k2 pt2) pos.line X.env = pure false := by rfl) :
    StS X Wx (.Assign [.Tuple [.Name x px, .Name y py, .Name z pz] kt pt] (.Tuple [a, b, c] k2 pt2) pos) [i, j, l] (sPar3 i j l [fa, fb, fc]) :=
  PS.imp (ps_par3 hc hN hi hj hl hij hil hjl hx hy hz ha hw hs) fun E σ H h => by
  obtain ⟨F, env, own, S, h⟩ := h
  have h : Po X.K X.mg Wx [i, j, l] E σ F H own (sPar3 i j l [fa, fb, fc] env) := h
  refine ⟨F, env, own, S, ?_⟩
  unfold sPar3 at h
  cases e : evs [fa, fb, fc] env with
  | stuck => rw [e] at h; exact h
  | raise c env1 => rw [e] at h; exact fun C F' H' own' => h C σ F' H' own' Only.refl
  | ok us env1 =>
    rw [e, R.bind_ok] at h
    intro vs F1 H1 own1 p O
    split at h
    · rename_i w1 w2 w3
      have r := O.r
      match vs, r with
      | [v1, v2, v3], ⟨p1, p23, a1, a2, r1, p2, p3e, b1, b2, r2, p3, p4, c1, c2, r3, _⟩ =>
        refine ⟨v1, v2, v3, rfl, ?_⟩
        cases e3 : setS i w1 env1 with
        | none => rw [e3] at h; exact h.elim
        | some env3 =>
          rw [e3] at h
          dsimp only at h
          cases e4 : setS j w2 env3 with
          | none => rw [e4] at h; exact h.elim
          | some env4 =>
            rw [e4] at h
            dsimp only at h
            cases e5 : setS l w3 env4 with
            | none => rw [e5] at h; exact h.elim
            | some env5 =>
              rw [e5] at h
              obtain ⟨o1, S1, t1⟩ := setS_ok O.S r1 (fun q z => O.d q ((a1 q).mpr (.inl z))) e3
              obtain ⟨o2, S2, t2⟩ := setS_ok S1 r2 (fun q z zz => by
                rcases t1 q zz with z2 | z2
                · exact O.d q ((a1 q).mpr (.inr ((b1 q).mpr (.inl z)))) z2
                · exact a2 q z2 ((b1 q).mpr (.inl z))) e4
              obtain ⟨o3, S3, t3⟩ := setS_ok S2 r3 (fun q z zz => by
                rcases t2 q zz with z2 | z2
                · rcases t1 q z2 with z3 | z3
                  · exact O.d q ((a1 q).mpr (.inr ((b1 q).mpr (.inr ((c1 q).mpr (.inl z)))))) z3
                  · exact a2 q z3 ((b1 q).mpr (.inr ((c1 q).mpr (.inl z))))
                · exact b2 q z2 ((c1 q).mpr (.inl z))) e5
              refine h _ _ _ _ ((Only.set.trans Only.set).trans Only.set) ⟨S3, O.s.sub fun q z => ?_⟩
              rcases t3 q z with z | z
              · rcases t2 q z with z | z
                · rcases t1 q z with z | z
                  · exact .inl z
                  · exact .inr ((a1 q).mpr (.inl z))
                · exact .inr ((a1 q).mpr (.inr ((b1 q).mpr (.inl z))))
              · exact .inr ((a1 q).mpr (.inr ((b1 q).mpr (.inr ((c1 q).mpr (.inl z))))))
    · exact h.elim
end
@[simp] theorem sPar3_ap (i j l : Nat) (fs : List (M U)) (env : DEnv) : sPar3 i j l fs env = (evs fs env).bind fun us e1 => match us with
  | [.w w1, .w w2, .w w3] => (match setS i w1 e1 with
    | some e2 => (match setS j w2 e2 with
      | some e3 => (match setS l w3 e3 with
        | some e4 => .ok .next e4
        | none => .stuck)
      | none => .stuck)
    | none => .stuck)
  | _ => .stuck := Eq.trans rfl rfl
end DL

/-! zip of a tuple and a list. -/
namespace DL
open PySem PySem.Spec PyProof.Rows L2
/-- a tuple at a, a list at b, in new pairs -/
def ItzM (K : PySem.W.Frag) (a b : Addr) : It where
  go := fun i H => ∃ (xs ys : List V) (x y : V), SqT K H a xs ∧ SqL K H b ys ∧ xs[i]? = some x ∧ ys[i]? = some y
  yld := fun i H v G => ∃ T x y, v = .ref T ∧ H T = none ∧ G = upd H T (.tup [x, y]) ∧ (∀ xs, SqT K H a xs → xs[i]? = some x) ∧ ∀ ys, SqL K H b ys → ys[i]? = some y
  stop := fun i H => ∃ xs ys : List V, SqT K H a xs ∧ SqL K H b ys ∧ min xs.length ys.length = i
theorem five {z TI TO i1 i2 c : Addr} (h : c ∈ [z, TI, TO, i1, i2]) : c = z ∨ c = TI ∨ c = TO ∨ c = i1 ∨ c = i2 := by simpa using h
theorem turn_zipM {P : Program} {w : World} {K : PySem.W.Frag} {es : List Expr} {kk : Nat} {tp : Pos} {a b z TI TO i1 i2 : Addr} (S : ZipSep2 z TI TO i1 i2 [i1, a] [i2, b]) (n1 : a ≠ i1) (n2 : b ≠ i2) :
    Turn P w K (.Tuple es kk tp) (ItzM K a b) [z, TI, TO, i1, i2] z fun i h => IsZip h z TI TO .none ∧ IsTupOf2 h TI (.ref i1) (.ref i2) ∧ (∃ u v, IsTupOf2 h TO u v) ∧ h.IsTupleIter i1 a i ∧ h.IsListIter i2 b i where
  mem := List.mem_cons_self ..
  obj := fun i h st c hc => by
    obtain ⟨q1, q2, ⟨u, v, q3⟩, ⟨o1, q4, _, d1⟩, o2, q5, _, d2⟩ := st
    rcases five hc with rfl | rfl | rfl | rfl | rfl
    · exact ⟨_, q1, fun _ => nofun⟩
    · exact ⟨_, q2, fun _ => nofun⟩
    · exact ⟨_, q3, fun _ => nofun⟩
    · exact ⟨o1, q4, fun _ e => by rw [d1] at e; cases e⟩
    · exact ⟨o2, q5, fun _ e => by rw [d2] at e; cases e⟩
  keep := fun i h g st k => ⟨k z (by simp) _ st.1, k TI (by simp) _ st.2.1, st.2.2.1.imp fun u ⟨v, e⟩ => ⟨v, k TO (by simp) _ e⟩, st.2.2.2.1.at fun o e => k i1 (by simp) o e, st.2.2.2.2.at fun o e => k i2 (by simp) o e⟩
  item := by
    intro X e1 e2 e3 hc i pins t σ H E I hf st hg
    subst e1 e2 e3
    obtain ⟨q1, q2, ⟨u0, v0, q3⟩, q4, q5⟩ := st
    obtain ⟨xs, ys, x, y, sx, sy, hx, hy⟩ := hg
    obtain ⟨us, ru, pu, _⟩ := I.tuple sx
    obtain ⟨vs, rv, pv, _⟩ := I.list sy
    obtain ⟨u, hu, rxu⟩ := ru.get hx
    obtain ⟨v, hv, ryv⟩ := rv.get hy
    have hu' : us.toArray[i]? = some u := by simpa using hu
    have hv' : vs.toArray[i]? = some v := by simpa using hv
    have lz : z < t.heap.objs.size := Heap.lt_size q1
    have hh : X.A.in1.handled = none := I.ok.hd hc
    refine wpAny_pyNext_zipD2_item S (Draws.tuple hh i1 a n1 us.toArray) (Draws.list hh i2 b n2 vs.toArray) q1 q2 q3 ⟨q4, pu⟩ ⟨q5, pv.isList⟩ (Array.getElem?_eq_some_iff.mp hu').1 (Array.getElem?_eq_some_iff.mp hv').1 fun y1 y2 g tk p1 p2 z1 t1 s1 s2 hT hsz hk => ?_
    cases hu'.symm.trans p1
    cases hv'.symm.trans p2
    refine ⟨_, rfl, wpAny_letOwnedTupleGo_zip (s := { t with heap := g, toks := tk }) z1 fun g2 z2 sb => ?_⟩
    have hT2 : g2.get? t.heap.objs.size = some { cls := .type "tuple", data := .seq #[u, v] } := (sb.2 _ (Nat.ne_of_gt lz)).trans hT
    have fresh : ObjOk X.prog X.w (upd H t.heap.objs.size (.tup [x, y])) g2 t.heap.objs.size (.tup [x, y]) := ⟨by show 2 ≤ sizeLine; decide, [u, v], .cons rxu (.cons ryv .nil), _, hT2, rfl, _, rfl⟩
    have up : ∀ c o, c ∉ [z, TI, TO, i1, i2] → t.heap.get? c = some o → g2.get? c = some o := fun c o hb e => by
      simp only [List.mem_cons, List.not_mem_nil, or_false, not_or] at hb
      exact (sb.2 c hb.1).trans (hk c o hb.1 hb.2.2.1 hb.2.2.2.1 hb.2.2.2.2 e)
    refine ⟨.ref t.heap.objs.size, _, I.turnedNew (t' := tk) (ch := [z, TI, TO, i1, i2]) up hf (Nat.le_refl _) fresh, rfl, ⟨_, x, y, rfl, I.hok.fresh (Nat.le_refl _), rfl, fun l hl => by rw [I.tuple_inj hl sx]; exact hx, fun l hl => by rw [I.list_inj hl sy]; exact hy⟩, ⟨z2, (sb.2 _ S.TIz).trans (hk _ _ S.TIz S.TITO S.TIi1 S.TIi2 q2), ⟨u, v, (sb.2 _ S.TOz).trans t1⟩, s1.1.at fun o e => (sb.2 _ S.zi1.symm).trans e, s2.1.at fun o e => (sb.2 _ S.zi2.symm).trans e⟩, fun c hm => ?_⟩
    have hlt : c < t.heap.objs.size := by
      obtain ⟨o4, q4, _⟩ := q4
      obtain ⟨o5, q5, _⟩ := q5
      rcases five hm with rfl | rfl | rfl | rfl | rfl
      · exact lz
      · exact Heap.lt_size q2
      · exact Heap.lt_size q3
      · exact Heap.lt_size q4
      · exact Heap.lt_size q5
    rw [upd_ne (Nat.ne_of_lt hlt)]
    exact (hf c hm).1
  done := by
    intro X e1 e2 e3 hc i pins t σ H E I hf st hg
    subst e1 e2 e3
    obtain ⟨q1, q2, ⟨u0, v0, q3⟩, q4, q5⟩ := st
    obtain ⟨xs, ys, sx, sy, hend⟩ := hg
    obtain ⟨us, ru, pu, _⟩ := I.tuple sx
    obtain ⟨vs, rv, pv, _⟩ := I.list sy
    have l1 := ru.length
    have l2 := rv.length
    have hh : X.A.in1.handled = none := I.ok.hd hc
    refine wpAny_pyNext_zipD2_end S (Draws.tuple hh i1 a n1 us.toArray) (Draws.list hh i2 b n2 vs.toArray) q1 q2 q3 ⟨q4, pu⟩ ⟨q5, pv.isList⟩ (by simp; omega) (by simp; omega) (by simp; omega) fun g tk hk => ⟨rfl, I.turnedL (t' := tk) (ch := [z, TI, TO, i1, i2]) (fun c o hb e => ?_) hf⟩
    simp only [List.mem_cons, List.not_mem_nil, or_false, not_or] at hb
    exact hk c o hb.1 hb.2.2.1 hb.2.2.2.1 hb.2.2.2.2 e
  self := fun A i t Q E st h => wpAny_pyIter_zip st.1 h
def iZipM (K : PySem.W.Frag) (ta : TA) : TI := fun σ H R => ta σ H fun vs G => ∃ a b xs ys, vs = [.ref a, .ref b] ∧ SqT K G a xs ∧ SqL K G b ys ∧ R (ItzM K a b) G
theorem pi_zipM {X : Cx} {e e2 : Expr} {ta : TA} {p pos tp : Pos} {es : List Expr} {kk : Nat} (hg : Gl X "zip") (hm : X.mg "zip" = none) (ha : PA X [e, e2] ta)
    (hs : starEach [e, e2] X.env = (false, eval e X.env) :: starEach [e2] X.env := by rfl) (hpl : (backTo pos (starEach [e2] X.env)).any (·.1) = false := by rfl) : PI X (.Tuple es kk tp) (.Call (.Name "zip" p) [e, e2] [] pos) (iZipM X.K ta) := by
  refine ⟨fun pins t σ H R I h => ?_⟩
  refine Call_ (ld_blt I hg hm boot_zip (callWith_type1 (thn (ha.run pos pins t σ H _ I h) fun us t1 ⟨vs, G, J, r1, q1⟩ => ?_) hs hpl))
  obtain ⟨a, b, xs, ys, ev, sx, sy, q⟩ := q1
  subst ev
  cases r1 with
  | cons ra rb =>
    cases rb with
    | cons rb rc =>
      cases rc
      cases ra
      cases rb
      obtain ⟨is, rv, p1, _⟩ := J.tuple sx
      obtain ⟨js, rw, p2, _⟩ := J.list sy
      have la : a < t1.heap.objs.size := by
        obtain ⟨o, ho, _⟩ := id p1
        exact Heap.lt_size ho
      have lb : b < t1.heap.objs.size := p2.lt
      have fr : ∀ c, c ∈ [t1.heap.objs.size + 4, t1.heap.objs.size + 2, t1.heap.objs.size + 3, t1.heap.objs.size, t1.heap.objs.size + 1] → FpOk X pins G c := fun c hc => by
        have hle : t1.heap.objs.size ≤ c := by
          rcases five hc with z | z | z | z | z
          · rw [z]; exact Nat.le_add_right ..
          · rw [z]; exact Nat.le_add_right ..
          · rw [z]; exact Nat.le_add_right ..
          · rw [z]; exact Nat.le_refl _
          · rw [z]; exact Nat.le_add_right ..
        exact J.fpOk hle (J.hok.fresh hle)
      have sp : ZipSep2 (t1.heap.objs.size + 4) (t1.heap.objs.size + 2) (t1.heap.objs.size + 3) t1.heap.objs.size (t1.heap.objs.size + 1) [t1.heap.objs.size, a] [t1.heap.objs.size + 1, b] := zip_sep2 (fp1 := [a]) (fp2 := [b]) (fun c hc => by rw [List.mem_singleton.mp hc]; exact la) (fun c hc => by rw [List.mem_singleton.mp hc]; exact lb)
      refine zip_begins2 (begins_tuple a is.toArray) (begins_list b js.toArray) p1 p2.isList fun g hz hI hO g1 g2 hsz hk => wpAny_pyIter_zip hz ?_
      have I2 : Inv X pins σ G { t1 with heap := g } := J.kept (t' := t1.toks) hk
      exact ⟨t1.heap.objs.size + 4, [t1.heap.objs.size + 4, t1.heap.objs.size + 2, t1.heap.objs.size + 3, t1.heap.objs.size, t1.heap.objs.size + 1], _, _, G, rfl, I2, turn_zipM sp (Nat.ne_of_lt la) (Nat.ne_of_lt (Nat.lt_succ_of_lt lb)), ⟨hz, hI, ⟨_, _, hO⟩, ⟨_, g1, rfl, rfl⟩, ⟨_, g2, rfl, rfl⟩⟩, fr, q⟩
def zipN : List D → Option (List D)
  | [.tup xs, .lst ys] => some (pairs2 xs ys)
  | _ => none
def iterZipM (f g : M U) : M (List D) := fun env => (evs [f, g] env).bind fun us e1 => match frzs e1 us with
  | some (ds, e2) => (match zipN ds with
    | some ps => .ok ps e2
    | none => .stuck)
  | none => .stuck
theorem feeds_zm {K : PySem.W.Frag} {F0 : Hp} {a b : Addr} {vs ws : List V} {xs ys : List D} (h : SqT K F0 a vs) (r : RepDs K F0 vs xs) (h' : Rd F0 b (.lst ws)) (r' : RepDs K F0 ws ys) : Feeds K (ItzM K a b) F0 (pairs2 xs ys) where
  go := fun F H i e1 e2 hi => by
    rw [pairs2_len] at hi
    have hv : i < vs.length := by rw [r.length]; omega
    have hw : i < ws.length := by rw [r'.length]; omega
    exact ⟨vs, ws, vs[i], ws[i], sameT (e1.trans e2) h, .inl (sameL (e1.trans e2) h'), List.getElem?_eq_getElem hv, List.getElem?_eq_getElem hw⟩
  yld := fun F H i x H' d e1 e2 hd y => by
    obtain ⟨T, x, z, rfl, nT, rfl, y1, y2⟩ := y
    obtain ⟨dx, dy, hx, hy, rfl⟩ := pairs2_get hd
    obtain ⟨v, h1, h2⟩ := r.get hx
    obtain ⟨v', h1', h2'⟩ := r'.get hy
    have t1 := y1 vs (sameT (e1.trans e2) h)
    rw [h1] at t1
    cases t1
    have t2 := y2 ws (.inl (sameL (e1.trans e2) h'))
    rw [h1'] at t2
    cases t2
    exact ⟨upd F T (.tup [x, z]), Grow.data e2 nT, .tup upd_same (.cons ((h2.mono e1).mono (same_upd (sub_none e2 nT))) (.cons ((h2'.mono e1).mono (same_upd (sub_none e2 nT))) .nil))⟩
  stop := fun F H e1 e2 => ⟨vs, ws, sameT (e1.trans e2) h, .inl (sameL (e1.trans e2) h'), by rw [pairs2_len, r.length, r'.length]⟩
section
variable {X : Cx} {Wx : WX} {e e' : Expr} {f g : M U} {pos p tpos : Pos}
theorem i_zipM {elts : List Expr} {kk : Nat} (hg : Gl X "zip") (hm : X.mg "zip" = none) (ha : EaS X Wx [e, e'] [f, g]) (hs : starEach [e, e'] X.env = (false, eval e X.env) :: starEach [e'] X.env := by rfl) (hpl : (backTo pos (starEach [e'] X.env)).any (·.1) = false := by rfl) : ItS X Wx (.Tuple elts kk tpos) (.Call (.Name "zip" p) [e, e'] [] pos) (iterZipM f g) :=
  PI.imp (pi_zipM hg hm ha hs hpl) fun σ H RR h => by
  obtain ⟨F, env, own, S, h⟩ := h
  refine ⟨F, env, own, S, ?_⟩
  unfold iterZipM at h
  cases ee : evs [f, g] env with
  | stuck => rw [ee] at h; exact h
  | raise c env1 => rw [ee] at h; exact h
  | ok us env1 =>
    rw [ee, R.bind_ok] at h
    intro vs F1 H1 own1 p O
    cases e1 : frzs env1 us with
    | none => rw [e1] at h; exact h.elim
    | some pr =>
      obtain ⟨ds, e2⟩ := pr
      rw [e1] at h
      obtain ⟨F2, own2, r2, O2⟩ := O.frz (F2 := F) e1
      dsimp only at h
      cases ez : zipN ds with
      | none => rw [ez] at h; exact h.elim
      | some ps =>
        rw [ez] at h
        dsimp only at h
        unfold zipN at ez
        split at ez
        · cases ez
          cases r2 with
          | cons ra rb =>
            cases rb with
            | cons rb rc =>
              cases rc
              cases ra with
              | tup q1 s1 =>
                cases rb with
                | lst q2 s2 => exact ⟨_, _, _, _, rfl, SqT.of (O2.S.ex _ _ q1), .inl (sameL O2.S.ex q2), h _ _ _ _ O2 (feeds_zm (SqT.of q1) s1 q2 s2)⟩
        · cases ez
end
@[simp ↓] theorem iterZipM_ap (f g : M U) (env : DEnv) : iterZipM f g env = ((evs [f, g] env).bind fun us e1 => match frzs e1 us with
  | some (ds, e2) => (match zipN ds with
    | some ps => .ok ps e2
    | none => .stuck)
  | none => .stuck : R (List D)) := Eq.trans rfl rfl
end DL

/-! Things let stand for good; their attributes; pop of an attribute's list. -/
namespace DL
open PySem PySem.Spec PyProof.Rows L2

theorem RepW0s.frz {K : PySem.W.Frag} {H : Hp} : ∀ {F : Hp} {vs : List V} {ws : List W0} {p : Fp}, Same F H → RepW0s K F H vs ws p → ∃ F', Same F F' ∧ Same F' H ∧ RepDs K F' vs (ws.map datW0) ∧ ∀ a o, F' a = some o → F a = none → p a
  | F, [], [], p, ex, _ => ⟨F, Same.refl _, ex, .nil, fun a o h n => by rw [h] at n; cases n⟩
  | F, v :: vs, w :: ws, p, ex, r => by
    obtain ⟨p1, p2, hp, hd, r1, r2⟩ := r
    obtain ⟨F1, a1, a2, a3, a4⟩ := r1.frz ex
    have r2' : RepW0s K F1 H vs ws p2 := RepW0s.frame a1 r2 (fun _ _ _ h => h) fun a q => by
      cases z : F1 a with
      | none => rfl
      | some o => exact absurd q (hd a (a4 a o z (r2.there q).2))
    obtain ⟨F2, b1, b2, b3, b4⟩ := RepW0s.frz a2 r2'
    refine ⟨F2, a1.trans b1, b2, .cons (a3.mono b1) b3, fun a o h n => (hp a).mpr ?_⟩
    cases z : F1 a with
    | some u => exact .inl (a4 a u z n)
    | none => exact .inr (b4 a o h z)
  | _, [], _ :: _, _, _, r => r.elim
  | _, _ :: _, [], _, _, r => r.elim

/-- more is let stand for good, of what nobody here owns -/
theorem Sit.frzMore {K : PySem.W.Frag} {F F' H : Hp} {σ : L2.St} {env : DEnv} {own : Nat → Fp} (S : Sit K F σ H env own) (e : Same F F') (ex : Same F' H) (d : ∀ a o, F' a = some o → F a = none → ¬ all own a) : Sit K F' σ H env own where
  ex := ex
  len := S.len
  rep := fun i w h => by
    obtain ⟨v, hv, r⟩ := S.rep i w h
    refine ⟨v, hv, r.frame e (fun _ _ _ q => q) fun a q => ?_⟩
    cases z : F' a with
    | none => rfl
    | some o => exact absurd ⟨i, q⟩ (d a o z (S.noF q))
  emp := S.emp
  dis := S.dis

/-! ### a thing just made is let stand for good -/
def eFrz (f : M U) : M U := fun env => (f env).bind fun u e => match u with
  | .w (.x (.o _ c ns ws)) => .ok (.w (.v (.ins c ns (ws.map datW0)))) e
  | _ => .stuck
theorem e_frz {X : Cx} {Wx : WX} {e : Expr} {f : M U} (h : EvS X Wx e f) : EvS X Wx e (eFrz f) := PE.imp h fun σ H Q q => by
  obtain ⟨F, env, own, S, q⟩ := q
  refine ⟨F, env, own, S, ?_⟩
  unfold eFrz at q
  cases ef : f env with
  | stuck => rw [ef] at q; exact q
  | raise c env1 => rw [ef] at q; exact q
  | ok u env1 =>
    rw [ef, R.bind_ok] at q
    intro v F' H' own' p O
    match u, q, O with
    | .w (.x (.o b c ns ws)), q, O =>
      dsimp only at q
      obtain ⟨a, dx, C, vs, p0, rfl, hc, h1, h2, f1, f2, hl, r, hp, n1, n2⟩ := O.r
      obtain ⟨F1, a1, a2, a3, a4⟩ := r.frz O.S.ex
      have fa : F1 a = none := by
        cases z : F1 a with
        | none => rfl
        | some o => exact absurd (a4 a o z f1) n1
      have ex2 : Same (upd F1 a (.ins C dx (ns.zip vs))) H' := fun x o z => by
        by_cases y : x = a
        · subst y; rw [upd_same] at z; rw [h1]; exact z
        · rw [upd_ne y] at z; exact a2 x o z
      have e2 : Same F' (upd F1 a (.ins C dx (ns.zip vs))) := a1.trans (same_upd fa)
      have nw : ∀ x o, upd F1 a (.ins C dx (ns.zip vs)) x = some o → F' x = none → p x := fun x o z n => by
        by_cases y : x = a
        · exact (hp x).mpr (.inl (.inl y))
        · rw [upd_ne y] at z; exact (hp x).mpr (.inr (a4 x o z n))
      have S2 := O.S.frzMore e2 ex2 fun x o z n => O.d x (nw x o z n)
      refine q (.ref a) _ H' own' (fun _ => False) ⟨S2, ⟨fun _ z => z, .ins hc upd_same hl (a3.mono (same_upd fa))⟩, fun _ z => z.elim, ?_⟩
      refine ⟨O.s.ex.trans e2, O.s.keep, fun x z => O.s.new x (z.elim .inl False.elim), fun x o z n => ?_⟩
      cases y : F' x with
      | some u => exact O.s.frz x u y n
      | none => exact O.s.new x (.inr (nw x o z y))

/-! ### e.f, e a thing that stands for good -/
def attD (c : Str) (ns : List Str) (j : Nat) : D → Option D
  | .ins c' ns' ds => if c' = c ∧ ns' = ns then ds[j]? else none
  | _ => none
def eAttD (c : Str) (ns : List Str) (j : Nat) (f : M U) : M U := fun env => (f env).bind fun u e => match dat e u with
  | some d => (match attD c ns j d with
    | some d' => .ok (.w (.v d')) e
    | none => .stuck)
  | none => .stuck
theorem attD_some {c : Str} {ns : List Str} {j : Nat} {d d' : D} (h : attD c ns j d = some d') : ∃ ds, d = .ins c ns ds ∧ ds[j]? = some d' := by
  unfold attD at h
  split at h
  · rename_i c' ns' ds
    split at h
    · rename_i hc
      obtain ⟨rfl, rfl⟩ := hc
      exact ⟨ds, rfl, h⟩
    · cases h
  · cases h
theorem attD_rep {K : PySem.W.Frag} {F H : Hp} {c f : Str} {ns : List Str} {j : Nat} {v : V} {d d' : D} (T : ClsF K c ns) (nd : ns.Nodup) (hf : ns[j]? = some f) (ex : Same F H) (h : attD c ns j d = some d') (vw : View K F H v d) :
    ∃ a C dx fs v', v = .ref a ∧ H a = some (.ins C dx fs) ∧ Cls K C ∧ NoAttr K C f ∧ fs.lookup f = some v' ∧ RepD K F v' d' := by
  obtain ⟨ds, rfl, hj⟩ := attD_some h
  have vw : RepD K F v (.ins c ns ds) := vw
  cases vw with
  | ins hc hF hl r =>
    rename_i a dx C vs
    obtain ⟨C', hc', cl, na⟩ := T.ex
    rw [hc] at hc'
    cases hc'
    obtain ⟨v', e1, e2⟩ := r.get hj
    exact ⟨a, C, dx, _, v', rfl, ex _ _ hF, cl, na f (List.mem_of_getElem? hf), by rw [lookup_zip nd hf]; exact e1, e2⟩
section
variable {X : Cx} {Wx : WX} {i j : Nat} {x c f : Str} {ns : List Str} {pos p p1 p2 apos cpos : Pos} {e : Expr}
theorem e_attD {fe : M U} (T : ClsF X.K c ns) (nd : ns.Nodup) (hf : ns[j]? = some f) (he : EvS X Wx e fe) (hb : attributeBase e f X.env (eval e X.env) = eval e X.env := by rfl) : EvS X Wx (.Attribute e f pos) (eAttD c ns j fe) := PE.imp (pe_fld he hb) fun σ H Q h => by
  obtain ⟨F, env, own, S, h⟩ := h
  refine ⟨F, env, own, S, ?_⟩
  unfold eAttD at h
  cases ef : fe env with
  | stuck => rw [ef] at h; exact h
  | raise c env1 => rw [ef] at h; exact h
  | ok u env1 =>
    rw [ef, R.bind_ok] at h
    intro v F' H' own' p O
    cases e1 : dat env1 u with
    | none => rw [e1] at h; exact h.elim
    | some d =>
      rw [e1] at h
      dsimp only at h
      cases e2 : attD c ns j d with
      | none => rw [e2] at h; exact h.elim
      | some d' =>
        rw [e2] at h
        obtain ⟨a, C, dx, fs, v', rfl, h1, h2, h3, h4, rd⟩ := attD_rep T nd hf O.S.ex e2 (O.r.view O.S e1)
        exact ⟨a, C, dx, fs, v', rfl, h1, h2, h3, h4, h v' F' H' own' (fun _ => False) ⟨O.S, ⟨fun _ z => z, rd⟩, fun _ z => z.elim, O.drop.s.sub fun a z => z.elim id False.elim⟩⟩
def attG (c : Str) (ns : List Str) (j : Nat) (g : G) : G := fun env => match g env with
  | some (.v d) => (attD c ns j d).map .v
  | _ => none
theorem g_attD {fe : G} (T : ClsF X.K c ns) (nd : ns.Nodup) (hf : ns[j]? = some f) (he : EvG X e fe) (hb : attributeBase e f X.env (eval e X.env) = eval e X.env := by rfl) : EvG X (.Attribute e f pos) (attG c ns j fe) := PE.imp (pe_fld he hb) fun σ H Q h => by
  obtain ⟨F, env, own, S, h⟩ := h
  refine ⟨F, env, own, S, ?_⟩
  unfold attG at h
  cases ef : fe env with
  | none => rw [ef] at h; exact h.elim
  | some w =>
    rw [ef] at h
    match w, ef, h with
    | .v d, ef, h =>
      dsimp only at h
      cases e2 : attD c ns j d with
      | none => rw [e2] at h; exact h.elim
      | some d' =>
        rw [e2] at h
        intro v F1 H1 p gr r
        obtain ⟨a, C, dx, fs, v', rfl, h1, h2, h3, h4, rd⟩ := attD_rep T nd hf gr.sub e2 (View.of gr.sub r.2)
        refine ⟨a, C, dx, fs, v', rfl, h1, h2, h3, h4, h v' F1 H1 (fun _ => False) ?_ (RepW.ofRep rd)⟩
        have hp : p = fun _ => False := funext fun a => propext ⟨fun z => r.1 a z, False.elim⟩
        rw [← hp]
        exact gr
    | .l _ _, _, h => exact h.elim
    | .m _ _, _, h => exact h.elim
    | .x _, _, h => exact h.elim

/-! ### x.f.pop() -/
def ePopF (i : Nat) (c : Str) (ns : List Str) (j : Nat) : M U := fun env => match env[i]? with
  | some (some (.x (.o b c' ns' ws))) => if c' = c ∧ ns' = ns then (match ws[j]? with
    | some (.l ds) => (match ds[ds.length - 1]? with
      | some d => .ok (.w (.v d)) (env.set i (some (.x (.o b c ns (ws.set j (.l ds.dropLast))))))
      | none => .stuck)
    | _ => .stuck) else .stuck
  | _ => .stuck
theorem RepDs.dropLast {K : PySem.W.Frag} {F : Hp} {vs : List V} {ds : List D} (r : RepDs K F vs ds) : RepDs K F vs.dropLast ds.dropLast := by
  rw [List.dropLast_eq_take, List.dropLast_eq_take, r.length]
  exact r.take _
theorem e_popF (T : ClsF X.K c ns) (nd : ns.Nodup) (hf : ns[j]? = some f) (hN : X.N[i]? = some x := by rfl) (hv : Vis X.env.scope x := by first | exact Or.inl rfl | exact Or.inr (Or.inl rfl) | exact Or.inr (Or.inr rfl)) (hd : (x == ("__debug__" : Str)) = false := by decide) (hcd : (x == ("__classdict__" : Str)) = false := by decide)
    (hb : attributeBase (.Name x p1) f X.env (eval (.Name x p1) X.env) = eval (.Name x p1) X.env := by rfl)
    (hbase : attributeBase (.Attribute (.Name x p1) f p2) "pop" X.env (eval (.Attribute (.Name x p1) f p2) X.env) = eval (.Attribute (.Name x p1) f p2) X.env := by rfl)
    (hline : (apos.endLine == cpos.line) = true := by rfl) :
    EvS X Wx (.Call (.Attribute (.Attribute (.Name x p1) f p2) "pop" apos) [] [] cpos) (ePopF i c ns j) :=
  PE.imp (pe_bm0 PySem.F.plainAttrs_list PySem.F.slot_list_pop PySem.F.type_list_pop mt_pop (pe_fld (pe_var hN hv hd hcd) hb) hbase hline) fun σ H Q h => by
  obtain ⟨F, env, own, S, h⟩ := h
  unfold ePopF at h
  cases hw : env[i]? with
  | none => rw [hw] at h; exact h.elim
  | some ow =>
    rw [hw] at h
    match ow, hw, h with
    | some (.x (.o b c' ns' ws)), hw, h =>
      dsimp only at h
      by_cases hc : c' = c ∧ ns' = ns
      · rw [if_pos hc] at h
        obtain ⟨rfl, rfl⟩ := hc
        cases hj : ws[j]? with
        | none => rw [hj] at h; exact h.elim
        | some w0 =>
          cases w0 with
          | v d => rw [hj] at h; exact h.elim
          | d k ks ds => rw [hj] at h; exact h.elim
          | l ds =>
            rw [hj] at h
            dsimp only at h
            cases hla : ds[ds.length - 1]? with
            | none => rw [hla] at h; exact h.elim
            | some dl =>
              rw [hla] at h
              dsimp only at h
              obtain ⟨vv, hvv, a, dx, C, vs, p0, rfl, hcC, h1, h2, f1, f2, hl, r, hp, n1, n2⟩ := S.rep i _ hw
              obtain ⟨C', hc', cl, na⟩ := T.ex
              rw [hcC] at hc'
              cases hc'
              obtain ⟨v, q, hvj, rv, hqp, hupd⟩ := r.upd hj
              obtain ⟨lb, us, rfl, hq, hlH, hlF, rus⟩ := rv
              have ql := (hq lb).mpr rfl
              obtain ⟨y, hy, ry⟩ := rus.get hla
              refine ⟨.ref a, hvv, a, C, dx, _, .ref lb, rfl, h1, cl, na f (List.mem_of_getElem? hf), by rw [lookup_zip nd hf]; exact hvj, ?_⟩
              refine ⟨Or.inl ⟨rfl, us, .inl (.inl hlH)⟩, ?_⟩
              refine ⟨lb, us, y, rfl, rfl, hlH, by rw [rus.length]; exact hy, ?_⟩
              have hal : a ≠ lb := fun z => n1 (z ▸ hqp lb ql)
              have hdl : dx ≠ lb := fun z => n2 (z ▸ hqp lb ql)
              have rw2 : RepW0 X.K F (upd H lb (.lst us.dropLast)) (.ref lb) (.l ds.dropLast) q := ⟨lb, us.dropLast, rfl, hq, upd_same, hlF, rus.dropLast⟩
              have r2 := hupd (H' := upd H lb (.lst us.dropLast)) (Same.refl _) (fun b o _ nq e => by rw [upd_ne (fun z => nq ((hq b).mpr z))]; exact e) (fun b pb _ => (r.there pb).2) rw2 (fun b z _ => z)
              have evs : vs.set j (.ref lb) = vs := by
                obtain ⟨hjl, e⟩ := List.getElem?_eq_some_iff.mp hvj
                rw [← e, List.set_getElem_self]
              rw [evs] at r2
              have hp2 : (fun b => (p0 b ∧ ¬ q b) ∨ q b) = p0 := funext fun b => propext ⟨fun z => z.elim (fun y => y.1) (hqp b), fun z => (Classical.em (q b)).elim .inr fun y => .inl ⟨z, y⟩⟩
              rw [hp2] at r2
              have hi : i < env.length := (List.getElem?_eq_some_iff.mp hw).1
              have RX : RepW X.K F (upd H lb (.lst us.dropLast)) (.ref a) (.x (.o b c' ns' (ws.set j (.l ds.dropLast)))) (own i) :=
                ⟨a, dx, C, vs, p0, rfl, hcC, by rw [upd_ne hal]; exact h1, by rw [upd_ne hdl]; exact h2, f1, f2, hl, r2, hp, n1, n2⟩
              obtain ⟨own', S', st⟩ := S.repl (t := fun _ => False) (F' := F) (H' := upd H lb (.lst us.dropLast)) hi hvv (fun _ z => z.elim)
                (fun b o e => by
                  have : b ≠ lb := fun z => by rw [z, hlF] at e; cases e
                  rw [upd_ne this]; exact S.ex b o e) (Same.refl _)
                (fun b o e no _ => by
                  have : b ≠ lb := fun z => no ((hp b).mpr (.inr (z ▸ hqp lb ql)))
                  rw [upd_ne this]; exact e)
                (fun b o e n => by rw [e] at n; cases n) RX (fun b z => .inr (.inl z))
              exact h y F (upd H lb (.lst us.dropLast)) own' (fun _ => False) ((Grow.refl S'.ex).out ⟨S', st.sup fun a z => z.elim id False.elim⟩ (RepW.ofRep ry))
      · rw [if_neg hc] at h
        exact h.elim
    | none, _, h => exact h.elim
    | some (.v _), _, h => exact h.elim
    | some (.l _ _), _, h => exact h.elim
    | some (.m _ _), _, h => exact h.elim
    | some (.x (.d _ _ _)), _, h => exact h.elim
    | some (.x (.t _)), _, h => exact h.elim
end
end DL

/-! dict(d), d.update(e), {k: v for tg in xs}: dicts whose keys are ints. -/
namespace DL
open PySem PySem.Spec PyProof.Rows L2

/-! ### dict(d) -/
def gDict : List D → Option W
  | [.dix true ks ds] => some (.x (.d true ks ds))
  | _ => none
theorem cd_dict {K : PySem.W.Frag} : CaD K (fun xs H Q => ∃ (a : Addr) (kvs : List (Key × V)), xs = [.ref a] ∧ Rd H a (.dK kvs) ∧ ∀ p, H p = none → Q (.ref p) (upd H p (.dK kvs))) gDict := by
  intro F H vs ds w Q e vw hg q
  unfold gDict at hg
  split at hg
  · obtain ⟨x, rfl, hx⟩ := vw.one
    cases hg
    obtain ⟨a, o, us, vs, rfl, hH, hk, r1, r2⟩ := hx
    obtain ⟨kk, rfl, rfl, hl, rfl⟩ := hk
    refine ⟨a, _, rfl, .inl hH, fun p hp => q _ F _ (fun a => a = p) (Grow.ofOwn e hp) ?_⟩
    exact ⟨p, _, kk.map V.int, vs, rfl, fun _ => Iff.rfl, upd_same, sub_none e hp, ⟨kk, rfl, rfl, hl, rfl⟩, r1, r2⟩
  · cases hg

/-! ### {k: v for tg in xs} -/
def dcompG (vs : List Nat) (m : MT) (fk fe : G) : List D → DEnv → List D → List D → Option (List D × List D)
  | [], _, ks, ds => some (ks, ds)
  | d :: r, env, ks, ds => match m d env with
    | some e => (match fk e, fe e with
      | some (.v (.int n)), some w => if w.opq then none else dcompG vs m fk fe r (wipeA e vs) (dixK ks (.int n)) (dixD ks ds (.int n) (datW w))
      | _, _ => none)
    | none => none
def eDComp (fv : DEnv → Option D) (vs : List Nat) (m : MT) (fk fe : G) : G := fun env => match fv env with
  | some (.lst ds) => if dataAt env vs = true ∧ ds.length ≤ 1000000 then (dcompG vs m fk fe ds (wipeA env vs) [] []).map fun p => .x (.d true p.1 p.2) else none
  | _ => none
theorem dixK_len (ks : List D) (k : D) : (dixK ks k).length ≤ ks.length + 1 := by
  unfold dixK
  split
  · omega
  · simp
theorem dcompG_sem {K : PySem.W.Frag} {fv : DEnv → Option D} {is vs : List Nat} {m : MT} {fk f : G} {σ : L2.St} {H : Hp} {Q : VK} (hsub : ∀ i ∈ is, i ∈ vs) (h : gOfG K (eDComp fv vs m fk f) σ H Q) :
    tDc (iList K (vOf K fv)) (gvOf K is m) tYes (gOfG K fk) (gOfG K f) vs σ H Q := by
  obtain ⟨F, env, own, S, h⟩ := h
  unfold eDComp at h
  refine ⟨F, env, own, S, ?_⟩
  cases e : fv env with
  | none => rw [e] at h; exact h.elim
  | some dd =>
    rw [e] at h
    cases dd with
    | lst ds =>
      dsimp only at h
      by_cases hcond : dataAt env vs = true ∧ ds.length ≤ 1000000
      · rw [if_pos hcond] at h
        obtain ⟨hda, hlen⟩ := hcond
        cases ec : dcompG vs m fk f ds (wipeA env vs) [] [] with
        | none => rw [ec] at h; exact h.elim
        | some yall =>
          rw [ec] at h
          intro v vw
          obtain ⟨l, us, rfl, hl, rus⟩ := vw
          refine ⟨l, rfl, ⟨us, .inl hl⟩, fun P hP => ?_⟩
          have hus := rus.length
          have S1w := S.wipe (vs := vs) fun i hi a => dataAt_no S hda hi a
          have g0 : Grow F H F (upd H P (.dK [])) (fun a => a = P) := Grow.ofOwn S.ex hP
          refine ⟨fun i k H' => k = ds.length - i ∧ i ≤ ds.length ∧ ∃ (F' : Hp) (env' : DEnv) (own' : Nat → Fp) (kk : List Int) (ys : List D) (avs : List V), kk.length ≤ i ∧ Grow F H F' H' (fun a => a = P) ∧ Sit K F' (wipe σ vs) H' env' own' ∧ H' P = some (.dK ((kk.map Sum.inl).zip avs)) ∧ avs.length = kk.length ∧ F' P = none ∧ ¬ all own' P ∧ RepDs K F' avs ys ∧ dcompG vs m fk f (ds.drop i) env' (kk.map D.int) ys = some yall,
            ⟨ds.length, by simp, Nat.zero_le _, F, wipeA env vs, own, [], [], [], Nat.zero_le _, g0, g0.sit S1w, upd_same, rfl, sub_none S.ex hP, fun z => ?_, .nil, ec⟩, ?_⟩
          · obtain ⟨⟨o, e2⟩, _⟩ := S.there z
            rw [hP] at e2
            cases e2
          rintro i k H' ⟨rfl, hi, F', env', own', kk, ys, avs, hyl, gr, S', hPe, hal, hFP, nP, rys, hr⟩
          have hl' : SqL K H' l us := .inl (sameL gr.exH hl)
          by_cases hlt : i < ds.length
          · have hiu : i < us.length := by omega
            refine .inr ⟨⟨us, us[i], hl', List.getElem?_eq_getElem hiu⟩, fun H'' => i + 1 ≤ ds.length ∧ ∃ (F' : Hp) (env' : DEnv) (own' : Nat → Fp) (kk : List Int) (ys : List D) (avs : List V), kk.length ≤ i + 1 ∧ Grow F H F' H'' (fun a => a = P) ∧ Sit K F' (wipe σ vs) H'' env' own' ∧ H'' P = some (.dK ((kk.map Sum.inl).zip avs)) ∧ avs.length = kk.length ∧ F' P = none ∧ ¬ all own' P ∧ RepDs K F' avs ys ∧ dcompG vs m fk f (ds.drop (i + 1)) env' (kk.map D.int) ys = some yall,
              fun H'' q => ⟨ds.length - (i + 1), by omega, rfl, q.1, q.2⟩, fun x H'' y => ?_⟩
            obtain ⟨rfl, y⟩ := y
            have hx := y us hl'
            have hd : ds[i]? = some ds[i] := List.getElem?_eq_getElem hlt
            obtain ⟨vx, h1, rx⟩ := rus.get hd
            rw [hx] at h1
            cases h1
            have hdr : ds.drop i = ds[i] :: ds.drop (i + 1) := List.drop_eq_getElem_cons hlt
            rw [hdr, dcompG] at hr
            refine ⟨F', env', own', ds[i], S', rx.mono gr.exF, ?_⟩
            cases e3 : m ds[i] env' with
            | none => rw [e3] at hr; cases hr
            | some ea =>
              rw [e3] at hr
              dsimp only at hr
              intro σ4 own4 o4 S4 sub4
              have w4 : wipe σ4 vs = wipe σ vs := (wipe_only o4 hsub).trans wipe_wipe
              refine ⟨w4, ?_⟩
              unfold tYes
              dsimp only
              rw [if_pos rfl]
              split at hr
              · rename_i n w ek ef
                cases ho : w.opq with
                | true => rw [ho, if_pos rfl] at hr; cases hr
                | false =>
                  rw [ho, if_neg Bool.false_ne_true] at hr
                  refine ⟨F', ea, own4, S4, ?_⟩
                  rw [ek]
                  intro v1 F3 H3 p3 g3 r3
                  have g3' : Grow F' H'' F3 H3 (fun _ => False) := by
                    have hp : p3 = fun _ => False := funext fun a => propext ⟨fun z => r3.1 a z, False.elim⟩
                    rw [← hp]
                    exact g3
                  have ev1 : v1 = .int n := by
                    cases r3.2
                    rfl
                  subst ev1
                  refine ⟨F3, ea, own4, g3'.sit S4, ?_⟩
                  rw [ef]
                  intro v2 F5 H5 p5 g5 r5
                  obtain ⟨F6, g60, rd6⟩ := g5.frz r5 ho
                  have g6 := g3'.trans g60
                  have hP5 : H5 P = some (.dK ((kk.map Sum.inl).zip avs)) := g6.exH _ _ hPe
                  have nF6 : F6 P = none := by
                    cases z : F6 P with
                    | none => rfl
                    | some u => rw [g6.fr P u z hFP] at hPe; cases hPe
                  obtain ⟨us', avs', hdx, _, rv'⟩ := i_put (a := P) (n := n) hal (rys.mono g6.exF) rd6
                  obtain ⟨kk', _, ek', el', eo'⟩ := hdx
                  have ek2 : kk'.length ≤ kk.length + 1 := by
                    have h1 := congrArg List.length ek'
                    have h2 := dixK_len (kk.map D.int) (.int n)
                    simp only [List.length_map] at h1 h2
                    omega
                  refine ⟨(kk.map Sum.inl).zip avs, Sum.inl n, rfl, hP5, ?_, hlt, F6, wipeA ea vs, ownW vs own4, kk', dixD (kk.map D.int) ys (.int n) (datW w), avs', by omega, ?_, ?_, by rw [upd_same, eo'], el', nF6, ?_, rv', by rw [← ek']; exact hr⟩
                  · rw [List.length_zip, List.length_map, hal, Nat.min_self]
                    exact szl (by omega)
                  · have gg := gr.trans g6
                    refine ⟨gg.exF, fun a o q => ?_, fun a o q => ?_, gg.fr, fun a q => by rw [q]; exact hP⟩
                    · rw [upd_ne (ne_of_none q hP)]
                      exact gg.exH a o q
                    · have ne : a ≠ P := fun z => by rw [z, nF6] at q; cases q
                      rw [upd_ne ne]
                      exact g6.sub a o q
                  · have S6 := g6.sit S4
                    have S7 : Sit K F6 σ4 (upd H5 P (.dK (putK ((kk.map Sum.inl).zip avs) (Sum.inl n) v2))) ea own4 := by
                      refine ⟨fun a o q => ?_, S6.len, fun n' w' e' => ?_, S6.emp, S6.dis⟩
                      · have ne : a ≠ P := fun z => by rw [z, nF6] at q; cases q
                        rw [upd_ne ne]
                        exact g6.sub a o q
                      · obtain ⟨u, hu, ru⟩ := S6.rep n' w' e'
                        refine ⟨u, hu, ru.frame (Same.refl _) (fun a o q h' => ?_) fun a q => (ru.there q).2⟩
                        have ne : a ≠ P := fun z => nP (sub4 P (z ▸ ⟨n', q⟩))
                        rw [upd_ne ne]
                        exact h'
                    have := S7.wipe2 (vs := vs)
                    rw [w4] at this
                    exact this
                  · exact fun z => nP (sub4 P (ownW_sub z))
              · cases hr
          · have ei : i = ds.length := by omega
            subst ei
            refine .inl ⟨⟨us, hl', by omega⟩, ?_⟩
            rw [List.drop_length, dcompG] at hr
            cases hr
            exact h (.ref P) F' H' (fun a => a = P) gr ⟨P, _, kk.map V.int, avs, rfl, fun _ => Iff.rfl, hPe, hFP, ⟨kk, rfl, rfl, hal, rfl⟩, RepDs.of_ints kk, rys⟩
      · rw [if_neg hcond] at h
        exact h.elim
    | _ => exact h.elim
section
variable {X : Cx} {kx vx tg iter : Expr} {scope : Scope} {own : List (Str × Nat)} {pos : Pos} {fv : DEnv → Option D} {is : List Nat} {m : MT} {fk f : G}
theorem g_dcomp (hc : X.calm = true) (hN : X.N.Nodup) (hi : EvV X iter fv) (ok : BlkOk X.N X.env.scope scope own)
    (hg : ∀ (s : Shared) (H : Hp) (C : Addr) (cl : List (Str × Addr)) (fp : List Addr), TvS (X.blk s H scope (compEnvC scope cl C X.env) fp) tg is m)
    (hk : ∀ (s : Shared) (H : Hp) (C : Addr) (cl : List (Str × Addr)) (fp : List Addr), EvG (X.blk s H scope (compEnvC scope cl C X.env) fp) kx fk)
    (he : ∀ (s : Shared) (H : Hp) (C : Addr) (cl : List (Str × Addr)) (fp : List Addr), EvG (X.blk s H scope (compEnvC scope cl C X.env) fp) vx f) (hsub : ∀ i ∈ is, i ∈ own.map (·.2)) (hs : ∀ x, foldedSetIterable iter X.env x = pure x := by intro _; rfl) :
    EvG X (.DictComp kx vx [⟨tg, iter, [], 0⟩] scope pos) (eDComp fv (own.map (·.2)) m fk f) :=
  PE.imp (pe_dc hc hN (pi_list hi) ok hg (fun s H C cl fp => pts_nil) hk he hs) fun σ H Q h => dcompG_sem hsub h
end
end DL

/-! x.update(e): dicts whose keys are ints. -/
namespace DL
open PySem PySem.Spec PyProof.Rows L2
def rUpdD : V → List V → Hp → VK → Prop := fun x vs H Q => ∃ (a b : Addr) (kvs ls : List (Key × V)), x = .ref a ∧ vs = [.ref b] ∧ H a = some (.dK kvs) ∧ H b = some (.dK ls) ∧ a ≠ b ∧ kvs.length + ls.length ≤ sizeLine ∧ Q .non (upd H a (.dK (mergeK kvs ls)))
theorem mt_update {X : Cx} : MtR X "dict.update" rUpdD := by
  intro pins s σ H x xs v us Q I rx rxs h
  obtain ⟨a, b, kvs, ls, rfl, rfl, ha, hb, hne, hz, q⟩ := h
  cases rx
  obtain ⟨u, rfl, ru⟩ := Vals.one rxs
  cases ru
  obtain ⟨z1, hd1, vs1, rel1, dd1⟩ := dk_of I.hok ha
  obtain ⟨z2, hd2, vs2, rel2, dd2⟩ := dk_of I.hok hb
  refine call_meetsIn PySem.F.slot_dict_update dd1.typeIs PySem.F.entry_dict_update (PySem.F.args_dict_update_2 _ _) (meets_dict_update (mixKind X.prog X.w) a b hne hd2)
    ⟨vs1, vs2, dd1, dd2, by rw [← rel1.length, ← rel2.length]; exact hz, fun h' hmm _ hs => ?_⟩
  have he : ∃ q, h'.get? a = some q := let ⟨q, _, _, hq, _⟩ := hmm; ⟨q, hq⟩
  exact ⟨.non, _, d_write (t' := s.toks) I (by rw [ha]; exact True.intro) hs he (dk_new (Nat.le_trans (length_mergeK ls kvs) hz) hd1 (rel2.merge rel1) hmm), rfl, q⟩
/-- the entries of one dict put into another one -/
def dixUp : List D → List D → List D → List D → List D × List D
  | ks, ds, k :: ls, d :: es => dixUp (dixK ks k) (dixD ks ds k d) ls es
  | ks, ds, _, _ => (ks, ds)
theorem dixUp_rep {K : PySem.W.Frag} {F : Hp} {a : Addr} : ∀ {kk2 : List Int} {vs2 : List V} {es : List D} {kk : List Int} {vs : List V} {ds : List D}, vs2.length = kk2.length → RepDs K F vs2 es → vs.length = kk.length → RepDs K F vs ds →
    ∃ us' vs', DxO true a us' vs' (dixUp (kk.map D.int) ds (kk2.map D.int) es).1 (.dK (mergeK ((kk.map Sum.inl).zip vs) ((kk2.map Sum.inl).zip vs2))) ∧ RepDs K F us' (dixUp (kk.map D.int) ds (kk2.map D.int) es).1 ∧ RepDs K F vs' (dixUp (kk.map D.int) ds (kk2.map D.int) es).2
  | [], [], es, kk, vs, ds, _, r2, hl, r => by
    cases r2
    exact ⟨kk.map V.int, vs, ⟨kk, rfl, rfl, hl, rfl⟩, RepDs.of_ints kk, r⟩
  | n :: kk2, v :: vs2, es, kk, vs, ds, hl2, r2, hl, r => by
    cases r2 with
    | cons rd r2 =>
      obtain ⟨us', vs', hdx, _, rv'⟩ := i_put (a := a) (n := n) hl r rd
      obtain ⟨kk', _, ek', el', eo'⟩ := hdx
      have eo : putK ((kk.map Sum.inl).zip vs : List (Key × V)) (Sum.inl n) v = (kk'.map Sum.inl).zip vs' := by
        injection eo'
      have := dixUp_rep (a := a) (kk2 := kk2) (kk := kk') (by simpa using hl2) r2 el' rv'
      rw [← ek', ← eo] at this
      exact this
  | [], _ :: _, _, _, _, _, h, _, _, _ => by simp at h
  | _ :: _, [], _, _, _, _, h, _, _, _ => by simp at h
def asDix : W → Option (List D × List D)
  | .x (.d true ls es) => some (ls, es)
  | _ => none
def eUpdX (i : Nat) (fe : G) : M U := fun env => match env[i]?, fe env with
  | some (some (.x (.d true ks ds))), some w => (match asDix w with
    | some p => if ks.length + p.1.length ≤ 1000000 then .ok (.w (.v .non)) (env.set i (some (.x (.d true (dixUp ks ds p.1 p.2).1 (dixUp ks ds p.1 p.2).2)))) else .stuck
    | none => .stuck)
  | _, _ => .stuck
theorem asDix_some {w : W} {p : List D × List D} (h : asDix w = some p) : w = .x (.d true p.1 p.2) := by
  unfold asDix at h
  split at h
  · cases h; rfl
  · cases h
section
variable {X : Cx} {Wx : WX} {e : Expr} {fe : G} {i : Nat} {x : Str} {p1 apos cpos : Pos}
theorem e_updX (he : EvG X e fe) (hN : X.N[i]? = some x := by rfl) (hv : Vis X.env.scope x := by first | exact Or.inl rfl | exact Or.inr (Or.inl rfl) | exact Or.inr (Or.inr rfl)) (hd : (x == ("__debug__" : Str)) = false := by decide) (hcd : (x == ("__classdict__" : Str)) = false := by decide)
    (hs0 : starEach [e] X.env = (false, eval e X.env) :: starEach [] X.env := by rfl)
    (hbase : attributeBase (.Name x p1) "update" X.env (eval (.Name x p1) X.env) = eval (.Name x p1) X.env := by rfl)
    (hfew : ((backTo cpos (starEach [e] X.env)).all (fun x => !x.1) && (backToKw cpos (keywordEach [] X.env)).all (fun x => x.1.isSome)
      && decide ([e].length + ([] : List Keyword).length + (if ([] : List Keyword).isEmpty then 0 else 1) < 30)) = true := by rfl)
    (hline : (apos.endLine == cpos.line) = true := by rfl) (hplain : (backTo cpos (starEach [] X.env)).any (·.1) = false := by rfl) :
    EvS X Wx (.Call (.Attribute (.Name x p1) "update" apos) [e] [] cpos) (eUpdX i fe) :=
  PE.imp (pe_bm PySem.F.plainAttrs_dict PySem.F.slot_dict_update PySem.F.type_dict_update mt_update (pe_var hN hv hd hcd) (pa_cons he pa_nil hs0) hbase hfew hline hs0 hplain) fun σ H Q h => by
  obtain ⟨F, env, own, S, h⟩ := h
  unfold eUpdX at h
  cases hw : env[i]? with
  | none => rw [hw] at h; exact h.elim
  | some ow =>
  cases hfe : fe env with
  | none =>
    rw [hw, hfe] at h
    match ow, h with
    | none, h => exact h.elim
    | some (.v _), h => exact h.elim
    | some (.l _ _), h => exact h.elim
    | some (.m _ _), h => exact h.elim
    | some (.x (.o _ _ _ _)), h => exact h.elim
    | some (.x (.t _)), h => exact h.elim
    | some (.x (.d true _ _)), h => exact h.elim
    | some (.x (.d false _ _)), h => exact h.elim
  | some w =>
    rw [hw, hfe] at h
    match ow, hw, h with
    | none, _, h => exact h.elim
    | some (.v _), _, h => exact h.elim
    | some (.l _ _), _, h => exact h.elim
    | some (.m _ _), _, h => exact h.elim
    | some (.x (.o _ _ _ _)), _, h => exact h.elim
    | some (.x (.t _)), _, h => exact h.elim
    | some (.x (.d false _ _)), _, h => exact h.elim
    | some (.x (.d true ks ds)), hw, h =>
      dsimp only at h
      cases hp : asDix w with
      | none => rw [hp] at h; exact h.elim
      | some pr =>
        rw [hp] at h
        dsimp only at h
        by_cases hlen : ks.length + pr.1.length ≤ 1000000
        · rw [if_pos hlen] at h
          have ew := asDix_some hp
          subst ew
          obtain ⟨vv, hvv, a, o, us, vs, rfl, hq, hH, hF, hD, ru, rv⟩ := S.rep i _ hw
          obtain ⟨kk, rfl, rfl, hl, rfl⟩ := hD
          refine ⟨.ref a, hvv, ?_, ?_⟩
          · exact .inr (.inr (.inl ⟨rfl, .inl ⟨_, hH⟩⟩))
          refine ⟨F, env, own, S, ?_⟩
          rw [hfe]
          intro y F1 H1 pw gr ry
          obtain ⟨b, o2, us2, vs2, rfl, hq2, hH2, hF2, hD2, ru2, rv2⟩ := ry
          obtain ⟨kk2, rfl, e2, hl2, rfl⟩ := hD2
          have hab : a ≠ b := fun z => by
            have := gr.np b ((hq2 b).mpr rfl)
            rw [← z, hH] at this
            cases this
          have hH1 := gr.exH _ _ hH
          rw [e2] at hlen h
          have hlen' : kk.length + kk2.length ≤ 1000000 := by simpa using hlen
          refine ⟨a, b, _, _, rfl, rfl, hH1, hH2, hab, ?_, ?_⟩
          · rw [List.length_zip, List.length_zip, List.length_map, List.length_map, hl, hl2, Nat.min_self, Nat.min_self]
            exact szm hlen'
          obtain ⟨us', vs', hdx, ru', rv'⟩ := dixUp_rep (a := a) hl2 rv2 hl (rv.mono gr.exF)
          have hi : i < env.length := (List.getElem?_eq_some_iff.mp hw).1
          have S3 := gr.drop.sit S
          obtain ⟨vv3, hvv3, a3, o3, us3, vs3, ev3, hp3, hH3, hF3, hD3, ru3, rv3⟩ := S3.rep i _ hw
          rw [hvv] at hvv3
          cases hvv3
          cases ev3
          obtain ⟨own', S', st⟩ := S3.repl (t := fun _ => False) (F' := F1) (H' := upd H1 a (.dK (mergeK ((kk.map Sum.inl).zip vs) ((kk2.map Sum.inl).zip vs2)))) (w := .x (.d true (dixUp (kk.map D.int) ds (kk2.map D.int) pr.2).1 (dixUp (kk.map D.int) ds (kk2.map D.int) pr.2).2)) (p' := own i) hi hvv (fun _ z => z.elim)
            (fun q u eq => by
              have : q ≠ a := fun z => by rw [z, hF3] at eq; cases eq
              rw [upd_ne this]; exact gr.sub q u eq) (Same.refl _)
            (fun q u eq no _ => by
              have : q ≠ a := fun z => no ((hp3 q).mpr z)
              rw [upd_ne this]; exact eq)
            (fun q u eq n => by rw [eq] at n; cases n) ⟨a, _, us', vs', rfl, hp3, upd_same, hF3, hdx, ru', rv'⟩ (fun q z => .inr (.inl z))
          refine h .non F1 _ own' (fun _ => False) ((Grow.refl S'.ex).out (OutR.trans ⟨S3, (gr.drop.step own).sub fun _ z => .inl z⟩ ⟨S', st.sup fun _ z => z.elim id False.elim⟩) RepW.ofNon)
        · rw [if_neg hlen] at h
          exact h.elim
end
end DL

/-! len(x), x of a class with __len__; [] as it stands. -/
namespace DL
open PySem PySem.Spec PyProof.Rows L2
def rLenO (C : Addr) (sp : Sp) : List V → Hp → VK → Prop := fun xs H Q => ∃ (a dx : Addr) (fs : List (Str × V)), xs = [.ref a] ∧ H a = some (.ins C dx fs) ∧ sp [.ref a] H (fun v H' => ∃ n : Int, v = .int n ∧ 0 ≤ n ∧ n < 2 ^ 63 ∧ Q (.int n) H') (fun _ _ _ => False)
theorem cr_lenO {X : Cx} {C f : Addr} {fd : FuncData} {ps : List Str} {sp : Sp} {k : Nat} (me : Meth X.K C "__len__" f) (FN : FnOk X.prog X.w X.K X.mg X.base (L2.CX X.prog X.w) k f fd ps sp) (hr : Room (k + 1) X.A) (hb : Binds X.K fd ps []) : CallR X (.builtin "len") (rLenO C sp) := by
  intro pins s σ H xs us Q I r h
  obtain ⟨a, dx, fs, rfl, ha, hsp⟩ := h
  obtain ⟨u, rfl, ru⟩ := vals1 r
  obtain rfl : u = Value.ref a := ru
  obtain ⟨mA, J, _⟩ := ins_get I.hok ha
  obtain ⟨od, J, _⟩ := J.look
  have sb : Sub X k X.A.in1 := Sub.in1 (⟨hr, rfl⟩ : Sub X (k + 1) X.A)
  have e0 : Env0 X.prog X.w X.K X.mg X.base X.A.in1 X.stack s H := by
    have e := I.env0
    exact ⟨by rw [sb.fr]; exact e.frames, e.mod, e.bs, e.bsz, e.funs, e.frf, e.hok, e.bare⟩
  have hl := FN.len _ _ _ _ hsp
  have r2 : Vals [V.ref a] [Value.ref a] := .cons rfl .nil
  refine Calls.call_function_entry kind_len plain_len entry_len (args_len1 _) ?_
  unfold Builtin.«len»
  refine wpAny_bind (m := oneArg "len" _) (wpAny_pure ?_)
  refine wpAny_bind (m := callSpecial? (.ref a) (Str.ofString "__len__")) (PySem.W.special_fn (name := "__len__") (args := []) I.kIn J me.at_ (beq_iff_eq.mp me.fn) ?_)
  refine wpAny_call (codeAny_mono (FN.run X.A.in1 X.stack s H ⟨[.ref a], []⟩ [.ref a] [.ref a] _ _ sb.room e0 (by
    have := hb s [.ref a] I.kIn (by simpa using hl)
    simpa using this) r2 hsp) fun r s' hq => ?_)
  cases r with
  | error e =>
    obtain ⟨a1, B, H1, cls1, d1, e1, fl, hok, ub, na, os, ag, hE⟩ := hq
    exact hE.elim
  | ok fl =>
    cases fl with
    | ret u =>
      obtain ⟨v, H', I', rv, n, rfl, h0, h1, q⟩ := I.after hq
      obtain ⟨t, rfl⟩ : ∃ t, u = Value.int n t := rv
      refine wpAny_bind (wpAny_holding (wpAny_pure ?_))
      refine wpAny_bind (wpAny_letGo ?_)
      show wpAny _ _ (if n < 0 then _ else _) _ _ _
      rw [if_neg (by omega)]
      show wpAny _ _ (if n ≥ 2 ^ 63 then _ else _) _ _ _
      rw [if_neg (by omega)]
      exact wpAny_bind (wpAny_mkInt (wpAny_pure ⟨_, rfl, .int n, H', I'.tok _, ⟨_, rfl⟩, q⟩))
    | next => exact False.elim hq
    | brk => exact False.elim hq
    | cont => exact False.elim hq
def lenG (c : Str) (ns : List Str) (g : GF) (i : Nat) : G := fun env => match env[i]? with
  | some (some (.x (.o b c' ns' ws))) => if c' = c ∧ ns' = ns then (match g [.x (.o b c ns ws)] with
    | some (.v (.int n)) => if 0 ≤ n ∧ n < 1000000000 then some (.v (.int n)) else none
    | _ => none) else none
  | _ => none
section
variable {X : Cx} {i j k : Nat} {x c : Str} {ns ps : List Str} {g : GF} {p p1 pos : Pos}
theorem g_lenO (C : CalG X.prog X.w X.K X.mg X.base j c "__len__" ps g) (hr : Room k X.A) (hml : X.mg "len" = none) (hjk : j + 1 ≤ k) (hn : ps.length = 1) (hN : X.N[i]? = some x := by rfl) (hv : Vis X.env.scope x := by first | exact Or.inl rfl | exact Or.inr (Or.inl rfl) | exact Or.inr (Or.inr rfl)) (hd : (x == ("__debug__" : Str)) = false := by decide) (hcd : (x == ("__classdict__" : Str)) = false := by decide) (hg : Gl X "len" := by rfl) (hb0 : bootBuiltins "len" = some (.builtin "len") := by decide +kernel)
    (he : starEach [Expr.Name x p1] X.env = (false, eval (Expr.Name x p1) X.env) :: starEach [] X.env := by rfl) (hpl : (backTo pos (starEach [] X.env)).any (·.1) = false := by rfl) :
    EvG X (.Call (.Name "len" p) [.Name x p1] [] pos) (lenG c ns g i) := by
  obtain ⟨CC, f, fd, hC, cl, me, GG, hb⟩ := C.ex
  refine PE.imp (pe_callB (cr_lenO me GG (hr.mono hjk) hb) hg hml hb0 (pa_cons (pe_var hN hv hd hcd) pa_nil he) (by decide) (by decide) he hpl) fun σ H Q h => ?_
  obtain ⟨F, env, own, S, h⟩ := h
  unfold lenG at h
  cases hw : env[i]? with
  | none => rw [hw] at h; exact h.elim
  | some ow =>
    rw [hw] at h
    match ow, hw, h with
    | some (.x (.o b c' ns' ws)), hw, h =>
      dsimp only at h
      by_cases hc : c' = c ∧ ns' = ns
      · rw [if_pos hc] at h
        obtain ⟨rfl, rfl⟩ := hc
        obtain ⟨vv, hvv, rr⟩ := S.rep i _ hw
        have rr0 := rr
        obtain ⟨a, dx, C', vs0, p0, rfl, hcC, h1, _⟩ := rr
        rw [hC] at hcC
        cases hcC
        refine ⟨.ref a, hvv, a, dx, _, rfl, h1, ?_⟩
        have SA := sit_one S.ex rr0 (vs := []) (ds := []) .nil
        refine ⟨by rw [hn]; rfl, F, _, _, SA, ?_⟩
        show (match g [.x (.o b c' ns' ws)] with | some w => _ | none => False)
        cases hgg : g [.x (.o b c' ns' ws)] with
        | none => rw [hgg] at h; exact h.elim
        | some w =>
          rw [hgg] at h
          match w, h with
          | .v (.int n), h =>
            dsimp only at h
            by_cases hz : 0 ≤ n ∧ n < 1000000000
            · rw [if_pos hz] at h
              intro v F' H' p' g' r'
              have ev : v = .int n := by
                cases r'.2
                rfl
              subst ev
              refine ⟨n, rfl, hz.1, by omega, h _ F' H' p' g' r'⟩
            · rw [if_neg hz] at h
              exact h.elim
          | .v .non, h => exact h.elim
          | .v (.bl _), h => exact h.elim
          | .v (.str _), h => exact h.elim
          | .v (.tup _), h => exact h.elim
          | .v (.lst _), h => exact h.elim
          | .v (.ty _), h => exact h.elim
          | .v (.nam _ _), h => exact h.elim
          | .v (.scr _), h => exact h.elim
          | .v (.dic _ _), h => exact h.elim
          | .v (.dix _ _ _), h => exact h.elim
          | .v (.ins _ _ _), h => exact h.elim
          | .l _ _, h => exact h.elim
          | .m _ _, h => exact h.elim
          | .x _, h => exact h.elim
      · rw [if_neg hc] at h
        exact h.elim
    | none, _, h => exact h.elim
    | some (.v _), _, h => exact h.elim
    | some (.l _ _), _, h => exact h.elim
    | some (.m _ _), _, h => exact h.elim
    | some (.x (.d _ _ _)), _, h => exact h.elim
    | some (.x (.t _)), _, h => exact h.elim
end
def nilG : G := fun _ => some (.l false [])
theorem g_nil {X : Cx} {pos : Pos} : EvG X (.List [] pos) nilG := PE.imp (pe_lst pa_nil) fun σ H Q h => by
  obtain ⟨F, env, own, S, h⟩ := h
  refine ⟨Nat.zero_le _, fun l hl => ?_⟩
  exact h (.ref l) F _ (fun a => a = l) (Grow.ofOwn S.ex hl) ⟨l, [], rfl, fun _ => Iff.rfl, upd_same, sub_none S.ex hl, .nil⟩
end DL

namespace DL
open PySem PySem.Spec PyProof.Rows L2
/-! simp lemmas for frozen things, pops, updates -/
@[simp ↓] theorem eFrz_ap (f : M U) (env : DEnv) : eFrz f env = ((f env).bind fun u e => match u with
  | .w (.x (.o _ c ns ws)) => .ok (.w (.v (.ins c ns (ws.map datW0)))) e
  | _ => .stuck : R U) := Eq.trans rfl rfl
@[simp] theorem attD_ins (c c' : Str) (ns ns' : List Str) (j : Nat) (ds : List D) : attD c ns j (.ins c' ns' ds) = (if c' = c ∧ ns' = ns then ds[j]? else none) := Eq.trans rfl rfl
@[simp ↓] theorem eAttD_ap (c : Str) (ns : List Str) (j : Nat) (f : M U) (env : DEnv) : eAttD c ns j f env = ((f env).bind fun u e => match dat e u with
  | some d => (match attD c ns j d with
    | some d' => .ok (.w (.v d')) e
    | none => .stuck)
  | none => .stuck : R U) := Eq.trans rfl rfl
@[simp ↓] theorem attG_ap (c : Str) (ns : List Str) (j : Nat) (g : G) (env : DEnv) : attG c ns j g env = (match g env with
  | some (.v d) => (attD c ns j d).map .v
  | _ => none : Option W) := Eq.trans rfl rfl
@[simp ↓] theorem ePopF_ap (i : Nat) (c : Str) (ns : List Str) (j : Nat) (env : DEnv) : ePopF i c ns j env = (match env[i]? with
  | some (some (.x (.o b c' ns' ws))) => if c' = c ∧ ns' = ns then (match ws[j]? with
    | some (.l ds) => (match ds[ds.length - 1]? with
      | some d => .ok (.w (.v d)) (env.set i (some (.x (.o b c ns (ws.set j (.l ds.dropLast))))))
      | none => .stuck)
    | _ => .stuck) else .stuck
  | _ => .stuck : R U) := Eq.trans rfl rfl
@[simp] theorem gDict_c (ks ds : List D) : gDict [.dix true ks ds] = some (.x (.d true ks ds)) := Eq.trans rfl rfl
@[simp ↓] theorem eDComp_ap (fv : DEnv → Option D) (vs : List Nat) (m : MT) (fk fe : G) (env : DEnv) : eDComp fv vs m fk fe env = (match fv env with
  | some (.lst ds) => if dataAt env vs = true ∧ ds.length ≤ 1000000 then (dcompG vs m fk fe ds (wipeA env vs) [] []).map fun p => .x (.d true p.1 p.2) else none
  | _ => none : Option W) := Eq.trans rfl rfl
@[simp] theorem asDix_c (ls es : List D) : asDix (.x (.d true ls es)) = some (ls, es) := Eq.trans rfl rfl
@[simp ↓] theorem eUpdX_ap (i : Nat) (fe : G) (env : DEnv) : eUpdX i fe env = (match env[i]?, fe env with
  | some (some (.x (.d true ks ds))), some w => (match asDix w with
    | some p => if ks.length + p.1.length ≤ 1000000 then .ok (.w (.v .non)) (env.set i (some (.x (.d true (dixUp ks ds p.1 p.2).1 (dixUp ks ds p.1 p.2).2)))) else .stuck
    | none => .stuck)
  | _, _ => .stuck : R U) := Eq.trans rfl rfl
@[simp ↓] theorem lenG_ap (c : Str) (ns : List Str) (g : GF) (i : Nat) (env : DEnv) : lenG c ns g i env = (match env[i]? with
  | some (some (.x (.o b c' ns' ws))) => if c' = c ∧ ns' = ns then (match g [.x (.o b c ns ws)] with
    | some (.v (.int n)) => if 0 ≤ n ∧ n < 1000000000 then some (.v (.int n)) else none
    | _ => none) else none
  | _ => none : Option W) := Eq.trans rfl rfl
@[simp ↓] theorem nilG_ap (env : DEnv) : nilG env = (some (.l false []) : Option W) := Eq.trans rfl rfl
end DL

/-! e == [] for a list of anything -/
namespace DL
open PySem PySem.Spec PyProof.Rows L2
section
open AutoSeq1 (wpAny_loadPart')
open SeqAt MeetsSeq MeetsSeq2 MeetsSeq3 SeqRoads2
variable {prog : Program} {w : World}
theorem list_neIn (l b : Addr) (items items2 : Array Value) (n n2 : Nat) (dd dd2 : Option Addr) (sl sl2 : Array (Option Value)) (hsz : items.size ≠ items2.size) :
    MeetsIn prog w (Builtin.«list.__eq__» ⟨[.ref l, .ref b], []⟩)
      (fun A R s => s.heap.get? l = some { cls := .type "list", dict := dd, data := .seq items n, slots := sl } ∧ s.heap.get? b = some { cls := .type "list", dict := dd2, data := .seq items2 n2, slots := sl2 } ∧
        R (.ok (.ret (.bool false))) s) := by
  intro A R s h
  obtain ⟨hp, g, d, tk, os⟩ := s; obtain ⟨hl, hb, h⟩ := h
  have f3 := AutoSeq1.sub_list_list
  have hne : (items.size != items2.size) = true := by simp [hsz]
  wp_walk using wpAny_loadPart' hl, wpAny_loadPart' hb
  exact h
theorem rc_lists_ne {A : Around} {s : Shared} {l b : Addr} {items items2 : Array Value} (hl : s.heap.IsList l items) (hb : s.heap.IsList b items2) (hsz : items.size ≠ items2.size) (hu : A.units < cLine)
    (E Q : Value → Shared → Prop) (h : Q (.bool false) s) : wpAny (model prog w) A (richCompare .Eq (.ref l) (.ref b)) Q E s := by
  obtain ⟨⟨cls, dd, data, sl⟩, ho, hc, n, hd⟩ := id hl
  obtain ⟨⟨cls2, dd2, data2, sl2⟩, ho2, hc2, n2, hd2⟩ := id hb
  simp only at hc hd hc2 hd2
  subst hc hd hc2 hd2
  have ta : s.TypeIs (.ref l) "list" := ⟨_, ho, rfl⟩
  have tb : s.TypeIs (.ref b) "list" := ⟨_, ho2, rfl⟩
  exact wpAny_richCompare_same_room (op := .Eq) ta tb F.slot_list_eq (call_meetsIn F.slot_list_eq ta F.entry_list_eq (F.args_list_eq_2 _ _) (list_neIn l b items items2 n n2 dd dd2 sl sl2 hsz)
    ⟨ho, ho2, show Value.bool false ≠ Value.notImplemented ∧ Q (.bool false) s from ⟨(fun x => nomatch x), h⟩⟩) hu
end
section
variable {X : Cx}
def rEqE (K : PySem.W.Frag) : R2 := fun x y H Q => (∃ a b xs ys, x = .ref a ∧ y = .ref b ∧ SqL K H a xs ∧ SqL K H b ys ∧ xs.length ≠ ys.length ∧ Q (.bl false) H) ∨ rEqD K x y H Q
theorem op_eqE (hu : X.A.units + 64 < cLine) : OpR X (compareOp .Eq) (rEqE X.K) := by
  intro pins s σ H x y v u Q I rx ry h
  rcases h with ⟨a, b, xs, ys, rfl, rfl, ha, hb, hn, q⟩ | h
  · cases (show v = Value.ref a from rx)
    cases (show u = Value.ref b from ry)
    obtain ⟨us, r1, p1, _⟩ := I.list ha
    obtain ⟨ws, r2, p2, _⟩ := I.list hb
    refine rc_lists_ne p1.isList p2.isList ?_ (by omega) _ _ ⟨.bl _, H, I, rfl, q⟩
    rw [List.size_toArray, List.size_toArray, ← r1.length, ← r2.length]
    exact hn
  · exact op_eqD hu pins s σ H x y v u Q I rx ry h
/-- a list of anything and the empty one -/
def gEqE : List D → Option W
  | [.lst (_ :: _), .lst []] => some (.v (.bl false))
  | ds => gEq ds
theorem cd_eqE {K : PySem.W.Frag} : CaD K (r2 (rEqE K)) gEqE := by
  intro F H vs ds w Q e vw hg q
  unfold gEqE at hg
  split at hg
  · rename_i d ds
    obtain ⟨x, y, rfl, hx, hy⟩ := vw.two
    obtain ⟨a, us, rfl, ha, ra⟩ := hx
    obtain ⟨b, ws, rfl, hb, rb⟩ := hy
    cases hg
    refine ⟨_, _, rfl, .inl ⟨a, b, us, ws, rfl, rfl, .inl ha, .inl hb, ?_, fin_bl e q⟩⟩
    rw [ra.length, rb.length]
    simp
  · obtain ⟨x, y, e1, h⟩ := cd_eq F H vs _ w Q e vw hg q
    exact ⟨x, y, e1, .inr h⟩
@[simp] theorem gEqE_cons (d : D) (ds : List D) : gEqE [.lst (d :: ds), .lst []] = some (.v (.bl false)) := rfl
@[simp] theorem gEqE_nil : gEqE [.lst [], .lst []] = some (.v (.bl true)) := by
  have h : gEq [D.lst ([] : List D), D.lst []] = _ := gEq_en (en_lst en_int) ([] : List Int) []
  simpa [gEqE] using h
theorem gEqE_app (ds : List D) (d : D) : gEqE [.lst (ds ++ [d]), .lst []] = some (.v (.bl false)) := by
  cases ds <;> rfl
end
end DL

/-! x.extend(a list just made), int(a truth), a def that goes on for ever -/
namespace DL
open PySem PySem.Spec PyProof.Rows L2
def eExt (i : Nat) (fe : M U) : M U := fun env => match env[i]? with
  | some (some (.l _ _)) => (fe env).bind fun u e1 => match u with
    | .w (.l _ zs) => (match e1[i]? with
      | some (some (.l b2 ds2)) => if ds2.length + zs.length ≤ 1000000 then .ok (.w (.v .non)) (e1.set i (some (.l b2 (ds2 ++ zs)))) else .stuck
      | _ => .stuck)
    | _ => .stuck
  | _ => .stuck
section
variable {X : Cx} {Wx : WX} {e k : Expr} {fe fk : M U} {i : Nat} {x : Str} {pos p1 apos cpos tpos : Pos}
theorem e_ext (he : EvS X Wx e fe) (hN : X.N[i]? = some x := by rfl) (hv : Vis X.env.scope x := by first | exact Or.inl rfl | exact Or.inr (Or.inl rfl) | exact Or.inr (Or.inr rfl)) (hd : (x == ("__debug__" : Str)) = false := by decide) (hcd : (x == ("__classdict__" : Str)) = false := by decide)
    (hs0 : starEach [e] X.env = (false, eval e X.env) :: starEach [] X.env := by rfl)
    (hbase : attributeBase (.Name x p1) "extend" X.env (eval (.Name x p1) X.env) = eval (.Name x p1) X.env := by rfl)
    (hfew : ((backTo cpos (starEach [e] X.env)).all (fun x => !x.1) && (backToKw cpos (keywordEach [] X.env)).all (fun x => x.1.isSome)
      && decide ([e].length + ([] : List Keyword).length + (if ([] : List Keyword).isEmpty then 0 else 1) < 30)) = true := by rfl)
    (hline : (apos.endLine == cpos.line) = true := by rfl) (hplain : (backTo cpos (starEach [] X.env)).any (·.1) = false := by rfl) :
    EvS X Wx (.Call (.Attribute (.Name x p1) "extend" apos) [e] [] cpos) (eExt i fe) :=
  PE.imp (pe_bm PySem.F.plainAttrs_list PySem.F.slot_list_extend PySem.F.type_list_extend mt_extend (pe_var hN hv hd hcd) (pa_cons he pa_nil hs0) hbase hfew hline hs0 hplain) fun σ H Q h => by
  obtain ⟨F, env, own, S, h⟩ := h
  unfold eExt at h
  split at h
  · rename_i u env' heq
    split at heq
    · rename_i b ds hw
      obtain ⟨v, hv, a, vs, rfl, hp, hH, hF, r0⟩ := S.rep i _ hw
      refine ⟨.ref a, hv, Or.inl ⟨rfl, vs, .inl (.inl hH)⟩, ?_⟩
      refine tOf_use S (fun u' env1 e1 v1 F1 H1 own1 p O1 => ?_) (fun c env1 e1 C F1 H1 own1 => ?_) (fun e1 => ?_)
      · rw [e1, R.bind_ok] at heq
        split at heq
        · rename_i b1 zs
          split at heq
          · rename_i b2 ds2 hw2
            split at heq
            · rename_i hl
              cases heq
              obtain ⟨az, vz, rfl, hpz, hHz, hFz, rz⟩ := O1.r
              obtain ⟨v2, hv2, a2, vs2, ev2, hp2, hH2, hF2, r3⟩ := O1.S.rep i _ hw2
              rw [hv] at hv2
              cases hv2
              cases ev2
              refine ⟨a, az, vs2, vz, rfl, rfl, hH2, hHz, by rw [r3.length, rz.length]; exact Nat.le_trans hl (by decide), ?_⟩
              have O3 := O1.S.mut hw2 hv (r3.append rz)
              exact h _ _ _ _ _ ((Grow.refl O3.S.ex).out (O1.drop.trans O3) RepW.ofNon)
            · cases heq
          · cases heq
        · cases heq
      · rw [e1] at heq; cases heq
      · rw [e1] at heq; cases heq
    · cases heq
  · rename_i c env' heq
    split at heq
    · rename_i b ds hw
      obtain ⟨v, hv, a, vs, rfl, hp, hH, hF, r0⟩ := S.rep i _ hw
      refine ⟨.ref a, hv, Or.inl ⟨rfl, vs, .inl (.inl hH)⟩, ?_⟩
      refine tOf_use S (fun u' env1 e1 v1 F1 H1 own1 p O1 => ?_) (fun c env1 e1 C F1 H1 own1 => ?_) (fun e1 => ?_)
      · rw [e1, R.bind_ok] at heq
        split at heq
        · split at heq
          · split at heq <;> cases heq
          · cases heq
        · cases heq
      · rw [e1, R.bind_raise] at heq
        cases heq
        exact h C F1 H1 own1
      · rw [e1] at heq; cases heq
    · cases heq
  · exact h.elim
end
@[simp ↓] theorem eExt_ap (i : Nat) (fe : M U) (env : DEnv) : eExt i fe env = (match env[i]? with
  | some (some (.l _ _)) => (fe env).bind fun u e1 => match u with
    | .w (.l _ zs) => (match e1[i]? with
      | some (some (.l b2 ds2)) => if ds2.length + zs.length ≤ 1000000 then .ok (.w (.v .non)) (e1.set i (some (.l b2 (ds2 ++ zs)))) else .stuck
      | _ => .stuck)
    | _ => .stuck
  | _ => .stuck : R U) := Eq.trans rfl rfl
/-! int(a truth) -/
def gIntB : List D → Option W
  | [.bl b] => some (.v (.int (if b = true then 1 else 0)))
  | _ => none
theorem cd_intB {K : PySem.W.Frag} : CaD K (fun xs H Q => (∃ i, xs = [V.int i] ∧ Q (.int i) H) ∨ ∃ k, xs = [V.bl k] ∧ Q (.int (if k then 1 else 0)) H) gIntB := by
  intro F H vs ds w Q e vw hg q
  unfold gIntB at hg
  split at hg
  · rename_i b
    obtain ⟨x, rfl, hx⟩ := vw.one
    cases hg
    cases hx
    exact .inr ⟨b, rfl, fin_int e q⟩
  · cases hg
@[simp] theorem gIntB_c (b : Bool) : gIntB [.bl b] = some (.v (.int (if b = true then 1 else 0))) := Eq.trans rfl rfl
/-! a def at depth 0 -/
theorem fn_stuck {P : Program} {w : World} {K : PySem.W.Frag} {mg : Str → Option Value} {base : Heap} {x qual : Str} {st : Stmt} {f : Addr} {fd : FuncData} {N ps : List Str} {k : Nat} (F : Fun K x qual st f fd) (S : FnScope N ps (defScope st)) : FnS P w K mg base (k + 1) f fd ps (fun _ => .stuck) := by
  refine F.okX S (fun vs H Q E h => h.1) (fun cdv A outer s H vs Q E hr h => ?_)
  obtain ⟨hl, F0, ws, own, SA, h⟩ := h
  exact h.elim
end DL

/-! sorted of a tuple of ints -/
namespace SrtO
open PySem PyProof.Rows Srt
section
variable {prog : Program} {w : World} {A : Around} {E : Value → Shared → Prop} {s : Shared}
theorem collect_tup {l : Addr} {vs : List Value} {Q : List Value → Shared → Prop} (hl : IsTup s.heap l vs.toArray)
    (h : Q vs { s with heap := (s.heap.push (seqObj "list" #[] 0)).update s.heap.objs.size (Obj.mapSeq (· ++ vs.toArray)) }) (hsz : vs.length ≤ sizeLine) :
    wpAny (model prog w) A (collect (.ref l)) Q E s := by
  obtain ⟨o, ho, hc, n, hd⟩ := id hl
  unfold collect
  refine wpAny_bind (wpAny_runValue (codeAny_builtin entry_proto_collect' ?_))
  show wpAny _ _ (do again (.builtin "list.__iadd__" ⟨[← newList [], .ref l], []⟩)) _ _ s
  refine wpAny_bind (wpAny_newList (wpAny_pure ⟨Code.quiet_builtin _ (by decide +kernel), codeAny_builtin entry_list_iadd' ?_⟩))
  show wpAny _ _ (Builtin.List.listExtendWith (.ref s.heap.objs.size) (.ref l) (.ref s.heap.objs.size)) _ _ { s with heap := s.heap.push (seqObj "list" #[] 0) }
  unfold Builtin.List.listExtendWith
  have ho' : (s.heap.push (seqObj "list" #[] 0)).get? l = some o := Heap.get?_push_of_some _ ho
  refine wpAny_bind (wpAny_typeOf (T := "tuple") ⟨o, ho', hc⟩ ?_)
  have ht : (Value.type "tuple" == Value.type "tuple") = true := by rfl
  rw [if_pos (by rw [ht]; simp)]
  refine wpAny_bind (listItems_at ho' hd ?_)
  refine wpAny_bind (listItems_at (xs := #[]) (n := 0) (Heap.get?_push_size _ rfl) rfl ?_)
  rw [if_neg (by simp)]
  refine wpAny_bind (listUpdate_at (xs := #[]) (n := 0) (Heap.get?_push_size _ rfl) rfl ?_ (Nat.zero_le _) (by show (#[] ++ vs.toArray).size ≤ sizeLine + 1; simp only [Array.size_append, List.size_toArray, List.length_nil]; omega))
  refine wpAny_pure ?_
  show wpAny (model prog w) A (do
      let o ← load s.heap.objs.size
      match o.data with
      | .seq xs _ => pure xs.toList
      | _ => unsupported "internal:collect") Q E { s with heap := (s.heap.push (seqObj "list" #[] 0)).update s.heap.objs.size (Obj.mapSeq (· ++ vs.toArray)) }
  refine wpAny_bind (wpAny_load (get?_update_seq (Heap.get?_push_size _ rfl) _) ?_)
  show wpAny _ _ (pure ((#[] : Array Value) ++ vs.toArray).toList) Q E _
  rw [show ((#[] : Array Value) ++ vs.toArray).toList = vs by simp]
  exact wpAny_pure h
theorem sorted_ordT {l : Addr} {vs : List Value} {ltv : Value → Value → Bool} {Q : Value → Shared → Prop} (O : Swo ltv) (hl : IsTup s.heap l vs.toArray) (hz : vs.length ≤ sizeLine)
    (hS : 2 ≤ vs.length → ∀ (h₁ : Heap) (a : Addr), h₁.get? a = some (seqObj "list" vs.toArray 0) → (∀ b o, s.heap.get? b = some o → b ≠ a ∧ h₁.get? b = some o) → SortableO prog w A.in1.in1 { s with heap := h₁ } a vs ltv)
    (h : ∀ out : List Value, Srtd ltv out → Stb ltv out vs → Q (.ref (s.heap.objs.size + 1)) { s with heap := sortedAll s.heap vs out.toArray }) :
    wpAny (model prog w) A (call (.builtin "sorted") [.ref l]) Q E s := by
  refine Calls.call_function_entry kind_sorted plain_sorted entry_sorted (args_sorted1 _) ?_
  unfold Builtin.«sorted»
  refine wpAny_bind (m := checkCount "sorted" 1 1 _) (wpAny_pure ?_)
  refine wpAny_bind (collect_tup hl ?_ hz)
  refine wpAny_bind (wpAny_newList ?_ hz)
  have hsz : ((s.heap.push (seqObj "list" #[] 0)).update s.heap.objs.size (Obj.mapSeq (· ++ vs.toArray))).objs.size = s.heap.objs.size + 1 := by
    rw [Heap.size_update, size_push']
  have hoL : (((s.heap.push (seqObj "list" #[] 0)).update s.heap.objs.size (Obj.mapSeq (· ++ vs.toArray))).push (seqObj "list" vs.toArray 0)).get? (s.heap.objs.size + 1) = some (seqObj "list" vs.toArray 0) := by
    rw [← hsz]; exact Heap.get?_push_size _ rfl
  have keep : ∀ b o, s.heap.get? b = some o → b ≠ s.heap.objs.size + 1 ∧ (((s.heap.push (seqObj "list" #[] 0)).update s.heap.objs.size (Obj.mapSeq (· ++ vs.toArray))).push (seqObj "list" vs.toArray 0)).get? b = some o := fun b o q => by
    have hlt : b < s.heap.objs.size := Heap.lt_size q
    refine ⟨Nat.ne_of_lt (Nat.lt_succ_of_lt hlt), Heap.get?_push_of_some _ ?_⟩
    rw [Heap.get?_update_ne _ _ _ _ (Nat.ne_of_lt hlt)]
    exact Heap.get?_push_of_some _ q
  show wpAny _ _ _ _ _ { s with heap := ((s.heap.push (seqObj "list" #[] 0)).update s.heap.objs.size (Obj.mapSeq (· ++ vs.toArray))).push (seqObj "list" vs.toArray 0) }
  rw [hsz]
  refine wpAny_bind (wpAny_holding (wpAny_call_entry slot_list_sort ⟨_, hoL, rfl⟩ entry_list_sort (list_sort_ord O hoL hz (fun h2 => hS h2 _ _ hoL keep) fun out hs hb => ⟨_, rfl, ?_⟩) (args_list_sort _)))
  exact wpAny_pure ⟨_, rfl, h out hs hb⟩
end
end SrtO
namespace DL
open PySem PySem.Spec PyProof.Rows L2
section
variable {X : Cx}
def rSortedIT (K : PySem.W.Frag) : List V → Hp → VK → Prop := fun vs H Q => ∃ (a : Addr) (ns : List Int), vs = [V.ref a] ∧ SqT K H a (ns.map V.int) ∧
  ∀ (ns' : List Int) (p : Addr), ns'.Perm ns → ns'.Pairwise (· ≤ ·) → H p = none → Q (.ref p) (upd H p (.lst (ns'.map V.int)))
theorem cr_sortedIT : CallR X (.builtin "sorted") (rSortedIT X.K) := by
  intro pins s σ H vs us Q I r h
  obtain ⟨a, ns, rfl, hs, q⟩ := h
  obtain ⟨its, rv, hl, hz⟩ := I.tuple hs
  rw [Vals.ref1 r]
  have hi := rv.ints
  refine SrtO.sorted_ordT SrtO.swo_int hl (by rw [← rv.length]; exact hz) (fun h2 h₁ a' _ _ => SrtO.ints_sortable hi h2) fun out h1 h2 => ?_
  obtain ⟨k1, k2, k3⟩ := SrtO.ints_out hi h1 h2
  obtain ⟨ep, he'⟩ := PyProof.Rows.sortedAll_at s.heap its out.toArray
  have hlen : ((out.map SrtO.iv).map V.int).length ≤ sizeLine := by
    rw [List.length_map, k2.length_eq]
    rw [List.length_map] at hz
    exact hz
  exact ⟨.ref _, upd H (s.heap.objs.size + 1) (.lst ((out.map SrtO.iv).map V.int)), I.laid (t' := s.toks) (fun _ _ => PyProof.Rows.sortedAll_old) (Nat.le_succ _) ⟨hlen, out, ep, vals_of_ints k1, he'⟩, rfl, q _ _ k2 k3 (I.hok.fresh (Nat.le_succ _))⟩
def gSortIT : List D → Option W
  | [.tup ds] => (intsOf ds).map fun ns => .l false ((sortI ns).map D.int)
  | _ => none
theorem cd_sortIT {K : PySem.W.Frag} : CaD K (rSortedIT K) gSortIT := by
  intro F H vs ds w Q e vw hg q
  unfold gSortIT at hg
  split at hg
  · obtain ⟨x, rfl, hx⟩ := vw.one
    obtain ⟨ns, h1, rfl⟩ := Option.map_eq_some_iff.mp hg
    cases hx with
    | tup h2 r =>
      rw [intsOf_eq h1] at r
      have := r.ints
      subst this
      refine ⟨_, ns, rfl, .inl (.inl (e _ _ h2)), fun ns' p hp hs hn => ?_⟩
      have en : ns' = sortI ns := sorted_uniq hs (sortI_sorted ns) (hp.trans (sortI_perm ns).symm)
      subst en
      exact fin_lst e (RepDs.of_ints _) q p hn
  · cases hg
@[simp] theorem gSortIT_c (ns : List Int) : gSortIT [.tup (ns.map D.int)] = some (.l false ((sortI ns).map D.int)) := by
  unfold gSortIT
  simp
end
end DL

namespace Lw
open PySem PySem.Spec PyProof.Rows L2 DL
def topS (i : Nat) : Stmt := PySem.Challenge.pw_chairline_k62_great_counts.main.body.getD i (.Pass ⟨0, 0, 0, 0⟩)
def raisedL : List Str := ["BadLoader", "BadPlace", "BadSeen", "Full"]
def testedL : List Str := ["BadLoader", "BadLine", "BadNumber", "BadPlace", "BadLoading", "BadWeights", "BadDay", "BadSeen", "Full", "NoBack", "BadText"]
abbrev ns_Lines : List Str := ["loader", "seen", "place", "size", "known", "first"]
theorem nd_Lines : ns_Lines.Nodup := by decide +kernel
structure Facts (K : PySem.W.Frag) (mg : Str → Option Value) : Prop where
  b_ValueError : mg "ValueError" = none
  b_all : mg "all" = none
  b_bool : mg "bool" = none
  b_enumerate : mg "enumerate" = none
  b_int : mg "int" = none
  b_isinstance : mg "isinstance" = none
  b_len : mg "len" = none
  b_list : mg "list" = none
  b_range : mg "range" = none
  b_sorted : mg "sorted" = none
  b_sum : mg "sum" = none
  b_tuple : mg "tuple" = none
  b_zip : mg "zip" = none
  c_MOST : ∃ t, mg "MOST" = some (.int 300 t)
  n_BadDay : Nam K mg "BadDay"
  n_BadLine : Nam K mg "BadLine"
  n_BadLoader : Nam K mg "BadLoader"
  n_BadLoading : Nam K mg "BadLoading"
  n_BadNumber : Nam K mg "BadNumber"
  n_BadPlace : Nam K mg "BadPlace"
  n_BadSeen : Nam K mg "BadSeen"
  n_BadText : Nam K mg "BadText"
  n_BadWeights : Nam K mg "BadWeights"
  n_Full : Nam K mg "Full"
  n_NoBack : Nam K mg "NoBack"
  cat_ChairError : CatTab K mg "ChairError" raisedL
  tab : ExcTab K raisedL testedL
  e_BadLoader : Exn K mg "BadLoader"
  e_BadPlace : Exn K mg "BadPlace"
  e_BadSeen : Exn K mg "BadSeen"
  e_Full : Exn K mg "Full"
  k_Lines : ClsF K "Lines" ns_Lines
section
variable {P : Program} {w : World} {K : PySem.W.Frag} {mg : Str → Option Value} {base : Heap}
/-! is_whole -/
abbrev s_is_whole : Stmt := topS 14
theorem sc_is_whole : FnScope ["thing", "least", "most"] ["thing", "least", "most"] (defScope s_is_whole) := ⟨rfl, rfl, rfl, by decide +kernel, rfl, by decide +kernel, by decide +kernel⟩
abbrev is_is_whole : List Nat := []
noncomputable def b_is_whole : M Fl :=
  (sRet (vAnd (opN gIsi [(eVar 0), (eD (.ty "int"))]) (vAnd (opN gNot [(opN gIsi [(eVar 0), (eD (.ty "bool"))])]) (vChain gLe gLe (eVar 1) (eVar 0) (eVar 2)))))
noncomputable def g_is_whole : List W → RF := mkFn is_is_whole 3 3 b_is_whole
theorem ok_is_whole {f : Addr} {fd : FuncData} (T : Facts K mg) (F : Fun K "is_whole" "is_whole" s_is_whole f fd) : FnS P w K mg base 1 f fd ["thing", "least", "most"] g_is_whole := by
  refine fn_ok (is := is_is_whole) F sc_is_whole (fun cdv A outer s H E hr => ?_)
  have nd := sc_is_whole.nd
  have tk : Takes (cxOf (L2.CX P w) P w K mg base ["thing", "least", "most"] "is_whole" (defScope s_is_whole) f cdv A outer s H E) (fun c d _ H => E c d H) := takes_of rfl rfl rfl rfl
  show SsS _ _ _ [] _
  exact (ss_one (s_ret (e_and (e_callB call_isi cd_isi (by rfl) T.b_isinstance (by decide +kernel) (ea_cons (e_var 0) (ea_cons (e_bltn (v := .ty "int") (by rfl) T.b_int (by decide +kernel) rfl (fun _ => .ty "int")) ea_nil))) (e_and (e_not (e_callB call_isi cd_isi (by rfl) T.b_isinstance (by decide +kernel) (ea_cons (e_var 0) (ea_cons (e_bltn (v := .ty "bool") (by rfl) T.b_bool (by decide +kernel) rfl (fun _ => .ty "bool")) ea_nil)))) (e_one (e_chain op_le op_le cd_cmp cd_cmp (e_var 1) (e_var 0) (e_var 2)))))))
/-! next_of -/
abbrev s_next_of : Stmt := topS 17
theorem sc_next_of : FnScope ["loader", "rows", "room", "at", "number", "size", "passes"] ["loader", "rows", "room"] (defScope s_next_of) := ⟨rfl, rfl, rfl, by decide +kernel, rfl, by decide +kernel, by decide +kernel⟩
noncomputable def lb_next_of_0 : M Fl :=
  (sSeq (sIf (tst (opN gLe [(eVar 5), (eVar 2)])) (sRet (eVar 3)) sNext)
    (sIf (tst (opN gGe [(eVar 6), (opN gIx [(eVar 0), (eD (.int 2))])])) (sRet (eD .non)) sNext))
noncomputable def m_next_of_0 : MT :=
  (mTup (mCons (mName 3) (mCons (mTup (mCons (mName 4) (mCons (mName 5) (mCons (mName 6) mNil))) 3) mNil)) 2)
abbrev is_next_of : List Nat := ((([3] ++ (([4] ++ ([5] ++ ([6] ++ []))) ++ [])) ++ (([] ++ []) ++ ([] ++ []))) ++ [])
noncomputable def b_next_of : M Fl :=
  (sSeq (sFor (iterEnum (opN gSlH [(eVar 1), (opN gAdd [(opN gIx [(eVar 0), (eD (.int 1))]), (eD (.int 1))])])) m_next_of_0 lb_next_of_0)
    (sRet (eD .non)))
noncomputable def g_next_of : List W → RF := mkFn is_next_of 3 7 b_next_of
theorem ok_next_of {f : Addr} {fd : FuncData} (T : Facts K mg) (F : Fun K "next_of" "next_of" s_next_of f fd) : FnS P w K mg base 1 f fd ["loader", "rows", "room"] g_next_of := by
  refine fn_ok (is := is_next_of) F sc_next_of (fun cdv A outer s H E hr => ?_)
  have nd := sc_next_of.nd
  have tk : Takes (cxOf (L2.CX P w) P w K mg base ["loader", "rows", "room", "at", "number", "size", "passes"] "next_of" (defScope s_next_of) f cdv A outer s H E) (fun c d _ H => E c d H) := takes_of rfl rfl rfl rfl
  show SsS _ _ _ ((([3] ++ (([4] ++ ([5] ++ ([6] ++ []))) ++ [])) ++ (([] ++ []) ++ ([] ++ []))) ++ []) _
  exact (ss_cons (s_for (passes_of rfl) rfl (i_enum (by rfl) T.b_enumerate (e_slH (e_var 1) (e_bin op_addA cd_add (e_ix ix_seq cd_ix (e_var 0) e_int (fun _ _ => rfl)) e_int))) (g_tup rfl (gs_cons (g_name (i := 3) nd rfl (by first | exact Or.inl rfl | exact Or.inr rfl)) (gs_cons (g_tup rfl (gs_cons (g_name (i := 4) nd rfl (by first | exact Or.inl rfl | exact Or.inr rfl)) (gs_cons (g_name (i := 5) nd rfl (by first | exact Or.inl rfl | exact Or.inr rfl)) (gs_cons (g_name (i := 6) nd rfl (by first | exact Or.inl rfl | exact Or.inr rfl)) gs_nil)))) gs_nil))) (ss_cons (s_if (t_cmp op_le cd_cmp (e_var 5) (e_var 2) (nomark _)) (ss_one (s_ret (e_var 3))) ss_nil)
    (ss_one (s_if (t_cmp op_ge cd_cmp (e_var 6) (e_ix ix_seq cd_ix (e_var 0) e_int (fun _ _ => rfl)) (nomark _)) (ss_one (s_ret e_non)) ss_nil))))
    (ss_one (s_ret e_non)))
/-! Lines.__init__ -/
abbrev s_Lines_new : Stmt := inClass (topS 22) 0
theorem sc_Lines_new : FnScope ["self", "loader", "seen", "place", "size", "every", "chair", "one"] ["self", "loader", "seen", "place", "size"] (defScope s_Lines_new) := ⟨rfl, rfl, rfl, by decide +kernel, rfl, by decide +kernel, by decide +kernel⟩
abbrev is_Lines_new : List Nat := ([] ++ ([] ++ ([] ++ ([] ++ ([] ++ ([5] ++ []))))))
noncomputable def b_Lines_new : M Fl :=
  (sSeq (sFldS 0 "Lines" ns_Lines 0 (eVar 1))
    (sSeq (sFldS 0 "Lines" ns_Lines 1 (eVar 2))
    (sSeq (sFldS 0 "Lines" ns_Lines 2 (eVar 3))
    (sSeq (sFldS 0 "Lines" ns_Lines 3 (eVar 4))
    (sSeq (sFldS 0 "Lines" ns_Lines 4 (eXNew false))
    (sSeq (sSet 5 (eComp2 (iterSeq (eVar 2)) (([("chair", 6), ("one", 7)] : List (Str × Nat)).map (·.2)) [7] (mName 6) (iterSeq (eVar 6)) (mName 7) (eVar 7)))
    (sFldS 0 "Lines" ns_Lines 5 (dTup [(dTup []), (opN gTuple [(eComp (iterR2 (eD (.int 1)) (opN gAdd [(opN gIx [(eVar 1), (eD (.int 0))]), (eD (.int 1))])) (([("one", 7)] : List (Str × Nat)).map (·.2)) (mName 7) tYesD (opM gCnt (eVar 5) (eVar 7)))]), (dTup []), (eD (.int 0))]))))))))
noncomputable def g_Lines_new : List W → RF := mkFn is_Lines_new 5 8 b_Lines_new
theorem ok_Lines_new {f : Addr} {fd : FuncData} (T : Facts K mg) (F : Fun K "__init__" "Lines.__init__" s_Lines_new f fd) : FnS P w K mg base 1 f fd ["self", "loader", "seen", "place", "size"] g_Lines_new := by
  refine fn_ok (is := is_Lines_new) F sc_Lines_new (fun cdv A outer s H E hr => ?_)
  have nd := sc_Lines_new.nd
  have tk : Takes (cxOf (L2.CX P w) P w K mg base ["self", "loader", "seen", "place", "size", "every", "chair", "one"] "Lines.__init__" (defScope s_Lines_new) f cdv A outer s H E) (fun c d _ H => E c d H) := takes_of rfl rfl rfl rfl
  show SsS _ _ _ ([] ++ ([] ++ ([] ++ ([] ++ ([] ++ ([5] ++ [])))))) _
  exact (ss_cons (s_fldS (i := 0) (c := "Lines") (ns := ns_Lines) (j := 0) T.k_Lines nd_Lines rfl (by decide) (e_var 1))
    (ss_cons (s_fldS (i := 0) (c := "Lines") (ns := ns_Lines) (j := 1) T.k_Lines nd_Lines rfl (by decide) (e_var 2))
    (ss_cons (s_fldS (i := 0) (c := "Lines") (ns := ns_Lines) (j := 2) T.k_Lines nd_Lines rfl (by decide) (e_var 3))
    (ss_cons (s_fldS (i := 0) (c := "Lines") (ns := ns_Lines) (j := 3) T.k_Lines nd_Lines rfl (by decide) (e_var 4))
    (ss_cons (s_fldS (i := 0) (c := "Lines") (ns := ns_Lines) (j := 4) T.k_Lines nd_Lines rfl (by decide) e_xnew)
    (ss_cons (s_set (i := 5) nd rfl (by first | exact Or.inl rfl | exact Or.inr rfl) (e_comp2 (vs1 := [7]) rfl nd (i_seq (e_var 2)) (blkOk_by (own := [("chair", 6), ("one", 7)]) (by with_unfolding_all rfl)) (by decide) (fun _ _ _ _ _ => (g_name (i := 6) nd rfl (by first | exact Or.inl rfl | exact Or.inr rfl))) (fun _ _ _ _ _ => (i_seq (e_var 6))) (fun _ _ _ _ _ => (g_name (i := 7) nd rfl (by first | exact Or.inl rfl | exact Or.inr rfl))) (fun _ _ _ _ _ => (e_var 7)) (by decide) (by decide)))
    (ss_one (s_fldS (i := 0) (c := "Lines") (ns := ns_Lines) (j := 5) T.k_Lines nd_Lines rfl (by decide) (e_tup (ea_cons (e_tup ea_nil) (ea_cons (e_callTy call_tuple_of cd_tuple (by rfl) T.b_tuple (by decide +kernel) (ea_cons (e_comp rfl nd (i_range2 (by rfl) T.b_range e_int (e_bin op_addA cd_add (e_ix ix_seq cd_ix (e_var 1) e_int (fun _ _ => rfl)) e_int)) (blkOk_by (own := [("one", 7)]) (by with_unfolding_all rfl)) (fun _ _ _ _ _ => (g_name (i := 7) nd rfl (by first | exact Or.inl rfl | exact Or.inr rfl))) (fun _ _ _ _ _ => (e_meth PySem.F.slot_list_count PySem.F.type_list_count mt_lcount cd_cnt (e_var 5) (e_var 7))) (by decide)) ea_nil)) (ea_cons (e_tup ea_nil) (ea_cons e_int ea_nil)))))))))))))
/-! Lines.readings -/
abbrev s_Lines_readings : Stmt := inClass (topS 22) 1
theorem sc_Lines_readings : FnScope ["self", "state", "rows", "left", "sit", "chair", "at", "one", "found", "size", "many", "later"] ["self", "state"] (defScope s_Lines_readings) := ⟨rfl, rfl, rfl, by decide +kernel, rfl, by decide +kernel, by decide +kernel⟩
noncomputable def lb_Lines_readings_0 : M Fl :=
  (sIf (tAndD (tst (opN gGt [(eVar 10), (eD (.int 0))])) (tOrD (tst (opN gNe [(eVar 6), (eG (fG 0 "Lines" ns_Lines 2))])) (tst (opN gEq [(opN gAdd [(eVar 9), (eD (.int 1))]), (eG (fG 0 "Lines" ns_Lines 3))])))) (sSeq (sSet 11 (opN gAdd [(opN gAdd [(opN gSlH [(eVar 3), (eVar 9)]), (dTup [(opN gSub [(eVar 10), (eD (.int 1))])])]), (opN gSlL [(eVar 3), (opN gAdd [(eVar 9), (eD (.int 1))])])]))
    (sExpr (eApp 8 (dTup [(opN gAdd [(eVar 9), (eD (.int 1))]), (dTup [(opN gAdd [(eVar 2), (dTup [(dTup [(opN gAdd [(eVar 9), (eD (.int 1))]), (eD (.int 0))])])]), (eVar 11), (eVar 4), (eVar 5)])])))) sNext)
noncomputable def m_Lines_readings_0 : MT :=
  (mTup (mCons (mName 9) (mCons (mName 10) mNil)) 2)
abbrev is_Lines_readings : List Nat := (([2] ++ ([3] ++ ([4] ++ ([5] ++ [])))) ++ ([6] ++ ([8] ++ ((([9] ++ ([10] ++ [])) ++ (([11] ++ []) ++ [])) ++ []))))
noncomputable def b_Lines_readings : M Fl :=
  (sSeq (sTgt (mTup (mCons (mName 2) (mCons (mName 3) (mCons (mName 4) (mCons (mName 5) mNil)))) 4) (eVar 1))
    (sSeq (sSet 6 (opN gSub [(opN gSum [(eComp (iterSeq (eG (fG 0 "Lines" ns_Lines 1))) (([("one", 7)] : List (Str × Nat)).map (·.2)) (mName 7) tYesD (opN gLen [(eVar 7)]))]), (opN gSum [(eVar 3)])]))
    (sSeq (sSet 8 (dLst []))
    (sSeq (sFor (iterEnum (eVar 3)) m_Lines_readings_0 lb_Lines_readings_0)
    (sRet (eVar 8))))))
noncomputable def g_Lines_readings : List W → RF := mkFn is_Lines_readings 2 12 b_Lines_readings
theorem ok_Lines_readings {f : Addr} {fd : FuncData} (T : Facts K mg) (F : Fun K "readings" "Lines.readings" s_Lines_readings f fd) : FnS P w K mg base 1 f fd ["self", "state"] g_Lines_readings := by
  refine fn_ok (is := is_Lines_readings) F sc_Lines_readings (fun cdv A outer s H E hr => ?_)
  have nd := sc_Lines_readings.nd
  have tk : Takes (cxOf (L2.CX P w) P w K mg base ["self", "state", "rows", "left", "sit", "chair", "at", "one", "found", "size", "many", "later"] "Lines.readings" (defScope s_Lines_readings) f cdv A outer s H E) (fun c d _ H => E c d H) := takes_of rfl rfl rfl rfl
  show SsS _ _ _ (([2] ++ ([3] ++ ([4] ++ ([5] ++ [])))) ++ ([6] ++ ([8] ++ ((([9] ++ ([10] ++ [])) ++ (([11] ++ []) ++ [])) ++ [])))) _
  exact (ss_cons (s_tgt (e_var 1) (g_tup rfl (gs_cons (g_name (i := 2) nd rfl (by first | exact Or.inl rfl | exact Or.inr rfl)) (gs_cons (g_name (i := 3) nd rfl (by first | exact Or.inl rfl | exact Or.inr rfl)) (gs_cons (g_name (i := 4) nd rfl (by first | exact Or.inl rfl | exact Or.inr rfl)) (gs_cons (g_name (i := 5) nd rfl (by first | exact Or.inl rfl | exact Or.inr rfl)) gs_nil))))))
    (ss_cons (s_set (i := 6) nd rfl (by first | exact Or.inl rfl | exact Or.inr rfl) (e_bin op_sub cd_sub (e_callB (cr_sumA rfl) cd_sum (by rfl) T.b_sum (by decide +kernel) (ea_cons (e_comp rfl nd (i_seq (e_g (g_fld (i := 0) (c := "Lines") (ns := ns_Lines) (j := 1) T.k_Lines nd_Lines rfl))) (blkOk_by (own := [("one", 7)]) (by with_unfolding_all rfl)) (fun _ _ _ _ _ => (g_name (i := 7) nd rfl (by first | exact Or.inl rfl | exact Or.inr rfl))) (fun _ _ _ _ _ => (e_callB call_lenA cd_len (by rfl) T.b_len (by decide +kernel) (ea_cons (e_var 7) ea_nil))) (by decide)) ea_nil)) (e_callB (cr_sumA rfl) cd_sum (by rfl) T.b_sum (by decide +kernel) (ea_cons (e_var 3) ea_nil))))
    (ss_cons (s_set (i := 8) nd rfl (by first | exact Or.inl rfl | exact Or.inr rfl) (e_lst ea_nil))
    (ss_cons (s_for (passes_of rfl) rfl (i_enum (by rfl) T.b_enumerate (e_var 3)) (g_tup rfl (gs_cons (g_name (i := 9) nd rfl (by first | exact Or.inl rfl | exact Or.inr rfl)) (gs_cons (g_name (i := 10) nd rfl (by first | exact Or.inl rfl | exact Or.inr rfl)) gs_nil))) (ss_one (s_if (t_w (w_and (t_cmp op_gt cd_cmp (e_var 10) e_int (nomark _)) (w_and1 (t_w (w_or (t_cmp (op_neD hr.units) cd_ne (e_var 6) (e_g (g_fld (i := 0) (c := "Lines") (ns := ns_Lines) (j := 2) T.k_Lines nd_Lines rfl)) (nomark _)) (w_or1 (t_cmp (op_eqD hr.units) cd_eq (e_bin op_addA cd_add (e_var 9) e_int) (e_g (g_fld (i := 0) (c := "Lines") (ns := ns_Lines) (j := 3) T.k_Lines nd_Lines rfl)) (nomark _)))))))) (ss_cons (s_set (i := 11) nd rfl (by first | exact Or.inl rfl | exact Or.inr rfl) (e_bin op_addA cd_add (e_bin op_addA cd_add (e_slH (e_var 3) (e_var 9)) (e_tup (ea_cons (e_bin op_sub cd_sub (e_var 10) e_int) ea_nil))) (e_slL (e_var 3) (e_bin op_addA cd_add (e_var 9) e_int))))
    (ss_one (s_expr (e_app (i := 8) (he := (e_tup (ea_cons (e_bin op_addA cd_add (e_var 9) e_int) (ea_cons (e_tup (ea_cons (e_bin op_addA cd_add (e_var 2) (e_tup (ea_cons (e_tup (ea_cons (e_bin op_addA cd_add (e_var 9) e_int) (ea_cons e_int ea_nil))) ea_nil))) (ea_cons (e_var 11) (ea_cons (e_var 4) (ea_cons (e_var 5) ea_nil))))) ea_nil)))))))) ss_nil)))
    (ss_one (s_ret (e_var 8)))))))
/-! _law_town -/
abbrev s_law_town : Stmt := topS 29
theorem sc_law_town : FnScope ["script"] ["script"] (defScope s_law_town) := ⟨rfl, rfl, rfl, by decide +kernel, rfl, by decide +kernel, by decide +kernel⟩
abbrev is_law_town : List Nat := []
noncomputable def b_law_town : M Fl :=
  (sRet (opN gAdd [(dLst [(eD (.int 0))]), (opN gList [(eVar 0)])]))
noncomputable def g_law_town : List W → RF := mkFn is_law_town 1 1 b_law_town
theorem ok_law_town {f : Addr} {fd : FuncData} (T : Facts K mg) (F : Fun K "_law_town" "_law_town" s_law_town f fd) : FnS P w K mg base 1 f fd ["script"] g_law_town := by
  refine fn_ok (is := is_law_town) F sc_law_town (fun cdv A outer s H E hr => ?_)
  have nd := sc_law_town.nd
  have tk : Takes (cxOf (L2.CX P w) P w K mg base ["script"] "_law_town" (defScope s_law_town) f cdv A outer s H E) (fun c d _ H => E c d H) := takes_of rfl rfl rfl rfl
  show SsS _ _ _ [] _
  exact (ss_one (s_ret (e_bin op_addA cd_add (e_lst (ea_cons e_int ea_nil)) (e_callTy call_list_of cd_list (by rfl) T.b_list (by decide +kernel) (ea_cons (e_var 0) ea_nil)))))
/-! _law_draw -/
abbrev s_law_draw : Stmt := topS 30
theorem sc_law_draw : FnScope ["script", "town", "many", "at", "left", "number"] ["script", "town", "many"] (defScope s_law_draw) := ⟨rfl, rfl, rfl, by decide +kernel, rfl, by decide +kernel, by decide +kernel⟩
abbrev is_law_draw : List Nat := ([] ++ (([] ++ []) ++ ([3] ++ ([4] ++ ((([] ++ []) ++ []) ++ ([5] ++ ([5] ++ [])))))))
noncomputable def b_law_draw : M Fl :=
  (sSeq (sStore 1 (eD (.int 0)) (opN gAdd [(opN gIx [(eVar 1), (eD (.int 0))]), (eD (.int 1))]))
    (sSeq (sIf (tst (opN gEq [(eVar 0), (dLst [])])) (sRet (opN gMod [(opN gDiv [(opN gMul [(opN gMul [(opN gIx [(eVar 1), (eD (.int 0))]), (opN gIx [(eVar 1), (eD (.int 0))])]), (eD (.int 7))]), (eD (.int 3))]), (eVar 2)])) sNext)
    (sSeq (sSet 3 (opN gMod [(opN gIx [(eVar 1), (eD (.int 0))]), (opN gLen [(eVar 0)])]))
    (sSeq (sSet 4 (opN gIx [(eVar 1), (opN gAdd [(eD (.int 1)), (eVar 3)])]))
    (sSeq (sIf (tAndD (tst (opN gGe [(opN gIx [(eVar 0), (eVar 3)]), (opN gPow [(eD (.int 10)), (eD (.int 18))])])) (tst (opN gGt [(eVar 4), (eD (.int 0))]))) (sSeq (sStore 1 (opN gAdd [(eD (.int 1)), (eVar 3)]) (opN gDiv [(eVar 4), (eVar 2)]))
    (sRet (opN gMod [(eVar 4), (eVar 2)]))) sNext)
    (sSeq (sSet 5 (opN gMod [(opN gAdd [(opN gIx [(eVar 0), (eVar 3)]), (opN gMul [(eD (.int 104729)), (opN gIx [(eVar 1), (eD (.int 0))])])]), (eD (.int 4294967291))]))
    (sSeq (sSet 5 (opN gMod [(opN gPow [(eVar 5), (eD (.int 5))]), (eD (.int 4294967279))]))
    (sRet (opN gMod [(opN gDiv [(opN gMod [(opN gAdd [(opN gMul [(opN gDiv [(eVar 5), (eD (.int 64))]), (eD (.int 69621))]), (eVar 5)]), (eD (.int 4294967231))]), (eD (.int 8))]), (eVar 2)])))))))))
noncomputable def g_law_draw : List W → RF := mkFn is_law_draw 3 6 b_law_draw
theorem ok_law_draw {f : Addr} {fd : FuncData} (T : Facts K mg) (F : Fun K "_law_draw" "_law_draw" s_law_draw f fd) : FnS P w K mg base 1 f fd ["script", "town", "many"] g_law_draw := by
  refine fn_ok (is := is_law_draw) F sc_law_draw (fun cdv A outer s H E hr => ?_)
  have nd := sc_law_draw.nd
  have tk : Takes (cxOf (L2.CX P w) P w K mg base ["script", "town", "many", "at", "left", "number"] "_law_draw" (defScope s_law_draw) f cdv A outer s H E) (fun c d _ H => E c d H) := takes_of rfl rfl rfl rfl
  show SsS _ _ _ ([] ++ (([] ++ []) ++ ([3] ++ ([4] ++ ((([] ++ []) ++ []) ++ ([5] ++ ([5] ++ []))))))) _
  exact (ss_cons (s_store (i := 1) (he := (e_bin op_addA cd_add (e_ix ix_seq cd_ix (e_var 1) e_int (fun _ _ => rfl)) e_int)) (hk := e_int))
    (ss_cons (s_if (t_cmp (op_eqD hr.units) cd_eq (e_var 0) (e_lst ea_nil) (nomark _)) (ss_one (s_ret (e_bin op_mod cd_mod (e_bin op_fdiv cd_div (e_bin op_mulA cd_mul (e_bin op_mulA cd_mul (e_ix ix_seq cd_ix (e_var 1) e_int (fun _ _ => rfl)) (e_ix ix_seq cd_ix (e_var 1) e_int (fun _ _ => rfl))) e_int) e_int) (e_var 2)))) ss_nil)
    (ss_cons (s_set (i := 3) nd rfl (by first | exact Or.inl rfl | exact Or.inr rfl) (e_bin op_mod cd_mod (e_ix ix_seq cd_ix (e_var 1) e_int (fun _ _ => rfl)) (e_callB call_lenA cd_len (by rfl) T.b_len (by decide +kernel) (ea_cons (e_var 0) ea_nil))))
    (ss_cons (s_set (i := 4) nd rfl (by first | exact Or.inl rfl | exact Or.inr rfl) (e_ix ix_seq cd_ix (e_var 1) (e_bin op_addA cd_add e_int (e_var 3)) (fun _ _ => rfl)))
    (ss_cons (s_if (t_w (w_and (t_cmp op_ge cd_cmp (e_ix ix_seq cd_ix (e_var 0) (e_var 3) (fun _ _ => rfl)) (e_bin op_pow cd_pow e_int e_int) (nomark _)) (w_and1 (t_cmp op_gt cd_cmp (e_var 4) e_int (nomark _))))) (ss_cons (s_store (i := 1) (he := (e_bin op_fdiv cd_div (e_var 4) (e_var 2))) (hk := (e_bin op_addA cd_add e_int (e_var 3))))
    (ss_one (s_ret (e_bin op_mod cd_mod (e_var 4) (e_var 2))))) ss_nil)
    (ss_cons (s_set (i := 5) nd rfl (by first | exact Or.inl rfl | exact Or.inr rfl) (e_bin op_mod cd_mod (e_bin op_addA cd_add (e_ix ix_seq cd_ix (e_var 0) (e_var 3) (fun _ _ => rfl)) (e_bin op_mulA cd_mul e_int (e_ix ix_seq cd_ix (e_var 1) e_int (fun _ _ => rfl)))) e_int))
    (ss_cons (s_set (i := 5) nd rfl (by first | exact Or.inl rfl | exact Or.inr rfl) (e_bin op_mod cd_mod (e_bin op_pow cd_pow (e_var 5) e_int) e_int))
    (ss_one (s_ret (e_bin op_mod cd_mod (e_bin op_fdiv cd_div (e_bin op_mod cd_mod (e_bin op_addA cd_add (e_bin op_mulA cd_mul (e_bin op_fdiv cd_div (e_var 5) e_int) e_int) (e_var 5)) e_int) e_int) (e_var 2)))))))))))
/-! _law_word -/
abbrev s_law_word : Stmt := topS 32
theorem sc_law_word : FnScope ["caught", "some"] ["caught"] (defScope s_law_word) := ⟨rfl, rfl, rfl, by decide +kernel, rfl, by decide +kernel, by decide +kernel⟩
abbrev is_law_word : List Nat := (([] ++ []) ++ ([1] ++ ([1] ++ ([1] ++ ([1] ++ [])))))
noncomputable def b_law_word : M Fl :=
  (sSeq (sIf (tNotD (tst (opN (gIsiE raisedL testedL) [(eVar 0), (eD (.ty "ValueError"))]))) (sRet (opN gNeg [(eD (.int 1))])) sNext)
    (sSeq (sSet 1 (dLst [(opN (gIsiE raisedL testedL) [(eVar 0), (eD (.nam false "BadLoader"))]), (opN (gIsiE raisedL testedL) [(eVar 0), (eD (.nam false "BadLine"))]), (opN (gIsiE raisedL testedL) [(eVar 0), (eD (.nam false "BadNumber"))])]))
    (sSeq (sSet 1 (opN gAdd [(eVar 1), (dLst [(opN (gIsiE raisedL testedL) [(eVar 0), (eD (.nam false "BadPlace"))]), (opN (gIsiE raisedL testedL) [(eVar 0), (eD (.nam false "BadLoading"))]), (opN (gIsiE raisedL testedL) [(eVar 0), (eD (.nam false "BadWeights"))])])]))
    (sSeq (sSet 1 (opN gAdd [(eVar 1), (dLst [(opN (gIsiE raisedL testedL) [(eVar 0), (eD (.nam false "BadDay"))]), (opN (gIsiE raisedL testedL) [(eVar 0), (eD (.nam false "BadSeen"))]), (opN (gIsiE raisedL testedL) [(eVar 0), (eD (.nam false "Full"))])])]))
    (sSeq (sSet 1 (opN gAdd [(eVar 1), (dLst [(opN (gIsiE raisedL testedL) [(eVar 0), (eD (.nam false "NoBack"))]), (opN (gIsiE raisedL testedL) [(eVar 0), (eD (.nam false "BadText"))])])]))
    (sRet (eIf (tst (opN gEq [(opM gCntB (eVar 1) (eD (.bl true))), (eD (.int 1))])) (opM gIdx (eVar 1) (eD (.bl true))) (opN gNeg [(eD (.int 1))]))))))))
noncomputable def g_law_word : List W → RF := mkFn is_law_word 1 2 b_law_word
theorem ok_law_word {f : Addr} {fd : FuncData} (T : Facts K mg) (F : Fun K "_law_word" "_law_word" s_law_word f fd) : FnS P w K mg base 1 f fd ["caught"] g_law_word := by
  refine fn_ok (is := is_law_word) F sc_law_word (fun cdv A outer s H E hr => ?_)
  have nd := sc_law_word.nd
  have tk : Takes (cxOf (L2.CX P w) P w K mg base ["caught", "some"] "_law_word" (defScope s_law_word) f cdv A outer s H E) (fun c d _ H => E c d H) := takes_of rfl rfl rfl rfl
  show SsS _ _ _ (([] ++ []) ++ ([1] ++ ([1] ++ ([1] ++ ([1] ++ []))))) _
  exact (ss_cons (s_if (t_not (t_val (e_callB call_isX (cd_isX T.tab) (by rfl) T.b_isinstance (by decide +kernel) (ea_cons (e_var 0) (ea_cons (e_bltn (v := .ty "ValueError") (by rfl) T.b_ValueError (by decide +kernel) rfl (fun _ => .ty "ValueError")) ea_nil))))) (ss_one (s_ret (e_un un_neg cd_neg e_int))) ss_nil)
    (ss_cons (s_set (i := 1) nd rfl (by first | exact Or.inl rfl | exact Or.inr rfl) (e_lst (ea_cons (e_callB call_isX (cd_isX T.tab) (by rfl) T.b_isinstance (by decide +kernel) (ea_cons (e_var 0) (ea_cons (e_nam T.n_BadLoader) ea_nil))) (ea_cons (e_callB call_isX (cd_isX T.tab) (by rfl) T.b_isinstance (by decide +kernel) (ea_cons (e_var 0) (ea_cons (e_nam T.n_BadLine) ea_nil))) (ea_cons (e_callB call_isX (cd_isX T.tab) (by rfl) T.b_isinstance (by decide +kernel) (ea_cons (e_var 0) (ea_cons (e_nam T.n_BadNumber) ea_nil))) ea_nil)))))
    (ss_cons (s_set (i := 1) nd rfl (by first | exact Or.inl rfl | exact Or.inr rfl) (e_bin op_addA cd_add (e_var 1) (e_lst (ea_cons (e_callB call_isX (cd_isX T.tab) (by rfl) T.b_isinstance (by decide +kernel) (ea_cons (e_var 0) (ea_cons (e_nam T.n_BadPlace) ea_nil))) (ea_cons (e_callB call_isX (cd_isX T.tab) (by rfl) T.b_isinstance (by decide +kernel) (ea_cons (e_var 0) (ea_cons (e_nam T.n_BadLoading) ea_nil))) (ea_cons (e_callB call_isX (cd_isX T.tab) (by rfl) T.b_isinstance (by decide +kernel) (ea_cons (e_var 0) (ea_cons (e_nam T.n_BadWeights) ea_nil))) ea_nil))))))
    (ss_cons (s_set (i := 1) nd rfl (by first | exact Or.inl rfl | exact Or.inr rfl) (e_bin op_addA cd_add (e_var 1) (e_lst (ea_cons (e_callB call_isX (cd_isX T.tab) (by rfl) T.b_isinstance (by decide +kernel) (ea_cons (e_var 0) (ea_cons (e_nam T.n_BadDay) ea_nil))) (ea_cons (e_callB call_isX (cd_isX T.tab) (by rfl) T.b_isinstance (by decide +kernel) (ea_cons (e_var 0) (ea_cons (e_nam T.n_BadSeen) ea_nil))) (ea_cons (e_callB call_isX (cd_isX T.tab) (by rfl) T.b_isinstance (by decide +kernel) (ea_cons (e_var 0) (ea_cons (e_nam T.n_Full) ea_nil))) ea_nil))))))
    (ss_cons (s_set (i := 1) nd rfl (by first | exact Or.inl rfl | exact Or.inr rfl) (e_bin op_addA cd_add (e_var 1) (e_lst (ea_cons (e_callB call_isX (cd_isX T.tab) (by rfl) T.b_isinstance (by decide +kernel) (ea_cons (e_var 0) (ea_cons (e_nam T.n_NoBack) ea_nil))) (ea_cons (e_callB call_isX (cd_isX T.tab) (by rfl) T.b_isinstance (by decide +kernel) (ea_cons (e_var 0) (ea_cons (e_nam T.n_BadText) ea_nil))) ea_nil)))))
    (ss_one (s_ret (e_if (t_cmp (op_eqD hr.units) cd_eq (e_meth PySem.F.slot_list_count PySem.F.type_list_count mt_bcount cd_cntB (e_var 1) e_bl) e_int (nomark _)) (e_meth PySem.F.slot_list_index PySem.F.type_list_index (mt_indexD (hu65 hr)) cd_idx (e_var 1) e_bl) (e_un un_neg cd_neg e_int)))))))))
/-! _law_refused -/
abbrev s_law_refused : Stmt := topS 33
theorem sc_law_refused : FnScope ["word", "words"] ["word"] (defScope s_law_refused) := ⟨rfl, rfl, rfl, by decide +kernel, rfl, by decide +kernel, by decide +kernel⟩
abbrev is_law_refused : List Nat := ([1] ++ [])
noncomputable def b_law_refused : M Fl :=
  (sSeq (sSet 1 (dLst [(eD (.str "loader")), (eD (.str "line")), (eD (.str "number")), (eD (.str "place")), (eD (.str "loading")), (eD (.str "weights")), (eD (.str "day")), (eD (.str "seen")), (eD (.str "full")), (eD (.str "back")), (eD (.str "text"))]))
    (sRet (dTup [(eD (.str "refused")), (opM gIdx (eVar 1) (eVar 0))])))
noncomputable def g_law_refused : List W → RF := mkFn is_law_refused 1 2 b_law_refused
theorem ok_law_refused {f : Addr} {fd : FuncData} (T : Facts K mg) (F : Fun K "_law_refused" "_law_refused" s_law_refused f fd) : FnS P w K mg base 1 f fd ["word"] g_law_refused := by
  refine fn_ok (is := is_law_refused) F sc_law_refused (fun cdv A outer s H E hr => ?_)
  have nd := sc_law_refused.nd
  have tk : Takes (cxOf (L2.CX P w) P w K mg base ["word", "words"] "_law_refused" (defScope s_law_refused) f cdv A outer s H E) (fun c d _ H => E c d H) := takes_of rfl rfl rfl rfl
  show SsS _ _ _ ([1] ++ []) _
  exact (ss_cons (s_set (i := 1) nd rfl (by first | exact Or.inl rfl | exact Or.inr rfl) (e_lst (ea_cons e_str (ea_cons e_str (ea_cons e_str (ea_cons e_str (ea_cons e_str (ea_cons e_str (ea_cons e_str (ea_cons e_str (ea_cons e_str (ea_cons e_str (ea_cons e_str ea_nil)))))))))))))
    (ss_one (s_ret (e_tup (ea_cons e_str (ea_cons (e_meth PySem.F.slot_list_index PySem.F.type_list_index (mt_indexD (hu65 hr)) cd_idx (e_var 1) (e_var 0)) ea_nil))))))
/-! is_loader -/
abbrev s_is_loader : Stmt := topS 15
theorem sc_is_loader : FnScope ["thing"] ["thing"] (defScope s_is_loader) := ⟨rfl, rfl, rfl, by decide +kernel, rfl, by decide +kernel, by decide +kernel⟩
abbrev is_is_loader : List Nat := (([] ++ []) ++ [])
noncomputable def b_is_loader : M Fl :=
  (sSeq (sIf (tOrD (tNotD (tst (opN gIsi [(eVar 0), (eD (.ty "tuple"))]))) (tst (opN gNe [(opN gLen [(eVar 0)]), (eD (.int 3))]))) (sRet (eD (.bl false))) sNext)
    (sRet (vAnd (callF g_is_whole [none, none, none] [(opN gIx [(eVar 0), (eD (.int 0))]), (eD (.int 1)), (eD (.int 6))]) (vAnd (callF g_is_whole [none, none, none] [(opN gIx [(eVar 0), (eD (.int 1))]), (eD (.int 0)), (eD (.int 3))]) (callF g_is_whole [none, none, none] [(opN gIx [(eVar 0), (eD (.int 2))]), (eD (.int 0)), (eD (.int 3))])))))
noncomputable def g_is_loader : List W → RF := mkFn is_is_loader 1 1 b_is_loader
theorem ok_is_loader {f : Addr} {fd : FuncData} (T : Facts K mg) (F : Fun K "is_loader" "is_loader" s_is_loader f fd) (C_is_whole : Cal P w K mg base 1 "is_whole" ["thing", "least", "most"] g_is_whole) : FnS P w K mg base 2 f fd ["thing"] g_is_loader := by
  refine fn_ok (is := is_is_loader) F sc_is_loader (fun cdv A outer s H E hr => ?_)
  have nd := sc_is_loader.nd
  have tk : Takes (cxOf (L2.CX P w) P w K mg base ["thing"] "is_loader" (defScope s_is_loader) f cdv A outer s H E) (fun c d _ H => E c d H) := takes_of rfl rfl rfl rfl
  show SsS _ _ _ (([] ++ []) ++ []) _
  exact (ss_cons (s_if (t_w (w_or (t_not (t_val (e_callB call_isi cd_isi (by rfl) T.b_isinstance (by decide +kernel) (ea_cons (e_var 0) (ea_cons (e_bltn (v := .ty "tuple") (by rfl) T.b_tuple (by decide +kernel) rfl (fun _ => .ty "tuple")) ea_nil))))) (w_or1 (t_cmp (op_neD hr.units) cd_ne (e_callB call_lenA cd_len (by rfl) T.b_len (by decide +kernel) (ea_cons (e_var 0) ea_nil)) e_int (nomark _))))) (ss_one (s_ret e_bl)) ss_nil)
    (ss_one (s_ret (e_and (e_callC (ms := [none, none, none]) C_is_whole tk hr (ea_cons (e_ix ix_seq cd_ix (e_var 0) e_int (fun _ _ => rfl)) (ea_cons e_int (ea_cons e_int ea_nil))) (by decide)) (e_and (e_callC (ms := [none, none, none]) C_is_whole tk hr (ea_cons (e_ix ix_seq cd_ix (e_var 0) e_int (fun _ _ => rfl)) (ea_cons e_int (ea_cons e_int ea_nil))) (by decide)) (e_one (e_callC (ms := [none, none, none]) C_is_whole tk hr (ea_cons (e_ix ix_seq cd_ix (e_var 0) e_int (fun _ _ => rfl)) (ea_cons e_int (ea_cons e_int ea_nil))) (by decide))))))))
/-! is_seat_row -/
abbrev s_is_seat_row : Stmt := topS 20
theorem sc_is_seat_row : FnScope ["loader", "thing", "one", "other"] ["loader", "thing"] (defScope s_is_seat_row) := ⟨rfl, rfl, rfl, by decide +kernel, rfl, by decide +kernel, by decide +kernel⟩
abbrev is_is_seat_row : List Nat := (([] ++ []) ++ [])
noncomputable def b_is_seat_row : M Fl :=
  (sSeq (sIf (tOrD (tNotD (tst (opN gIsi [(eVar 1), (eD (.ty "tuple"))]))) (tOrD (tst (opN gEq [(eVar 1), (dTup [])])) (tNotD (tst (opN gAll [(eComp (iterSeq (eVar 1)) (([("one", 2)] : List (Str × Nat)).map (·.2)) (mName 2) tYesD (callF g_is_whole [none, none, none] [(eVar 2), (eD (.int 1)), (opN gIx [(eVar 0), (eD (.int 0))])]))]))))) (sRet (eD (.bl false))) sNext)
    (sRet (vAnd (opN gAll [(eComp (iterZip (eVar 1) (opN gSlL [(eVar 1), (eD (.int 1))])) (([("one", 2), ("other", 3)] : List (Str × Nat)).map (·.2)) (mTup (mCons (mName 2) (mCons (mName 3) mNil)) 2) tYesD (opN gLe [(eVar 2), (eVar 3)]))]) (opN gLe [(opN gSum [(eVar 1)]), (opN gIx [(eVar 0), (eD (.int 0))])]))))
noncomputable def g_is_seat_row : List W → RF := mkFn is_is_seat_row 2 4 b_is_seat_row
theorem ok_is_seat_row {f : Addr} {fd : FuncData} (T : Facts K mg) (F : Fun K "is_seat_row" "is_seat_row" s_is_seat_row f fd) (C_is_whole : Cal P w K mg base 1 "is_whole" ["thing", "least", "most"] g_is_whole) : FnS P w K mg base 2 f fd ["loader", "thing"] g_is_seat_row := by
  refine fn_ok (is := is_is_seat_row) F sc_is_seat_row (fun cdv A outer s H E hr => ?_)
  have nd := sc_is_seat_row.nd
  have tk : Takes (cxOf (L2.CX P w) P w K mg base ["loader", "thing", "one", "other"] "is_seat_row" (defScope s_is_seat_row) f cdv A outer s H E) (fun c d _ H => E c d H) := takes_of rfl rfl rfl rfl
  show SsS _ _ _ (([] ++ []) ++ []) _
  exact (ss_cons (s_if (t_w (w_or (t_not (t_val (e_callB call_isi cd_isi (by rfl) T.b_isinstance (by decide +kernel) (ea_cons (e_var 1) (ea_cons (e_bltn (v := .ty "tuple") (by rfl) T.b_tuple (by decide +kernel) rfl (fun _ => .ty "tuple")) ea_nil))))) (w_or (t_cmp (op_eqD hr.units) cd_eq (e_var 1) (e_tup ea_nil) (nomark _)) (w_or1 (t_not (t_val (e_callB (cr_all rfl) cd_all (by rfl) T.b_all (by decide +kernel) (ea_cons (e_comp rfl nd (i_seq (e_var 1)) (blkOk_by (own := [("one", 2)]) (by with_unfolding_all rfl)) (fun _ _ _ _ _ => (g_name (i := 2) nd rfl (by first | exact Or.inl rfl | exact Or.inr rfl))) (fun _ _ _ _ _ => (e_callC (ms := [none, none, none]) C_is_whole takes0 hr (ea_cons (e_var 2) (ea_cons e_int (ea_cons (e_ix ix_seq cd_ix (e_var 0) e_int (fun _ _ => rfl)) ea_nil))) (by decide))) (by decide)) ea_nil)))))))) (ss_one (s_ret e_bl)) ss_nil)
    (ss_one (s_ret (e_and (e_callB (cr_all rfl) cd_all (by rfl) T.b_all (by decide +kernel) (ea_cons (e_comp rfl nd (i_zip (by rfl) T.b_zip (ea_cons (e_var 1) (ea_cons (e_slL (e_var 1) e_int) ea_nil))) (blkOk_by (own := [("one", 2), ("other", 3)]) (by with_unfolding_all rfl)) (fun _ _ _ _ _ => (g_tup rfl (gs_cons (g_name (i := 2) nd rfl (by first | exact Or.inl rfl | exact Or.inr rfl)) (gs_cons (g_name (i := 3) nd rfl (by first | exact Or.inl rfl | exact Or.inr rfl)) gs_nil)))) (fun _ _ _ _ _ => (e_cmp op_le cd_cmp (e_var 2) (e_var 3) (nomark _))) (by decide)) ea_nil)) (e_one (e_cmp op_le cd_cmp (e_callB (cr_sumA rfl) cd_sum (by rfl) T.b_sum (by decide +kernel) (ea_cons (e_var 1) ea_nil)) (e_ix ix_seq cd_ix (e_var 0) e_int (fun _ _ => rfl)) (nomark _)))))))
/-! Lines.walked -/
abbrev s_Lines_walked : Stmt := inClass (topS 22) 2
theorem sc_Lines_walked : FnScope ["self", "state", "rows", "left", "sit", "chair", "some", "size", "passes", "at"] ["self", "state"] (defScope s_Lines_walked) := ⟨rfl, rfl, rfl, by decide +kernel, rfl, by decide +kernel, by decide +kernel⟩
noncomputable def lb_Lines_walked_0 : M Fl :=
  (sSeq (sSet 6 (eComp (iterSeq (eVar 2)) (([("size", 7), ("passes", 8)] : List (Str × Nat)).map (·.2)) (mTup (mCons (mName 7) (mCons (mName 8) mNil)) 2) tYesD (dTup [(eD (.int 0)), (eVar 7), (eVar 8)])))
    (sSeq (sSet 9 (callF g_next_of [none, none, none] [(eG (fG 0 "Lines" ns_Lines 0)), (eVar 6), (opN gSub [(opN gIx [(eG (fG 0 "Lines" ns_Lines 0)), (eD (.int 0))]), (opN gSum [(eVar 4)])])]))
    (sIf (tst (opN gIs [(eVar 9), (eD .non)])) (sSeq (sIf (tOrD (tst (opN gGe [(eVar 5), (opN gLen [(eG (fG 0 "Lines" ns_Lines 1))])])) (tst (opN gNe [(opN gTuple [(opN gSortIT [(eVar 4)])]), (opN gIx [(eG (fG 0 "Lines" ns_Lines 1)), (eVar 5)])]))) (sRet (eD .non)) sNext)
    (sPar 4 5 [(dTup []), (opN gAdd [(eVar 5), (eD (.int 1))])])) (sSeq (sSet 4 (opN gAdd [(eVar 4), (dTup [(opN gIx [(opN gIx [(eVar 2), (eVar 9)]), (eD (.int 0))])])]))
    (sSet 2 (opN gAdd [(opN gTuple [(eComp (iterSeq (opN gSlH [(eVar 2), (eVar 9)])) (([("size", 7), ("passes", 8)] : List (Str × Nat)).map (·.2)) (mTup (mCons (mName 7) (mCons (mName 8) mNil)) 2) tYesD (dTup [(eVar 7), (opN gAdd [(eVar 8), (eD (.int 1))])]))]), (opN gSlL [(eVar 2), (opN gAdd [(eVar 9), (eD (.int 1))])])]))))))
abbrev is_Lines_walked : List Nat := (([2] ++ ([3] ++ ([4] ++ ([5] ++ [])))) ++ (([6] ++ ([9] ++ ((([] ++ []) ++ [4, 5]) ++ ([4] ++ [2])))) ++ []))
noncomputable def b_Lines_walked : M Fl :=
  (sSeq (sTgt (mTup (mCons (mName 2) (mCons (mName 3) (mCons (mName 4) (mCons (mName 5) mNil)))) 4) (eVar 1))
    (sSeq (sWhile (tOrD (tst (opN gGt [(opN gLen [(eVar 2)]), (opN gIx [(eG (fG 0 "Lines" ns_Lines 0)), (eD (.int 1))])])) (tAndD (tst (opN gEq [(opN gSum [(eVar 3)]), (eD (.int 0))])) (tOrD (tst (opN gNe [(eVar 2), (dTup [])])) (tst (opN gNe [(eVar 4), (dTup [])]))))) lb_Lines_walked_0)
    (sRet (dTup [(eVar 2), (eVar 3), (eVar 4), (eVar 5)]))))
noncomputable def g_Lines_walked : List W → RF := mkFn is_Lines_walked 2 10 b_Lines_walked
theorem ok_Lines_walked {f : Addr} {fd : FuncData} (T : Facts K mg) (F : Fun K "walked" "Lines.walked" s_Lines_walked f fd) (C_next_of : Cal P w K mg base 1 "next_of" ["loader", "rows", "room"] g_next_of) : FnS P w K mg base 2 f fd ["self", "state"] g_Lines_walked := by
  refine fn_ok (is := is_Lines_walked) F sc_Lines_walked (fun cdv A outer s H E hr => ?_)
  have nd := sc_Lines_walked.nd
  have tk : Takes (cxOf (L2.CX P w) P w K mg base ["self", "state", "rows", "left", "sit", "chair", "some", "size", "passes", "at"] "Lines.walked" (defScope s_Lines_walked) f cdv A outer s H E) (fun c d _ H => E c d H) := takes_of rfl rfl rfl rfl
  show SsS _ _ _ (([2] ++ ([3] ++ ([4] ++ ([5] ++ [])))) ++ (([6] ++ ([9] ++ ((([] ++ []) ++ [4, 5]) ++ ([4] ++ [2])))) ++ [])) _
  exact (ss_cons (s_tgt (e_var 1) (g_tup rfl (gs_cons (g_name (i := 2) nd rfl (by first | exact Or.inl rfl | exact Or.inr rfl)) (gs_cons (g_name (i := 3) nd rfl (by first | exact Or.inl rfl | exact Or.inr rfl)) (gs_cons (g_name (i := 4) nd rfl (by first | exact Or.inl rfl | exact Or.inr rfl)) (gs_cons (g_name (i := 5) nd rfl (by first | exact Or.inl rfl | exact Or.inr rfl)) gs_nil))))))
    (ss_cons (s_while (passes_of rfl) (t_w (w_or (t_cmp op_gt cd_cmp (e_callB call_lenA cd_len (by rfl) T.b_len (by decide +kernel) (ea_cons (e_var 2) ea_nil)) (e_ix ix_seq cd_ix (e_g (g_fld (i := 0) (c := "Lines") (ns := ns_Lines) (j := 0) T.k_Lines nd_Lines rfl)) e_int (fun _ _ => rfl)) (nomark _)) (w_or1 (t_w (w_and (t_cmp (op_eqD hr.units) cd_eq (e_callB (cr_sumA rfl) cd_sum (by rfl) T.b_sum (by decide +kernel) (ea_cons (e_var 3) ea_nil)) e_int (nomark _)) (w_and1 (t_w (w_or (t_cmp (op_neD hr.units) cd_ne (e_var 2) (e_tup ea_nil) (nomark _)) (w_or1 (t_cmp (op_neD hr.units) cd_ne (e_var 4) (e_tup ea_nil) (nomark _))))))))))) (ss_cons (s_comp (i := 6) rfl nd rfl rfl (sw_true rfl rfl rfl (by decide +kernel)) (i_seq (e_var 2)) (blkOk_by (own := [("size", 7), ("passes", 8)]) (by with_unfolding_all rfl)) (fun _ _ _ _ _ => (g_tup rfl (gs_cons (g_name (i := 7) nd rfl (by first | exact Or.inl rfl | exact Or.inr rfl)) (gs_cons (g_name (i := 8) nd rfl (by first | exact Or.inl rfl | exact Or.inr rfl)) gs_nil)))) (fun _ _ _ _ _ => (e_tup (ea_cons e_int (ea_cons (e_var 7) (ea_cons (e_var 8) ea_nil))))) (by decide))
    (ss_cons (s_set (i := 9) nd rfl (by first | exact Or.inl rfl | exact Or.inr rfl) (e_callC (ms := [none, none, none]) C_next_of tk hr (ea_cons (e_g (g_fld (i := 0) (c := "Lines") (ns := ns_Lines) (j := 0) T.k_Lines nd_Lines rfl)) (ea_cons (e_var 6) (ea_cons (e_bin op_sub cd_sub (e_ix ix_seq cd_ix (e_g (g_fld (i := 0) (c := "Lines") (ns := ns_Lines) (j := 0) T.k_Lines nd_Lines rfl)) e_int (fun _ _ => rfl)) (e_callB (cr_sumA rfl) cd_sum (by rfl) T.b_sum (by decide +kernel) (ea_cons (e_var 4) ea_nil))) ea_nil))) (by decide)))
    (ss_one (s_if (t_cmp op_isA cd_is (e_var 9) e_non (nomark _)) (ss_cons (s_if (t_w (w_or (t_cmp op_ge cd_cmp (e_var 5) (e_callB call_lenA cd_len (by rfl) T.b_len (by decide +kernel) (ea_cons (e_g (g_fld (i := 0) (c := "Lines") (ns := ns_Lines) (j := 1) T.k_Lines nd_Lines rfl)) ea_nil)) (nomark _)) (w_or1 (t_cmp (op_neD hr.units) cd_ne (e_callTy call_tuple_of cd_tuple (by rfl) T.b_tuple (by decide +kernel) (ea_cons (e_callB cr_sortedIT cd_sortIT (by rfl) T.b_sorted (by decide +kernel) (ea_cons (e_var 4) ea_nil)) ea_nil)) (e_ix ix_seq cd_ix (e_g (g_fld (i := 0) (c := "Lines") (ns := ns_Lines) (j := 1) T.k_Lines nd_Lines rfl)) (e_var 5) (fun _ _ => rfl)) (nomark _))))) (ss_one (s_ret e_non)) ss_nil)
    (ss_one (s_par rfl nd rfl rfl (by decide) rfl rfl (ea_cons (e_tup ea_nil) (ea_cons (e_bin op_addA cd_add (e_var 5) e_int) ea_nil)) (by rfl)))) (ss_cons (s_set (i := 4) nd rfl (by first | exact Or.inl rfl | exact Or.inr rfl) (e_bin op_addA cd_add (e_var 4) (e_tup (ea_cons (e_ix ix_seq cd_ix (e_ix ix_seq cd_ix (e_var 2) (e_var 9) (fun _ _ => rfl)) e_int (fun _ _ => rfl)) ea_nil))))
    (ss_one (s_set (i := 2) nd rfl (by first | exact Or.inl rfl | exact Or.inr rfl) (e_bin op_addA cd_add (e_callTy call_tuple_of cd_tuple (by rfl) T.b_tuple (by decide +kernel) (ea_cons (e_comp rfl nd (i_seq (e_slH (e_var 2) (e_var 9))) (blkOk_by (own := [("size", 7), ("passes", 8)]) (by with_unfolding_all rfl)) (fun _ _ _ _ _ => (g_tup rfl (gs_cons (g_name (i := 7) nd rfl (by first | exact Or.inl rfl | exact Or.inr rfl)) (gs_cons (g_name (i := 8) nd rfl (by first | exact Or.inl rfl | exact Or.inr rfl)) gs_nil)))) (fun _ _ _ _ _ => (e_tup (ea_cons (e_var 7) (ea_cons (e_bin op_addA cd_add (e_var 8) e_int) ea_nil)))) (by decide)) ea_nil)) (e_slL (e_var 2) (e_bin op_addA cd_add (e_var 9) e_int)))))))))))
    (ss_one (s_ret (e_tup (ea_cons (e_var 2) (ea_cons (e_var 3) (ea_cons (e_var 4) (ea_cons (e_var 5) ea_nil)))))))))
/-! look_loader -/
abbrev s_look_loader : Stmt := topS 16
theorem sc_look_loader : FnScope ["loader"] ["loader"] (defScope s_look_loader) := ⟨rfl, rfl, rfl, by decide +kernel, rfl, by decide +kernel, by decide +kernel⟩
abbrev is_look_loader : List Nat := ([] ++ [])
noncomputable def b_look_loader : M Fl :=
  (sIf (tNotD (tst (callF g_is_loader [none] [(eVar 0)]))) (sRaise "BadLoader") sNext)
noncomputable def g_look_loader : List W → RF := mkFn is_look_loader 1 1 b_look_loader
theorem ok_look_loader {f : Addr} {fd : FuncData} (T : Facts K mg) (F : Fun K "look_loader" "look_loader" s_look_loader f fd) (C_is_loader : Cal P w K mg base 2 "is_loader" ["thing"] g_is_loader) : FnS P w K mg base 3 f fd ["loader"] g_look_loader := by
  refine fn_ok (is := is_look_loader) F sc_look_loader (fun cdv A outer s H E hr => ?_)
  have nd := sc_look_loader.nd
  have tk : Takes (cxOf (L2.CX P w) P w K mg base ["loader"] "look_loader" (defScope s_look_loader) f cdv A outer s H E) (fun c d _ H => E c d H) := takes_of rfl rfl rfl rfl
  show SsS _ _ _ ([] ++ []) _
  exact (ss_one (s_if (t_not (t_val (e_callC (ms := [none]) C_is_loader tk hr (ea_cons (e_var 0) ea_nil) (by decide)))) (ss_one (s_raiseC T.e_BadLoader tk)) ss_nil))
/-! lines_of -/
abbrev s_lines_of : Stmt := topS 23
theorem sc_lines_of : FnScope ["loader", "seen"] ["loader", "seen"] (defScope s_lines_of) := ⟨rfl, rfl, rfl, by decide +kernel, rfl, by decide +kernel, by decide +kernel⟩
abbrev is_lines_of : List Nat := []
noncomputable def b_lines_of : M Fl :=
  (sRet (callNew "Lines" ns_Lines g_Lines_new [(eVar 0), (eVar 1), (opN gNeg [(eD (.int 1))]), (eD (.int 0))]))
noncomputable def g_lines_of : List W → RF := mkFn is_lines_of 2 2 b_lines_of
theorem ok_lines_of {f : Addr} {fd : FuncData} (T : Facts K mg) (F : Fun K "lines_of" "lines_of" s_lines_of f fd) (C_Lines_new : CalN P w K mg base 1 "Lines" ["self", "loader", "seen", "place", "size"] g_Lines_new) : FnS P w K mg base 3 f fd ["loader", "seen"] g_lines_of := by
  refine fn_ok (is := is_lines_of) F sc_lines_of (fun cdv A outer s H E hr => ?_)
  have nd := sc_lines_of.nd
  have tk : Takes (cxOf (L2.CX P w) P w K mg base ["loader", "seen"] "lines_of" (defScope s_lines_of) f cdv A outer s H E) (fun c d _ H => E c d H) := takes_of rfl rfl rfl rfl
  show SsS _ _ _ [] _
  exact (ss_one (s_ret (e_callN (ns := ns_Lines) C_Lines_new tk hr (ea_cons (e_var 0) (ea_cons (e_var 1) (ea_cons (e_un un_neg cd_neg e_int) (ea_cons e_int ea_nil)))) (by decide))))
/-! look_seen -/
abbrev s_look_seen : Stmt := topS 21
theorem sc_look_seen : FnScope ["loader", "seen", "one"] ["loader", "seen"] (defScope s_look_seen) := ⟨rfl, rfl, rfl, by decide +kernel, rfl, by decide +kernel, by decide +kernel⟩
abbrev is_look_seen : List Nat := ([] ++ (([] ++ []) ++ ([] ++ [])))
noncomputable def b_look_seen : M Fl :=
  (sSeq (sExpr (callF g_look_loader [none] [(eVar 0)]))
    (sSeq (sIf (tOrD (tNotD (tst (opN gIsi [(eVar 1), (eD (.ty "tuple"))]))) (tNotD (tst (opN gAll [(eComp (iterSeq (eVar 1)) (([("one", 2)] : List (Str × Nat)).map (·.2)) (mName 2) tYesD (callF g_is_seat_row [none, none] [(eVar 0), (eVar 2)]))])))) (sRaise "BadSeen") sNext)
    (sIf (tst (opN gGt [(opN gSum [(eComp (iterSeq (eVar 1)) (([("one", 2)] : List (Str × Nat)).map (·.2)) (mName 2) tYesD (opN gLen [(eVar 2)]))]), (eD (.int 9))])) (sRaise "BadSeen") sNext)))
noncomputable def g_look_seen : List W → RF := mkFn is_look_seen 2 3 b_look_seen
theorem ok_look_seen {f : Addr} {fd : FuncData} (T : Facts K mg) (F : Fun K "look_seen" "look_seen" s_look_seen f fd) (C_look_loader : Cal P w K mg base 3 "look_loader" ["loader"] g_look_loader) (C_is_seat_row : Cal P w K mg base 2 "is_seat_row" ["loader", "thing"] g_is_seat_row) : FnS P w K mg base 4 f fd ["loader", "seen"] g_look_seen := by
  refine fn_ok (is := is_look_seen) F sc_look_seen (fun cdv A outer s H E hr => ?_)
  have nd := sc_look_seen.nd
  have tk : Takes (cxOf (L2.CX P w) P w K mg base ["loader", "seen", "one"] "look_seen" (defScope s_look_seen) f cdv A outer s H E) (fun c d _ H => E c d H) := takes_of rfl rfl rfl rfl
  show SsS _ _ _ ([] ++ (([] ++ []) ++ ([] ++ []))) _
  exact (ss_cons (s_expr (e_callC (ms := [none]) C_look_loader tk hr (ea_cons (e_var 0) ea_nil) (by decide)))
    (ss_cons (s_if (t_w (w_or (t_not (t_val (e_callB call_isi cd_isi (by rfl) T.b_isinstance (by decide +kernel) (ea_cons (e_var 1) (ea_cons (e_bltn (v := .ty "tuple") (by rfl) T.b_tuple (by decide +kernel) rfl (fun _ => .ty "tuple")) ea_nil))))) (w_or1 (t_not (t_val (e_callB (cr_all rfl) cd_all (by rfl) T.b_all (by decide +kernel) (ea_cons (e_comp rfl nd (i_seq (e_var 1)) (blkOk_by (own := [("one", 2)]) (by with_unfolding_all rfl)) (fun _ _ _ _ _ => (g_name (i := 2) nd rfl (by first | exact Or.inl rfl | exact Or.inr rfl))) (fun _ _ _ _ _ => (e_callC (ms := [none, none]) C_is_seat_row takes0 hr (ea_cons (e_var 0) (ea_cons (e_var 2) ea_nil)) (by decide))) (by decide)) ea_nil))))))) (ss_one (s_raiseC T.e_BadSeen tk)) ss_nil)
    (ss_one (s_if (t_cmp op_gt cd_cmp (e_callB (cr_sumA rfl) cd_sum (by rfl) T.b_sum (by decide +kernel) (ea_cons (e_comp rfl nd (i_seq (e_var 1)) (blkOk_by (own := [("one", 2)]) (by with_unfolding_all rfl)) (fun _ _ _ _ _ => (g_name (i := 2) nd rfl (by first | exact Or.inl rfl | exact Or.inr rfl))) (fun _ _ _ _ _ => (e_callB call_lenA cd_len (by rfl) T.b_len (by decide +kernel) (ea_cons (e_var 2) ea_nil))) (by decide)) ea_nil)) e_int (nomark _)) (ss_one (s_raiseC T.e_BadSeen tk)) ss_nil))))
/-! Lines.count -/
abbrev s_Lines_count : Stmt := inClass (topS 22) 3
theorem sc_Lines_count : FnScope ["self", "state", "key", "now", "size", "later"] ["self", "state"] (defScope s_Lines_count) := ⟨rfl, rfl, rfl, by decide +kernel, rfl, by decide +kernel, by decide +kernel⟩
abbrev is_Lines_count : List Nat := ([2] ++ ((([3] ++ ([] ++ ([] ++ []))) ++ []) ++ []))
noncomputable def b_Lines_count (gr : List W → RF) : M Fl :=
  (sSeq (sSet 2 (eVar 1))
    (sSeq (sIf (tst (eG (opVr gXNotIn (vG 2) (fldV 0 "Lines" ns_Lines 4)))) (sSeq (sSet 3 (callM "Lines" ns_Lines g_Lines_walked 0 [none] [(eVar 1)]))
    (sIf (tst (opN gIs [(eVar 3), (eD .non)])) (sStoreXF 0 "Lines" ns_Lines 4 (vG 2) (eD (.int 0))) (sIf (tst (opN gEq [(opN gSum [(opN gIx [(eVar 3), (eD (.int 1))])]), (eD (.int 0))])) (sStoreXF 0 "Lines" ns_Lines 4 (vG 2) (opN gIntB [(opN gEq [(opN gIx [(eVar 3), (eD (.int 3))]), (opN gLen [(eG (fG 0 "Lines" ns_Lines 1))])])])) (sStoreXF 0 "Lines" ns_Lines 4 (vG 2) (opN gSum [(eComp (iterSeq (callM "Lines" ns_Lines g_Lines_readings 0 [none] [(eVar 3)])) (([("size", 4), ("later", 5)] : List (Str × Nat)).map (·.2)) (mTup (mCons (mName 4) (mCons (mName 5) mNil)) 2) tYesD (callM "Lines" ns_Lines gr 0 [none] [(eVar 5)]))]))))) sNext)
    (sRet (eG (opV gXGet (fldV 0 "Lines" ns_Lines 4) [(vG 2)])))))
noncomputable def gN_Lines_count : Nat → List W → RF
  | 0 => fun _ => .stuck
  | n + 1 => mkFn is_Lines_count 2 6 (b_Lines_count (gN_Lines_count n))
noncomputable def g_Lines_count : List W → RF := gN_Lines_count 12
theorem okN_Lines_count {f : Addr} {fd : FuncData} (T : Facts K mg) (F : Fun K "count" "Lines.count" s_Lines_count f fd) (mk : ∀ n g, FnS P w K mg base n f fd ["self", "state"] g → CalM P w K mg base n "Lines" "count" ["self", "state"] g) (C_Lines_walked : CalM P w K mg base 2 "Lines" "walked" ["self", "state"] g_Lines_walked) (C_Lines_readings : CalM P w K mg base 1 "Lines" "readings" ["self", "state"] g_Lines_readings) : ∀ n : Nat, FnS P w K mg base (3 + n) f fd ["self", "state"] (gN_Lines_count n)
  | 0 => fn_stuck F sc_Lines_count
  | n + 1 => by
    have C_gr := mk _ _ (okN_Lines_count T F mk C_Lines_walked C_Lines_readings n)
    refine fn_ok (k := 3 + n) (is := is_Lines_count) F sc_Lines_count (fun cdv A outer s H E hr => ?_)
    have nd := sc_Lines_count.nd
    have tk : Takes (cxOf (L2.CX P w) P w K mg base ["self", "state", "key", "now", "size", "later"] "Lines.count" (defScope s_Lines_count) f cdv A outer s H E) (fun c d _ H => E c d H) := takes_of rfl rfl rfl rfl
    show SsS _ _ _ ([2] ++ ((([3] ++ ([] ++ ([] ++ []))) ++ []) ++ [])) _
    exact (ss_cons (s_set (i := 2) nd rfl (by first | exact Or.inl rfl | exact Or.inr rfl) (e_var 1))
    (ss_cons (s_if (t_g (tg_cmpR (op_xNotInA (hu65 hr)) cd_xNotIn (g_var 2) (v_fld (i := 0) (c := "Lines") (ns := ns_Lines) (j := 4) T.k_Lines nd_Lines rfl) (by rfl))) (ss_cons (s_set (i := 3) nd rfl (by first | exact Or.inl rfl | exact Or.inr rfl) (e_callM (i := 0) (ns := ns_Lines) (ms := [none]) C_Lines_walked tk hr (ea_cons (e_var 1) ea_nil) (by omega) (by decide +kernel)))
    (ss_one (s_if (t_cmp op_isA cd_is (e_var 3) e_non (nomark _)) (ss_one (s_storeXF (i := 0) (c := "Lines") (ns := ns_Lines) (j := 4) (hu65 hr) T.k_Lines nd_Lines rfl e_int (g_var 2))) (ss_one (s_if (t_cmp (op_eqD hr.units) cd_eq (e_callB (cr_sumA rfl) cd_sum (by rfl) T.b_sum (by decide +kernel) (ea_cons (e_ix ix_seq cd_ix (e_var 3) e_int (fun _ _ => rfl)) ea_nil)) e_int (nomark _)) (ss_one (s_storeXF (i := 0) (c := "Lines") (ns := ns_Lines) (j := 4) (hu65 hr) T.k_Lines nd_Lines rfl (e_callTy call_int1 cd_intB (by rfl) T.b_int (by decide +kernel) (ea_cons (e_cmp (op_eqD hr.units) cd_eq (e_ix ix_seq cd_ix (e_var 3) e_int (fun _ _ => rfl)) (e_callB call_lenA cd_len (by rfl) T.b_len (by decide +kernel) (ea_cons (e_g (g_fld (i := 0) (c := "Lines") (ns := ns_Lines) (j := 1) T.k_Lines nd_Lines rfl)) ea_nil)) (nomark _)) ea_nil)) (g_var 2))) (ss_one (s_storeXF (i := 0) (c := "Lines") (ns := ns_Lines) (j := 4) (hu65 hr) T.k_Lines nd_Lines rfl (e_callB (cr_sumA rfl) cd_sum (by rfl) T.b_sum (by decide +kernel) (ea_cons (e_comp rfl nd (i_seq (e_callM (i := 0) (ns := ns_Lines) (ms := [none]) C_Lines_readings tk hr (ea_cons (e_var 3) ea_nil) (by omega) (by decide +kernel))) (blkOk_by (own := [("size", 4), ("later", 5)]) (by with_unfolding_all rfl)) (fun _ _ _ _ _ => (g_tup rfl (gs_cons (g_name (i := 4) nd rfl (by first | exact Or.inl rfl | exact Or.inr rfl)) (gs_cons (g_name (i := 5) nd rfl (by first | exact Or.inl rfl | exact Or.inr rfl)) gs_nil)))) (fun _ _ _ _ _ => (e_callM (i := 0) (ns := ns_Lines) (ms := [none]) C_gr takes0 hr (ea_cons (e_var 5) ea_nil) (by omega) (by decide +kernel))) (by decide)) ea_nil)) (g_var 2)))))))) ss_nil)
    (ss_one (s_ret (e_g (gv_xget (hu65 hr) (v_fld (i := 0) (c := "Lines") (ns := ns_Lines) (j := 4) T.k_Lines nd_Lines rfl) (g_var 2)))))))
theorem ok_Lines_count {f : Addr} {fd : FuncData} (T : Facts K mg) (F : Fun K "count" "Lines.count" s_Lines_count f fd) (mk : ∀ n g, FnS P w K mg base n f fd ["self", "state"] g → CalM P w K mg base n "Lines" "count" ["self", "state"] g) (C_Lines_walked : CalM P w K mg base 2 "Lines" "walked" ["self", "state"] g_Lines_walked) (C_Lines_readings : CalM P w K mg base 1 "Lines" "readings" ["self", "state"] g_Lines_readings) : FnS P w K mg base 15 f fd ["self", "state"] g_Lines_count := okN_Lines_count T F mk C_Lines_walked C_Lines_readings 12
/-! Lines.least -/
abbrev s_Lines_least : Stmt := inClass (topS 22) 5
theorem sc_Lines_least : FnScope ["self", "state", "line", "now", "size", "one"] ["self"] (defScope s_Lines_least) := ⟨rfl, rfl, rfl, by decide +kernel, rfl, by decide +kernel, by decide +kernel⟩
noncomputable def lb_Lines_least_0 : M Fl :=
  (sSeq (sTgt (mTup (mCons (mName 4) (mCons (mName 1) mNil)) 2) (opN gIx [(eComp (iterSeq (callM "Lines" ns_Lines g_Lines_readings 0 [none] [(eVar 3)])) (([("one", 5)] : List (Str × Nat)).map (·.2)) (mName 5) (tst (opN gGt [(callM "Lines" ns_Lines g_Lines_count 0 [none] [(opN gIx [(eVar 5), (eD (.int 1))])]), (eD (.int 0))])) (eVar 5)), (eD (.int 0))]))
    (sSeq (sSet 2 (opN gAdd [(eVar 2), (dTup [(eVar 4)])]))
    (sSet 3 (callM "Lines" ns_Lines g_Lines_walked 0 [none] [(eVar 1)]))))
abbrev is_Lines_least : List Nat := ([1, 2] ++ (([] ++ []) ++ ([3] ++ ((([4] ++ ([1] ++ [])) ++ ([2] ++ [3])) ++ []))))
noncomputable def b_Lines_least : M Fl :=
  (sSeq (sPar 1 2 [(eG (fG 0 "Lines" ns_Lines 5)), (dTup [])])
    (sSeq (sIf (tst (opN gEq [(callM "Lines" ns_Lines g_Lines_count 0 [none] [(eVar 1)]), (eD (.int 0))])) (sRet (eD .non)) sNext)
    (sSeq (sSet 3 (callM "Lines" ns_Lines g_Lines_walked 0 [none] [(eVar 1)]))
    (sSeq (sWhile (tst (opN gGt [(opN gSum [(opN gIx [(eVar 3), (eD (.int 1))])]), (eD (.int 0))])) lb_Lines_least_0)
    (sRet (eVar 2))))))
noncomputable def g_Lines_least : List W → RF := mkFn is_Lines_least 1 6 b_Lines_least
theorem ok_Lines_least {f : Addr} {fd : FuncData} (T : Facts K mg) (F : Fun K "least" "Lines.least" s_Lines_least f fd) (C_Lines_count : CalM P w K mg base 15 "Lines" "count" ["self", "state"] g_Lines_count) (C_Lines_walked : CalM P w K mg base 2 "Lines" "walked" ["self", "state"] g_Lines_walked) (C_Lines_readings : CalM P w K mg base 1 "Lines" "readings" ["self", "state"] g_Lines_readings) : FnS P w K mg base 16 f fd ["self"] g_Lines_least := by
  refine fn_ok (is := is_Lines_least) F sc_Lines_least (fun cdv A outer s H E hr => ?_)
  have nd := sc_Lines_least.nd
  have tk : Takes (cxOf (L2.CX P w) P w K mg base ["self", "state", "line", "now", "size", "one"] "Lines.least" (defScope s_Lines_least) f cdv A outer s H E) (fun c d _ H => E c d H) := takes_of rfl rfl rfl rfl
  show SsS _ _ _ ([1, 2] ++ (([] ++ []) ++ ([3] ++ ((([4] ++ ([1] ++ [])) ++ ([2] ++ [3])) ++ [])))) _
  exact (ss_cons (s_par rfl nd rfl rfl (by decide) rfl rfl (ea_cons (e_g (g_fld (i := 0) (c := "Lines") (ns := ns_Lines) (j := 5) T.k_Lines nd_Lines rfl)) (ea_cons (e_tup ea_nil) ea_nil)) (by rfl))
    (ss_cons (s_if (t_cmp (op_eqD hr.units) cd_eq (e_callM (i := 0) (ns := ns_Lines) (ms := [none]) C_Lines_count tk hr (ea_cons (e_var 1) ea_nil) (by decide) (by decide +kernel)) e_int (nomark _)) (ss_one (s_ret e_non)) ss_nil)
    (ss_cons (s_set (i := 3) nd rfl (by first | exact Or.inl rfl | exact Or.inr rfl) (e_callM (i := 0) (ns := ns_Lines) (ms := [none]) C_Lines_walked tk hr (ea_cons (e_var 1) ea_nil) (by decide) (by decide +kernel)))
    (ss_cons (s_while (passes_of rfl) (t_cmp op_gt cd_cmp (e_callB (cr_sumA rfl) cd_sum (by rfl) T.b_sum (by decide +kernel) (ea_cons (e_ix ix_seq cd_ix (e_var 3) e_int (fun _ _ => rfl)) ea_nil)) e_int (nomark _)) (ss_cons (s_tgt (e_ix ix_seq cd_ix (e_compIf rfl nd (i_seq (e_callM (i := 0) (ns := ns_Lines) (ms := [none]) C_Lines_readings tk hr (ea_cons (e_var 3) ea_nil) (by decide) (by decide +kernel))) (blkOk_by (own := [("one", 5)]) (by with_unfolding_all rfl)) (fun _ _ _ _ _ => (g_name (i := 5) nd rfl (by first | exact Or.inl rfl | exact Or.inr rfl))) (fun _ _ _ _ _ => (t_cmp op_gt cd_cmp (e_callM (i := 0) (ns := ns_Lines) (ms := [none]) C_Lines_count takes0 hr (ea_cons (e_ix ix_seq cd_ix (e_var 5) e_int (fun _ _ => rfl)) ea_nil) (by decide) (by decide +kernel)) e_int (nomark _))) (fun _ _ _ _ _ => (e_var 5)) (by decide)) e_int (fun _ _ => rfl)) (g_tup rfl (gs_cons (g_name (i := 4) nd rfl (by first | exact Or.inl rfl | exact Or.inr rfl)) (gs_cons (g_name (i := 1) nd rfl (by first | exact Or.inl rfl | exact Or.inr rfl)) gs_nil))))
    (ss_cons (s_set (i := 2) nd rfl (by first | exact Or.inl rfl | exact Or.inr rfl) (e_bin op_addA cd_add (e_var 2) (e_tup (ea_cons (e_var 4) ea_nil))))
    (ss_one (s_set (i := 3) nd rfl (by first | exact Or.inl rfl | exact Or.inr rfl) (e_callM (i := 0) (ns := ns_Lines) (ms := [none]) C_Lines_walked tk hr (ea_cons (e_var 1) ea_nil) (by decide) (by decide +kernel)))))))
    (ss_one (s_ret (e_var 2)))))))
/-! how_many_lines -/
abbrev s_how_many_lines : Stmt := topS 24
theorem sc_how_many_lines : FnScope ["loader", "seen", "some"] ["loader", "seen"] (defScope s_how_many_lines) := ⟨rfl, rfl, rfl, by decide +kernel, rfl, by decide +kernel, by decide +kernel⟩
abbrev is_how_many_lines : List Nat := ([] ++ ([2] ++ []))
noncomputable def b_how_many_lines : M Fl :=
  (sSeq (sExpr (callF g_look_seen [none, none] [(eVar 0), (eVar 1)]))
    (sSeq (sSet 2 (callF g_lines_of [none, none] [(eVar 0), (eVar 1)]))
    (sRet (callM "Lines" ns_Lines g_Lines_count 2 [none] [(eG (fG 2 "Lines" ns_Lines 5))]))))
noncomputable def g_how_many_lines : List W → RF := mkFn is_how_many_lines 2 3 b_how_many_lines
theorem ok_how_many_lines {f : Addr} {fd : FuncData} (T : Facts K mg) (F : Fun K "how_many_lines" "how_many_lines" s_how_many_lines f fd) (C_look_seen : Cal P w K mg base 4 "look_seen" ["loader", "seen"] g_look_seen) (C_lines_of : Cal P w K mg base 3 "lines_of" ["loader", "seen"] g_lines_of) (C_Lines_count : CalM P w K mg base 15 "Lines" "count" ["self", "state"] g_Lines_count) : FnS P w K mg base 16 f fd ["loader", "seen"] g_how_many_lines := by
  refine fn_ok (is := is_how_many_lines) F sc_how_many_lines (fun cdv A outer s H E hr => ?_)
  have nd := sc_how_many_lines.nd
  have tk : Takes (cxOf (L2.CX P w) P w K mg base ["loader", "seen", "some"] "how_many_lines" (defScope s_how_many_lines) f cdv A outer s H E) (fun c d _ H => E c d H) := takes_of rfl rfl rfl rfl
  show SsS _ _ _ ([] ++ ([2] ++ [])) _
  exact (ss_cons (s_expr (e_callC (ms := [none, none]) C_look_seen tk hr (ea_cons (e_var 0) (ea_cons (e_var 1) ea_nil)) (by decide)))
    (ss_cons (s_set (i := 2) nd rfl (by first | exact Or.inl rfl | exact Or.inr rfl) (e_callC (ms := [none, none]) C_lines_of tk hr (ea_cons (e_var 0) (ea_cons (e_var 1) ea_nil)) (by decide)))
    (ss_one (s_ret (e_callM (i := 2) (ns := ns_Lines) (ms := [none]) C_Lines_count tk hr (ea_cons (e_g (g_fld (i := 2) (c := "Lines") (ns := ns_Lines) (j := 5) T.k_Lines nd_Lines rfl)) ea_nil) (by decide) (by decide +kernel))))))
/-! sizes_at -/
abbrev s_sizes_at : Stmt := topS 27
theorem sc_sizes_at : FnScope ["loader", "seen", "place", "one", "found", "size", "some"] ["loader", "seen", "place"] (defScope s_sizes_at) := ⟨rfl, rfl, rfl, by decide +kernel, rfl, by decide +kernel, by decide +kernel⟩
noncomputable def lb_sizes_at_0 : M Fl :=
  (sSeq (sSet 6 (callNew "Lines" ns_Lines g_Lines_new [(eVar 0), (eVar 1), (eVar 2), (eVar 5)]))
    (sIf (tst (opN gGt [(callM "Lines" ns_Lines g_Lines_count 6 [none] [(eG (fG 6 "Lines" ns_Lines 5))]), (eD (.int 0))])) (sExpr (eApp 4 (eVar 5))) sNext))
noncomputable def m_sizes_at_0 : MT :=
  (mName 5)
abbrev is_sizes_at : List Nat := ([] ++ (([] ++ []) ++ ([4] ++ (([5] ++ ([6] ++ ([] ++ []))) ++ []))))
noncomputable def b_sizes_at : M Fl :=
  (sSeq (sExpr (callF g_look_seen [none, none] [(eVar 0), (eVar 1)]))
    (sSeq (sIf (tNotD (tst (callF g_is_whole [none, none, none] [(eVar 2), (eD (.int 0)), (opN gSub [(opN gSum [(eComp (iterSeq (eVar 1)) (([("one", 3)] : List (Str × Nat)).map (·.2)) (mName 3) tYesD (opN gLen [(eVar 3)]))]), (eD (.int 1))])]))) (sRaise "BadPlace") sNext)
    (sSeq (sSet 4 (dLst []))
    (sSeq (sFor (iterR2 (eD (.int 1)) (opN gAdd [(opN gIx [(eVar 0), (eD (.int 0))]), (eD (.int 1))])) m_sizes_at_0 lb_sizes_at_0)
    (sRet (opN gTuple [(eVar 4)]))))))
noncomputable def g_sizes_at : List W → RF := mkFn is_sizes_at 3 7 b_sizes_at
theorem ok_sizes_at {f : Addr} {fd : FuncData} (T : Facts K mg) (F : Fun K "sizes_at" "sizes_at" s_sizes_at f fd) (C_look_seen : Cal P w K mg base 4 "look_seen" ["loader", "seen"] g_look_seen) (C_is_whole : Cal P w K mg base 1 "is_whole" ["thing", "least", "most"] g_is_whole) (C_Lines_new : CalN P w K mg base 1 "Lines" ["self", "loader", "seen", "place", "size"] g_Lines_new) (C_Lines_count : CalM P w K mg base 15 "Lines" "count" ["self", "state"] g_Lines_count) : FnS P w K mg base 16 f fd ["loader", "seen", "place"] g_sizes_at := by
  refine fn_ok (is := is_sizes_at) F sc_sizes_at (fun cdv A outer s H E hr => ?_)
  have nd := sc_sizes_at.nd
  have tk : Takes (cxOf (L2.CX P w) P w K mg base ["loader", "seen", "place", "one", "found", "size", "some"] "sizes_at" (defScope s_sizes_at) f cdv A outer s H E) (fun c d _ H => E c d H) := takes_of rfl rfl rfl rfl
  show SsS _ _ _ ([] ++ (([] ++ []) ++ ([4] ++ (([5] ++ ([6] ++ ([] ++ []))) ++ [])))) _
  exact (ss_cons (s_expr (e_callC (ms := [none, none]) C_look_seen tk hr (ea_cons (e_var 0) (ea_cons (e_var 1) ea_nil)) (by decide)))
    (ss_cons (s_if (t_not (t_val (e_callC (ms := [none, none, none]) C_is_whole tk hr (ea_cons (e_var 2) (ea_cons e_int (ea_cons (e_bin op_sub cd_sub (e_callB (cr_sumA rfl) cd_sum (by rfl) T.b_sum (by decide +kernel) (ea_cons (e_comp rfl nd (i_seq (e_var 1)) (blkOk_by (own := [("one", 3)]) (by with_unfolding_all rfl)) (fun _ _ _ _ _ => (g_name (i := 3) nd rfl (by first | exact Or.inl rfl | exact Or.inr rfl))) (fun _ _ _ _ _ => (e_callB call_lenA cd_len (by rfl) T.b_len (by decide +kernel) (ea_cons (e_var 3) ea_nil))) (by decide)) ea_nil)) e_int) ea_nil))) (by decide)))) (ss_one (s_raiseC T.e_BadPlace tk)) ss_nil)
    (ss_cons (s_set (i := 4) nd rfl (by first | exact Or.inl rfl | exact Or.inr rfl) (e_lst ea_nil))
    (ss_cons (s_for (passes_of rfl) rfl (i_range2 (by rfl) T.b_range e_int (e_bin op_addA cd_add (e_ix ix_seq cd_ix (e_var 0) e_int (fun _ _ => rfl)) e_int)) (g_name (i := 5) nd rfl (by first | exact Or.inl rfl | exact Or.inr rfl)) (ss_cons (s_set (i := 6) nd rfl (by first | exact Or.inl rfl | exact Or.inr rfl) (e_callN (ns := ns_Lines) C_Lines_new tk hr (ea_cons (e_var 0) (ea_cons (e_var 1) (ea_cons (e_var 2) (ea_cons (e_var 5) ea_nil)))) (by decide)))
    (ss_one (s_if (t_cmp op_gt cd_cmp (e_callM (i := 6) (ns := ns_Lines) (ms := [none]) C_Lines_count tk hr (ea_cons (e_g (g_fld (i := 6) (c := "Lines") (ns := ns_Lines) (j := 5) T.k_Lines nd_Lines rfl)) ea_nil) (by decide) (by decide +kernel)) e_int (nomark _)) (ss_one (s_expr (e_app (i := 4) (he := (e_var 5))))) ss_nil))))
    (ss_one (s_ret (e_callTy call_tuple_of cd_tuple (by rfl) T.b_tuple (by decide +kernel) (ea_cons (e_var 4) ea_nil))))))))
/-! first_line -/
abbrev s_first_line : Stmt := topS 25
theorem sc_first_line : FnScope ["loader", "seen"] ["loader", "seen"] (defScope s_first_line) := ⟨rfl, rfl, rfl, by decide +kernel, rfl, by decide +kernel, by decide +kernel⟩
abbrev is_first_line : List Nat := ([] ++ [])
noncomputable def b_first_line : M Fl :=
  (sSeq (sExpr (callF g_look_seen [none, none] [(eVar 0), (eVar 1)]))
    (sRet (callTmp "Lines" ns_Lines g_Lines_least (callF g_lines_of [none, none] [(eVar 0), (eVar 1)]) [])))
noncomputable def g_first_line : List W → RF := mkFn is_first_line 2 2 b_first_line
theorem ok_first_line {f : Addr} {fd : FuncData} (T : Facts K mg) (F : Fun K "first_line" "first_line" s_first_line f fd) (C_look_seen : Cal P w K mg base 4 "look_seen" ["loader", "seen"] g_look_seen) (C_Lines_least : CalM P w K mg base 16 "Lines" "least" ["self"] g_Lines_least) (C_lines_of : Cal P w K mg base 3 "lines_of" ["loader", "seen"] g_lines_of) : FnS P w K mg base 17 f fd ["loader", "seen"] g_first_line := by
  refine fn_ok (is := is_first_line) F sc_first_line (fun cdv A outer s H E hr => ?_)
  have nd := sc_first_line.nd
  have tk : Takes (cxOf (L2.CX P w) P w K mg base ["loader", "seen"] "first_line" (defScope s_first_line) f cdv A outer s H E) (fun c d _ H => E c d H) := takes_of rfl rfl rfl rfl
  show SsS _ _ _ ([] ++ []) _
  exact (ss_cons (s_expr (e_callC (ms := [none, none]) C_look_seen tk hr (ea_cons (e_var 0) (ea_cons (e_var 1) ea_nil)) (by decide)))
    (ss_one (s_ret (e_callT0 (ns := ns_Lines) C_Lines_least tk hr (e_callC (ms := [none, none]) C_lines_of tk hr (ea_cons (e_var 0) (ea_cons (e_var 1) ea_nil)) (by decide)) (by decide) (by decide +kernel)))))
/-! Lines.lines -/
abbrev s_Lines_lines : Stmt := inClass (topS 22) 4
theorem sc_Lines_lines : FnScope ["self", "state", "line", "now", "found", "size", "later"] ["self", "state", "line"] (defScope s_Lines_lines) := ⟨rfl, rfl, rfl, by decide +kernel, rfl, by decide +kernel, by decide +kernel⟩
noncomputable def lb_Lines_lines_0 (gr : List W → RF) : M Fl :=
  (sIf (tst (opN gGt [(callM "Lines" ns_Lines g_Lines_count 0 [none] [(eVar 6)]), (eD (.int 0))])) (sExpr (eExt 4 (callM "Lines" ns_Lines gr 0 [none, none] [(eVar 6), (opN gAdd [(eVar 2), (dTup [(eVar 5)])])]))) sNext)
noncomputable def m_Lines_lines_0 : MT :=
  (mTup (mCons (mName 5) (mCons (mName 6) mNil)) 2)
abbrev is_Lines_lines : List Nat := ([3] ++ (([] ++ []) ++ ([4] ++ ((([5] ++ ([6] ++ [])) ++ ([] ++ [])) ++ []))))
noncomputable def b_Lines_lines (gr : List W → RF) : M Fl :=
  (sSeq (sSet 3 (callM "Lines" ns_Lines g_Lines_walked 0 [none] [(eVar 1)]))
    (sSeq (sIf (tst (opN gEq [(opN gSum [(opN gIx [(eVar 3), (eD (.int 1))])]), (eD (.int 0))])) (sRet (dLst [(eVar 2)])) sNext)
    (sSeq (sSet 4 (dLst []))
    (sSeq (sFor (iterSeq (callM "Lines" ns_Lines g_Lines_readings 0 [none] [(eVar 3)])) m_Lines_lines_0 (lb_Lines_lines_0 gr))
    (sRet (eVar 4))))))
noncomputable def gN_Lines_lines : Nat → List W → RF
  | 0 => fun _ => .stuck
  | n + 1 => mkFn is_Lines_lines 3 7 (b_Lines_lines (gN_Lines_lines n))
noncomputable def g_Lines_lines : List W → RF := gN_Lines_lines 12
theorem okN_Lines_lines {f : Addr} {fd : FuncData} (T : Facts K mg) (F : Fun K "lines" "Lines.lines" s_Lines_lines f fd) (mk : ∀ n g, FnS P w K mg base n f fd ["self", "state", "line"] g → CalM P w K mg base n "Lines" "lines" ["self", "state", "line"] g) (C_Lines_walked : CalM P w K mg base 2 "Lines" "walked" ["self", "state"] g_Lines_walked) (C_Lines_readings : CalM P w K mg base 1 "Lines" "readings" ["self", "state"] g_Lines_readings) (C_Lines_count : CalM P w K mg base 15 "Lines" "count" ["self", "state"] g_Lines_count) : ∀ n : Nat, FnS P w K mg base (16 + n) f fd ["self", "state", "line"] (gN_Lines_lines n)
  | 0 => fn_stuck F sc_Lines_lines
  | n + 1 => by
    have C_gr := mk _ _ (okN_Lines_lines T F mk C_Lines_walked C_Lines_readings C_Lines_count n)
    refine fn_ok (k := 16 + n) (is := is_Lines_lines) F sc_Lines_lines (fun cdv A outer s H E hr => ?_)
    have nd := sc_Lines_lines.nd
    have tk : Takes (cxOf (L2.CX P w) P w K mg base ["self", "state", "line", "now", "found", "size", "later"] "Lines.lines" (defScope s_Lines_lines) f cdv A outer s H E) (fun c d _ H => E c d H) := takes_of rfl rfl rfl rfl
    show SsS _ _ _ ([3] ++ (([] ++ []) ++ ([4] ++ ((([5] ++ ([6] ++ [])) ++ ([] ++ [])) ++ [])))) _
    exact (ss_cons (s_set (i := 3) nd rfl (by first | exact Or.inl rfl | exact Or.inr rfl) (e_callM (i := 0) (ns := ns_Lines) (ms := [none]) C_Lines_walked tk hr (ea_cons (e_var 1) ea_nil) (by omega) (by decide +kernel)))
    (ss_cons (s_if (t_cmp (op_eqD hr.units) cd_eq (e_callB (cr_sumA rfl) cd_sum (by rfl) T.b_sum (by decide +kernel) (ea_cons (e_ix ix_seq cd_ix (e_var 3) e_int (fun _ _ => rfl)) ea_nil)) e_int (nomark _)) (ss_one (s_ret (e_lst (ea_cons (e_var 2) ea_nil)))) ss_nil)
    (ss_cons (s_set (i := 4) nd rfl (by first | exact Or.inl rfl | exact Or.inr rfl) (e_lst ea_nil))
    (ss_cons (s_for (passes_of rfl) rfl (i_seq (e_callM (i := 0) (ns := ns_Lines) (ms := [none]) C_Lines_readings tk hr (ea_cons (e_var 3) ea_nil) (by omega) (by decide +kernel))) (g_tup rfl (gs_cons (g_name (i := 5) nd rfl (by first | exact Or.inl rfl | exact Or.inr rfl)) (gs_cons (g_name (i := 6) nd rfl (by first | exact Or.inl rfl | exact Or.inr rfl)) gs_nil))) (ss_one (s_if (t_cmp op_gt cd_cmp (e_callM (i := 0) (ns := ns_Lines) (ms := [none]) C_Lines_count tk hr (ea_cons (e_var 6) ea_nil) (by omega) (by decide +kernel)) e_int (nomark _)) (ss_one (s_expr (e_ext (i := 4) (e_callM (i := 0) (ns := ns_Lines) (ms := [none, none]) C_gr tk hr (ea_cons (e_var 6) (ea_cons (e_bin op_addA cd_add (e_var 2) (e_tup (ea_cons (e_var 5) ea_nil))) ea_nil)) (by omega) (by decide +kernel))))) ss_nil)))
    (ss_one (s_ret (e_var 4)))))))
theorem ok_Lines_lines {f : Addr} {fd : FuncData} (T : Facts K mg) (F : Fun K "lines" "Lines.lines" s_Lines_lines f fd) (mk : ∀ n g, FnS P w K mg base n f fd ["self", "state", "line"] g → CalM P w K mg base n "Lines" "lines" ["self", "state", "line"] g) (C_Lines_walked : CalM P w K mg base 2 "Lines" "walked" ["self", "state"] g_Lines_walked) (C_Lines_readings : CalM P w K mg base 1 "Lines" "readings" ["self", "state"] g_Lines_readings) (C_Lines_count : CalM P w K mg base 15 "Lines" "count" ["self", "state"] g_Lines_count) : FnS P w K mg base 28 f fd ["self", "state", "line"] g_Lines_lines := okN_Lines_lines T F mk C_Lines_walked C_Lines_readings C_Lines_count 12
/-! all_lines -/
abbrev s_all_lines : Stmt := topS 26
theorem sc_all_lines : FnScope ["loader", "seen", "some", "many"] ["loader", "seen"] (defScope s_all_lines) := ⟨rfl, rfl, rfl, by decide +kernel, rfl, by decide +kernel, by decide +kernel⟩
abbrev is_all_lines : List Nat := ([] ++ ([2] ++ ([3] ++ (([] ++ []) ++ []))))
noncomputable def b_all_lines : M Fl :=
  (sSeq (sExpr (callF g_look_seen [none, none] [(eVar 0), (eVar 1)]))
    (sSeq (sSet 2 (callF g_lines_of [none, none] [(eVar 0), (eVar 1)]))
    (sSeq (sSet 3 (callM "Lines" ns_Lines g_Lines_count 2 [none] [(eG (fG 2 "Lines" ns_Lines 5))]))
    (sSeq (sIf (tst (opN gGt [(eVar 3), (eD (.int 300))])) (sRaise "Full") sNext)
    (sRet (eIf (tst (opN gGt [(eVar 3), (eD (.int 0))])) (callM "Lines" ns_Lines g_Lines_lines 2 [none, none] [(eG (fG 2 "Lines" ns_Lines 5)), (dTup [])]) (dLst [])))))))
noncomputable def g_all_lines : List W → RF := mkFn is_all_lines 2 4 b_all_lines
theorem ok_all_lines {f : Addr} {fd : FuncData} (T : Facts K mg) (F : Fun K "all_lines" "all_lines" s_all_lines f fd) (C_look_seen : Cal P w K mg base 4 "look_seen" ["loader", "seen"] g_look_seen) (C_lines_of : Cal P w K mg base 3 "lines_of" ["loader", "seen"] g_lines_of) (C_Lines_count : CalM P w K mg base 15 "Lines" "count" ["self", "state"] g_Lines_count) (C_Lines_lines : CalM P w K mg base 28 "Lines" "lines" ["self", "state", "line"] g_Lines_lines) : FnS P w K mg base 29 f fd ["loader", "seen"] g_all_lines := by
  obtain ⟨t_MOST, h_MOST⟩ := T.c_MOST
  refine fn_ok (is := is_all_lines) F sc_all_lines (fun cdv A outer s H E hr => ?_)
  have nd := sc_all_lines.nd
  have tk : Takes (cxOf (L2.CX P w) P w K mg base ["loader", "seen", "some", "many"] "all_lines" (defScope s_all_lines) f cdv A outer s H E) (fun c d _ H => E c d H) := takes_of rfl rfl rfl rfl
  show SsS _ _ _ ([] ++ ([2] ++ ([3] ++ (([] ++ []) ++ [])))) _
  exact (ss_cons (s_expr (e_callC (ms := [none, none]) C_look_seen tk hr (ea_cons (e_var 0) (ea_cons (e_var 1) ea_nil)) (by decide)))
    (ss_cons (s_set (i := 2) nd rfl (by first | exact Or.inl rfl | exact Or.inr rfl) (e_callC (ms := [none, none]) C_lines_of tk hr (ea_cons (e_var 0) (ea_cons (e_var 1) ea_nil)) (by decide)))
    (ss_cons (s_set (i := 3) nd rfl (by first | exact Or.inl rfl | exact Or.inr rfl) (e_callM (i := 2) (ns := ns_Lines) (ms := [none]) C_Lines_count tk hr (ea_cons (e_g (g_fld (i := 2) (c := "Lines") (ns := ns_Lines) (j := 5) T.k_Lines nd_Lines rfl)) ea_nil) (by decide) (by decide +kernel)))
    (ss_cons (s_if (t_cmp op_gt cd_cmp (e_var 3) (e_glob (v := .int 300) (by rfl) h_MOST ⟨_, rfl⟩ (fun _ => .int 300)) (nomark _)) (ss_one (s_raiseC T.e_Full tk)) ss_nil)
    (ss_one (s_ret (e_if (t_cmp op_gt cd_cmp (e_var 3) e_int (nomark _)) (e_callM (i := 2) (ns := ns_Lines) (ms := [none, none]) C_Lines_lines tk hr (ea_cons (e_g (g_fld (i := 2) (c := "Lines") (ns := ns_Lines) (j := 5) T.k_Lines nd_Lines rfl)) (ea_cons (e_tup ea_nil) ea_nil)) (by decide) (by decide +kernel)) (e_lst ea_nil))))))))
/-! _law_one -/
abbrev s_law_one : Stmt := topS 34
theorem sc_law_one : FnScope ["how", "some", "loader", "seen"] ["how", "some"] (defScope s_law_one) := ⟨rfl, rfl, rfl, by decide +kernel, rfl, by decide +kernel, by decide +kernel⟩
abbrev is_law_one : List Nat := (([2] ++ ([3] ++ [])) ++ [])
noncomputable def b_law_one : M Fl :=
  (sSeq (sTgt (mTup (mCons (mName 2) (mCons (mName 3) mNil)) 2) (eVar 1))
    (sRet (callF g_all_lines [none, none] [(eVar 2), (eVar 3)])))
noncomputable def g_law_one : List W → RF := mkFn is_law_one 2 4 b_law_one
theorem ok_law_one {f : Addr} {fd : FuncData} (T : Facts K mg) (F : Fun K "_law_one" "_law_one" s_law_one f fd) (C_all_lines : Cal P w K mg base 29 "all_lines" ["loader", "seen"] g_all_lines) : FnS P w K mg base 30 f fd ["how", "some"] g_law_one := by
  refine fn_ok (is := is_law_one) F sc_law_one (fun cdv A outer s H E hr => ?_)
  have nd := sc_law_one.nd
  have tk : Takes (cxOf (L2.CX P w) P w K mg base ["how", "some", "loader", "seen"] "_law_one" (defScope s_law_one) f cdv A outer s H E) (fun c d _ H => E c d H) := takes_of rfl rfl rfl rfl
  show SsS _ _ _ (([2] ++ ([3] ++ [])) ++ []) _
  exact (ss_cons (s_tgt (e_var 1) (g_tup rfl (gs_cons (g_name (i := 2) nd rfl (by first | exact Or.inl rfl | exact Or.inr rfl)) (gs_cons (g_name (i := 3) nd rfl (by first | exact Or.inl rfl | exact Or.inr rfl)) gs_nil))))
    (ss_one (s_ret (e_callC (ms := [none, none]) C_all_lines tk hr (ea_cons (e_var 2) (ea_cons (e_var 3) ea_nil)) (by decide)))))
/-! _law_told -/
abbrev s_law_told : Stmt := topS 31
theorem sc_law_told : FnScope ["way", "some", "caught", "found", "e"] ["way", "some"] (defScope s_law_told) := ⟨rfl, rfl, rfl, by decide +kernel, rfl, by decide +kernel, by decide +kernel⟩
abbrev is_law_told : List Nat := ([2] ++ ([3] ++ (([3] ++ [2, 4]) ++ (([] ++ []) ++ []))))
noncomputable def b_law_told : M Fl :=
  (sSeq (sSet 2 (eD .non))
    (sSeq (sSet 3 (eD .non))
    (sSeq (sTry raisedL 4 2 (sSet 3 (callF g_law_one [none, none] [(eVar 0), (eVar 1)])))
    (sSeq (sIf (tst (opN gIs [(eVar 2), (eD .non)])) (sRet (dTup [(eD (.str "found")), (eVar 3)])) sNext)
    (sRet (dTup [(eD (.str "refused")), (callF g_law_word [none] [(eVar 2)])]))))))
noncomputable def g_law_told : List W → RF := mkFn is_law_told 2 5 b_law_told
theorem ok_law_told {f : Addr} {fd : FuncData} (T : Facts K mg) (F : Fun K "_law_told" "_law_told" s_law_told f fd) (C_law_one : Cal P w K mg base 30 "_law_one" ["how", "some"] g_law_one) (C_law_word : Cal P w K mg base 1 "_law_word" ["caught"] g_law_word) : FnS P w K mg base 31 f fd ["way", "some"] g_law_told := by
  refine fn_ok (is := is_law_told) F sc_law_told (fun cdv A outer s H E hr => ?_)
  have nd := sc_law_told.nd
  have tk : Takes (cxOf (L2.CX P w) P w K mg base ["way", "some", "caught", "found", "e"] "_law_told" (defScope s_law_told) f cdv A outer s H E) (fun c d _ H => E c d H) := takes_of rfl rfl rfl rfl
  show SsS _ _ _ ([2] ++ ([3] ++ (([3] ++ [2, 4]) ++ (([] ++ []) ++ [])))) _
  exact (ss_cons (s_set (i := 2) nd rfl (by first | exact Or.inl rfl | exact Or.inr rfl) e_non)
    (ss_cons (s_set (i := 3) nd rfl (by first | exact Or.inl rfl | exact Or.inr rfl) e_non)
    (ss_cons (s_try rfl rfl rfl nd rfl rfl rfl rfl (by decide) (by rfl) T.cat_ChairError (fun W pn xe tk1 _ => (ss_one (s_set (i := 3) nd rfl (by first | exact Or.inl rfl | exact Or.inr rfl) (e_callC (ms := [none, none]) C_law_one tk1 hr (ea_cons (e_var 0) (ea_cons (e_var 1) ea_nil)) (by decide))))))
    (ss_cons (s_if (t_cmp op_isA cd_is (e_var 2) e_non (nomark _)) (ss_one (s_ret (e_tup (ea_cons e_str (ea_cons (e_var 3) ea_nil))))) ss_nil)
    (ss_one (s_ret (e_tup (ea_cons e_str (ea_cons (e_callC (ms := [none]) C_law_word tk hr (ea_cons (e_var 2) ea_nil) (by decide)) ea_nil)))))))))
/-! law -/
abbrev s_law : Stmt := topS 35
theorem sc_law : FnScope ["script", "town", "plain", "seen", "told_now", "pairs_seen", "short", "loose", "free", "many"] ["script"] (defScope s_law) := ⟨rfl, rfl, rfl, by decide +kernel, rfl, by decide +kernel, by decide +kernel⟩
abbrev is_law : List Nat := ([1] ++ ([2] ++ ([3] ++ (([] ++ []) ++ ([4] ++ (([] ++ []) ++ (([] ++ []) ++ ([5] ++ (([] ++ []) ++ ([6] ++ (([] ++ []) ++ ([7] ++ (([] ++ []) ++ (([] ++ []) ++ ([8] ++ ([9] ++ (([] ++ []) ++ (([] ++ []) ++ []))))))))))))))))))
noncomputable def b_law : M Fl :=
  (sSeq (sSet 1 (callF g_law_town [none] [(eVar 0)]))
    (sSeq (sSet 2 (dTup [(eD (.int 6)), (eD (.int 0)), (callF g_law_draw [none, some 1, none] [(eVar 0), (eVar 1), (eD (.int 4))])]))
    (sSeq (sSet 3 (opN gMulZ [(dTup [(dTup [(eD (.int 1)), (eD (.int 2)), (eD (.int 3))])]), (eD (.int 3))]))
    (sSeq (sIf (tOrD (tst (opN gNe [(callF g_how_many_lines [none, none] [(eVar 2), (eVar 3)]), (eD (.int 216))])) (tst (opN gNe [(callF g_first_line [none, none] [(eVar 2), (eVar 3)]), (opN gMulZ [(dTup [(eD (.int 1)), (eD (.int 2)), (eD (.int 3))]), (eD (.int 3))])]))) (sRet (eD (.bl false))) sNext)
    (sSeq (sSet 4 (callF g_law_told [none, none] [(eD (.int 0)), (dTup [(eVar 2), (eVar 3)])]))
    (sSeq (sIf (tOrD (tst (opN gNe [(opN gIx [(eVar 4), (eD (.int 0))]), (eD (.str "found"))])) (tst (opN gNe [(opN gLen [(opN gIx [(eVar 4), (eD (.int 1))])]), (eD (.int 216))]))) (sRet (eD (.bl false))) sNext)
    (sSeq (sIf (tst (opN gNe [(callF g_sizes_at [none, none, none] [(eVar 2), (eVar 3), (callF g_law_draw [none, some 1, none] [(eVar 0), (eVar 1), (eD (.int 9))])]), (dTup [(eD (.int 1)), (eD (.int 2)), (eD (.int 3))])])) (sRet (eD (.bl false))) sNext)
    (sSeq (sSet 5 (opN gMulZ [(dTup [(dTup [(eD (.int 2)), (eD (.int 3))])]), (eD (.int 4))]))
    (sSeq (sIf (tOrD (tst (opN gNe [(callF g_how_many_lines [none, none] [(eVar 2), (eVar 5)]), (eD (.int 16))])) (tst (opN gNe [(callF g_first_line [none, none] [(eVar 2), (eVar 5)]), (opN gMulZ [(dTup [(eD (.int 2)), (eD (.int 3))]), (eD (.int 4))])]))) (sRet (eD (.bl false))) sNext)
    (sSeq (sSet 6 (dTup [(dTup [(eD (.int 1)), (eD (.int 4))]), (dTup [(eD (.int 2)), (eD (.int 4))])]))
    (sSeq (sIf (tst (opN gNe [(callF g_all_lines [none, none] [(eVar 2), (eVar 6)]), (dLst [(dTup [(eD (.int 1)), (eD (.int 4)), (eD (.int 2)), (eD (.int 4))]), (dTup [(eD (.int 1)), (eD (.int 4)), (eD (.int 4)), (eD (.int 2))]), (dTup [(eD (.int 4)), (eD (.int 1)), (eD (.int 2)), (eD (.int 4))]), (dTup [(eD (.int 4)), (eD (.int 1)), (eD (.int 4)), (eD (.int 2))])])])) (sRet (eD (.bl false))) sNext)
    (sSeq (sSet 7 (dTup [(dTup [(eD (.int 1)), (eD (.int 3))]), (dTup [(eD (.int 2)), (eD (.int 4))])]))
    (sSeq (sIf (tOrD (tst (opN gNe [(callF g_all_lines [none, none] [(eVar 2), (eVar 7)]), (dLst [(dTup [(eD (.int 1)), (eD (.int 3)), (eD (.int 4)), (eD (.int 2))]), (dTup [(eD (.int 3)), (eD (.int 1)), (eD (.int 4)), (eD (.int 2))])])])) (tst (opN gNe [(callF g_sizes_at [none, none, none] [(eVar 2), (eVar 7), (eD (.int 2))]), (dTup [(eD (.int 4))])]))) (sRet (eD (.bl false))) sNext)
    (sSeq (sIf (tOrD (tst (opN gNe [(callF g_how_many_lines [none, none] [(eVar 2), (dTup [(dTup [(eD (.int 1))]), (dTup [(eD (.int 1))])])]), (eD (.int 0))])) (tst (opN gIsNot [(callF g_first_line [none, none] [(eVar 2), (dTup [(dTup [(eD (.int 1))]), (dTup [(eD (.int 1))])])]), (eD .non)]))) (sRet (eD (.bl false))) sNext)
    (sSeq (sSet 8 (dTup [(eD (.int 6)), (eD (.int 3)), (eD (.int 3))]))
    (sSeq (sSet 9 (callF g_how_many_lines [none, none] [(eVar 8), (eVar 3)]))
    (sSeq (sIf (tOrD (tst (opN gLt [(eVar 9), (eD (.int 216))])) (tAndD (tst (opN gNe [(callF g_law_told [none, none] [(eD (.int 0)), (dTup [(eVar 8), (eVar 3)])]), (callF g_law_refused [none] [(eD (.str "full"))])])) (tst (opN gGt [(eVar 9), (eD (.int 300))])))) (sRet (eD (.bl false))) sNext)
    (sSeq (sIf (tst (opN gNe [(callF g_how_many_lines [none, none] [(dTup [(eD (.int 6)), (eD (.int 1)), (eD (.int 1))]), (dTup [(dTup [(eD (.int 1)), (eD (.int 5))]), (dTup [(eD (.int 5))])])]), (eD (.int 3))])) (sRet (eD (.bl false))) sNext)
    (sRet (opN gEq [(callF g_all_lines [none, none] [(dTup [(eD (.int 6)), (eD (.int 1)), (eD (.int 1))]), (dTup [(dTup [(eD (.int 1)), (eD (.int 5))]), (dTup [(eD (.int 5))])])]), (dLst [(dTup [(eD (.int 1)), (eD (.int 5)), (eD (.int 5))]), (dTup [(eD (.int 5)), (eD (.int 1)), (eD (.int 5))]), (dTup [(eD (.int 5)), (eD (.int 5)), (eD (.int 1))])])]))))))))))))))))))))
noncomputable def g_law : List W → RF := mkFn is_law 1 10 b_law
theorem ok_law {f : Addr} {fd : FuncData} (T : Facts K mg) (F : Fun K "law" "law" s_law f fd) (C_law_town : Cal P w K mg base 1 "_law_town" ["script"] g_law_town) (C_law_draw : Cal P w K mg base 1 "_law_draw" ["script", "town", "many"] g_law_draw) (C_how_many_lines : Cal P w K mg base 16 "how_many_lines" ["loader", "seen"] g_how_many_lines) (C_first_line : Cal P w K mg base 17 "first_line" ["loader", "seen"] g_first_line) (C_law_told : Cal P w K mg base 31 "_law_told" ["way", "some"] g_law_told) (C_sizes_at : Cal P w K mg base 16 "sizes_at" ["loader", "seen", "place"] g_sizes_at) (C_all_lines : Cal P w K mg base 29 "all_lines" ["loader", "seen"] g_all_lines) (C_law_refused : Cal P w K mg base 1 "_law_refused" ["word"] g_law_refused) : FnS P w K mg base 32 f fd ["script"] g_law := by
  refine fn_ok (is := is_law) F sc_law (fun cdv A outer s H E hr => ?_)
  have nd := sc_law.nd
  have tk : Takes (cxOf (L2.CX P w) P w K mg base ["script", "town", "plain", "seen", "told_now", "pairs_seen", "short", "loose", "free", "many"] "law" (defScope s_law) f cdv A outer s H E) (fun c d _ H => E c d H) := takes_of rfl rfl rfl rfl
  show SsS _ _ _ ([1] ++ ([2] ++ ([3] ++ (([] ++ []) ++ ([4] ++ (([] ++ []) ++ (([] ++ []) ++ ([5] ++ (([] ++ []) ++ ([6] ++ (([] ++ []) ++ ([7] ++ (([] ++ []) ++ (([] ++ []) ++ ([8] ++ ([9] ++ (([] ++ []) ++ (([] ++ []) ++ [])))))))))))))))))) _
  exact (ss_cons (s_set (i := 1) nd rfl (by first | exact Or.inl rfl | exact Or.inr rfl) (e_callC (ms := [none]) C_law_town tk hr (ea_cons (e_var 0) ea_nil) (by decide)))
    (ss_cons (s_set (i := 2) nd rfl (by first | exact Or.inl rfl | exact Or.inr rfl) (e_tup (ea_cons e_int (ea_cons e_int (ea_cons (e_callC (ms := [none, some 1, none]) C_law_draw tk hr (ea_cons (e_var 0) (ea_cons (e_var 1) (ea_cons e_int ea_nil))) (by decide)) ea_nil)))))
    (ss_cons (s_set (i := 3) nd rfl (by first | exact Or.inl rfl | exact Or.inr rfl) (e_bin op_mulZ cd_mulZ (e_tup (ea_cons (e_tup (ea_cons e_int (ea_cons e_int (ea_cons e_int ea_nil)))) ea_nil)) e_int))
    (ss_cons (s_if (t_w (w_or (t_cmp (op_neD hr.units) cd_ne (e_callC (ms := [none, none]) C_how_many_lines tk hr (ea_cons (e_var 2) (ea_cons (e_var 3) ea_nil)) (by decide)) e_int (nomark _)) (w_or1 (t_cmp (op_neD hr.units) cd_ne (e_callC (ms := [none, none]) C_first_line tk hr (ea_cons (e_var 2) (ea_cons (e_var 3) ea_nil)) (by decide)) (e_bin op_mulZ cd_mulZ (e_tup (ea_cons e_int (ea_cons e_int (ea_cons e_int ea_nil)))) e_int) (nomark _))))) (ss_one (s_ret e_bl)) ss_nil)
    (ss_cons (s_set (i := 4) nd rfl (by first | exact Or.inl rfl | exact Or.inr rfl) (e_callC (ms := [none, none]) C_law_told tk hr (ea_cons e_int (ea_cons (e_tup (ea_cons (e_var 2) (ea_cons (e_var 3) ea_nil))) ea_nil)) (by decide)))
    (ss_cons (s_if (t_w (w_or (t_cmp (op_neD hr.units) cd_ne (e_ix ix_seq cd_ix (e_var 4) e_int (fun _ _ => rfl)) e_str (nomark _)) (w_or1 (t_cmp (op_neD hr.units) cd_ne (e_callB call_lenA cd_len (by rfl) T.b_len (by decide +kernel) (ea_cons (e_ix ix_seq cd_ix (e_var 4) e_int (fun _ _ => rfl)) ea_nil)) e_int (nomark _))))) (ss_one (s_ret e_bl)) ss_nil)
    (ss_cons (s_if (t_cmp (op_neD hr.units) cd_ne (e_callC (ms := [none, none, none]) C_sizes_at tk hr (ea_cons (e_var 2) (ea_cons (e_var 3) (ea_cons (e_callC (ms := [none, some 1, none]) C_law_draw tk hr (ea_cons (e_var 0) (ea_cons (e_var 1) (ea_cons e_int ea_nil))) (by decide)) ea_nil))) (by decide)) (e_tup (ea_cons e_int (ea_cons e_int (ea_cons e_int ea_nil)))) (nomark _)) (ss_one (s_ret e_bl)) ss_nil)
    (ss_cons (s_set (i := 5) nd rfl (by first | exact Or.inl rfl | exact Or.inr rfl) (e_bin op_mulZ cd_mulZ (e_tup (ea_cons (e_tup (ea_cons e_int (ea_cons e_int ea_nil))) ea_nil)) e_int))
    (ss_cons (s_if (t_w (w_or (t_cmp (op_neD hr.units) cd_ne (e_callC (ms := [none, none]) C_how_many_lines tk hr (ea_cons (e_var 2) (ea_cons (e_var 5) ea_nil)) (by decide)) e_int (nomark _)) (w_or1 (t_cmp (op_neD hr.units) cd_ne (e_callC (ms := [none, none]) C_first_line tk hr (ea_cons (e_var 2) (ea_cons (e_var 5) ea_nil)) (by decide)) (e_bin op_mulZ cd_mulZ (e_tup (ea_cons e_int (ea_cons e_int ea_nil))) e_int) (nomark _))))) (ss_one (s_ret e_bl)) ss_nil)
    (ss_cons (s_set (i := 6) nd rfl (by first | exact Or.inl rfl | exact Or.inr rfl) (e_tup (ea_cons (e_tup (ea_cons e_int (ea_cons e_int ea_nil))) (ea_cons (e_tup (ea_cons e_int (ea_cons e_int ea_nil))) ea_nil))))
    (ss_cons (s_if (t_cmp (op_neD hr.units) cd_ne (e_callC (ms := [none, none]) C_all_lines tk hr (ea_cons (e_var 2) (ea_cons (e_var 6) ea_nil)) (by decide)) (e_lst (ea_cons (e_tup (ea_cons e_int (ea_cons e_int (ea_cons e_int (ea_cons e_int ea_nil))))) (ea_cons (e_tup (ea_cons e_int (ea_cons e_int (ea_cons e_int (ea_cons e_int ea_nil))))) (ea_cons (e_tup (ea_cons e_int (ea_cons e_int (ea_cons e_int (ea_cons e_int ea_nil))))) (ea_cons (e_tup (ea_cons e_int (ea_cons e_int (ea_cons e_int (ea_cons e_int ea_nil))))) ea_nil))))) (nomark _)) (ss_one (s_ret e_bl)) ss_nil)
    (ss_cons (s_set (i := 7) nd rfl (by first | exact Or.inl rfl | exact Or.inr rfl) (e_tup (ea_cons (e_tup (ea_cons e_int (ea_cons e_int ea_nil))) (ea_cons (e_tup (ea_cons e_int (ea_cons e_int ea_nil))) ea_nil))))
    (ss_cons (s_if (t_w (w_or (t_cmp (op_neD hr.units) cd_ne (e_callC (ms := [none, none]) C_all_lines tk hr (ea_cons (e_var 2) (ea_cons (e_var 7) ea_nil)) (by decide)) (e_lst (ea_cons (e_tup (ea_cons e_int (ea_cons e_int (ea_cons e_int (ea_cons e_int ea_nil))))) (ea_cons (e_tup (ea_cons e_int (ea_cons e_int (ea_cons e_int (ea_cons e_int ea_nil))))) ea_nil))) (nomark _)) (w_or1 (t_cmp (op_neD hr.units) cd_ne (e_callC (ms := [none, none, none]) C_sizes_at tk hr (ea_cons (e_var 2) (ea_cons (e_var 7) (ea_cons e_int ea_nil))) (by decide)) (e_tup (ea_cons e_int ea_nil)) (nomark _))))) (ss_one (s_ret e_bl)) ss_nil)
    (ss_cons (s_if (t_w (w_or (t_cmp (op_neD hr.units) cd_ne (e_callC (ms := [none, none]) C_how_many_lines tk hr (ea_cons (e_var 2) (ea_cons (e_tup (ea_cons (e_tup (ea_cons e_int ea_nil)) (ea_cons (e_tup (ea_cons e_int ea_nil)) ea_nil))) ea_nil)) (by decide)) e_int (nomark _)) (w_or1 (t_cmp op_isNotA cd_isNot (e_callC (ms := [none, none]) C_first_line tk hr (ea_cons (e_var 2) (ea_cons (e_tup (ea_cons (e_tup (ea_cons e_int ea_nil)) (ea_cons (e_tup (ea_cons e_int ea_nil)) ea_nil))) ea_nil)) (by decide)) e_non (nomark _))))) (ss_one (s_ret e_bl)) ss_nil)
    (ss_cons (s_set (i := 8) nd rfl (by first | exact Or.inl rfl | exact Or.inr rfl) (e_tup (ea_cons e_int (ea_cons e_int (ea_cons e_int ea_nil)))))
    (ss_cons (s_set (i := 9) nd rfl (by first | exact Or.inl rfl | exact Or.inr rfl) (e_callC (ms := [none, none]) C_how_many_lines tk hr (ea_cons (e_var 8) (ea_cons (e_var 3) ea_nil)) (by decide)))
    (ss_cons (s_if (t_w (w_or (t_cmp op_lt cd_cmp (e_var 9) e_int (nomark _)) (w_or1 (t_w (w_and (t_cmp (op_neD hr.units) cd_ne (e_callC (ms := [none, none]) C_law_told tk hr (ea_cons e_int (ea_cons (e_tup (ea_cons (e_var 8) (ea_cons (e_var 3) ea_nil))) ea_nil)) (by decide)) (e_callC (ms := [none]) C_law_refused tk hr (ea_cons e_str ea_nil) (by decide)) (nomark _)) (w_and1 (t_cmp op_gt cd_cmp (e_var 9) e_int (nomark _)))))))) (ss_one (s_ret e_bl)) ss_nil)
    (ss_cons (s_if (t_cmp (op_neD hr.units) cd_ne (e_callC (ms := [none, none]) C_how_many_lines tk hr (ea_cons (e_tup (ea_cons e_int (ea_cons e_int (ea_cons e_int ea_nil)))) (ea_cons (e_tup (ea_cons (e_tup (ea_cons e_int (ea_cons e_int ea_nil))) (ea_cons (e_tup (ea_cons e_int ea_nil)) ea_nil))) ea_nil)) (by decide)) e_int (nomark _)) (ss_one (s_ret e_bl)) ss_nil)
    (ss_one (s_ret (e_cmp (op_eqD hr.units) cd_eq (e_callC (ms := [none, none]) C_all_lines tk hr (ea_cons (e_tup (ea_cons e_int (ea_cons e_int (ea_cons e_int ea_nil)))) (ea_cons (e_tup (ea_cons (e_tup (ea_cons e_int (ea_cons e_int ea_nil))) (ea_cons (e_tup (ea_cons e_int ea_nil)) ea_nil))) ea_nil)) (by decide)) (e_lst (ea_cons (e_tup (ea_cons e_int (ea_cons e_int (ea_cons e_int ea_nil)))) (ea_cons (e_tup (ea_cons e_int (ea_cons e_int (ea_cons e_int ea_nil)))) (ea_cons (e_tup (ea_cons e_int (ea_cons e_int (ea_cons e_int ea_nil)))) ea_nil)))) (nomark _))))))))))))))))))))))
end
end Lw

namespace Lw
open PySem PySem.Spec PyProof.Rows L2 DL
/-! ### the plain words: rows, a loader, a line -/
abbrev Row := Int × Int × Int
def dR (r : Row) : D := .tup [.int r.1, .int r.2.1, .int r.2.2]
def dL (s l p : Int) : D := .tup [.int s, .int l, .int p]
def dI (ns : List Int) : D := .tup (ns.map D.int)
theorem en_row : En dR 2 := ⟨fun x y => by
    unfold dR
    rw [deq_tups, all_cons, all_cons, all_cons, all_nil, deq_int, deq_int, deq_int]
    obtain ⟨a, b, c⟩ := x
    obtain ⟨a', b', c'⟩ := y
    by_cases h1 : a = a' <;> by_cases h2 : b = b' <;> by_cases h3 : c = c' <;> simp [h1, h2, h3], fun x m hm => by
    cases m with
    | zero => omega
    | succ m => cases m with
      | zero => omega
      | succ m => rfl⟩
def nextAt (p room : Int) : List Row → Option Nat
  | [] => none
  | r :: rs => if r.2.1 ≤ room then some 0 else if p ≤ r.2.2 then none else (nextAt p room rs).map (· + 1)
def bump (rs : List Row) : List Row := rs.map fun r => (r.1, r.2.1, r.2.2 + 1)
def loadGo (l p : Int) : Nat → Int → List Row → List Row × List Row
  | 0, _, rows => ([], rows)
  | n + 1, room, rows => match nextAt p room (rows.take (l + 1).toNat) with
    | none => ([], rows)
    | some j => match rows[j]? with
      | none => ([], rows)
      | some r => let q := loadGo l p n (room - r.2.1) (bump (rows.take j) ++ rows.drop (j + 1)); (r :: q.1, q.2)
def allGo (s l p : Int) : Nat → List Row → List (List Row)
  | 0, _ => []
  | _ + 1, [] => []
  | n + 1, r :: rs => let q := loadGo l p (r :: rs).length s (r :: rs); q.1 :: allGo s l p n q.2
def rows0 (line : List Int) : List Row := line.zipIdx.map fun q => ((q.2 : Nat), q.1, 0)
def allM (s l p : Int) (line : List Int) : List (List Row) := allGo s l p line.length (rows0 line)
def chairsM (s l p : Int) (line : List Int) : List (List Int) := (allM s l p line).map fun sit => sortI (sit.map (·.1))
def emptM (s l p : Int) (line : List Int) : List Int := (allM s l p line).map fun sit => s - (sit.map (·.2.1)).sum
def okLd (s l p : Int) : Prop := (1 ≤ s ∧ s ≤ 6) ∧ (0 ≤ l ∧ l ≤ 3) ∧ (0 ≤ p ∧ p ≤ 3)
def okLn (s : Int) (line : List Int) : Prop := line.length ≤ 24 ∧ ∀ x ∈ line, 1 ≤ x ∧ x ≤ s
/-! ### what the defs tell -/
theorem ev_is_whole (i a b : Int) : g_is_whole [.v (.int i), .v (.int a), .v (.int b)] = .ok (.v (.bl (decide (a ≤ i ∧ i ≤ b)))) [.v (.int i), .v (.int a), .v (.int b)] := by
  simp [g_is_whole, b_is_whole]
  by_cases h : a ≤ i <;> simp [h]
theorem ev_is_loader {s l p : Int} (h : okLd s l p) : g_is_loader [.v (dL s l p)] = .ok (.v (.bl true)) [.v (dL s l p)] := by
  obtain ⟨⟨h1, h2⟩, ⟨h3, h4⟩, h5, h6⟩ := h
  simp [g_is_loader, b_is_loader, dL, atI_of, ev_is_whole, h1, h2, h3, h4, h5, h6]
theorem ev_look_loader {s l p : Int} (h : okLd s l p) : g_look_loader [.v (dL s l p)] = .ok (.v .non) [.v (dL s l p)] := by
  simp [g_look_loader, b_look_loader, ev_is_loader h]theorem for_next {s l p room : Int} {rows : W} : ∀ (rs : List Row) (k : Nat) (x3 x4 x5 x6 : Option D),
    (∃ j, nextAt p room rs = some j ∧ ∃ e : DEnv, e[1]? = some (some rows) ∧ forD m_next_of_0 lb_next_of_0 (((rs.map dR).zipIdx k).map fun q => D.tup [.int (q.2 : Nat), q.1]) [some (.v (dL s l p)), some rows, some (.v (.int room)), x3.map .v, x4.map .v, x5.map .v, x6.map .v] = .ok (.ret (.w (.v (.int ((k + j : Nat) : Int))))) e) ∨
    (nextAt p room rs = none ∧ ∃ e : DEnv, e[1]? = some (some rows) ∧ (forD m_next_of_0 lb_next_of_0 (((rs.map dR).zipIdx k).map fun q => D.tup [.int (q.2 : Nat), q.1]) [some (.v (dL s l p)), some rows, some (.v (.int room)), x3.map .v, x4.map .v, x5.map .v, x6.map .v] = .ok (.ret (.w (.v .non))) e ∨ forD m_next_of_0 lb_next_of_0 (((rs.map dR).zipIdx k).map fun q => D.tup [.int (q.2 : Nat), q.1]) [some (.v (dL s l p)), some rows, some (.v (.int room)), x3.map .v, x4.map .v, x5.map .v, x6.map .v] = .ok .next e))
  | [], k, x3, x4, x5, x6 => .inr ⟨rfl, _, rfl, .inr rfl⟩
  | r :: rs, k, x3, x4, x5, x6 => by
    by_cases h1 : r.2.1 ≤ room
    · refine .inl ⟨0, by simp [nextAt, h1], ?_⟩
      simp [forD, m_next_of_0, lb_next_of_0, dR, h1]
    · by_cases h2 : p ≤ r.2.2
      · refine .inr ⟨by simp [nextAt, h1, h2], ?_⟩
        simp [forD, m_next_of_0, lb_next_of_0, dR, dL, h1, h2, atI_of]
      · have st : ∀ ds, forD m_next_of_0 lb_next_of_0 (D.tup [.int (k : Nat), dR r] :: ds) [some (.v (dL s l p)), some rows, some (.v (.int room)), x3.map .v, x4.map .v, x5.map .v, x6.map .v] = forD m_next_of_0 lb_next_of_0 ds [some (.v (dL s l p)), some rows, some (.v (.int room)), some (.v (.int (k : Nat))), some (.v (.int r.1)), some (.v (.int r.2.1)), some (.v (.int r.2.2))] := by
          intro ds
          rw [forD]
          simp [m_next_of_0, lb_next_of_0, dR, dL, h1, h2, atI_of]
        simp only [List.map_cons, List.zipIdx_cons, st]
        rcases for_next (s := s) (l := l) (p := p) (room := room) (rows := rows) rs (k + 1) (some (.int (k : Nat))) (some (.int r.1)) (some (.int r.2.1)) (some (.int r.2.2)) with ⟨j, h3, e, he, h4⟩ | ⟨h3, h4⟩
        · refine .inl ⟨j + 1, by simp [nextAt, h1, h2, h3], e, he, ?_⟩
          refine h4.trans ?_
          congr 6
          omega
        · exact .inr ⟨by simp [nextAt, h1, h2, h3], h4⟩
def optD : Option Nat → D
  | none => .non
  | some j => .int (j : Nat)
theorem ev_next_of {s l p room : Int} (rows : List Row) (hl : 0 ≤ l) : g_next_of [.v (dL s l p), .v (.lst (rows.map dR)), .v (.int room)] = .ok (.v (optD (nextAt p room (rows.take (l + 1).toNat)))) [.v (dL s l p), .v (.lst (rows.map dR)), .v (.int room)] := by
  have hi : atI [D.int s, D.int l, D.int p] 1 = some (D.int l) := by simp [atI_of]
  have e1 : cutA (rows.map dR) none (some (l + 1)) = (rows.take (l + 1).toNat).map dR := by rw [cutA_hi (by omega), List.map_take]
  rcases for_next (s := s) (l := l) (p := p) (room := room) (rows := .v (.lst (rows.map dR))) (rows.take (l + 1).toNat) 0 none none none none with ⟨j, h3, e, he, h4⟩ | ⟨h3, e, he, h4 | h4⟩
  all_goals
    simp only [dL, Option.map_none, List.map_take, Nat.zero_add] at h4
    simp [g_next_of, b_next_of, dL, hi, e1, pairs0, h3, optD]
    simp [h4, he]
theorem ev_next_ofL {s l p room : Int} (rows : List Row) (hl : 0 ≤ l) : g_next_of [.v (dL s l p), .l true (rows.map dR), .v (.int room)] = .ok (.v (optD (nextAt p room (rows.take (l + 1).toNat)))) [.v (dL s l p), .l true (rows.map dR), .v (.int room)] := by
  have hi : atI [D.int s, D.int l, D.int p] 1 = some (D.int l) := by simp [atI_of]
  have e1 : cutA (rows.map dR) none (some (l + 1)) = (rows.take (l + 1).toNat).map dR := by rw [cutA_hi (by omega), List.map_take]
  rcases for_next (s := s) (l := l) (p := p) (room := room) (rows := .l true (rows.map dR)) (rows.take (l + 1).toNat) 0 none none none none with ⟨j, h3, e, he, h4⟩ | ⟨h3, e, he, h4 | h4⟩
  all_goals
    simp only [dL, Option.map_none, List.map_take, Nat.zero_add] at h4
    simp [g_next_of, b_next_of, dL, hi, e1, pairs0, h3, optD]
    simp [h4, he]
/-! the town, draws -/
def TownOk (ns : List Int) (k : Nat) (town : List D) : Prop := ∃ xs : List Int, town = .int (k : Int) :: xs.map D.int ∧ xs.length = ns.length
theorem ev_law_town (ns : List Int) (h : ns.length ≤ 63) : ∃ town, g_law_town [.v (.scr ns)] = .ok (.l false town) [.v (.scr ns)] ∧ TownOk ns 0 town := by
  refine ⟨_, ?_, ns, rfl, rfl⟩
  have : 1 + ns.length ≤ 1000000 := by omega
  simp [-List.map_map, -List.map_take, -List.map_drop, g_law_town, b_law_town, this]
theorem ixN_of {n : Nat} {i : Int} (h : 0 ≤ i) (h2 : i < n) : ixN n i = some i.toNat := by
  unfold ixN; rw [if_pos h, if_pos h2]
theorem ev_draw {ns : List Int} {k : Nat} {town : List D} {m : Int} (ht : TownOk ns k town) (hk : k < 2 ^ 40) (hm : 0 < m) (hm2 : m < 1073741824) :
    ∃ v town', g_law_draw [.v (.scr ns), .l true town, .v (.int m)] = .ok (.v (.int v)) [.v (.scr ns), .l true town', .v (.int m)] ∧ (0 ≤ v ∧ v < m) ∧ TownOk ns (k + 1) town' := by
  obtain ⟨xs, rfl, hx⟩ := ht
  have i0 : ∀ n : Nat, ixN (n + 1) 0 = some 0 := fun n => ixN_of (by omega) (by omega)
  have a0 : ∀ (d : D) (ds : List D), atI (d :: ds) 0 = some d := fun d ds => by rw [atI_of (by omega)]; rfl
  have k1 : ((k : Int) + 1).natAbs < 2 ^ 64 := by omega
  by_cases h0 : ns = []
  · subst h0
    refine ⟨(k + 1) * (k + 1) * 7 / 3 % m, .int (k + 1) :: xs.map D.int, ?_, ⟨Int.emod_nonneg _ (by omega), Int.emod_lt_of_pos _ hm⟩, xs, by simp, hx⟩
    simp [-List.map_map, -List.map_take, -List.map_drop, g_law_draw, b_law_draw, a0, i0, gMul, k1, hm]
  · have hl : 0 < ns.length := List.length_pos_iff.mpr h0
    have b0 : 0 ≤ ((k : Int) + 1) % (ns.length : Int) := Int.emod_nonneg _ (by omega)
    have b1 : ((k : Int) + 1) % (ns.length : Int) < ns.length := Int.emod_lt_of_pos _ (by omega)
    generalize ha : ((k : Int) + 1) % (ns.length : Int) = a at b0 b1
    have hk2 : a.toNat < ns.length := by omega
    have e1 : atI ns a = some ns[a.toNat] := by rw [atI_of b0, List.getElem?_eq_getElem hk2]
    have e2 : atI (D.int ((k : Int) + 1) :: xs.map D.int) (1 + a) = some (D.int (xs[a.toNat]'(by omega))) := by
      rw [atI_of (by omega), show (1 + a).toNat = a.toNat + 1 by omega, List.getElem?_cons_succ, List.getElem?_map, List.getElem?_eq_getElem (by omega)]
      rfl
    have hl2 : (0 : Int) < (ns.length : Int) := by omega
    generalize hx2 : xs[a.toNat]'(by omega) = left at e2
    generalize ns[a.toNat] = sa at e1
    have e3 : ixN (xs.length + 1) (1 + a) = some (a.toNat + 1) := by
      rw [ixN_of (by omega) (by omega)]
      congr 1
      omega
    have p1 : (0 : Int) ≤ 18 ∧ (18 : Int) ≤ 1000 ∧ (10 : Int).natAbs < 2 ^ 64 := by decide
    by_cases c : 1000000000000000000 ≤ sa ∧ 0 < left
    · refine ⟨left % m, .int ((k : Int) + 1) :: (xs.set a.toNat (left / m)).map D.int, ?_, ⟨Int.emod_nonneg _ (by omega), Int.emod_lt_of_pos _ hm⟩, xs.set a.toNat (left / m), by simp [-List.map_map, -List.map_take, -List.map_drop, List.map_set], by simp [-List.map_map, -List.map_take, -List.map_drop, hx]⟩
      simp [-List.map_map, -List.map_take, -List.map_drop, g_law_draw, b_law_draw, a0, i0, hl, hl2, ha, e1, e2, e3, h0, gPow, p1, c.1, c.2, hm, hm2, List.map_set]
    · have n0 : 0 ≤ (sa + 104729 * ((k : Int) + 1)) % 4294967291 := Int.emod_nonneg _ (by decide)
      have n1 : (sa + 104729 * ((k : Int) + 1)) % 4294967291 < 4294967291 := Int.emod_lt_of_pos _ (by decide)
      have n2 : ((sa + 104729 * ((k : Int) + 1)) % 4294967291).natAbs < 2 ^ 64 := by omega
      have hc : ¬ (1000000000000000000 ≤ sa ∧ 0 < left) := c
      refine ⟨_, .int ((k : Int) + 1) :: xs.map D.int, ?_, ⟨Int.emod_nonneg ((((sa + 104729 * ((k : Int) + 1)) % 4294967291) ^ 5 % 4294967279 / 64 * 69621 + ((sa + 104729 * ((k : Int) + 1)) % 4294967291) ^ 5 % 4294967279) % 4294967231 / 8) (by omega), Int.emod_lt_of_pos _ hm⟩, xs, by simp, hx⟩
      by_cases c1 : 1000000000000000000 ≤ sa
      · have c2 : ¬ 0 < left := fun z => hc ⟨c1, z⟩
        simp [-List.map_map, -List.map_take, -List.map_drop, g_law_draw, b_law_draw, a0, i0, hl, hl2, ha, e1, e2, e3, h0, gPow, p1, c1, c2, hm, hm2, gMul, n2]
      · simp [-List.map_map, -List.map_take, -List.map_drop, g_law_draw, b_law_draw, a0, i0, hl, hl2, ha, e1, e2, e3, h0, gPow, p1, c1, hm, hm2, gMul, n2]
/-! ### running a law -/
def Runs (f : M Fl) (env : DEnv) (d : D) : Prop := ∃ e, f env = .ok (.ret (.w (.v d))) e
theorem law_ret {is : List Nat} {n nl : Nat} {f : M Fl} {ns : List Int} (hk : keeps is [.v (.scr ns)] = true) (hn : n = 1) (h : Runs f (some (.v (.scr ns)) :: List.replicate (nl - n) none) (.bl true)) : ∃ ws, mkFn is n nl f [.v (.scr ns)] = .ok (.v (.bl true)) ws := by
  obtain ⟨e, h⟩ := h
  refine ⟨[.v (.scr ns)], ?_⟩
  unfold mkFn
  rw [if_pos ⟨hk, hn.symm⟩]
  show (match f (some (.v (.scr ns)) :: List.replicate (nl - n) none) with | .ok (.ret u) env => _ | .ok .next env => _ | .raise c env => _ | _ => _) = _
  rw [h]
  rfl
theorem run_seq {a b : M Fl} {env e : DEnv} {d : D} (h : a env = .ok .next e) (h2 : Runs b e d) : Runs (sSeq a b) env d := by
  obtain ⟨e2, h2⟩ := h2
  refine ⟨e2, ?_⟩
  rw [sSeq_ap, h]
  exact h2
def rangeI (lo hi : Int) : List Int := (List.range (hi - lo).toNat).map fun i => lo + (i : Nat)
theorem rangeD_eq (lo hi : Int) : rangeD lo hi = (rangeI lo hi).map D.int := by
  unfold rangeD rangeI; rw [List.map_map]; rfl
theorem en_dI : En dI 2 := en_tup en_int
theorem rep_dI (x : Int) (n : Nat) : D.tup (List.replicate n [D.int x]).flatten = dI (List.replicate n x) := by
  unfold dI
  congr 1
  induction n with
  | zero => rfl
  | succ n ih => rw [List.replicate_succ, List.flatten_cons, ih, List.replicate_succ]; rfl
theorem run_ret {f : M U} {env e : DEnv} {d : D} (h : f env = .ok (.w (.v d)) e) : Runs (sRet f) env d := ⟨e, by rw [sRet_ap, h]; rfl⟩
/-! ### ranges -/
theorem iterR1_of {f : M U} {n : Int} {env e : DEnv} (h : f env = .ok (.w (.v (.int n))) e) (b1 : -1000000 ≤ n) (b2 : n ≤ 1000000) : iterR1 f env = .ok (rangeD 0 n) e := by
  have hb : -2 ^ 62 ≤ n ∧ n < 2 ^ 62 := by
    constructor
    · exact Int.le_trans (by decide) b1
    · exact Int.lt_of_le_of_lt b2 (by decide)
  rw [iterR1_ap, show evs [f] env = .ok [.w (.v (.int n))] e by simp [h]]
  exact if_pos hb
theorem iterR2_of {f g : M U} {m n : Int} {env e1 e : DEnv} (hf : f env = .ok (.w (.v (.int m))) e1) (h : g e1 = .ok (.w (.v (.int n))) e) (a1 : -1000000 ≤ m) (a2 : m ≤ 1000000) (b1 : -1000000 ≤ n) (b2 : n ≤ 1000000) : iterR2 f g env = .ok (rangeD m n) e := by
  have hb : (-2 ^ 62 ≤ m ∧ m < 2 ^ 62) ∧ (-2 ^ 62 ≤ n ∧ n < 2 ^ 62) :=
    ⟨⟨Int.le_trans (by decide) a1, Int.lt_of_le_of_lt a2 (by decide)⟩, Int.le_trans (by decide) b1, Int.lt_of_le_of_lt b2 (by decide)⟩
  rw [iterR2_ap, show evs [f, g] env = .ok [.w (.v (.int m)), .w (.v (.int n))] e by simp [hf, h]]
  exact if_pos hb
theorem len_dI {i : Nat} {env : DEnv} {xs : List Int} (h : env[i]? = some (some (.v (dI xs)))) : opN gLen [eVar i] env = .ok (.w (.v (.int (xs.length : Nat)))) env := by
  have : eVar i env = .ok (.w (.v (dI xs))) env := by unfold eVar; rw [h]
  rw [opN_ap, show evs [eVar i] env = .ok [.w (.v (dI xs))] env by simp [h]]
  simp [dI]
theorem call_of {g : List W → RF} {ms : List (Option Nat)} {fs : List (M U)} {env e1 e2 e3 : DEnv} {us : List U} {l : List (Option D)} {ws ws' : List W} {w : W} (h1 : evs fs env = .ok us e1) (h2 : frzM ms e1 us = some (l, e2)) (h3 : takeW e2 ms l = some ws) (h4 : g ws = .ok w ws') (h5 : putW ms ws' e2 = some e3) : callF g ms fs env = .ok (.w w) e3 := by
  rw [callF_ap, h1, R.bind_ok, h2]
  dsimp only
  rw [h3]
  dsimp only
  rw [h4]
  dsimp only
  rw [h5]
/-! ### big steps -/
theorem opN_of {g : List D → Option W} {fs : List (M U)} {env e : DEnv} {us : List U} {ds : List D} {w : W} (h1 : evs fs env = .ok us e) (h2 : datL e us = some ds) (h3 : g ds = some w) : opN g fs env = .ok (.w w) e := by
  rw [opN_ap, h1, R.bind_ok, h2]
  dsimp only
  rw [h3]
theorem tst_of {f : M U} {env e : DEnv} {b : Bool} (h : f env = .ok (.w (.v (.bl b))) e) : tst f env = .ok b e := by
  rw [tst_ap, h]
  rfl
theorem if_no {t : M Bool} {a b : M Fl} {env e : DEnv} (h : t env = .ok false e) : sIf t a b env = b e := by
  rw [sIf_ap, h]
  rfl
theorem if_yes {t : M Bool} {a b : M Fl} {env e : DEnv} (h : t env = .ok true e) : sIf t a b env = a e := by
  rw [sIf_ap, h]
  rfl
theorem if_skip {t : M Bool} {a : M Fl} {env e : DEnv} (h : t env = .ok false e) : sIf t a sNext env = .ok .next e := by
  rw [if_no h]
  rfl
theorem evs2 {f g : M U} {env e1 e2 : DEnv} {u v : U} (h1 : f env = .ok u e1) (h2 : g e1 = .ok v e2) : evs [f, g] env = .ok [u, v] e2 := by
  rw [evs_cons, h1, R.bind_ok, evs_cons, h2, R.bind_ok, evs_nil, R.bind_ok, R.bind_ok]
theorem evs1 {f : M U} {env e1 : DEnv} {u : U} (h1 : f env = .ok u e1) : evs [f] env = .ok [u] e1 := by
  rw [evs_cons, h1, R.bind_ok, evs_nil, R.bind_ok]
theorem or_no {a b : M Bool} {env e1 e2 : DEnv} {k : Bool} (h1 : a env = .ok false e1) (h2 : b e1 = .ok k e2) : tOrD a b env = .ok k e2 := by
  rw [tOrD_ap, h1, R.bind_ok]
  exact h2
theorem and_no {a b : M Bool} {env e1 : DEnv} (h1 : a env = .ok false e1) : tAndD a b env = .ok false e1 := by
  rw [tAndD_ap, h1, R.bind_ok]
  rfl
theorem and_yes {a b : M Bool} {env e1 e2 : DEnv} {k : Bool} (h1 : a env = .ok true e1) (h2 : b e1 = .ok k e2) : tAndD a b env = .ok k e2 := by
  rw [tAndD_ap, h1, R.bind_ok]
  exact h2
theorem set_v {i : Nat} {f : M U} {env e e' : DEnv} {d : D} (h : f env = .ok (.w (.v d)) e) (h2 : setS i (.v d) e = some e') : sSet i f env = .ok .next e' := by
  rw [sSet_ap, h, R.bind_ok]
  show (match setS i (.v d) e with | some e3 => R.ok Fl.next e3 | none => R.stuck) = _
  rw [h2]
theorem set_l {i : Nat} {f : M U} {env e e' : DEnv} {ds : List D} (h : f env = .ok (.w (.l false ds)) e) (h2 : setS i (.l false ds) e = some e') : sSet i f env = .ok .next e' := by
  rw [sSet_ap, h, R.bind_ok]
  show (match setS i (.l false ds) e with | some e3 => R.ok Fl.next e3 | none => R.stuck) = _
  rw [h2]
theorem call2_v {g : List W → RF} {f1 f2 : M U} {env : DEnv} {d1 d2 : D} {w : W} (h1 : f1 env = .ok (.w (.v d1)) env) (h2 : f2 env = .ok (.w (.v d2)) env) (h : g [.v d1, .v d2] = .ok w [.v d1, .v d2]) : callF g [none, none] [f1, f2] env = .ok (.w w) env :=
  call_of (evs2 h1 h2) (l := [some d1, some d2]) (e2 := env) rfl rfl h rfl
end Lw

namespace Lw
open PySem PySem.Spec PyProof.Rows L2 DL
/-! ### lines of what was seen: the plain words -/
abbrev SR := Int × Int
structure LSt where
  rows : List SR
  left : List Int
  sit : List Int
  chair : Nat
deriving DecidableEq
def z3 (q : SR) : Row := (0, q.1, q.2)
def d2 (q : SR) : D := .tup [.int q.1, .int q.2]
def dLS (st : LSt) : D := .tup [.tup (st.rows.map d2), dI st.left, dI st.sit, .int (st.chair : Nat)]
def bumpS (rows : List SR) : List SR := rows.map fun q => (q.1, q.2 + 1)
def condS (l : Int) (st : LSt) : Bool := decide (l < st.rows.length) || (decide (st.left.sum = 0) && (decide (st.rows ≠ []) || decide (st.sit ≠ [])))
def muS (st : LSt) : Nat := 2 * st.rows.length + (if st.sit = [] then 0 else 1)
def walkGo (s l p : Int) (seen : List (List Int)) : Nat → LSt → Option LSt
  | 0, st => some st
  | n + 1, st => if condS l st then
      match nextAt p (s - st.sit.sum) ((st.rows.map z3).take (l + 1).toNat) with
      | none => if seen[st.chair]? = some (sortI st.sit) then walkGo s l p seen n ⟨st.rows, st.left, [], st.chair + 1⟩ else none
      | some j => match st.rows[j]? with
        | none => none
        | some q => walkGo s l p seen n ⟨bumpS (st.rows.take j) ++ st.rows.drop (j + 1), st.left, st.sit ++ [q.1], st.chair⟩
    else some st
def walkM (s l p : Int) (seen : List (List Int)) (st : LSt) : Option LSt := walkGo s l p seen (muS st) st
def readAt (st : LSt) (i : Nat) (many : Int) : Int × LSt := ((i : Int) + 1, ⟨st.rows ++ [((i : Int) + 1, 0)], st.left.take i ++ [many - 1] ++ st.left.drop (i + 1), st.sit, st.chair⟩)
def readGo (N place size : Int) (st : LSt) : List (Int × Nat) → List (Int × LSt)
  | [] => []
  | (many, i) :: r => if many > 0 ∧ (N - st.left.sum ≠ place ∨ (i : Int) + 1 = size) then readAt st i many :: readGo N place size st r else readGo N place size st r
def readM (N place size : Int) (st : LSt) : List (Int × LSt) := readGo N place size st st.left.zipIdx
def countM (s l p : Int) (seen : List (List Int)) (N place size : Int) : Nat → LSt → Int
  | 0, _ => 0
  | n + 1, st => match walkM s l p seen st with
    | none => 0
    | some now => if now.left.sum = 0 then (if now.chair = seen.length then 1 else 0) else ((readM N place size now).map fun q => countM s l p seen N place size n q.2).sum
def cnt (s l p : Int) (seen : List (List Int)) (N place size : Int) (st : LSt) : Int := countM s l p seen N place size (st.left.sum.toNat + 1) st
structure OkS (s : Int) (st : LSt) : Prop where
  rows : ∀ q ∈ st.rows, 1 ≤ q.1 ∧ q.1 ≤ s
  left : ∀ x ∈ st.left, 0 ≤ x
  len : (st.left.length : Int) = s
  sit : ∀ x ∈ st.sit, 1 ≤ x
  big : (st.rows.length : Int) + st.sit.length + st.chair + st.left.sum ≤ 500 ∧ 0 ≤ st.left.sum
theorem z3_len (rows : List SR) : (rows.map z3).length = rows.length := List.length_map ..
theorem walkGo_left {s l p : Int} {seen : List (List Int)} : ∀ (n : Nat) (st now : LSt), walkGo s l p seen n st = some now → now.left = st.left
  | 0, st, now, h => by cases h; rfl
  | n + 1, st, now, h => by
    rw [walkGo] at h
    split at h
    · split at h
      · split at h
        · have := walkGo_left n _ _ h; exact this
        · cases h
      · split at h
        · cases h
        · have := walkGo_left n _ _ h; exact this
    · cases h; rfl
theorem sum_nonneg : ∀ {xs : List Int}, (∀ x ∈ xs, 0 ≤ x) → 0 ≤ xs.sum
  | [], _ => by simp
  | x :: xs, h => by
    have := sum_nonneg (xs := xs) fun y hy => h y (List.mem_cons_of_mem _ hy)
    have := h x (List.mem_cons_self ..)
    rw [List.sum_cons]
    omega
theorem seat_okS {s : Int} {st : LSt} (O : OkS s st) {j : Nat} {q : SR} (hq : st.rows[j]? = some q) : OkS s ⟨bumpS (st.rows.take j) ++ st.rows.drop (j + 1), st.left, st.sit ++ [q.1], st.chair⟩ := by
  have hj := (List.getElem?_eq_some_iff.mp hq).1
  refine ⟨fun r hr => ?_, O.left, O.len, fun x hx => ?_, ?_⟩
  · rcases List.mem_append.mp hr with z | z
    · obtain ⟨r', h1, rfl⟩ := List.mem_map.mp z
      exact O.rows r' (List.mem_of_mem_take h1)
    · exact O.rows r (List.mem_of_mem_drop z)
  · rcases List.mem_append.mp hx with z | z
    · exact O.sit x z
    · rw [List.mem_singleton.mp z]
      exact (O.rows q (List.mem_of_getElem? hq)).1
  · have := O.big
    refine ⟨?_, this.2⟩
    show ((bumpS (st.rows.take j) ++ st.rows.drop (j + 1)).length : Int) + (st.sit ++ [q.1]).length + st.chair + st.left.sum ≤ 500
    have e1 : (bumpS (st.rows.take j) ++ st.rows.drop (j + 1)).length + 1 = st.rows.length := by simp [bumpS]; omega
    have e2 : (st.sit ++ [q.1]).length = st.sit.length + 1 := by simp
    omega
theorem chair_okS {s : Int} {st : LSt} (O : OkS s st) (hs : st.sit ≠ []) : OkS s ⟨st.rows, st.left, [], st.chair + 1⟩ := by
  refine ⟨O.rows, O.left, O.len, by simp, ?_⟩
  have := O.big
  have := List.length_pos_iff.mpr hs
  refine ⟨?_, O.big.2⟩
  show (st.rows.length : Int) + (([] : List Int).length : Nat) + ((st.chair + 1 : Nat) : Int) + st.left.sum ≤ 500
  rw [List.length_nil]
  omega
theorem seat_mu {st : LSt} {j : Nat} (hj : j < st.rows.length) (q : Int) : muS ⟨bumpS (st.rows.take j) ++ st.rows.drop (j + 1), st.left, st.sit ++ [q], st.chair⟩ + 1 ≤ muS st := by
  unfold muS
  simp [bumpS]
  split <;> omega
theorem chair_mu {st : LSt} (hs : st.sit ≠ []) : muS ⟨st.rows, st.left, [], st.chair + 1⟩ + 1 ≤ muS st := by
  unfold muS
  simp [hs]
/-- nobody more sits: somebody sat -/
theorem none_sit {s l p : Int} {st : LSt} (O : OkS s st) (hl : 0 ≤ l) (hc : condS l st = true) (hn : nextAt p (s - st.sit.sum) ((st.rows.map z3).take (l + 1).toNat) = none) : st.sit ≠ [] := by
  intro hs
  have hr : st.rows ≠ [] := by
    intro z
    unfold condS at hc
    rw [z, hs] at hc
    simp at hc
    omega
  obtain ⟨q, qs, hq⟩ := List.exists_cons_of_ne_nil hr
  have := (O.rows q (by rw [hq]; exact List.mem_cons_self ..)).2
  obtain ⟨k, hk⟩ : ∃ k, (l + 1).toNat = k + 1 := ⟨l.toNat, by omega⟩
  rw [hq, hk, hs, List.map_cons, List.take_succ_cons, nextAt] at hn
  have e : (z3 q).2.1 ≤ s - ([] : List Int).sum := by show q.1 ≤ s - 0; omega
  rw [if_pos e] at hn
  cases hn
theorem walkGo_okS {s l p : Int} {seen : List (List Int)} (hl : 0 ≤ l) : ∀ (n : Nat) (st now : LSt), OkS s st → walkGo s l p seen n st = some now → OkS s now
  | 0, st, now, O, h => by cases h; exact O
  | n + 1, st, now, O, h => by
    rw [walkGo] at h
    split at h
    · rename_i hc
      split at h
      · rename_i hn
        split at h
        · exact walkGo_okS hl n _ _ (chair_okS O (none_sit O hl hc hn)) h
        · cases h
      · split at h
        · cases h
        · rename_i q hq
          exact walkGo_okS hl n _ _ (seat_okS O hq) h
    · cases h; exact O
/-! keys -/
theorem d2_plain : ∀ rows : List SR, plainKs (rows.map d2) = true ∧ NestedKey.depthAll (keyOfs (rows.map d2)) ≤ 1
  | [] => ⟨rfl, Nat.zero_le _⟩
  | r :: rs => by
    obtain ⟨i1, i2⟩ := d2_plain rs
    rw [List.map_cons, plainKs, keyOfs, NestedKey.depthAll, i1]
    exact ⟨rfl, Nat.max_le.mpr ⟨Nat.le_refl _, i2⟩⟩
theorem ints_plain : ∀ xs : List Int, plainKs (xs.map D.int) = true ∧ NestedKey.depthAll (keyOfs (xs.map D.int)) = 0
  | [] => ⟨rfl, rfl⟩
  | r :: rs => by
    obtain ⟨i1, i2⟩ := ints_plain rs
    rw [List.map_cons, plainKs, keyOfs, NestedKey.depthAll, i1, i2]
    exact ⟨rfl, rfl⟩
theorem dLS_key (st : LSt) : okKey false (dLS st) = true := by
  obtain ⟨i1, i2⟩ := d2_plain st.rows
  obtain ⟨j1, j2⟩ := ints_plain st.left
  obtain ⟨k1, k2⟩ := ints_plain st.sit
  unfold dLS dI
  rw [okKey_t]
  unfold keyD
  rw [Bool.and_eq_true]
  constructor
  · simp only [plainKs, plainK, i1, j1, k1, Bool.and_self]
  · refine decide_eq_true ?_
    simp only [DL.keyOf, keyOfs, NestedKey.depth, NestedKey.depthAll, j2, k2]
    omega
theorem ints_key : ∀ {xs ys : List Int}, keyOfs (xs.map D.int) = keyOfs (ys.map D.int) → xs = ys
  | [], [], _ => rfl
  | [], _ :: _, h => by simp [keyOfs] at h
  | _ :: _, [], h => by simp [keyOfs] at h
  | x :: xs, y :: ys, h => by
    simp only [List.map_cons, keyOfs, DL.keyOf, List.cons.injEq, NestedKey.num.injEq] at h
    rw [h.1, ints_key h.2]
theorem d2_key : ∀ {xs ys : List SR}, keyOfs (xs.map d2) = keyOfs (ys.map d2) → xs = ys
  | [], [], _ => rfl
  | [], _ :: _, h => by simp [keyOfs] at h
  | _ :: _, [], h => by simp [keyOfs] at h
  | x :: xs, y :: ys, h => by
    simp only [List.map_cons, keyOfs, d2, DL.keyOf, List.cons.injEq, NestedKey.num.injEq, NestedKey.tup.injEq, and_true] at h
    rw [d2_key h.2, Prod.ext h.1.1 h.1.2]
theorem dLS_inj {a b : LSt} (h : keyOf (dLS a) = keyOf (dLS b)) : a = b := by
  unfold dLS dI at h
  simp only [DL.keyOf, keyOfs, NestedKey.tup.injEq, List.cons.injEq, NestedKey.num.injEq, and_true] at h
  obtain ⟨h1, h2, h3, h4⟩ := h
  have h5 : a.chair = b.chair := by omega
  cases a; cases b
  simp only [LSt.mk.injEq]
  exact ⟨d2_key h1, ints_key h2, ints_key h3, h5⟩
end Lw

namespace Lw
open PySem PySem.Spec PyProof.Rows L2 DL
/-! ### what the methods of Lines tell -/
def dSeen (seen : List (List Int)) : D := .tup (seen.map dI)
def LN (b : Bool) (s l p : Int) (seen : List (List Int)) (place size : Int) (ks ds : List D) (fst : D) : DL.W := .x (.o b "Lines" ns_Lines [.v (dL s l p), .v (dSeen seen), .v (.int place), .v (.int size), .d false ks ds, .v fst])
section
variable {s l p : Int} {seen : List (List Int)} {place size : Int} {ks ds : List D} {fst : D}
theorem comp_z3 {e0 e1 e2 e3 e4 e5 e6 e9 : Option DL.W} (rows : List SR) : compD [7, 8] (mTup (mCons (mName 7) (mCons (mName 8) mNil)) 2) tYesD (dTup [(eD (.int 0)), (eVar 7), (eVar 8)]) (rows.map d2) [e0, e1, e2, e3, e4, e5, e6, none, none, e9] = .ok ((rows.map z3).map dR) [e0, e1, e2, e3, e4, e5, e6, none, none, e9] := by
  rw [List.map_map]
  refine comp_map (enc := d2) (ψ := dR ∘ z3) rows fun q _ rest => ?_
  simp [compD, d2, dR, z3]
theorem comp_bumpS {e0 e1 e2 e3 e4 e5 e6 e9 : Option DL.W} (rows : List SR) : compD [7, 8] (mTup (mCons (mName 7) (mCons (mName 8) mNil)) 2) tYesD (dTup [(eVar 7), (opN gAdd [(eVar 8), (eD (.int 1))])]) (rows.map d2) [e0, e1, e2, e3, e4, e5, e6, none, none, e9] = .ok ((bumpS rows).map d2) [e0, e1, e2, e3, e4, e5, e6, none, none, e9] := by
  unfold bumpS
  rw [List.map_map]
  refine comp_map (enc := d2) (ψ := d2 ∘ fun q => (q.1, q.2 + 1)) rows fun q _ rest => ?_
  simp [compD, d2]
def envW (lf : DL.W) (d1 : D) (st : LSt) (x6 x9 : Option D) : DEnv := [some lf, some (.v d1), some (.v (.tup (st.rows.map d2))), some (.v (dI st.left)), some (.v (dI st.sit)), some (.v (.int (st.chair : Nat))), x6.map .v, none, none, x9.map .v]
theorem en_d2 : En d2 2 := ⟨fun x y => by
    unfold d2
    rw [deq_tups, all_cons, all_cons, all_nil, deq_int, deq_int]
    obtain ⟨a, b⟩ := x
    obtain ⟨a', b'⟩ := y
    by_cases h1 : a = a' <;> by_cases h2 : b = b' <;> simp [h1, h2], fun x m hm => by
    cases m with
    | zero => omega
    | succ m => cases m with
      | zero => omega
      | succ m => rfl⟩
theorem tst_walk (hl : 0 ≤ l) {d1 : D} {st : LSt} {x6 x9 : Option D} :
    (tOrD (tst (opN gGt [(opN gLen [(eVar 2)]), (opN gIx [(eG (fG 0 "Lines" ns_Lines 0)), (eD (.int 1))])])) (tAndD (tst (opN gEq [(opN gSum [(eVar 3)]), (eD (.int 0))])) (tOrD (tst (opN gNe [(eVar 2), (dTup [])])) (tst (opN gNe [(eVar 4), (dTup [])]))))) (envW (LN true s l p seen place size ks ds fst) d1 st x6 x9) = .ok (condS l st) (envW (LN true s l p seen place size ks ds fst) d1 st x6 x9) := by
  have a1 : atI [D.int s, D.int l, D.int p] 1 = some (.int l) := by simp [atI_of]
  have n1 : gNe [.tup (st.rows.map d2), .tup []] = some (.v (.bl (!decide (st.rows = [])))) := gNe_en (en_tup en_d2) st.rows []
  have n2 : gNe [dI st.sit, .tup []] = some (.v (.bl (!decide (st.sit = [])))) := gNe_en en_dI st.sit []
  have s1 : gSum [dI st.left] = some (.v (.int st.left.sum)) := by unfold dI; simp [gSum]
  unfold envW LN condS dL
  generalize dI st.left = dl at *
  generalize dI st.sit = dsit at *
  by_cases h1 : l < st.rows.length
  · simp [a1, h1]
  · by_cases h2 : st.left.sum = 0
    · by_cases h3 : st.rows = []
      · simp [a1, h1, h2, h3, s1] at *
        simp [n1, n2]
        cases hd : decide (st.sit = []) <;> simp at hd <;> simp [hd, show ¬ l < 0 by omega]
      · simp [a1, h1, h2, h3, s1, n1, n2]
    · simp [a1, h1, h2, s1]
theorem body_walk (hl : 0 ≤ l) (hs : s.natAbs < 1000) {d1 : D} {st : LSt} (O : OkS s st) {x6 x9 : Option D} :
    match nextAt p (s - st.sit.sum) ((st.rows.map z3).take (l + 1).toNat) with
    | none => if seen[st.chair]? = some (sortI st.sit) then ∃ y6 y9, lb_Lines_walked_0 (envW (LN true s l p seen place size ks ds fst) d1 st x6 x9) = .ok .next (envW (LN true s l p seen place size ks ds fst) d1 ⟨st.rows, st.left, [], st.chair + 1⟩ y6 y9)
        else ∃ y6 y9, lb_Lines_walked_0 (envW (LN true s l p seen place size ks ds fst) d1 st x6 x9) = .ok (.ret (.w (.v .non))) (envW (LN true s l p seen place size ks ds fst) d1 st y6 y9)
    | some j => ∀ q, st.rows[j]? = some q → ∃ y6 y9, lb_Lines_walked_0 (envW (LN true s l p seen place size ks ds fst) d1 st x6 x9) = .ok .next (envW (LN true s l p seen place size ks ds fst) d1 ⟨bumpS (st.rows.take j) ++ st.rows.drop (j + 1), st.left, st.sit ++ [q.1], st.chair⟩ y6 y9) := by
  have a0 : atI [D.int s, D.int l, D.int p] 0 = some (.int s) := by simp [atI_of]
  have en := ev_next_of (s := s) (l := l) (p := p) (room := s - st.sit.sum) (st.rows.map z3) hl
  have s1 : gSum [dI st.sit] = some (.v (.int st.sit.sum)) := by unfold dI; simp [gSum]
  have hr : st.rows.length ≤ 1000000 := by have := O.big; omega
  have cz := fun e0 e1 e2 e3 e4 e5 e6 e9 => @comp_z3 e0 e1 e2 e3 e4 e5 e6 e9 st.rows
  have head : ∀ (od : D) (k : M Fl), g_next_of [.v (dL s l p), .v (.lst ((st.rows.map z3).map dR)), .v (.int (s - st.sit.sum))] = .ok (.v od) [.v (dL s l p), .v (.lst ((st.rows.map z3).map dR)), .v (.int (s - st.sit.sum))] → (sSeq (sSet 6 (eComp (iterSeq (eVar 2)) (([("size", 7), ("passes", 8)] : List (Str × Nat)).map (·.2)) (mTup (mCons (mName 7) (mCons (mName 8) mNil)) 2) tYesD (dTup [(eD (.int 0)), (eVar 7), (eVar 8)])))
    (sSeq (sSet 9 (callF g_next_of [none, none, none] [(eG (fG 0 "Lines" ns_Lines 0)), (eVar 6), (opN gSub [(opN gIx [(eG (fG 0 "Lines" ns_Lines 0)), (eD (.int 0))]), (opN gSum [(eVar 4)])])])) k)) (envW (LN true s l p seen place size ks ds fst) d1 st x6 x9) = k (envW (LN true s l p seen place size ks ds fst) d1 st (some (.lst ((st.rows.map z3).map dR))) (some od)) := fun od k en => by
    unfold envW LN
    unfold dL at *
    generalize dI st.sit = dsit at *
    cases x6 <;> cases x9 <;> simp [cz, en, a0, s1, hr, -List.map_map]
  cases hn : nextAt p (s - st.sit.sum) ((st.rows.map z3).take (l + 1).toNat) with
  | none =>
    rw [hn, optD] at en
    dsimp only
    have ln : gLen [dSeen seen] = some (.v (.int (seen.length : Nat))) := by unfold dSeen; simp
    have srt : gSortIT [dI st.sit] = some (.l false ((sortI st.sit).map D.int)) := gSortIT_c _
    have tup : gTuple [.lst ((sortI st.sit).map D.int)] = some (.v (dI (sortI st.sit))) := rfl
    unfold lb_Lines_walked_0
    have e0 : dI ([] : List Int) = .tup [] := rfl
    by_cases hc : st.chair < seen.length
    · have hat : gIx [dSeen seen, .int (st.chair : Nat)] = some (.v (dI seen[st.chair])) := by
        unfold dSeen
        rw [gIx_c1, atI_of (by omega), show ((st.chair : Nat) : Int).toNat = st.chair by omega, List.getElem?_map, List.getElem?_eq_getElem hc]
        rfl
      have hne : gNe [dI (sortI st.sit), dI seen[st.chair]] = some (.v (.bl (!decide (sortI st.sit = seen[st.chair])))) := gNe_en en_dI _ _
      have hlt : ¬ ((seen.length : Int) ≤ (st.chair : Nat)) := by omega
      rw [List.getElem?_eq_getElem hc]
      by_cases he : sortI st.sit = seen[st.chair]
      · rw [if_pos (by rw [he])]
        refine ⟨some (.lst ((st.rows.map z3).map dR)), some .non, ?_⟩
        rw [head _ _ en]
        unfold envW LN
        have he2 : decide (sortI st.sit = seen[st.chair]) = true := decide_eq_true he
        rw [he2] at hne
        generalize dI (sortI st.sit) = sd at *
        generalize dI st.sit = dsit at *
        generalize dI seen[st.chair] = sc at *
        generalize dSeen seen = sn at *
        generalize ((st.rows.map z3).map dR) = zz at *
        simp [ln, hat, srt, tup, hne, hlt, e0]
      · rw [if_neg (fun z => he (Option.some.inj z).symm)]
        refine ⟨some (.lst ((st.rows.map z3).map dR)), some .non, ?_⟩
        rw [head _ _ en]
        unfold envW LN
        have he2 : decide (sortI st.sit = seen[st.chair]) = false := decide_eq_false he
        rw [he2] at hne
        generalize dI (sortI st.sit) = sd at *
        generalize dI st.sit = dsit at *
        generalize dI seen[st.chair] = sc at *
        generalize dSeen seen = sn at *
        generalize ((st.rows.map z3).map dR) = zz at *
        simp [ln, hat, srt, tup, hne, hlt]
    · rw [if_neg (by rw [List.getElem?_eq_none (by omega)]; intro z; cases z)]
      have hlt : (seen.length : Int) ≤ (st.chair : Nat) := by omega
      refine ⟨some (.lst ((st.rows.map z3).map dR)), some .non, ?_⟩
      rw [head _ _ en]
      unfold envW LN
      generalize dSeen seen = sn at *
      generalize ((st.rows.map z3).map dR) = zz at *
      simp [ln, hlt]
  | some j =>
    rw [hn, optD] at en
    dsimp only
    intro q hq
    have hj := (List.getElem?_eq_some_iff.mp hq).1
    have i1 : gIx [.tup (st.rows.map d2), .int (j : Nat)] = some (.v (d2 q)) := by
      rw [gIx_c1, atI_of (by omega), show ((j : Nat) : Int).toNat = j by omega, List.getElem?_map, hq]
      rfl
    have i2 : gIx [d2 q, .int 0] = some (.v (.int q.1)) := by unfold d2; simp [atI_of]
    have c1 : gSlH [.tup (st.rows.map d2), .int (j : Nat)] = some (.v (.tup ((st.rows.take j).map d2))) := by
      rw [gSlH_c0, gSl_c1, cutA_hi (by omega), show ((j : Nat) : Int).toNat = j by omega, List.map_take]
    have c2 : gSlL [.tup (st.rows.map d2), .int ((j : Int) + 1)] = some (.v (.tup ((st.rows.drop (j + 1)).map d2))) := by
      rw [gSlL_c0, gSl_c1, cutA_lo (by omega), show ((j : Int) + 1).toNat = j + 1 by omega, List.map_drop]
    have b1 : gAdd [dI st.sit, .tup [.int q.1]] = some (.v (dI (st.sit ++ [q.1]))) := by
      unfold dI
      rw [gAdd_c2, if_pos (by have := O.big; simp; omega), List.map_append]
      rfl
    have b2 : gAdd [.tup ((bumpS (st.rows.take j)).map d2), .tup ((st.rows.drop (j + 1)).map d2)] = some (.v (.tup ((bumpS (st.rows.take j) ++ st.rows.drop (j + 1)).map d2))) := by
      rw [gAdd_c2, if_pos (by have := O.big; simp [bumpS]; omega), List.map_append]
    have cb := fun e0 e1 e2 e3 e4 e5 e6 e9 => @comp_bumpS e0 e1 e2 e3 e4 e5 e6 e9 (st.rows.take j)
    have ht : (st.rows.take j).length ≤ 1000000 := by have := O.big; simp; omega
    have ht2 : (bumpS (st.rows.take j)).length ≤ 1000000 := by have := O.big; simp [bumpS]; omega
    refine ⟨some (.lst ((st.rows.map z3).map dR)), some (.int (j : Nat)), ?_⟩
    unfold lb_Lines_walked_0
    rw [head _ _ en]
    unfold envW LN
    have e3 : gTuple [.lst ((bumpS (st.rows.take j)).map d2)] = some (.v (.tup ((bumpS (st.rows.take j)).map d2))) := rfl
    have q1 : ∀ ds : List D, seqOf (.tup ds) = some ds := fun _ => rfl
    generalize dI st.sit = dsit at *
    generalize dI (st.sit ++ [q.1]) = dsit2 at *
    generalize ((st.rows.map z3).map dR) = zz at *
    have l1 : ((st.rows.take j).map d2).length ≤ 1000000 := by simpa using ht
    have l2 : ((bumpS (st.rows.take j)).map d2).length ≤ 1000000 := by simpa using ht2
    generalize (st.rows.take j).map d2 = tk at *
    generalize (st.rows.drop (j + 1)).map d2 = dr at *
    generalize (bumpS (st.rows.take j)).map d2 = bk at *
    generalize (bumpS (st.rows.take j) ++ st.rows.drop (j + 1)).map d2 = nr at *
    generalize st.rows.map d2 = rr at *
    generalize d2 q = dq at *
    simp [i1, i2, c1, c2, b1, b2, cb, e3, l1, l2, -gIx_c1, -gSlH_c0, -gSlL_c0, -gAdd_c2]
end
end Lw

namespace Lw
open PySem PySem.Spec PyProof.Rows L2 DL
theorem nextAt_lt {p room : Int} : ∀ {rs : List Row} {j : Nat}, nextAt p room rs = some j → j < rs.length
  | [], j, h => by cases h
  | r :: rs, j, h => by
    unfold nextAt at h
    by_cases h1 : r.2.1 ≤ room
    · rw [if_pos h1] at h; cases h; simp
    · rw [if_neg h1] at h
      by_cases h2 : p ≤ r.2.2
      · rw [if_pos h2] at h; cases h
      · rw [if_neg h2] at h
        obtain ⟨k, hk, rfl⟩ := Option.map_eq_some_iff.mp h
        have := nextAt_lt hk
        simp; omega
section
variable {s l p : Int} {seen : List (List Int)} {place size : Int} {ks ds : List D} {fst : D}
noncomputable def tstW : M Bool := (tOrD (tst (opN gGt [(opN gLen [(eVar 2)]), (opN gIx [(eG (fG 0 "Lines" ns_Lines 0)), (eD (.int 1))])])) (tAndD (tst (opN gEq [(opN gSum [(eVar 3)]), (eD (.int 0))])) (tOrD (tst (opN gNe [(eVar 2), (dTup [])])) (tst (opN gNe [(eVar 4), (dTup [])])))))
theorem b_walked_eq : b_Lines_walked = (sSeq (sTgt (mTup (mCons (mName 2) (mCons (mName 3) (mCons (mName 4) (mCons (mName 5) mNil)))) 4) (eVar 1))
    (sSeq (sWhile tstW lb_Lines_walked_0)
    (sRet (dTup [(eVar 2), (eVar 3), (eVar 4), (eVar 5)])))) := rfl
theorem loop_walk (hl : 0 ≤ l) (hs : s.natAbs < 1000) {d1 : D} : ∀ (n : Nat) (st : LSt), OkS s st → muS st ≤ n → ∀ x6 x9 : Option D,
    match walkGo s l p seen n st with
    | some now => ∃ y6 y9, sWhile tstW lb_Lines_walked_0 (envW (LN true s l p seen place size ks ds fst) d1 st x6 x9) = .ok .next (envW (LN true s l p seen place size ks ds fst) d1 now y6 y9)
    | none => ∃ st' y6 y9, sWhile tstW lb_Lines_walked_0 (envW (LN true s l p seen place size ks ds fst) d1 st x6 x9) = .ok (.ret (.w (.v .non))) (envW (LN true s l p seen place size ks ds fst) d1 st' y6 y9)
  | n, st, O, hm, x6, x9 => by
    have tt : tstW _ = _ := tst_walk (s := s) (p := p) (seen := seen) (place := place) (size := size) (ks := ks) (ds := ds) (fst := fst) hl (d1 := d1) (st := st) (x6 := x6) (x9 := x9)
    cases hc : condS l st with
    | false =>
      have e : walkGo s l p seen n st = some st := by
        cases n with
        | zero => rfl
        | succ n => rw [walkGo, hc]; rfl
      rw [e]
      refine ⟨x6, x9, ?_⟩
      rw [sWhile_step, tt, R.bind_ok, hc]
      rfl
    | true =>
      cases n with
      | zero =>
        exfalso
        unfold muS at hm
        have h1 : st.rows = [] := List.length_eq_zero_iff.mp (by omega)
        have h2 : st.sit = [] := by
          by_cases z : st.sit = []
          · exact z
          · rw [if_neg z] at hm; omega
        unfold condS at hc
        rw [h1, h2] at hc
        simp at hc
        omega
      | succ n =>
        have bd := body_walk (s := s) (p := p) (seen := seen) (place := place) (size := size) (ks := ks) (ds := ds) (fst := fst) hl hs (d1 := d1) O (x6 := x6) (x9 := x9)
        rw [walkGo, hc, if_pos rfl]
        cases hn : nextAt p (s - st.sit.sum) ((st.rows.map z3).take (l + 1).toNat) with
        | none =>
          rw [hn] at bd
          dsimp only at bd ⊢
          have hsit := none_sit O hl hc hn
          by_cases hm2 : seen[st.chair]? = some (sortI st.sit)
          · rw [if_pos hm2] at bd ⊢
            obtain ⟨y6, y9, bd⟩ := bd
            have ih := loop_walk hl hs (d1 := d1) n ⟨st.rows, st.left, [], st.chair + 1⟩ (chair_okS O hsit) (by have := chair_mu hsit; omega) y6 y9
            cases hw : walkGo s l p seen n ⟨st.rows, st.left, [], st.chair + 1⟩ with
            | some now =>
              rw [hw] at ih
              obtain ⟨z6, z9, ih⟩ := ih
              refine ⟨z6, z9, ?_⟩
              rw [sWhile_step, tt, R.bind_ok, hc, if_pos rfl, bd, R.bind_ok]
              exact ih
            | none =>
              rw [hw] at ih
              obtain ⟨st', z6, z9, ih⟩ := ih
              refine ⟨st', z6, z9, ?_⟩
              rw [sWhile_step, tt, R.bind_ok, hc, if_pos rfl, bd, R.bind_ok]
              exact ih
          · rw [if_neg hm2] at bd ⊢
            obtain ⟨y6, y9, bd⟩ := bd
            refine ⟨st, y6, y9, ?_⟩
            rw [sWhile_step, tt, R.bind_ok, hc, if_pos rfl, bd, R.bind_ok]
        | some j =>
          rw [hn] at bd
          dsimp only at bd ⊢
          have hj : j < st.rows.length := by
            have := nextAt_lt hn
            rw [List.length_take, List.length_map] at this
            omega
          have hq : st.rows[j]? = some st.rows[j] := List.getElem?_eq_getElem hj
          rw [hq]
          dsimp only
          obtain ⟨y6, y9, bd⟩ := bd _ hq
          have ih := loop_walk hl hs (d1 := d1) n ⟨bumpS (st.rows.take j) ++ st.rows.drop (j + 1), st.left, st.sit ++ [st.rows[j].1], st.chair⟩ (seat_okS O hq) (by have := seat_mu hj st.rows[j].1; omega) y6 y9
          cases hw : walkGo s l p seen n ⟨bumpS (st.rows.take j) ++ st.rows.drop (j + 1), st.left, st.sit ++ [st.rows[j].1], st.chair⟩ with
          | some now =>
            rw [hw] at ih
            obtain ⟨z6, z9, ih⟩ := ih
            refine ⟨z6, z9, ?_⟩
            rw [sWhile_step, tt, R.bind_ok, hc, if_pos rfl, bd, R.bind_ok]
            exact ih
          | none =>
            rw [hw] at ih
            obtain ⟨st', z6, z9, ih⟩ := ih
            refine ⟨st', z6, z9, ?_⟩
            rw [sWhile_step, tt, R.bind_ok, hc, if_pos rfl, bd, R.bind_ok]
            exact ih
def optL : Option LSt → D
  | none => .non
  | some st => dLS st
theorem ev_walked (hl : 0 ≤ l) (hs : s.natAbs < 1000) {b : Bool} {st : LSt} (O : OkS s st) : g_Lines_walked [LN b s l p seen place size ks ds fst, .v (dLS st)] = .ok (.v (optL (walkM s l p seen st))) [LN b s l p seen place size ks ds fst, .v (dLS st)] := by
  have lw := loop_walk (p := p) (seen := seen) (place := place) (size := size) (ks := ks) (ds := ds) (fst := fst) hl hs (d1 := dLS st) (muS st) st O (Nat.le_refl _) none none
  unfold walkM
  have e1 : ∀ lf : DL.W, envW lf (dLS st) st none none = [some lf, some (.v (dLS st)), some (.v (.tup (st.rows.map d2))), some (.v (dI st.left)), some (.v (dI st.sit)), some (.v (.int (st.chair : Nat))), none, none, none, none] := fun _ => rfl
  rw [g_Lines_walked, mkFn_ap, b_walked_eq]
  rw [e1] at lw
  have e2 : dLS st = .tup [.tup (st.rows.map d2), dI st.left, dI st.sit, .int (st.chair : Nat)] := rfl
  cases hw : walkGo s l p seen (muS st) st with
  | none =>
    rw [hw] at lw
    obtain ⟨st', y6, y9, lw⟩ := lw
    unfold envW at lw
    unfold LN at *
    rw [show optL none = .non from rfl]
    rw [e2] at lw ⊢
    generalize sWhile tstW lb_Lines_walked_0 = lp at *
    cases b <;> simp [lw]
  | some now =>
    rw [hw] at lw
    obtain ⟨y6, y9, lw⟩ := lw
    unfold envW at lw
    unfold LN at *
    rw [show optL (some now) = dLS now from rfl]
    rw [e2] at lw ⊢
    have e3 : dLS now = .tup [.tup (now.rows.map d2), dI now.left, dI now.sit, .int (now.chair : Nat)] := rfl
    rw [e3]
    generalize sWhile tstW lb_Lines_walked_0 = lp at *
    cases b <;> simp [lw]
end
end Lw

namespace Lw
open PySem PySem.Spec PyProof.Rows L2 DL
section
variable {s l p : Int} {seen : List (List Int)} {place size : Int} {ks ds : List D} {fst : D}
def dRd (q : Int × LSt) : D := .tup [.int q.1, dLS q.2]
def totN (seen : List (List Int)) : Int := (seen.map fun c => (c.length : Int)).sum
def envR (lf : DL.W) (d1 : D) (st : LSt) (at_ : Int) (found : List D) (x9 x10 x11 : Option D) : DEnv := [some lf, some (.v d1), some (.v (.tup (st.rows.map d2))), some (.v (dI st.left)), some (.v (dI st.sit)), some (.v (.int (st.chair : Nat))), some (.v (.int at_)), none, some (.l false found), x9.map .v, x10.map .v, x11.map .v]
theorem body_read (hs : s ≤ 1000) {st : LSt} (O : OkS s st) {at_ : Int} {d1 : D} {found : List D} (hf : found.length < 100000) {many : Int} {i : Nat} {x11 : Option D} :
    ∃ y11, lb_Lines_readings_0 (envR (LN true s l p seen place size ks ds fst) d1 st at_ found (some (.int (i : Nat))) (some (.int many)) x11) =
      .ok .next (envR (LN true s l p seen place size ks ds fst) d1 st at_ (if many > 0 ∧ (at_ ≠ place ∨ (i : Int) + 1 = size) then found ++ [dRd (readAt st i many)] else found) (some (.int (i : Nat))) (some (.int many)) y11) := by
  have hl : (st.left.length : Int) = s := O.len
  have hbig := O.big
  have c1 : gSlH [dI st.left, .int (i : Nat)] = some (.v (dI (st.left.take i))) := by
    unfold dI
    rw [gSlH_c0, gSl_c1, cutA_hi (by omega), show ((i : Nat) : Int).toNat = i by omega, List.map_take]
  have c2 : gSlL [dI st.left, .int ((i : Int) + 1)] = some (.v (dI (st.left.drop (i + 1)))) := by
    unfold dI
    rw [gSlL_c0, gSl_c1, cutA_lo (by omega), show ((i : Int) + 1).toNat = i + 1 by omega, List.map_drop]
  have b1 : gAdd [dI (st.left.take i), .tup [.int (many - 1)]] = some (.v (dI (st.left.take i ++ [many - 1]))) := by
    unfold dI
    rw [gAdd_c2, if_pos (by simp; omega), List.map_append]
    rfl
  have b2 : gAdd [dI (st.left.take i ++ [many - 1]), dI (st.left.drop (i + 1))] = some (.v (dI (st.left.take i ++ [many - 1] ++ st.left.drop (i + 1)))) := by
    unfold dI
    rw [gAdd_c2, if_pos (by simp; omega), ← List.map_append]
  have b3 : gAdd [.tup (st.rows.map d2), .tup [.tup [.int ((i : Int) + 1), .int 0]]] = some (.v (.tup ((st.rows ++ [((i : Int) + 1, 0)]).map d2))) := by
    rw [gAdd_c2, if_pos (by simp; omega), List.map_append]
    rfl
  have er : dRd (readAt st i many) = .tup [.int ((i : Int) + 1), .tup [.tup ((st.rows ++ [((i : Int) + 1, 0)]).map d2), dI (st.left.take i ++ [many - 1] ++ st.left.drop (i + 1)), dI st.sit, .int (st.chair : Nat)]] := rfl
  rw [er]
  have hf2 : found.length < 1000000 := by omega
  by_cases h1 : many > 0
  · by_cases h2 : at_ ≠ place ∨ (i : Int) + 1 = size
    · rw [if_pos ⟨h1, h2⟩]
      refine ⟨some (dI (st.left.take i ++ [many - 1] ++ st.left.drop (i + 1))), ?_⟩
      unfold lb_Lines_readings_0 envR LN
      generalize dI (st.left.take i ++ [many - 1] ++ st.left.drop (i + 1)) = nl at *
      generalize dI (st.left.take i ++ [many - 1]) = nm at *
      generalize dI (st.left.take i) = n0 at *
      generalize dI (st.left.drop (i + 1)) = n1 at *
      generalize (st.rows ++ [((i : Int) + 1, 0)]).map d2 = nr at *
      generalize st.rows.map d2 = r0 at *
      generalize dI st.left = dl at *
      by_cases h3 : at_ = place
      · have h4 : (i : Int) + 1 = size := by rcases h2 with z | z; exact absurd h3 z; exact z
        subst h3
        subst h4
        cases x11 <;> simp [h1, c1, c2, b1, b2, b3, hf2, -gAdd_c2, -gSlL_c0, -gSlH_c0]
      · cases x11 <;> simp [h1, h3, c1, c2, b1, b2, b3, hf2, -gAdd_c2, -gSlL_c0, -gSlH_c0]
    · rw [if_neg (fun z => h2 z.2)]
      have h3 : at_ = place := by by_cases z : at_ = place; exact z; exact absurd (Or.inl z) h2
      have h4 : ¬ (i : Int) + 1 = size := fun z => h2 (.inr z)
      refine ⟨x11, ?_⟩
      unfold lb_Lines_readings_0 envR LN
      simp [h1, h3, h4]
  · rw [if_neg (fun z => h1 z.1)]
    refine ⟨x11, ?_⟩
    unfold lb_Lines_readings_0 envR LN
    simp [h1]
theorem for_read (hs : s ≤ 1000) {st : LSt} (O : OkS s st) {at_ : Int} {d1 : D} (ha : at_ = totN seen - st.left.sum) : ∀ (r : List (Int × Nat)) (found : List D) (x9 x10 x11 : Option D), found.length + r.length < 100000 →
    ∃ y9 y10 y11, forD m_Lines_readings_0 lb_Lines_readings_0 (r.map fun q => D.tup [.int (q.2 : Nat), .int q.1]) (envR (LN true s l p seen place size ks ds fst) d1 st at_ found x9 x10 x11) =
      .ok .next (envR (LN true s l p seen place size ks ds fst) d1 st at_ (found ++ (readGo (totN seen) place size st r).map dRd) y9 y10 y11)
  | [], found, x9, x10, x11, _ => ⟨x9, x10, x11, by simp [readGo]; rfl⟩
  | (many, i) :: r, found, x9, x10, x11, hl => by
    rw [List.length_cons] at hl
    obtain ⟨z11, bd⟩ := body_read (l := l) (p := p) (seen := seen) (place := place) (size := size) (ks := ks) (ds := ds) (fst := fst) hs O (at_ := at_) (d1 := d1) (found := found) (by omega) (many := many) (i := i) (x11 := x11)
    have em : m_Lines_readings_0 (D.tup [.int (i : Nat), .int many]) (envR (LN true s l p seen place size ks ds fst) d1 st at_ found x9 x10 x11) = some (envR (LN true s l p seen place size ks ds fst) d1 st at_ found (some (.int (i : Nat))) (some (.int many)) x11) := by
      unfold envR
      cases x9 <;> cases x10 <;> simp [m_Lines_readings_0]
    rw [List.map_cons, forD, em]
    by_cases hc : many > 0 ∧ (totN seen - st.left.sum ≠ place ∨ (i : Int) + 1 = size)
    · rw [if_pos (by rw [ha]; exact hc)] at bd
      obtain ⟨y9, y10, y11, ih⟩ := for_read hs O (d1 := d1) ha r (found ++ [dRd (readAt st i many)]) (some (.int (i : Nat))) (some (.int many)) z11 (by rw [List.length_append]; simp; omega)
      refine ⟨y9, y10, y11, ?_⟩
      show R.bind (lb_Lines_readings_0 _) _ = _
      rw [bd, R.bind_ok]
      refine ih.trans ?_
      rw [readGo, if_pos hc, List.map_cons, List.append_assoc]
      rfl
    · rw [if_neg (by rw [ha]; exact hc)] at bd
      obtain ⟨y9, y10, y11, ih⟩ := for_read hs O (d1 := d1) ha r found (some (.int (i : Nat))) (some (.int many)) z11 (by omega)
      refine ⟨y9, y10, y11, ?_⟩
      show R.bind (lb_Lines_readings_0 _) _ = _
      rw [bd, R.bind_ok]
      refine ih.trans ?_
      rw [readGo, if_neg hc]
theorem comp_lens {e0 e1 e2 e3 e4 e5 e6 e8 e9 e10 e11 : Option DL.W} (cs : List (List Int)) : compD [7] (mName 7) tYesD (opN gLen [(eVar 7)]) (cs.map dI) [e0, e1, e2, e3, e4, e5, e6, none, e8, e9, e10, e11] = .ok ((cs.map fun c => (c.length : Int)).map D.int) [e0, e1, e2, e3, e4, e5, e6, none, e8, e9, e10, e11] := by
  rw [List.map_map]
  refine comp_map (enc := dI) (ψ := D.int ∘ fun c => (c.length : Int)) cs fun c _ rest => ?_
  simp [compD, dI]
theorem ev_readings (hs : s ≤ 1000) (hn : seen.length ≤ 1000) {b : Bool} {st : LSt} (O : OkS s st) : g_Lines_readings [LN b s l p seen place size ks ds fst, .v (dLS st)] = .ok (.l false ((readM (totN seen) place size st).map dRd)) [LN b s l p seen place size ks ds fst, .v (dLS st)] := by
  have hl : (st.left.length : Int) = s := O.len
  obtain ⟨y9, y10, y11, lf⟩ := for_read (l := l) (p := p) (seen := seen) (place := place) (size := size) (ks := ks) (ds := ds) (fst := fst) hs O (d1 := dLS st) rfl st.left.zipIdx [] none none none (by simp; omega)
  have ep : pairs0 (st.left.map D.int) = st.left.zipIdx.map fun q => D.tup [.int (q.2 : Nat), .int q.1] := by
    unfold pairs0
    rw [List.zipIdx_map, List.map_map]
    rfl
  have cl := fun e0 e1 e2 e3 e4 e5 e6 e8 e9 e10 e11 => @comp_lens e0 e1 e2 e3 e4 e5 e6 e8 e9 e10 e11 seen
  have s1 : gSum [dI st.left] = some (.v (.int st.left.sum)) := by unfold dI; simp [gSum]
  have s2 : gSum [.lst ((seen.map fun c => (c.length : Int)).map D.int)] = some (.v (.int (totN seen))) := by simp only [gSum, intsOf_mapS]; rfl
  have e2 : dLS st = .tup [.tup (st.rows.map d2), dI st.left, dI st.sit, .int (st.chair : Nat)] := rfl
  have it : ∀ env : DEnv, env[3]? = some (some (.v (dI st.left))) → iterEnum (eVar 3) env = .ok (st.left.zipIdx.map fun q => D.tup [.int (q.2 : Nat), .int q.1]) env := fun env h => by
    rw [← ep]
    simp [h, dI]
  have hn2 : seen.length ≤ 1000000 := by omega
  rw [g_Lines_readings, mkFn_ap, b_Lines_readings]
  unfold readM
  rw [List.nil_append] at lf
  unfold envR at lf
  unfold LN at *
  unfold dSeen at *
  rw [e2] at lf ⊢
  generalize dI st.left = dl at *
  generalize dI st.sit = dsit at *
  generalize st.left.zipIdx.map (fun q => D.tup [.int (q.2 : Nat), .int q.1]) = zl at *
  cases b
  all_goals
    simp [cl, hn2, -List.map_map, -iterEnum_ap]
    rw [s2]
    simp [s1, it, -iterEnum_ap]
    simp at lf
    simp [lf]
end
end Lw

namespace Lw
open PySem PySem.Spec PyProof.Rows L2 DL
/-! ### counts -/
def nzL (xs : List Int) : Nat := (xs.filter fun x => decide (0 < x)).length
theorem readGo_len (N place size : Int) (st : LSt) : ∀ r : List (Int × Nat), (readGo N place size st r).length ≤ (r.filter fun q => decide (0 < q.1)).length
  | [] => Nat.le_refl _
  | (many, i) :: r => by
    have ih := readGo_len N place size st r
    rw [readGo]
    by_cases h : 0 < many
    · rw [List.filter_cons_of_pos (by simpa using h), List.length_cons]
      split
      · rw [List.length_cons]; omega
      · omega
    · rw [List.filter_cons_of_neg (by simpa using h), if_neg (fun z => h z.1)]
      exact ih
theorem filt_zip : ∀ (xs : List Int) (k : Nat), ((xs.zipIdx k).filter fun q => decide (0 < q.1)).length = nzL xs
  | [], _ => rfl
  | x :: xs, k => by
    unfold nzL
    rw [List.zipIdx_cons, List.filter_cons, List.filter_cons]
    have ih := filt_zip xs (k + 1)
    unfold nzL at ih
    split
    · rw [List.length_cons, List.length_cons, ih]
    · exact ih
theorem readM_len (N place size : Int) (st : LSt) : (readM N place size st).length ≤ nzL st.left := by
  rw [← filt_zip st.left 0]
  exact readGo_len N place size st _
theorem readGo_mem {N place size : Int} {st : LSt} : ∀ {r : List (Int × Nat)} {q : Int × LSt}, q ∈ readGo N place size st r → ∃ many i, (many, i) ∈ r ∧ 0 < many ∧ (N - st.left.sum ≠ place ∨ (i : Int) + 1 = size) ∧ q = readAt st i many
  | [], q, h => by cases h
  | (many, i) :: r, q, h => by
    rw [readGo] at h
    split at h
    · rename_i hc
      rcases List.mem_cons.mp h with z | z
      · exact ⟨many, i, List.mem_cons_self .., hc.1, hc.2, z⟩
      · obtain ⟨m, j, h1, h2⟩ := readGo_mem z
        exact ⟨m, j, List.mem_cons_of_mem _ h1, h2⟩
    · obtain ⟨m, j, h1, h2⟩ := readGo_mem h
      exact ⟨m, j, List.mem_cons_of_mem _ h1, h2⟩
theorem take_drop_sum (xs : List Int) {i : Nat} {m : Int} (h : xs[i]? = some m) (v : Int) : (xs.take i ++ [v] ++ xs.drop (i + 1)).sum = xs.sum - m + v := by
  obtain ⟨hi, e⟩ := List.getElem?_eq_some_iff.mp h
  have e1 : xs = xs.take i ++ [m] ++ xs.drop (i + 1) := by
    rw [← e, List.append_assoc, List.singleton_append, List.getElem_cons_drop, List.take_append_drop]
  have e2 : xs.sum = (xs.take i).sum + m + (xs.drop (i + 1)).sum := by
    conv => lhs; rw [e1]
    simp [List.sum_append]
    omega
  rw [List.sum_append, List.sum_append, List.sum_singleton]
  omega
theorem nzL_app (a b : List Int) : nzL (a ++ b) = nzL a + nzL b := by unfold nzL; rw [List.filter_append, List.length_append]
theorem take_drop_nz (xs : List Int) {i : Nat} {m : Int} (h : xs[i]? = some m) (hm : 0 < m) (v : Int) : nzL (xs.take i ++ [v] ++ xs.drop (i + 1)) ≤ nzL xs := by
  obtain ⟨hi, e⟩ := List.getElem?_eq_some_iff.mp h
  have e1 : xs = xs.take i ++ [m] ++ xs.drop (i + 1) := by
    rw [← e, List.append_assoc, List.singleton_append, List.getElem_cons_drop, List.take_append_drop]
  have e2 : nzL xs = nzL (xs.take i) + nzL [m] + nzL (xs.drop (i + 1)) := by
    conv => lhs; rw [e1]
    rw [nzL_app, nzL_app]
  have e3 : nzL [m] = 1 := by simp [nzL, hm]
  have e4 : nzL [v] ≤ 1 := by unfold nzL; exact List.length_filter_le ..
  rw [nzL_app, nzL_app]
  omega
structure Later (s : Int) (st : LSt) (q : Int × LSt) : Prop where
  ok : OkS s q.2
  sum : q.2.left.sum = st.left.sum - 1
  nz : nzL q.2.left ≤ nzL st.left
theorem readM_later {s N place size : Int} {st : LSt} (O : OkS s st) {q : Int × LSt} (h : q ∈ readM N place size st) : Later s st q := by
  obtain ⟨many, i, h1, h2, _, rfl⟩ := readGo_mem h
  have hg : st.left[i]? = some many := by
    have := List.mem_zipIdx_iff_getElem?.mp h1
    simpa using this
  have hi := (List.getElem?_eq_some_iff.mp hg).1
  have hl := O.len
  have e := take_drop_sum st.left hg (many - 1)
  have hb := O.big
  have e5 : (readAt st i many).2.left.sum = st.left.sum - 1 := by
    show (st.left.take i ++ [many - 1] ++ st.left.drop (i + 1)).sum = _
    omega
  refine ⟨⟨fun r hr => ?_, fun x hx => ?_, ?_, O.sit, ?_⟩, e5, take_drop_nz st.left hg h2 _⟩
  · rcases List.mem_append.mp hr with z | z
    · exact O.rows r z
    · rw [List.mem_singleton.mp z]
      show 1 ≤ (i : Int) + 1 ∧ (i : Int) + 1 ≤ s
      omega
  · rcases List.mem_append.mp hx with z | z
    · rcases List.mem_append.mp z with y | y
      · exact O.left x (List.mem_of_mem_take y)
      · rw [List.mem_singleton.mp y]; omega
    · exact O.left x (List.mem_of_mem_drop z)
  · show ((st.left.take i ++ [many - 1] ++ st.left.drop (i + 1)).length : Int) = s
    have : (st.left.take i ++ [many - 1] ++ st.left.drop (i + 1)).length = st.left.length := by simp; omega
    omega
  · rw [e5]
    have hpos : 1 ≤ st.left.sum := by
      have h0 : 0 ≤ (st.left.take i ++ [many - 1] ++ st.left.drop (i + 1)).sum := sum_nonneg fun x hx => by
        rcases List.mem_append.mp hx with z | z
        · rcases List.mem_append.mp z with y | y
          · exact O.left x (List.mem_of_mem_take y)
          · rw [List.mem_singleton.mp y]; omega
        · exact O.left x (List.mem_of_mem_drop z)
      omega
    show ((st.rows ++ [((i : Int) + 1, (0 : Int))]).length : Int) + st.sit.length + st.chair + (st.left.sum - 1) ≤ 500 ∧ _
    rw [List.length_append]
    simp only [List.length_cons, List.length_nil]
    omega
def tB (b : Nat) : Nat → Nat
  | 0 => 1
  | k + 1 => 1 + b * tB b k
abbrev Kn := List (LSt × Int)
def kK (kn : Kn) : List D := kn.map fun e => dLS e.1
def kV (kn : Kn) : List D := kn.map fun e => .int e.2
def KnOk (C : LSt → Int) (kn : Kn) : Prop := ∀ e ∈ kn, e.2 = C e.1
theorem kn_find {kn : Kn} {st : LSt} : dixGet (kK kn) (kV kn) (dLS st) = (kn.find? fun e => decide (e.1 = st)).map fun e => .int e.2 := by
  unfold kK kV
  induction kn with
  | nil => rfl
  | cons e kn ih =>
    rw [List.map_cons, List.map_cons, dixGet, List.find?_cons, ih]
    by_cases h : e.1 = st
    · rw [h, if_pos rfl]; simp
    · rw [if_neg (fun z => h (dLS_inj z))]; simp [h]
theorem kn_get {C : LSt → Int} {kn : Kn} {st : LSt} (hk : KnOk C kn) {e : LSt × Int} (h : kn.find? (fun e => decide (e.1 = st)) = some e) : dixGet (kK kn) (kV kn) (dLS st) = some (.int (C st)) := by
  rw [kn_find, h]
  have h1 := List.find?_some h
  have h2 := hk e (List.mem_of_find?_eq_some h)
  simp only [decide_eq_true_eq] at h1
  rw [Option.map_some, h2, h1]
theorem kn_has {kn : Kn} {st : LSt} : dixHas (kK kn) (dLS st) = (kn.find? fun e => decide (e.1 = st)).isSome := by
  unfold dixHas kK
  induction kn with
  | nil => rfl
  | cons e kn ih =>
    rw [List.map_cons, List.any_cons, List.find?_cons, ih]
    by_cases h : e.1 = st
    · simp [h]
    · have : ¬ keyOf (dLS e.1) = keyOf (dLS st) := fun z => h (dLS_inj z)
      simp [h, this]
theorem kn_rep {C : LSt → Int} : ∀ {kn : Kn} {st : LSt}, KnOk C kn → dixRep (kK kn) (kV kn) (dLS st) (.int (C st)) = kV kn
  | [], st, _ => rfl
  | e :: kn, st, h => by
    show (if keyOf (dLS e.1) = keyOf (dLS st) then D.int (C st) else D.int e.2) :: dixRep (kK kn) (kV kn) (dLS st) (.int (C st)) = D.int e.2 :: kV kn
    rw [kn_rep (kn := kn) fun e he => h e (List.mem_cons_of_mem _ he)]
    congr 1
    split
    · rename_i z
      rw [h e (List.mem_cons_self ..), dLS_inj z]
    · rfl
theorem kn_put {C : LSt → Int} {kn : Kn} (st : LSt) (hk : KnOk C kn) : ∃ kn' : Kn, KnOk C kn' ∧ kn'.length ≤ kn.length + 1 ∧ dixK (kK kn) (dLS st) = kK kn' ∧ dixD (kK kn) (kV kn) (dLS st) (.int (C st)) = kV kn' ∧ dixGet (kK kn') (kV kn') (dLS st) = some (.int (C st)) := by
  cases hf : kn.find? fun e => decide (e.1 = st) with
  | some e =>
    refine ⟨kn, hk, by omega, ?_, ?_, kn_get hk hf⟩
    · unfold dixK; rw [kn_has, hf]; rfl
    · unfold dixD; rw [kn_has, hf]; exact kn_rep hk
  | none =>
    have hk' : KnOk C (kn ++ [(st, C st)]) := fun e he => by
      rcases List.mem_append.mp he with z | z
      · exact hk e z
      · rw [List.mem_singleton.mp z]
    refine ⟨kn ++ [(st, C st)], hk', by simp, ?_, ?_, kn_get hk' (e := (st, C st)) ?_⟩
    · unfold dixK; rw [kn_has, hf]; unfold kK; rw [List.map_append]; rfl
    · unfold dixD; rw [kn_has, hf]; unfold kV; rw [List.map_append]; rfl
    · rw [List.find?_append, hf]; simp
end Lw

namespace Lw
open PySem PySem.Spec PyProof.Rows L2 DL
section
variable {s l p : Int} {seen : List (List Int)} {place size : Int} {fst : D}
theorem cnt_eq (hl : 0 ≤ l) {st : LSt} (O : OkS s st) : cnt s l p seen (totN seen) place size st = match walkM s l p seen st with
    | none => 0
    | some now => if now.left.sum = 0 then (if now.chair = seen.length then 1 else 0) else ((readM (totN seen) place size now).map fun q => cnt s l p seen (totN seen) place size q.2).sum := by
  unfold cnt
  rw [countM]
  cases hw : walkM s l p seen st with
  | none => rfl
  | some now =>
    dsimp only
    by_cases h0 : now.left.sum = 0
    · rw [if_pos h0, if_pos h0]
    · rw [if_neg h0, if_neg h0]
      congr 1
      refine List.map_congr_left fun q hq => ?_
      have On : OkS s now := walkGo_okS hl _ _ _ O hw
      have L := readM_later On hq
      have e : now.left = st.left := walkGo_left _ _ _ hw
      have := L.sum
      have := On.big
      rw [show q.2.left.sum.toNat + 1 = st.left.sum.toNat by rw [L.sum, e]; rw [e] at h0 this; omega]
def envC (lf : DL.W) (d1 d3 : D) : DEnv := [some lf, some (.v d1), some (.v d1), some (.v d3), none, none]
theorem comp_count {C : LSt → Int} {gr : List DL.W → RF} {d1 d3 : D} {t : Nat} : ∀ (qs : List (Int × LSt)), (∀ q ∈ qs, ∀ kn : Kn, KnOk C kn → kn.length + t ≤ 900000 → ∃ kn', KnOk C kn' ∧ kn'.length ≤ kn.length + t ∧ gr [LN true s l p seen place size (kK kn) (kV kn) fst, .v (dLS q.2)] = .ok (.v (.int (C q.2))) [LN true s l p seen place size (kK kn') (kV kn') fst, .v (dLS q.2)]) →
    ∀ kn : Kn, KnOk C kn → kn.length + qs.length * t ≤ 900000 → ∃ kn', KnOk C kn' ∧ kn'.length ≤ kn.length + qs.length * t ∧
      compD [4, 5] (mTup (mCons (mName 4) (mCons (mName 5) mNil)) 2) tYesD (callM "Lines" ns_Lines gr 0 [none] [(eVar 5)]) (qs.map dRd) (envC (LN true s l p seen place size (kK kn) (kV kn) fst) d1 d3) = .ok ((qs.map fun q => C q.2).map D.int) (envC (LN true s l p seen place size (kK kn') (kV kn') fst) d1 d3)
  | [], _, kn, hk, _ => ⟨kn, hk, by omega, rfl⟩
  | q :: qs, H, kn, hk, hb => by
    rw [List.length_cons, Nat.add_mul] at hb
    obtain ⟨kn1, k1, k2, k3⟩ := H q (List.mem_cons_self ..) kn hk (by omega)
    obtain ⟨kn2, m1, m2, m3⟩ := comp_count (d1 := d1) (d3 := d3) qs (fun q hq => H q (List.mem_cons_of_mem _ hq)) kn1 k1 (by omega)
    refine ⟨kn2, m1, by rw [List.length_cons, Nat.add_mul]; omega, ?_⟩
    rw [List.map_cons, compD]
    unfold envC LN at *
    unfold dRd at *
    generalize dLS q.2 = dq at *
    simp [k3]
    simp at m3
    simp [m3]
theorem ev_count (hld : okLd s l p) (hn : seen.length ≤ 1000) {bb : Nat} : ∀ (k n : Nat), k < n → ∀ (st : LSt), OkS s st → st.left.sum = (k : Nat) → nzL st.left ≤ bb → ∀ (kn : Kn) (b : Bool), KnOk (cnt s l p seen (totN seen) place size) kn → kn.length + tB bb k ≤ 900000 →
    ∃ kn', KnOk (cnt s l p seen (totN seen) place size) kn' ∧ kn'.length ≤ kn.length + tB bb k ∧
      gN_Lines_count n [LN b s l p seen place size (kK kn) (kV kn) fst, .v (dLS st)] = .ok (.v (.int (cnt s l p seen (totN seen) place size st))) [LN b s l p seen place size (kK kn') (kV kn') fst, .v (dLS st)]
  | k, 0, h, _, _, _, _, _, _, _, _ => by omega
  | k, n + 1, h, st, O, hk, hnz, kn, b, hkn, hb => by
    have hl : 0 ≤ l := hld.2.1.1
    have hs : s.natAbs < 1000 := by have := hld.1; omega
    have hs2 : s ≤ 1000 := by have := hld.1; omega
    have hkey := dLS_key st
    have tpos : 1 ≤ tB bb k := by cases k <;> simp [tB]
    rw [gN_Lines_count, mkFn_ap, b_Lines_count]
    cases hf : kn.find? fun e => decide (e.1 = st) with
    | some e =>
      have hg := kn_get hkn hf
      refine ⟨kn, hkn, by omega, ?_⟩
      unfold LN
      generalize dLS st = dst at *
      cases b <;> simp [hkey, hg]
    | none =>
      have hg : dixGet (kK kn) (kV kn) (dLS st) = none := by rw [kn_find, hf]; rfl
      have ew := fun ks ds => ev_walked (p := p) (seen := seen) (place := place) (size := size) (ks := ks) (ds := ds) (fst := fst) hl hs (b := true) O
      have ce := cnt_eq (p := p) (seen := seen) (place := place) (size := size) hl O
      have hvl : (kV kn).length < 1000000 := by unfold kV; rw [List.length_map]; omega
      cases hw : walkM s l p seen st with
      | none =>
        rw [hw] at ce
        dsimp only at ce
        obtain ⟨kn', p1, p2, p3, p4, p5⟩ := kn_put st hkn
        rw [ce] at p4 p5 ⊢
        refine ⟨kn', p1, by omega, ?_⟩
        have ew := ew (kK kn) (kV kn)
        rw [hw, show optL none = .non from rfl] at ew
        unfold LN at *
        generalize dLS st = dst at *
        cases b <;> simp [hkey, hg, ew, hvl, p3, p4, p5]
      | some now =>
        rw [hw] at ce
        dsimp only at ce
        have On : OkS s now := walkGo_okS hl _ _ _ O hw
        have el : now.left = st.left := walkGo_left _ _ _ hw
        have ew := ew (kK kn) (kV kn)
        rw [hw, show optL (some now) = dLS now from rfl] at ew
        have a1 : gIx [dLS now, .int 1] = some (.v (dI now.left)) := by unfold dLS; simp [atI_of]
        have a3 : gIx [dLS now, .int 3] = some (.v (.int (now.chair : Nat))) := by unfold dLS; simp [atI_of]
        have n0 : gIs [dLS now, .non] = some (.v (.bl false)) := by unfold dLS; simp
        have s1 : gSum [dI now.left] = some (.v (.int now.left.sum)) := by unfold dI; simp [gSum]
        have ln : gLen [dSeen seen] = some (.v (.int (seen.length : Nat))) := by unfold dSeen; simp
        by_cases h0 : now.left.sum = 0
        · rw [if_pos h0] at ce
          obtain ⟨kn', p1, p2, p3, p4, p5⟩ := kn_put st hkn
          rw [ce] at p4 p5 ⊢
          refine ⟨kn', p1, by omega, ?_⟩
          have hci : decide ((now.chair : Int) = (seen.length : Int)) = decide (now.chair = seen.length) := by
            by_cases z : now.chair = seen.length
            · simp [z]
            · have : ¬ (now.chair : Int) = (seen.length : Int) := by omega
              simp [z, this]
          have gi : gIntB [.bl (decide ((now.chair : Int) = (seen.length : Int)))] = some (.v (.int (if now.chair = seen.length then 1 else 0))) := by
            rw [hci]
            by_cases z : now.chair = seen.length <;> simp [z]
          unfold LN at *
          generalize dLS st = dst at *
          generalize dLS now = dnow at *
          generalize dI now.left = dl at *
          generalize dSeen seen = sn at *
          cases b <;> simp [hkey, hg, ew, hvl, n0, a1, a3, s1, h0, ln, gi, p3, p4, p5, -gIntB_c]
        · rw [if_neg h0] at ce
          obtain ⟨k', rfl⟩ : ∃ k', k = k' + 1 := ⟨k - 1, by rw [el] at h0; omega⟩
          have er := fun ks ds => ev_readings (l := l) (p := p) (seen := seen) (place := place) (size := size) (ks := ks) (ds := ds) (fst := fst) hs2 hn (b := true) On
          have rl := readM_len (totN seen) place size now
          rw [el] at rl
          have hmul : (readM (totN seen) place size now).length * tB bb k' ≤ bb * tB bb k' := Nat.mul_le_mul_right _ (by omega)
          have ht : tB bb (k' + 1) = 1 + bb * tB bb k' := rfl
          obtain ⟨kn1, m1, m2, m3⟩ := comp_count (s := s) (l := l) (p := p) (seen := seen) (place := place) (size := size) (fst := fst) (C := cnt s l p seen (totN seen) place size) (gr := gN_Lines_count n) (d1 := dLS st) (d3 := dLS now) (t := tB bb k') (readM (totN seen) place size now) (fun q hq kn hkn hb => by
            have L := readM_later On hq
            exact ev_count hld hn k' n (by omega) q.2 L.ok (by rw [L.sum, el]; omega) (by have := L.nz; rw [el] at this; omega) kn true hkn hb) kn hkn (by omega)
          obtain ⟨kn', p1, p2, p3, p4, p5⟩ := kn_put st m1
          have hv1 : (kV kn1).length < 1000000 := by unfold kV; rw [List.length_map]; omega
          have s2 : gSum [.lst (((readM (totN seen) place size now).map fun q => cnt s l p seen (totN seen) place size q.2).map D.int)] = some (.v (.int (cnt s l p seen (totN seen) place size st))) := by rw [ce]; simp only [gSum, intsOf_mapS]; rfl
          have hq : ((readM (totN seen) place size now).map dRd).length ≤ 1000000 := by
            rw [List.length_map]
            have := List.length_filter_le (fun x => decide (0 < x)) st.left
            have h6 : nzL st.left ≤ st.left.length := this
            have := O.len
            omega
          have hq2 : (((readM (totN seen) place size now).map fun q => cnt s l p seen (totN seen) place size q.2).map D.int).length ≤ 1000000 := by rw [List.length_map, List.length_map]; rw [List.length_map] at hq; exact hq
          refine ⟨kn', p1, by omega, ?_⟩
          have er := er (kK kn) (kV kn)
          generalize cnt s l p seen (totN seen) place size st = cst at *
          generalize ((readM (totN seen) place size now).map fun q => cnt s l p seen (totN seen) place size q.2).map D.int = cl at *
          generalize (readM (totN seen) place size now).map dRd = rd at *
          unfold envC at m3
          unfold LN at *
          generalize dLS st = dst at *
          generalize dLS now = dnow at *
          generalize dI now.left = dl at *
          generalize gN_Lines_count n = gr at *
          try simp at m3
          cases b <;> simp [hkey, hg, ew, n0, a1, s1, h0, er, hq, m3, hq2, s2, hv1, p3, p4, p5]
end
end Lw

namespace Lw
open PySem PySem.Spec PyProof.Rows L2 DL
/-! ### all lines -/
def alG (s l p : Int) (seen : List (List Int)) (N place size : Int) : Nat → LSt → List Int → List (List Int)
  | 0, _, _ => []
  | n + 1, st, line => match walkM s l p seen st with
    | none => []
    | some now => if now.left.sum = 0 then (if now.chair = seen.length then [line] else []) else (readM N place size now).flatMap fun q => alG s l p seen N place size n q.2 (line ++ [q.1])
def al (s l p : Int) (seen : List (List Int)) (N place size : Int) (st : LSt) (line : List Int) : List (List Int) := alG s l p seen N place size (st.left.sum.toNat + 1) st line
theorem alG_len {s l p : Int} {seen : List (List Int)} {N place size : Int} : ∀ (n : Nat) (st : LSt) (line : List Int), ((alG s l p seen N place size n st line).length : Int) = countM s l p seen N place size n st
  | 0, _, _ => rfl
  | n + 1, st, line => by
    rw [alG, countM]
    cases walkM s l p seen st with
    | none => rfl
    | some now =>
      dsimp only
      split
      · split <;> rfl
      · have : ∀ qs : List (Int × LSt), ((qs.flatMap fun q => alG s l p seen N place size n q.2 (line ++ [q.1])).length : Int) = (qs.map fun q => countM s l p seen N place size n q.2).sum := fun qs => by
          induction qs with
          | nil => rfl
          | cons q qs ih =>
            rw [List.flatMap_cons, List.length_append, List.map_cons, List.sum_cons, ← ih, ← alG_len n q.2 (line ++ [q.1])]
            omega
        exact this _
theorem al_len {s l p : Int} {seen : List (List Int)} {N place size : Int} (st : LSt) (line : List Int) : ((al s l p seen N place size st line).length : Int) = cnt s l p seen N place size st := alG_len _ _ _
theorem cnt_nn {s l p : Int} {seen : List (List Int)} {N place size : Int} (st : LSt) : 0 ≤ cnt s l p seen N place size st := by
  rw [← al_len st []]; omega
section
variable {s l p : Int} {seen : List (List Int)} {place size : Int} {fst : D}
theorem al_eq (hl : 0 ≤ l) {st : LSt} (O : OkS s st) (line : List Int) : al s l p seen (totN seen) place size st line = match walkM s l p seen st with
    | none => []
    | some now => if now.left.sum = 0 then (if now.chair = seen.length then [line] else []) else (readM (totN seen) place size now).flatMap fun q => al s l p seen (totN seen) place size q.2 (line ++ [q.1]) := by
  unfold al
  rw [alG]
  cases hw : walkM s l p seen st with
  | none => rfl
  | some now =>
    dsimp only
    by_cases h0 : now.left.sum = 0
    · rw [if_pos h0, if_pos h0]
    · rw [if_neg h0, if_neg h0]
      have On : OkS s now := walkGo_okS hl _ _ _ O hw
      have e : now.left = st.left := walkGo_left _ _ _ hw
      have : ∀ qs : List (Int × LSt), (∀ q ∈ qs, q ∈ readM (totN seen) place size now) → (qs.flatMap fun q => alG s l p seen (totN seen) place size st.left.sum.toNat q.2 (line ++ [q.1])) = qs.flatMap fun q => alG s l p seen (totN seen) place size (q.2.left.sum.toNat + 1) q.2 (line ++ [q.1]) := fun qs => by
        induction qs with
        | nil => intro _; rfl
        | cons q qs ih =>
          intro h
          rw [List.flatMap_cons, List.flatMap_cons, ih fun q hq => h q (List.mem_cons_of_mem _ hq)]
          have L := readM_later On (h q (List.mem_cons_self ..))
          have := On.big
          rw [show q.2.left.sum.toNat + 1 = st.left.sum.toNat by rw [L.sum, e]; rw [e] at h0 this; omega]
      exact this _ fun _ h => h
/-- somebody goes on -/
theorem cnt_pos (hl : 0 ≤ l) {st : LSt} (O : OkS s st) (h : 0 < cnt s l p seen (totN seen) place size st) : ∃ now, walkM s l p seen st = some now ∧ (now.left.sum = 0 → now.chair = seen.length) := by
  rw [cnt_eq hl O] at h
  cases hw : walkM s l p seen st with
  | none => rw [hw] at h; exact absurd (show (0 : Int) < 0 from h) (by decide)
  | some now =>
    rw [hw] at h
    dsimp only at h
    refine ⟨now, rfl, fun h0 => ?_⟩
    rw [if_pos h0] at h
    by_cases z : now.chair = seen.length
    · exact z
    · rw [if_neg z] at h; exact absurd h (by decide)
def lB (bb : Nat) : Nat → Nat
  | 0 => 0
  | k + 1 => bb * (tB bb k + lB bb k)
def envL (lf : DL.W) (d1 : D) (line : List Int) (d3 : D) (found : List D) (x5 x6 : Option D) : DEnv := [some lf, some (.v d1), some (.v (dI line)), some (.v d3), some (.l false found), x5.map .v, x6.map .v]
theorem for_lines {C : LSt → Int} {A : LSt → List Int → List (List Int)} {gr : List DL.W → RF} {d1 d3 : D} {line : List Int} (hline : line.length < 1000) {t u : Nat} (cn : ∀ st, 0 ≤ C st) (ca : ∀ st line, ((A st line).length : Int) = C st) : ∀ (qs : List (Int × LSt)),
    (∀ q ∈ qs, ∀ kn : Kn, KnOk C kn → kn.length + t ≤ 900000 → ∃ kn', KnOk C kn' ∧ kn'.length ≤ kn.length + t ∧ g_Lines_count [LN true s l p seen place size (kK kn) (kV kn) fst, .v (dLS q.2)] = .ok (.v (.int (C q.2))) [LN true s l p seen place size (kK kn') (kV kn') fst, .v (dLS q.2)]) →
    (∀ q ∈ qs, 0 < C q.2 → ∀ kn : Kn, KnOk C kn → kn.length + u ≤ 900000 → ∃ kn', KnOk C kn' ∧ kn'.length ≤ kn.length + u ∧ gr [LN true s l p seen place size (kK kn) (kV kn) fst, .v (dLS q.2), .v (dI (line ++ [q.1]))] = .ok (.l false ((A q.2 (line ++ [q.1])).map dI)) [LN true s l p seen place size (kK kn') (kV kn') fst, .v (dLS q.2), .v (dI (line ++ [q.1]))]) →
    ∀ (kn : Kn) (found : List D) (x5 x6 : Option D), KnOk C kn → kn.length + qs.length * (t + u) ≤ 900000 → (found.length : Int) + (qs.map fun q => C q.2).sum ≤ 1000 → ∃ kn' y5 y6, KnOk C kn' ∧ kn'.length ≤ kn.length + qs.length * (t + u) ∧
      forD m_Lines_lines_0 (lb_Lines_lines_0 gr) (qs.map dRd) (envL (LN true s l p seen place size (kK kn) (kV kn) fst) d1 line d3 found x5 x6) = .ok .next (envL (LN true s l p seen place size (kK kn') (kV kn') fst) d1 line d3 (found ++ (qs.flatMap fun q => A q.2 (line ++ [q.1])).map dI) y5 y6)
  | [], _, _, kn, found, x5, x6, hk, _, _ => ⟨kn, x5, x6, hk, by omega, by simp; rfl⟩
  | q :: qs, H1, H2, kn, found, x5, x6, hk, hb, hf => by
    rw [List.length_cons, Nat.add_mul] at hb
    rw [List.map_cons, List.sum_cons] at hf
    have hrest : 0 ≤ (qs.map fun q => C q.2).sum := sum_nonneg fun x hx => by
      obtain ⟨q, _, rfl⟩ := List.mem_map.mp hx
      exact cn q.2
    have hc0 := cn q.2
    obtain ⟨kn1, k1, k2, k3⟩ := H1 q (List.mem_cons_self ..) kn hk (by omega)
    have em : m_Lines_lines_0 (dRd q) (envL (LN true s l p seen place size (kK kn) (kV kn) fst) d1 line d3 found x5 x6) = some (envL (LN true s l p seen place size (kK kn) (kV kn) fst) d1 line d3 found (some (.int q.1)) (some (dLS q.2))) := by
      unfold envL dRd
      cases x5 <;> cases x6 <;> simp [m_Lines_lines_0]
    have gl : gAdd [dI line, .tup [.int q.1]] = some (.v (dI (line ++ [q.1]))) := by
      unfold dI
      rw [gAdd_c2, if_pos (by simp; omega), List.map_append]
      rfl
    by_cases hp : 0 < C q.2
    · obtain ⟨kn2, l1, l2, l3⟩ := H2 q (List.mem_cons_self ..) hp kn1 k1 (by omega)
      have hfl : found.length + ((A q.2 (line ++ [q.1])).map dI).length ≤ 1000000 := by
        rw [List.length_map]
        have := ca q.2 (line ++ [q.1])
        omega
      obtain ⟨kn3, y5, y6, m1, m2, m3⟩ := for_lines (d1 := d1) (d3 := d3) hline cn ca qs (fun q hq => H1 q (List.mem_cons_of_mem _ hq)) (fun q hq => H2 q (List.mem_cons_of_mem _ hq)) kn2 (found ++ (A q.2 (line ++ [q.1])).map dI) (some (.int q.1)) (some (dLS q.2)) l1 (by omega) (by
        rw [List.length_append, List.length_map]
        have := ca q.2 (line ++ [q.1])
        omega)
      refine ⟨kn3, y5, y6, m1, by rw [List.length_cons, Nat.add_mul]; omega, ?_⟩
      rw [List.map_cons, forD, em]
      have bd : lb_Lines_lines_0 gr (envL (LN true s l p seen place size (kK kn) (kV kn) fst) d1 line d3 found (some (.int q.1)) (some (dLS q.2))) = .ok .next (envL (LN true s l p seen place size (kK kn2) (kV kn2) fst) d1 line d3 (found ++ (A q.2 (line ++ [q.1])).map dI) (some (.int q.1)) (some (dLS q.2))) := by
        unfold lb_Lines_lines_0 envL
        unfold LN at *
        generalize (A q.2 (line ++ [q.1])).map dI = al2 at *
        generalize dI (line ++ [q.1]) = dl2 at *
        generalize dI line = dl at *
        generalize dLS q.2 = dq at *
        simp [k3, hp, gl, l3, hfl, -gAdd_c2]
      show R.bind (lb_Lines_lines_0 gr _) _ = _
      rw [bd, R.bind_ok]
      refine m3.trans ?_
      rw [List.flatMap_cons, List.map_append, List.append_assoc]
    · have hz : C q.2 = 0 := by omega
      have ha : A q.2 (line ++ [q.1]) = [] := List.length_eq_zero_iff.mp (by have := ca q.2 (line ++ [q.1]); omega)
      obtain ⟨kn3, y5, y6, m1, m2, m3⟩ := for_lines (d1 := d1) (d3 := d3) hline cn ca qs (fun q hq => H1 q (List.mem_cons_of_mem _ hq)) (fun q hq => H2 q (List.mem_cons_of_mem _ hq)) kn1 found (some (.int q.1)) (some (dLS q.2)) k1 (by omega) (by omega)
      refine ⟨kn3, y5, y6, m1, by rw [List.length_cons, Nat.add_mul]; omega, ?_⟩
      rw [List.map_cons, forD, em]
      have bd : lb_Lines_lines_0 gr (envL (LN true s l p seen place size (kK kn) (kV kn) fst) d1 line d3 found (some (.int q.1)) (some (dLS q.2))) = .ok .next (envL (LN true s l p seen place size (kK kn1) (kV kn1) fst) d1 line d3 found (some (.int q.1)) (some (dLS q.2))) := by
        unfold lb_Lines_lines_0 envL
        unfold LN at *
        generalize dI line = dl at *
        generalize dLS q.2 = dq at *
        simp [k3, hz]
      show R.bind (lb_Lines_lines_0 gr _) _ = _
      rw [bd, R.bind_ok]
      refine m3.trans ?_
      rw [List.flatMap_cons, ha, List.nil_append]
end
end Lw

namespace Lw
open PySem PySem.Spec PyProof.Rows L2 DL
section
variable {s l p : Int} {seen : List (List Int)} {place size : Int} {fst : D}
theorem ev_countD (hld : okLd s l p) (hn : seen.length ≤ 1000) {bb k : Nat} (hk12 : k < 12) {st : LSt} (O : OkS s st) (hk : st.left.sum = (k : Nat)) (hnz : nzL st.left ≤ bb) (kn : Kn) (b : Bool) (hkn : KnOk (cnt s l p seen (totN seen) place size) kn) (hb : kn.length + tB bb k ≤ 900000) :
    ∃ kn', KnOk (cnt s l p seen (totN seen) place size) kn' ∧ kn'.length ≤ kn.length + tB bb k ∧
      g_Lines_count [LN b s l p seen place size (kK kn) (kV kn) fst, .v (dLS st)] = .ok (.v (.int (cnt s l p seen (totN seen) place size st))) [LN b s l p seen place size (kK kn') (kV kn') fst, .v (dLS st)] :=
  ev_count hld hn k 12 hk12 st O hk hnz kn b hkn hb
theorem sub_le {C : LSt → Int} (cn : ∀ st, 0 ≤ C st) : ∀ {qs : List (Int × LSt)} {q : Int × LSt}, q ∈ qs → C q.2 ≤ (qs.map fun q => C q.2).sum
  | x :: qs, q, h => by
    rw [List.map_cons, List.sum_cons]
    have h1 := cn x.2
    have h2 : 0 ≤ (qs.map fun q => C q.2).sum := sum_nonneg fun y hy => by
      obtain ⟨q, _, rfl⟩ := List.mem_map.mp hy
      exact cn q.2
    rcases List.mem_cons.mp h with rfl | z
    · omega
    · have := sub_le cn z; omega
theorem ev_lines (hld : okLd s l p) (hn : seen.length ≤ 1000) {bb : Nat} : ∀ (k n : Nat), k < n → k < 12 → ∀ (st : LSt) (line : List Int), OkS s st → st.left.sum = (k : Nat) → nzL st.left ≤ bb → line.length + k < 500 → 0 < cnt s l p seen (totN seen) place size st → cnt s l p seen (totN seen) place size st ≤ 1000 → ∀ (kn : Kn) (b : Bool), KnOk (cnt s l p seen (totN seen) place size) kn → kn.length + lB bb k ≤ 900000 →
    ∃ kn', KnOk (cnt s l p seen (totN seen) place size) kn' ∧ kn'.length ≤ kn.length + lB bb k ∧
      gN_Lines_lines n [LN b s l p seen place size (kK kn) (kV kn) fst, .v (dLS st), .v (dI line)] = .ok (.l false ((al s l p seen (totN seen) place size st line).map dI)) [LN b s l p seen place size (kK kn') (kV kn') fst, .v (dLS st), .v (dI line)]
  | k, 0, h, _, _, _, _, _, _, _, _, _, _, _, _, _ => by omega
  | k, n + 1, h, h12, st, line, O, hk, hnz, hline, hpos, hle, kn, b, hkn, hb => by
    have hl : 0 ≤ l := hld.2.1.1
    have hs : s.natAbs < 1000 := by have := hld.1; omega
    have hs2 : s ≤ 1000 := by have := hld.1; omega
    obtain ⟨now, hw, hch⟩ := cnt_pos hl O hpos
    have ce := cnt_eq (p := p) (seen := seen) (place := place) (size := size) hl O
    have ae := al_eq (p := p) (seen := seen) (place := place) (size := size) hl O line
    rw [hw] at ce ae
    dsimp only at ce ae
    have On : OkS s now := walkGo_okS hl _ _ _ O hw
    have el : now.left = st.left := walkGo_left _ _ _ hw
    have ew := fun ks ds => ev_walked (p := p) (seen := seen) (place := place) (size := size) (ks := ks) (ds := ds) (fst := fst) hl hs (b := true) O
    have ew := ew (kK kn) (kV kn)
    rw [hw, show optL (some now) = dLS now from rfl] at ew
    have a1 : gIx [dLS now, .int 1] = some (.v (dI now.left)) := by unfold dLS; simp [atI_of]
    have s1 : gSum [dI now.left] = some (.v (.int now.left.sum)) := by unfold dI; simp [gSum]
    rw [gN_Lines_lines, mkFn_ap, b_Lines_lines]
    by_cases h0 : now.left.sum = 0
    · rw [if_pos h0, if_pos (hch h0)] at ae
      refine ⟨kn, hkn, by omega, ?_⟩
      rw [ae, show [line].map dI = [dI line] from rfl]
      unfold LN at *
      generalize dLS st = dst at *
      generalize dLS now = dnow at *
      generalize dI now.left = dl at *
      generalize dI line = dln at *
      cases b <;> simp [ew, a1, s1, h0]
    · rw [if_neg h0] at ae ce
      obtain ⟨k', rfl⟩ : ∃ k', k = k' + 1 := ⟨k - 1, by rw [el] at h0; omega⟩
      have er := fun ks ds => ev_readings (l := l) (p := p) (seen := seen) (place := place) (size := size) (ks := ks) (ds := ds) (fst := fst) hs2 hn (b := true) On
      have er := er (kK kn) (kV kn)
      have rl := readM_len (totN seen) place size now
      rw [el] at rl
      have hmul : (readM (totN seen) place size now).length * (tB bb k' + lB bb k') ≤ bb * (tB bb k' + lB bb k') := Nat.mul_le_mul_right _ (by omega)
      have ht : lB bb (k' + 1) = bb * (tB bb k' + lB bb k') := rfl
      obtain ⟨kn', y5, y6, m1, m2, m3⟩ := for_lines (s := s) (l := l) (p := p) (seen := seen) (place := place) (size := size) (fst := fst) (C := cnt s l p seen (totN seen) place size) (A := al s l p seen (totN seen) place size) (gr := gN_Lines_lines n) (d1 := dLS st) (d3 := dLS now) (line := line) (by omega) (t := tB bb k') (u := lB bb k') (fun st => cnt_nn st) (fun st line => al_len st line) (readM (totN seen) place size now)
        (fun q hq kn hkn hb => by
          have L := readM_later On hq
          exact ev_countD hld hn (by omega) L.ok (by rw [L.sum, el]; omega) (by have := L.nz; rw [el] at this; omega) kn true hkn hb)
        (fun q hq hp kn hkn hb => by
          have L := readM_later On hq
          have := sub_le (C := cnt s l p seen (totN seen) place size) (fun st => cnt_nn st) hq
          exact ev_lines hld hn k' n (by omega) (by omega) q.2 (line ++ [q.1]) L.ok (by rw [L.sum, el]; omega) (by have := L.nz; rw [el] at this; omega) (by simp; omega) hp (by omega) kn true hkn hb)
        kn [] none none hkn (by omega) (by rw [← ce]; simpa using hle)
      refine ⟨kn', m1, by omega, ?_⟩
      rw [ae]
      rw [List.nil_append] at m3
      have hq : ((readM (totN seen) place size now).map dRd).length ≤ 1000000 := by
        rw [List.length_map]
        have := List.length_filter_le (fun x => decide (0 < x)) st.left
        have h6 : nzL st.left ≤ st.left.length := this
        have := O.len
        omega
      generalize ((readM (totN seen) place size now).flatMap fun q => al s l p seen (totN seen) place size q.2 (line ++ [q.1])).map dI = res at *
      generalize (readM (totN seen) place size now).map dRd = rd at *
      unfold envL at m3
      unfold LN at *
      generalize dLS st = dst at *
      generalize dLS now = dnow at *
      generalize dI now.left = dl at *
      generalize dI line = dln at *
      generalize lb_Lines_lines_0 (gN_Lines_lines n) = lb at *
      try simp at m3
      cases b <;> simp [ew, a1, s1, h0, er, hq, m3]
end
end Lw

namespace Lw
open PySem PySem.Spec PyProof.Rows L2 DL
section
variable {s l p : Int} {seen : List (List Int)} {place size : Int} {fst : D}
def envM (lf : DL.W) (d1 : D) (line : List Int) (d3 : D) (x4 : Option D) : DEnv := [some lf, some (.v d1), some (.v (dI line)), some (.v d3), x4.map .v, none]
theorem comp_pick {C : LSt → Int} {d1 d3 : D} {line : List Int} {x4 : Option D} {t : Nat} : ∀ (qs : List (Int × LSt)), (∀ q ∈ qs, ∀ kn : Kn, KnOk C kn → kn.length + t ≤ 900000 → ∃ kn', KnOk C kn' ∧ kn'.length ≤ kn.length + t ∧ g_Lines_count [LN true s l p seen place size (kK kn) (kV kn) fst, .v (dLS q.2)] = .ok (.v (.int (C q.2))) [LN true s l p seen place size (kK kn') (kV kn') fst, .v (dLS q.2)]) →
    ∀ kn : Kn, KnOk C kn → kn.length + qs.length * t ≤ 900000 → ∃ kn', KnOk C kn' ∧ kn'.length ≤ kn.length + qs.length * t ∧
      compD [5] (mName 5) (tst (opN gGt [(callM "Lines" ns_Lines g_Lines_count 0 [none] [(opN gIx [(eVar 5), (eD (.int 1))])]), (eD (.int 0))])) (eVar 5) (qs.map dRd) (envM (LN true s l p seen place size (kK kn) (kV kn) fst) d1 line d3 x4) = .ok ((qs.filter fun q => decide (0 < C q.2)).map dRd) (envM (LN true s l p seen place size (kK kn') (kV kn') fst) d1 line d3 x4)
  | [], _, kn, hk, _ => ⟨kn, hk, by omega, rfl⟩
  | q :: qs, H, kn, hk, hb => by
    rw [List.length_cons, Nat.add_mul] at hb
    obtain ⟨kn1, k1, k2, k3⟩ := H q (List.mem_cons_self ..) kn hk (by omega)
    obtain ⟨kn2, m1, m2, m3⟩ := comp_pick (d1 := d1) (d3 := d3) (line := line) (x4 := x4) qs (fun q hq => H q (List.mem_cons_of_mem _ hq)) kn1 k1 (by omega)
    refine ⟨kn2, m1, by rw [List.length_cons, Nat.add_mul]; omega, ?_⟩
    have a1 : gIx [dRd q, .int 1] = some (.v (dLS q.2)) := by unfold dRd; simp [atI_of]
    rw [List.map_cons, compD]
    unfold envM LN at *
    generalize dLS q.2 = dq at *
    by_cases hp : 0 < C q.2
    · rw [List.filter_cons_of_pos (by simpa using hp), List.map_cons]
      generalize dRd q = dr at *
      simp [k3, a1, hp]
      try simp at m3
      simp [m3]
    · rw [List.filter_cons_of_neg (by simpa using hp)]
      generalize dRd q = dr at *
      simp [k3, a1, hp]
      try simp at m3
      simp [m3]
theorem head_pick {C : LSt → Int} {A : Int × LSt → List (List Int)} (ca : ∀ q, ((A q).length : Int) = C q.2) : ∀ {qs : List (Int × LSt)} {q0 : Int × LSt} {r : List (Int × LSt)}, qs.filter (fun q => decide (0 < C q.2)) = q0 :: r → (qs.flatMap A).head? = (A q0).head?
  | q :: qs, q0, r, h => by
    rw [List.flatMap_cons, List.head?_append]
    by_cases hp : 0 < C q.2
    · rw [List.filter_cons_of_pos (by simpa using hp)] at h
      have e : q = q0 := (List.cons.inj h).1
      subst e
      have : A q ≠ [] := fun z => by have := ca q; rw [z] at this; simp at this; omega
      obtain ⟨x, xs, hx⟩ := List.exists_cons_of_ne_nil this
      rw [hx]
      rfl
    · rw [List.filter_cons_of_neg (by simpa using hp)] at h
      have : A q = [] := List.length_eq_zero_iff.mp (by have := ca q; omega)
      rw [this, head_pick ca h]
      rfl
theorem pick_ne {C : LSt → Int} (cn : ∀ st, 0 ≤ C st) : ∀ {qs : List (Int × LSt)}, 0 < (qs.map fun q => C q.2).sum → qs.filter (fun q => decide (0 < C q.2)) ≠ []
  | [], h => absurd (show (0 : Int) < 0 from h) (by decide)
  | q :: qs, h => by
    by_cases hp : 0 < C q.2
    · rw [List.filter_cons_of_pos (by simpa using hp)]; exact List.cons_ne_nil _ _
    · rw [List.filter_cons_of_neg (by simpa using hp)]
      have := cn q.2
      rw [List.map_cons, List.sum_cons] at h
      exact pick_ne cn (by omega)
def mB (bb : Nat) : Nat → Nat
  | 0 => 0
  | k + 1 => tB bb (k + 1) + mB bb k
noncomputable def tstL : M Bool := (tst (opN gGt [(opN gSum [(opN gIx [(eVar 3), (eD (.int 1))])]), (eD (.int 0))]))
theorem loop_least (hld : okLd s l p) (hn : seen.length ≤ 1000) {bb : Nat} : ∀ (k : Nat), k < 12 → ∀ (st now : LSt) (line : List Int), OkS s st → walkM s l p seen st = some now → st.left.sum = (k : Nat) → nzL st.left ≤ bb → line.length + k < 500 → 0 < cnt s l p seen (totN seen) place size st → ∀ (kn : Kn) (x4 : Option D), KnOk (cnt s l p seen (totN seen) place size) kn → kn.length + mB bb k ≤ 900000 →
    ∃ kn' line' d1' d3' y4, KnOk (cnt s l p seen (totN seen) place size) kn' ∧ (al s l p seen (totN seen) place size st line).head? = some line' ∧
      sWhile tstL lb_Lines_least_0 (envM (LN true s l p seen place size (kK kn) (kV kn) fst) (dLS st) line (dLS now) x4) = .ok .next (envM (LN true s l p seen place size (kK kn') (kV kn') fst) d1' line' d3' y4)
  | k, h12, st, now, line, O, hw, hk, hnz, hline, hpos, kn, x4, hkn, hb => by
    have hl : 0 ≤ l := hld.2.1.1
    have hs : s.natAbs < 1000 := by have := hld.1; omega
    have hs2 : s ≤ 1000 := by have := hld.1; omega
    obtain ⟨now', hw', hch⟩ := cnt_pos hl O hpos
    rw [hw] at hw'
    cases hw'
    have ce := cnt_eq (p := p) (seen := seen) (place := place) (size := size) hl O
    have ae := al_eq (p := p) (seen := seen) (place := place) (size := size) hl O line
    rw [hw] at ce ae
    dsimp only at ce ae
    have On : OkS s now := walkGo_okS hl _ _ _ O hw
    have el : now.left = st.left := walkGo_left _ _ _ hw
    have a1 : gIx [dLS now, .int 1] = some (.v (dI now.left)) := by unfold dLS; simp [atI_of]
    have s1 : gSum [dI now.left] = some (.v (.int now.left.sum)) := by unfold dI; simp [gSum]
    have tt : tstL (envM (LN true s l p seen place size (kK kn) (kV kn) fst) (dLS st) line (dLS now) x4) = .ok (decide (0 < now.left.sum)) (envM (LN true s l p seen place size (kK kn) (kV kn) fst) (dLS st) line (dLS now) x4) := by
      unfold tstL envM
      generalize dLS now = dnow at *
      generalize dI now.left = dl at *
      simp [a1, s1]
    by_cases h0 : now.left.sum = 0
    · rw [if_pos h0, if_pos (hch h0)] at ae
      refine ⟨kn, line, dLS st, dLS now, x4, hkn, by rw [ae]; rfl, ?_⟩
      rw [sWhile_step, tt, R.bind_ok, h0]
      rfl
    · rw [if_neg h0] at ae ce
      have hb0 := On.big.2
      have h1 : 0 < now.left.sum := by omega
      obtain ⟨k', rfl⟩ : ∃ k', k = k' + 1 := ⟨k - 1, by rw [el] at h0; omega⟩
      have er := ev_readings (l := l) (p := p) (seen := seen) (place := place) (size := size) (ks := kK kn) (ds := kV kn) (fst := fst) hs2 hn (b := true) On
      have rl := readM_len (totN seen) place size now
      rw [el] at rl
      have hmul : (readM (totN seen) place size now).length * tB bb k' ≤ bb * tB bb k' := Nat.mul_le_mul_right _ (by omega)
      have ht : tB bb (k' + 1) = 1 + bb * tB bb k' := rfl
      have hm : mB bb (k' + 1) = tB bb (k' + 1) + mB bb k' := rfl
      obtain ⟨kn1, m1, m2, m3⟩ := comp_pick (s := s) (l := l) (p := p) (seen := seen) (place := place) (size := size) (fst := fst) (C := cnt s l p seen (totN seen) place size) (d1 := dLS st) (d3 := dLS now) (line := line) (x4 := x4) (t := tB bb k') (readM (totN seen) place size now) (fun q hq kn hkn hb => by
        have L := readM_later On hq
        exact ev_countD hld hn (by omega) L.ok (by rw [L.sum, el]; omega) (by have := L.nz; rw [el] at this; omega) kn true hkn hb) kn hkn (by omega)
      have hne := pick_ne (C := cnt s l p seen (totN seen) place size) (fun st => cnt_nn st) (qs := readM (totN seen) place size now) (by rw [← ce]; exact hpos)
      obtain ⟨q0, r, hq0⟩ := List.exists_cons_of_ne_nil hne
      have hmem : q0 ∈ (readM (totN seen) place size now).filter (fun q => decide (0 < cnt s l p seen (totN seen) place size q.2)) := by rw [hq0]; exact List.mem_cons_self ..
      obtain ⟨hq1, hq2⟩ := List.mem_filter.mp hmem
      have hq2 : 0 < cnt s l p seen (totN seen) place size q0.2 := of_decide_eq_true hq2
      have L := readM_later On hq1
      obtain ⟨now2, hw2, _⟩ := cnt_pos hl L.ok hq2
      have ew := ev_walked (p := p) (seen := seen) (place := place) (size := size) (ks := kK kn1) (ds := kV kn1) (fst := fst) hl hs (b := true) L.ok
      rw [hw2, show optL (some now2) = dLS now2 from rfl] at ew
      obtain ⟨kn', line', d1', d3', y4, i1, i2, i3⟩ := loop_least hld hn (bb := bb) k' (by omega) q0.2 now2 (line ++ [q0.1]) L.ok hw2 (by rw [L.sum, el]; omega) (by have := L.nz; rw [el] at this; omega) (by simp; omega) hq2 kn1 (some (.int q0.1)) m1 (by omega)
      refine ⟨kn', line', d1', d3', y4, i1, ?_, ?_⟩
      · rw [ae, head_pick (C := cnt s l p seen (totN seen) place size) (fun q => al_len q.2 (line ++ [q.1])) hq0]
        exact i2
      · have bd : lb_Lines_least_0 (envM (LN true s l p seen place size (kK kn) (kV kn) fst) (dLS st) line (dLS now) x4) = .ok .next (envM (LN true s l p seen place size (kK kn1) (kV kn1) fst) (dLS q0.2) (line ++ [q0.1]) (dLS now2) (some (.int q0.1))) := by
          have hq : ((readM (totN seen) place size now).map dRd).length ≤ 1000000 := by
            rw [List.length_map]
            have := List.length_filter_le (fun x => decide (0 < x)) st.left
            have h6 : nzL st.left ≤ st.left.length := this
            have := O.len
            omega
          have hqf : (((readM (totN seen) place size now).filter (fun q => decide (0 < cnt s l p seen (totN seen) place size q.2))).map dRd).length ≤ 1000000 := by
            have := List.length_filter_le (fun q : Int × LSt => decide (0 < cnt s l p seen (totN seen) place size q.2)) (readM (totN seen) place size now)
            rw [List.length_map] at hq ⊢
            omega
          have a0 : gIx [.lst (((readM (totN seen) place size now).filter (fun q => decide (0 < cnt s l p seen (totN seen) place size q.2))).map dRd), .int 0] = some (.v (.tup [.int q0.1, dLS q0.2])) := by
            rw [hq0, List.map_cons, gIx_c0, atI_of (by omega)]
            rfl
          have gl : gAdd [dI line, .tup [.int q0.1]] = some (.v (dI (line ++ [q0.1]))) := by
            unfold dI
            rw [gAdd_c2, if_pos (by simp; omega), List.map_append]
            rfl
          unfold lb_Lines_least_0
          generalize ((readM (totN seen) place size now).filter (fun q => decide (0 < cnt s l p seen (totN seen) place size q.2))).map dRd = fl at *
          generalize (readM (totN seen) place size now).map dRd = rd at *
          unfold envM at *
          unfold LN at *
          generalize dLS st = dst at *
          generalize dLS now = dnow at *
          generalize dLS now2 = dnow2 at *
          generalize dLS q0.2 = dq0 at *
          generalize dI (line ++ [q0.1]) = dln2 at *
          generalize dI line = dln at *
          try simp at m3
          cases x4
          all_goals
            try simp at m3
            simp [er, hq, m3, hqf, a0, gl, ew, -gIx_c0, -gAdd_c2]
        rw [sWhile_step, tt, R.bind_ok, show decide (0 < now.left.sum) = true from decide_eq_true h1, if_pos rfl, bd, R.bind_ok]
        exact i3
end
end Lw

namespace Lw
open PySem PySem.Spec PyProof.Rows L2 DL
/-! ### Lines made; what was seen -/
theorem comp_flatS {vs vs1 : List Nat} {m m1 : MT} {it1 : M (List D)} {f : M U} {E0 : DEnv} {α : Type} {enc : α → D} {ψ : α → List D} : ∀ (xs : List α), (∀ x ∈ xs, ∀ rest, compD2 vs vs1 m it1 m1 f (enc x :: rest) E0 = (compD2 vs vs1 m it1 m1 f rest E0).bind fun zs e => .ok (ψ x ++ zs) e) → compD2 vs vs1 m it1 m1 f (xs.map enc) E0 = .ok ((xs.map ψ).flatten) E0
  | [], _ => rfl
  | x :: xs, h => by
    rw [List.map_cons, h x (List.mem_cons_self ..), comp_flatS xs fun y hy => h y (List.mem_cons_of_mem _ hy)]
    rfl
def leftS (s : Int) (every : List Int) : List Int := (List.range s.toNat).map fun i : Nat => ((every.count ((i : Int) + 1) : Nat) : Int)
def fstS (s : Int) (seen : List (List Int)) : LSt := ⟨[], leftS s seen.flatten, [], 0⟩
section
variable {s l p : Int} {seen : List (List Int)} {place size : Int}
theorem ev_newS (hs : 1 ≤ s ∧ s ≤ 6) (hn : seen.length ≤ 1000) (hc : ∀ c ∈ seen, c.length ≤ 1000) (hf : seen.flatten.length ≤ 100000) : g_Lines_new [.x (.o true "Lines" ns_Lines []), .v (dL s l p), .v (dSeen seen), .v (.int place), .v (.int size)] =
    .ok (.v .non) [LN true s l p seen place size [] [] (dLS (fstS s seen)), .v (dL s l p), .v (dSeen seen), .v (.int place), .v (.int size)] := by
  have hn2 : seen.length ≤ 1000000 := by omega
  have a0 : atI [D.int s, D.int l, D.int p] 0 = some (.int s) := by simp [atI_of]
  have c2 : ∀ e0 e1 e2 e3 e4 e5 : Option DL.W, compD2 [6, 7] [7] (mName 6) (iterSeq (eVar 6)) (mName 7) (eVar 7) (seen.map dI) [e0, e1, e2, e3, e4, e5, none, none] = .ok (seen.flatten.map D.int) [e0, e1, e2, e3, e4, e5, none, none] := fun e0 e1 e2 e3 e4 e5 => by
    rw [comp_flatS (ψ := fun c : List Int => c.map D.int) seen (fun c hcm rest => by
      have := hc c hcm
      have h6 : c.length ≤ 1000000 := by omega
      rw [compD2]
      simp [dI]
      rw [comp_map (ψ := fun x => D.int x) c (fun x _ rest => by simp [compD])]
      simp [h6])]
    rw [List.map_flatten]
  have hs6 : s.toNat ≤ 1000000 := by omega
  have hf2 : seen.flatten.length ≤ 1000000 := by omega
  have it : ∀ env : DEnv, env[1]? = some (some (.v (.tup [.int s, .int l, .int p]))) → iterR2 (eD (.int 1)) (opN gAdd [(opN gIx [(eVar 1), (eD (.int 0))]), (eD (.int 1))]) env = .ok ((List.range s.toNat).map fun i : Nat => D.int ((i : Int) + 1)) env := fun env h => by
    rw [iterR2_of (f := eD (.int 1)) (m := 1) (n := s + 1) (env := env) (e1 := env) (e := env) rfl (by simp [h, a0]) (by omega) (by omega) (by omega) (by omega)]
    unfold rangeD
    rw [show (s + 1 - 1).toNat = s.toNat by omega]
    congr 1
    refine List.map_congr_left fun i _ => ?_
    rw [Int.add_comm]
  have c1 : ∀ e0 e1 e2 e3 e4 e6 : Option DL.W, compD [7] (mName 7) tYesD (opM gCnt (eVar 5) (eVar 7)) ((List.range s.toNat).map fun i : Nat => D.int ((i : Int) + 1)) [e0, e1, e2, e3, e4, some (.l false (seen.flatten.map D.int)), e6, none] = .ok ((leftS s seen.flatten).map D.int) [e0, e1, e2, e3, e4, some (.l false (seen.flatten.map D.int)), e6, none] := fun e0 e1 e2 e3 e4 e6 => by
    unfold leftS
    rw [List.map_map]
    refine comp_map (enc := fun i : Nat => D.int ((i : Int) + 1)) (ψ := D.int ∘ fun i : Nat => ((seen.flatten.count ((i : Int) + 1) : Nat) : Int)) _ fun i _ rest => ?_
    have hg : gCnt [.lst (seen.flatten.map D.int), .int ((i : Int) + 1)] = some (.v (.int ((seen.flatten.count ((i : Int) + 1) : Nat) : Int))) := by
      show (intsOf (seen.flatten.map D.int)).map _ = _
      rw [intsOf_mapS]
      rfl
    rw [compD]
    generalize seen.flatten.map D.int = fl at *
    simp [hg]
  have hl2 : (leftS s seen.flatten).length ≤ 1000000 := by unfold leftS; simp; omega
  have e2 : dLS (fstS s seen) = .tup [.tup [], .tup ((leftS s seen.flatten).map D.int), .tup [], .int 0] := rfl
  rw [g_Lines_new, mkFn_ap, b_Lines_new, e2]
  unfold LN dSeen dL at *
  have hl3 : ((leftS s seen.flatten).map D.int).length ≤ 1000000 := by rw [List.length_map]; exact hl2
  have hl4 : (seen.flatten.map D.int).length ≤ 1000000 := by rw [List.length_map]; exact hf2
  have hl5 : ((List.range s.toNat).map fun i : Nat => D.int ((i : Int) + 1)).length ≤ 1000000 := by simp; omega
  generalize (leftS s seen.flatten).map D.int = lf at *
  generalize seen.flatten.map D.int = fl at *
  generalize ((List.range s.toNat).map fun i : Nat => D.int ((i : Int) + 1)) = rg at *
  have hsl : (seen.map dI).length ≤ 1000000 := by rw [List.length_map]; omega
  generalize seen.map dI = sd at *
  simp [c2, hsl, hl4, it, hl5, c1, hl3, -iterR2_ap]
theorem fst_ok (hs : 1 ≤ s ∧ s ≤ 6) (hf : seen.flatten.length ≤ 9) (hin : ∀ x ∈ seen.flatten, 1 ≤ x ∧ x ≤ s) : OkS s (fstS s seen) ∧ (fstS s seen).left.sum = (seen.flatten.length : Nat) := by
  have hsum : ∀ (xs : List Int), (∀ x ∈ xs, 1 ≤ x ∧ x ≤ s) → (leftS s xs).sum = (xs.length : Nat) := fun xs => by
    induction xs with
    | nil =>
      intro _
      unfold leftS
      have : ∀ n : Nat, ((List.range n).map fun i : Nat => ((([] : List Int).count ((i : Int) + 1) : Nat) : Int)).sum = 0 := fun n => by
        induction n with
        | zero => rfl
        | succ n ih => rw [List.range_succ, List.map_append, List.sum_append, ih]; rfl
      rw [this]
      rfl
    | cons x xs ih =>
      intro h
      have ih := ih fun y hy => h y (List.mem_cons_of_mem _ hy)
      have hx := h x (List.mem_cons_self ..)
      have key : ∀ n : Nat, ((List.range n).map fun i : Nat => (((x :: xs).count ((i : Int) + 1) : Nat) : Int)).sum = ((List.range n).map fun i : Nat => ((xs.count ((i : Int) + 1) : Nat) : Int)).sum + (if x ≤ (n : Int) then 1 else 0) := fun n => by
        induction n with
        | zero => simp; omega
        | succ n ihn =>
          rw [List.range_succ, List.map_append, List.map_append, List.sum_append, List.sum_append, ihn, List.map_singleton, List.map_singleton, List.sum_singleton, List.sum_singleton, List.count_cons]
          by_cases h1 : x = (n : Int) + 1
          · have h2 : ¬ x ≤ (n : Int) := by omega
            have h3 : x ≤ ((n + 1 : Nat) : Int) := by omega
            simp [h1, h2]
            omega
          · by_cases h2 : x ≤ (n : Int)
            · have h3 : x ≤ ((n + 1 : Nat) : Int) := by omega
              rw [if_pos h2, if_pos h3]
              simp [h1]
              omega
            · have h3 : ¬ x ≤ ((n + 1 : Nat) : Int) := by omega
              rw [if_neg h2, if_neg h3]
              simp [h1]
      have k := key s.toNat
      rw [if_pos (by omega)] at k
      unfold leftS at ih ⊢
      rw [k, ih, List.length_cons]
      omega
  have e := hsum seen.flatten hin
  refine ⟨⟨by intro q hq; exact absurd hq (List.not_mem_nil), fun x hx => ?_, ?_, by intro q hq; exact absurd hq (List.not_mem_nil), ?_⟩, e⟩
  · unfold fstS leftS at hx
    obtain ⟨i, _, rfl⟩ := List.mem_map.mp hx
    omega
  · show ((leftS s seen.flatten).length : Int) = s
    unfold leftS
    simp
    omega
  · show (([] : List SR).length : Int) + ([] : List Int).length + (0 : Nat) + (leftS s seen.flatten).sum ≤ 500 ∧ 0 ≤ (leftS s seen.flatten).sum
    rw [e, List.length_nil, List.length_nil]
    omega
end
end Lw

namespace Lw
open PySem PySem.Spec PyProof.Rows L2 DL
/-! ### what was seen is looked at -/
def upB (c : List Int) : Bool := (c.zip (c.drop 1)).all fun q => decide (q.1 ≤ q.2)
def okSR (s : Int) (c : List Int) : Prop := c ≠ [] ∧ (∀ x ∈ c, 1 ≤ x ∧ x ≤ s) ∧ upB c = true ∧ c.sum ≤ s
section
variable {s l p : Int}
theorem ev_seat_row {c : List Int} (h : okSR s c) (hc : c.length ≤ 1000) : g_is_seat_row [.v (dL s l p), .v (dI c)] = .ok (.v (.bl true)) [.v (dL s l p), .v (dI c)] := by
  obtain ⟨h1, h2, h3, h4⟩ := h
  have a0 : atI [D.int s, D.int l, D.int p] 0 = some (.int s) := by simp [atI_of]
  have e1 : gEq [dI c, .tup []] = some (.v (.bl false)) := by
    have := gEq_en en_dI c []
    rw [show dI [] = .tup [] from rfl] at this
    rw [this]
    simp [h1]
  have cm : ∀ e3 : Option DL.W, compD [2] (mName 2) tYesD (callF g_is_whole [none, none, none] [(eVar 2), (eD (.int 1)), (opN gIx [(eVar 0), (eD (.int 0))])]) (c.map D.int) [some (.v (dL s l p)), some (.v (dI c)), none, e3] = .ok ((c.map fun _ => true).map D.bl) [some (.v (dL s l p)), some (.v (dI c)), none, e3] := fun e3 => by
    rw [List.map_map]
    refine comp_map (enc := D.int) (ψ := D.bl ∘ fun _ => true) c fun x hx rest => ?_
    have := h2 x hx
    simp [compD, dL, a0, ev_is_whole, this]
  have cz : ∀ e2 e3 : Option DL.W, compD [2, 3] (mTup (mCons (mName 2) (mCons (mName 3) mNil)) 2) tYesD (opN gLe [(eVar 2), (eVar 3)]) ((c.zip (c.drop 1)).map fun q => D.tup [.int q.1, .int q.2]) [some (.v (dL s l p)), some (.v (dI c)), none, none] = .ok (((c.zip (c.drop 1)).map fun q => decide (q.1 ≤ q.2)).map D.bl) [some (.v (dL s l p)), some (.v (dI c)), none, none] := fun e2 e3 => by
    rw [List.map_map]
    refine comp_map (enc := fun q : Int × Int => D.tup [.int q.1, .int q.2]) (ψ := D.bl ∘ fun q => decide (q.1 ≤ q.2)) _ fun q _ rest => ?_
    simp [compD]
  have ga1 : gAll [.lst ((c.map fun _ => true).map D.bl)] = some (.v (.bl true)) := by
    simp only [gAll, blsOf_mapS]
    simp
  have ga2 : gAll [.lst (((c.zip (c.drop 1)).map fun q => decide (q.1 ≤ q.2)).map D.bl)] = some (.v (.bl true)) := by
    simp only [gAll, blsOf_mapS]
    unfold upB at h3
    rw [Option.map_some, List.all_map]
    simp only [Function.comp_def, id]
    rw [h3]
  have sl : gSlL [dI c, .int 1] = some (.v (dI (c.drop 1))) := by
    unfold dI
    rw [gSlL_c0, gSl_c1, cutA_lo (by omega), List.map_drop]
    rfl
  have zd : zipD [dI c, dI (c.drop 1)] = some ((c.zip (c.drop 1)).map fun q => D.tup [.int q.1, .int q.2]) := by
    have : ∀ xs ys : List Int, pairs2 (xs.map D.int) (ys.map D.int) = (xs.zip ys).map fun q => D.tup [.int q.1, .int q.2] := fun xs => by
      induction xs with
      | nil => intro ys; simp [pairs2]
      | cons x xs ih =>
        intro ys
        cases ys with
        | nil => simp [pairs2]
        | cons y ys =>
          have := ih ys
          simp only [pairs2] at this ⊢
          simp [this]
    show some (pairs2 (c.map D.int) ((c.drop 1).map D.int)) = _
    rw [this]
  have sm : gSum [dI c] = some (.v (.int c.sum)) := by unfold dI; simp [gSum]
  have hl : (c.map D.int).length ≤ 1000000 := by rw [List.length_map]; omega
  have hl2 : ((c.zip (c.drop 1)).map fun q : Int × Int => D.tup [.int q.1, .int q.2]).length ≤ 1000000 := by simp; omega
  have sq : seqOf (dI c) = some (c.map D.int) := rfl
  have it : isTy (dI c) "tuple" = some true := by unfold dI; simp
  have cm := cm none
  have cz := cz none none
  have l1 : ((c.map fun _ => true).map D.bl).length ≤ 1000000 := by simp; omega
  have l2 : (((c.zip (c.drop 1)).map fun q => decide (q.1 ≤ q.2)).map D.bl).length ≤ 1000000 := by simp; omega
  rw [g_is_seat_row, mkFn_ap, b_is_seat_row]
  unfold dL at *
  generalize ((c.zip (c.drop 1)).map fun q => decide (q.1 ≤ q.2)).map D.bl = bz at *
  generalize ((c.zip (c.drop 1)).map fun q : Int × Int => D.tup [.int q.1, .int q.2]) = zz at *
  generalize (c.map fun _ => true).map D.bl = bt at *
  generalize dI (c.drop 1) = dd at *
  generalize dI c = dc at *
  generalize c.map D.int = ci at *
  simp [it, e1, sq, hl, cm, l1, ga1, sl, zd, hl2, cz, l2, ga2, sm, a0, h4]
theorem ev_look_seen (hld : okLd s l p) {seen : List (List Int)} (h : ∀ c ∈ seen, okSR s c) (hf : seen.flatten.length ≤ 9) : g_look_seen [.v (dL s l p), .v (dSeen seen)] = .ok (.v .non) [.v (dL s l p), .v (dSeen seen)] := by
  have hlen : ∀ (cs : List (List Int)), (∀ c ∈ cs, c ≠ []) → cs.length ≤ cs.flatten.length := fun cs => by
    induction cs with
    | nil => intro _; simp
    | cons c cs ih =>
      intro h
      have h1 := ih fun c hc => h c (List.mem_cons_of_mem _ hc)
      have h2 := List.length_pos_iff.mpr (h c (List.mem_cons_self ..))
      rw [List.length_cons, List.flatten_cons, List.length_append]
      omega
  have hn := hlen seen fun c hc => (h c hc).1
  have hle : ∀ (cs : List (List Int)) c, c ∈ cs → c.length ≤ cs.flatten.length := fun cs => by
    induction cs with
    | nil => intro c hc; cases hc
    | cons d cs ih =>
      intro c hc
      rw [List.flatten_cons, List.length_append]
      rcases List.mem_cons.mp hc with rfl | z
      · omega
      · have := ih c z; omega
  have cm : compD [2] (mName 2) tYesD (callF g_is_seat_row [none, none] [(eVar 0), (eVar 2)]) (seen.map dI) [some (.v (dL s l p)), some (.v (dSeen seen)), none] = .ok ((seen.map fun _ => true).map D.bl) [some (.v (dL s l p)), some (.v (dSeen seen)), none] := by
    rw [List.map_map]
    refine comp_map (enc := dI) (ψ := D.bl ∘ fun _ => true) seen fun c hc rest => ?_
    have := hle seen c hc
    simp [compD, ev_seat_row (l := l) (p := p) (h c hc) (by omega)]
  have cl : compD [2] (mName 2) tYesD (opN gLen [(eVar 2)]) (seen.map dI) [some (.v (dL s l p)), some (.v (dSeen seen)), none] = .ok ((seen.map fun c => (c.length : Int)).map D.int) [some (.v (dL s l p)), some (.v (dSeen seen)), none] := by
    rw [List.map_map]
    refine comp_map (enc := dI) (ψ := D.int ∘ fun c => (c.length : Int)) seen fun c _ rest => ?_
    simp [compD, dI]
  have ga1 : gAll [.lst ((seen.map fun _ => true).map D.bl)] = some (.v (.bl true)) := by
    simp only [gAll, blsOf_mapS]
    simp
  have tot : totN seen = (seen.flatten.length : Nat) := by
    unfold totN
    clear hn cm cl ga1 h hf
    induction seen with
    | nil => rfl
    | cons c cs ih => rw [List.map_cons, List.sum_cons, ih, List.flatten_cons, List.length_append]; omega
  have s2 : gSum [.lst ((seen.map fun c => (c.length : Int)).map D.int)] = some (.v (.int (seen.flatten.length : Nat))) := by rw [← tot]; simp only [gSum, intsOf_mapS]; rfl
  have sq : seqOf (dSeen seen) = some (seen.map dI) := rfl
  have it : isTy (dSeen seen) "tuple" = some true := by unfold dSeen; simp
  have l0 : (seen.map dI).length ≤ 1000000 := by rw [List.length_map]; omega
  have l1 : ((seen.map fun _ => true).map D.bl).length ≤ 1000000 := by simp; omega
  have l2 : ((seen.map fun c => (c.length : Int)).map D.int).length ≤ 1000000 := by rw [List.length_map, List.length_map]; omega
  have h9 : ¬ (9 : Int) < ((seen.flatten.length : Nat) : Int) := by omega
  rw [g_look_seen, mkFn_ap, b_look_seen]
  generalize ((seen.flatten.length : Nat) : Int) = fl at *
  generalize (seen.map fun c => (c.length : Int)).map D.int = ls at *
  generalize (seen.map fun _ => true).map D.bl = bt at *
  generalize seen.map dI = sd at *
  generalize dSeen seen = sn at *
  simp [ev_look_loader hld, it, sq, l0, cm, l1, ga1, cl, l2, s2, h9]
end
end Lw

namespace Lw
open PySem PySem.Spec PyProof.Rows L2 DL
/-! ### what the defs of seen tell -/
structure SeenOk (s l p : Int) (seen : List (List Int)) (bb : Nat) : Prop where
  ld : okLd s l p
  rows : ∀ c ∈ seen, okSR s c
  len : seen.flatten.length ≤ 9
  nz : nzL (leftS s seen.flatten) ≤ bb
  b1 : tB bb seen.flatten.length + lB bb seen.flatten.length ≤ 900000
  b2 : tB bb seen.flatten.length + mB bb seen.flatten.length ≤ 900000
def CN (s l p : Int) (seen : List (List Int)) (place size : Int) : Int := cnt s l p seen (totN seen) place size (fstS s seen)
def AL (s l p : Int) (seen : List (List Int)) : List (List Int) := al s l p seen (totN seen) (-1) 0 (fstS s seen) []
theorem AL_len (s l p : Int) (seen : List (List Int)) : ((AL s l p seen).length : Int) = CN s l p seen (-1) 0 := al_len _ _
section
variable {s l p : Int} {seen : List (List Int)} {bb : Nat}
theorem SeenOk.in (S : SeenOk s l p seen bb) : ∀ x ∈ seen.flatten, 1 ≤ x ∧ x ≤ s := fun x hx => by
  obtain ⟨c, hc, hx⟩ := List.mem_flatten.mp hx
  exact (S.rows c hc).2.1 x hx
theorem SeenOk.sz (S : SeenOk s l p seen bb) : seen.length ≤ 9 ∧ ∀ c ∈ seen, c.length ≤ 9 := by
  have hlen : ∀ (cs : List (List Int)), (∀ c ∈ cs, c ≠ []) → cs.length ≤ cs.flatten.length := fun cs => by
    induction cs with
    | nil => intro _; simp
    | cons c cs ih =>
      intro h
      have h1 := ih fun c hc => h c (List.mem_cons_of_mem _ hc)
      have h2 := List.length_pos_iff.mpr (h c (List.mem_cons_self ..))
      rw [List.length_cons, List.flatten_cons, List.length_append]
      omega
  have hle : ∀ (cs : List (List Int)) c, c ∈ cs → c.length ≤ cs.flatten.length := fun cs => by
    induction cs with
    | nil => intro c hc; cases hc
    | cons d cs ih =>
      intro c hc
      rw [List.flatten_cons, List.length_append]
      rcases List.mem_cons.mp hc with rfl | z
      · omega
      · have := ih c z; omega
  have := S.len
  exact ⟨by have := hlen seen fun c hc => (S.rows c hc).1; omega, fun c hc => by have := hle seen c hc; omega⟩
theorem SeenOk.new (S : SeenOk s l p seen bb) (place size : Int) : g_Lines_new [.x (.o true "Lines" ns_Lines []), .v (dL s l p), .v (dSeen seen), .v (.int place), .v (.int size)] =
    .ok (.v .non) [LN true s l p seen place size [] [] (dLS (fstS s seen)), .v (dL s l p), .v (dSeen seen), .v (.int place), .v (.int size)] := by
  have z := S.sz
  have := S.len
  exact ev_newS S.ld.1 (by omega) (fun c hc => by have := z.2 c hc; omega) (by omega)
theorem SeenOk.of (S : SeenOk s l p seen bb) : g_lines_of [.v (dL s l p), .v (dSeen seen)] = .ok (LN false s l p seen (-1) 0 [] [] (dLS (fstS s seen))) [.v (dL s l p), .v (dSeen seen)] := by
  have n := S.new (-1) 0
  rw [g_lines_of, mkFn_ap, b_lines_of]
  unfold LN at *
  generalize dLS (fstS s seen) = df at *
  generalize dSeen seen = sn at *
  simp [n]
theorem SeenOk.cnt (S : SeenOk s l p seen bb) (place size : Int) (fst : D) (b : Bool) : ∃ kn', KnOk (cnt s l p seen (totN seen) place size) kn' ∧ kn'.length ≤ tB bb seen.flatten.length ∧
      g_Lines_count [LN b s l p seen place size [] [] fst, .v (dLS (fstS s seen))] = .ok (.v (.int (CN s l p seen place size))) [LN b s l p seen place size (kK kn') (kV kn') fst, .v (dLS (fstS s seen))] := by
  obtain ⟨O, e⟩ := fst_ok S.ld.1 S.len S.in
  have z := S.sz
  have := S.len
  have := S.b1
  obtain ⟨kn', h1, h2, h3⟩ := ev_countD (fst := fst) (place := place) (size := size) (seen := seen) S.ld (by omega) (bb := bb) (k := seen.flatten.length) (by omega) O e S.nz [] b (fun e he => absurd he (List.not_mem_nil)) (by rw [List.length_nil]; omega)
  exact ⟨kn', h1, by simpa using h2, h3⟩
theorem ev_how (S : SeenOk s l p seen bb) : g_how_many_lines [.v (dL s l p), .v (dSeen seen)] = .ok (.v (.int (CN s l p seen (-1) 0))) [.v (dL s l p), .v (dSeen seen)] := by
  have ls := ev_look_seen S.ld S.rows S.len
  have n := S.of
  obtain ⟨kn', h1, h2, h3⟩ := S.cnt (-1) 0 (dLS (fstS s seen)) true
  rw [g_how_many_lines, mkFn_ap, b_how_many_lines]
  unfold LN at *
  generalize dLS (fstS s seen) = df at *
  generalize dSeen seen = sn at *
  simp [ls, n, h3]
def optI : Option (List Int) → D
  | none => .non
  | some xs => dI xs
theorem ev_least (S : SeenOk s l p seen bb) (b : Bool) : ∃ w, g_Lines_least [LN b s l p seen (-1) 0 [] [] (dLS (fstS s seen))] = .ok (.v (optI (AL s l p seen).head?)) [w] := by
  obtain ⟨kn, h1, h2, h3⟩ := S.cnt (-1) 0 (dLS (fstS s seen)) true
  obtain ⟨O, e⟩ := fst_ok S.ld.1 S.len S.in
  have z := S.sz
  have h9 := S.len
  have hl : 0 ≤ l := S.ld.2.1.1
  have hs : s.natAbs < 1000 := by have := S.ld.1; omega
  have hb2 := S.b2
  have hlen := AL_len s l p seen
  rw [g_Lines_least, mkFn_ap, show b_Lines_least = (sSeq (sPar 1 2 [(eG (fG 0 "Lines" ns_Lines 5)), (dTup [])])
    (sSeq (sIf (tst (opN gEq [(callM "Lines" ns_Lines g_Lines_count 0 [none] [(eVar 1)]), (eD (.int 0))])) (sRet (eD .non)) sNext)
    (sSeq (sSet 3 (callM "Lines" ns_Lines g_Lines_walked 0 [none] [(eVar 1)]))
    (sSeq (sWhile tstL lb_Lines_least_0)
    (sRet (eVar 2)))))) from rfl]
  by_cases h0 : CN s l p seen (-1) 0 = 0
  · have ha : AL s l p seen = [] := List.length_eq_zero_iff.mp (by omega)
    rw [ha, show optI ([] : List (List Int)).head? = .non from rfl]
    refine ⟨LN b s l p seen (-1) 0 (kK kn) (kV kn) (dLS (fstS s seen)), ?_⟩
    unfold LN at *
    generalize dLS (fstS s seen) = df at *
    cases b <;> simp [h3, h0]
  · have hp : 0 < CN s l p seen (-1) 0 := by have : 0 ≤ CN s l p seen (-1) 0 := cnt_nn _; omega
    obtain ⟨now, hw, _⟩ := cnt_pos hl O hp
    have ew := ev_walked (p := p) (seen := seen) (place := -1) (size := 0) (ks := kK kn) (ds := kV kn) (fst := dLS (fstS s seen)) hl hs (b := true) O
    rw [hw, show optL (some now) = dLS now from rfl] at ew
    obtain ⟨kn', line', d1', d3', y4, i1, i2, i3⟩ := loop_least (place := -1) (size := 0) (fst := dLS (fstS s seen)) S.ld (by omega) (bb := bb) seen.flatten.length (by omega) (fstS s seen) now [] O hw e S.nz (by rw [List.length_nil]; omega) hp kn none h1 (by omega)
    have hh : (AL s l p seen).head? = some line' := i2
    rw [hh, show optI (some line') = dI line' from rfl]
    refine ⟨LN b s l p seen (-1) 0 (kK kn') (kV kn') (dLS (fstS s seen)), ?_⟩
    unfold envM at i3
    rw [show dI [] = .tup [] from rfl] at i3
    unfold LN at *
    generalize dLS (fstS s seen) = df at *
    generalize sWhile tstL lb_Lines_least_0 = lp at *
    generalize dI line' = dl' at *
    try simp at i3
    cases b <;> simp [h3, h0, ew, i3]
theorem ev_first (S : SeenOk s l p seen bb) : g_first_line [.v (dL s l p), .v (dSeen seen)] = .ok (.v (optI (AL s l p seen).head?)) [.v (dL s l p), .v (dSeen seen)] := by
  have ls := ev_look_seen S.ld S.rows S.len
  have n := S.of
  obtain ⟨w, h3⟩ := ev_least S true
  rw [g_first_line, mkFn_ap, b_first_line]
  unfold LN at *
  generalize dLS (fstS s seen) = df at *
  generalize dSeen seen = sn at *
  simp [ls, n, h3]
theorem ev_all (S : SeenOk s l p seen bb) (h : CN s l p seen (-1) 0 ≤ 300) : g_all_lines [.v (dL s l p), .v (dSeen seen)] = .ok (.l false ((AL s l p seen).map dI)) [.v (dL s l p), .v (dSeen seen)] := by
  have ls := ev_look_seen S.ld S.rows S.len
  have n := S.of
  obtain ⟨kn, h1, h2, h3⟩ := S.cnt (-1) 0 (dLS (fstS s seen)) true
  obtain ⟨O, e⟩ := fst_ok S.ld.1 S.len S.in
  have z := S.sz
  have h9 := S.len
  have hb1 := S.b1
  have hlen := AL_len s l p seen
  have h300 : ¬ 300 < CN s l p seen (-1) 0 := by omega
  rw [g_all_lines, mkFn_ap, b_all_lines]
  by_cases h0 : 0 < CN s l p seen (-1) 0
  · obtain ⟨kn', i1, i2, i3⟩ := ev_lines (place := -1) (size := 0) (fst := dLS (fstS s seen)) S.ld (by omega) (bb := bb) seen.flatten.length 12 (by omega) (by omega) (fstS s seen) [] O e S.nz (by rw [List.length_nil]; omega) h0 (show CN s l p seen (-1) 0 ≤ 1000 by omega) kn true h1 (by omega)
    have i3 : g_Lines_lines [LN true s l p seen (-1) 0 (kK kn) (kV kn) (dLS (fstS s seen)), .v (dLS (fstS s seen)), .v (.tup [])] = .ok (.l false ((AL s l p seen).map dI)) [LN true s l p seen (-1) 0 (kK kn') (kV kn') (dLS (fstS s seen)), .v (dLS (fstS s seen)), .v (.tup [])] := i3
    unfold LN at *
    generalize (AL s l p seen).map dI = al2 at *
    generalize dLS (fstS s seen) = df at *
    generalize dSeen seen = sn at *
    simp [ls, n, h3, h300, h0, i3]
  · have ha : AL s l p seen = [] := List.length_eq_zero_iff.mp (by have : 0 ≤ CN s l p seen (-1) 0 := cnt_nn _; omega)
    rw [ha]
    unfold LN at *
    generalize dLS (fstS s seen) = df at *
    generalize dSeen seen = sn at *
    simp [ls, n, h3, h300, h0]
theorem ev_all_full (S : SeenOk s l p seen bb) (h : 300 < CN s l p seen (-1) 0) : g_all_lines [.v (dL s l p), .v (dSeen seen)] = .raise "Full" [.v (dL s l p), .v (dSeen seen)] := by
  have ls := ev_look_seen S.ld S.rows S.len
  have n := S.of
  obtain ⟨kn, h1, h2, h3⟩ := S.cnt (-1) 0 (dLS (fstS s seen)) true
  rw [g_all_lines, mkFn_ap, b_all_lines]
  unfold LN at *
  generalize dLS (fstS s seen) = df at *
  generalize dSeen seen = sn at *
  simp [ls, n, h3, h]
def sizesM (s l p : Int) (seen : List (List Int)) (place : Int) : List Int := ((List.range s.toNat).map fun i : Nat => (i : Int) + 1).filter fun z => decide (0 < CN s l p seen place z)
def envZ (d0 d1 : D) (place : Int) (found : List Int) (x5 : Option D) (x6 : Option DL.W) : DEnv := [some (.v d0), some (.v d1), some (.v (.int place)), none, some (.l false (found.map D.int)), x5.map .v, x6]
theorem for_sizes (S : SeenOk s l p seen bb) {place : Int} : ∀ (xs : List Int) (found : List Int) (x5 : Option D) (x6 : Option DL.W), found.length + xs.length ≤ 1000 → okS x6 = true → ∃ y5 y6, forD m_sizes_at_0 lb_sizes_at_0 (xs.map D.int) (envZ (dL s l p) (dSeen seen) place found x5 x6) = .ok .next (envZ (dL s l p) (dSeen seen) place (found ++ xs.filter fun z => decide (0 < CN s l p seen place z)) y5 y6)
  | [], found, x5, x6, _, _ => ⟨x5, x6, by simp; rfl⟩
  | x :: xs, found, x5, x6, hl, h6 => by
    rw [List.length_cons] at hl
    obtain ⟨kn, h1, h2, h3⟩ := S.cnt place x (dLS (fstS s seen)) true
    have n := S.new place x
    have em : m_sizes_at_0 (.int x) (envZ (dL s l p) (dSeen seen) place found x5 x6) = some (envZ (dL s l p) (dSeen seen) place found (some (.int x)) x6) := by
      unfold envZ
      cases x5 <;> simp [m_sizes_at_0]
    have hfl : found.length < 1000000 := by omega
    by_cases hp : 0 < CN s l p seen place x
    · obtain ⟨y5, y6, ih⟩ := for_sizes S (place := place) xs (found ++ [x]) (some (.int x)) (some (LN false s l p seen place x (kK kn) (kV kn) (dLS (fstS s seen)))) (by simp; omega) rfl
      refine ⟨y5, y6, ?_⟩
      rw [List.filter_cons_of_pos (by simpa using hp), List.map_cons, forD, em]
      have bd : lb_sizes_at_0 (envZ (dL s l p) (dSeen seen) place found (some (.int x)) x6) = .ok .next (envZ (dL s l p) (dSeen seen) place (found ++ [x]) (some (.int x)) (some (LN false s l p seen place x (kK kn) (kV kn) (dLS (fstS s seen))))) := by
        unfold lb_sizes_at_0 envZ
        rw [List.map_append]
        unfold LN at *
        generalize dLS (fstS s seen) = df at *
        generalize dSeen seen = sn at *
        simp [n, h3, hp, h6, hfl]
      show R.bind (lb_sizes_at_0 _) _ = _
      rw [bd, R.bind_ok]
      refine ih.trans ?_
      rw [List.append_assoc]
      rfl
    · obtain ⟨y5, y6, ih⟩ := for_sizes S (place := place) xs found (some (.int x)) (some (LN false s l p seen place x (kK kn) (kV kn) (dLS (fstS s seen)))) (by omega) rfl
      refine ⟨y5, y6, ?_⟩
      rw [List.filter_cons_of_neg (by simpa using hp), List.map_cons, forD, em]
      have bd : lb_sizes_at_0 (envZ (dL s l p) (dSeen seen) place found (some (.int x)) x6) = .ok .next (envZ (dL s l p) (dSeen seen) place found (some (.int x)) (some (LN false s l p seen place x (kK kn) (kV kn) (dLS (fstS s seen))))) := by
        unfold lb_sizes_at_0 envZ
        unfold LN at *
        generalize dLS (fstS s seen) = df at *
        generalize dSeen seen = sn at *
        simp [n, h3, hp, h6]
      show R.bind (lb_sizes_at_0 _) _ = _
      rw [bd, R.bind_ok]
      exact ih
theorem ev_sizes (S : SeenOk s l p seen bb) {place : Int} (hp : 0 ≤ place ∧ place ≤ (seen.flatten.length : Int) - 1) : g_sizes_at [.v (dL s l p), .v (dSeen seen), .v (.int place)] = .ok (.v (dI (sizesM s l p seen place))) [.v (dL s l p), .v (dSeen seen), .v (.int place)] := by
  have ls := ev_look_seen S.ld S.rows S.len
  have z := S.sz
  have s16 := S.ld.1
  obtain ⟨y5, y6, lf⟩ := for_sizes S (place := place) ((List.range s.toNat).map fun i : Nat => (i : Int) + 1) [] none none (by simp; omega) rfl
  have tot : totN seen = (seen.flatten.length : Nat) := by
    unfold totN
    clear lf z ls hp S
    induction seen with
    | nil => rfl
    | cons c cs ih => rw [List.map_cons, List.sum_cons, ih, List.flatten_cons, List.length_append]; omega
  have cl : ∀ e0 e1 e2 e4 e5 e6 : Option DL.W, compD [3] (mName 3) tYesD (opN gLen [(eVar 3)]) (seen.map dI) [e0, e1, e2, none, e4, e5, e6] = .ok ((seen.map fun c => (c.length : Int)).map D.int) [e0, e1, e2, none, e4, e5, e6] := fun e0 e1 e2 e4 e5 e6 => by
    rw [List.map_map]
    refine comp_map (enc := dI) (ψ := D.int ∘ fun c => (c.length : Int)) seen fun c _ rest => ?_
    simp [compD, dI]
  have s2 : gSum [.lst ((seen.map fun c => (c.length : Int)).map D.int)] = some (.v (.int (seen.flatten.length : Nat))) := by rw [← tot]; simp only [gSum, intsOf_mapS]; rfl
  have sq : seqOf (dSeen seen) = some (seen.map dI) := rfl
  have l0 : (seen.map dI).length ≤ 1000000 := by rw [List.length_map]; omega
  have l2 : ((seen.map fun c => (c.length : Int)).map D.int).length ≤ 1000000 := by rw [List.length_map, List.length_map]; omega
  have a0 : atI [D.int s, D.int l, D.int p] 0 = some (.int s) := by simp [atI_of]
  have it : ∀ env : DEnv, env[0]? = some (some (.v (dL s l p))) → iterR2 (eD (.int 1)) (opN gAdd [(opN gIx [(eVar 0), (eD (.int 0))]), (eD (.int 1))]) env = .ok (((List.range s.toNat).map fun i : Nat => (i : Int) + 1).map D.int) env := fun env h => by
    rw [iterR2_of (f := eD (.int 1)) (m := 1) (n := s + 1) (env := env) (e1 := env) (e := env) rfl (by unfold dL at h; simp [h, a0]) (by omega) (by omega) (by omega) (by omega)]
    unfold rangeD
    rw [show (s + 1 - 1).toNat = s.toNat by omega, List.map_map]
    congr 1
    refine List.map_congr_left fun i _ => ?_
    show D.int _ = D.int _
    rw [Int.add_comm]
  have hw : g_is_whole [.v (.int place), .v (.int 0), .v (.int ((seen.flatten.length : Int) - 1))] = .ok (.v (.bl true)) [.v (.int place), .v (.int 0), .v (.int ((seen.flatten.length : Int) - 1))] := by
    rw [ev_is_whole, show decide (0 ≤ place ∧ place ≤ (seen.flatten.length : Int) - 1) = true from decide_eq_true hp]
  rw [g_sizes_at, mkFn_ap, b_sizes_at]
  rw [List.nil_append] at lf
  change forD m_sizes_at_0 lb_sizes_at_0 _ _ = .ok .next (envZ _ _ place (sizesM s l p seen place) y5 y6) at lf
  unfold envZ at lf
  unfold dI
  generalize (sizesM s l p seen place).map D.int = res at *
  generalize (((List.range s.toNat).map fun i : Nat => (i : Int) + 1).map D.int) = rg at *
  generalize ((seen.flatten.length : Nat) : Int) = fl at *
  generalize (seen.map fun c => (c.length : Int)).map D.int = lsx at *
  generalize seen.map dI = sd at *
  generalize dSeen seen = sn at *
  generalize dL s l p = dl at *
  simp at lf
  simp [ls, sq, l0, cl, l2, s2, hw, it, lf, -iterR2_ap]
end
end Lw

namespace Lw
open PySem PySem.Spec PyProof.Rows L2 DL
/-! ### the counts by hand -/
def S3 : List (List Int) := [[1, 2, 3], [1, 2, 3], [1, 2, 3]]
def S4 : List (List Int) := [[2, 3], [2, 3], [2, 3], [2, 3]]
def Sh : List (List Int) := [[1, 4], [2, 4]]
def Lo : List (List Int) := [[1, 3], [2, 4]]
def On : List (List Int) := [[1], [1]]
def Fi : List (List Int) := [[1, 5], [5]]
def okSRB (s : Int) (c : List Int) : Bool := !c.isEmpty && c.all (fun x => decide (1 ≤ x ∧ x ≤ s)) && upB c && decide (c.sum ≤ s)
def seenB (s : Int) (seen : List (List Int)) (bb : Nat) : Bool := seen.all (okSRB s) && decide (seen.flatten.length ≤ 9) && decide (nzL (leftS s seen.flatten) ≤ bb) && decide (tB bb seen.flatten.length + lB bb seen.flatten.length ≤ 900000) && decide (tB bb seen.flatten.length + mB bb seen.flatten.length ≤ 900000)
theorem seen_of {s l p : Int} {seen : List (List Int)} {bb : Nat} (ld : okLd s l p) (h : seenB s seen bb = true) : SeenOk s l p seen bb := by
  unfold seenB at h
  simp only [Bool.and_eq_true, decide_eq_true_eq, List.all_eq_true] at h
  obtain ⟨⟨⟨⟨h1, h2⟩, h3⟩, h4⟩, h5⟩ := h
  refine ⟨ld, fun c hc => ?_, h2, h3, h4, h5⟩
  have := h1 c hc
  unfold okSRB at this
  simp only [Bool.and_eq_true, decide_eq_true_eq, List.all_eq_true] at this
  obtain ⟨⟨⟨k1, k2⟩, k3⟩, k4⟩ := this
  exact ⟨fun z => by rw [z] at k1; exact absurd k1 (by decide), k2, k3, k4⟩
def chkA (p : Int) : Bool := decide (CN 6 0 p S3 (-1) 0 = 216) && decide ((AL 6 0 p S3).head? = some [1, 2, 3, 1, 2, 3, 1, 2, 3])
def chkB (p : Int) : Bool := (List.range 9).all fun k => decide (sizesM 6 0 p S3 (k : Nat) = [1, 2, 3])
def chkC (p : Int) : Bool := decide (CN 6 0 p S4 (-1) 0 = 16) && decide ((AL 6 0 p S4).head? = some [2, 3, 2, 3, 2, 3, 2, 3]) && decide (AL 6 0 p Sh = [[1, 4, 2, 4], [1, 4, 4, 2], [4, 1, 2, 4], [4, 1, 4, 2]]) && decide (AL 6 0 p Lo = [[1, 3, 4, 2], [3, 1, 4, 2]]) && decide (sizesM 6 0 p Lo 2 = [4]) && decide (CN 6 0 p On (-1) 0 = 0) && decide ((AL 6 0 p On).head? = none)
theorem chkA_ok : ([0, 1, 2, 3] : List Int).all chkA = true := by decide +kernel
theorem chkC_ok : ([0, 1, 2, 3] : List Int).all chkC = true := by decide +kernel
theorem free_cn : CN 6 3 3 S3 (-1) 0 = 500 := by decide +kernel
theorem fi_al : AL 6 1 1 Fi = [[1, 5, 5], [5, 1, 5], [5, 5, 1]] := by decide +kernel
end Lw

namespace Lw
open PySem PySem.Spec PyProof.Rows L2 DL
theorem chkB0 : chkB 0 = true := by decide +kernel
theorem chkB1 : chkB 1 = true := by decide +kernel
theorem chkB2 : chkB 2 = true := by decide +kernel
theorem chkB3 : chkB 3 = true := by decide +kernel
end Lw

namespace Lw
open PySem PySem.Spec PyProof.Rows L2 DL
/-! chair_of -/
theorem idxD_bl : ∀ (bs : List Bool), idxD (.bl true) (bs.map D.bl) = bs.findIdx? (fun b => b)
  | [] => rfl
  | b :: bs => by
    rw [List.map_cons, idxD, idxD_bl bs, List.findIdx?_cons, deq_bl]
    cases b <;> simp [-List.map_map, -List.map_take, -List.map_drop]/-! ### what is refused -/
@[simp ↓] theorem sTry_ap (cs : List Str) (i j : Nat) (fb : M Fl) (env : DEnv) : sTry cs i j fb env = (match fb env with
  | .raise c e1 => if c ∈ cs then (match setS j (.v (.nam true c)) e1 with
      | some e2 => (match clrS i e2 with
        | some e3 => .ok .next e3
        | none => .stuck)
      | none => .stuck) else .stuck
  | r => r : R Fl) := by
  unfold sTry
  cases fb env <;> rfl
theorem gIsiE_nn {cs ts : List Str} {c c' : Str} (h1 : c ∈ cs) (h2 : c' ∈ ts) : gIsiE cs ts [.nam true c, .nam false c'] = some (.v (.bl (excSub c c'))) := if_pos ⟨h1, h2⟩
theorem gIsiE_nt {cs ts : List Str} {c : Str} (h1 : c ∈ cs) : gIsiE cs ts [.nam true c, .ty "ValueError"] = some (.v (.bl true)) := if_pos ⟨h1, rfl⟩
@[simp] theorem isNonD_nam (b : Bool) (c : Str) : isNonD (.nam b c) = false := rfl
def wordL : List Str := ["BadLoader", "BadLine", "BadNumber", "BadPlace", "BadLoading", "BadWeights", "BadDay", "BadSeen", "Full", "NoBack", "BadText"]
theorem idx_rep : ∀ (k n : Nat), (List.replicate k false ++ true :: List.replicate n false).findIdx? (fun b => b) = some k
  | 0, n => by simp [List.findIdx?_cons]
  | k + 1, n => by
    rw [List.replicate_succ, List.cons_append, List.findIdx?_cons, idx_rep k n]
    rfl
theorem ev_law_word {c : Str} {k : Nat} (hc : c ∈ raisedL) (hk : wordL.map (excSub c) = (List.replicate k false) ++ true :: List.replicate (10 - k) false) (hk2 : k ≤ 10) : g_law_word [.v (.nam true c)] = .ok (.v (.int (k : Nat))) [.v (.nam true c)] := by
  have h := fun c' (h2 : c' ∈ testedL) => gIsiE_nn (cs := raisedL) (ts := testedL) (c' := c') hc h2
  have b1 := h "BadLoader" (by decide +kernel)
  have b2 := h "BadLine" (by decide +kernel)
  have b3 := h "BadNumber" (by decide +kernel)
  have b4 := h "BadPlace" (by decide +kernel)
  have b5 := h "BadLoading" (by decide +kernel)
  have b6 := h "BadWeights" (by decide +kernel)
  have b7 := h "BadDay" (by decide +kernel)
  have b8 := h "BadSeen" (by decide +kernel)
  have b9 := h "Full" (by decide +kernel)
  have b10 := h "NoBack" (by decide +kernel)
  have b11 := h "BadText" (by decide +kernel)
  have b0 := gIsiE_nt (cs := raisedL) (ts := testedL) hc
  have e : wordL.map (excSub c) = [excSub c "BadLoader", excSub c "BadLine", excSub c "BadNumber", excSub c "BadPlace", excSub c "BadLoading", excSub c "BadWeights", excSub c "BadDay", excSub c "BadSeen", excSub c "Full", excSub c "NoBack", excSub c "BadText"] := rfl
  have el : [D.bl (excSub c "BadLoader"), D.bl (excSub c "BadLine"), D.bl (excSub c "BadNumber"), D.bl (excSub c "BadPlace"), D.bl (excSub c "BadLoading"), D.bl (excSub c "BadWeights"), D.bl (excSub c "BadDay"), D.bl (excSub c "BadSeen"), D.bl (excSub c "Full"), D.bl (excSub c "NoBack"), D.bl (excSub c "BadText")] = (List.replicate k false ++ true :: List.replicate (10 - k) false).map D.bl := by
    rw [← hk, e]; rfl
  have gc : gCntB [.lst [D.bl (excSub c "BadLoader"), D.bl (excSub c "BadLine"), D.bl (excSub c "BadNumber"), D.bl (excSub c "BadPlace"), D.bl (excSub c "BadLoading"), D.bl (excSub c "BadWeights"), D.bl (excSub c "BadDay"), D.bl (excSub c "BadSeen"), D.bl (excSub c "Full"), D.bl (excSub c "NoBack"), D.bl (excSub c "BadText")], .bl true] = some (.v (.int 1)) := by
    rw [el]
    show (blsOf _).map _ = _
    rw [blsOf_map]
    simp [List.count_append, List.count_replicate]
  have gi : gIdx [.lst [D.bl (excSub c "BadLoader"), D.bl (excSub c "BadLine"), D.bl (excSub c "BadNumber"), D.bl (excSub c "BadPlace"), D.bl (excSub c "BadLoading"), D.bl (excSub c "BadWeights"), D.bl (excSub c "BadDay"), D.bl (excSub c "BadSeen"), D.bl (excSub c "Full"), D.bl (excSub c "NoBack"), D.bl (excSub c "BadText")], .bl true] = some (.v (.int (k : Nat))) := by
    rw [el]
    show (if (fine 60 (.lst _) && fine 60 (.bl true)) = true then _ else _) = _
    rw [(en_lst en_bl).fn _ 60 (by decide), show fine 60 (.bl true) = true from rfl, Bool.and_self, if_pos rfl, idxD_bl, idx_rep]
    rfl
  have g1 : gEq [.int 1, .int 1] = some (.v (.bl true)) := (gEq_en en_int 1 1).trans (by simp)
  rw [g_law_word, mkFn_ap, b_law_word]
  simp [b0, b1, b2, b3, b4, b5, b6, b7, b8, b9, b10, b11, gc, gi, g1]
theorem told_raise {way some' : D} {c : Str} {k : Nat} (hc : c ∈ raisedL) (hw : g_law_word [.v (.nam true c)] = .ok (.v (.int (k : Nat))) [.v (.nam true c)]) (h : g_law_one [.v way, .v some'] = .raise c [.v way, .v some']) : g_law_told [.v way, .v some'] = .ok (.v (.tup [.str "refused", .int (k : Nat)])) [.v way, .v some'] := by
  rw [g_law_told, mkFn_ap, b_law_told]
  simp [h, hc, hw, clrS]def wordsD : List D := [.str "loader", .str "line", .str "number", .str "place", .str "loading", .str "weights", .str "day", .str "seen", .str "full", .str "back", .str "text"]
theorem ev_law_refused {w : Str} {k : Nat} (h : gIdx [.lst wordsD, .str w] = some (.v (.int (k : Nat)))) : g_law_refused [.v (.str w)] = .ok (.v (.tup [.str "refused", .int (k : Nat)])) [.v (.str w)] := by
  rw [g_law_refused, mkFn_ap, b_law_refused]
  unfold wordsD at h
  simp [h]
theorem gIdx_number : gIdx [.lst wordsD, .str "number"] = some (.v (.int ((2 : Nat) : Int))) := by kernel_rfl
/-! ### the law -/
theorem ev_one62 {ld sn : D} {g : List DL.W → RF} : True := trivial
theorem ev_told_found {s l p : Int} {seen : List (List Int)} {bb : Nat} (S : SeenOk s l p seen bb) (h : CN s l p seen (-1) 0 ≤ 300) : g_law_told [.v (.int 0), .v (.tup [dL s l p, dSeen seen])] = .ok (.v (.tup [.str "found", .lst ((AL s l p seen).map dI)])) [.v (.int 0), .v (.tup [dL s l p, dSeen seen])] := by
  have e := ev_all S h
  have e1 : g_law_one [.v (.int 0), .v (.tup [dL s l p, dSeen seen])] = .ok (.l false ((AL s l p seen).map dI)) [.v (.int 0), .v (.tup [dL s l p, dSeen seen])] := by
    rw [g_law_one, mkFn_ap, b_law_one]
    generalize (AL s l p seen).map dI = al2 at *
    generalize dL s l p = d1 at *
    generalize dSeen seen = d2 at *
    simp [e]
  rw [g_law_told, mkFn_ap, b_law_told]
  generalize (AL s l p seen).map dI = al2 at *
  generalize dL s l p = d1 at *
  generalize dSeen seen = d2 at *
  simp [e1]
theorem word_full : g_law_word [.v (.nam true "Full")] = .ok (.v (.int ((8 : Nat) : Int))) [.v (.nam true "Full")] := ev_law_word (by decide +kernel) (by decide +kernel) (by decide)
theorem ev_told_full {s l p : Int} {seen : List (List Int)} {bb : Nat} (S : SeenOk s l p seen bb) (h : 300 < CN s l p seen (-1) 0) : g_law_told [.v (.int 0), .v (.tup [dL s l p, dSeen seen])] = .ok (.v (.tup [.str "refused", .int 8])) [.v (.int 0), .v (.tup [dL s l p, dSeen seen])] := by
  have e := ev_all_full S h
  have e1 : g_law_one [.v (.int 0), .v (.tup [dL s l p, dSeen seen])] = .raise "Full" [.v (.int 0), .v (.tup [dL s l p, dSeen seen])] := by
    rw [g_law_one, mkFn_ap, b_law_one]
    generalize dL s l p = d1 at *
    generalize dSeen seen = d2 at *
    simp [e]
  have hr : (Str.ofString "Full") ∈ raisedL := by decide +kernel
  have w := word_full
  rw [g_law_told, mkFn_ap, b_law_told]
  generalize dL s l p = d1 at *
  generalize dSeen seen = d2 at *
  simp [e1, hr, clrS, w]
theorem gIdx_full : gIdx [.lst wordsD, .str "full"] = some (.v (.int ((8 : Nat) : Int))) := by kernel_rfl
theorem mul_S3 : gMulZ [.tup [.tup [.int 1, .int 2, .int 3]], .int 3] = some (.v (dSeen S3)) := by kernel_rfl
theorem mul_l3 : gMulZ [.tup [.int 1, .int 2, .int 3], .int 3] = some (.v (dI [1, 2, 3, 1, 2, 3, 1, 2, 3])) := by kernel_rfl
theorem mul_S4 : gMulZ [.tup [.tup [.int 2, .int 3]], .int 4] = some (.v (dSeen S4)) := by kernel_rfl
theorem mul_l4 : gMulZ [.tup [.int 2, .int 3], .int 4] = some (.v (dI [2, 3, 2, 3, 2, 3, 2, 3])) := by kernel_rfl
theorem ne_found : gNe [.str "found", .str "found"] = some (.v (.bl false)) := by
  have h1 : (fine 60 (.str "found") && fine 60 (.str "found")) = true := by decide +kernel
  have h2 : deq (.str "found") (.str "found") = true := by decide +kernel
  show (if (fine 60 (.str "found") && fine 60 (.str "found")) = true then some (DL.W.v (.bl (!deq (.str "found") (.str "found")))) else none) = _
  rw [if_pos h1, h2]
  rfl
theorem ne_ref (k : Int) : gNe [.tup [.str "refused", .int k], .tup [.str "refused", .int k]] = some (.v (.bl false)) := by
  have h0 : PyData.strOk "refused" = true := by decide +kernel
  have h1 : (fine 60 (.tup [.str "refused", .int k]) && fine 60 (.tup [.str "refused", .int k])) = true := by
    rw [Bool.and_self]
    refine fine_tup ?_
    simp only [List.all_cons, List.all_nil, Bool.and_true, Bool.and_eq_true]
    exact ⟨h0, rfl⟩
  have h3 : deq (.str "refused") (.str "refused") = true := by decide +kernel
  have h2 : deq (.tup [.str "refused", .int k]) (.tup [.str "refused", .int k]) = true := by
    rw [deq_tups, all_cons, all_cons, all_nil, h3, deq_int]
    simp
  show (if _ = true then some (DL.W.v (.bl (!deq _ _))) else none) = _
  rw [if_pos h1, h2]
  rfl
theorem ne_same {α : Type} [DecidableEq α] {e : α → D} {n : Nat} (h : En e n) (x : α) (hn : n ≤ 60 := by decide) : gNe [e x, e x] = some (.v (.bl false)) := by rw [gNe_en h x x hn]; simp
theorem eq_same {α : Type} [DecidableEq α] {e : α → D} {n : Nat} (h : En e n) (x : α) (hn : n ≤ 60 := by decide) : gEq [e x, e x] = some (.v (.bl true)) := by rw [gEq_en h x x hn]; simp
end Lw

namespace Lw
open PySem PySem.Spec PyProof.Rows L2 DL
theorem facts62 {p : Int} (hp : 0 ≤ p ∧ p ≤ 3) : chkA p = true ∧ chkB p = true ∧ chkC p = true := by
  have h : p = 0 ∨ p = 1 ∨ p = 2 ∨ p = 3 := by omega
  have a := chkA_ok
  have c := chkC_ok
  rw [List.all_eq_true] at a c
  rcases h with rfl | rfl | rfl | rfl
  · exact ⟨a 0 (by simp), chkB0, c 0 (by simp)⟩
  · exact ⟨a 1 (by simp), chkB1, c 1 (by simp)⟩
  · exact ⟨a 2 (by simp), chkB2, c 2 (by simp)⟩
  · exact ⟨a 3 (by simp), chkB3, c 3 (by simp)⟩
theorem law_ok : lawOk g_law := by
  intro ns hns
  obtain ⟨town, ht, T0⟩ := ev_law_town ns hns
  obtain ⟨p, t1, e1, b1, T1⟩ := ev_draw (m := 4) T0 (by omega) (by omega) (by omega)
  obtain ⟨pl, t2, e2, b2, T2⟩ := ev_draw (m := 9) T1 (by omega) (by omega) (by omega)
  obtain ⟨fa, fb, fc⟩ := facts62 (p := p) (by omega)
  unfold chkA at fa
  unfold chkC at fc
  unfold chkB at fb
  simp only [Bool.and_eq_true, decide_eq_true_eq] at fa fc
  rw [List.all_eq_true] at fb
  obtain ⟨a1, a2⟩ := fa
  obtain ⟨⟨⟨⟨⟨⟨c1, c2⟩, c3⟩, c4⟩, c5⟩, c6⟩, c7⟩ := fc
  have fb := of_decide_eq_true (fb pl.toNat (List.mem_range.mpr (by omega)))
  rw [show ((pl.toNat : Nat) : Int) = pl by omega] at fb
  have ld : okLd 6 0 p := ⟨by omega, by omega, by omega⟩
  have ldf : okLd 6 3 3 := ⟨by omega, by omega, by omega⟩
  have ld1 : okLd 6 1 1 := ⟨by omega, by omega, by omega⟩
  have K3 : SeenOk 6 0 p S3 3 := seen_of ld (by decide +kernel)
  have K4 : SeenOk 6 0 p S4 2 := seen_of ld (by decide +kernel)
  have Ksh : SeenOk 6 0 p Sh 3 := seen_of ld (by decide +kernel)
  have Klo : SeenOk 6 0 p Lo 4 := seen_of ld (by decide +kernel)
  have Kon : SeenOk 6 0 p On 1 := seen_of ld (by decide +kernel)
  have Kf : SeenOk 6 3 3 S3 3 := seen_of ldf (by decide +kernel)
  have Kfi : SeenOk 6 1 1 Fi 2 := seen_of ld1 (by decide +kernel)
  have l1 : CN 6 0 p Sh (-1) 0 ≤ 300 := by rw [← AL_len, c3]; decide
  have l2 : CN 6 0 p Lo (-1) 0 ≤ 300 := by rw [← AL_len, c4]; decide
  have l3 : CN 6 1 1 Fi (-1) 0 = 3 := by rw [← AL_len, fi_al]; decide
  have h1 := ev_how K3
  have h2 := ev_first K3
  have h3 := ev_told_found K3 (by omega)
  have h4 := ev_sizes K3 (place := pl) (by rw [show S3.flatten.length = 9 from rfl]; omega)
  have h5 := ev_how K4
  have h6 := ev_first K4
  have h7 := ev_all Ksh l1
  have h8 := ev_all Klo l2
  have h9 := ev_sizes Klo (place := 2) (by rw [show Lo.flatten.length = 4 from rfl]; omega)
  have h10 := ev_how Kon
  have h11 := ev_first Kon
  have h12 := ev_how Kf
  have h13 := ev_told_full Kf (by rw [free_cn]; decide)
  have h14 := ev_how Kfi
  have h15 := ev_all Kfi (by omega)
  have h16 := ev_law_refused gIdx_full
  have alen : gLen [.lst ((AL 6 0 p S3).map dI)] = some (.v (.int 216)) := by
    rw [gLen_c0, List.length_map, AL_len, a1]
  rw [a1] at h1
  rw [a2, show optI (some [1, 2, 3, 1, 2, 3, 1, 2, 3]) = dI [1, 2, 3, 1, 2, 3, 1, 2, 3] from rfl] at h2
  rw [fb] at h4
  rw [c1] at h5
  rw [c2, show optI (some [2, 3, 2, 3, 2, 3, 2, 3]) = dI [2, 3, 2, 3, 2, 3, 2, 3] from rfl] at h6
  rw [c3] at h7
  rw [c4] at h8
  rw [c5] at h9
  rw [c6] at h10
  rw [c7, show optI none = .non from rfl] at h11
  rw [free_cn] at h12
  rw [l3] at h14
  rw [fi_al] at h15
  clear K3 K4 Ksh Klo Kon Kf Kfi
  have nI : ∀ x : List Int, gNe [dI x, dI x] = some (.v (.bl false)) := fun x => ne_same en_dI x
  have nL : ∀ x : List (List Int), gNe [.lst (x.map dI), .lst (x.map dI)] = some (.v (.bl false)) := fun x => ne_same (en_lst en_dI) x
  have qL : ∀ x : List (List Int), gEq [.lst (x.map dI), .lst (x.map dI)] = some (.v (.bl true)) := fun x => eq_same (en_lst en_dI) x
  refine law_ret rfl rfl ?_
  rw [b_law]
  refine run_seq (e := [some (.v (.scr ns)), some (.l false town), none, none, none, none, none, none, none, none]) (by simp [ht]) ?_
  refine run_seq (e := [some (.v (.scr ns)), some (.l false t1), some (.v (dL 6 0 p)), none, none, none, none, none, none, none]) (by simp [e1, dL]) ?_
  generalize hdl : dL 6 0 p = dl at *
  refine run_seq (e := [some (.v (.scr ns)), some (.l false t1), some (.v dl), some (.v (dSeen S3)), none, none, none, none, none, none]) (by simp [mul_S3]) ?_
  generalize hs3 : dSeen S3 = s3 at *
  refine run_seq (e := [some (.v (.scr ns)), some (.l false t1), some (.v dl), some (.v s3), none, none, none, none, none, none]) (by simp [h1, h2, mul_l3, nI]) ?_
  refine run_seq (e := [some (.v (.scr ns)), some (.l false t1), some (.v dl), some (.v s3), some (.v (.tup [.str "found", .lst ((AL 6 0 p S3).map dI)])), none, none, none, none, none]) (by simp [h3]) ?_
  generalize (AL 6 0 p S3).map dI = al3 at *
  refine run_seq (e := [some (.v (.scr ns)), some (.l false t1), some (.v dl), some (.v s3), some (.v (.tup [.str "found", .lst al3])), none, none, none, none, none]) (by simp [atI_of, ne_found, alen, -gLen_c0]) ?_
  refine run_seq (e := [some (.v (.scr ns)), some (.l false t2), some (.v dl), some (.v s3), some (.v (.tup [.str "found", .lst al3])), none, none, none, none, none]) (by
    have := nI [1, 2, 3]
    rw [show dI [1, 2, 3] = .tup [.int 1, .int 2, .int 3] from rfl] at this h4
    simp [e2, h4, this]) ?_
  refine run_seq (e := [some (.v (.scr ns)), some (.l false t2), some (.v dl), some (.v s3), some (.v (.tup [.str "found", .lst al3])), some (.v (dSeen S4)), none, none, none, none]) (by simp [mul_S4]) ?_
  generalize hs4 : dSeen S4 = s4 at *
  refine run_seq (e := [some (.v (.scr ns)), some (.l false t2), some (.v dl), some (.v s3), some (.v (.tup [.str "found", .lst al3])), some (.v s4), none, none, none, none]) (by simp [h5, h6, mul_l4, nI]) ?_
  refine run_seq (e := [some (.v (.scr ns)), some (.l false t2), some (.v dl), some (.v s3), some (.v (.tup [.str "found", .lst al3])), some (.v s4), some (.v (dSeen Sh)), none, none, none]) (by simp [dSeen, Sh, dI]) ?_
  generalize hsh : dSeen Sh = sh at *
  refine run_seq (e := [some (.v (.scr ns)), some (.l false t2), some (.v dl), some (.v s3), some (.v (.tup [.str "found", .lst al3])), some (.v s4), some (.v sh), none, none, none]) (by
    have := nL [[1, 4, 2, 4], [1, 4, 4, 2], [4, 1, 2, 4], [4, 1, 4, 2]]
    simp [dI] at this h7
    simp [h7, this]) ?_
  refine run_seq (e := [some (.v (.scr ns)), some (.l false t2), some (.v dl), some (.v s3), some (.v (.tup [.str "found", .lst al3])), some (.v s4), some (.v sh), some (.v (dSeen Lo)), none, none]) (by simp [dSeen, Lo, dI]) ?_
  generalize hlo : dSeen Lo = lo at *
  refine run_seq (e := [some (.v (.scr ns)), some (.l false t2), some (.v dl), some (.v s3), some (.v (.tup [.str "found", .lst al3])), some (.v s4), some (.v sh), some (.v lo), none, none]) (by
    have n1 := nL [[1, 3, 4, 2], [3, 1, 4, 2]]
    have n2 := nI [4]
    simp [dI] at n1 n2 h8 h9
    simp [h8, h9, n1, n2]) ?_
  have hon : dSeen On = .tup [.tup [.int 1], .tup [.int 1]] := rfl
  rw [hon] at h10 h11
  refine run_seq (e := [some (.v (.scr ns)), some (.l false t2), some (.v dl), some (.v s3), some (.v (.tup [.str "found", .lst al3])), some (.v s4), some (.v sh), some (.v lo), none, none]) (by simp [h10, h11]) ?_
  refine run_seq (e := [some (.v (.scr ns)), some (.l false t2), some (.v dl), some (.v s3), some (.v (.tup [.str "found", .lst al3])), some (.v s4), some (.v sh), some (.v lo), some (.v (dL 6 3 3)), none]) (by simp [dL]) ?_
  have h16' : g_law_refused [.v (.str "full")] = .ok (.v (.tup [.str "refused", .int 8])) [.v (.str "full")] := h16
  generalize hd6 : dL 6 3 3 = d6 at *
  refine run_seq (e := [some (.v (.scr ns)), some (.l false t2), some (.v dl), some (.v s3), some (.v (.tup [.str "found", .lst al3])), some (.v s4), some (.v sh), some (.v lo), some (.v d6), some (.v (.int 500))]) (by simp [h12]) ?_
  refine run_seq (e := [some (.v (.scr ns)), some (.l false t2), some (.v dl), some (.v s3), some (.v (.tup [.str "found", .lst al3])), some (.v s4), some (.v sh), some (.v lo), some (.v d6), some (.v (.int 500))]) (by simp [h13, h16', ne_ref]) ?_
  have hfi : dSeen Fi = .tup [.tup [.int 1, .int 5], .tup [.int 5]] := rfl
  have hd1 : dL 6 1 1 = .tup [.int 6, .int 1, .int 1] := rfl
  rw [hfi, hd1] at h14 h15
  refine run_seq (e := [some (.v (.scr ns)), some (.l false t2), some (.v dl), some (.v s3), some (.v (.tup [.str "found", .lst al3])), some (.v s4), some (.v sh), some (.v lo), some (.v d6), some (.v (.int 500))]) (by simp [h14]) ?_
  refine run_ret (e := [some (.v (.scr ns)), some (.l false t2), some (.v dl), some (.v s3), some (.v (.tup [.str "found", .lst al3])), some (.v s4), some (.v sh), some (.v lo), some (.v d6), some (.v (.int 500))]) ?_
  have q := qL [[1, 5, 5], [5, 1, 5], [5, 5, 1]]
  simp [dI] at q h15
  simp [h15, q]
end Lw

namespace Lw
open PySem PySem.Spec PyProof.Rows L2 DL
theorem all_mk {l : PySem.W.OpenLaw} {w : World} {K : PySem.W.Frag} {h : Heap} {mg : Str → Option Value} {fa : Addr} (X : K.In h) (G : h.Ns mainGlobals mg) (hfa : mg "law" = some (.ref fa))
    {YLines : Addr}
    {f0 : Addr} {od0 an0 : Option Addr} {sl0 : Array (Option Value)} {oc0 kV0 dc0 pm0 cd0 ct0 : Value}
    {f1 : Addr} {od1 an1 : Option Addr} {sl1 : Array (Option Value)} {oc1 kV1 dc1 pm1 cd1 ct1 : Value}
    {f2 : Addr} {od2 an2 : Option Addr} {sl2 : Array (Option Value)} {oc2 kV2 dc2 pm2 cd2 ct2 : Value}
    {f3 : Addr} {od3 an3 : Option Addr} {sl3 : Array (Option Value)} {oc3 kV3 dc3 pm3 cd3 ct3 : Value}
    {f4 : Addr} {od4 an4 : Option Addr} {sl4 : Array (Option Value)} {oc4 kV4 dc4 pm4 cd4 ct4 : Value}
    {f5 : Addr} {od5 an5 : Option Addr} {sl5 : Array (Option Value)} {oc5 kV5 dc5 pm5 cd5 ct5 : Value}
    {f6 : Addr} {od6 an6 : Option Addr} {sl6 : Array (Option Value)} {oc6 kV6 dc6 pm6 cd6 ct6 : Value}
    {f7 : Addr} {od7 an7 : Option Addr} {sl7 : Array (Option Value)} {oc7 kV7 dc7 pm7 cd7 ct7 : Value}
    {f8 : Addr} {od8 an8 : Option Addr} {sl8 : Array (Option Value)} {oc8 kV8 dc8 pm8 cd8 ct8 : Value}
    {f9 : Addr} {od9 an9 : Option Addr} {sl9 : Array (Option Value)} {oc9 kV9 dc9 pm9 cd9 ct9 : Value}
    {f10 : Addr} {od10 an10 : Option Addr} {sl10 : Array (Option Value)} {oc10 kV10 dc10 pm10 cd10 ct10 : Value}
    {f11 : Addr} {od11 an11 : Option Addr} {sl11 : Array (Option Value)} {oc11 kV11 dc11 pm11 cd11 ct11 : Value}
    {f12 : Addr} {od12 an12 : Option Addr} {sl12 : Array (Option Value)} {oc12 kV12 dc12 pm12 cd12 ct12 : Value}
    {f13 : Addr} {od13 an13 : Option Addr} {sl13 : Array (Option Value)} {oc13 kV13 dc13 pm13 cd13 ct13 : Value}
    {f14 : Addr} {od14 an14 : Option Addr} {sl14 : Array (Option Value)} {oc14 kV14 dc14 pm14 cd14 ct14 : Value}
    {f15 : Addr} {od15 an15 : Option Addr} {sl15 : Array (Option Value)} {oc15 kV15 dc15 pm15 cd15 ct15 : Value}
    {f16 : Addr} {od16 an16 : Option Addr} {sl16 : Array (Option Value)} {oc16 kV16 dc16 pm16 cd16 ct16 : Value}
    {f17 : Addr} {od17 an17 : Option Addr} {sl17 : Array (Option Value)} {oc17 kV17 dc17 pm17 cd17 ct17 : Value}
    {f18 : Addr} {od18 an18 : Option Addr} {sl18 : Array (Option Value)} {oc18 kV18 dc18 pm18 cd18 ct18 : Value}
    {f19 : Addr} {od19 an19 : Option Addr} {sl19 : Array (Option Value)} {oc19 kV19 dc19 pm19 cd19 ct19 : Value}
    {f20 : Addr} {od20 an20 : Option Addr} {sl20 : Array (Option Value)} {oc20 kV20 dc20 pm20 cd20 ct20 : Value}
    {f21 : Addr} {od21 an21 : Option Addr} {sl21 : Array (Option Value)} {oc21 kV21 dc21 pm21 cd21 ct21 : Value}
    {f22 : Addr} {od22 an22 : Option Addr} {sl22 : Array (Option Value)} {oc22 kV22 dc22 pm22 cd22 ct22 : Value}
    {f23 : Addr} {od23 an23 : Option Addr} {sl23 : Array (Option Value)} {oc23 kV23 dc23 pm23 cd23 ct23 : Value}
    {t13 : _}
    {C27 : Addr}
    {C28 : Addr}
    {C29 : Addr}
    {C30 : Addr}
    {Q0 : Addr}
    {Q1 : Addr}
    {Q2 : Addr}
    {Q3 : Addr}
    {Q4 : Addr}
    {Q5 : Addr}
    {Q6 : Addr}
    {Q7 : Addr}
    {Q8 : Addr}
    {Q9 : Addr}
    {Q10 : Addr}
    {Q11 : Addr}
    (nLines : PySem.W.nsIn K mainGlobals "Lines" = some (some (.ref YLines))) (pgLines : PySem.W.plainGet K YLines Str.empty = true) (hdLines : PySem.W.hasDictIn K YLines = true) (poLines : PySem.W.plainOver K YLines = true) (saLines : PySem.W.findIn K (.ref YLines) "__setattr__" = some (some (.builtin "object.__setattr__"))) (mkLines : PySem.W.makesIn K YLines = true) (kcLines : PySem.W.keepIn K (.ref YLines) = true)
    (naLines0 : PySem.W.findIn K (.ref YLines) "loader" = some none)
    (naLines1 : PySem.W.findIn K (.ref YLines) "seen" = some none)
    (naLines2 : PySem.W.findIn K (.ref YLines) "place" = some none)
    (naLines3 : PySem.W.findIn K (.ref YLines) "size" = some none)
    (naLines4 : PySem.W.findIn K (.ref YLines) "known" = some none)
    (naLines5 : PySem.W.findIn K (.ref YLines) "first" = some none)
    (a0 : PySem.W.nsIn K mainGlobals "is_whole" = some (some (.ref f0))) (l0 : K.lookup f0 = some ⟨oc0, od0, .func (PySem.W.fnOf "is_whole" "is_whole" (defArgs s_is_whole) (defBody s_is_whole) (defScope s_is_whole) .none kV0 dc0 pm0 an0 cd0 ct0), sl0⟩) (c0 : PySem.W.codeIn K cd0 "is_whole" = true) (k0 : PySem.W.keepIn K (.ref f0) = true)
    (a1 : PySem.W.nsIn K mainGlobals "next_of" = some (some (.ref f1))) (l1 : K.lookup f1 = some ⟨oc1, od1, .func (PySem.W.fnOf "next_of" "next_of" (defArgs s_next_of) (defBody s_next_of) (defScope s_next_of) .none kV1 dc1 pm1 an1 cd1 ct1), sl1⟩) (c1 : PySem.W.codeIn K cd1 "next_of" = true) (k1 : PySem.W.keepIn K (.ref f1) = true)
    (a2 : PySem.W.findIn K (.ref YLines) "__init__" = some (some (.ref f2))) (i2 : PySem.W.isFn K (.ref f2) = true) (l2 : K.lookup f2 = some ⟨oc2, od2, .func (PySem.W.fnOf "__init__" "Lines.__init__" (defArgs s_Lines_new) (defBody s_Lines_new) (defScope s_Lines_new) .none kV2 dc2 pm2 an2 cd2 ct2), sl2⟩) (c2 : PySem.W.codeIn K cd2 "Lines.__init__" = true) (k2 : PySem.W.keepIn K (.ref f2) = true)
    (a3 : PySem.W.findIn K (.ref YLines) "readings" = some (some (.ref f3))) (i3 : PySem.W.isFn K (.ref f3) = true) (l3 : K.lookup f3 = some ⟨oc3, od3, .func (PySem.W.fnOf "readings" "Lines.readings" (defArgs s_Lines_readings) (defBody s_Lines_readings) (defScope s_Lines_readings) .none kV3 dc3 pm3 an3 cd3 ct3), sl3⟩) (c3 : PySem.W.codeIn K cd3 "Lines.readings" = true) (k3 : PySem.W.keepIn K (.ref f3) = true)
    (a4 : PySem.W.nsIn K mainGlobals "_law_town" = some (some (.ref f4))) (l4 : K.lookup f4 = some ⟨oc4, od4, .func (PySem.W.fnOf "_law_town" "_law_town" (defArgs s_law_town) (defBody s_law_town) (defScope s_law_town) .none kV4 dc4 pm4 an4 cd4 ct4), sl4⟩) (c4 : PySem.W.codeIn K cd4 "_law_town" = true) (k4 : PySem.W.keepIn K (.ref f4) = true)
    (a5 : PySem.W.nsIn K mainGlobals "_law_draw" = some (some (.ref f5))) (l5 : K.lookup f5 = some ⟨oc5, od5, .func (PySem.W.fnOf "_law_draw" "_law_draw" (defArgs s_law_draw) (defBody s_law_draw) (defScope s_law_draw) .none kV5 dc5 pm5 an5 cd5 ct5), sl5⟩) (c5 : PySem.W.codeIn K cd5 "_law_draw" = true) (k5 : PySem.W.keepIn K (.ref f5) = true)
    (a6 : PySem.W.nsIn K mainGlobals "_law_word" = some (some (.ref f6))) (l6 : K.lookup f6 = some ⟨oc6, od6, .func (PySem.W.fnOf "_law_word" "_law_word" (defArgs s_law_word) (defBody s_law_word) (defScope s_law_word) .none kV6 dc6 pm6 an6 cd6 ct6), sl6⟩) (c6 : PySem.W.codeIn K cd6 "_law_word" = true) (k6 : PySem.W.keepIn K (.ref f6) = true)
    (a7 : PySem.W.nsIn K mainGlobals "_law_refused" = some (some (.ref f7))) (l7 : K.lookup f7 = some ⟨oc7, od7, .func (PySem.W.fnOf "_law_refused" "_law_refused" (defArgs s_law_refused) (defBody s_law_refused) (defScope s_law_refused) .none kV7 dc7 pm7 an7 cd7 ct7), sl7⟩) (c7 : PySem.W.codeIn K cd7 "_law_refused" = true) (k7 : PySem.W.keepIn K (.ref f7) = true)
    (a8 : PySem.W.nsIn K mainGlobals "is_loader" = some (some (.ref f8))) (l8 : K.lookup f8 = some ⟨oc8, od8, .func (PySem.W.fnOf "is_loader" "is_loader" (defArgs s_is_loader) (defBody s_is_loader) (defScope s_is_loader) .none kV8 dc8 pm8 an8 cd8 ct8), sl8⟩) (c8 : PySem.W.codeIn K cd8 "is_loader" = true) (k8 : PySem.W.keepIn K (.ref f8) = true)
    (a9 : PySem.W.nsIn K mainGlobals "is_seat_row" = some (some (.ref f9))) (l9 : K.lookup f9 = some ⟨oc9, od9, .func (PySem.W.fnOf "is_seat_row" "is_seat_row" (defArgs s_is_seat_row) (defBody s_is_seat_row) (defScope s_is_seat_row) .none kV9 dc9 pm9 an9 cd9 ct9), sl9⟩) (c9 : PySem.W.codeIn K cd9 "is_seat_row" = true) (k9 : PySem.W.keepIn K (.ref f9) = true)
    (a10 : PySem.W.findIn K (.ref YLines) "walked" = some (some (.ref f10))) (i10 : PySem.W.isFn K (.ref f10) = true) (l10 : K.lookup f10 = some ⟨oc10, od10, .func (PySem.W.fnOf "walked" "Lines.walked" (defArgs s_Lines_walked) (defBody s_Lines_walked) (defScope s_Lines_walked) .none kV10 dc10 pm10 an10 cd10 ct10), sl10⟩) (c10 : PySem.W.codeIn K cd10 "Lines.walked" = true) (k10 : PySem.W.keepIn K (.ref f10) = true)
    (a11 : PySem.W.nsIn K mainGlobals "look_loader" = some (some (.ref f11))) (l11 : K.lookup f11 = some ⟨oc11, od11, .func (PySem.W.fnOf "look_loader" "look_loader" (defArgs s_look_loader) (defBody s_look_loader) (defScope s_look_loader) .none kV11 dc11 pm11 an11 cd11 ct11), sl11⟩) (c11 : PySem.W.codeIn K cd11 "look_loader" = true) (k11 : PySem.W.keepIn K (.ref f11) = true)
    (a12 : PySem.W.nsIn K mainGlobals "lines_of" = some (some (.ref f12))) (l12 : K.lookup f12 = some ⟨oc12, od12, .func (PySem.W.fnOf "lines_of" "lines_of" (defArgs s_lines_of) (defBody s_lines_of) (defScope s_lines_of) .none kV12 dc12 pm12 an12 cd12 ct12), sl12⟩) (c12 : PySem.W.codeIn K cd12 "lines_of" = true) (k12 : PySem.W.keepIn K (.ref f12) = true)
    (a13 : PySem.W.nsIn K mainGlobals "look_seen" = some (some (.ref f13))) (l13 : K.lookup f13 = some ⟨oc13, od13, .func (PySem.W.fnOf "look_seen" "look_seen" (defArgs s_look_seen) (defBody s_look_seen) (defScope s_look_seen) .none kV13 dc13 pm13 an13 cd13 ct13), sl13⟩) (c13 : PySem.W.codeIn K cd13 "look_seen" = true) (k13 : PySem.W.keepIn K (.ref f13) = true)
    (a14 : PySem.W.findIn K (.ref YLines) "count" = some (some (.ref f14))) (i14 : PySem.W.isFn K (.ref f14) = true) (l14 : K.lookup f14 = some ⟨oc14, od14, .func (PySem.W.fnOf "count" "Lines.count" (defArgs s_Lines_count) (defBody s_Lines_count) (defScope s_Lines_count) .none kV14 dc14 pm14 an14 cd14 ct14), sl14⟩) (c14 : PySem.W.codeIn K cd14 "Lines.count" = true) (k14 : PySem.W.keepIn K (.ref f14) = true)
    (a15 : PySem.W.findIn K (.ref YLines) "least" = some (some (.ref f15))) (i15 : PySem.W.isFn K (.ref f15) = true) (l15 : K.lookup f15 = some ⟨oc15, od15, .func (PySem.W.fnOf "least" "Lines.least" (defArgs s_Lines_least) (defBody s_Lines_least) (defScope s_Lines_least) .none kV15 dc15 pm15 an15 cd15 ct15), sl15⟩) (c15 : PySem.W.codeIn K cd15 "Lines.least" = true) (k15 : PySem.W.keepIn K (.ref f15) = true)
    (a16 : PySem.W.nsIn K mainGlobals "how_many_lines" = some (some (.ref f16))) (l16 : K.lookup f16 = some ⟨oc16, od16, .func (PySem.W.fnOf "how_many_lines" "how_many_lines" (defArgs s_how_many_lines) (defBody s_how_many_lines) (defScope s_how_many_lines) .none kV16 dc16 pm16 an16 cd16 ct16), sl16⟩) (c16 : PySem.W.codeIn K cd16 "how_many_lines" = true) (k16 : PySem.W.keepIn K (.ref f16) = true)
    (a17 : PySem.W.nsIn K mainGlobals "sizes_at" = some (some (.ref f17))) (l17 : K.lookup f17 = some ⟨oc17, od17, .func (PySem.W.fnOf "sizes_at" "sizes_at" (defArgs s_sizes_at) (defBody s_sizes_at) (defScope s_sizes_at) .none kV17 dc17 pm17 an17 cd17 ct17), sl17⟩) (c17 : PySem.W.codeIn K cd17 "sizes_at" = true) (k17 : PySem.W.keepIn K (.ref f17) = true)
    (a18 : PySem.W.nsIn K mainGlobals "first_line" = some (some (.ref f18))) (l18 : K.lookup f18 = some ⟨oc18, od18, .func (PySem.W.fnOf "first_line" "first_line" (defArgs s_first_line) (defBody s_first_line) (defScope s_first_line) .none kV18 dc18 pm18 an18 cd18 ct18), sl18⟩) (c18 : PySem.W.codeIn K cd18 "first_line" = true) (k18 : PySem.W.keepIn K (.ref f18) = true)
    (a19 : PySem.W.findIn K (.ref YLines) "lines" = some (some (.ref f19))) (i19 : PySem.W.isFn K (.ref f19) = true) (l19 : K.lookup f19 = some ⟨oc19, od19, .func (PySem.W.fnOf "lines" "Lines.lines" (defArgs s_Lines_lines) (defBody s_Lines_lines) (defScope s_Lines_lines) .none kV19 dc19 pm19 an19 cd19 ct19), sl19⟩) (c19 : PySem.W.codeIn K cd19 "Lines.lines" = true) (k19 : PySem.W.keepIn K (.ref f19) = true)
    (a20 : PySem.W.nsIn K mainGlobals "all_lines" = some (some (.ref f20))) (l20 : K.lookup f20 = some ⟨oc20, od20, .func (PySem.W.fnOf "all_lines" "all_lines" (defArgs s_all_lines) (defBody s_all_lines) (defScope s_all_lines) .none kV20 dc20 pm20 an20 cd20 ct20), sl20⟩) (c20 : PySem.W.codeIn K cd20 "all_lines" = true) (k20 : PySem.W.keepIn K (.ref f20) = true)
    (a21 : PySem.W.nsIn K mainGlobals "_law_one" = some (some (.ref f21))) (l21 : K.lookup f21 = some ⟨oc21, od21, .func (PySem.W.fnOf "_law_one" "_law_one" (defArgs s_law_one) (defBody s_law_one) (defScope s_law_one) .none kV21 dc21 pm21 an21 cd21 ct21), sl21⟩) (c21 : PySem.W.codeIn K cd21 "_law_one" = true) (k21 : PySem.W.keepIn K (.ref f21) = true)
    (a22 : PySem.W.nsIn K mainGlobals "_law_told" = some (some (.ref f22))) (l22 : K.lookup f22 = some ⟨oc22, od22, .func (PySem.W.fnOf "_law_told" "_law_told" (defArgs s_law_told) (defBody s_law_told) (defScope s_law_told) .none kV22 dc22 pm22 an22 cd22 ct22), sl22⟩) (c22 : PySem.W.codeIn K cd22 "_law_told" = true) (k22 : PySem.W.keepIn K (.ref f22) = true)
    (a23 : PySem.W.nsIn K mainGlobals "law" = some (some (.ref f23))) (l23 : K.lookup f23 = some ⟨oc23, od23, .func (PySem.W.fnOf "law" "law" (defArgs s_law) (defBody s_law) (defScope s_law) .none kV23 dc23 pm23 an23 cd23 ct23), sl23⟩) (c23 : PySem.W.codeIn K cd23 "law" = true) (k23 : PySem.W.keepIn K (.ref f23) = true)
    (z0 : PySem.W.nsIn K mainGlobals "ValueError" = some none)
    (z1 : PySem.W.nsIn K mainGlobals "all" = some none)
    (z2 : PySem.W.nsIn K mainGlobals "bool" = some none)
    (z3 : PySem.W.nsIn K mainGlobals "enumerate" = some none)
    (z4 : PySem.W.nsIn K mainGlobals "int" = some none)
    (z5 : PySem.W.nsIn K mainGlobals "isinstance" = some none)
    (z6 : PySem.W.nsIn K mainGlobals "len" = some none)
    (z7 : PySem.W.nsIn K mainGlobals "list" = some none)
    (z8 : PySem.W.nsIn K mainGlobals "range" = some none)
    (z9 : PySem.W.nsIn K mainGlobals "sorted" = some none)
    (z10 : PySem.W.nsIn K mainGlobals "sum" = some none)
    (z11 : PySem.W.nsIn K mainGlobals "tuple" = some none)
    (z12 : PySem.W.nsIn K mainGlobals "zip" = some none)
    (z13 : PySem.W.nsIn K mainGlobals "MOST" = some (some (.int 300 t13)))
    (z27 : PySem.W.nsIn K mainGlobals "BadLoader" = some (some (.ref C27))) (x27 : PySem.W.excIn K C27 veMro "ValueError.__new__" = true) (y27 : PySem.W.keepIn K (.ref C27) = true) (b27 : PySem.W.subIn K (.ref C27) (.type "BaseException") = some true) (t27 : PySem.W.typeIn K (.ref C27) = some (.type "type"))
    (z28 : PySem.W.nsIn K mainGlobals "BadPlace" = some (some (.ref C28))) (x28 : PySem.W.excIn K C28 veMro "ValueError.__new__" = true) (y28 : PySem.W.keepIn K (.ref C28) = true) (b28 : PySem.W.subIn K (.ref C28) (.type "BaseException") = some true) (t28 : PySem.W.typeIn K (.ref C28) = some (.type "type"))
    (z29 : PySem.W.nsIn K mainGlobals "BadSeen" = some (some (.ref C29))) (x29 : PySem.W.excIn K C29 veMro "ValueError.__new__" = true) (y29 : PySem.W.keepIn K (.ref C29) = true) (b29 : PySem.W.subIn K (.ref C29) (.type "BaseException") = some true) (t29 : PySem.W.typeIn K (.ref C29) = some (.type "type"))
    (z30 : PySem.W.nsIn K mainGlobals "Full" = some (some (.ref C30))) (x30 : PySem.W.excIn K C30 veMro "ValueError.__new__" = true) (y30 : PySem.W.keepIn K (.ref C30) = true) (b30 : PySem.W.subIn K (.ref C30) (.type "BaseException") = some true) (t30 : PySem.W.typeIn K (.ref C30) = some (.type "type"))
    (nQ0 : PySem.W.nsIn K mainGlobals "BadLoader" = some (some (.ref Q0)))
    (tQ0 : PySem.W.typeIn K (.ref Q0) = some (.type "type")) (dQ0 : PySem.W.hasDictIn K Q0 = true)
    (bQ0 : PySem.W.subIn K (.ref Q0) (.type "BaseException") = some true)
    (gQ0 : PySem.W.findIn K (.ref Q0) "__getattribute__" = some (some (.builtin "BaseException.__getattribute__"))) (hQ0 : PySem.W.findIn K (.ref Q0) "__getattr__" = some none) (cQ0 : PySem.W.findIn K (.ref Q0) "__class__" = some (some (.builtin "object.__class__"))) (mQ0 : PySem.W.mroIn K Q0 (.type "object") = some true) (vQ0 : PySem.W.subIn K (.ref Q0) (.type "ValueError") = some true)
    (nQ1 : PySem.W.nsIn K mainGlobals "BadPlace" = some (some (.ref Q1)))
    (tQ1 : PySem.W.typeIn K (.ref Q1) = some (.type "type")) (dQ1 : PySem.W.hasDictIn K Q1 = true)
    (bQ1 : PySem.W.subIn K (.ref Q1) (.type "BaseException") = some true)
    (gQ1 : PySem.W.findIn K (.ref Q1) "__getattribute__" = some (some (.builtin "BaseException.__getattribute__"))) (hQ1 : PySem.W.findIn K (.ref Q1) "__getattr__" = some none) (cQ1 : PySem.W.findIn K (.ref Q1) "__class__" = some (some (.builtin "object.__class__"))) (mQ1 : PySem.W.mroIn K Q1 (.type "object") = some true) (vQ1 : PySem.W.subIn K (.ref Q1) (.type "ValueError") = some true)
    (nQ2 : PySem.W.nsIn K mainGlobals "BadSeen" = some (some (.ref Q2)))
    (tQ2 : PySem.W.typeIn K (.ref Q2) = some (.type "type")) (dQ2 : PySem.W.hasDictIn K Q2 = true)
    (bQ2 : PySem.W.subIn K (.ref Q2) (.type "BaseException") = some true)
    (gQ2 : PySem.W.findIn K (.ref Q2) "__getattribute__" = some (some (.builtin "BaseException.__getattribute__"))) (hQ2 : PySem.W.findIn K (.ref Q2) "__getattr__" = some none) (cQ2 : PySem.W.findIn K (.ref Q2) "__class__" = some (some (.builtin "object.__class__"))) (mQ2 : PySem.W.mroIn K Q2 (.type "object") = some true) (vQ2 : PySem.W.subIn K (.ref Q2) (.type "ValueError") = some true)
    (nQ3 : PySem.W.nsIn K mainGlobals "Full" = some (some (.ref Q3)))
    (tQ3 : PySem.W.typeIn K (.ref Q3) = some (.type "type")) (dQ3 : PySem.W.hasDictIn K Q3 = true)
    (bQ3 : PySem.W.subIn K (.ref Q3) (.type "BaseException") = some true)
    (gQ3 : PySem.W.findIn K (.ref Q3) "__getattribute__" = some (some (.builtin "BaseException.__getattribute__"))) (hQ3 : PySem.W.findIn K (.ref Q3) "__getattr__" = some none) (cQ3 : PySem.W.findIn K (.ref Q3) "__class__" = some (some (.builtin "object.__class__"))) (mQ3 : PySem.W.mroIn K Q3 (.type "object") = some true) (vQ3 : PySem.W.subIn K (.ref Q3) (.type "ValueError") = some true)
    (nQ4 : PySem.W.nsIn K mainGlobals "BadLine" = some (some (.ref Q4)))
    (tQ4 : PySem.W.typeIn K (.ref Q4) = some (.type "type")) (dQ4 : PySem.W.hasDictIn K Q4 = true)
    (nQ5 : PySem.W.nsIn K mainGlobals "BadNumber" = some (some (.ref Q5)))
    (tQ5 : PySem.W.typeIn K (.ref Q5) = some (.type "type")) (dQ5 : PySem.W.hasDictIn K Q5 = true)
    (nQ6 : PySem.W.nsIn K mainGlobals "BadLoading" = some (some (.ref Q6)))
    (tQ6 : PySem.W.typeIn K (.ref Q6) = some (.type "type")) (dQ6 : PySem.W.hasDictIn K Q6 = true)
    (nQ7 : PySem.W.nsIn K mainGlobals "BadWeights" = some (some (.ref Q7)))
    (tQ7 : PySem.W.typeIn K (.ref Q7) = some (.type "type")) (dQ7 : PySem.W.hasDictIn K Q7 = true)
    (nQ8 : PySem.W.nsIn K mainGlobals "BadDay" = some (some (.ref Q8)))
    (tQ8 : PySem.W.typeIn K (.ref Q8) = some (.type "type")) (dQ8 : PySem.W.hasDictIn K Q8 = true)
    (nQ9 : PySem.W.nsIn K mainGlobals "NoBack" = some (some (.ref Q9)))
    (tQ9 : PySem.W.typeIn K (.ref Q9) = some (.type "type")) (dQ9 : PySem.W.hasDictIn K Q9 = true)
    (nQ10 : PySem.W.nsIn K mainGlobals "BadText" = some (some (.ref Q10)))
    (tQ10 : PySem.W.typeIn K (.ref Q10) = some (.type "type")) (dQ10 : PySem.W.hasDictIn K Q10 = true)
    (nQ11 : PySem.W.nsIn K mainGlobals "ChairError" = some (some (.ref Q11)))
    (tQ11 : PySem.W.typeIn K (.ref Q11) = some (.type "type")) (dQ11 : PySem.W.hasDictIn K Q11 = true)
    (bQ11 : PySem.W.subIn K (.ref Q11) (.type "BaseException") = some true)
    (hgc : PySem.W.specialIn K (.builtin "object.__class__") "__get__" = some (some (.builtin "getset_descriptor.__get__"))) (htc : PySem.W.takesIn K (.builtin "object.__class__") = some true)
    (sQ0Q4 : PySem.W.subIn K (.ref Q0) (.ref Q4) = some false) (eQ0Q4 : (Value.ref Q0 == Value.ref Q4) = false)
    (sQ0Q5 : PySem.W.subIn K (.ref Q0) (.ref Q5) = some false) (eQ0Q5 : (Value.ref Q0 == Value.ref Q5) = false)
    (sQ0Q1 : PySem.W.subIn K (.ref Q0) (.ref Q1) = some false) (eQ0Q1 : (Value.ref Q0 == Value.ref Q1) = false)
    (sQ0Q6 : PySem.W.subIn K (.ref Q0) (.ref Q6) = some false) (eQ0Q6 : (Value.ref Q0 == Value.ref Q6) = false)
    (sQ0Q7 : PySem.W.subIn K (.ref Q0) (.ref Q7) = some false) (eQ0Q7 : (Value.ref Q0 == Value.ref Q7) = false)
    (sQ0Q8 : PySem.W.subIn K (.ref Q0) (.ref Q8) = some false) (eQ0Q8 : (Value.ref Q0 == Value.ref Q8) = false)
    (sQ0Q2 : PySem.W.subIn K (.ref Q0) (.ref Q2) = some false) (eQ0Q2 : (Value.ref Q0 == Value.ref Q2) = false)
    (sQ0Q3 : PySem.W.subIn K (.ref Q0) (.ref Q3) = some false) (eQ0Q3 : (Value.ref Q0 == Value.ref Q3) = false)
    (sQ0Q9 : PySem.W.subIn K (.ref Q0) (.ref Q9) = some false) (eQ0Q9 : (Value.ref Q0 == Value.ref Q9) = false)
    (sQ0Q10 : PySem.W.subIn K (.ref Q0) (.ref Q10) = some false) (eQ0Q10 : (Value.ref Q0 == Value.ref Q10) = false)
    (sQ1Q0 : PySem.W.subIn K (.ref Q1) (.ref Q0) = some false) (eQ1Q0 : (Value.ref Q1 == Value.ref Q0) = false)
    (sQ1Q4 : PySem.W.subIn K (.ref Q1) (.ref Q4) = some false) (eQ1Q4 : (Value.ref Q1 == Value.ref Q4) = false)
    (sQ1Q5 : PySem.W.subIn K (.ref Q1) (.ref Q5) = some false) (eQ1Q5 : (Value.ref Q1 == Value.ref Q5) = false)
    (sQ1Q6 : PySem.W.subIn K (.ref Q1) (.ref Q6) = some false) (eQ1Q6 : (Value.ref Q1 == Value.ref Q6) = false)
    (sQ1Q7 : PySem.W.subIn K (.ref Q1) (.ref Q7) = some false) (eQ1Q7 : (Value.ref Q1 == Value.ref Q7) = false)
    (sQ1Q8 : PySem.W.subIn K (.ref Q1) (.ref Q8) = some false) (eQ1Q8 : (Value.ref Q1 == Value.ref Q8) = false)
    (sQ1Q2 : PySem.W.subIn K (.ref Q1) (.ref Q2) = some false) (eQ1Q2 : (Value.ref Q1 == Value.ref Q2) = false)
    (sQ1Q3 : PySem.W.subIn K (.ref Q1) (.ref Q3) = some false) (eQ1Q3 : (Value.ref Q1 == Value.ref Q3) = false)
    (sQ1Q9 : PySem.W.subIn K (.ref Q1) (.ref Q9) = some false) (eQ1Q9 : (Value.ref Q1 == Value.ref Q9) = false)
    (sQ1Q10 : PySem.W.subIn K (.ref Q1) (.ref Q10) = some false) (eQ1Q10 : (Value.ref Q1 == Value.ref Q10) = false)
    (sQ2Q0 : PySem.W.subIn K (.ref Q2) (.ref Q0) = some false) (eQ2Q0 : (Value.ref Q2 == Value.ref Q0) = false)
    (sQ2Q4 : PySem.W.subIn K (.ref Q2) (.ref Q4) = some false) (eQ2Q4 : (Value.ref Q2 == Value.ref Q4) = false)
    (sQ2Q5 : PySem.W.subIn K (.ref Q2) (.ref Q5) = some false) (eQ2Q5 : (Value.ref Q2 == Value.ref Q5) = false)
    (sQ2Q1 : PySem.W.subIn K (.ref Q2) (.ref Q1) = some false) (eQ2Q1 : (Value.ref Q2 == Value.ref Q1) = false)
    (sQ2Q6 : PySem.W.subIn K (.ref Q2) (.ref Q6) = some false) (eQ2Q6 : (Value.ref Q2 == Value.ref Q6) = false)
    (sQ2Q7 : PySem.W.subIn K (.ref Q2) (.ref Q7) = some false) (eQ2Q7 : (Value.ref Q2 == Value.ref Q7) = false)
    (sQ2Q8 : PySem.W.subIn K (.ref Q2) (.ref Q8) = some false) (eQ2Q8 : (Value.ref Q2 == Value.ref Q8) = false)
    (sQ2Q3 : PySem.W.subIn K (.ref Q2) (.ref Q3) = some false) (eQ2Q3 : (Value.ref Q2 == Value.ref Q3) = false)
    (sQ2Q9 : PySem.W.subIn K (.ref Q2) (.ref Q9) = some false) (eQ2Q9 : (Value.ref Q2 == Value.ref Q9) = false)
    (sQ2Q10 : PySem.W.subIn K (.ref Q2) (.ref Q10) = some false) (eQ2Q10 : (Value.ref Q2 == Value.ref Q10) = false)
    (sQ3Q0 : PySem.W.subIn K (.ref Q3) (.ref Q0) = some false) (eQ3Q0 : (Value.ref Q3 == Value.ref Q0) = false)
    (sQ3Q4 : PySem.W.subIn K (.ref Q3) (.ref Q4) = some false) (eQ3Q4 : (Value.ref Q3 == Value.ref Q4) = false)
    (sQ3Q5 : PySem.W.subIn K (.ref Q3) (.ref Q5) = some false) (eQ3Q5 : (Value.ref Q3 == Value.ref Q5) = false)
    (sQ3Q1 : PySem.W.subIn K (.ref Q3) (.ref Q1) = some false) (eQ3Q1 : (Value.ref Q3 == Value.ref Q1) = false)
    (sQ3Q6 : PySem.W.subIn K (.ref Q3) (.ref Q6) = some false) (eQ3Q6 : (Value.ref Q3 == Value.ref Q6) = false)
    (sQ3Q7 : PySem.W.subIn K (.ref Q3) (.ref Q7) = some false) (eQ3Q7 : (Value.ref Q3 == Value.ref Q7) = false)
    (sQ3Q8 : PySem.W.subIn K (.ref Q3) (.ref Q8) = some false) (eQ3Q8 : (Value.ref Q3 == Value.ref Q8) = false)
    (sQ3Q2 : PySem.W.subIn K (.ref Q3) (.ref Q2) = some false) (eQ3Q2 : (Value.ref Q3 == Value.ref Q2) = false)
    (sQ3Q9 : PySem.W.subIn K (.ref Q3) (.ref Q9) = some false) (eQ3Q9 : (Value.ref Q3 == Value.ref Q9) = false)
    (sQ3Q10 : PySem.W.subIn K (.ref Q3) (.ref Q10) = some false) (eQ3Q10 : (Value.ref Q3 == Value.ref Q10) = false)
    (sQ0Q11 : PySem.W.subIn K (.ref Q0) (.ref Q11) = some true)
    (sQ1Q11 : PySem.W.subIn K (.ref Q1) (.ref Q11) = some true)
    (sQ2Q11 : PySem.W.subIn K (.ref Q2) (.ref Q11) = some true)
    (sQ3Q11 : PySem.W.subIn K (.ref Q3) (.ref Q11) = some true) :
    ∃ fd : FuncData, (∀ (s : Shared) (v : Value), BindsTo s fd ⟨[v], []⟩ [("script", v)]) ∧ ∀ base : Heap, K.In base → base.Ns mainGlobals mg → FnOk l.prog w K mg base CX0 32 fa fd ["script"] (spLaw K) := by
  have e := hfa.symm.trans (PySem.W.mg_of X G a23)
  cases e
  have k_Lines : ClsF K "Lines" ns_Lines := ⟨YLines, nLines, ⟨pgLines, hdLines, poLines, saLines⟩, fun f hf => by
    simp only [ns_Lines, List.mem_cons, List.not_mem_nil, or_false] at hf
    rcases hf with rfl | rfl | rfl | rfl | rfl | rfl
    · exact naLines0
    · exact naLines1
    · exact naLines2
    · exact naLines3
    · exact naLines4
    · exact naLines5⟩
  have cat_ChairError : CatTab K mg "ChairError" raisedL := ⟨Q11, PySem.W.mg_of X G nQ11, fun c hc => by
    simp only [raisedL, List.mem_cons, List.not_mem_nil, or_false] at hc
    rcases hc with rfl | rfl | rfl | rfl
    · exact ⟨Q0, nQ0, PySem.W.mg_of X G nQ0, PySem.W.exm_ref bQ11 dQ11 tQ11 sQ0Q11⟩
    · exact ⟨Q1, nQ1, PySem.W.mg_of X G nQ1, PySem.W.exm_ref bQ11 dQ11 tQ11 sQ1Q11⟩
    · exact ⟨Q2, nQ2, PySem.W.mg_of X G nQ2, PySem.W.exm_ref bQ11 dQ11 tQ11 sQ2Q11⟩
    · exact ⟨Q3, nQ3, PySem.W.mg_of X G nQ3, PySem.W.exm_ref bQ11 dQ11 tQ11 sQ3Q11⟩⟩
  have tab : ExcTab K raisedL testedL := by
    refine ⟨fun c hc C hns => ?_, fun c hc d hd C D hns hnd => ?_⟩
    · simp only [raisedL, List.mem_cons, List.not_mem_nil, or_false] at hc
      rcases hc with rfl | rfl | rfl | rfl
      · cases hns.symm.trans nQ0
        exact ⟨⟨gQ0, hQ0, bQ0, dQ0, cQ0, hgc, htc, mQ0⟩, kit_ve vQ0⟩
      · cases hns.symm.trans nQ1
        exact ⟨⟨gQ1, hQ1, bQ1, dQ1, cQ1, hgc, htc, mQ1⟩, kit_ve vQ1⟩
      · cases hns.symm.trans nQ2
        exact ⟨⟨gQ2, hQ2, bQ2, dQ2, cQ2, hgc, htc, mQ2⟩, kit_ve vQ2⟩
      · cases hns.symm.trans nQ3
        exact ⟨⟨gQ3, hQ3, bQ3, dQ3, cQ3, hgc, htc, mQ3⟩, kit_ve vQ3⟩
    · simp only [raisedL, testedL, List.mem_cons, List.not_mem_nil, or_false] at hc hd
      rcases hc with rfl | rfl | rfl | rfl
      · cases hns.symm.trans nQ0
        rcases hd with rfl | rfl | rfl | rfl | rfl | rfl | rfl | rfl | rfl | rfl | rfl
        · cases hnd.symm.trans nQ0
          exact kit_same
        · cases hnd.symm.trans nQ4
          exact kit_other eQ0Q4 dQ4 tQ4 sQ0Q4
        · cases hnd.symm.trans nQ5
          exact kit_other eQ0Q5 dQ5 tQ5 sQ0Q5
        · cases hnd.symm.trans nQ1
          exact kit_other eQ0Q1 dQ1 tQ1 sQ0Q1
        · cases hnd.symm.trans nQ6
          exact kit_other eQ0Q6 dQ6 tQ6 sQ0Q6
        · cases hnd.symm.trans nQ7
          exact kit_other eQ0Q7 dQ7 tQ7 sQ0Q7
        · cases hnd.symm.trans nQ8
          exact kit_other eQ0Q8 dQ8 tQ8 sQ0Q8
        · cases hnd.symm.trans nQ2
          exact kit_other eQ0Q2 dQ2 tQ2 sQ0Q2
        · cases hnd.symm.trans nQ3
          exact kit_other eQ0Q3 dQ3 tQ3 sQ0Q3
        · cases hnd.symm.trans nQ9
          exact kit_other eQ0Q9 dQ9 tQ9 sQ0Q9
        · cases hnd.symm.trans nQ10
          exact kit_other eQ0Q10 dQ10 tQ10 sQ0Q10
      · cases hns.symm.trans nQ1
        rcases hd with rfl | rfl | rfl | rfl | rfl | rfl | rfl | rfl | rfl | rfl | rfl
        · cases hnd.symm.trans nQ0
          exact kit_other eQ1Q0 dQ0 tQ0 sQ1Q0
        · cases hnd.symm.trans nQ4
          exact kit_other eQ1Q4 dQ4 tQ4 sQ1Q4
        · cases hnd.symm.trans nQ5
          exact kit_other eQ1Q5 dQ5 tQ5 sQ1Q5
        · cases hnd.symm.trans nQ1
          exact kit_same
        · cases hnd.symm.trans nQ6
          exact kit_other eQ1Q6 dQ6 tQ6 sQ1Q6
        · cases hnd.symm.trans nQ7
          exact kit_other eQ1Q7 dQ7 tQ7 sQ1Q7
        · cases hnd.symm.trans nQ8
          exact kit_other eQ1Q8 dQ8 tQ8 sQ1Q8
        · cases hnd.symm.trans nQ2
          exact kit_other eQ1Q2 dQ2 tQ2 sQ1Q2
        · cases hnd.symm.trans nQ3
          exact kit_other eQ1Q3 dQ3 tQ3 sQ1Q3
        · cases hnd.symm.trans nQ9
          exact kit_other eQ1Q9 dQ9 tQ9 sQ1Q9
        · cases hnd.symm.trans nQ10
          exact kit_other eQ1Q10 dQ10 tQ10 sQ1Q10
      · cases hns.symm.trans nQ2
        rcases hd with rfl | rfl | rfl | rfl | rfl | rfl | rfl | rfl | rfl | rfl | rfl
        · cases hnd.symm.trans nQ0
          exact kit_other eQ2Q0 dQ0 tQ0 sQ2Q0
        · cases hnd.symm.trans nQ4
          exact kit_other eQ2Q4 dQ4 tQ4 sQ2Q4
        · cases hnd.symm.trans nQ5
          exact kit_other eQ2Q5 dQ5 tQ5 sQ2Q5
        · cases hnd.symm.trans nQ1
          exact kit_other eQ2Q1 dQ1 tQ1 sQ2Q1
        · cases hnd.symm.trans nQ6
          exact kit_other eQ2Q6 dQ6 tQ6 sQ2Q6
        · cases hnd.symm.trans nQ7
          exact kit_other eQ2Q7 dQ7 tQ7 sQ2Q7
        · cases hnd.symm.trans nQ8
          exact kit_other eQ2Q8 dQ8 tQ8 sQ2Q8
        · cases hnd.symm.trans nQ2
          exact kit_same
        · cases hnd.symm.trans nQ3
          exact kit_other eQ2Q3 dQ3 tQ3 sQ2Q3
        · cases hnd.symm.trans nQ9
          exact kit_other eQ2Q9 dQ9 tQ9 sQ2Q9
        · cases hnd.symm.trans nQ10
          exact kit_other eQ2Q10 dQ10 tQ10 sQ2Q10
      · cases hns.symm.trans nQ3
        rcases hd with rfl | rfl | rfl | rfl | rfl | rfl | rfl | rfl | rfl | rfl | rfl
        · cases hnd.symm.trans nQ0
          exact kit_other eQ3Q0 dQ0 tQ0 sQ3Q0
        · cases hnd.symm.trans nQ4
          exact kit_other eQ3Q4 dQ4 tQ4 sQ3Q4
        · cases hnd.symm.trans nQ5
          exact kit_other eQ3Q5 dQ5 tQ5 sQ3Q5
        · cases hnd.symm.trans nQ1
          exact kit_other eQ3Q1 dQ1 tQ1 sQ3Q1
        · cases hnd.symm.trans nQ6
          exact kit_other eQ3Q6 dQ6 tQ6 sQ3Q6
        · cases hnd.symm.trans nQ7
          exact kit_other eQ3Q7 dQ7 tQ7 sQ3Q7
        · cases hnd.symm.trans nQ8
          exact kit_other eQ3Q8 dQ8 tQ8 sQ3Q8
        · cases hnd.symm.trans nQ2
          exact kit_other eQ3Q2 dQ2 tQ2 sQ3Q2
        · cases hnd.symm.trans nQ3
          exact kit_same
        · cases hnd.symm.trans nQ9
          exact kit_other eQ3Q9 dQ9 tQ9 sQ3Q9
        · cases hnd.symm.trans nQ10
          exact kit_other eQ3Q10 dQ10 tQ10 sQ3Q10
  have T : Facts K mg := { b_ValueError := PySem.W.mg_none_of X G z0, b_all := PySem.W.mg_none_of X G z1, b_bool := PySem.W.mg_none_of X G z2, b_enumerate := PySem.W.mg_none_of X G z3, b_int := PySem.W.mg_none_of X G z4, b_isinstance := PySem.W.mg_none_of X G z5, b_len := PySem.W.mg_none_of X G z6, b_list := PySem.W.mg_none_of X G z7, b_range := PySem.W.mg_none_of X G z8, b_sorted := PySem.W.mg_none_of X G z9, b_sum := PySem.W.mg_none_of X G z10, b_tuple := PySem.W.mg_none_of X G z11, b_zip := PySem.W.mg_none_of X G z12, c_MOST := ⟨_, PySem.W.mg_of X G z13⟩, e_BadLoader := ⟨C27, PySem.W.mg_of X G z27, x27, y27, b27, t27⟩, e_BadPlace := ⟨C28, PySem.W.mg_of X G z28, x28, y28, b28, t28⟩, e_BadSeen := ⟨C29, PySem.W.mg_of X G z29, x29, y29, b29, t29⟩, e_Full := ⟨C30, PySem.W.mg_of X G z30, x30, y30, b30, t30⟩, k_Lines := k_Lines, n_BadDay := ⟨Q8, PySem.W.mg_of X G nQ8, nQ8⟩, n_BadLine := ⟨Q4, PySem.W.mg_of X G nQ4, nQ4⟩, n_BadLoader := ⟨Q0, PySem.W.mg_of X G nQ0, nQ0⟩, n_BadLoading := ⟨Q6, PySem.W.mg_of X G nQ6, nQ6⟩, n_BadNumber := ⟨Q5, PySem.W.mg_of X G nQ5, nQ5⟩, n_BadPlace := ⟨Q1, PySem.W.mg_of X G nQ1, nQ1⟩, n_BadSeen := ⟨Q2, PySem.W.mg_of X G nQ2, nQ2⟩, n_BadText := ⟨Q10, PySem.W.mg_of X G nQ10, nQ10⟩, n_BadWeights := ⟨Q7, PySem.W.mg_of X G nQ7, nQ7⟩, n_Full := ⟨Q3, PySem.W.mg_of X G nQ3, nQ3⟩, n_NoBack := ⟨Q9, PySem.W.mg_of X G nQ9, nQ9⟩, cat_ChairError := cat_ChairError, tab := tab }
  refine ⟨PySem.W.fnOf "law" "law" (defArgs s_law) (defBody s_law) (defScope s_law) .none kV23 dc23 pm23 an23 cd23 ct23, fun s v => .of_eq rfl, fun base _ _ => ?_⟩
  have F0 := fun_mk (st := s_is_whole) l0 c0 k0
  have C_is_whole : Cal l.prog w K mg base 1 "is_whole" ["thing", "least", "most"] g_is_whole := ⟨_, _, ok_is_whole (P := l.prog) (w := w) (base := base) T F0, PySem.W.mg_of X G a0, k0, F0.binds (ps := ["thing", "least", "most"]) fun _ _ _ _ _ _ us hl => match us, hl with | [_, _, _], _ => rfl⟩
  have F1 := fun_mk (st := s_next_of) l1 c1 k1
  have C_next_of : Cal l.prog w K mg base 1 "next_of" ["loader", "rows", "room"] g_next_of := ⟨_, _, ok_next_of (P := l.prog) (w := w) (base := base) T F1, PySem.W.mg_of X G a1, k1, F1.binds (ps := ["loader", "rows", "room"]) fun _ _ _ _ _ _ us hl => match us, hl with | [_, _, _], _ => rfl⟩
  have F2 := fun_mk (st := s_Lines_new) l2 c2 k2
  have C_Lines_new : CalN l.prog w K mg base 1 "Lines" ["self", "loader", "seen", "place", "size"] g_Lines_new := ⟨YLines, f2, _, PySem.W.mg_of X G nLines, nLines, ⟨mkLines, a2, i2, kcLines⟩, ok_Lines_new (P := l.prog) (w := w) (base := base) T F2, F2.binds (ps := ["self", "loader", "seen", "place", "size"]) fun _ _ _ _ _ _ us hl => match us, hl with | [_, _, _, _, _], _ => rfl⟩
  have F3 := fun_mk (st := s_Lines_readings) l3 c3 k3
  have C_Lines_readings : CalM l.prog w K mg base 1 "Lines" "readings" ["self", "state"] g_Lines_readings := ⟨YLines, f3, _, nLines, ⟨pgLines, hdLines, poLines, saLines⟩, ⟨a3, i3, k3⟩, ok_Lines_readings (P := l.prog) (w := w) (base := base) T F3, F3.binds (ps := ["self", "state"]) fun _ _ _ _ _ _ us hl => match us, hl with | [_, _], _ => rfl⟩
  have F4 := fun_mk (st := s_law_town) l4 c4 k4
  have C_law_town : Cal l.prog w K mg base 1 "_law_town" ["script"] g_law_town := ⟨_, _, ok_law_town (P := l.prog) (w := w) (base := base) T F4, PySem.W.mg_of X G a4, k4, F4.binds (ps := ["script"]) fun _ _ _ _ _ _ us hl => match us, hl with | [_], _ => rfl⟩
  have F5 := fun_mk (st := s_law_draw) l5 c5 k5
  have C_law_draw : Cal l.prog w K mg base 1 "_law_draw" ["script", "town", "many"] g_law_draw := ⟨_, _, ok_law_draw (P := l.prog) (w := w) (base := base) T F5, PySem.W.mg_of X G a5, k5, F5.binds (ps := ["script", "town", "many"]) fun _ _ _ _ _ _ us hl => match us, hl with | [_, _, _], _ => rfl⟩
  have F6 := fun_mk (st := s_law_word) l6 c6 k6
  have C_law_word : Cal l.prog w K mg base 1 "_law_word" ["caught"] g_law_word := ⟨_, _, ok_law_word (P := l.prog) (w := w) (base := base) T F6, PySem.W.mg_of X G a6, k6, F6.binds (ps := ["caught"]) fun _ _ _ _ _ _ us hl => match us, hl with | [_], _ => rfl⟩
  have F7 := fun_mk (st := s_law_refused) l7 c7 k7
  have C_law_refused : Cal l.prog w K mg base 1 "_law_refused" ["word"] g_law_refused := ⟨_, _, ok_law_refused (P := l.prog) (w := w) (base := base) T F7, PySem.W.mg_of X G a7, k7, F7.binds (ps := ["word"]) fun _ _ _ _ _ _ us hl => match us, hl with | [_], _ => rfl⟩
  have F8 := fun_mk (st := s_is_loader) l8 c8 k8
  have C_is_loader : Cal l.prog w K mg base 2 "is_loader" ["thing"] g_is_loader := ⟨_, _, ok_is_loader (P := l.prog) (w := w) (base := base) T F8 C_is_whole, PySem.W.mg_of X G a8, k8, F8.binds (ps := ["thing"]) fun _ _ _ _ _ _ us hl => match us, hl with | [_], _ => rfl⟩
  have F9 := fun_mk (st := s_is_seat_row) l9 c9 k9
  have C_is_seat_row : Cal l.prog w K mg base 2 "is_seat_row" ["loader", "thing"] g_is_seat_row := ⟨_, _, ok_is_seat_row (P := l.prog) (w := w) (base := base) T F9 C_is_whole, PySem.W.mg_of X G a9, k9, F9.binds (ps := ["loader", "thing"]) fun _ _ _ _ _ _ us hl => match us, hl with | [_, _], _ => rfl⟩
  have F10 := fun_mk (st := s_Lines_walked) l10 c10 k10
  have C_Lines_walked : CalM l.prog w K mg base 2 "Lines" "walked" ["self", "state"] g_Lines_walked := ⟨YLines, f10, _, nLines, ⟨pgLines, hdLines, poLines, saLines⟩, ⟨a10, i10, k10⟩, ok_Lines_walked (P := l.prog) (w := w) (base := base) T F10 C_next_of, F10.binds (ps := ["self", "state"]) fun _ _ _ _ _ _ us hl => match us, hl with | [_, _], _ => rfl⟩
  have F11 := fun_mk (st := s_look_loader) l11 c11 k11
  have C_look_loader : Cal l.prog w K mg base 3 "look_loader" ["loader"] g_look_loader := ⟨_, _, ok_look_loader (P := l.prog) (w := w) (base := base) T F11 C_is_loader, PySem.W.mg_of X G a11, k11, F11.binds (ps := ["loader"]) fun _ _ _ _ _ _ us hl => match us, hl with | [_], _ => rfl⟩
  have F12 := fun_mk (st := s_lines_of) l12 c12 k12
  have C_lines_of : Cal l.prog w K mg base 3 "lines_of" ["loader", "seen"] g_lines_of := ⟨_, _, ok_lines_of (P := l.prog) (w := w) (base := base) T F12 C_Lines_new, PySem.W.mg_of X G a12, k12, F12.binds (ps := ["loader", "seen"]) fun _ _ _ _ _ _ us hl => match us, hl with | [_, _], _ => rfl⟩
  have F13 := fun_mk (st := s_look_seen) l13 c13 k13
  have C_look_seen : Cal l.prog w K mg base 4 "look_seen" ["loader", "seen"] g_look_seen := ⟨_, _, ok_look_seen (P := l.prog) (w := w) (base := base) T F13 C_look_loader C_is_seat_row, PySem.W.mg_of X G a13, k13, F13.binds (ps := ["loader", "seen"]) fun _ _ _ _ _ _ us hl => match us, hl with | [_, _], _ => rfl⟩
  have F14 := fun_mk (st := s_Lines_count) l14 c14 k14
  have C_Lines_count : CalM l.prog w K mg base 15 "Lines" "count" ["self", "state"] g_Lines_count := ⟨YLines, f14, _, nLines, ⟨pgLines, hdLines, poLines, saLines⟩, ⟨a14, i14, k14⟩, ok_Lines_count (P := l.prog) (w := w) (base := base) T F14 (fun n g h => ⟨YLines, f14, _, nLines, ⟨pgLines, hdLines, poLines, saLines⟩, ⟨a14, i14, k14⟩, h, F14.binds (ps := ["self", "state"]) fun _ _ _ _ _ _ us hl => match us, hl with | [_, _], _ => rfl⟩) C_Lines_walked C_Lines_readings, F14.binds (ps := ["self", "state"]) fun _ _ _ _ _ _ us hl => match us, hl with | [_, _], _ => rfl⟩
  have F15 := fun_mk (st := s_Lines_least) l15 c15 k15
  have C_Lines_least : CalM l.prog w K mg base 16 "Lines" "least" ["self"] g_Lines_least := ⟨YLines, f15, _, nLines, ⟨pgLines, hdLines, poLines, saLines⟩, ⟨a15, i15, k15⟩, ok_Lines_least (P := l.prog) (w := w) (base := base) T F15 C_Lines_count C_Lines_walked C_Lines_readings, F15.binds (ps := ["self"]) fun _ _ _ _ _ _ us hl => match us, hl with | [_], _ => rfl⟩
  have F16 := fun_mk (st := s_how_many_lines) l16 c16 k16
  have C_how_many_lines : Cal l.prog w K mg base 16 "how_many_lines" ["loader", "seen"] g_how_many_lines := ⟨_, _, ok_how_many_lines (P := l.prog) (w := w) (base := base) T F16 C_look_seen C_lines_of C_Lines_count, PySem.W.mg_of X G a16, k16, F16.binds (ps := ["loader", "seen"]) fun _ _ _ _ _ _ us hl => match us, hl with | [_, _], _ => rfl⟩
  have F17 := fun_mk (st := s_sizes_at) l17 c17 k17
  have C_sizes_at : Cal l.prog w K mg base 16 "sizes_at" ["loader", "seen", "place"] g_sizes_at := ⟨_, _, ok_sizes_at (P := l.prog) (w := w) (base := base) T F17 C_look_seen C_is_whole C_Lines_new C_Lines_count, PySem.W.mg_of X G a17, k17, F17.binds (ps := ["loader", "seen", "place"]) fun _ _ _ _ _ _ us hl => match us, hl with | [_, _, _], _ => rfl⟩
  have F18 := fun_mk (st := s_first_line) l18 c18 k18
  have C_first_line : Cal l.prog w K mg base 17 "first_line" ["loader", "seen"] g_first_line := ⟨_, _, ok_first_line (P := l.prog) (w := w) (base := base) T F18 C_look_seen C_Lines_least C_lines_of, PySem.W.mg_of X G a18, k18, F18.binds (ps := ["loader", "seen"]) fun _ _ _ _ _ _ us hl => match us, hl with | [_, _], _ => rfl⟩
  have F19 := fun_mk (st := s_Lines_lines) l19 c19 k19
  have C_Lines_lines : CalM l.prog w K mg base 28 "Lines" "lines" ["self", "state", "line"] g_Lines_lines := ⟨YLines, f19, _, nLines, ⟨pgLines, hdLines, poLines, saLines⟩, ⟨a19, i19, k19⟩, ok_Lines_lines (P := l.prog) (w := w) (base := base) T F19 (fun n g h => ⟨YLines, f19, _, nLines, ⟨pgLines, hdLines, poLines, saLines⟩, ⟨a19, i19, k19⟩, h, F19.binds (ps := ["self", "state", "line"]) fun _ _ _ _ _ _ us hl => match us, hl with | [_, _, _], _ => rfl⟩) C_Lines_walked C_Lines_readings C_Lines_count, F19.binds (ps := ["self", "state", "line"]) fun _ _ _ _ _ _ us hl => match us, hl with | [_, _, _], _ => rfl⟩
  have F20 := fun_mk (st := s_all_lines) l20 c20 k20
  have C_all_lines : Cal l.prog w K mg base 29 "all_lines" ["loader", "seen"] g_all_lines := ⟨_, _, ok_all_lines (P := l.prog) (w := w) (base := base) T F20 C_look_seen C_lines_of C_Lines_count C_Lines_lines, PySem.W.mg_of X G a20, k20, F20.binds (ps := ["loader", "seen"]) fun _ _ _ _ _ _ us hl => match us, hl with | [_, _], _ => rfl⟩
  have F21 := fun_mk (st := s_law_one) l21 c21 k21
  have C_law_one : Cal l.prog w K mg base 30 "_law_one" ["how", "some"] g_law_one := ⟨_, _, ok_law_one (P := l.prog) (w := w) (base := base) T F21 C_all_lines, PySem.W.mg_of X G a21, k21, F21.binds (ps := ["how", "some"]) fun _ _ _ _ _ _ us hl => match us, hl with | [_, _], _ => rfl⟩
  have F22 := fun_mk (st := s_law_told) l22 c22 k22
  have C_law_told : Cal l.prog w K mg base 31 "_law_told" ["way", "some"] g_law_told := ⟨_, _, ok_law_told (P := l.prog) (w := w) (base := base) T F22 C_law_one C_law_word, PySem.W.mg_of X G a22, k22, F22.binds (ps := ["way", "some"]) fun _ _ _ _ _ _ us hl => match us, hl with | [_, _], _ => rfl⟩
  have F23 := fun_mk (st := s_law) l23 c23 k23
  exact law_of (ok_law (P := l.prog) (w := w) (base := base) T F23 C_law_town C_law_draw C_how_many_lines C_first_line C_law_told C_sizes_at C_all_lines C_law_refused) law_ok
end Lw
open PySem PySem.W PyProof.Rows
set_option maxHeartbeats 0 in
theorem PySem.Challenge.cw_chairline_k62_great_counts_holds : PySem.Challenge.rw_chairline_k62_great_counts.Holds := by
  w_on; o_law; k_head; (case hw => w_witness2)
  k_fill
  refine L2.walk_of (l := PySem.Challenge.rw_chairline_k62_great_counts) (n := 63) (k := 32) (x := "script") (CX := fun _ => L2.CX0) (sp := fun w => DL.spLaw _) rfl (by decide) rfl ⟨rfl, by decide, by decide⟩ (fun w h Y => PySem.W.kIn_of Y) ?F (fun _ _ a ns hl hO hS => ⟨a, ns, rfl, hS, hl, hO, fun _ => rfl⟩) (fun _ _ _ _ _ h => h)
  case F =>
    intro w mg fa h KX G hmg
    refine' Lw.all_mk KX G hmg ?nLines ?pgLines ?hdLines ?poLines ?saLines ?mkLines ?kcLines ?naLines0 ?naLines1 ?naLines2 ?naLines3 ?naLines4 ?naLines5 ?a0 ?l0 ?c0 ?k0 ?a1 ?l1 ?c1 ?k1 ?a2 ?i2 ?l2 ?c2 ?k2 ?a3 ?i3 ?l3 ?c3 ?k3 ?a4 ?l4 ?c4 ?k4 ?a5 ?l5 ?c5 ?k5 ?a6 ?l6 ?c6 ?k6 ?a7 ?l7 ?c7 ?k7 ?a8 ?l8 ?c8 ?k8 ?a9 ?l9 ?c9 ?k9 ?a10 ?i10 ?l10 ?c10 ?k10 ?a11 ?l11 ?c11 ?k11 ?a12 ?l12 ?c12 ?k12 ?a13 ?l13 ?c13 ?k13 ?a14 ?i14 ?l14 ?c14 ?k14 ?a15 ?i15 ?l15 ?c15 ?k15 ?a16 ?l16 ?c16 ?k16 ?a17 ?l17 ?c17 ?k17 ?a18 ?l18 ?c18 ?k18 ?a19 ?i19 ?l19 ?c19 ?k19 ?a20 ?l20 ?c20 ?k20 ?a21 ?l21 ?c21 ?k21 ?a22 ?l22 ?c22 ?k22 ?a23 ?l23 ?c23 ?k23 ?z0 ?z1 ?z2 ?z3 ?z4 ?z5 ?z6 ?z7 ?z8 ?z9 ?z10 ?z11 ?z12 ?z13 ?z27 ?x27 ?y27 ?b27 ?t27 ?z28 ?x28 ?y28 ?b28 ?t28 ?z29 ?x29 ?y29 ?b29 ?t29 ?z30 ?x30 ?y30 ?b30 ?t30 ?nQ0 ?tQ0 ?dQ0 ?bQ0 ?gQ0 ?hQ0 ?cQ0 ?mQ0 ?vQ0 ?nQ1 ?tQ1 ?dQ1 ?bQ1 ?gQ1 ?hQ1 ?cQ1 ?mQ1 ?vQ1 ?nQ2 ?tQ2 ?dQ2 ?bQ2 ?gQ2 ?hQ2 ?cQ2 ?mQ2 ?vQ2 ?nQ3 ?tQ3 ?dQ3 ?bQ3 ?gQ3 ?hQ3 ?cQ3 ?mQ3 ?vQ3 ?nQ4 ?tQ4 ?dQ4 ?nQ5 ?tQ5 ?dQ5 ?nQ6 ?tQ6 ?dQ6 ?nQ7 ?tQ7 ?dQ7 ?nQ8 ?tQ8 ?dQ8 ?nQ9 ?tQ9 ?dQ9 ?nQ10 ?tQ10 ?dQ10 ?nQ11 ?tQ11 ?dQ11 ?bQ11 ?hgc ?htc ?sQ0Q4 ?eQ0Q4 ?sQ0Q5 ?eQ0Q5 ?sQ0Q1 ?eQ0Q1 ?sQ0Q6 ?eQ0Q6 ?sQ0Q7 ?eQ0Q7 ?sQ0Q8 ?eQ0Q8 ?sQ0Q2 ?eQ0Q2 ?sQ0Q3 ?eQ0Q3 ?sQ0Q9 ?eQ0Q9 ?sQ0Q10 ?eQ0Q10 ?sQ1Q0 ?eQ1Q0 ?sQ1Q4 ?eQ1Q4 ?sQ1Q5 ?eQ1Q5 ?sQ1Q6 ?eQ1Q6 ?sQ1Q7 ?eQ1Q7 ?sQ1Q8 ?eQ1Q8 ?sQ1Q2 ?eQ1Q2 ?sQ1Q3 ?eQ1Q3 ?sQ1Q9 ?eQ1Q9 ?sQ1Q10 ?eQ1Q10 ?sQ2Q0 ?eQ2Q0 ?sQ2Q4 ?eQ2Q4 ?sQ2Q5 ?eQ2Q5 ?sQ2Q1 ?eQ2Q1 ?sQ2Q6 ?eQ2Q6 ?sQ2Q7 ?eQ2Q7 ?sQ2Q8 ?eQ2Q8 ?sQ2Q3 ?eQ2Q3 ?sQ2Q9 ?eQ2Q9 ?sQ2Q10 ?eQ2Q10 ?sQ3Q0 ?eQ3Q0 ?sQ3Q4 ?eQ3Q4 ?sQ3Q5 ?eQ3Q5 ?sQ3Q1 ?eQ3Q1 ?sQ3Q6 ?eQ3Q6 ?sQ3Q7 ?eQ3Q7 ?sQ3Q8 ?eQ3Q8 ?sQ3Q2 ?eQ3Q2 ?sQ3Q9 ?eQ3Q9 ?sQ3Q10 ?eQ3Q10 ?sQ0Q11 ?sQ1Q11 ?sQ2Q11 ?sQ3Q11
    (case nLines => k_is)
    (case pgLines => k_is)
    (case hdLines => k_is)
    (case poLines => k_is)
    (case saLines => k_is)
    (case mkLines => k_is)
    (case kcLines => k_is)
    (case naLines0 => k_is)
    (case naLines1 => k_is)
    (case naLines2 => k_is)
    (case naLines3 => k_is)
    (case naLines4 => k_is)
    (case naLines5 => k_is)
    (case a0 => k_is)
    (case l0 => k_is)
    (case c0 => k_is)
    (case k0 => k_is)
    (case a1 => k_is)
    (case l1 => k_is)
    (case c1 => k_is)
    (case k1 => k_is)
    (case a2 => k_is)
    (case i2 => k_is)
    (case l2 => k_is)
    (case c2 => k_is)
    (case k2 => k_is)
    (case a3 => k_is)
    (case i3 => k_is)
    (case l3 => k_is)
    (case c3 => k_is)
    (case k3 => k_is)
    (case a4 => k_is)
    (case l4 => k_is)
    (case c4 => k_is)
    (case k4 => k_is)
    (case a5 => k_is)
    (case l5 => k_is)
    (case c5 => k_is)
    (case k5 => k_is)
    (case a6 => k_is)
    (case l6 => k_is)
    (case c6 => k_is)
    (case k6 => k_is)
    (case a7 => k_is)
    (case l7 => k_is)
    (case c7 => k_is)
    (case k7 => k_is)
    (case a8 => k_is)
    (case l8 => k_is)
    (case c8 => k_is)
    (case k8 => k_is)
    (case a9 => k_is)
    (case l9 => k_is)
    (case c9 => k_is)
    (case k9 => k_is)
    (case a10 => k_is)
    (case i10 => k_is)
    (case l10 => k_is)
    (case c10 => k_is)
    (case k10 => k_is)
    (case a11 => k_is)
    (case l11 => k_is)
    (case c11 => k_is)
    (case k11 => k_is)
    (case a12 => k_is)
    (case l12 => k_is)
    (case c12 => k_is)
    (case k12 => k_is)
    (case a13 => k_is)
    (case l13 => k_is)
    (case c13 => k_is)
    (case k13 => k_is)
    (case a14 => k_is)
    (case i14 => k_is)
    (case l14 => k_is)
    (case c14 => k_is)
    (case k14 => k_is)
    (case a15 => k_is)
    (case i15 => k_is)
    (case l15 => k_is)
    (case c15 => k_is)
    (case k15 => k_is)
    (case a16 => k_is)
    (case l16 => k_is)
    (case c16 => k_is)
    (case k16 => k_is)
    (case a17 => k_is)
    (case l17 => k_is)
    (case c17 => k_is)
    (case k17 => k_is)
    (case a18 => k_is)
    (case l18 => k_is)
    (case c18 => k_is)
    (case k18 => k_is)
    (case a19 => k_is)
    (case i19 => k_is)
    (case l19 => k_is)
    (case c19 => k_is)
    (case k19 => k_is)
    (case a20 => k_is)
    (case l20 => k_is)
    (case c20 => k_is)
    (case k20 => k_is)
    (case a21 => k_is)
    (case l21 => k_is)
    (case c21 => k_is)
    (case k21 => k_is)
    (case a22 => k_is)
    (case l22 => k_is)
    (case c22 => k_is)
    (case k22 => k_is)
    (case a23 => k_is)
    (case l23 => k_is)
    (case c23 => k_is)
    (case k23 => k_is)
    (case z0 => k_is)
    (case z1 => k_is)
    (case z2 => k_is)
    (case z3 => k_is)
    (case z4 => k_is)
    (case z5 => k_is)
    (case z6 => k_is)
    (case z7 => k_is)
    (case z8 => k_is)
    (case z9 => k_is)
    (case z10 => k_is)
    (case z11 => k_is)
    (case z12 => k_is)
    (case z13 => k_is)
    (case z27 => k_is)
    (case x27 => k_exc)
    (case y27 => k_is)
    (case b27 => k_is)
    (case t27 => k_is)
    (case z28 => k_is)
    (case x28 => k_exc)
    (case y28 => k_is)
    (case b28 => k_is)
    (case t28 => k_is)
    (case z29 => k_is)
    (case x29 => k_exc)
    (case y29 => k_is)
    (case b29 => k_is)
    (case t29 => k_is)
    (case z30 => k_is)
    (case x30 => k_exc)
    (case y30 => k_is)
    (case b30 => k_is)
    (case t30 => k_is)
    (case nQ0 => k_is)
    (case tQ0 => k_is)
    (case dQ0 => k_is)
    (case bQ0 => k_is)
    (case gQ0 => k_is)
    (case hQ0 => k_is)
    (case cQ0 => k_is)
    (case mQ0 => k_is)
    (case vQ0 => k_is)
    (case nQ1 => k_is)
    (case tQ1 => k_is)
    (case dQ1 => k_is)
    (case bQ1 => k_is)
    (case gQ1 => k_is)
    (case hQ1 => k_is)
    (case cQ1 => k_is)
    (case mQ1 => k_is)
    (case vQ1 => k_is)
    (case nQ2 => k_is)
    (case tQ2 => k_is)
    (case dQ2 => k_is)
    (case bQ2 => k_is)
    (case gQ2 => k_is)
    (case hQ2 => k_is)
    (case cQ2 => k_is)
    (case mQ2 => k_is)
    (case vQ2 => k_is)
    (case nQ3 => k_is)
    (case tQ3 => k_is)
    (case dQ3 => k_is)
    (case bQ3 => k_is)
    (case gQ3 => k_is)
    (case hQ3 => k_is)
    (case cQ3 => k_is)
    (case mQ3 => k_is)
    (case vQ3 => k_is)
    (case nQ4 => k_is)
    (case tQ4 => k_is)
    (case dQ4 => k_is)
    (case nQ5 => k_is)
    (case tQ5 => k_is)
    (case dQ5 => k_is)
    (case nQ6 => k_is)
    (case tQ6 => k_is)
    (case dQ6 => k_is)
    (case nQ7 => k_is)
    (case tQ7 => k_is)
    (case dQ7 => k_is)
    (case nQ8 => k_is)
    (case tQ8 => k_is)
    (case dQ8 => k_is)
    (case nQ9 => k_is)
    (case tQ9 => k_is)
    (case dQ9 => k_is)
    (case nQ10 => k_is)
    (case tQ10 => k_is)
    (case dQ10 => k_is)
    (case nQ11 => k_is)
    (case tQ11 => k_is)
    (case dQ11 => k_is)
    (case bQ11 => k_is)
    (case hgc => k_is)
    (case htc => k_is)
    (case sQ0Q4 => k_is)
    (case eQ0Q4 => decide)
    (case sQ0Q5 => k_is)
    (case eQ0Q5 => decide)
    (case sQ0Q1 => k_is)
    (case eQ0Q1 => decide)
    (case sQ0Q6 => k_is)
    (case eQ0Q6 => decide)
    (case sQ0Q7 => k_is)
    (case eQ0Q7 => decide)
    (case sQ0Q8 => k_is)
    (case eQ0Q8 => decide)
    (case sQ0Q2 => k_is)
    (case eQ0Q2 => decide)
    (case sQ0Q3 => k_is)
    (case eQ0Q3 => decide)
    (case sQ0Q9 => k_is)
    (case eQ0Q9 => decide)
    (case sQ0Q10 => k_is)
    (case eQ0Q10 => decide)
    (case sQ1Q0 => k_is)
    (case eQ1Q0 => decide)
    (case sQ1Q4 => k_is)
    (case eQ1Q4 => decide)
    (case sQ1Q5 => k_is)
    (case eQ1Q5 => decide)
    (case sQ1Q6 => k_is)
    (case eQ1Q6 => decide)
    (case sQ1Q7 => k_is)
    (case eQ1Q7 => decide)
    (case sQ1Q8 => k_is)
    (case eQ1Q8 => decide)
    (case sQ1Q2 => k_is)
    (case eQ1Q2 => decide)
    (case sQ1Q3 => k_is)
    (case eQ1Q3 => decide)
    (case sQ1Q9 => k_is)
    (case eQ1Q9 => decide)
    (case sQ1Q10 => k_is)
    (case eQ1Q10 => decide)
    (case sQ2Q0 => k_is)
    (case eQ2Q0 => decide)
    (case sQ2Q4 => k_is)
    (case eQ2Q4 => decide)
    (case sQ2Q5 => k_is)
    (case eQ2Q5 => decide)
    (case sQ2Q1 => k_is)
    (case eQ2Q1 => decide)
    (case sQ2Q6 => k_is)
    (case eQ2Q6 => decide)
    (case sQ2Q7 => k_is)
    (case eQ2Q7 => decide)
    (case sQ2Q8 => k_is)
    (case eQ2Q8 => decide)
    (case sQ2Q3 => k_is)
    (case eQ2Q3 => decide)
    (case sQ2Q9 => k_is)
    (case eQ2Q9 => decide)
    (case sQ2Q10 => k_is)
    (case eQ2Q10 => decide)
    (case sQ3Q0 => k_is)
    (case eQ3Q0 => decide)
    (case sQ3Q4 => k_is)
    (case eQ3Q4 => decide)
    (case sQ3Q5 => k_is)
    (case eQ3Q5 => decide)
    (case sQ3Q1 => k_is)
    (case eQ3Q1 => decide)
    (case sQ3Q6 => k_is)
    (case eQ3Q6 => decide)
    (case sQ3Q7 => k_is)
    (case eQ3Q7 => decide)
    (case sQ3Q8 => k_is)
    (case eQ3Q8 => decide)
    (case sQ3Q2 => k_is)
    (case eQ3Q2 => decide)
    (case sQ3Q9 => k_is)
    (case eQ3Q9 => decide)
    (case sQ3Q10 => k_is)
    (case eQ3Q10 => decide)
    (case sQ0Q11 => k_is)
    (case sQ1Q11 => k_is)
    (case sQ2Q11 => k_is)
    (case sQ3Q11 => k_is)
