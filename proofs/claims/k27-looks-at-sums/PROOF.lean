import PyProof.Rows.All
import Wide.All
import OpenK.AllK
import Wide.FinOn
import PySem.Challenge.RW_everybest_k27_looks_at_sums
import HandS.ForMost
import HandS.IsInst
import HandS.Style
import HandS.Conv
import HandS.SortInts
import HandS.TupAny
import HandS.Flow
import HandS.Zip
import HandS.SetFor
import HandS.Small
import HandS.Ends
set_option Elab.async false
set_option linter.all false
set_option maxRecDepth 100000
set_option maxHeartbeats 4000001

section
/-! DL1: data values, what they denote on the abstract heap, who owns what. -/
namespace DL
open PySem PySem.Spec L2

inductive D where
  | non
  | bl (b : Bool)
  | int (i : Int)
  | str (s : Str)
  | tup (ds : List D)
  | lst (o : Bool) (ds : List D)
  | dK (o : Bool) (ks : List Key) (ds : List D)
  | dT (o : Bool) (ks : List (List Key)) (ds : List D)
  | scr (ns : List Int)

mutual
def D.plain : D → Bool
  | .tup ds => D.plains ds
  | .lst o _ => !o
  | .dK o _ _ => !o
  | .dT o _ _ => !o
  | _ => true
def D.plains : List D → Bool
  | [] => true
  | d :: ds => D.plain d && D.plains ds
end
mutual
def D.freeze : D → D
  | .tup ds => .tup (D.freezes ds)
  | .lst _ ds => .lst false (D.freezes ds)
  | .dK _ ks ds => .dK false ks (D.freezes ds)
  | .dT _ ks ds => .dT false ks (D.freezes ds)
  | d => d
def D.freezes : List D → List D
  | [] => []
  | d :: ds => D.freeze d :: D.freezes ds
end

abbrev Cnt := Addr → Nat
def zc : Cnt := fun _ => 0
def one (a : Addr) : Cnt := fun b => if b = a then 1 else 0
def add (c d : Cnt) : Cnt := fun a => c a + d a
theorem add_at (c d : Cnt) (a : Addr) : add c d a = c a + d a := rfl
theorem zc_at (a : Addr) : zc a = 0 := rfl
theorem one_self (a : Addr) : one a a = 1 := if_pos rfl
theorem one_ne {a b : Addr} (h : b ≠ a) : one a b = 0 := if_neg h
theorem add_zc (c : Cnt) : add c zc = c := by funext a; simp [add, zc]
theorem zc_add (c : Cnt) : add zc c = c := by funext a; simp [add, zc]
theorem add_comm (c d : Cnt) : add c d = add d c := by funext a; simp only [add]; omega
theorem add_assoc (c d e : Cnt) : add (add c d) e = add c (add d e) := by funext a; simp only [add]; omega

/-- objects that may change -/
def isMut : HO → Bool
  | .lst _ => true
  | .dK _ => true
  | .dT _ => true
  | .set _ _ => true
  | .ins _ _ _ => true
  | _ => false
def MutA (H : Hp) (a : Addr) : Prop := ∃ o, H a = some o ∧ isMut o = true

def ScrL (K : PySem.W.Frag) (H : Hp) (a : Addr) (xs : List V) : Prop :=
  (∃ o, H a = some (.frz o (.lst xs))) ∨
    ∃ (o : Obj) (its : Array Value) (n : Nat), K.lookup a = some o ∧ o.cls = .type "list" ∧ o.dict = none ∧ o.data = .seq its n ∧ its.size ≤ sizeLine ∧ Vals xs its.toList
theorem ScrL.seq {K : PySem.W.Frag} {H : Hp} {a : Addr} {xs : List V} (h : ScrL K H a xs) : SqL K H a xs := by
  rcases h with h | h
  · exact .inl (.inr h)
  · exact .inr h

section
variable (K : PySem.W.Frag) (Z : Addr → Prop) (H : Hp)
mutual
/-- the value v denotes d; c: the addresses that it owns -/
def Den : D → V → Cnt → Prop
  | .non, v, c => v = .non ∧ c = zc
  | .bl b, v, c => v = .bl b ∧ c = zc
  | .int i, v, c => v = .int i ∧ c = zc
  | .str s, v, c => v = .str s ∧ c = zc
  | .tup ds, v, c => ∃ a vs, v = .ref a ∧ SqT K H a vs ∧ Dens ds vs c
  | .lst true ds, v, c => ∃ a vs c', v = .ref a ∧ H a = some (.lst vs) ∧ Dens ds vs c' ∧ c = add (one a) c'
  | .lst false ds, v, c => ∃ a vs, v = .ref a ∧ H a = some (.lst vs) ∧ Z a ∧ Dens ds vs zc ∧ c = zc
  | .dK true ks ds, v, c => ∃ a kvs c', v = .ref a ∧ H a = some (.dK kvs) ∧ (kvs.map (·.1) = ks ∧ ks.Nodup) ∧ Dens ds (kvs.map (·.2)) c' ∧ c = add (one a) c'
  | .dK false ks ds, v, c => ∃ a kvs, v = .ref a ∧ H a = some (.dK kvs) ∧ (kvs.map (·.1) = ks ∧ ks.Nodup) ∧ Z a ∧ Dens ds (kvs.map (·.2)) zc ∧ c = zc
  | .dT true ks ds, v, c => ∃ a kvs c', v = .ref a ∧ H a = some (.dT kvs) ∧ (kvs.map (·.1) = ks ∧ ks.Nodup) ∧ Dens ds (kvs.map (·.2)) c' ∧ c = add (one a) c'
  | .dT false ks ds, v, c => ∃ a kvs, v = .ref a ∧ H a = some (.dT kvs) ∧ (kvs.map (·.1) = ks ∧ ks.Nodup) ∧ Z a ∧ Dens ds (kvs.map (·.2)) zc ∧ c = zc
  | .scr ns, v, c => ∃ a, v = .ref a ∧ ScrL K H a (ns.map V.int) ∧ c = zc
def Dens : List D → List V → Cnt → Prop
  | [], vs, c => vs = [] ∧ c = zc
  | d :: ds, vs, c => ∃ v r c1 c2, vs = v :: r ∧ Den d v c1 ∧ Dens ds r c2 ∧ c = add c1 c2
end
end

section
variable {K : PySem.W.Frag} {Z Z' : Addr → Prop} {H H' : Hp}

theorem SqT.loc {a : Addr} {xs : List V} (h : ∀ a o, H a = some o → isMut o = false → H' a = some o) (q : SqT K H a xs) : SqT K H' a xs := by
  rcases q with (q | ⟨o, q⟩) | q
  · exact .inl (.inl (h _ _ q rfl))
  · exact .inl (.inr ⟨o, h _ _ q rfl⟩)
  · exact .inr q
theorem ScrL.loc {a : Addr} {xs : List V} (h : ∀ a o, H a = some o → isMut o = false → H' a = some o) (q : ScrL K H a xs) : ScrL K H' a xs := by
  rcases q with ⟨o, q⟩ | q
  · exact .inl ⟨o, h _ _ q rfl⟩
  · exact .inr q

mutual
theorem Den.loc (hz : ∀ a, Z a → Z' a) : ∀ {d : D} {v : V} {c : Cnt}, (∀ a o, H a = some o → (isMut o = false ∨ Z a ∨ c a ≠ 0) → H' a = some o) → Den K Z H d v c → Den K Z' H' d v c
  | .non, _, _, _, q => q
  | .bl _, _, _, _, q => q
  | .int _, _, _, _, q => q
  | .str _, _, _, _, q => q
  | .tup ds, _, _, h, q => by
    obtain ⟨a, vs, e, s, q⟩ := q
    exact ⟨a, vs, e, SqT.loc (fun a o e m => h a o e (.inl m)) s, Dens.loc hz h q⟩
  | .lst true ds, _, c, h, q => by
    obtain ⟨a, vs, c', e, s, q, rfl⟩ := q
    refine ⟨a, vs, c', e, h a _ s (.inr (.inr ?_)), Dens.loc hz (fun b o e m => h b o e ?_) q, rfl⟩
    · rw [add_at, one_self]; omega
    · rcases m with m | m | m
      · exact .inl m
      · exact .inr (.inl m)
      · exact .inr (.inr (by rw [add_at]; omega))
  | .lst false ds, _, c, h, q => by
    obtain ⟨a, vs, e, s, z, q, rfl⟩ := q
    exact ⟨a, vs, e, h a _ s (.inr (.inl z)), hz a z, Dens.loc hz h q, rfl⟩
  | .dK true ks ds, _, c, h, q => by
    obtain ⟨a, vs, c', e, s, ek, q, rfl⟩ := q
    refine ⟨a, vs, c', e, h a _ s (.inr (.inr ?_)), ek, Dens.loc hz (fun b o e m => h b o e ?_) q, rfl⟩
    · rw [add_at, one_self]; omega
    · rcases m with m | m | m
      · exact .inl m
      · exact .inr (.inl m)
      · exact .inr (.inr (by rw [add_at]; omega))
  | .dK false ks ds, _, c, h, q => by
    obtain ⟨a, vs, e, s, ek, z, q, rfl⟩ := q
    exact ⟨a, vs, e, h a _ s (.inr (.inl z)), ek, hz a z, Dens.loc hz h q, rfl⟩
  | .dT true ks ds, _, c, h, q => by
    obtain ⟨a, vs, c', e, s, ek, q, rfl⟩ := q
    refine ⟨a, vs, c', e, h a _ s (.inr (.inr ?_)), ek, Dens.loc hz (fun b o e m => h b o e ?_) q, rfl⟩
    · rw [add_at, one_self]; omega
    · rcases m with m | m | m
      · exact .inl m
      · exact .inr (.inl m)
      · exact .inr (.inr (by rw [add_at]; omega))
  | .dT false ks ds, _, c, h, q => by
    obtain ⟨a, vs, e, s, ek, z, q, rfl⟩ := q
    exact ⟨a, vs, e, h a _ s (.inr (.inl z)), ek, hz a z, Dens.loc hz h q, rfl⟩
  | .scr ns, _, _, h, q => by
    obtain ⟨a, e, s, q⟩ := q
    exact ⟨a, e, ScrL.loc (fun a o e m => h a o e (.inl m)) s, q⟩
theorem Dens.loc (hz : ∀ a, Z a → Z' a) : ∀ {ds : List D} {vs : List V} {c : Cnt}, (∀ a o, H a = some o → (isMut o = false ∨ Z a ∨ c a ≠ 0) → H' a = some o) → Dens K Z H ds vs c → Dens K Z' H' ds vs c
  | [], _, _, _, q => q
  | d :: ds, _, _, h, q => by
    obtain ⟨v, r, c1, c2, e, q1, q2, rfl⟩ := q
    refine ⟨v, r, c1, c2, e, Den.loc hz (fun b o e m => h b o e ?_) q1, Dens.loc hz (fun b o e m => h b o e ?_) q2, rfl⟩
    · rcases m with m | m | m
      · exact .inl m
      · exact .inr (.inl m)
      · exact .inr (.inr (by rw [add_at]; omega))
    · rcases m with m | m | m
      · exact .inl m
      · exact .inr (.inl m)
      · exact .inr (.inr (by rw [add_at]; omega))
end

mutual
theorem Den.mut : ∀ {d : D} {v : V} {c : Cnt}, Den K Z H d v c → ∀ a, c a ≠ 0 → MutA H a
  | .non, _, _, q => by obtain ⟨_, rfl⟩ := q; intro a h; exact absurd rfl h
  | .bl _, _, _, q => by obtain ⟨_, rfl⟩ := q; intro a h; exact absurd rfl h
  | .int _, _, _, q => by obtain ⟨_, rfl⟩ := q; intro a h; exact absurd rfl h
  | .str _, _, _, q => by obtain ⟨_, rfl⟩ := q; intro a h; exact absurd rfl h
  | .tup ds, _, _, q => by obtain ⟨a, vs, e, s, q⟩ := q; exact Dens.mut q
  | .lst true ds, _, _, q => by
    obtain ⟨a, vs, c', e, s, q, rfl⟩ := q
    intro b h
    by_cases hb : b = a
    · subst hb; exact ⟨_, s, rfl⟩
    · rw [add_at, one_ne hb] at h; exact Dens.mut q b (by omega)
  | .lst false ds, _, _, q => by obtain ⟨a, vs, e, s, z, q, rfl⟩ := q; intro a h; exact absurd rfl h
  | .dK true ks ds, _, _, q => by
    obtain ⟨a, vs, c', e, s, ek, q, rfl⟩ := q
    intro b h
    by_cases hb : b = a
    · subst hb; exact ⟨_, s, rfl⟩
    · rw [add_at, one_ne hb] at h; exact Dens.mut q b (by omega)
  | .dK false ks ds, _, _, q => by obtain ⟨a, vs, e, s, ek, z, q, rfl⟩ := q; intro a h; exact absurd rfl h
  | .dT true ks ds, _, _, q => by
    obtain ⟨a, vs, c', e, s, ek, q, rfl⟩ := q
    intro b h
    by_cases hb : b = a
    · subst hb; exact ⟨_, s, rfl⟩
    · rw [add_at, one_ne hb] at h; exact Dens.mut q b (by omega)
  | .dT false ks ds, _, _, q => by obtain ⟨a, vs, e, s, ek, z, q, rfl⟩ := q; intro a h; exact absurd rfl h
  | .scr ns, _, _, q => by obtain ⟨a, e, s, rfl⟩ := q; intro a h; exact absurd rfl h
theorem Dens.mut : ∀ {ds : List D} {vs : List V} {c : Cnt}, Dens K Z H ds vs c → ∀ a, c a ≠ 0 → MutA H a
  | [], _, _, q => by obtain ⟨_, rfl⟩ := q; intro a h; exact absurd rfl h
  | d :: ds, _, _, q => by
    obtain ⟨v, r, c1, c2, e, q1, q2, rfl⟩ := q
    intro a h
    rw [add_at] at h
    by_cases h1 : c1 a = 0
    · exact Dens.mut q2 a (by omega)
    · exact Den.mut q1 a h1
end

mutual
theorem Den.pl : ∀ {d : D} {v : V} {c : Cnt}, d.plain = true → Den K Z H d v c → c = zc
  | .non, _, _, _, q => q.2
  | .bl _, _, _, _, q => q.2
  | .int _, _, _, _, q => q.2
  | .str _, _, _, _, q => q.2
  | .tup ds, _, _, p, q => by obtain ⟨a, vs, e, s, q⟩ := q; exact Dens.pl p q
  | .lst true ds, _, _, p, q => by cases p
  | .lst false ds, _, _, p, q => by obtain ⟨a, vs, e, s, z, q, rfl⟩ := q; rfl
  | .dK true ks ds, _, _, p, q => by cases p
  | .dK false ks ds, _, _, p, q => by obtain ⟨a, vs, e, s, ek, z, q, rfl⟩ := q; rfl
  | .dT true ks ds, _, _, p, q => by cases p
  | .dT false ks ds, _, _, p, q => by obtain ⟨a, vs, e, s, ek, z, q, rfl⟩ := q; rfl
  | .scr ns, _, _, _, q => by obtain ⟨a, e, s, rfl⟩ := q; rfl
theorem Dens.pl : ∀ {ds : List D} {vs : List V} {c : Cnt}, D.plains ds = true → Dens K Z H ds vs c → c = zc
  | [], _, _, _, q => q.2
  | d :: ds, _, _, p, q => by
    obtain ⟨v, r, c1, c2, e, q1, q2, rfl⟩ := q
    have p : (D.plain d && D.plains ds) = true := p
    rw [Bool.and_eq_true] at p
    rw [Den.pl p.1 q1, Dens.pl p.2 q2, add_zc]
end

mutual
theorem Den.frz {W : Addr → Prop} (hz : ∀ a, Z a → W a) : ∀ {d : D} {v : V} {c : Cnt}, (∀ a, c a ≠ 0 → W a) → Den K Z H d v c → Den K W H d.freeze v zc
  | .non, _, _, _, q => ⟨q.1, rfl⟩
  | .bl _, _, _, _, q => ⟨q.1, rfl⟩
  | .int _, _, _, _, q => ⟨q.1, rfl⟩
  | .str _, _, _, _, q => ⟨q.1, rfl⟩
  | .tup ds, _, _, h, q => by obtain ⟨a, vs, e, s, q⟩ := q; exact ⟨a, vs, e, s, Dens.frz hz h q⟩
  | .lst true ds, _, _, h, q => by
    obtain ⟨a, vs, c', e, s, q, rfl⟩ := q
    exact ⟨a, vs, e, s, h a (by rw [add_at, one_self]; omega), Dens.frz hz (fun b x => h b (by rw [add_at]; omega)) q, rfl⟩
  | .lst false ds, _, _, h, q => by obtain ⟨a, vs, e, s, z, q, rfl⟩ := q; exact ⟨a, vs, e, s, hz a z, Dens.frz hz h q, rfl⟩
  | .dK true ks ds, _, _, h, q => by
    obtain ⟨a, vs, c', e, s, ek, q, rfl⟩ := q
    exact ⟨a, vs, e, s, ek, h a (by rw [add_at, one_self]; omega), Dens.frz hz (fun b x => h b (by rw [add_at]; omega)) q, rfl⟩
  | .dK false ks ds, _, _, h, q => by obtain ⟨a, vs, e, s, ek, z, q, rfl⟩ := q; exact ⟨a, vs, e, s, ek, hz a z, Dens.frz hz h q, rfl⟩
  | .dT true ks ds, _, _, h, q => by
    obtain ⟨a, vs, c', e, s, ek, q, rfl⟩ := q
    exact ⟨a, vs, e, s, ek, h a (by rw [add_at, one_self]; omega), Dens.frz hz (fun b x => h b (by rw [add_at]; omega)) q, rfl⟩
  | .dT false ks ds, _, _, h, q => by obtain ⟨a, vs, e, s, ek, z, q, rfl⟩ := q; exact ⟨a, vs, e, s, ek, hz a z, Dens.frz hz h q, rfl⟩
  | .scr ns, _, _, _, q => by obtain ⟨a, e, s, rfl⟩ := q; exact ⟨a, e, s, rfl⟩
theorem Dens.frz {W : Addr → Prop} (hz : ∀ a, Z a → W a) : ∀ {ds : List D} {vs : List V} {c : Cnt}, (∀ a, c a ≠ 0 → W a) → Dens K Z H ds vs c → Dens K W H (D.freezes ds) vs zc
  | [], _, _, _, q => ⟨q.1, rfl⟩
  | d :: ds, _, _, h, q => by
    obtain ⟨v, r, c1, c2, e, q1, q2, rfl⟩ := q
    exact ⟨v, r, zc, zc, e, Den.frz hz (fun b x => h b (by rw [add_at]; omega)) q1, Dens.frz hz (fun b x => h b (by rw [add_at]; omega)) q2, (add_zc _).symm⟩
end

theorem Dens.length : ∀ {ds : List D} {vs : List V} {c : Cnt}, Dens K Z H ds vs c → vs.length = ds.length
  | [], _, _, q => by obtain ⟨rfl, _⟩ := q; rfl
  | d :: ds, _, _, q => by
    obtain ⟨v, r, c1, c2, rfl, q1, q2, rfl⟩ := q
    simp [Dens.length q2]
theorem Dens.app : ∀ {ds es : List D} {vs ws : List V} {c d : Cnt}, Dens K Z H ds vs c → Dens K Z H es ws d → Dens K Z H (ds ++ es) (vs ++ ws) (add c d)
  | [], _, _, _, _, _, q, p => by obtain ⟨rfl, rfl⟩ := q; rw [zc_add]; exact p
  | d :: ds, _, _, _, _, _, q, p => by
    obtain ⟨v, r, c1, c2, rfl, q1, q2, rfl⟩ := q
    exact ⟨v, _, c1, _, rfl, q1, Dens.app q2 p, add_assoc _ _ _⟩
/-- the item at a place, with the rest -/
theorem Dens.at : ∀ {ds : List D} {vs : List V} {c : Cnt} {i : Nat} {d : D}, Dens K Z H ds vs c → ds[i]? = some d → ∃ v c1 c2, vs[i]? = some v ∧ Den K Z H d v c1 ∧ c = add c1 c2 ∧
    ∀ {Z' : Addr → Prop} {H' : Hp} {e : D} {u : V} {c' : Cnt}, (∀ a, Z a → Z' a) → (∀ a o, H a = some o → (isMut o = false ∨ Z a ∨ c2 a ≠ 0) → H' a = some o) → Den K Z' H' e u c' → Dens K Z' H' (ds.set i e) (vs.set i u) (add c' c2)
  | [], _, _, _, _, _, h => by simp at h
  | d :: ds, _, _, 0, _, q, h => by
    obtain ⟨v, r, c1, c2, rfl, q1, q2, rfl⟩ := q
    simp at h; subst h
    exact ⟨v, c1, c2, rfl, q1, rfl, fun hz hl p => ⟨_, _, _, _, rfl, p, Dens.loc hz hl q2, rfl⟩⟩
  | d :: ds, _, _, i + 1, _, q, h => by
    obtain ⟨v, r, c1, c2, rfl, q1, q2, rfl⟩ := q
    obtain ⟨w, k1, k2, e1, p1, rfl, f⟩ := Dens.at (i := i) q2 (by simpa using h)
    refine ⟨w, k1, add c1 k2, by simpa using e1, p1, ?_, fun hz hl p => ?_⟩
    · funext a; simp only [add]; omega
    · refine ⟨v, _, c1, _, rfl, Den.loc hz (fun a o e m => hl a o e ?_) q1, f hz (fun a o e m => hl a o e ?_) p, ?_⟩
      · rcases m with m | m | m
        · exact .inl m
        · exact .inr (.inl m)
        · exact .inr (.inr (by simp only [add]; omega))
      · rcases m with m | m | m
        · exact .inl m
        · exact .inr (.inl m)
        · exact .inr (.inr (by simp only [add]; omega))
      · funext a; simp only [add]; omega
theorem Dens.getV : ∀ {ds : List D} {vs : List V} {c : Cnt} {i : Nat} {v : V}, Dens K Z H ds vs c → vs[i]? = some v → ∃ d c1 c2, ds[i]? = some d ∧ Den K Z H d v c1 ∧ c = add c1 c2
  | [], _, _, _, _, q, h => by obtain ⟨rfl, _⟩ := q; simp at h
  | d :: ds, _, _, 0, _, q, h => by
    obtain ⟨v, r, c1, c2, rfl, q1, q2, rfl⟩ := q
    simp at h; subst h
    exact ⟨d, c1, c2, rfl, q1, rfl⟩
  | d :: ds, _, _, i + 1, _, q, h => by
    obtain ⟨v, r, c1, c2, rfl, q1, q2, rfl⟩ := q
    obtain ⟨w, k1, k2, e1, p1, rfl⟩ := Dens.getV (i := i) q2 (by simpa using h)
    refine ⟨w, k1, add c1 k2, by simpa using e1, p1, ?_⟩
    funext a; simp only [add]; omega
end

/-! ### the frame's slots -/
abbrev EnvD := List (Option D)
section
variable (K : PySem.W.Frag) (Z : Addr → Prop) (H : Hp)
def ED : EnvD → St → Cnt → Prop
  | [], s, c => s = [] ∧ c = zc
  | none :: e, s, c => ∃ x r, s = x :: r ∧ ED e r c
  | some d :: e, s, c => ∃ v r c1 c2, s = some v :: r ∧ Den K Z H d v c1 ∧ ED e r c2 ∧ c = add c1 c2
end
section
variable {K : PySem.W.Frag} {Z Z' : Addr → Prop} {H H' : Hp}
theorem ED.len : ∀ {e : EnvD} {s : St} {c : Cnt}, ED K Z H e s c → s.length = e.length
  | [], _, _, q => by obtain ⟨rfl, _⟩ := q; rfl
  | none :: e, _, _, q => by obtain ⟨x, r, rfl, q⟩ := q; simp [ED.len q]
  | some d :: e, _, _, q => by obtain ⟨v, r, c1, c2, rfl, q1, q, rfl⟩ := q; simp [ED.len q]
theorem ED.loc (hz : ∀ a, Z a → Z' a) : ∀ {e : EnvD} {s : St} {c : Cnt}, (∀ a o, H a = some o → (isMut o = false ∨ Z a ∨ c a ≠ 0) → H' a = some o) → ED K Z H e s c → ED K Z' H' e s c
  | [], _, _, _, q => q
  | none :: e, _, _, h, q => by obtain ⟨x, r, rfl, q⟩ := q; exact ⟨x, r, rfl, ED.loc hz h q⟩
  | some d :: e, _, _, h, q => by
    obtain ⟨v, r, c1, c2, rfl, q1, q2, rfl⟩ := q
    refine ⟨v, r, c1, c2, rfl, Den.loc hz (fun b o e m => h b o e ?_) q1, ED.loc hz (fun b o e m => h b o e ?_) q2, rfl⟩
    · rcases m with m | m | m
      · exact .inl m
      · exact .inr (.inl m)
      · exact .inr (.inr (by rw [add_at]; omega))
    · rcases m with m | m | m
      · exact .inl m
      · exact .inr (.inl m)
      · exact .inr (.inr (by rw [add_at]; omega))
theorem ED.mut : ∀ {e : EnvD} {s : St} {c : Cnt}, ED K Z H e s c → ∀ a, c a ≠ 0 → MutA H a
  | [], _, _, q => by obtain ⟨_, rfl⟩ := q; intro a h; exact absurd rfl h
  | none :: e, _, _, q => by obtain ⟨x, r, rfl, q⟩ := q; exact ED.mut q
  | some d :: e, _, _, q => by
    obtain ⟨v, r, c1, c2, rfl, q1, q2, rfl⟩ := q
    intro a h
    rw [add_at] at h
    by_cases h1 : c1 a = 0
    · exact ED.mut q2 a (by omega)
    · exact Den.mut q1 a h1
/-- a slot taken out -/
theorem ED.take : ∀ {e : EnvD} {s : St} {c : Cnt} {i : Nat} {d : D}, ED K Z H e s c → e[i]? = some (some d) → ∃ v c1 c2, s[i]? = some (some v) ∧ Den K Z H d v c1 ∧ ED K Z H (e.set i none) s c2 ∧ c = add c1 c2
  | [], _, _, _, _, _, h => by simp at h
  | some d :: e, _, _, 0, _, q, h => by
    obtain ⟨v, r, c1, c2, rfl, q1, q2, rfl⟩ := q
    simp at h; subst h
    exact ⟨v, c1, c2, rfl, q1, ⟨_, _, rfl, q2⟩, rfl⟩
  | none :: e, _, _, 0, _, q, h => by simp at h
  | none :: e, _, _, i + 1, _, q, h => by
    obtain ⟨x, r, rfl, q⟩ := q
    obtain ⟨v, c1, c2, e1, q1, q2, rfl⟩ := ED.take (i := i) q (by simpa using h)
    exact ⟨v, c1, c2, by simpa using e1, q1, ⟨_, _, rfl, q2⟩, rfl⟩
  | some d :: e, _, _, i + 1, _, q, h => by
    obtain ⟨v, r, c1, c2, rfl, q1, q2, rfl⟩ := q
    obtain ⟨w, k1, k2, e1, p1, p2, rfl⟩ := ED.take (i := i) q2 (by simpa using h)
    refine ⟨w, k1, add c1 k2, by simpa using e1, p1, ⟨v, r, c1, k2, rfl, q1, p2, rfl⟩, ?_⟩
    funext a; simp only [add]; omega
/-- a slot given a value; its value on the frame may be another -/
theorem ED.put : ∀ {e : EnvD} {s : St} {c c1 : Cnt} {i : Nat} {d : D} {v : V}, ED K Z H (e.set i none) s c → i < e.length → Den K Z H d v c1 → ED K Z H (e.set i (some d)) (s.set i (some v)) (add c1 c)
  | [], _, _, _, _, _, _, _, h, _ => by simp at h
  | x :: e, _, _, _, 0, _, _, q, h, p => by
    obtain ⟨y, r, rfl, q⟩ := q
    exact ⟨_, _, _, _, rfl, p, q, rfl⟩
  | none :: e, _, _, _, i + 1, _, _, q, h, p => by
    obtain ⟨y, r, rfl, q⟩ := q
    exact ⟨_, _, rfl, ED.put (i := i) q (by simpa using h) p⟩
  | some d :: e, _, _, _, i + 1, _, _, q, h, p => by
    obtain ⟨v, r, c1, c2, rfl, q1, q2, rfl⟩ := q
    refine ⟨v, _, c1, _, rfl, q1, ED.put (i := i) q2 (by simpa using h) p, ?_⟩
    funext a; simp only [add]; omega
theorem set_self {s : St} {i : Nat} {v : V} (h : s[i]? = some (some v)) : s.set i (some v) = s := by
  apply List.ext_getElem?
  intro j
  by_cases hj : i = j
  · subst hj
    rw [List.getElem?_set_self (List.getElem?_eq_some_iff.mp h).1, h]
  · rw [List.getElem?_set_ne hj]
/-- a slot forgotten -/
theorem ED.drop : ∀ {e : EnvD} {s : St} {c : Cnt} (i : Nat), ED K Z H e s c → ∃ c2 c1, ED K Z H (e.set i none) s c2 ∧ c = add c1 c2
  | e, s, c, i, q => by
    cases h : e[i]? with
    | none =>
      have hi : e.length ≤ i := List.getElem?_eq_none_iff.mp h
      rw [List.set_eq_of_length_le hi]
      exact ⟨c, zc, q, (zc_add c).symm⟩
    | some x =>
      cases x with
      | none =>
        refine ⟨c, zc, ?_, (zc_add c).symm⟩
        have : e.set i none = e := by
          apply List.ext_getElem?
          intro j
          by_cases hj : i = j
          · subst hj
            rw [List.getElem?_set_self (List.getElem?_eq_some_iff.mp h).1, h]
          · rw [List.getElem?_set_ne hj]
        rw [this]; exact q
      | some d =>
        obtain ⟨v, c1, c2, _, _, q2, e⟩ := q.take h
        exact ⟨c2, c1, q2, e⟩
end

/-! ### who owns what; what a step keeps -/
def Gd (Z : Addr → Prop) (H : Hp) (c : Cnt) : Prop := ∀ a, c a ≤ 1 ∧ (c a ≠ 0 → MutA H a) ∧ (Z a → c a = 0 ∧ H a ≠ none)
def Fr (m : Bool) (Z : Addr → Prop) (H : Hp) (c : Cnt) (Z' : Addr → Prop) (H' : Hp) (c' : Cnt) : Prop :=
  ∀ a, (Z a → Z' a) ∧ (H a ≠ none → H' a ≠ none) ∧ (H a ≠ none → m = true ∨ c a = 0 → H' a = H a) ∧ (H a ≠ none → c a = 0 → c' a = 0 ∧ (Z' a → Z a))
section
variable {Z Z' Z1 : Addr → Prop} {H H' H1 : Hp} {c c' c1 e : Cnt} {m : Bool}
theorem MutA.ne {a : Addr} (h : MutA H a) : H a ≠ none := by obtain ⟨o, h, _⟩ := h; rw [h]; simp
theorem Gd.non0 (g : Gd Z H c) {a : Addr} (h : H a = none) : c a = 0 := by
  by_cases h1 : c a = 0
  · exact h1
  · exact absurd h ((g a).2.1 h1).ne
theorem Gd.nm (g : Gd Z H c) {a : Addr} {o : HO} (h : H a = some o) (m : isMut o = false) : c a = 0 := by
  by_cases h1 : c a = 0
  · exact h1
  · obtain ⟨u, hu, mu⟩ := (g a).2.1 h1
    rw [h] at hu; cases hu; rw [m] at mu; cases mu
theorem Gd.le (g : Gd Z H c) (h : ∀ a, c' a ≤ c a) : Gd Z H c' := fun a => by
  obtain ⟨g1, g2, g3⟩ := g a
  have := h a
  exact ⟨by omega, fun x => g2 (by omega), fun z => ⟨by have := (g3 z).1; omega, (g3 z).2⟩⟩
theorem Fr.refl : Fr m Z H c Z H c := fun a => ⟨fun z => z, fun h => h, fun _ _ => rfl, fun _ h => ⟨h, fun z => z⟩⟩
theorem Fr.lessL (f : Fr m Z H c Z' H' c') (h : ∀ a, c a ≤ e a) : Fr m Z H e Z' H' c' := fun a => by
  obtain ⟨f1, f2, f3, f4⟩ := f a
  have := h a
  exact ⟨f1, f2, fun n x => f3 n (x.elim .inl fun y => .inr (by omega)), fun n x => f4 n (by omega)⟩
theorem Fr.lessR (f : Fr m Z H c Z' H' c') (h : ∀ a, e a ≤ c' a) : Fr m Z H c Z' H' e := fun a => by
  obtain ⟨f1, f2, f3, f4⟩ := f a
  have := h a
  exact ⟨f1, f2, f3, fun n x => ⟨by have := (f4 n x).1; omega, (f4 n x).2⟩⟩
theorem Fr.trans (f : Fr m Z H c Z1 H1 c1) (g : Fr m Z1 H1 c1 Z' H' c') : Fr m Z H c Z' H' c' := fun a => by
  obtain ⟨f1, f2, f3, f4⟩ := f a
  obtain ⟨g1, g2, g3, g4⟩ := g a
  refine ⟨fun z => g1 (f1 z), fun n => g2 (f2 n), fun n x => ?_, fun n x => ?_⟩
  · rw [g3 (f2 n) (x.elim .inl fun y => .inr (f4 n y).1), f3 n x]
  · exact ⟨(g4 (f2 n) (f4 n x).1).1, fun z => (f4 n x).2 ((g4 (f2 n) (f4 n x).1).2 z)⟩
theorem Fr.weak (f : Fr m Z H c Z' H' c') : Fr false Z H c Z' H' c' := fun a => by
  obtain ⟨f1, f2, f3, f4⟩ := f a
  exact ⟨f1, f2, fun n x => f3 n (x.elim (fun z => nomatch z) .inr), f4⟩
/-- what others own stays -/
theorem Fr.ext (f : Fr m Z H c Z' H' c') (g : Gd Z H (add c e)) (g' : Gd Z' H' c') : Gd Z' H' (add c' e) ∧ Fr m Z H (add c e) Z' H' (add c' e) := by
  have key : ∀ a, (e a ≠ 0 → H a ≠ none ∧ c a = 0) := fun a h => by
    obtain ⟨g1, g2, g3⟩ := g a
    simp only [add] at g1 g2
    exact ⟨(g2 (by omega)).ne, by omega⟩
  refine ⟨fun a => ?_, fun a => ?_⟩
  · obtain ⟨f1, f2, f3, f4⟩ := f a
    obtain ⟨g1, g2, g3⟩ := g a
    obtain ⟨k1, k2, k3⟩ := g' a
    simp only [add] at *
    by_cases he : e a = 0
    · rw [he] at *
      exact ⟨by omega, fun x => k2 (by omega), fun z => ⟨by have := (k3 z).1; omega, (k3 z).2⟩⟩
    · obtain ⟨hn, hc⟩ := key a he
      have hc' := (f4 hn hc).1
      refine ⟨by omega, fun x => ?_, fun z => ?_⟩
      · obtain ⟨o, ho, mo⟩ := g2 (by omega)
        exact ⟨o, by rw [f3 hn (.inr hc)]; exact ho, mo⟩
      · exact absurd (g3 ((f4 hn hc).2 z)).1 (by omega)
  · obtain ⟨f1, f2, f3, f4⟩ := f a
    simp only [add]
    exact ⟨f1, f2, fun n x => f3 n (x.elim .inl fun y => .inr (by omega)), fun n x => ⟨by have := (f4 n (by omega)).1; omega, (f4 n (by omega)).2⟩⟩
/-- .. as locality asks -/
theorem Fr.keep (f : Fr m Z H c Z' H' c') (g : Gd Z H (add c e)) : ∀ a o, H a = some o → (isMut o = false ∨ Z a ∨ e a ≠ 0) → H' a = some o := fun a o h x => by
  have hc : c a = 0 := by
    have ga := g a
    simp only [add] at ga
    rcases x with x | x | x
    · have := g.nm h x; simp only [add] at this; omega
    · have := (ga.2.2 x).1; omega
    · omega
  rw [(f a).2.2.1 (by rw [h]; simp) (.inr hc)]; exact h
theorem Fr.zz (f : Fr m Z H c Z' H' c') : ∀ a, Z a → Z' a := fun a => (f a).1
/-- in a pure step all stays -/
theorem Fr.pure (f : Fr true Z H c Z' H' c') : ∀ a o, H a = some o → H' a = some o := fun a o h => by
  rw [(f a).2.2.1 (by rw [h]; simp) (.inl rfl)]; exact h
/-- a new object -/
theorem Gd.new {p : Addr} {o : HO} (g : Gd Z H c) (hp : H p = none) (mo : isMut o = true) : Gd Z (upd H p o) (add (one p) c) := fun a => by
  obtain ⟨g1, g2, g3⟩ := g a
  by_cases h : a = p
  · subst h
    have := g.non0 hp
    refine ⟨by simp only [add, one_self]; omega, fun _ => ⟨o, upd_same, mo⟩, fun z => absurd hp (g3 z).2⟩
  · simp only [add, one_ne h, MutA, upd_ne h]
    exact ⟨by omega, fun x => g2 (by omega), fun z => ⟨by have := (g3 z).1; omega, (g3 z).2⟩⟩
theorem Gd.newT {p : Addr} {o : HO} (g : Gd Z H c) (hp : H p = none) : Gd Z (upd H p o) c := fun a => by
  obtain ⟨g1, g2, g3⟩ := g a
  by_cases h : a = p
  · subst h
    have := g.non0 hp
    exact ⟨g1, fun x => absurd this x, fun z => absurd hp (g3 z).2⟩
  · simp only [MutA, upd_ne h]
    exact ⟨g1, g2, g3⟩
theorem Fr.new {p : Addr} {o : HO} (hp : H p = none) : Fr m Z H c Z (upd H p o) (add (one p) c) := fun a => by
  by_cases h : a = p
  · subst h
    exact ⟨fun z => z, fun n => absurd hp n, fun n => absurd hp n, fun n => absurd hp n⟩
  · simp only [add, one_ne h, upd_ne h]
    exact ⟨fun z => z, fun n => n, fun _ _ => trivial, fun _ x => ⟨by omega, fun z => z⟩⟩
theorem Fr.newT {p : Addr} {o : HO} (hp : H p = none) : Fr m Z H c Z (upd H p o) c := fun a => by
  by_cases h : a = p
  · subst h
    exact ⟨fun z => z, fun n => absurd hp n, fun n => absurd hp n, fun n => absurd hp n⟩
  · simp only [upd_ne h]
    exact ⟨fun z => z, fun n => n, fun _ _ => trivial, fun _ x => ⟨by omega, fun z => z⟩⟩
theorem keep_new {p : Addr} {o : HO} (hp : H p = none) : ∀ a u, H a = some u → upd H p o a = some u := fun a u h => by
  rw [upd_ne (ne_of_none h hp)]; exact h
end
end DL
end

section
/-! DL2: the compact text and its evaluator over data alone. -/
namespace DL
open PySem PySem.Spec L2

inductive Ty where | int | bool | tuple | str | list
  deriving DecidableEq
inductive Op where
  | bin (o : Operator)
  | cmp (o : CmpOp)
  | neg
  | isN | notN | isB (b : Bool)
  | len | tuple | list | sorted | sum | sumT | all | any | min | max | abs | toInt | toStr | dict
  | min2 | max2
  | setLen | setSorted
  | lrange | trange
  | isi (t : Ty)
  | rev
  | index | count | get2
  deriving DecidableEq

inductive Tg where
  | nm (i : Nat)
  | tp (ts : List Tg)

inductive SrcK where
  | rng | it (lend : Bool) | zip

mutual
inductive E where
  | var (i : Nat) | mv (i : Nat) | fz (i : Nat)
  | int (n : Int) | bl (b : Bool) | non | str (s : Str)
  | op (o : Op) (es : List E)
  | sub (a i : E)
  | tup (es : List E) | lst (es : List E)
  | dK (kvs : List E)
  | dT
  | sli (a : E) (lo hi : List E)
  | ite (c : T) (a b : E)
  | and (es : List E) | or (es : List E) | not (e : E)
  | cmp2 (o1 o2 : CmpOp) (a b c : E)
  | call (f : Nat) (es : List E)
  | pop (i : Nat) (path : List E)
  | popAt (i : Nat) (path : List E) (k : E)
  | comp (tg : Tg) (own : List Nat) (k : SrcK) (src : List E) (ifs : List T) (elt : E)
inductive T where
  | val (e : E)
  | and (ts : List T) | or (ts : List T) | not (t : T)
  | ite (c a b : T)
end

inductive LV where
  | nm (i : Nat)
  | sb (i : Nat) (path : List E) (k : E)

inductive S where
  | asg (t : Tg) (e : E)
  | par (is : List Nat) (es : List E)
  | sto (i : Nat) (path : List E) (k : E) (e : E)
  | stoT (ts : List LV) (e : E)
  | aug (i : Nat) (o : Operator) (e : E)
  | augS (i : Nat) (path : List E) (k : E) (o : Operator) (e : E)
  | app (i : Nat) (path : List E) (e : E)
  | ext (i : Nat) (path : List E) (e : E)
  | rem (i : Nat) (path : List E) (e : E)
  | ex (e : E)
  | ite (c : T) (a b : List S)
  | whl (c : T) (b : List S)
  | for_ (tg : Tg) (k : SrcK) (src : List E) (b : List S)
  | ret (e : E) | retN | brk | cnt | pass

/-! ### data -/
mutual
def D.py : D → PyData
  | .non => .none
  | .bl b => .bool b
  | .int i => .int i
  | .str s => .str s
  | .tup ds => .tuple (D.pys ds)
  | .lst _ ds => .list (D.pys ds)
  | .dK _ _ _ => .dict []
  | .dT _ _ _ => .dict []
  | .scr _ => .dict []
def D.pys : List D → List PyData
  | [] => []
  | d :: ds => D.py d :: D.pys ds
end
def D.shp (d : D) : Bool := SeqAt.shaped d.py
def D.eqv (d e : D) : Bool := PyData.eqv d.py e.py
def D.isNon : D → Bool
  | .non => true
  | _ => false
def D.flat : D → Bool
  | .non => true
  | .bl _ => true
  | .int _ => true
  | .str _ => true
  | _ => false
def D.truthy : D → Option Bool
  | .non => some false
  | .bl b => some b
  | .int i => some (i != 0)
  | .str s => if s.length ≤ sizeLine then some (s.length != 0) else none
  | .tup ds => some (!ds.isEmpty)
  | .lst _ ds => some (!ds.isEmpty)
  | .dK _ ks _ => some (!ks.isEmpty)
  | .dT _ _ _ => none
  | .scr _ => none
/-- the items that a loop walks -/
def D.items : D → Option (List D)
  | .tup ds => some ds
  | .lst _ ds => some ds
  | _ => none
def D.key? : D → Option Key
  | .int i => some (.inl i)
  | .str s => some (.inr s)
  | _ => none
def D.keys? : List D → Option (List Key)
  | [] => some []
  | d :: ds => (D.key? d).bind fun k => (D.keys? ds).map fun ks => k :: ks
def D.tkey? : D → Option (List Key)
  | .tup ds => D.keys? ds
  | _ => none
def kD : Key → D
  | .inl i => .int i
  | .inr x => .str x
def find {κ : Type} [DecidableEq κ] (k : κ) : List κ → Nat → Option Nat
  | [], _ => none
  | x :: r, n => if x = k then some n else find k r (n + 1)
def ints? : List D → Option (List Int)
  | [] => some []
  | .int i :: ds => (ints? ds).map fun r => i :: r
  | _ :: _ => none
def bls? : List D → Option (List Bool)
  | [] => some []
  | .bl i :: ds => (bls? ds).map fun r => i :: r
  | _ :: _ => none
/-- d[k] -/
def subD : D → D → Option D
  | .tup ds, .int i => atI ds i
  | .lst _ ds, .int i => atI ds i
  | .scr ns, .int i => (atI ns i).map .int
  | .dK _ ks ds, k => (D.key? k).bind fun k => (find k ks 0).bind fun j => ds[j]?
  | _, _ => none
def putD (k : Key) (v : D) (ks : List Key) (ds : List D) : List Key × List D := match find k ks 0 with
  | some j => (ks, ds.set j v)
  | none => (ks ++ [k], ds ++ [v])
def D.lst? : D → Option Unit
  | .lst _ _ => some ()
  | _ => none
def setD : D → D → D → Option D
  | .lst true ds, .int i, d => (ixN ds.length i).map fun j => .lst true (ds.set j d)
  | .dK true ks ds, k, d => (D.key? k).bind fun k => if ks.length < sizeLine then some (.dK true (putD k d ks ds).1 (putD k d ks ds).2) else none
  | _, _, _ => none
/-- d with what stands at a path changed -/
def updD (f : D → Option D) : D → List D → Option D
  | d, [] => f d
  | .lst true ds, .int k :: p => (ixN ds.length k).bind fun j => (ds[j]?).bind fun x => (updD f x p).map fun y => .lst true (ds.set j y)
  | .tup ds, .int k :: p => (ixN ds.length k).bind fun j => (ds[j]?).bind fun x => (updD f x p).map fun y => .tup (ds.set j y)
  | .dK true ks ds, k :: p => (D.key? k).bind fun k => (find k ks 0).bind fun j => (ds[j]?).bind fun x => (updD f x p).map fun y => .dK true ks (ds.set j y)
  | _, _ => none
def getP : D → List D → Option D
  | d, [] => some d
  | d, k :: p => (subD d k).bind fun x => getP x p

def mulOk (i j : Int) : Bool := decide (i.natAbs.log2 + j.natAbs.log2 < 1000000)
def divOk (j : Int) : Bool := decide (j ≠ 0) && decide (j.natAbs.log2 < 9000)
def divD (i j : Int) : Int := if 0 < j then i / j else i.fdiv j
def modD (i j : Int) : Int := if 0 < j then i % j else i.fmod j
def szOk (n : Nat) : Bool := decide (n ≤ sizeLine)
def rngOk (i : Int) : Bool := decide (-(2 ^ 62) ≤ i) && decide (i < 2 ^ 62)
def rngL (lo hi : Int) : List D := (List.range (hi - lo).toNat).map fun (k : Nat) => .int (lo + (k : Int))
def sortI (ns : List Int) : List Int := ns.mergeSort fun a b => decide (a ≤ b)
def dedup (ns : List Int) : List Int := ns.foldr (fun a r => if a ∈ r then r else a :: r) []
def cutD (ds : List D) (lo hi : Option Int) : List D := (ds.drop (HT.sIx ds.length 0 lo)).take (HT.sIx ds.length ds.length hi - HT.sIx ds.length 0 lo)

def cutO : D → Option Int → Option Int → Option D
  | .tup ds, lo, hi => if D.plains ds then some (.tup (cutD ds lo hi)) else none
  | .lst _ ds, lo, hi => if D.plains ds then some (.lst true (cutD ds lo hi)) else none
  | _, _, _ => none
/-- k1, v1, k2, v2 .. -/
def pairsD : List D → Option (List (Key × D))
  | [] => some []
  | k :: v :: r => (D.key? k).bind fun k => (pairsD r).map fun ps => (k, v) :: ps
  | _ => none
def mergeD (ps : List (Key × D)) : List Key × List D := ps.foldl (fun x p => putD p.1 p.2 x.1 x.2) ([], [])
def dispD (xs : List D) : Option D := (pairsD xs).bind fun ps => if ps.length ≤ 15 then some (.dK true (mergeD ps).1 (mergeD ps).2) else none
def minI : List Int → Option Int
  | [] => none
  | x :: r => some (r.foldl (fun a b => if b < a then b else a) x)
def maxI : List Int → Option Int
  | [] => none
  | x :: r => some (r.foldl (fun a b => if b > a then b else a) x)

def binD : Operator → D → D → Option D
  | .Add, .int i, .int j => some (.int (i + j))
  | .Add, .tup xs, .tup ys => if D.plains xs && D.plains ys && szOk (xs.length + ys.length) then some (.tup (xs ++ ys)) else none
  | .Add, .lst _ xs, .lst _ ys => if D.plains xs && D.plains ys && szOk (xs.length + ys.length) then some (.lst true (xs ++ ys)) else none
  | .Sub, .int i, .int j => some (.int (i - j))
  | .Mult, .int i, .int j => if mulOk i j then some (.int (i * j)) else none
  | .Mult, .lst _ xs, .int k => if D.plains xs && decide (k < 2 ^ 62) && decide (-(2 ^ 62) ≤ k) && szOk (xs.length * k.toNat) then some (.lst true (List.replicate k.toNat xs).flatten) else none
  | .FloorDiv, .int i, .int j => if divOk j then some (.int (divD i j)) else none
  | .Mod, .int i, .int j => if decide (j ≠ 0) then some (.int (modD i j)) else none
  | .Pow, .int i, .int j => if decide (0 ≤ j) && decide (j ≤ 1000000) && decide (i.natAbs < 2 ^ 64) then some (.int (i ^ j.toNat)) else none
  | _, _, _ => none
def inD (x : D) (ys : List D) : Bool := ys.any fun y => D.eqv y x
def cmpD : CmpOp → D → D → Option D
  | .Eq, a, b => if a.shp && b.shp then some (.bl (a.eqv b)) else none
  | .NotEq, a, b => if a.shp && b.shp then some (.bl (!a.eqv b)) else none
  | .Lt, .int i, .int j => some (.bl (decide (i < j)))
  | .LtE, .int i, .int j => some (.bl (decide (i ≤ j)))
  | .Gt, .int i, .int j => some (.bl (decide (j < i)))
  | .GtE, .int i, .int j => some (.bl (decide (j ≤ i)))
  | .In, a, .tup ys => if a.flat && ys.all D.flat then some (.bl (inD a ys)) else none
  | .In, a, .lst _ ys => if a.flat && ys.all D.flat then some (.bl (inD a ys)) else none
  | .In, a, .dK _ ks _ => (D.key? a).map fun k => .bl (find k ks 0).isSome
  | .NotIn, a, .tup ys => if a.flat && ys.all D.flat then some (.bl (!inD a ys)) else none
  | .NotIn, a, .lst _ ys => if a.flat && ys.all D.flat then some (.bl (!inD a ys)) else none
  | .NotIn, a, .dK _ ks _ => (D.key? a).map fun k => .bl (!(find k ks 0).isSome)
  | _, _, _ => none
def isiD : Ty → D → Bool
  | .int, .int _ => true
  | .int, .bl _ => true
  | .bool, .bl _ => true
  | .tuple, .tup _ => true
  | .str, .str _ => true
  | .list, .lst _ _ => true
  | _, _ => false
def opD : Op → List D → Option D
  | .bin o, [a, b] => binD o a b
  | .cmp o, [a, b] => cmpD o a b
  | .neg, [.int i] => some (.int (-i))
  | .isN, [a] => some (.bl a.isNon)
  | .notN, [a] => some (.bl (!a.isNon))
  | .isB b, [.bl k] => some (.bl (decide (k = b)))
  | .len, [.tup ds] => some (.int ds.length)
  | .len, [.lst _ ds] => some (.int ds.length)
  | .len, [.scr ns] => some (.int ns.length)
  | .len, [.dK _ ks _] => some (.int ks.length)
  | .tuple, [.tup ds] => if D.plains ds then some (.tup ds) else none
  | .tuple, [.lst _ ds] => if D.plains ds then some (.tup ds) else none
  | .list, [.tup ds] => if D.plains ds then some (.lst true ds) else none
  | .list, [.lst _ ds] => if D.plains ds then some (.lst true ds) else none
  | .sorted, [.lst _ ds] => (ints? ds).map fun ns => .lst true ((sortI ns).map .int)
  | .sum, [.lst _ ds] => (ints? ds).map fun ns => .int ns.sum
  | .all, [.lst _ ds] => (bls? ds).map fun bs => .bl (bs.all id)
  | .any, [.lst _ ds] => (bls? ds).map fun bs => .bl (bs.any id)
  | .min, [.lst _ ds] => (ints? ds).bind fun ns => (minI ns).map .int
  | .max, [.lst _ ds] => (ints? ds).bind fun ns => (maxI ns).map .int
  | .abs, [.int i] => some (.int (if i < 0 then -i else i))
  | .toInt, [.int i] => some (.int i)
  | .toInt, [.bl b] => some (.int (if b then 1 else 0))
  | .min2, [.int i, .int j] => some (.int (if j < i then j else i))
  | .max2, [.int i, .int j] => some (.int (if j > i then j else i))
  | .lrange, [.int j] => if rngOk j && szOk j.toNat then some (.lst true (rngL 0 j)) else none
  | .trange, [.int j] => if rngOk j && szOk j.toNat then some (.tup (rngL 0 j)) else none
  | .isi t, [.scr _] => none
  | .isi t, [a] => some (.bl (isiD t a))
  | .rev, [.tup ds] => if D.plains ds then some (.tup ds.reverse) else none
  | .rev, [.lst _ ds] => if D.plains ds then some (.lst true ds.reverse) else none
  | _, _ => none

/-! ### the evaluator -/
/-- what an operand is: a value of its own, a slot's own thing, or a look into one -/
inductive A where
  | tmp (d : D) | ref (i : Nat) | pk (d : D)
def A.isPk : A → Bool
  | .pk _ => true
  | _ => false
def getE (env : EnvD) (i : Nat) : Option D := (env[i]?).join
def A.get (env : EnvD) : A → Option D
  | .tmp d => some d
  | .pk d => some d
  | .ref i => getE env i
def A.gets (env : EnvD) : List A → Option (List D)
  | [] => some []
  | a :: r => (A.get env a).bind fun d => (A.gets env r).map fun ds => d :: ds
/-- an operand kept: a slot's own thing is frozen -/
def mat (m : Bool) : A → EnvD → Option (D × EnvD)
  | .tmp d, env => some (d, env)
  | .pk _, _ => none
  | .ref i, env => if m then none else (getE env i).map fun d => (d.freeze, env.set i (some d.freeze))
def lendA : List A → EnvD → Option (List D × EnvD)
  | [], env => some ([], env)
  | .tmp d :: r, env => (lendA r env).map fun x => (d :: x.1, x.2)
  | .ref i :: r, env => (getE env i).bind fun d => (lendA r (env.set i none)).map fun x => (d :: x.1, x.2)
  | .pk _ :: _, _ => none
def backA : List A → List D → EnvD → EnvD
  | .ref i :: r, d :: ds, env => backA r ds (env.set i (some d))
  | .tmp _ :: r, _ :: ds, env => backA r ds env
  | _, _, env => env
def A.isTmp : A → Bool
  | .tmp _ => true
  | _ => false

def A.tmp? : A → Option D
  | .tmp d => some d
  | _ => none
def A.bl? : A → Option Bool
  | .tmp (.bl b) => some b
  | _ => none
def A.int? : A → Option Int
  | .tmp (.int i) => some i
  | _ => none
def D.bl? : D → Option Bool
  | .bl b => some b
  | _ => none
def mkA (t : Bool) (d : D) : A := if d.plain || t then .tmp d else .pk d

mutual
def bindT : Tg → D → EnvD → Option EnvD
  | .nm i, d, env => if i < env.length then some (env.set i (some d)) else none
  | .tp ts, .tup ds, env => bindTs ts ds env
  | .tp _, _, _ => none
def bindTs : List Tg → List D → EnvD → Option EnvD
  | [], [], env => some env
  | t :: ts, d :: ds, env => (bindT t d env).bind fun e => bindTs ts ds e
  | _, _, _ => none
end
def wipeE : List Nat → EnvD → EnvD
  | [], env => env
  | i :: r, env => (wipeE r env).set i none
def restE : List Nat → EnvD → EnvD → EnvD
  | [], _, env => env
  | i :: r, env0, env => (restE r env0 env).set i (getE env0 i)
def plainAt (own : List Nat) (env : EnvD) : Bool := own.all fun i => match getE env i with | some d => d.plain | none => true

inductive Fl where
  | nx | bk | ct | rt (d : D)

/-- a comprehension's loop: acc is what is made so far -/
def compF (step : D → EnvD → Option (Option D × EnvD)) : List D → List D → EnvD → Option (List D × EnvD)
  | [], acc, env => some (acc, env)
  | x :: r, acc, env => (step x env).bind fun p => match p.1 with
    | none => compF step r acc p.2
    | some d => if acc.length < sizeLine then compF step r (acc ++ [d]) p.2 else none
def loopF (step : D → EnvD → Option (Fl × EnvD)) : List D → EnvD → Option (Fl × EnvD)
  | [], env => some (.nx, env)
  | x :: r, env => (step x env).bind fun p => match p.1 with
    | .nx => loopF step r p.2
    | .ct => loopF step r p.2
    | .bk => some (.nx, p.2)
    | .rt d => some (.rt d, p.2)
def whileF (c : EnvD → Option (Bool × EnvD)) (b : EnvD → Option (Fl × EnvD)) (env : EnvD) : Option (Fl × EnvD) :=
  match c env with
  | none => none
  | some (false, e) => some (.nx, e)
  | some (true, e) => match b e with
    | none => none
    | some (.nx, e') => whileF c b e'
    | some (.ct, e') => whileF c b e'
    | some (.bk, e') => some (.nx, e')
    | some (.rt d, e') => some (.rt d, e')
partial_fixpoint

structure Ctx where
  call : Nat → List D → Option (D × List D)

def rngItems : List D → Option (List D)
  | [.int j] => if rngOk j then some (rngL 0 j) else none
  | [.int i, .int j] => if rngOk i && rngOk j then some (rngL i j) else none
  | _ => none

def unlend (l : Option (Nat × D)) (env : EnvD) : EnvD := match l with
  | none => env
  | some (i, d) => env.set i (some d)

/-- what a comprehension or a for walks -/
structure Src where
  its : List D
  m : Bool
  env : EnvD
  lent : Option (Nat × D)
def A.one? : List A → Option A
  | [a] => some a
  | _ => none
def A.ref? : A → Option Nat
  | .ref i => some i
  | _ => none
def srcI (lend m : Bool) (a : A) (env : EnvD) (d : D) (its : List D) : Option Src := match lend, a.ref? with
  | true, some i => if m then none else some ⟨its, m, env.set i none, some (i, d)⟩
  | _, _ => some ⟨its, m || !a.isTmp, env, none⟩
def srcC : SrcK → Bool → List A → EnvD → Option Src
  | .rng, m, as, env => ((A.gets env as).bind rngItems).map fun its => ⟨its, m, env, none⟩
  | .it lend, m, as, env => (A.one? as).bind fun a => (a.get env).bind fun d => (d.items).bind fun its => if D.plains its then srcI lend m a env d its else none
  | .zip, _, _, _ => none
/-- .. a for: a thing that is neither a temp nor lent is frozen -/
def forI (lend : Bool) (a : A) (env : EnvD) (d : D) (its : List D) : Option Src := match a with
  | .tmp _ => if D.plains its then some ⟨its, false, env, none⟩ else none
  | .ref i => if lend then (if D.plains its then some ⟨its, false, env.set i none, some (i, d)⟩ else none) else some ⟨D.freezes its, false, env.set i (some d.freeze), none⟩
  | .pk _ => none
def zipItems : List D → Option (List D)
  | [.tup xs, .tup ys] => if D.plains xs && D.plains ys then some ((xs.zip ys).map fun p => .tup [p.1, p.2]) else none
  | _ => none
def forC : SrcK → List A → EnvD → Option Src
  | .rng, as, env => ((A.gets env as).bind rngItems).map fun its => ⟨its, false, env, none⟩
  | .it lend, as, env => (A.one? as).bind fun a => (a.get env).bind fun d => (d.items).bind fun its => forI lend a env d its
  | .zip, as, env => ((A.gets env as).bind zipItems).map fun its => ⟨its, false, env, none⟩

section
variable (P : Ctx)
mutual
def evA (m : Bool) : E → EnvD → Option (A × EnvD)
  | .var i, env => (getE env i).map fun d => (if d.plain then .tmp d else .ref i, env)
  | .mv i, env => if m then none else (getE env i).map fun d => (.tmp d, env.set i none)
  | .fz i, env => if m then none else (getE env i).map fun d => (.tmp d.freeze, env.set i (some d.freeze))
  | .int n, env => some (.tmp (.int n), env)
  | .bl b, env => some (.tmp (.bl b), env)
  | .non, env => some (.tmp .non, env)
  | .str s, env => some (.tmp (.str s), env)
  | .op o es, env => (evAs m es env).bind fun x => (A.gets x.2 x.1).bind fun ds => (opD o ds).map fun d => (.tmp d, x.2)
  | .sub a i, env => (evA m a env).bind fun x => (evA (m || x.1.isPk) i x.2).bind fun y =>
      (x.1.get y.2).bind fun b => (y.1.get y.2).bind fun k => (subD b k).map fun d => (mkA x.1.isTmp d, y.2)
  | .tup es, env => (evMs m es env).bind fun x => if szOk x.1.length then some (.tmp (.tup x.1), x.2) else none
  | .lst es, env => (evMs m es env).bind fun x => if szOk x.1.length then some (.tmp (.lst true x.1), x.2) else none
  | .dK kvs, env => (evMs m kvs env).bind fun x => (dispD x.1).map fun d => (.tmp d, x.2)
  | .dT, env => some (.tmp (.dT true [] []), env)
  | .ite c a b, env => (evT m c env).bind fun x => if x.1 then evA m a x.2 else evA m b x.2
  | .and es, env => evAnd m es env
  | .or es, env => evOr m es env
  | .not e, env => (evA m e env).bind fun x => (x.1.get x.2).bind fun d => (d.truthy).map fun t => (.tmp (.bl (!t)), x.2)
  | .cmp2 o1 o2 a b c, env => (evA m a env).bind fun x => (evA (m || x.1.isPk) b x.2).bind fun y => (x.1.tmp?).bind fun dx => (y.1.tmp?).bind fun dy =>
      ((cmpD o1 dx dy).bind D.bl?).bind fun t => if t then (evA m c y.2).bind fun z => (z.1.tmp?).bind fun dz => (cmpD o2 dy dz).map fun d => (.tmp d, z.2) else some (.tmp (.bl false), y.2)
  | .sli a lo hi, env => (evA m a env).bind fun x => (evI (m || x.1.isPk) lo x.2).bind fun l => (evI (m || x.1.isPk) hi l.2).bind fun h =>
      (x.1.get h.2).bind fun d => (cutO d l.1 h.1).map fun r => (.tmp r, h.2)
  | .call f es, env => (evAs m es env).bind fun x => if m && !x.1.all A.isTmp then none else
      (lendA x.1 x.2).bind fun y => (P.call f y.1).map fun z => (.tmp z.1, backA x.1 z.2 y.2)
  | .pop i path, env => none
  | .popAt i path k, env => none
  | .comp tg own k src ifs elt, env => (evAs m src env).bind fun x => (srcC k m x.1 x.2).bind fun s => if plainAt own x.2 then
      (compF (fun d e => (bindT tg d e).bind fun e1 => (evTand s.m ifs e1).bind fun t => if t.1 then ((evA s.m elt t.2).bind fun x => mat s.m x.1 x.2).map fun r => (some r.1, wipeE own r.2) else some (none, wipeE own t.2))
        s.its [] (wipeE own s.env)).map fun r => (.tmp (.lst true r.1), unlend s.lent (restE own x.2 r.2)) else none
def evI (m : Bool) : List E → EnvD → Option (Option Int × EnvD)
  | [], env => some (none, env)
  | [e], env => (evA m e env).bind fun x => (x.1.int?).map fun i => (some i, x.2)
  | _, _ => none
def evAs (m : Bool) : List E → EnvD → Option (List A × EnvD)
  | [], env => some ([], env)
  | e :: es, env => (evA m e env).bind fun x => (evAs (m || x.1.isPk) es x.2).map fun y => (x.1 :: y.1, y.2)
def evMs (m : Bool) : List E → EnvD → Option (List D × EnvD)
  | [], env => some ([], env)
  | e :: es, env => ((evA m e env).bind fun x => mat m x.1 x.2).bind fun x => (evMs m es x.2).map fun y => (x.1 :: y.1, y.2)
def evAnd (m : Bool) : List E → EnvD → Option (A × EnvD)
  | [], _ => none
  | [e], env => evA m e env
  | e :: es, env => (evA m e env).bind fun x => (x.1.bl?).bind fun t => if t then evAnd m es x.2 else some (.tmp (.bl false), x.2)
def evOr (m : Bool) : List E → EnvD → Option (A × EnvD)
  | [], _ => none
  | [e], env => evA m e env
  | e :: es, env => (evA m e env).bind fun x => (x.1.bl?).bind fun t => if t then some (.tmp (.bl true), x.2) else evOr m es x.2
def evT (m : Bool) : T → EnvD → Option (Bool × EnvD)
  | .val e, env => (evA m e env).bind fun x => (x.1.get x.2).bind fun d => (d.truthy).map fun t => (t, x.2)
  | .and es, env => evTand m es env
  | .or es, env => evTor m es env
  | .not e, env => (evT m e env).map fun x => (!x.1, x.2)
  | .ite c a b, env => (evT m c env).bind fun x => if x.1 then evT m a x.2 else evT m b x.2
def evTand (m : Bool) : List T → EnvD → Option (Bool × EnvD)
  | [], env => some (true, env)
  | e :: es, env => (evT m e env).bind fun x => if x.1 then evTand m es x.2 else some (false, x.2)
def evTor (m : Bool) : List T → EnvD → Option (Bool × EnvD)
  | [], env => some (false, env)
  | e :: es, env => (evT m e env).bind fun x => if x.1 then some (true, x.2) else evTor m es x.2
end

/-! ### statements -/
def evPath (path : List E) (env : EnvD) : Option (List D × EnvD) := (evAs P true path env).bind fun x => if x.1.all A.isTmp then (A.gets x.2 x.1).map fun ds => (ds, x.2) else none
def evKey (k : E) (env : EnvD) : Option (D × EnvD) := (evA P true k env).bind fun x => (x.1.tmp?).map fun d => (d, x.2)
def evM (m : Bool) (e : E) (env : EnvD) : Option (D × EnvD) := (evA P m e env).bind fun x => mat m x.1 x.2
def updE (i : Nat) (ks : List D) (f : D → Option D) (env : EnvD) : Option EnvD := (getE env i).bind fun d => (updD f d ks).map fun d' => env.set i (some d')
def appD (x : D) : D → Option D
  | .lst true ds => if ds.length < sizeLine then some (.lst true (ds ++ [x])) else none
  | _ => none
def extD (x : D) : D → Option D
  | .lst true ds => match x with
    | .lst _ es => if D.plains es && szOk (ds.length + es.length) then some (.lst true (ds ++ es)) else none
    | _ => none
  | _ => none
def remL (n : Int) : List Int → Option (List Int)
  | [] => none
  | x :: r => if x = n then some r else (remL n r).map fun l => x :: l
def remD (x : D) : D → Option D
  | .lst true ds => match x with
    | .int n => (ints? ds).bind fun ns => (remL n ns).map fun l => .lst true (l.map .int)
    | _ => none
  | _ => none
def augD : Operator → D → D → Option D
  | .Add, .int i, .int j => some (.int (i + j))
  | .Sub, .int i, .int j => some (.int (i - j))
  | .Mult, .int i, .int j => if mulOk i j then some (.int (i * j)) else none
  | _, _, _ => none
def bindN : List Nat → List D → EnvD → Option EnvD
  | [], [], env => some env
  | i :: is, d :: ds, env => if i < env.length then bindN is ds (env.set i (some d)) else none
  | _, _, _ => none
def storeLV : LV → D → EnvD → Option EnvD
  | .nm i, d, env => if i < env.length then some (env.set i (some d)) else none
  | .sb i path k, d, env => (evPath P path env).bind fun x => (getE x.2 i).bind fun _ => (evKey P k x.2).bind fun y => updE i x.1 (fun c => setD c y.1 d) y.2
def storeLVs : List LV → List D → EnvD → Option EnvD
  | [], [], env => some env
  | l :: ls, d :: ds, env => (storeLV P l d env).bind fun e => storeLVs ls ds e
  | _, _, _ => none
mutual
def evS : S → EnvD → Option (Fl × EnvD)
  | .asg t e, env => (evM P false e env).bind fun x => (bindT t x.1 x.2).map fun e' => (.nx, e')
  | .par is es, env => (evMs P false es env).bind fun x => (bindN is x.1 x.2).map fun e' => (.nx, e')
  | .sto i path k e, env => (evM P false e env).bind fun x => (evPath P path x.2).bind fun y => (getE y.2 i).bind fun _ => (evKey P k y.2).bind fun z =>
      (updE i y.1 (fun c => setD c z.1 x.1) z.2).map fun e' => (.nx, e')
  | .stoT ts e, env => (evM P false e env).bind fun x => match x.1 with
    | .tup ds => (storeLVs P ts ds x.2).map fun e' => (.nx, e')
    | _ => none
  | .aug i o e, env => (getE env i).bind fun x => (evA P false e env).bind fun y => (y.1.get y.2).bind fun d => (augD o x d).bind fun r =>
      if i < env.length then some (.nx, y.2.set i (some r)) else none
  | .augS i path k o e, env => (evPath P path env).bind fun y => (getE y.2 i).bind fun _ => (evKey P k y.2).bind fun z => (getE z.2 i).bind fun r => (getP r (y.1 ++ [z.1])).bind fun old =>
      (evA P true e z.2).bind fun x => (x.1.get x.2).bind fun d => (augD o old d).bind fun new => (updE i y.1 (fun c => setD c z.1 new) x.2).map fun e' => (.nx, e')
  | .app i path e, env => (evPath P path env).bind fun y => ((getE y.2 i).bind D.lst?).bind fun _ => (evM P (!path.isEmpty) e y.2).bind fun x => (updE i y.1 (appD x.1) x.2).map fun e' => (.nx, e')
  | .ext i path e, env => (evPath P path env).bind fun y => ((getE y.2 i).bind D.lst?).bind fun _ => (evA P (!path.isEmpty) e y.2).bind fun x => (x.1.get x.2).bind fun d => (updE i y.1 (extD d) x.2).map fun e' => (.nx, e')
  | .rem i path e, env => (evPath P path env).bind fun y => ((getE y.2 i).bind D.lst?).bind fun _ => (evA P (!path.isEmpty) e y.2).bind fun x => (x.1.get x.2).bind fun d => (updE i y.1 (remD d) x.2).map fun e' => (.nx, e')
  | .ex e, env => (evA P false e env).map fun x => (.nx, x.2)
  | .ite c a b, env => (evT P false c env).bind fun x => if x.1 then evSs a x.2 else evSs b x.2
  | .whl c b, env => whileF (evT P false c) (evSs b) env
  | .for_ tg k src b, env => (evAs P false src env).bind fun x => (forC k x.1 x.2).bind fun s => (loopF (fun d e => (bindT tg d e).bind (evSs b)) s.its s.env).map fun r => (r.1, unlend s.lent r.2)
  | .ret e, env => (evM P false e env).map fun x => (.rt x.1, x.2)
  | .retN, env => some (.rt .non, env)
  | .brk, env => some (.bk, env)
  | .cnt, env => some (.ct, env)
  | .pass, env => some (.nx, env)
def evSs : List S → EnvD → Option (Fl × EnvD)
  | [], env => some (.nx, env)
  | s :: r, env => (evS s env).bind fun x => match x.1 with
    | .nx => evSs r x.2
    | f => some (f, x.2)
end
end

/-- a def: its parameters, its slots, the parameters that are bound anew within -/
structure FD where
  np : Nat
  ns : Nat
  re : List Nat
  body : List S
/-- what stands at the parameters behind a call -/
def backP (re : List Nat) : Nat → List D → EnvD → Option (List D)
  | _, [], _ => some []
  | i, d :: ds, env => (if d.plain then some d else if re.contains i then none else getE env i).bind fun x => (backP re (i + 1) ds env).map fun xs => x :: xs
def runF (P : Ctx) (f : FD) (ds : List D) : Option (D × List D) :=
  if ds.length = f.np then
    (evSs P f.body (ds.map some ++ List.replicate (f.ns - f.np) none)).bind fun x => match x.1 with
      | .rt r => (backP f.re 0 ds x.2).map fun ds' => (r, ds')
      | .nx => (backP f.re 0 ds x.2).map fun ds' => (.non, ds')
      | _ => none
  else none
def evF (T : List FD) : Nat → Nat → List D → Option (D × List D)
  | 0, _, _ => none
  | k + 1, f, ds => (T[f]?).bind fun fd => runF ⟨evF T k⟩ fd ds
end DL
end

section
/-! DL3: readings by the evaluator; how operands follow one another. -/
namespace DL
open PySem PySem.Spec L2

section
variable (K : PySem.W.Frag)
def AD (Z : Addr → Prop) (H : Hp) (σ : L2.St) : A → V → Cnt → Prop
  | .tmp d, v, c => Den K Z H d v c
  | .ref i, v, c => σ[i]? = some (some v) ∧ c = zc
  | .pk d, v, c => (∃ c1, Den K Z H d v c1) ∧ c = zc
def ADs (Z : Addr → Prop) (H : Hp) (σ : L2.St) : List A → List V → Cnt → Prop
  | [], vs, c => vs = [] ∧ c = zc
  | a :: as, vs, c => ∃ v r c1 c2, vs = v :: r ∧ AD K Z H σ a v c1 ∧ ADs Z H σ as r c2 ∧ c = add c1 c2
/-- a value is looked at -/
def DenB (Z : Addr → Prop) (H : Hp) : List D → List V → Prop
  | [], vs => vs = []
  | d :: ds, vs => ∃ v r c, vs = v :: r ∧ Den K Z H d v c ∧ DenB Z H ds r

/-- what follows an operand -/
def Aft (m : Bool) (Z : Addr → Prop) (H : Hp) (c : Cnt) (σ : L2.St) (env' : EnvD) (R : Addr → Prop) (Z' : Addr → Prop) (H' : Hp) (c' ca : Cnt) : Prop :=
  ED K Z' H' env' σ c' ∧ Gd Z' H' (add c' ca) ∧ Fr m Z H c Z' H' (add c' ca) ∧ (m = true → ∀ b, H b ≠ none → ca b = 0)

variable (P : Ctx)
def tE (e : E) : TE := fun σ H Q => ∃ m Z c env a env', ED K Z H env σ c ∧ Gd Z H c ∧ evA P m e env = some (a, env') ∧
  ∀ v H' Z' c' ca, ED K Z' H' env' σ c' → AD K Z' H' σ a v ca → Gd Z' H' (add c' ca) → Fr m Z H c Z' H' (add c' ca) → (m = true → ∀ b, H b ≠ none → ca b = 0) → Q v H'
def tT (e : T) : TT := fun σ H Q => ∃ m Z c env b env', ED K Z H env σ c ∧ Gd Z H c ∧ evT P m e env = some (b, env') ∧
  ∀ H' Z' c', ED K Z' H' env' σ c' → Gd Z' H' c' → Fr m Z H c Z' H' c' → Q b H'
def tEs (es : List E) : TA := fun σ H Q => ∃ m Z c env as env', ED K Z H env σ c ∧ Gd Z H c ∧ evAs P m es env = some (as, env') ∧
  ∀ vs H' Z' c' ca, ED K Z' H' env' σ c' → ADs K Z' H' σ as vs ca → Gd Z' H' (add c' ca) → Fr m Z H c Z' H' (add c' ca) → (m = true → ∀ b, H b ≠ none → ca b = 0) → Q vs H'
def tMs (es : List E) : TA := fun σ H Q => ∃ m Z c env ds env', ED K Z H env σ c ∧ Gd Z H c ∧ evMs P m es env = some (ds, env') ∧
  ∀ vs H' Z' c' ca, ED K Z' H' env' σ c' → Dens K Z' H' ds vs ca → Gd Z' H' (add c' ca) → Fr m Z H c Z' H' (add c' ca) → (m = true → ∀ b, H b ≠ none → ca b = 0) → Q vs H'
/-- readings one after another -/
def tL : List TE → TA
  | [] => tNil
  | t :: ts => tCons t (tL ts)
end

section
variable {X : Cx} {p : PySem.Expr}
theorem PE.imp {t t' : TE} (h : PE X p t) (f : ∀ σ H Q, t' σ H Q → t σ H Q) : PE X p t' := ⟨fun pins s σ H Q I q => h.run pins s σ H Q I (f σ H Q q)⟩
theorem PT.imp {t t' : TT} (h : PT X p t) (f : ∀ σ H Q, t' σ H Q → t σ H Q) : PT X p t' := ⟨fun pins s σ H Q I q => h.run pins s σ H Q I (f σ H Q q)⟩
theorem PA.imp {ps : List PySem.Expr} {t t' : TA} (h : PA X ps t) (f : ∀ σ H Q, t' σ H Q → t σ H Q) : PA X ps t' := ⟨fun pos pins s σ H Q I q => h.run pos pins s σ H Q I (f σ H Q q)⟩
theorem PS.imp {st : Stmt} {t t' : TS} (h : PS X st t) (f : ∀ D σ H, t' D σ H → t D σ H) : PS X st t' := ⟨fun pins s σ H D I q => h.run pins s σ H D I (f D σ H q)⟩
theorem PSs.imp {st : List Stmt} {t t' : TS} (h : PSs X st t) (f : ∀ D σ H, t' D σ H → t D σ H) : PSs X st t' := ⟨fun pins s σ H D I q => h.run pins s σ H D I (f D σ H q)⟩
end

section
variable {K : PySem.W.Frag} {Z Z' : Addr → Prop} {H H' : Hp} {σ : L2.St} {c c' ca e : Cnt} {m m' : Bool} {env env' : EnvD}
theorem AD.loc {a : A} {v : V} (hz : ∀ a, Z a → Z' a) (h : ∀ b o, H b = some o → (isMut o = false ∨ Z b ∨ ca b ≠ 0) → H' b = some o) (hp : ∀ d, a = .pk d → ∀ b o, H b = some o → H' b = some o) (q : AD K Z H σ a v ca) : AD K Z' H' σ a v ca := by
  cases a with
  | tmp d => exact Den.loc hz h q
  | ref i => exact q
  | pk d =>
    obtain ⟨⟨c1, q⟩, e⟩ := q
    exact ⟨⟨c1, Den.loc hz (fun b o x _ => hp d rfl b o x) q⟩, e⟩
theorem DenB.len : ∀ {ds : List D} {vs : List V}, DenB K Z H ds vs → vs.length = ds.length
  | [], vs, q => by
    have q : vs = [] := q
    subst q; rfl
  | d :: ds, _, q => by obtain ⟨v, r, c, rfl, _, q⟩ := q; simp [DenB.len q]
/-- the operands, looked at -/
theorem ADs.look : ∀ {as : List A} {vs : List V} {ca : Cnt} {ds : List D}, ED K Z H env σ c → ADs K Z H σ as vs ca → A.gets env as = some ds → DenB K Z H ds vs
  | [], _, _, _, _, q, g => by
    obtain ⟨rfl, _⟩ := q
    have e : some [] = some _ := g
    cases e; rfl
  | a :: as, _, _, ds, E, q, g => by
    obtain ⟨v, r, c1, c2, rfl, q1, q2, rfl⟩ := q
    have g : ((A.get env a).bind fun d => (A.gets env as).map fun ds => d :: ds) = some ds := g
    cases h1 : A.get env a with
    | none => rw [h1] at g; cases g
    | some d =>
      rw [h1] at g
      cases h2 : A.gets env as with
      | none => rw [h2] at g; cases g
      | some ds' =>
        rw [h2] at g
        cases g
        refine ⟨v, r, ?_⟩
        have rest := ADs.look E q2 h2
        cases a with
        | tmp d' => cases h1; exact ⟨_, rfl, q1, rest⟩
        | pk d' => cases h1; obtain ⟨⟨c3, q1⟩, _⟩ := q1; exact ⟨_, rfl, q1, rest⟩
        | ref i =>
          have h1 : (env[i]?).join = some d := h1
          have h3 : env[i]? = some (some d) := by
            cases h : env[i]? with
            | none => rw [h] at h1; cases h1
            | some x => rw [h] at h1; rw [show x = some d from h1]
          obtain ⟨w, k1, k2, e1, q3, _, _⟩ := E.take h3
          rw [q1.1] at e1; cases e1
          exact ⟨_, rfl, q3, rest⟩
theorem getE_some {i : Nat} {d : D} (h : getE env i = some d) : env[i]? = some (some d) := by
  have h : (env[i]?).join = some d := h
  cases g : env[i]? with
  | none => rw [g] at h; cases h
  | some x => rw [g] at h; rw [show x = some d from h]
/-- an operand is kept -/
theorem mat_ok {a : A} {v : V} {d : D} (E : ED K Z H env σ c) (q : AD K Z H σ a v ca) (G : Gd Z H (add c ca)) (e : mat m a env = some (d, env')) :
    ∃ Z' c' cd, ED K Z' H env' σ c' ∧ Den K Z' H d v cd ∧ Gd Z' H (add c' cd) ∧ Fr m Z H (add c ca) Z' H (add c' cd) ∧ (∀ b, cd b ≤ ca b) := by
  cases a with
  | tmp d' => cases e; exact ⟨Z, c, ca, E, q, G, Fr.refl, fun _ => Nat.le_refl _⟩
  | pk d' => cases e
  | ref i =>
    cases m with
    | true => cases e
    | false =>
      have e : (getE env i).map (fun d => (d.freeze, env.set i (some d.freeze))) = some (d, env') := e
      cases g : getE env i with
      | none => rw [g] at e; cases e
      | some x =>
        rw [g] at e; cases e
        obtain ⟨hv, rfl⟩ := q
        have hg := getE_some g
        obtain ⟨w, c1, c2, e1, q1, q2, rfl⟩ := E.take hg
        rw [hv] at e1; cases e1
        have gd : ∀ a, c1 a ≠ 0 → MutA H a := fun a x => (G a).2.1 (by simp only [add]; omega)
        refine ⟨fun a => Z a ∨ c1 a ≠ 0, c2, zc, ?_, Den.frz (fun _ => .inl) (fun _ => .inr) q1, ?_, ?_, fun _ => Nat.zero_le _⟩
        · have r := ED.put (i := i) (ED.loc (Z' := fun a => Z a ∨ c1 a ≠ 0) (H' := H) (fun _ => .inl) (fun _ _ h _ => h) q2) (List.getElem?_eq_some_iff.mp hg).1 (Den.frz (W := fun a => Z a ∨ c1 a ≠ 0) (fun _ => .inl) (fun _ => .inr) q1)
          rw [zc_add, set_self hv] at r
          exact r
        · intro a
          obtain ⟨g1, g2, g3⟩ := G a
          simp only [add, zc] at *
          refine ⟨by omega, fun x => g2 (by omega), fun z => ?_⟩
          rcases z with z | z
          · exact ⟨by have := (g3 z).1; omega, (g3 z).2⟩
          · exact ⟨by omega, (gd a z).ne⟩
        · intro a
          simp only [add, zc]
          exact ⟨.inl, fun n => n, fun _ _ => trivial, fun n x => ⟨by omega, fun z => z.elim id fun y => absurd (by omega) y⟩⟩
/-- one operand ahead of others -/
theorem frame_step {Z1 : Addr → Prop} {H1 : Hp} {c1 ca1 c2 : Cnt} {a : A} {v : V} (G1 : Gd Z1 H1 (add c1 ca1)) (q : AD K Z1 H1 σ a v ca1)
    (f2 : Fr m' Z1 H1 c1 Z' H' c2) (G2 : Gd Z' H' c2) (hm : ∀ d, a = .pk d → m' = true) :
    AD K Z' H' σ a v ca1 ∧ Gd Z' H' (add c2 ca1) ∧ Fr m' Z1 H1 (add c1 ca1) Z' H' (add c2 ca1) := by
  obtain ⟨g, f⟩ := f2.ext G1 G2
  refine ⟨AD.loc f2.zz (f2.keep G1) (fun d h => ?_) q, g, f⟩
  have := hm d h
  subst this
  exact f2.pure
end

section
variable {K : PySem.W.Frag} {P : Ctx}
theorem Fr.low {Z Z' : Addr → Prop} {H H' : Hp} {c c' : Cnt} {m m' : Bool} (f : Fr m' Z H c Z' H' c') (h : m = true → m' = true) : Fr m Z H c Z' H' c' := fun a => by
  obtain ⟨f1, f2, f3, f4⟩ := f a
  exact ⟨f1, f2, fun n x => f3 n (x.elim (fun y => .inl (h y)) .inr), f4⟩
theorem seqL : ∀ {es : List E} {σ : L2.St} {H : Hp} {Q : List V → Hp → Prop}, tEs K P es σ H Q → tL (es.map (tE K P)) σ H Q
  | [], σ, H, Q, h => by
    obtain ⟨m, Z, c, env, as, env', E, G, e, k⟩ := h
    cases e
    exact k [] H Z c zc E ⟨rfl, rfl⟩ (by rw [add_zc]; exact G) (by rw [add_zc]; exact Fr.refl) fun _ _ _ => rfl
  | e :: es, σ, H, Q, h => by
    obtain ⟨m, Z, c, env, as, env', E, G, ev, k⟩ := h
    have ev : ((evA P m e env).bind fun x => (evAs P (m || x.1.isPk) es x.2).map fun y => (x.1 :: y.1, y.2)) = some (as, env') := ev
    cases h1 : evA P m e env with
    | none => rw [h1] at ev; cases ev
    | some x =>
      obtain ⟨a, env1⟩ := x
      rw [h1] at ev
      have ev : (evAs P (m || a.isPk) es env1).map (fun y => (a :: y.1, y.2)) = some (as, env') := ev
      cases h2 : evAs P (m || a.isPk) es env1 with
      | none => rw [h2] at ev; cases ev
      | some y =>
        obtain ⟨as', env2⟩ := y
        rw [h2] at ev
        cases ev
        refine ⟨m, Z, c, env, a, env1, E, G, h1, fun v H1 Z1 c1 ca1 E1 q1 G1 F1 M1 => ?_⟩
        refine seqL (es := es) ⟨m || a.isPk, Z1, c1, env1, as', env2, E1, G1.le (fun a => by simp only [add]; omega), h2, fun vs H2 Z2 c2 ca2 E2 q2 G2 F2 M2 => ?_⟩
        obtain ⟨q1', G', F'⟩ := frame_step G1 q1 F2 G2 (fun d h => by subst h; simp [A.isPk])
        have ee : add (add c2 ca2) ca1 = add c2 (add ca1 ca2) := by funext a; simp only [add]; omega
        rw [ee] at G' F'
        refine k (v :: vs) H2 Z2 c2 (add ca1 ca2) E2 ⟨v, vs, ca1, ca2, rfl, q1', q2, rfl⟩ G' (F1.trans (F'.low (by intro x; simp [x]))) fun x b hb => ?_
        have n1 : H1 b ≠ none := (F1 b).2.1 hb
        have := M1 x b hb
        have := M2 (by simp [x]) b n1
        simp only [add]; omega
theorem seqM : ∀ {es : List E} {σ : L2.St} {H : Hp} {Q : List V → Hp → Prop}, tMs K P es σ H Q → tL (es.map (tE K P)) σ H Q
  | [], σ, H, Q, h => by
    obtain ⟨m, Z, c, env, as, env', E, G, e, k⟩ := h
    cases e
    exact k [] H Z c zc E ⟨rfl, rfl⟩ (by rw [add_zc]; exact G) (by rw [add_zc]; exact Fr.refl) fun _ _ _ => rfl
  | e :: es, σ, H, Q, h => by
    obtain ⟨m, Z, c, env, as, env', E, G, ev, k⟩ := h
    have ev : (((evA P m e env).bind fun x => mat m x.1 x.2).bind fun x => (evMs P m es x.2).map fun y => (x.1 :: y.1, y.2)) = some (as, env') := ev
    cases h1 : evA P m e env with
    | none => rw [h1] at ev; cases ev
    | some x =>
      obtain ⟨a, env1⟩ := x
      rw [h1] at ev
      have ev : ((mat m a env1).bind fun x => (evMs P m es x.2).map fun y => (x.1 :: y.1, y.2)) = some (as, env') := ev
      cases h0 : mat m a env1 with
      | none => rw [h0] at ev; cases ev
      | some x0 =>
        obtain ⟨d, env1'⟩ := x0
        rw [h0] at ev
        have ev : (evMs P m es env1').map (fun y => (d :: y.1, y.2)) = some (as, env') := ev
        cases h2 : evMs P m es env1' with
        | none => rw [h2] at ev; cases ev
        | some y =>
          obtain ⟨ds, env2⟩ := y
          rw [h2] at ev
          cases ev
          refine ⟨m, Z, c, env, a, env1, E, G, h1, fun v H1 Z1 c1 ca1 E1 q1 G1 F1 M1 => ?_⟩
          obtain ⟨Z1', c1', cd, E1', q1', G1', F1', le⟩ := mat_ok E1 q1 G1 h0
          refine seqM (es := es) ⟨m, Z1', c1', env1', ds, env2, E1', G1'.le (fun a => by simp only [add]; omega), h2, fun vs H2 Z2 c2 ca2 E2 q2 G2 F2 M2 => ?_⟩
          obtain ⟨q1'', G', F'⟩ := frame_step (σ := σ) (a := .tmp d) G1' q1' F2 G2 (fun d h => by cases h)
          have ee : add (add c2 ca2) cd = add c2 (add cd ca2) := by funext a; simp only [add]; omega
          rw [ee] at G' F'
          refine k (v :: vs) H2 Z2 c2 (add cd ca2) E2 ⟨v, vs, cd, ca2, rfl, q1'', q2, rfl⟩ G' ((F1.trans F1').trans F') fun x b hb => ?_
          have n1 : H1 b ≠ none := (F1 b).2.1 hb
          have := M1 x b hb
          have := M2 x b n1
          have := le b
          simp only [add]; omega

/-! ### operations that look and make at most a new object -/
def OpOk (K : PySem.W.Frag) (o : Op) (r : List V → Hp → VK → Prop) : Prop :=
  ∀ (Z : Addr → Prop) (H : Hp) (c : Cnt) (ds : List D) (vs : List V) (d : D) (Q : VK), DenB K Z H ds vs → Gd Z H c → opD o ds = some d →
    (∀ v H' ca, Den K Z H' d v ca → Gd Z H' (add c ca) → (∀ a u, H a = some u → H' a = some u) → (∀ a, H a ≠ none → ca a = 0) → Q v H') → r vs H Q
theorem op_in {o : Op} {es : List E} {r : List V → Hp → VK → Prop} (ho : OpOk K o r) {σ : L2.St} {H : Hp} {Q : VK} (h : tE K P (.op o es) σ H Q) : tL (es.map (tE K P)) σ H (fun vs H1 => r vs H1 Q) := by
  obtain ⟨m, Z, c, env, a, env', E, G, ev, k⟩ := h
  have ev : ((evAs P m es env).bind fun x => (A.gets x.2 x.1).bind fun ds => (opD o ds).map fun d => (A.tmp d, x.2)) = some (a, env') := ev
  cases h1 : evAs P m es env with
  | none => rw [h1] at ev; cases ev
  | some x =>
    obtain ⟨as, env1⟩ := x
    rw [h1] at ev
    have ev : ((A.gets env1 as).bind fun ds => (opD o ds).map fun d => (A.tmp d, env1)) = some (a, env') := ev
    cases h2 : A.gets env1 as with
    | none => rw [h2] at ev; cases ev
    | some ds =>
      rw [h2] at ev
      have ev : (opD o ds).map (fun d => (A.tmp d, env1)) = some (a, env') := ev
      cases h3 : opD o ds with
      | none => rw [h3] at ev; cases ev
      | some d =>
        rw [h3] at ev
        have ev : some (A.tmp d, env1) = some (a, env') := ev
        injection ev with ev
        injection ev with ea eb
        subst ea eb
        refine seqL ⟨m, Z, c, env, as, env1, E, G, h1, fun vs H1 Z1 c1 ca1 E1 q1 G1 F1 M1 => ?_⟩
        refine ho Z1 H1 (add c1 ca1) ds vs d Q (ADs.look E1 q1 h2) G1 h3 fun v H2 ca2 q2 G2 keep fresh => ?_
        have F2 : Fr m Z1 H1 (add c1 ca1) Z1 H2 (add (add c1 ca1) ca2) := fun a => by
          refine ⟨fun z => z, fun n => ?_, fun n _ => ?_, fun n x => ⟨by have := fresh a n; simp only [add] at *; omega, fun z => z⟩⟩
          · obtain ⟨o, ho⟩ := Option.ne_none_iff_exists'.mp n
            rw [keep a o ho]; simp
          · obtain ⟨o, ho⟩ := Option.ne_none_iff_exists'.mp n
            rw [keep a o ho, ho]
        refine k v H2 Z1 c1 ca2 (ED.loc (fun _ z => z) (fun a o h _ => keep a o h) E1) q2 (G2.le fun a => by simp only [add]; omega) ((F1.trans F2).lessR fun a => by simp only [add]; omega) fun x b hb => fresh b ((F1 b).2.1 hb)
/-- .. as a test -/
theorem op_inT {o : Op} {es : List E} {r : List V → Hp → VK → Prop} (ho : OpOk K o r) {σ : L2.St} {H : Hp} {Q : Bool → Hp → Prop} (hb : ∀ ds d t, opD o ds = some d → d.truthy = some t → d = .bl t) (h : tT K P (.val (.op o es)) σ H Q) :
    tL (es.map (tE K P)) σ H (fun vs H1 => r vs H1 (fun x H2 => ∃ k, x = .bl k ∧ Q k H2)) := by
  obtain ⟨m, Z, c, env, b, env', E, G, ev, k⟩ := h
  have ev : ((evA P m (.op o es) env).bind fun x => (x.1.get x.2).bind fun d => (d.truthy).map fun t => (t, x.2)) = some (b, env') := ev
  cases h1 : evA P m (.op o es) env with
  | none => rw [h1] at ev; cases ev
  | some x =>
    obtain ⟨a, env1⟩ := x
    rw [h1] at ev
    have h1' : ((evAs P m es env).bind fun x => (A.gets x.2 x.1).bind fun ds => (opD o ds).map fun d => (A.tmp d, x.2)) = some (a, env1) := h1
    have ha : ∃ ds d, opD o ds = some d ∧ a = .tmp d := by
      cases g1 : evAs P m es env with
      | none => rw [g1] at h1'; cases h1'
      | some y =>
        rw [g1] at h1'
        have h1' : ((A.gets y.2 y.1).bind fun ds => (opD o ds).map fun d => (A.tmp d, y.2)) = some (a, env1) := h1'
        cases g2 : A.gets y.2 y.1 with
        | none => rw [g2] at h1'; cases h1'
        | some ds =>
          rw [g2] at h1'
          have h1' : (opD o ds).map (fun d => (A.tmp d, y.2)) = some (a, env1) := h1'
          cases g3 : opD o ds with
          | none => rw [g3] at h1'; cases h1'
          | some d => rw [g3] at h1'; cases h1'; exact ⟨ds, d, g3, rfl⟩
    obtain ⟨ds, d, g3, rfl⟩ := ha
    have ev : (d.truthy).map (fun t => (t, env1)) = some (b, env') := ev
    cases g4 : d.truthy with
    | none => rw [g4] at ev; cases ev
    | some t =>
      rw [g4] at ev
      have ev : some (t, env1) = some (b, env') := ev
      injection ev with ev
      injection ev with ea eb
      subst ea eb
      have e := hb ds d t g3 g4
      subst e
      refine op_in ho ⟨m, Z, c, env, _, env1, E, G, h1, fun v H' Z' c' ca E' q' G' F' M' => ?_⟩
      obtain ⟨rfl, rfl⟩ := q'
      rw [add_zc] at G' F'
      exact ⟨t, rfl, k H' Z' c' E' G' F'⟩
end
end DL
end

section
/-! DL4: the operations, each with its rule. -/
namespace DL
open PySem PySem.Spec L2

section
variable {K : PySem.W.Frag} {Z : Addr → Prop} {H : Hp}
theorem DenB.i1 {d : D} {vs : List V} (h : DenB K Z H [d] vs) : ∃ v c, vs = [v] ∧ Den K Z H d v c := by
  obtain ⟨v, r, c, rfl, q, h⟩ := h
  have h : r = [] := h
  subst h
  exact ⟨v, c, rfl, q⟩
theorem DenB.i2 {d e : D} {vs : List V} (h : DenB K Z H [d, e] vs) : ∃ v u c c', vs = [v, u] ∧ Den K Z H d v c ∧ Den K Z H e u c' := by
  obtain ⟨v, r, c, rfl, q, h⟩ := h
  obtain ⟨u, c', rfl, p⟩ := DenB.i1 h
  exact ⟨v, u, c, c', rfl, q, p⟩
theorem DenB.i3 {d e f : D} {vs : List V} (h : DenB K Z H [d, e, f] vs) : ∃ v u w c c' c'', vs = [v, u, w] ∧ Den K Z H d v c ∧ Den K Z H e u c' ∧ Den K Z H f w c'' := by
  obtain ⟨v, r, c, rfl, q, h⟩ := h
  obtain ⟨u, w, c', c'', rfl, p, p'⟩ := DenB.i2 h
  exact ⟨v, u, w, c, c', c'', rfl, q, p, p'⟩
theorem Den.lstI {o : Bool} {ds : List D} {v : V} {c : Cnt} (q : Den K Z H (.lst o ds) v c) : ∃ a vs c', v = .ref a ∧ H a = some (.lst vs) ∧ Dens K Z H ds vs c' := by
  cases o with
  | true => obtain ⟨a, vs, c', e, h, q, _⟩ := q; exact ⟨a, vs, c', e, h, q⟩
  | false => obtain ⟨a, vs, e, h, z, q, _⟩ := q; exact ⟨a, vs, zc, e, h, q⟩
theorem Den.dKI {o : Bool} {ks : List Key} {ds : List D} {v : V} {c : Cnt} (q : Den K Z H (.dK o ks ds) v c) : ∃ a kvs c', v = .ref a ∧ H a = some (.dK kvs) ∧ (kvs.map (·.1) = ks ∧ ks.Nodup) ∧ Dens K Z H ds (kvs.map (·.2)) c' := by
  cases o with
  | true => obtain ⟨a, vs, c', e, h, k, q, _⟩ := q; exact ⟨a, vs, c', e, h, k, q⟩
  | false => obtain ⟨a, vs, e, h, k, z, q, _⟩ := q; exact ⟨a, vs, zc, e, h, k, q⟩
theorem Den.dTI {o : Bool} {ks : List (List Key)} {ds : List D} {v : V} {c : Cnt} (q : Den K Z H (.dT o ks ds) v c) : ∃ a kvs c', v = .ref a ∧ H a = some (.dT kvs) ∧ (kvs.map (·.1) = ks ∧ ks.Nodup) ∧ Dens K Z H ds (kvs.map (·.2)) c' := by
  cases o with
  | true => obtain ⟨a, vs, c', e, h, k, q, _⟩ := q; exact ⟨a, vs, c', e, h, k, q⟩
  | false => obtain ⟨a, vs, e, h, k, z, q, _⟩ := q; exact ⟨a, vs, zc, e, h, k, q⟩
theorem Dens.pl' {ds : List D} {vs : List V} {c : Cnt} (p : D.plains ds = true) (q : Dens K Z H ds vs c) : Dens K Z H ds vs zc := by
  have e := Dens.pl p q
  rw [e] at q; exact q
theorem ints_of : ∀ {ds : List D} {ns : List Int}, ints? ds = some ns → ds = ns.map D.int
  | [], _, h => by cases h; rfl
  | .int i :: ds, _, h => by
    have h : (ints? ds).map (fun r => i :: r) = some _ := h
    cases g : ints? ds with
    | none => rw [g] at h; cases h
    | some r => rw [g] at h; cases h; rw [ints_of g]; rfl
  | .non :: _, _, h => by cases h
  | .bl _ :: _, _, h => by cases h
  | .str _ :: _, _, h => by cases h
  | .tup _ :: _, _, h => by cases h
  | .lst _ _ :: _, _, h => by cases h
  | .dK _ _ _ :: _, _, h => by cases h
  | .dT _ _ _ :: _, _, h => by cases h
  | .scr _ :: _, _, h => by cases h
theorem ints_map : ∀ ns : List Int, ints? (ns.map D.int) = some ns
  | [] => rfl
  | n :: ns => by
    show (ints? (ns.map D.int)).map (fun r => n :: r) = _
    rw [ints_map ns]; rfl
theorem bls_of : ∀ {ds : List D} {ns : List Bool}, bls? ds = some ns → ds = ns.map D.bl
  | [], _, h => by cases h; rfl
  | .bl i :: ds, _, h => by
    have h : (bls? ds).map (fun r => i :: r) = some _ := h
    cases g : bls? ds with
    | none => rw [g] at h; cases h
    | some r => rw [g] at h; cases h; rw [bls_of g]; rfl
  | .non :: _, _, h => by cases h
  | .int _ :: _, _, h => by cases h
  | .str _ :: _, _, h => by cases h
  | .tup _ :: _, _, h => by cases h
  | .lst _ _ :: _, _, h => by cases h
  | .dK _ _ _ :: _, _, h => by cases h
  | .dT _ _ _ :: _, _, h => by cases h
  | .scr _ :: _, _, h => by cases h
theorem bls_map : ∀ ns : List Bool, bls? (ns.map D.bl) = some ns
  | [] => rfl
  | n :: ns => by
    show (bls? (ns.map D.bl)).map (fun r => n :: r) = _
    rw [bls_map ns]; rfl
theorem Dens.ints : ∀ {ns : List Int} {vs : List V} {c : Cnt}, Dens K Z H (ns.map D.int) vs c → vs = ns.map V.int
  | [], _, _, q => q.1
  | n :: ns, _, _, q => by
    obtain ⟨v, r, c1, c2, rfl, q1, q2, _⟩ := q
    rw [Dens.ints q2, q1.1]; rfl
theorem Dens.bls : ∀ {ns : List Bool} {vs : List V} {c : Cnt}, Dens K Z H (ns.map D.bl) vs c → vs = ns.map V.bl
  | [], _, _, q => q.1
  | n :: ns, _, _, q => by
    obtain ⟨v, r, c1, c2, rfl, q1, q2, _⟩ := q
    rw [Dens.bls q2, q1.1]; rfl
theorem dens_ints : ∀ ns : List Int, Dens K Z H (ns.map D.int) (ns.map V.int) zc
  | [] => ⟨rfl, rfl⟩
  | n :: ns => ⟨_, _, zc, zc, rfl, ⟨rfl, rfl⟩, dens_ints ns, (add_zc _).symm⟩
mutual
theorem Den.dp : ∀ {d : D} {v : V} {c : Cnt}, d.py.canLay0 = true → Den K Z H d v c → Dp K H v d.py
  | .non, _, _, _, q => by rw [q.1]; exact .non
  | .bl b, _, _, _, q => by rw [q.1]; exact .bl b
  | .int i, _, _, _, q => by rw [q.1]; exact .int i
  | .str s, _, _, _, q => by rw [q.1]; exact .str s
  | .tup ds, _, _, p, q => by
    obtain ⟨a, vs, rfl, s, q⟩ := q
    exact .tup s (Dens.dp p q)
  | .lst o ds, _, _, p, q => by
    obtain ⟨a, vs, c', rfl, s, q⟩ := q.lstI
    exact .lst (SqL.of s) (Dens.dp p q)
  | .dK _ _ _, _, _, p, _ => by cases p
  | .dT _ _ _, _, _, p, _ => by cases p
  | .scr _, _, _, p, _ => by cases p
theorem Dens.dp : ∀ {ds : List D} {vs : List V} {c : Cnt}, PyData.canLayAll0 (D.pys ds) = true → Dens K Z H ds vs c → DpAll K H vs (D.pys ds)
  | [], _, _, _, q => by rw [q.1]; exact .nil
  | d :: ds, _, _, p, q => by
    obtain ⟨v, r, c1, c2, rfl, q1, q2, rfl⟩ := q
    have p : (d.py.canLay0 && PyData.canLayAll0 (D.pys ds)) = true := p
    rw [Bool.and_eq_true] at p
    exact .cons (Den.dp p.1 q1) (Dens.dp p.2 q2)
end
theorem shp_lay {d : D} (h : d.shp = true) : d.py.canLay0 = true := SeqAt.canLay_of_shaped h
theorem Den.flat {d : D} {v : V} {c : Cnt} (f : d.flat = true) (q : Den K Z H d v c) : L2.flatV v = true := by
  cases d with
  | non => rw [q.1]; rfl
  | bl b => rw [q.1]; rfl
  | int i => rw [q.1]; rfl
  | str s => rw [q.1]; rfl
  | _ => cases f
theorem Den.eqV {d e : D} {v u : V} {c c' : Cnt} (f : d.flat = true) (g : e.flat = true) (q : Den K Z H d v c) (p : Den K Z H e u c') : L2.eqV v u = d.eqv e := by
  cases d with
  | non => cases e with
    | _ => first | (rw [q.1, p.1]; rfl) | cases g
  | bl b => cases e with
    | _ => first | (rw [q.1, p.1]; rfl) | cases g
  | int i => cases e with
    | _ => first | (rw [q.1, p.1]; rfl) | cases g
  | str s => cases e with
    | _ => first | (rw [q.1, p.1]; rfl) | cases g
  | _ => cases f
theorem Dens.flatAll : ∀ {ds : List D} {vs : List V} {c : Cnt}, ds.all D.flat = true → Dens K Z H ds vs c → vs.all L2.flatV = true
  | [], _, _, _, q => by rw [q.1]; rfl
  | d :: ds, _, _, f, q => by
    obtain ⟨v, r, c1, c2, rfl, q1, q2, rfl⟩ := q
    rw [List.all_cons, Bool.and_eq_true] at f
    rw [List.all_cons, Den.flat f.1 q1, Dens.flatAll f.2 q2]; rfl
theorem Dens.inV {d : D} {v : V} {c' : Cnt} (fd : d.flat = true) (p : Den K Z H d v c') : ∀ {ds : List D} {vs : List V} {c : Cnt}, ds.all D.flat = true → Dens K Z H ds vs c → L2.inV v vs = inD d ds
  | [], _, _, _, q => by rw [q.1]; rfl
  | d :: ds, _, _, f, q => by
    obtain ⟨w, r, c1, c2, rfl, q1, q2, rfl⟩ := q
    rw [List.all_cons, Bool.and_eq_true] at f
    show (L2.eqV w v || L2.inV v r) = (d.eqv _ || inD _ ds)
    rw [Den.eqV f.1 fd q1 p, Dens.inV fd p f.2 q2]
end

/-! ### a new object as the answer -/
section
variable {K : PySem.W.Frag} {Z : Addr → Prop} {H : Hp} {c : Cnt} {d : D} {Q : VK}
abbrev OpK (K : PySem.W.Frag) (Z : Addr → Prop) (H : Hp) (c : Cnt) (d : D) (Q : VK) : Prop :=
  ∀ v H' ca, Den K Z H' d v ca → Gd Z H' (add c ca) → (∀ a u, H a = some u → H' a = some u) → (∀ a, H a ≠ none → ca a = 0) → Q v H'
theorem k_plain (k : OpK K Z H c d Q) (G : Gd Z H c) {v : V} (q : Den K Z H d v zc) : Q v H :=
  k v H zc q (by rw [add_zc]; exact G) (fun _ _ h => h) fun _ _ => rfl
theorem k_lst {ds : List D} {vs : List V} (k : OpK K Z H c (.lst true ds) Q) (G : Gd Z H c) (q : Dens K Z H ds vs zc) : ∀ p, H p = none → Q (.ref p) (upd H p (.lst vs)) := fun p hp =>
  k _ _ (one p) ⟨p, vs, zc, rfl, upd_same, Dens.loc (fun _ z => z) (fun a o h _ => keep_new hp a o h) q, (add_zc _).symm⟩ (by rw [add_comm]; exact G.new hp rfl) (keep_new hp) fun a h => one_ne fun e => h (e ▸ hp)
theorem k_tup {ds : List D} {vs : List V} (k : OpK K Z H c (.tup ds) Q) (G : Gd Z H c) (q : Dens K Z H ds vs zc) : ∀ p, H p = none → Q (.ref p) (upd H p (.tup vs)) := fun p hp =>
  k _ _ zc ⟨p, vs, rfl, SqT.of upd_same, Dens.loc (fun _ z => z) (fun a o h _ => keep_new hp a o h) q⟩ (by rw [add_zc]; exact G.newT hp) (keep_new hp) fun a h => rfl
end

/-! ### rules of two -/
def r2L (r : R2) : List V → Hp → VK → Prop
  | [x, y], H, Q => r x y H Q
  | _, _, _ => False
def r1L (r : V → Hp → VK → Prop) : List V → Hp → VK → Prop
  | [x], H, Q => r x H Q
  | _, _, _ => False

/-- () + t -/
theorem dl_addW0 (l b : Addr) (items items2 : Array Value) (n n2 : Nat) (dd dd2 : Option Addr) (sl sl2 : Array (Option Value)) (hc0 : items.isEmpty = true) :
    Meets (Builtin.«tuple.__add__» ⟨[.ref l, .ref b], []⟩) (fun _ R s => s.heap.get? l = some { cls := .type "tuple", dict := dd, data := .seq items n, slots := sl } ∧ s.heap.get? b = some { cls := .type "tuple", dict := dd2, data := .seq items2 n2, slots := sl2 } ∧ R (.ok (.ret (Value.ref b))) { s with heap := s.heap, toks := s.toks }) :=
  .of_wp fun prog w A R s h => by obtain ⟨hp, g, d, tk, os⟩ := s; obtain ⟨hl, hb, h⟩ := h; have f1 := AutoSeq1.idx_int; have f2 := AutoSeq1.sub_tuple_tuple; have f3 := AutoSeq1.sub_list_list; have f4 := AutoSeq1.sub_tuple_list; have f5 := AutoSeq1.sub_list_tuple; wp_walk using wpAny_loadPart' hl, wpAny_loadPart' hb; exact ⟨_, rfl, h⟩
end DL
end

section
/-! DL5: each operation keeps what the data say. -/
namespace DL
open PySem PySem.Spec L2
open PyProof.Rows hiding St

section
variable {X : Cx}
/-! ### rules that HandS has not -/
theorem dl_catT0 {prog : Program} {w : World} {A : Around} {E : Value → Shared → Prop} {s : Shared} {t b : Addr} {ws : List Value} {Q : Value → Shared → Prop} (ht : PyProof.Rows.IsTup s.heap t (#[] : Array Value)) (hb : PyProof.Rows.IsTup s.heap b ws.toArray)
    (h : Q (.ref b) s) : wpAny (model prog w) A (binaryOp .Add (.ref t) (.ref b)) Q E s := by
  obtain ⟨⟨cls, dd, data, sl⟩, ho, hc, n, hd⟩ := id ht
  obtain ⟨⟨cls2, dd2, data2, sl2⟩, ho2, hc2, n2, hd2⟩ := id hb
  simp only at hc hd hc2 hd2
  subst hc hd hc2 hd2
  exact concat_meets ⟨_, ho, rfl⟩ ⟨_, ho2, rfl⟩ noFill_tuple_add seq_tuple_add PySem.F.slot_tuple_add PySem.F.entry_tuple_add (PySem.F.args_tuple_add_2 _ _)
      (dl_addW0 t b #[] ws.toArray n n2 dd dd2 sl sl2 rfl) ⟨ho, ho2, h⟩
def rCatT0 (K : PySem.W.Frag) : R2 := fun x y H Q => ∃ a b ys, x = .ref a ∧ y = .ref b ∧ SqT K H a [] ∧ SqT K H b ys ∧ Q (.ref b) H
theorem op_catT0 : OpR X (binaryOp .Add) (rCatT0 X.K) := by
  intro pins s σ H x y v u Q I rx ry h
  obtain ⟨a, b, ys, rfl, rfl, ha, hb, q⟩ := h
  cases rx
  cases ry
  obtain ⟨its, r1, p1, _⟩ := I.tuple ha
  obtain ⟨its2, r2, p2, _⟩ := I.tuple hb
  cases r1
  exact dl_catT0 p1 p2 ⟨.ref b, H, I, rfl, q⟩
def CDivA (_ j : Int) : Prop := j ≠ 0 ∧ j.natAbs.log2 < 9000
theorem op_fdivA : OpR X (binaryOp .FloorDiv) (rI CDivA fun i j => .int (i.fdiv j)) := opI fun _ _ _ _ _ _ _ hc q => PyProof.Rows.floordiv_int hc.1 q (.inl (PyProof.noPylong_of_log2 hc.2))
def CMulA (i j : Int) : Prop := i.natAbs.log2 + j.natAbs.log2 < 1000000
theorem op_mulA : OpR X (binaryOp .Mult) (rI CMulA fun i j => .int (i * j)) := opI fun i j _ _ _ _ _ hc q => PyProof.Rows.mul_int q (by
  have b : ∀ x : Int, Builtin.Int.intBits x ≤ x.natAbs.log2 + 1 := fun x => by
    unfold Builtin.Int.intBits
    split <;> omega
  have h1 := b i
  have h2 := b j
  have h3 : i.natAbs.log2 + j.natAbs.log2 < 1000000 := hc
  have e : bitsLine = 134217728 := by decide
  unfold IntMulOk
  intro z
  rw [Bool.and_eq_true] at z
  have z2 := z.2
  unfold Builtin.Int.intTooBig at z2
  have z3 := of_decide_eq_true z2
  rw [e] at z3
  omega)
theorem iop_mulA : OpR X (inplaceOp .Mult) (rI CMulA fun i j => .int (i * j)) := opI fun i j _ _ _ _ _ hc q => PyProof.Rows.imul_int q (by
  have b : ∀ x : Int, Builtin.Int.intBits x ≤ x.natAbs.log2 + 1 := fun x => by
    unfold Builtin.Int.intBits
    split <;> omega
  have h1 := b i
  have h2 := b j
  have h3 : i.natAbs.log2 + j.natAbs.log2 < 1000000 := hc
  have e : bitsLine = 134217728 := by decide
  unfold IntMulOk
  intro z
  rw [Bool.and_eq_true] at z
  have z2 := z.2
  unfold Builtin.Int.intTooBig at z2
  have z3 := of_decide_eq_true z2
  rw [e] at z3
  omega)
theorem op_dIn (hu : X.A.units + 1 < cLine) : OpR X (compareOp .In) (fun x y H Q => ∃ a o, y = .ref a ∧ DGet H a x o ∧ Q (.bl o.isSome) H) := by
  intro pins s σ H x y v u Q I rx ry h
  obtain ⟨a, o, rfl, g, q⟩ := h
  cases ry
  exact d_in hu I g rx fun s' I' => ⟨.bl o.isSome, H, I', rfl, q⟩
theorem op_dNotIn (hu : X.A.units + 1 < cLine) : OpR X (compareOp .NotIn) (fun x y H Q => ∃ a o, y = .ref a ∧ DGet H a x o ∧ Q (.bl (!o.isSome)) H) := by
  intro pins s σ H x y v u Q I rx ry h
  obtain ⟨a, o, rfl, g, q⟩ := h
  cases ry
  exact d_notIn hu I g rx fun s' I' => ⟨.bl (!o.isSome), H, I', rfl, q⟩
theorem ix_dict (hu : X.A.units + 1 < cLine) : IxR X (fun x y H Q => ∃ a v, x = .ref a ∧ DGet H a y (some v) ∧ Q v H) := by
  intro value slice pins s σ H x y v u Q I rx ry h hs
  obtain ⟨a, w, rfl, g, q⟩ := h
  cases rx
  exact tail_any (dict_typeIs I g) PySem.F.slot_dict_getitem.lookup (d_getItem hu I g ry fun w' s' I' r' => ⟨w, H, I', r', q⟩) hs
end

section
variable {K : PySem.W.Frag}
/-! ### binary operations -/
def rBin (K : PySem.W.Frag) : Operator → R2
  | .Add => fun x y H Q => rI0 (fun i j => .int (i + j)) x y H Q ∨ (rCat x y H Q ∨ (rCatT K x y H Q ∨ rCatT0 K x y H Q))
  | .Sub => rI0 fun i j => .int (i - j)
  | .Mult => fun x y H Q => rI CMulA (fun i j => .int (i * j)) x y H Q ∨ rRep x y H Q
  | .FloorDiv => rI CDivA fun i j => .int (i.fdiv j)
  | .Mod => rI (fun _ j => j ≠ 0) fun i j => .int (i.fmod j)
  | .Pow => rI CPow fun i j => .int (i ^ j.toNat)
  | _ => fun _ _ _ _ => False
theorem op_none {X : Cx} {f : Value → Value → Sem Value} : OpR X f (fun _ _ _ _ => False) := fun _ _ _ _ _ _ _ _ _ _ _ _ h => h.elim
theorem op_bin {X : Cx} (o : Operator) : OpR X (binaryOp o) (rBin X.K o) := by
  cases o with
  | Add => exact op_add.or (op_cat.or (op_catT.or op_catT0))
  | Sub => exact op_sub
  | Mult => exact op_mulA.or op_rep
  | FloorDiv => exact op_fdivA
  | Mod => exact op_modN
  | Pow => exact op_pow
  | _ => exact op_none
theorem divD_eq (i j : Int) : divD i j = i.fdiv j := by
  unfold divD; split
  · rw [Int.fdiv_eq_ediv_of_nonneg i (by omega)]
  · rfl
theorem modD_eq (i j : Int) : modD i j = i.fmod j := by
  unfold modD; split
  · rw [Int.fmod_eq_emod_of_nonneg i (by omega)]
  · rfl
theorem dens_rep {Z : Addr → Prop} {H : Hp} {ds : List D} {vs : List V} (q : Dens K Z H ds vs zc) : ∀ n : Nat, Dens K Z H (List.replicate n ds).flatten (List.replicate n vs).flatten zc
  | 0 => ⟨rfl, rfl⟩
  | n + 1 => by
    rw [List.replicate_succ, List.replicate_succ, List.flatten_cons, List.flatten_cons]
    have := Dens.app q (dens_rep q n)
    rw [add_zc] at this
    exact this
theorem ok_bin (o : Operator) : OpOk K (.bin o) (r2L (rBin K o)) := by
  intro Z H c ds vs d Q B G e k
  rcases ds with _ | ⟨a, _ | ⟨b, _ | ⟨x, r⟩⟩⟩
  · cases e
  · cases e
  · obtain ⟨v, u, c1, c2, rfl, q1, q2⟩ := B.i2
    change binD o a b = some d at e
    show rBin K o v u H Q
    unfold binD at e
    split at e <;> first | (cases e; done) | skip
    · injection e with e; subst e
      exact .inl ⟨_, _, q1.1, q2.1, k_plain k G ⟨rfl, rfl⟩⟩
    · rename_i xs ys
      split at e
      · rename_i hc
        injection e with e; subst e
        rw [Bool.and_eq_true, Bool.and_eq_true] at hc
        obtain ⟨a, vs, rfl, s1, q1⟩ := q1
        obtain ⟨b, us, rfl, s2, q2⟩ := q2
        have l1 := q1.length
        have l2 := q2.length
        have hz : vs.length + us.length ≤ sizeLine := by
          have := of_decide_eq_true hc.2
          omega
        refine .inr (.inr ?_)
        have q1 := Dens.pl' hc.1.1 q1
        have q2 := Dens.pl' hc.1.2 q2
        have qq := Dens.app q1 q2
        rw [add_zc] at qq
        by_cases hv : vs = []
        · subst hv
          refine .inr ⟨a, b, us, rfl, rfl, s1, s2, k_plain k G ?_⟩
          have : xs = [] := by cases xs with | nil => rfl | cons _ _ => cases l1
          subst this
          exact ⟨b, us, rfl, s2, q2⟩
        · refine .inl ⟨a, b, vs, us, rfl, rfl, s1, s2, hv, hz, fun hu => ?_, fun hu => k_tup k G qq⟩
          subst hu
          have : ys = [] := by cases ys with | nil => rfl | cons _ _ => cases l2
          subst this
          refine k_plain k G ⟨a, vs, rfl, s1, ?_⟩
          rw [List.append_nil]; exact q1
      · cases e
    · rename_i xs ys
      split at e
      · rename_i hc
        injection e with e; subst e
        rw [Bool.and_eq_true, Bool.and_eq_true] at hc
        obtain ⟨a, vs, c1', rfl, s1, q1⟩ := q1.lstI
        obtain ⟨b, us, c2', rfl, s2, q2⟩ := q2.lstI
        have l1 := q1.length
        have l2 := q2.length
        have hz : vs.length + us.length ≤ sizeLine := by
          have := of_decide_eq_true hc.2
          omega
        have qq := Dens.app (Dens.pl' hc.1.1 q1) (Dens.pl' hc.1.2 q2)
        rw [add_zc] at qq
        exact .inr (.inl ⟨a, b, vs, us, rfl, rfl, s1, s2, hz, k_lst k G qq⟩)
      · cases e
    · injection e with e; subst e
      exact ⟨_, _, q1.1, q2.1, k_plain k G ⟨rfl, rfl⟩⟩
    · split at e
      · rename_i hc
        injection e with e; subst e
        exact .inl ⟨_, _, q1.1, q2.1, (by unfold mulOk at hc; unfold CMulA; exact of_decide_eq_true hc), k_plain k G ⟨rfl, rfl⟩⟩
      · cases e
    · split at e
      · rename_i hc
        injection e with e; subst e
        rw [Bool.and_eq_true, Bool.and_eq_true, Bool.and_eq_true] at hc
        obtain ⟨a, vs, c1', rfl, s1, q1⟩ := q1.lstI
        have l1 := q1.length
        have h1 := of_decide_eq_true hc.1.1.2
        have h2 := of_decide_eq_true hc.1.2
        have h3 := of_decide_eq_true hc.2
        refine .inr ⟨a, _, vs, rfl, q2.1, s1, by omega, by omega, by rw [l1]; exact h3, k_lst k G (dens_rep (Dens.pl' hc.1.1.1 q1) _)⟩
      · cases e
    · split at e
      · rename_i hc
        injection e with e; subst e
        unfold divOk at hc
        rw [Bool.and_eq_true] at hc
        refine ⟨_, _, q1.1, q2.1, ⟨of_decide_eq_true hc.1, of_decide_eq_true hc.2⟩, ?_⟩
        show Q (.int _) H
        rw [← divD_eq]
        exact k_plain k G ⟨rfl, rfl⟩
      · cases e
    · split at e
      · rename_i hc
        injection e with e; subst e
        refine ⟨_, _, q1.1, q2.1, of_decide_eq_true hc, ?_⟩
        show Q (.int _) H
        rw [← modD_eq]
        exact k_plain k G ⟨rfl, rfl⟩
      · cases e
    · split at e
      · rename_i hc
        injection e with e; subst e
        rw [Bool.and_eq_true, Bool.and_eq_true] at hc
        exact ⟨_, _, q1.1, q2.1, ⟨of_decide_eq_true hc.1.1, of_decide_eq_true hc.1.2, of_decide_eq_true hc.2⟩, k_plain k G ⟨rfl, rfl⟩⟩
      · cases e
  · cases e

/-! ### comparisons -/
def rCmp (K : PySem.W.Frag) : CmpOp → R2
  | .Eq => rEqD K
  | .NotEq => rNeD K
  | .Lt => rI0 fun i j => .bl (decide (i < j))
  | .LtE => rI0 fun i j => .bl (decide (i ≤ j))
  | .Gt => rI0 fun i j => .bl (decide (j < i))
  | .GtE => rI0 fun i j => .bl (decide (j ≤ i))
  | .In => fun x y H Q => rIn K false x y H Q ∨ ∃ a o, y = .ref a ∧ DGet H a x o ∧ Q (.bl o.isSome) H
  | .NotIn => fun x y H Q => rIn K true x y H Q ∨ ∃ a o, y = .ref a ∧ DGet H a x o ∧ Q (.bl (!o.isSome)) H
  | _ => fun _ _ _ _ => False
theorem op_cmp {X : Cx} (hr : Room 0 X.A) (o : CmpOp) : OpR X (compareOp o) (rCmp X.K o) := by
  cases o with
  | Eq => exact op_eqD hr.units
  | NotEq => exact op_neD hr.units
  | Lt => exact op_lt
  | LtE => exact op_le
  | Gt => exact op_gt
  | GtE => exact op_ge
  | In => exact op_in_seq.or (op_dIn (hu_of hr))
  | NotIn => exact op_notIn_seq.or (op_dNotIn (hu_of hr))
  | _ => exact op_none
theorem keyD {Z : Addr → Prop} {H : Hp} {a : D} {v : V} {c : Cnt} {k : Key} (q : Den K Z H a v c) (h : D.key? a = some k) : v = kV k := by
  cases a with
  | int i => cases h; exact q.1
  | str s => cases h; exact q.1
  | _ => cases h
theorem val_find {κ : Type} [DecidableEq κ] (k : κ) : ∀ (kvs : List (κ × V)) (n : Nat), valV kvs k = (find k (kvs.map (·.1)) n).bind fun j => (kvs.map (·.2))[j - n]?
  | [], _ => rfl
  | (a, b) :: r, n => by
    unfold valV
    rw [List.map_cons, List.map_cons, List.find?_cons]
    unfold find
    by_cases h : a = k
    · subst h; simp
    · rw [if_neg h, decide_eq_false h]
      have ih := val_find k r (n + 1)
      unfold valV at ih
      rw [ih]
      have key : ∀ j, find k (r.map (·.1)) (n + 1) = some j → n + 1 ≤ j := fun j hj => by
        have : ∀ (ks : List κ) (m j : Nat), find k ks m = some j → m ≤ j := fun ks => by
          induction ks with
          | nil => intro m j h; cases h
          | cons x ks ih =>
            intro m j h
            unfold find at h
            split at h
            · cases h; exact Nat.le_refl _
            · exact Nat.le_of_succ_le (ih _ _ h)
        exact this _ _ _ hj
      cases hf : find k (r.map (·.1)) (n + 1) with
      | none => rfl
      | some j =>
        have := key j hf
        show (r.map (·.2))[j - (n + 1)]? = (b :: r.map (·.2))[j - n]?
        rw [show j - n = (j - (n + 1)) + 1 by omega, List.getElem?_cons_succ]
theorem find_lt {κ : Type} [DecidableEq κ] (k : κ) : ∀ (ks : List κ) (n j : Nat), find k ks n = some j → j < n + ks.length
  | [], _, _, h => by cases h
  | x :: r, n, j, h => by
    unfold find at h
    split at h
    · cases h; simp
    · have := find_lt k r (n + 1) j h
      simp only [List.length_cons]; omega
theorem valV_some {κ : Type} [DecidableEq κ] (kvs : List (κ × V)) (k : κ) : (valV kvs k).isSome = (find k (kvs.map (·.1)) 0).isSome := by
  rw [val_find k kvs 0]
  cases hf : find k (kvs.map (·.1)) 0 with
  | none => rfl
  | some j =>
    have := find_lt k _ _ _ hf
    rw [List.length_map] at this
    show ((kvs.map (·.2))[j - 0]?).isSome = true
    rw [List.getElem?_eq_getElem (by rw [List.length_map]; omega)]
    rfl
theorem ok_cmp (o : CmpOp) : OpOk K (.cmp o) (r2L (rCmp K o)) := by
  intro Z H c ds vs d Q B G e k
  rcases ds with _ | ⟨a, _ | ⟨b, _ | ⟨x, r⟩⟩⟩
  · cases e
  · cases e
  · obtain ⟨v, u, c1, c2, rfl, q1, q2⟩ := B.i2
    change cmpD o a b = some d at e
    show rCmp K o v u H Q
    unfold cmpD at e
    split at e <;> first | (cases e; done) | skip
    · split at e
      · rename_i hc
        injection e with e; subst e
        rw [Bool.and_eq_true] at hc
        exact ⟨_, _, q1.dp (shp_lay hc.1), q2.dp (shp_lay hc.2), hc.1, hc.2, k_plain k G ⟨rfl, rfl⟩⟩
      · cases e
    · split at e
      · rename_i hc
        injection e with e; subst e
        rw [Bool.and_eq_true] at hc
        exact ⟨_, _, q1.dp (shp_lay hc.1), q2.dp (shp_lay hc.2), hc.1, hc.2, k_plain k G ⟨rfl, rfl⟩⟩
      · cases e
    · injection e with e; subst e
      exact ⟨_, _, q1.1, q2.1, k_plain k G ⟨rfl, rfl⟩⟩
    · injection e with e; subst e
      exact ⟨_, _, q1.1, q2.1, k_plain k G ⟨rfl, rfl⟩⟩
    · injection e with e; subst e
      exact ⟨_, _, q1.1, q2.1, k_plain k G ⟨rfl, rfl⟩⟩
    · injection e with e; subst e
      exact ⟨_, _, q1.1, q2.1, k_plain k G ⟨rfl, rfl⟩⟩
    · split at e
      · rename_i hc
        injection e with e; subst e
        rw [Bool.and_eq_true] at hc
        obtain ⟨p, xs, rfl, s, q2⟩ := q2
        refine .inl ⟨p, xs, rfl, .inr s, q1.flat hc.1, q2.flatAll hc.2, ?_⟩
        rw [Dens.inV hc.1 q1 hc.2 q2]
        exact k_plain k G ⟨rfl, rfl⟩
      · cases e
    · split at e
      · rename_i hc
        injection e with e; subst e
        rw [Bool.and_eq_true] at hc
        obtain ⟨p, xs, c', rfl, s, q2⟩ := q2.lstI
        refine .inl ⟨p, xs, rfl, .inl (SqL.of s), q1.flat hc.1, q2.flatAll hc.2, ?_⟩
        rw [Dens.inV hc.1 q1 hc.2 q2]
        exact k_plain k G ⟨rfl, rfl⟩
      · cases e
    · rename_i o' ks ds'
      cases hk : D.key? a with
      | none => rw [hk] at e; cases e
      | some kk =>
        rw [hk] at e
        injection e with e; subst e
        obtain ⟨p, kvs, c', rfl, s, ek, q2⟩ := q2.dKI
        have ev := keyD q1 hk
        subst ev
        refine .inr ⟨p, _, rfl, DGet.k s, ?_⟩
        rw [valV_some, ek.1]
        exact k_plain k G ⟨rfl, rfl⟩
    · split at e
      · rename_i hc
        injection e with e; subst e
        rw [Bool.and_eq_true] at hc
        obtain ⟨p, xs, rfl, s, q2⟩ := q2
        refine .inl ⟨p, xs, rfl, .inr s, q1.flat hc.1, q2.flatAll hc.2, ?_⟩
        rw [Dens.inV hc.1 q1 hc.2 q2]
        exact k_plain k G ⟨rfl, rfl⟩
      · cases e
    · split at e
      · rename_i hc
        injection e with e; subst e
        rw [Bool.and_eq_true] at hc
        obtain ⟨p, xs, c', rfl, s, q2⟩ := q2.lstI
        refine .inl ⟨p, xs, rfl, .inl (SqL.of s), q1.flat hc.1, q2.flatAll hc.2, ?_⟩
        rw [Dens.inV hc.1 q1 hc.2 q2]
        exact k_plain k G ⟨rfl, rfl⟩
      · cases e
    · rename_i o' ks ds'
      cases hk : D.key? a with
      | none => rw [hk] at e; cases e
      | some kk =>
        rw [hk] at e
        injection e with e; subst e
        obtain ⟨p, kvs, c', rfl, s, ek, q2⟩ := q2.dKI
        have ev := keyD q1 hk
        subst ev
        refine .inr ⟨p, _, rfl, DGet.k s, ?_⟩
        rw [valV_some, ek.1]
        exact k_plain k G ⟨rfl, rfl⟩
  · cases e
end
end DL
end

section
/-! DL6: the built-in functions. -/
namespace DL
open PySem PySem.Spec L2
open PyProof.Rows hiding St

theorem perm_sorted_eq : ∀ {xs ys : List Int}, xs.Perm ys → xs.Pairwise (· ≤ ·) → ys.Pairwise (· ≤ ·) → xs = ys
  | [], ys, h, _, _ => by rw [List.nil_perm.mp h]
  | x :: xs, [], h, _, _ => by
    have := h.length_eq
    cases this
  | x :: xs, y :: ys, h, hx, hy => by
    have h1 : x ∈ y :: ys := h.subset List.mem_cons_self
    have h2 : y ∈ x :: xs := h.symm.subset List.mem_cons_self
    have p1 := List.pairwise_cons.mp hx
    have p2 := List.pairwise_cons.mp hy
    have e : x = y := by
      rcases List.mem_cons.mp h1 with e | h1
      · exact e
      · rcases List.mem_cons.mp h2 with e | h2
        · exact e.symm
        · have := p1.1 y h2
          have := p2.1 x h1
          omega
    subst e
    rw [perm_sorted_eq ((List.perm_cons x).mp h) p1.2 p2.2]
theorem sortI_perm (ns : List Int) : (sortI ns).Perm ns := List.mergeSort_perm _ _
theorem sortI_sorted (ns : List Int) : (sortI ns).Pairwise (· ≤ ·) := by
  have := List.pairwise_mergeSort (le := fun (a b : Int) => decide (a ≤ b)) (by intro a b c h1 h2; simp at *; omega) (by intro a b; simp; omega) ns
  exact this.imp fun h => by simpa using h
theorem sortI_eq {ns ms : List Int} (h : ms.Perm ns) (s : ms.Pairwise (· ≤ ·)) : ms = sortI ns :=
  perm_sorted_eq (h.trans (sortI_perm ns).symm) s (sortI_sorted ns)

theorem foldMin_mem : ∀ (r : List Int) (x : Int), r.foldl (fun a b => if b < a then b else a) x ∈ x :: r
  | [], x => by simp
  | y :: r, x => by
    have ih := foldMin_mem r (if y < x then y else x)
    rw [List.foldl_cons]
    rcases List.mem_cons.mp ih with e | h
    · rw [e]; split <;> simp
    · exact List.mem_cons_of_mem _ (List.mem_cons_of_mem _ h)
theorem foldMin_le : ∀ (r : List Int) (x y : Int), y ∈ x :: r → r.foldl (fun a b => if b < a then b else a) x ≤ y
  | [], x, y, h => by simp at h; subst h; exact Int.le_refl _
  | z :: r, x, y, h => by
    rw [List.foldl_cons]
    have key := foldMin_le r (if z < x then z else x)
    have k0 := key _ List.mem_cons_self
    rcases List.mem_cons.mp h with e | h
    · subst e; split at k0 <;> split <;> omega
    · rcases List.mem_cons.mp h with e | h
      · subst e; split at k0 <;> split <;> omega
      · exact key y (List.mem_cons_of_mem _ h)
theorem foldMax_mem : ∀ (r : List Int) (x : Int), r.foldl (fun a b => if b > a then b else a) x ∈ x :: r
  | [], x => by simp
  | y :: r, x => by
    have ih := foldMax_mem r (if y > x then y else x)
    rw [List.foldl_cons]
    rcases List.mem_cons.mp ih with e | h
    · rw [e]; split <;> simp
    · exact List.mem_cons_of_mem _ (List.mem_cons_of_mem _ h)
theorem foldMax_le : ∀ (r : List Int) (x y : Int), y ∈ x :: r → y ≤ r.foldl (fun a b => if b > a then b else a) x
  | [], x, y, h => by simp at h; subst h; exact Int.le_refl _
  | z :: r, x, y, h => by
    rw [List.foldl_cons]
    have key := foldMax_le r (if z > x then z else x)
    have k0 := key _ List.mem_cons_self
    rcases List.mem_cons.mp h with e | h
    · subst e; split at k0 <;> split <;> omega
    · rcases List.mem_cons.mp h with e | h
      · subst e; split at k0 <;> split <;> omega
      · exact key y (List.mem_cons_of_mem _ h)
theorem minI_mem {ns : List Int} {m : Int} (h : minI ns = some m) : m ∈ ns := by
  cases ns with
  | nil => cases h
  | cons x r => cases h; exact foldMin_mem r x
theorem minI_le {ns : List Int} {m y : Int} (h : minI ns = some m) (hy : y ∈ ns) : m ≤ y := by
  cases ns with
  | nil => cases h
  | cons x r => cases h; exact foldMin_le r x y hy
theorem maxI_mem {ns : List Int} {m : Int} (h : maxI ns = some m) : m ∈ ns := by
  cases ns with
  | nil => cases h
  | cons x r => cases h; exact foldMax_mem r x
theorem maxI_le {ns : List Int} {m y : Int} (h : maxI ns = some m) (hy : y ∈ ns) : y ≤ m := by
  cases ns with
  | nil => cases h
  | cons x r => cases h; exact foldMax_le r x y hy

def tyN : Ty → String
  | .int => "int"
  | .bool => "bool"
  | .tuple => "tuple"
  | .str => "str"
  | .list => "list"

def rOp (K : PySem.W.Frag) : Op → List V → Hp → VK → Prop
  | .bin o => r2L (rBin K o)
  | .cmp o => r2L (rCmp K o)
  | .neg => r1L (rU fun i => .int (-i))
  | .isN => r1L fun x H Q => Q (.bl (decide (x = .non))) H
  | .notN => r1L fun x H Q => Q (.bl (!decide (x = .non))) H
  | .isB b => r1L fun x H Q => rIsB x (.bl b) H Q
  | .len => fun xs H Q => (∃ x n, xs = [x] ∧ LenV K x H n ∧ Q (.int n) H) ∨ ∃ p kvs, xs = [.ref p] ∧ H p = some (.dK kvs) ∧ Q (.int kvs.length) H
  | .tuple => fun xs H Q => ∃ p ys, xs = [.ref p] ∧ ((SqL K H p ys ∧ ∀ l, H l = none → Q (.ref l) (upd H l (.tup ys))) ∨ (SqT K H p ys ∧ Q (.ref p) H))
  | .list => fun xs H Q => ∃ p ys, xs = [.ref p] ∧ (SqL K H p ys ∨ SqT K H p ys) ∧ ∀ l, H l = none → Q (.ref l) (upd H l (.lst ys))
  | .sorted => rSortedI K
  | .sum => rSum K
  | .all => rAll K
  | .any => rAny K
  | .min => rMin K
  | .max => rMax K
  | .abs => fun xs H Q => ∃ i, xs = [.int i] ∧ Q (.int (if i < 0 then -i else i)) H
  | .toInt => fun xs H Q => (∃ i, xs = [.int i] ∧ Q (.int i) H) ∨ ∃ k, xs = [.bl k] ∧ Q (.int (if k then 1 else 0)) H
  | .max2 => fun xs H Q => ∃ i j, xs = [.int i, .int j] ∧ Q (.int (if j > i then j else i)) H
  | .min2 => fun xs H Q => ∃ i j, xs = [.int i, .int j] ∧ Q (.int (if j < i then j else i)) H
  | .lrange => r1L fun x H Q => ∃ n, x = .int n ∧ RgOk 0 n ∧ ∀ q, H q = none → Q (.ref q) (upd H q (.lst (rgV 0 n)))
  | .trange => r1L fun x H Q => ∃ n, x = .int n ∧ RgOk 0 n ∧ ∀ q, H q = none → Q (.ref q) (upd H q (.tup (rgV 0 n)))
  | .isi t => r1L fun x H Q => rIsi K [x, .ty (tyN t)] H Q
  | _ => fun _ _ _ => False

section
variable {K : PySem.W.Frag}
theorem dens_rng {Z : Addr → Prop} {H : Hp} (lo hi : Int) : Dens K Z H (rngL lo hi) (rgV lo hi) zc := by
  have : ∀ ns : List Nat, Dens K Z H (ns.map fun (k : Nat) => D.int (lo + (k : Int))) (ns.map fun i => V.int (lo + (i : Nat))) zc := fun ns => by
    induction ns with
    | nil => exact ⟨rfl, rfl⟩
    | cons n ns ih => exact ⟨_, _, zc, zc, rfl, ⟨rfl, rfl⟩, ih, (add_zc _).symm⟩
  exact this _
theorem kit_c : ∀ ty : Ty, kitB "NoneType" (tyN ty) = some false ∧ kitB "bool" (tyN ty) = some (decide (ty = .int ∨ ty = .bool)) ∧ kitB "int" (tyN ty) = some (decide (ty = .int)) ∧ kitB "str" (tyN ty) = some (decide (ty = .str)) ∧
    kitB "tuple" (tyN ty) = some (decide (ty = .tuple)) ∧ kitB "list" (tyN ty) = some (decide (ty = .list)) ∧ kitB "dict" (tyN ty) = some false := by
  intro ty
  cases ty <;> decide +kernel
theorem tyX_of {Z : Addr → Prop} {H : Hp} {d : D} {v : V} {c : Cnt} (q : Den K Z H d v c) (hd : ∀ ns, d ≠ .scr ns) : ∃ t, TyX K H v (.type t) ∧ ∀ ty : Ty, kitB t (tyN ty) = some (isiD ty d) := by
  cases d with
  | non => rw [q.1]; exact ⟨_, .base .non, fun ty => by rw [(kit_c ty).1]; cases ty <;> rfl⟩
  | bl b => rw [q.1]; exact ⟨_, .base (.bl b), fun ty => by rw [(kit_c ty).2.1]; cases ty <;> rfl⟩
  | int i => rw [q.1]; exact ⟨_, .base (.int i), fun ty => by rw [(kit_c ty).2.2.1]; cases ty <;> rfl⟩
  | str s => rw [q.1]; exact ⟨_, .base (.str s), fun ty => by rw [(kit_c ty).2.2.2.1]; cases ty <;> rfl⟩
  | tup ds =>
    obtain ⟨a, vs, rfl, s, q⟩ := q
    refine ⟨"tuple", ?_, fun ty => by rw [(kit_c ty).2.2.2.2.1]; cases ty <;> rfl⟩
    rcases s with (s | ⟨o, s⟩) | ⟨o, its, n, s1, s2, _⟩
    · exact .base (.tup s)
    · exact .fTuple s
    · exact .kTuple s1 s2
  | lst o ds =>
    obtain ⟨a, vs, c', rfl, s, q⟩ := q.lstI
    exact ⟨"list", .base (.lst s), fun ty => by rw [(kit_c ty).2.2.2.2.2.1]; cases ty <;> rfl⟩
  | dK o ks ds =>
    obtain ⟨a, vs, c', rfl, s, _, q⟩ := q.dKI
    exact ⟨"dict", .base (.dK s), fun ty => by rw [(kit_c ty).2.2.2.2.2.2]; cases ty <;> rfl⟩
  | dT o ks ds =>
    obtain ⟨a, vs, c', rfl, s, _, q⟩ := q.dTI
    exact ⟨"dict", .base (.dT s), fun ty => by rw [(kit_c ty).2.2.2.2.2.2]; cases ty <;> rfl⟩
  | scr ns => exact absurd rfl (hd ns)

theorem ok_one (o : Op) (h : ∀ (Z : Addr → Prop) (H : Hp) (c : Cnt) (a : D) (v : V) (d : D) (Q : VK) c1, Den K Z H a v c1 → Gd Z H c → opD o [a] = some d → OpK K Z H c d Q → rOp K o [v] H Q)
    (h0 : opD o [] = none) (h2 : ∀ a b r, opD o (a :: b :: r) = none) : OpOk K o (rOp K o) := by
  intro Z H c ds vs d Q B G e k
  rcases ds with _ | ⟨a, _ | ⟨b, r⟩⟩
  · rw [h0] at e; cases e
  · obtain ⟨v, c1, rfl, q⟩ := B.i1
    exact h Z H c a v d Q c1 q G e k
  · rw [h2] at e; cases e
theorem ok_neg : OpOk K .neg (rOp K .neg) := by
  refine ok_one _ (fun Z H c a v d Q c1 q G e k => ?_) rfl (fun a b r => by cases a <;> rfl)
  cases a with
  | int i => cases e; exact ⟨i, q.1, k_plain k G ⟨rfl, rfl⟩⟩
  | _ => cases e
theorem nonV {Z : Addr → Prop} {H : Hp} {a : D} {v : V} {c : Cnt} (q : Den K Z H a v c) : decide (v = .non) = a.isNon := by
  cases a with
  | non => rw [q.1]; rfl
  | bl b => rw [q.1]; rfl
  | int b => rw [q.1]; rfl
  | str b => rw [q.1]; rfl
  | tup ds => obtain ⟨a, vs, rfl, _⟩ := q; rfl
  | lst o ds => obtain ⟨a, vs, c', rfl, _⟩ := q.lstI; rfl
  | dK o ks ds => obtain ⟨a, vs, c', rfl, _⟩ := q.dKI; rfl
  | dT o ks ds => obtain ⟨a, vs, c', rfl, _⟩ := q.dTI; rfl
  | scr ns => obtain ⟨a, rfl, _⟩ := q; rfl
theorem ok_isN : OpOk K .isN (rOp K .isN) := by
  refine ok_one _ (fun Z H c a v d Q c1 q G e k => ?_) rfl (fun a b r => rfl)
  show Q (.bl (decide (v = .non))) H
  rw [nonV q]
  injection e with e; subst e
  exact k_plain k G ⟨rfl, rfl⟩
theorem ok_notN : OpOk K .notN (rOp K .notN) := by
  refine ok_one _ (fun Z H c a v d Q c1 q G e k => ?_) rfl (fun a b r => rfl)
  show Q (.bl (!decide (v = .non))) H
  rw [nonV q]
  injection e with e; subst e
  exact k_plain k G ⟨rfl, rfl⟩
theorem ok_isB (b : Bool) : OpOk K (.isB b) (rOp K (.isB b)) := by
  refine ok_one _ (fun Z H c a v d Q c1 q G e k => ?_) rfl (fun a b r => by cases a <;> rfl)
  cases a with
  | bl i => cases e; exact ⟨i, b, q.1, rfl, k_plain k G ⟨rfl, rfl⟩⟩
  | _ => cases e
theorem ok_len : OpOk K .len (rOp K .len) := by
  refine ok_one _ (fun Z H c a v d Q c1 q G e k => ?_) rfl (fun a b r => by cases a <;> rfl)
  cases a with
  | tup ds =>
    cases e
    obtain ⟨a, vs, rfl, s, q⟩ := q
    refine .inl ⟨_, ds.length, rfl, .inr ⟨vs, s, q.length.symm⟩, k_plain k G ⟨rfl, rfl⟩⟩
  | lst o ds =>
    cases e
    obtain ⟨a, vs, c', rfl, s, q⟩ := q.lstI
    refine .inl ⟨_, ds.length, rfl, .inl ⟨vs, SqL.of s, q.length.symm⟩, k_plain k G ⟨rfl, rfl⟩⟩
  | scr ns =>
    cases e
    obtain ⟨a, rfl, s, _⟩ := q
    refine .inl ⟨_, ns.length, rfl, .inl ⟨_, s.seq, by simp⟩, k_plain k G ⟨rfl, rfl⟩⟩
  | dK o ks ds =>
    cases e
    obtain ⟨a, vs, c', rfl, s, ek, q⟩ := q.dKI
    refine .inr ⟨a, vs, rfl, s, ?_⟩
    have : vs.length = ks.length := by rw [← ek.1, List.length_map]
    rw [this]
    exact k_plain k G ⟨rfl, rfl⟩
  | _ => cases e
theorem ok_tuple : OpOk K .tuple (rOp K .tuple) := by
  refine ok_one _ (fun Z H c a v d Q c1 q G e k => ?_) rfl (fun a b r => by cases a <;> rfl)
  cases a with
  | tup ds =>
    have e : (if D.plains ds = true then some (D.tup ds) else none) = some d := e
    split at e
    · rename_i p
      cases e
      obtain ⟨a, vs, rfl, s, q⟩ := q
      exact ⟨a, vs, rfl, .inr ⟨s, k_plain k G ⟨a, vs, rfl, s, Dens.pl' p q⟩⟩⟩
    · cases e
  | lst o ds =>
    have e : (if D.plains ds = true then some (D.tup ds) else none) = some d := e
    split at e
    · rename_i p
      cases e
      obtain ⟨a, vs, c', rfl, s, q⟩ := q.lstI
      exact ⟨a, vs, rfl, .inl ⟨SqL.of s, k_tup k G (Dens.pl' p q)⟩⟩
    · cases e
  | _ => cases e
theorem ok_list : OpOk K .list (rOp K .list) := by
  refine ok_one _ (fun Z H c a v d Q c1 q G e k => ?_) rfl (fun a b r => by cases a <;> rfl)
  cases a with
  | tup ds =>
    have e : (if D.plains ds = true then some (D.lst true ds) else none) = some d := e
    split at e
    · rename_i p
      cases e
      obtain ⟨a, vs, rfl, s, q⟩ := q
      exact ⟨a, vs, rfl, .inr s, k_lst k G (Dens.pl' p q)⟩
    · cases e
  | lst o ds =>
    have e : (if D.plains ds = true then some (D.lst true ds) else none) = some d := e
    split at e
    · rename_i p
      cases e
      obtain ⟨a, vs, c', rfl, s, q⟩ := q.lstI
      exact ⟨a, vs, rfl, .inl (SqL.of s), k_lst k G (Dens.pl' p q)⟩
    · cases e
  | _ => cases e
/-- a list of ints -/
theorem lst_ints {Z : Addr → Prop} {H : Hp} {o : Bool} {ds : List D} {v : V} {c : Cnt} {ns : List Int} (q : Den K Z H (.lst o ds) v c) (h : ints? ds = some ns) : ∃ a, v = .ref a ∧ SqL K H a (ns.map V.int) := by
  obtain ⟨a, vs, c', rfl, s, q⟩ := q.lstI
  rw [ints_of h] at q
  rw [Dens.ints q] at s
  exact ⟨a, rfl, SqL.of s⟩
theorem lst_bls {Z : Addr → Prop} {H : Hp} {o : Bool} {ds : List D} {v : V} {c : Cnt} {ns : List Bool} (q : Den K Z H (.lst o ds) v c) (h : bls? ds = some ns) : ∃ a, v = .ref a ∧ SqL K H a (ns.map V.bl) := by
  obtain ⟨a, vs, c', rfl, s, q⟩ := q.lstI
  rw [bls_of h] at q
  rw [Dens.bls q] at s
  exact ⟨a, rfl, SqL.of s⟩
theorem ok_sorted : OpOk K .sorted (rOp K .sorted) := by
  refine ok_one _ (fun Z H c a v d Q c1 q G e k => ?_) rfl (fun a b r => by cases a <;> rfl)
  cases a with
  | lst o ds =>
    have e : (ints? ds).map (fun ns => D.lst true ((sortI ns).map .int)) = some d := e
    cases hi : ints? ds with
    | none => rw [hi] at e; cases e
    | some ns =>
      rw [hi] at e; cases e
      obtain ⟨a, rfl, s⟩ := lst_ints q hi
      refine ⟨a, ns, rfl, s, fun ms p h1 h2 hp => ?_⟩
      rw [sortI_eq h1 h2]
      exact k_lst k G (dens_ints _) p hp
  | _ => cases e
theorem ok_sum : OpOk K .sum (rOp K .sum) := by
  refine ok_one _ (fun Z H c a v d Q c1 q G e k => ?_) rfl (fun a b r => by cases a <;> rfl)
  cases a with
  | lst o ds =>
    have e : (ints? ds).map (fun ns => D.int ns.sum) = some d := e
    cases hi : ints? ds with
    | none => rw [hi] at e; cases e
    | some ns =>
      rw [hi] at e; cases e
      obtain ⟨a, rfl, s⟩ := lst_ints q hi
      exact ⟨a, ns, rfl, s, k_plain k G ⟨rfl, rfl⟩⟩
  | _ => cases e
theorem ok_all : OpOk K .all (rOp K .all) := by
  refine ok_one _ (fun Z H c a v d Q c1 q G e k => ?_) rfl (fun a b r => by cases a <;> rfl)
  cases a with
  | lst o ds =>
    have e : (bls? ds).map (fun bs => D.bl (bs.all id)) = some d := e
    cases hi : bls? ds with
    | none => rw [hi] at e; cases e
    | some ns =>
      rw [hi] at e; cases e
      obtain ⟨a, rfl, s⟩ := lst_bls q hi
      exact ⟨a, ns, rfl, s, k_plain k G ⟨rfl, rfl⟩⟩
  | _ => cases e
theorem ok_any : OpOk K .any (rOp K .any) := by
  refine ok_one _ (fun Z H c a v d Q c1 q G e k => ?_) rfl (fun a b r => by cases a <;> rfl)
  cases a with
  | lst o ds =>
    have e : (bls? ds).map (fun bs => D.bl (bs.any id)) = some d := e
    cases hi : bls? ds with
    | none => rw [hi] at e; cases e
    | some ns =>
      rw [hi] at e; cases e
      obtain ⟨a, rfl, s⟩ := lst_bls q hi
      exact ⟨a, ns, rfl, s, k_plain k G ⟨rfl, rfl⟩⟩
  | _ => cases e
theorem ok_min : OpOk K .min (rOp K .min) := by
  refine ok_one _ (fun Z H c a v d Q c1 q G e k => ?_) rfl (fun a b r => by cases a <;> rfl)
  cases a with
  | lst o ds =>
    have e : ((ints? ds).bind fun ns => (minI ns).map .int) = some d := e
    cases hi : ints? ds with
    | none => rw [hi] at e; cases e
    | some ns =>
      rw [hi] at e
      have e : (minI ns).map D.int = some d := e
      cases hm : minI ns with
      | none => rw [hm] at e; cases e
      | some m =>
        rw [hm] at e; cases e
        obtain ⟨a, rfl, s⟩ := lst_ints q hi
        refine ⟨a, ns, rfl, s, ?_, fun m' h1 h2 => ?_⟩
        · exact List.length_pos_of_mem (minI_mem hm)
        · have : m' = m := by
            have := h2 m (minI_mem hm)
            have := minI_le hm h1
            omega
          subst this
          exact k_plain k G ⟨rfl, rfl⟩
  | _ => cases e
theorem ok_max : OpOk K .max (rOp K .max) := by
  refine ok_one _ (fun Z H c a v d Q c1 q G e k => ?_) rfl (fun a b r => by cases a <;> rfl)
  cases a with
  | lst o ds =>
    have e : ((ints? ds).bind fun ns => (maxI ns).map .int) = some d := e
    cases hi : ints? ds with
    | none => rw [hi] at e; cases e
    | some ns =>
      rw [hi] at e
      have e : (maxI ns).map D.int = some d := e
      cases hm : maxI ns with
      | none => rw [hm] at e; cases e
      | some m =>
        rw [hm] at e; cases e
        obtain ⟨a, rfl, s⟩ := lst_ints q hi
        refine ⟨a, ns, rfl, s, ?_, fun m' h1 h2 => ?_⟩
        · exact List.length_pos_of_mem (maxI_mem hm)
        · have : m' = m := by
            have := h2 m (maxI_mem hm)
            have := maxI_le hm h1
            omega
          subst this
          exact k_plain k G ⟨rfl, rfl⟩
  | _ => cases e
theorem ok_abs : OpOk K .abs (rOp K .abs) := by
  refine ok_one _ (fun Z H c a v d Q c1 q G e k => ?_) rfl (fun a b r => by cases a <;> rfl)
  cases a with
  | int i => cases e; rw [q.1]; exact ⟨i, rfl, k_plain k G ⟨rfl, rfl⟩⟩
  | _ => cases e
theorem ok_toInt : OpOk K .toInt (rOp K .toInt) := by
  refine ok_one _ (fun Z H c a v d Q c1 q G e k => ?_) rfl (fun a b r => by cases a <;> rfl)
  cases a with
  | int i => cases e; rw [q.1]; exact .inl ⟨i, rfl, k_plain k G ⟨rfl, rfl⟩⟩
  | bl b => cases e; rw [q.1]; exact .inr ⟨b, rfl, k_plain k G ⟨rfl, rfl⟩⟩
  | _ => cases e
theorem rgOk_of {n : Int} (h : (rngOk n && szOk n.toNat) = true) : RgOk 0 n := by
  rw [Bool.and_eq_true] at h
  have h1 := h.1
  unfold rngOk at h1
  rw [Bool.and_eq_true] at h1
  have h2 := of_decide_eq_true h.2
  rw [sizeLine_eq] at h2
  have a1 := of_decide_eq_true h1.1
  have a2 := of_decide_eq_true h1.2
  refine ⟨by decide, by decide, a1, a2, ?_⟩
  rw [Int.sub_zero]
  exact h2
theorem ok_lrange : OpOk K .lrange (rOp K .lrange) := by
  refine ok_one _ (fun Z H c a v d Q c1 q G e k => ?_) rfl (fun a b r => by cases a <;> rfl)
  cases a with
  | int i =>
    have e : (if (rngOk i && szOk i.toNat) = true then some (D.lst true (rngL 0 i)) else none) = some d := e
    split at e
    · rename_i h
      cases e; rw [q.1]; exact ⟨i, rfl, rgOk_of h, k_lst k G (dens_rng 0 i)⟩
    · cases e
  | _ => cases e
theorem ok_trange : OpOk K .trange (rOp K .trange) := by
  refine ok_one _ (fun Z H c a v d Q c1 q G e k => ?_) rfl (fun a b r => by cases a <;> rfl)
  cases a with
  | int i =>
    have e : (if (rngOk i && szOk i.toNat) = true then some (D.tup (rngL 0 i)) else none) = some d := e
    split at e
    · rename_i h
      cases e; rw [q.1]; exact ⟨i, rfl, rgOk_of h, k_tup k G (dens_rng 0 i)⟩
    · cases e
  | _ => cases e
theorem ok_isi (t : Ty) : OpOk K (.isi t) (rOp K (.isi t)) := by
  refine ok_one _ (fun Z H c a v d Q c1 q G e k => ?_) rfl (fun a b r => by cases a <;> rfl)
  have hd : ∀ ns, a ≠ .scr ns := by rintro ns rfl; cases e
  have e : some (D.bl (isiD t a)) = some d := by rw [← e]; cases a <;> first | rfl | exact absurd rfl (hd _)
  injection e with e; subst e
  obtain ⟨ty, x, kt⟩ := tyX_of q hd
  exact ⟨v, .ty (tyN t), .type ty, .type (tyN t), isiD t a, rfl, .ty _, x, kit_ty (kt t), k_plain k G ⟨rfl, rfl⟩⟩
theorem ok_min2 : OpOk K .min2 (rOp K .min2) := by
  intro Z H c ds vs d Q B G e k
  rcases ds with _ | ⟨a, _ | ⟨b, _ | ⟨x, r⟩⟩⟩
  · cases e
  · cases a <;> cases e
  · obtain ⟨v, u, c1, c2, rfl, q1, q2⟩ := B.i2
    cases a with
    | int i =>
      cases b with
      | int j => cases e; rw [q1.1, q2.1]; exact ⟨i, j, rfl, k_plain k G ⟨rfl, rfl⟩⟩
      | _ => cases e
    | _ => cases e
  · cases a <;> cases b <;> cases e
theorem ok_max2 : OpOk K .max2 (rOp K .max2) := by
  intro Z H c ds vs d Q B G e k
  rcases ds with _ | ⟨a, _ | ⟨b, _ | ⟨x, r⟩⟩⟩
  · cases e
  · cases a <;> cases e
  · obtain ⟨v, u, c1, c2, rfl, q1, q2⟩ := B.i2
    cases a with
    | int i =>
      cases b with
      | int j => cases e; rw [q1.1, q2.1]; exact ⟨i, j, rfl, k_plain k G ⟨rfl, rfl⟩⟩
      | _ => cases e
    | _ => cases e
  · cases a <;> cases b <;> cases e
/-- the operations served so far -/
def served : Op → Bool
  | .dict => false
  | .toStr => false
  | .sumT => false
  | .setLen => false
  | .setSorted => false
  | .rev => false
  | .index => false
  | .count => false
  | .get2 => false
  | _ => true
theorem ok_op (o : Op) (h : served o = true) : OpOk K o (rOp K o) := by
  cases o with
  | bin o => exact ok_bin o
  | cmp o => exact ok_cmp o
  | neg => exact ok_neg
  | isN => exact ok_isN
  | notN => exact ok_notN
  | isB b => exact ok_isB b
  | len => exact ok_len
  | tuple => exact ok_tuple
  | list => exact ok_list
  | sorted => exact ok_sorted
  | sum => exact ok_sum
  | all => exact ok_all
  | any => exact ok_any
  | min => exact ok_min
  | max => exact ok_max
  | abs => exact ok_abs
  | toInt => exact ok_toInt
  | min2 => exact ok_min2
  | max2 => exact ok_max2
  | lrange => exact ok_lrange
  | trange => exact ok_trange
  | isi t => exact ok_isi t
  | _ => cases h
end
end DL
end

section
/-! DL7: the compact text against the model's text; contexts. -/
namespace DL
open PySem PySem.Spec L2
open PyProof.Rows hiding St

/-! ### what a def promises -/
def spD (K : PySem.W.Frag) (n : Nat) (g : List D → Option (D × List D)) : Sp := fun vs H Q _ => vs.length = n ∧ ∃ Z ds c r ds', Dens K Z H ds vs c ∧ Gd Z H c ∧ g ds = some (r, ds') ∧
  ∀ v H' Z' cr c', Den K Z' H' r v cr → Dens K Z' H' ds' vs c' → Gd Z' H' (add c' cr) → Fr false Z H c Z' H' (add c' cr) → Q v H'

/-- what stands around a def's body (or a block of it) -/
structure CtxOk (P : Ctx) (fn : List (Str × Nat)) (bl : List Str) (N : List Str) (X : Cx) : Prop where
  calm : X.calm = true
  hN : X.N = N
  nd : N.Nodup
  pass : PassesOwn (model X.prog X.w) X.A X.env X.xe
  room : Room 0 X.A
  fns : ∀ (f : Nat) (x : Str) (n : Nat), fn[f]? = some (x, n) → ∃ (fa : Addr) (fd : FuncData) (ps : List Str) (k : Nat), ps.length = n ∧ X.mg x = some (.ref fa) ∧ PySem.W.keepIn X.K (.ref fa) = true ∧ Binds X.K fd ps [] ∧ Room k X.A ∧
    FnOk X.prog X.w X.K X.mg X.base CX0 k fa fd ps (spD X.K ps.length (P.call f))
  blt : ∀ x : Str, bl.contains x = true → X.mg x = none

def notStar : PySem.Expr → Bool
  | .Starred _ _ => false
  | _ => true
theorem star_cons {e : PySem.Expr} {es : List PySem.Expr} {env : Env} (h : notStar e = true) : starEach (e :: es) env = (false, eval e env) :: starEach es env := by
  cases e <;> first | rfl | cases h
theorem star_any {pos : Pos} {env : Env} : ∀ {es : List PySem.Expr}, es.all notStar = true → (backTo pos (starEach es env)).any (·.1) = false
  | [], _ => rfl
  | e :: es, h => by
    rw [List.all_cons, Bool.and_eq_true] at h
    rw [star_cons h.1]
    show (false || (backTo pos (starEach es env)).any (·.1)) = false
    rw [star_any h.2]; rfl
/-- one expression a reading -/
inductive PEs (X : Cx) : List PySem.Expr → List TE → Prop where
  | nil : PEs X [] []
  | cons {p : PySem.Expr} {ps : List PySem.Expr} {t : TE} {ts : List TE} : PE X p t → PEs X ps ts → PEs X (p :: ps) (t :: ts)
theorem pa_of {X : Cx} : ∀ {ps : List PySem.Expr} {ts : List TE}, ps.all notStar = true → PEs X ps ts → PA X ps (tL ts)
  | _, _, _, .nil => pa_nil
  | _, _, h, .cons h1 h2 => by
    rw [List.all_cons, Bool.and_eq_true] at h
    exact pa_cons h1 (pa_of h.2 h2) (star_cons h.1)

/-! ### names -/
def visB (sc : Scope) (x : Str) : Bool := match sc.names.lookup x with
  | some .local => true
  | some .cell => true
  | some .free => true
  | _ => false
def locB (sc : Scope) (x : Str) : Bool := match sc.names.lookup x with
  | some .local => true
  | some .cell => true
  | _ => false
def glB (sc : Scope) (x : Str) : Bool := match sc.names.lookup x with
  | some .globalImplicit => true
  | _ => false
theorem vis_of {sc : Scope} {x : Str} (h : visB sc x = true) : Vis sc x := by
  unfold visB at h
  split at h
  · exact .inl (by assumption)
  · exact .inr (.inl (by assumption))
  · exact .inr (.inr (by assumption))
  · cases h
theorem loc_of {sc : Scope} {x : Str} (h : locB sc x = true) : Loc sc x := by
  unfold locB at h
  split at h
  · exact .inl (by assumption)
  · exact .inr (by assumption)
  · cases h
theorem gl_of {X : Cx} {sc : Scope} {x : Str} (e : X.env.scope = sc) (h : glB sc x = true) : Gl X x := by
  unfold glB at h
  split at h
  · show X.env.scope.names.lookup x = _
    rw [e]; assumption
  · cases h
def dbgB (x : Str) : Bool := (x == ("__debug__" : Str)) || (x == ("__classdict__" : Str))
def isVar (N : List Str) (sc : Scope) (i : Nat) : PySem.Expr → Bool
  | .Name x _ => decide (N[i]? = some x) && visB sc x && !dbgB x
  | _ => false
theorem pe_varB {X : Cx} {N : List Str} {sc : Scope} {i : Nat} {p : PySem.Expr} (hN : X.N = N) (hs : X.env.scope = sc) (h : isVar N sc i p = true) : PE X p (tVar i) := by
  unfold isVar at h
  split at h
  · rename_i x pos
    rw [Bool.and_eq_true, Bool.and_eq_true] at h
    have hd := h.2
    unfold dbgB at hd
    simp only [Bool.not_eq_true', Bool.or_eq_false_iff] at hd
    exact pe_var (by rw [hN]; exact of_decide_eq_true h.1.1) (by rw [hs]; exact vis_of h.1.2) hd.1 hd.2
  · cases h
/-- a call of a built-in by its name -/
def bltB (bl : List Str) (sc : Scope) (x y : Str) : Bool := decide (x = y) && glB sc x && bl.contains x
def chkB1 (bl : List Str) (sc : Scope) (y : Str) : PySem.Expr → Option (List PySem.Expr)
  | .Call (.Name x _) [a] [] _ => if bltB bl sc x y && notStar a then some [a] else none
  | _ => none
def chkB2 (bl : List Str) (sc : Scope) (y : Str) : PySem.Expr → Option (List PySem.Expr)
  | .Call (.Name x _) [a, b] [] _ => if bltB bl sc x y && notStar a && notStar b then some [a, b] else none
  | _ => none
def chkOp (bl : List Str) (sc : Scope) : Op → PySem.Expr → Option (List PySem.Expr)
  | .bin o, .BinOp a o' b _ => if o = o' then some [a, b] else none
  | .cmp o, .Compare a [o'] [b] _ => if decide (o = o') && !behindInMarks o b then some [a, b] else none
  | .neg, .UnaryOp .USub a _ => some [a]
  | .isN, .Compare a [.Is] [.Constant .none _ _] _ => some [a]
  | .notN, .Compare a [.IsNot] [.Constant .none _ _] _ => some [a]
  | .isB b, .Compare a [.Is] [.Constant (.bool b') _ _] _ => if b = b' then some [a] else none
  | .len, p => chkB1 bl sc "len" p
  | .tuple, p => chkB1 bl sc "tuple" p
  | .list, p => chkB1 bl sc "list" p
  | .sorted, p => chkB1 bl sc "sorted" p
  | .sum, p => chkB1 bl sc "sum" p
  | .all, p => chkB1 bl sc "all" p
  | .any, p => chkB1 bl sc "any" p
  | .min, p => chkB1 bl sc "min" p
  | .max, p => chkB1 bl sc "max" p
  | .abs, p => chkB1 bl sc "abs" p
  | .toInt, p => chkB1 bl sc "int" p
  | .min2, p => chkB2 bl sc "min" p
  | .max2, p => chkB2 bl sc "max" p
  | .lrange, .Call (.Name x _) [.Call (.Name y _) [a] [] _] [] _ => if bltB bl sc x "list" && bltB bl sc y "range" && notStar a then some [a] else none
  | .trange, .Call (.Name x _) [.Call (.Name y _) [a] [] _] [] _ => if bltB bl sc x "tuple" && bltB bl sc y "range" && notStar a then some [a] else none
  | .isi t, .Call (.Name x _) [a, .Name y _] [] _ => if bltB bl sc x "isinstance" && bltB bl sc y (Str.ofString (tyN t)) && notStar a then some [a] else none
  | _, _ => none

section
variable {X : Cx} {P : Ctx} {fn : List (Str × Nat)} {bl N : List Str} {sc : Scope}
theorem tL1 {t : TE} {σ : L2.St} {H : Hp} {R : List V → Hp → Prop} (h : tL [t] σ H R) : t σ H (fun x H1 => R [x] H1) := h
theorem blt_of (C : CtxOk P fn bl N X) (hs : X.env.scope = sc) {x y : Str} (h : bltB bl sc x y = true) : x = y ∧ Gl X x ∧ X.mg x = none := by
  unfold bltB at h
  rw [Bool.and_eq_true, Bool.and_eq_true] at h
  exact ⟨of_decide_eq_true h.1.1, gl_of hs h.1.2, C.blt x h.2⟩
theorem b1_of {y : Str} {p : PySem.Expr} {ps : List PySem.Expr} (h : chkB1 bl sc y p = some ps) : ∃ x q a pos, p = .Call (.Name x q) [a] [] pos ∧ ps = [a] ∧ bltB bl sc x y = true ∧ notStar a = true := by
  unfold chkB1 at h
  split at h
  · split at h
    · rename_i hc
      rw [Bool.and_eq_true] at hc
      cases h
      exact ⟨_, _, _, _, rfl, rfl, hc.1, hc.2⟩
    · cases h
  · cases h
theorem b2_of {y : Str} {p : PySem.Expr} {ps : List PySem.Expr} (h : chkB2 bl sc y p = some ps) : ∃ x q a b pos, p = .Call (.Name x q) [a, b] [] pos ∧ ps = [a, b] ∧ bltB bl sc x y = true ∧ notStar a = true ∧ notStar b = true := by
  unfold chkB2 at h
  split at h
  · split at h
    · rename_i hc
      rw [Bool.and_eq_true, Bool.and_eq_true] at hc
      cases h
      exact ⟨_, _, _, _, _, rfl, rfl, hc.1.1, hc.1.2, hc.2⟩
    · cases h
  · cases h
/-- a built-in function of one value -/
theorem pe_b1 (C : CtxOk P fn bl N X) (hs : X.env.scope = sc) {y : Str} {id : String} {r : List V → Hp → VK → Prop} {p : PySem.Expr} {ps : List PySem.Expr} {ts : List TE} (h : chkB1 bl sc y p = some ps) (hc : CallR X (.builtin id) r)
    (hv : bootBuiltins y = some (.builtin id)) (hn : y ≠ "__name__") (hdb : (y == ("__debug__" : Str)) = false) (hp : PEs X ps ts) : PE X p (fun σ H Q => tL ts σ H fun vs H1 => r vs H1 Q) := by
  obtain ⟨x, q, a, pos, rfl, rfl, hb, na⟩ := b1_of h
  obtain ⟨rfl, g, m⟩ := blt_of C hs hb
  exact pe_callB hc g m hv (pa_of (by simp [na]) hp) hn hdb (star_cons na) (star_any rfl)
theorem pe_t1 (C : CtxOk P fn bl N X) (hs : X.env.scope = sc) {y : Str} {id : String} {r : List V → Hp → VK → Prop} {p : PySem.Expr} {ps : List PySem.Expr} {ts : List TE} (h : chkB1 bl sc y p = some ps) (hc : CallR X (.type id) r)
    (hv : bootBuiltins y = some (.type id)) (hn : y ≠ "__name__") (hdb : (y == ("__debug__" : Str)) = false) (hp : PEs X ps ts) : PE X p (fun σ H Q => tL ts σ H fun vs H1 => r vs H1 Q) := by
  obtain ⟨x, q, a, pos, rfl, rfl, hb, na⟩ := b1_of h
  obtain ⟨rfl, g, m⟩ := blt_of C hs hb
  exact pe_callTy hc g m hv (pa_of (by simp [na]) hp) hn hdb (star_cons na) (star_any rfl)
theorem pe_b2 (C : CtxOk P fn bl N X) (hs : X.env.scope = sc) {y : Str} {id : String} {r : List V → Hp → VK → Prop} {p : PySem.Expr} {ps : List PySem.Expr} {ts : List TE} (h : chkB2 bl sc y p = some ps) (hc : CallR X (.builtin id) r)
    (hv : bootBuiltins y = some (.builtin id)) (hn : y ≠ "__name__") (hdb : (y == ("__debug__" : Str)) = false) (hp : PEs X ps ts) : PE X p (fun σ H Q => tL ts σ H fun vs H1 => r vs H1 Q) := by
  obtain ⟨x, q, a, b, pos, rfl, rfl, hb, na, nb⟩ := b2_of h
  obtain ⟨rfl, g, m⟩ := blt_of C hs hb
  exact pe_callB hc g m hv (pa_of (by simp [na, nb]) hp) hn hdb (star_cons na) (star_any (by simp [nb]))
theorem call_lenD' {X : Cx} : CallR X (.builtin "len") (fun xs H Q => (∃ x n, xs = [x] ∧ LenV X.K x H n ∧ Q (.int n) H) ∨ ∃ p kvs, xs = [.ref p] ∧ H p = some (.dK kvs) ∧ Q (.int kvs.length) H) := by
  refine call_len.or ?_
  intro pins s σ H xs us Q I r h
  obtain ⟨p, kvs, rfl, h, q⟩ := h
  exact call_lenD pins s σ H _ us Q I r ⟨p, kvs, rfl, h, q⟩
theorem pe_op_of (C : CtxOk P fn bl N X) (hs : X.env.scope = sc) (o : Op) {p : PySem.Expr} {ps : List PySem.Expr} (h : chkOp bl sc o p = some ps) {ts : List TE} (hp : PEs X ps ts) :
    PE X p (fun σ H Q => tL ts σ H fun vs H1 => rOp X.K o vs H1 Q) := by
  unfold chkOp at h
  split at h
  · split at h
    · rename_i e; subst e; cases h
      cases hp with
      | cons h1 hp => cases hp with
        | cons h2 hp => cases hp; exact pe_op (op_bin _) h1 h2
    · cases h
  · split at h
    · rename_i e
      rw [Bool.and_eq_true] at e
      have e1 := of_decide_eq_true e.1
      subst e1; cases h
      cases hp with
      | cons h1 hp => cases hp with
        | cons h2 hp => cases hp; exact pe_cmpR (op_cmp C.room _) h1 h2 (by simpa using e.2)
    · cases h
  · cases h
    cases hp with
    | cons h1 hp => cases hp; exact pe_un un_neg h1
  · cases h
    cases hp with
    | cons h1 hp => cases hp; exact pe_cmp (pc_isN h1) (nomark _)
  · cases h
    cases hp with
    | cons h1 hp => cases hp; exact pe_cmp (pc_notN h1) (nomark _)
  · split at h
    · rename_i e; subst e; cases h
      cases hp with
      | cons h1 hp => cases hp; exact pe_cmpR op_isBl h1 pe_bl (nomark _)
    · cases h
  · exact pe_b1 C hs h call_lenD' (by decide +kernel) (by decide) (by decide) hp
  · exact pe_t1 C hs h call_tuple_of (by decide +kernel) (by decide) (by decide) hp
  · exact pe_t1 C hs h call_list_of (by decide +kernel) (by decide) (by decide) hp
  · exact pe_b1 C hs h cr_sortedI (by decide +kernel) (by decide) (by decide) hp
  · exact pe_b1 C hs h (cr_sum C.calm) (by decide +kernel) (by decide) (by decide) hp
  · exact pe_b1 C hs h (cr_all C.calm) (by decide +kernel) (by decide) (by decide) hp
  · exact pe_b1 C hs h (cr_any C.calm) (by decide +kernel) (by decide) (by decide) hp
  · exact pe_b1 C hs h (cr_min C.calm) (by decide +kernel) (by decide) (by decide) hp
  · exact pe_b1 C hs h (cr_max C.calm) (by decide +kernel) (by decide) (by decide) hp
  · exact pe_b1 C hs h call_abs (by decide +kernel) (by decide) (by decide) hp
  · exact pe_t1 C hs h call_int1 (by decide +kernel) (by decide) (by decide) hp
  · exact pe_b2 C hs h (call_min2 C.calm) (by decide +kernel) (by decide) (by decide) hp
  · exact pe_b2 C hs h (call_max2 C.calm) (by decide +kernel) (by decide) (by decide) hp
  · split at h
    · rename_i hc
      rw [Bool.and_eq_true, Bool.and_eq_true] at hc
      cases h
      obtain ⟨rfl, g1, m1⟩ := blt_of C hs hc.1.1
      obtain ⟨rfl, g2, m2⟩ := blt_of C hs hc.1.2
      cases hp with
      | cons h1 hp =>
        cases hp
        exact PE.imp (pe_listRg C.calm g1 m1 (prg_1 g2 m2 h1 (star_cons hc.2)) rfl) fun σ H Q h => h
    · cases h
  · split at h
    · rename_i hc
      rw [Bool.and_eq_true, Bool.and_eq_true] at hc
      cases h
      obtain ⟨rfl, g1, m1⟩ := blt_of C hs hc.1.1
      obtain ⟨rfl, g2, m2⟩ := blt_of C hs hc.1.2
      cases hp with
      | cons h1 hp =>
        cases hp
        exact PE.imp (pe_tupRg C.calm g1 m1 (prg_1 g2 m2 h1 (star_cons hc.2)) rfl) fun σ H Q h => h
    · cases h
  · split at h
    · rename_i t x _ a y _ _ hc
      rw [Bool.and_eq_true, Bool.and_eq_true] at hc
      cases h
      obtain ⟨rfl, g1, m1⟩ := blt_of C hs hc.1.1
      obtain ⟨e2, g2, m2⟩ := blt_of C hs hc.1.2
      cases hp with
      | cons h1 hp =>
        cases hp
        have hb : bootBuiltins y = some (.type (tyN t)) := by rw [e2]; cases t <;> decide +kernel
        have hy : ∀ pos : Pos, PE X (.Name y pos) (tC (.ty (tyN t))) := fun pos => pe_bltn g2 m2 hb rfl (by rw [e2]; cases t <;> decide) (by rw [e2]; cases t <;> decide)
        exact PE.imp (pe_callB call_isi g1 m1 (by decide +kernel) (pa_of (ts := [_, _]) (by simp only [List.all_cons, hc.2]; rfl) (.cons h1 (.cons (hy _) .nil))) (by decide) (by decide) (star_cons hc.2) (star_any rfl)) fun σ H Q h => h
    · cases h
  · cases h
end
end DL
end

section
/-! DL8: readings of expressions. -/
namespace DL
open PySem PySem.Spec L2
open PyProof.Rows hiding St

section
variable {K : PySem.W.Frag} {P : Ctx}
/-- what is left behind an expression: shorthand -/
abbrev Post (K : PySem.W.Frag) (m : Bool) (Z : Addr → Prop) (H : Hp) (c : Cnt) (env' : EnvD) (σ : L2.St) (R : V → Hp → (Addr → Prop) → Cnt → Prop) (Q : VK) : Prop :=
  ∀ v H' Z' c' ca, ED K Z' H' env' σ c' → R v H' Z' ca → Gd Z' H' (add c' ca) → Fr m Z H c Z' H' (add c' ca) → (m = true → ∀ b, H b ≠ none → ca b = 0) → Q v H'

theorem bind_some {α β : Type} {x : Option α} {f : α → Option β} {r : β} (h : x.bind f = some r) : ∃ a, x = some a ∧ f a = some r := by
  cases x with
  | none => cases h
  | some a => exact ⟨a, rfl, h⟩
theorem map_some {α β : Type} {x : Option α} {f : α → β} {r : β} (h : x.map f = some r) : ∃ a, x = some a ∧ f a = r := by
  cases x with
  | none => cases h
  | some a => exact ⟨a, rfl, Option.some.inj h⟩
theorem if_some {α : Type} {c : Bool} {x : Option α} {r : α} (h : (if c = true then x else none) = some r) : c = true ∧ x = some r := by
  cases c with
  | true => exact ⟨rfl, h⟩
  | false => cases h

theorem in_var {i : Nat} {σ : L2.St} {H : Hp} {Q : VK} (h : tE K P (.var i) σ H Q) : tVar i σ H Q := by
  obtain ⟨m, Z, c, env, a, env', E, G, ev, k⟩ := h
  obtain ⟨d, h1, h2⟩ := map_some (show (getE env i).map (fun d => (if d.plain then A.tmp d else .ref i, env)) = some (a, env') from ev)
  injection h2 with ha he
  subst he
  obtain ⟨v, c1, c2, e1, q1, q2, e2⟩ := E.take (getE_some h1)
  refine ⟨v, e1, k v H Z c zc E ?_ (by rw [add_zc]; exact G) (by rw [add_zc]; exact Fr.refl) fun _ _ _ => rfl⟩
  subst ha
  cases hp : d.plain with
  | true =>
    have e0 := Den.pl hp q1
    rw [e0] at q1
    exact q1
  | false => exact ⟨e1, rfl⟩
theorem in_mv {i : Nat} {σ : L2.St} {H : Hp} {Q : VK} (h : tE K P (.mv i) σ H Q) : tVar i σ H Q := by
  obtain ⟨m, Z, c, env, a, env', E, G, ev, k⟩ := h
  have ev : (if m then none else (getE env i).map fun d => (A.tmp d, env.set i none)) = some (a, env') := ev
  cases m with
  | true => cases ev
  | false =>
    obtain ⟨d, h1, h2⟩ := map_some (show (getE env i).map (fun d => (A.tmp d, env.set i none)) = some (a, env') from ev)
    injection h2 with ha he
    subst ha he
    obtain ⟨v, c1, c2, e1, q1, q2, e2⟩ := E.take (getE_some h1)
    refine ⟨v, e1, k v H Z c2 c1 q2 q1 ?_ ?_ fun x => by cases x⟩
    · rw [add_comm, ← e2]; exact G
    · rw [add_comm, ← e2]; exact Fr.refl
theorem in_fz {i : Nat} {σ : L2.St} {H : Hp} {Q : VK} (h : tE K P (.fz i) σ H Q) : tVar i σ H Q := by
  obtain ⟨m, Z, c, env, r, env', E, G, ev, k⟩ := h
  cases m with
  | true => cases ev
  | false =>
    obtain ⟨d, g, e⟩ := map_some (show (getE env i).map (fun d => (A.tmp d.freeze, env.set i (some d.freeze))) = some (r, env') from ev)
    injection e with e1 e2
    subst e1 e2
    have hg := getE_some g
    obtain ⟨w, c1, c2, hv, q1, q2, rfl⟩ := E.take hg
    have gd : ∀ a, c1 a ≠ 0 → MutA H a := fun a x => (G a).2.1 (by simp only [add]; omega)
    refine ⟨w, hv, k w H (fun a => Z a ∨ c1 a ≠ 0) c2 zc ?_ (Den.frz (fun _ => .inl) (fun _ => .inr) q1) ?_ ?_ fun _ _ _ => rfl⟩
    · have r := ED.put (i := i) (ED.loc (Z' := fun a => Z a ∨ c1 a ≠ 0) (H' := H) (fun _ => .inl) (fun _ _ h _ => h) q2) (List.getElem?_eq_some_iff.mp hg).1 (Den.frz (W := fun a => Z a ∨ c1 a ≠ 0) (fun _ => .inl) (fun _ => .inr) q1)
      rw [zc_add, set_self hv] at r
      exact r
    · intro a
      obtain ⟨g1, g2, g3⟩ := G a
      simp only [add, zc] at *
      refine ⟨by omega, fun x => g2 (by omega), fun z => ?_⟩
      rcases z with z | z
      · exact ⟨by have := (g3 z).1; omega, (g3 z).2⟩
      · exact ⟨by omega, (gd a z).ne⟩
    · intro a
      simp only [add, zc]
      exact ⟨.inl, fun n => n, fun _ _ => trivial, fun n x => ⟨by omega, fun z => z.elim id fun y => absurd (by omega) y⟩⟩
theorem in_const {e : E} {d : D} {v : V} (hv : ∀ Z H, Den K Z H d v zc) (he : ∀ m env, evA P m e env = some (.tmp d, env)) {σ : L2.St} {H : Hp} {Q : VK} (h : tE K P e σ H Q) : Q v H := by
  obtain ⟨m, Z, c, env, a, env', E, G, ev, k⟩ := h
  rw [he] at ev
  injection ev with ev
  injection ev with ha he
  subst ha he
  exact k v H Z c zc E (hv Z H) (by rw [add_zc]; exact G) (by rw [add_zc]; exact Fr.refl) fun _ _ _ => rfl
/-- a new object that takes what its items own -/
theorem new_own {m : Bool} {Z Z' : Addr → Prop} {H H' : Hp} {c c' ca : Cnt} {env' : EnvD} {σ : L2.St} {p : Addr} {o : HO} (hp : H' p = none) (mo : isMut o = true) (E : ED K Z' H' env' σ c') (G : Gd Z' H' (add c' ca)) (F : Fr m Z H c Z' H' (add c' ca))
    (M : m = true → ∀ b, H b ≠ none → ca b = 0) : ED K Z' (upd H' p o) env' σ c' ∧ Gd Z' (upd H' p o) (add c' (add (one p) ca)) ∧ Fr m Z H c Z' (upd H' p o) (add c' (add (one p) ca)) ∧ (m = true → ∀ b, H b ≠ none → add (one p) ca b = 0) := by
  have e : add c' (add (one p) ca) = add (one p) (add c' ca) := by funext a; simp only [add]; omega
  refine ⟨ED.loc (fun _ z => z) (fun a u h _ => keep_new hp a u h) E, by rw [e]; exact G.new hp mo, by rw [e]; exact F.trans (Fr.new hp), fun x b hb => ?_⟩
  have h1 := M x b hb
  have h2 : b ≠ p := fun e => (F b).2.1 hb (e ▸ hp)
  simp only [add, one_ne h2]; omega
theorem new_tup {m : Bool} {Z Z' : Addr → Prop} {H H' : Hp} {c c' ca : Cnt} {env' : EnvD} {σ : L2.St} {p : Addr} {o : HO} (hp : H' p = none) (E : ED K Z' H' env' σ c') (G : Gd Z' H' (add c' ca)) (F : Fr m Z H c Z' H' (add c' ca)) :
    ED K Z' (upd H' p o) env' σ c' ∧ Gd Z' (upd H' p o) (add c' ca) ∧ Fr m Z H c Z' (upd H' p o) (add c' ca) :=
  ⟨ED.loc (fun _ z => z) (fun a u h _ => keep_new hp a u h) E, G.newT hp, F.trans (Fr.newT hp)⟩
theorem in_tup {es : List E} {σ : L2.St} {H : Hp} {Q : VK} (h : tE K P (.tup es) σ H Q) : tL (es.map (tE K P)) σ H (fun xs H1 => xs.length ≤ sizeLine ∧ ∀ p, H1 p = none → Q (.ref p) (upd H1 p (.tup xs))) := by
  obtain ⟨m, Z, c, env, a, env', E, G, ev, k⟩ := h
  obtain ⟨x, h1, h2⟩ := bind_some (show ((evMs P m es env).bind fun x => if szOk x.1.length then some (A.tmp (.tup x.1), x.2) else none) = some (a, env') from ev)
  obtain ⟨h3, h4⟩ := if_some h2
  injection h4 with h4
  injection h4 with ha he
  subst ha he
  refine seqM ⟨m, Z, c, env, x.1, x.2, E, G, h1, fun vs H1 Z1 c1 ca1 E1 q1 G1 F1 M1 => ⟨by rw [q1.length]; exact of_decide_eq_true h3, fun p hp => ?_⟩⟩
  obtain ⟨E2, G2, F2⟩ := new_tup (o := .tup vs) hp E1 G1 F1
  exact k _ _ Z1 c1 ca1 E2 ⟨p, vs, rfl, SqT.of upd_same, Dens.loc (fun _ z => z) (fun a u h _ => keep_new hp a u h) q1⟩ G2 F2 M1
theorem in_lst {es : List E} {σ : L2.St} {H : Hp} {Q : VK} (h : tE K P (.lst es) σ H Q) : tL (es.map (tE K P)) σ H (fun xs H1 => xs.length ≤ sizeLine ∧ ∀ p, H1 p = none → Q (.ref p) (upd H1 p (.lst xs))) := by
  obtain ⟨m, Z, c, env, a, env', E, G, ev, k⟩ := h
  obtain ⟨x, h1, h2⟩ := bind_some (show ((evMs P m es env).bind fun x => if szOk x.1.length then some (A.tmp (.lst true x.1), x.2) else none) = some (a, env') from ev)
  obtain ⟨h3, h4⟩ := if_some h2
  injection h4 with h4
  injection h4 with ha he
  subst ha he
  refine seqM ⟨m, Z, c, env, x.1, x.2, E, G, h1, fun vs H1 Z1 c1 ca1 E1 q1 G1 F1 M1 => ⟨by rw [q1.length]; exact of_decide_eq_true h3, fun p hp => ?_⟩⟩
  obtain ⟨E2, G2, F2, M2⟩ := new_own (o := .lst vs) hp rfl E1 G1 F1 M1
  exact k _ _ Z1 c1 (add (one p) ca1) E2 ⟨p, vs, ca1, rfl, upd_same, Dens.loc (fun _ z => z) (fun a u h _ => keep_new hp a u h) q1, rfl⟩ G2 F2 M2

/-! ### subscripts -/
def rSub (K : PySem.W.Frag) : R2 := fun x y H Q => rIxL K x y H Q ∨ (rIxT K x y H Q ∨ ∃ a v, x = .ref a ∧ DGet H a y (some v) ∧ Q v H)
theorem ix_sub {X : Cx} (hr : Room 0 X.A) : IxR X (rSub X.K) := ix_list.or (ix_tup.or (ix_dict (hu_of hr)))
theorem atI_both {α β : Type} {xs : List α} {ys : List β} {i : Int} {x : α} (h : atI xs i = some x) (hl : ys.length = xs.length) : ∃ j : Nat, xs[j]? = some x ∧ ∀ y, ys[j]? = some y → atI ys i = some y := by
  unfold atI at h
  obtain ⟨j, h1, h2⟩ := bind_some h
  refine ⟨j, h2, fun y hy => ?_⟩
  unfold atI
  rw [hl, h1]
  exact hy
theorem dens_at {Z : Addr → Prop} {H : Hp} {ds : List D} {vs : List V} {c : Cnt} {j : Nat} {d : D} (q : Dens K Z H ds vs c) (h : ds[j]? = some d) : ∃ v c1, vs[j]? = some v ∧ Den K Z H d v c1 ∧ ∀ a, c1 a ≤ c a := by
  obtain ⟨v, c1, c2, h1, h2, rfl, _⟩ := q.at h
  exact ⟨v, c1, h1, h2, fun a => by simp only [add]; omega⟩
theorem sub_den {Z : Addr → Prop} {H : Hp} {b k d : D} {v u : V} {c1 c2 : Cnt} (qb : Den K Z H b v c1) (qk : Den K Z H k u c2) (h : subD b k = some d) :
    ∃ w cd, (∀ Q : VK, Q w H → rSub K v u H Q) ∧ Den K Z H d w cd ∧ ∀ a, cd a ≤ c1 a := by
  cases b with
  | tup ds =>
    cases k with
    | int i =>
      obtain ⟨a, vs, rfl, s, q⟩ := qb
      obtain ⟨j, h1, h2⟩ := atI_both (ys := vs) h q.length
      obtain ⟨w, cd, e1, q1, le⟩ := dens_at q h1
      exact ⟨w, cd, fun Q hq => .inr (.inl ⟨a, vs, i, w, rfl, qk.1, s, h2 w e1, hq⟩), q1, le⟩
    | _ => cases h
  | lst o ds =>
    cases k with
    | int i =>
      have h : atI ds i = some d := h
      cases o with
      | true =>
        obtain ⟨a, vs, c', rfl, s, q, rfl⟩ := qb
        obtain ⟨j, h1, h2⟩ := atI_both (ys := vs) h q.length
        obtain ⟨w, cd, e1, q1, le⟩ := dens_at q h1
        exact ⟨w, cd, fun Q hq => .inl ⟨a, vs, i, w, rfl, qk.1, SqL.of s, h2 w e1, hq⟩, q1, fun a => by have := le a; simp only [add]; omega⟩
      | false =>
        obtain ⟨a, vs, rfl, s, z, q, rfl⟩ := qb
        obtain ⟨j, h1, h2⟩ := atI_both (ys := vs) h q.length
        obtain ⟨w, cd, e1, q1, le⟩ := dens_at q h1
        exact ⟨w, cd, fun Q hq => .inl ⟨a, vs, i, w, rfl, qk.1, SqL.of s, h2 w e1, hq⟩, q1, le⟩
    | _ => cases h
  | scr ns =>
    cases k with
    | int i =>
      obtain ⟨n, h1, rfl⟩ := map_some (show (atI ns i).map D.int = some d from h)
      obtain ⟨a, rfl, s, rfl⟩ := qb
      obtain ⟨j, h2, h3⟩ := atI_both (ys := ns.map V.int) h1 (by simp)
      exact ⟨.int n, zc, fun Q hq => .inl ⟨a, _, i, _, rfl, qk.1, s.seq, h3 _ (by rw [List.getElem?_map, h2]; rfl), hq⟩, ⟨rfl, rfl⟩, fun a => Nat.zero_le _⟩
    | _ => cases h
  | dK o ks ds =>
    obtain ⟨kk, h1, h2⟩ := bind_some (show (D.key? k).bind (fun k => (find k ks 0).bind fun j => ds[j]?) = some d from by cases k <;> exact h)
    obtain ⟨j, h3, h4⟩ := bind_some h2
    have ek := keyD qk h1
    subst ek
    have core : ∀ {kvs : List (Key × V)} {a : Addr} {c' : Cnt}, H a = some (.dK kvs) → kvs.map (·.1) = ks ∧ ks.Nodup → Dens K Z H ds (kvs.map (·.2)) c' → v = .ref a → ∃ w cd, (∀ Q : VK, Q w H → rSub K v (kV kk) H Q) ∧ Den K Z H d w cd ∧ ∀ a, cd a ≤ c' a := by
      intro kvs a c' s ek q rfl
      obtain ⟨w, cd, e1, q1, le⟩ := dens_at q h4
      refine ⟨w, cd, fun Q hq => .inr (.inr ⟨a, w, rfl, ?_, hq⟩), q1, le⟩
      have : valV kvs kk = some w := by
        rw [val_find kk kvs 0, ek.1, h3]
        exact e1
      rw [← this]
      exact DGet.k s
    cases o with
    | true =>
      obtain ⟨a, kvs, c', e, s, ek, q, rfl⟩ := qb
      obtain ⟨w, cd, f, q1, le⟩ := core s ek q e
      exact ⟨w, cd, f, q1, fun a => by have := le a; simp only [add]; omega⟩
    | false =>
      obtain ⟨a, kvs, e, s, ek, z, q, rfl⟩ := qb
      exact core s ek q e
  | _ => cases h
end
end DL
end

section
/-! DL9: readings of expressions, further. -/
namespace DL
open PySem PySem.Spec L2
open PyProof.Rows hiding St

section
variable {K : PySem.W.Frag} {P : Ctx}
/-- an operand, looked at -/
theorem AD.look {Z : Addr → Prop} {H : Hp} {σ : L2.St} {env : EnvD} {c ca : Cnt} {a : A} {v : V} {d : D} (E : ED K Z H env σ c) (q : AD K Z H σ a v ca) (g : a.get env = some d) : ∃ c1, Den K Z H d v c1 ∧ (a.isTmp = true → c1 = ca) := by
  cases a with
  | tmp d' => cases g; exact ⟨ca, q, fun _ => rfl⟩
  | pk d' => cases g; obtain ⟨⟨c3, q⟩, _⟩ := q; exact ⟨c3, q, fun h => by cases h⟩
  | ref i =>
    obtain ⟨w, k1, k2, e1, q3, _, _⟩ := E.take (getE_some g)
    rw [q.1] at e1; cases e1
    exact ⟨k1, q3, fun h => by cases h⟩
theorem isPk_of {m : Bool} {a : A} : ∀ d, a = .pk d → (m || a.isPk) = true := by
  intro d h; subst h; simp [A.isPk]
theorem mkA_plain {t : Bool} {d : D} (h : d.plain = true) : mkA t d = .tmp d := by unfold mkA; rw [h]; rfl
theorem mkA_tmp {d : D} : mkA true d = .tmp d := by unfold mkA; rw [Bool.or_true]; rfl
theorem mkA_pk {d : D} (h : d.plain = false) : mkA false d = .pk d := by unfold mkA; rw [h]; rfl
theorem A.of_tmp {a : A} {d : D} (h : a.tmp? = some d) : a = .tmp d := by
  cases a with
  | tmp d' => cases h; rfl
  | _ => cases h
theorem A.of_bl {a : A} {b : Bool} (h : a.bl? = some b) : a = .tmp (.bl b) := by
  cases a with
  | tmp d =>
    cases d with
    | bl b' => cases h; rfl
    | _ => cases h
  | _ => cases h
theorem A.of_int {a : A} {b : Int} (h : a.int? = some b) : a = .tmp (.int b) := by
  cases a with
  | tmp d =>
    cases d with
    | int b' => cases h; rfl
    | _ => cases h
  | _ => cases h
theorem D.of_bl {a : D} {b : Bool} (h : a.bl? = some b) : a = .bl b := by
  cases a with
  | bl b' => cases h; rfl
  | _ => cases h
theorem in_sub {a i : E} {σ : L2.St} {H : Hp} {Q : VK} (h : tE K P (.sub a i) σ H Q) : tE K P a σ H (fun x H1 => tE K P i σ H1 fun y H2 => rSub K x y H2 Q) := by
  obtain ⟨m, Z, c, env, r, env', E, G, ev, k⟩ := h
  obtain ⟨x, h1, h2⟩ := bind_some (show ((evA P m a env).bind fun x => (evA P (m || x.1.isPk) i x.2).bind fun y =>
      (x.1.get y.2).bind fun b => (y.1.get y.2).bind fun k => (subD b k).map fun d => (mkA x.1.isTmp d, y.2)) = some (r, env') from ev)
  obtain ⟨y, h3, h4⟩ := bind_some h2
  obtain ⟨b, h5, h6⟩ := bind_some h4
  obtain ⟨kk, h7, h8⟩ := bind_some h6
  obtain ⟨d, h9, h10⟩ := map_some h8
  injection h10 with hr he
  subst he
  refine ⟨m, Z, c, env, x.1, x.2, E, G, h1, fun v H1 Z1 c1 ca1 E1 q1 G1 F1 M1 => ?_⟩
  refine ⟨m || x.1.isPk, Z1, c1, x.2, y.1, y.2, E1, G1.le (fun a => by simp only [add]; omega), h3, fun u H2 Z2 c2 ca2 E2 q2 G2 F2 M2 => ?_⟩
  obtain ⟨q1', G', F'⟩ := frame_step G1 q1 F2 G2 isPk_of
  obtain ⟨cb, qb, eb⟩ := q1'.look E2 h5
  obtain ⟨ck, qk, _⟩ := q2.look E2 h7
  obtain ⟨w, cd, f, qd, le⟩ := sub_den qb qk h9
  refine f Q ?_
  have F3 := F1.trans (F'.low (by intro x; simp [x]))
  subst hr
  have rest : ∀ (a : A) (cx : Cnt), AD K Z2 H2 σ a w cx → (∀ a, cx a ≤ ca1 a) → Q w H2 → Q w H2 := fun _ _ _ _ h => h
  cases hp : d.plain with
  | true =>
    have e0 := Den.pl hp qd
    subst e0
    refine k w H2 Z2 c2 zc E2 (by rw [mkA_plain hp]; exact qd) (G'.le fun a => by simp only [add, zc]; omega) (F3.lessR fun a => by simp only [add, zc]; omega) fun _ _ _ => rfl
  | false =>
    cases ht : x.1.isTmp with
    | true =>
      have e1 := eb ht
      subst e1
      refine k w H2 Z2 c2 cd E2 ?_ (G'.le fun a => by have := le a; simp only [add]; omega) (F3.lessR fun a => by have := le a; simp only [add]; omega) fun x b hb => by have := le b; have := M1 x b hb; omega
      rw [ht, mkA_tmp]
      exact qd
    | false =>
      refine k w H2 Z2 c2 zc E2 ?_ (G'.le fun a => by simp only [add, zc]; omega) (F3.lessR fun a => by simp only [add, zc]; omega) fun _ _ _ => rfl
      rw [ht, mkA_pk hp]
      exact ⟨⟨cd, qd⟩, rfl⟩
theorem in_ite {a b : E} {t : T} {σ : L2.St} {H : Hp} {Q : VK} (h : tE K P (.ite t a b) σ H Q) : tIf (tT K P t) (tE K P a) (tE K P b) σ H Q := by
  obtain ⟨m, Z, c, env, r, env', E, G, ev, k⟩ := h
  obtain ⟨x, h1, h2⟩ := bind_some (show ((evT P m t env).bind fun x => if x.1 then evA P m a x.2 else evA P m b x.2) = some (r, env') from ev)
  refine ⟨m, Z, c, env, x.1, x.2, E, G, h1, fun H1 Z1 c1 E1 G1 F1 => ?_⟩
  have fin : ∀ e, evA P m e x.2 = some (r, env') → tE K P e σ H1 Q := fun e he => ⟨m, Z1, c1, x.2, r, env', E1, G1, he, fun v H2 Z2 c2 ca2 E2 q2 G2 F2 M2 => k v H2 Z2 c2 ca2 E2 q2 G2 (F1.trans F2) fun x b hb => M2 x b ((F1 b).2.1 hb)⟩
  cases hx : x.1 with
  | true => rw [hx] at h2; exact fin a h2
  | false => rw [hx] at h2; exact fin b h2

/-! ### truth -/
theorem tru_of {Z : Addr → Prop} {H : Hp} {d : D} {v : V} {c : Cnt} {t : Bool} (q : Den K Z H d v c) (h : d.truthy = some t) : TruV K v H t := by
  have le : ∀ {α β : Type} {xs : List α} {ys : List β}, xs.length = ys.length → (!ys.isEmpty) = !xs.isEmpty := by
    intro α β xs ys h
    cases xs <;> cases ys <;> first | rfl | cases h
  cases d with
  | non => cases h; rw [q.1]; rfl
  | bl b => cases h; rw [q.1]; rfl
  | int i => cases h; rw [q.1]; rfl
  | str s =>
    have h : (if s.length ≤ sizeLine then some (s.length != 0) else none) = some t := h
    split at h
    · rename_i hs
      cases h
      rw [q.1]
      refine ⟨hs, ?_⟩
      cases hl : s.length with
      | zero => rfl
      | succ n => simp; omega
    · cases h
  | tup ds =>
    cases h
    obtain ⟨a, vs, rfl, s, q⟩ := q
    exact .inr (.inl ⟨vs, s, le q.length⟩)
  | lst o ds =>
    cases h
    obtain ⟨a, vs, c', rfl, s, q⟩ := q.lstI
    exact .inl ⟨vs, SqL.of s, le q.length⟩
  | dK o ks ds =>
    cases h
    obtain ⟨a, kvs, c', rfl, s, ek, q⟩ := q.dKI
    exact .inr (.inr ⟨kvs, s, le (by rw [← ek.1, List.length_map])⟩)
  | _ => cases h
theorem in_not {e : E} {σ : L2.St} {H : Hp} {Q : VK} (h : tE K P (.not e) σ H Q) : tNotT K (tE K P e) σ H Q := by
  obtain ⟨m, Z, c, env, r, env', E, G, ev, k⟩ := h
  obtain ⟨x, h1, h2⟩ := bind_some (show ((evA P m e env).bind fun x => (x.1.get x.2).bind fun d => (d.truthy).map fun t => (A.tmp (.bl (!t)), x.2)) = some (r, env') from ev)
  obtain ⟨d, h3, h4⟩ := bind_some h2
  obtain ⟨t, h5, h6⟩ := map_some h4
  injection h6 with hr he
  subst hr he
  refine ⟨m, Z, c, env, x.1, x.2, E, G, h1, fun v H1 Z1 c1 ca1 E1 q1 G1 F1 M1 => ?_⟩
  obtain ⟨cd, qd, _⟩ := q1.look E1 h3
  exact ⟨t, tru_of qd h5, k _ H1 Z1 c1 zc E1 ⟨rfl, rfl⟩ (G1.le fun a => by simp only [add, zc]; omega) (F1.lessR fun a => by simp only [add, zc]; omega) fun _ _ _ => rfl⟩
theorem in_val {e : E} {σ : L2.St} {H : Hp} {Q : Bool → Hp → Prop} (h : tT K P (.val e) σ H Q) : tE K P e σ H (fun x H1 => ∃ k, TruV K x H1 k ∧ Q k H1) := by
  obtain ⟨m, Z, c, env, r, env', E, G, ev, k⟩ := h
  obtain ⟨x, h1, h2⟩ := bind_some (show ((evA P m e env).bind fun x => (x.1.get x.2).bind fun d => (d.truthy).map fun t => (t, x.2)) = some (r, env') from ev)
  obtain ⟨d, h3, h4⟩ := bind_some h2
  obtain ⟨t, h5, h6⟩ := map_some h4
  injection h6 with hr he
  subst hr he
  refine ⟨m, Z, c, env, x.1, x.2, E, G, h1, fun v H1 Z1 c1 ca1 E1 q1 G1 F1 M1 => ?_⟩
  obtain ⟨cd, qd, _⟩ := q1.look E1 h3
  exact ⟨t, tru_of qd h5, k H1 Z1 c1 E1 (G1.le fun a => by simp only [add]; omega) (F1.lessR fun a => by simp only [add]; omega)⟩
theorem in_tnot {e : T} {σ : L2.St} {H : Hp} {Q : Bool → Hp → Prop} (h : tT K P (.not e) σ H Q) : tNot (tT K P e) σ H Q := by
  obtain ⟨m, Z, c, env, r, env', E, G, ev, k⟩ := h
  obtain ⟨x, h1, h2⟩ := map_some (show ((evT P m e env).map fun x => (!x.1, x.2)) = some (r, env') from ev)
  injection h2 with hr he
  subst hr he
  exact ⟨m, Z, c, env, x.1, x.2, E, G, h1, k⟩
theorem in_tite {t a b : T} {σ : L2.St} {H : Hp} {Q : Bool → Hp → Prop} (h : tT K P (.ite t a b) σ H Q) : tT K P t σ H (fun k H1 => if k = true then tT K P a σ H1 Q else tT K P b σ H1 Q) := by
  obtain ⟨m, Z, c, env, r, env', E, G, ev, k⟩ := h
  obtain ⟨x, h1, h2⟩ := bind_some (show ((evT P m t env).bind fun x => if x.1 then evT P m a x.2 else evT P m b x.2) = some (r, env') from ev)
  refine ⟨m, Z, c, env, x.1, x.2, E, G, h1, fun H1 Z1 c1 E1 G1 F1 => ?_⟩
  have fin : ∀ e, evT P m e x.2 = some (r, env') → tT K P e σ H1 Q := fun e he => ⟨m, Z1, c1, x.2, r, env', E1, G1, he, fun H2 Z2 c2 E2 G2 F2 => k H2 Z2 c2 E2 G2 (F1.trans F2)⟩
  cases hx : x.1 with
  | true => rw [hx] at h2; exact fin a h2
  | false => rw [hx] at h2; exact fin b h2
theorem in_tand {t : T} {ts : List T} {σ : L2.St} {H : Hp} {Q : Bool → Hp → Prop} (h : tT K P (.and (t :: ts)) σ H Q) : tT K P t σ H (fun k H1 => if k = true then tT K P (.and ts) σ H1 Q else Q false H1) := by
  obtain ⟨m, Z, c, env, r, env', E, G, ev, k⟩ := h
  obtain ⟨x, h1, h2⟩ := bind_some (show ((evT P m t env).bind fun x => if x.1 then evTand P m ts x.2 else some (false, x.2)) = some (r, env') from ev)
  refine ⟨m, Z, c, env, x.1, x.2, E, G, h1, fun H1 Z1 c1 E1 G1 F1 => ?_⟩
  cases hx : x.1 with
  | true =>
    rw [hx] at h2
    exact ⟨m, Z1, c1, x.2, r, env', E1, G1, h2, fun H2 Z2 c2 E2 G2 F2 => k H2 Z2 c2 E2 G2 (F1.trans F2)⟩
  | false =>
    rw [hx] at h2
    have h2 : some (false, x.2) = some (r, env') := h2
    injection h2 with h2
    injection h2 with hr he
    subst hr he
    exact k H1 Z1 c1 E1 G1 F1
theorem in_tor {t : T} {ts : List T} {σ : L2.St} {H : Hp} {Q : Bool → Hp → Prop} (h : tT K P (.or (t :: ts)) σ H Q) : tT K P t σ H (fun k H1 => if k = true then Q true H1 else tT K P (.or ts) σ H1 Q) := by
  obtain ⟨m, Z, c, env, r, env', E, G, ev, k⟩ := h
  obtain ⟨x, h1, h2⟩ := bind_some (show ((evT P m t env).bind fun x => if x.1 then some (true, x.2) else evTor P m ts x.2) = some (r, env') from ev)
  refine ⟨m, Z, c, env, x.1, x.2, E, G, h1, fun H1 Z1 c1 E1 G1 F1 => ?_⟩
  cases hx : x.1 with
  | true =>
    rw [hx] at h2
    have h2 : some (true, x.2) = some (r, env') := h2
    injection h2 with h2
    injection h2 with hr he
    subst hr he
    exact k H1 Z1 c1 E1 G1 F1
  | false =>
    rw [hx] at h2
    exact ⟨m, Z1, c1, x.2, r, env', E1, G1, h2, fun H2 Z2 c2 E2 G2 F2 => k H2 Z2 c2 E2 G2 (F1.trans F2)⟩
/-- the last of and, or: the test itself -/
theorem in_tand1 {t : T} {σ : L2.St} {H : Hp} {Q : Bool → Hp → Prop} (h : tT K P (.and [t]) σ H Q) : tT K P t σ H Q := by
  obtain ⟨m, Z, c, env, r, env', E, G, ev, k⟩ := h
  obtain ⟨x, h1, h2⟩ := bind_some (show ((evT P m t env).bind fun x => if x.1 then some (true, x.2) else some (false, x.2)) = some (r, env') from ev)
  refine ⟨m, Z, c, env, x.1, x.2, E, G, h1, ?_⟩
  have e : some (x.1, x.2) = some (r, env') := by
    cases hx : x.1 with
    | true => rw [hx] at h2; exact h2
    | false => rw [hx] at h2; exact h2
  injection e with e
  injection e with hr he
  subst hr he
  exact k
theorem in_tor1 {t : T} {σ : L2.St} {H : Hp} {Q : Bool → Hp → Prop} (h : tT K P (.or [t]) σ H Q) : tT K P t σ H Q := by
  obtain ⟨m, Z, c, env, r, env', E, G, ev, k⟩ := h
  obtain ⟨x, h1, h2⟩ := bind_some (show ((evT P m t env).bind fun x => if x.1 then some (true, x.2) else some (false, x.2)) = some (r, env') from ev)
  refine ⟨m, Z, c, env, x.1, x.2, E, G, h1, ?_⟩
  have e : some (x.1, x.2) = some (r, env') := by
    cases hx : x.1 with
    | true => rw [hx] at h2; exact h2
    | false => rw [hx] at h2; exact h2
  injection e with e
  injection e with hr he
  subst hr he
  exact k
/-- and, or as values -/
theorem in_and {e f : E} {es : List E} {σ : L2.St} {H : Hp} {Q : VK} (h : tE K P (.and (e :: f :: es)) σ H Q) : tE K P e σ H (fun x H1 => ∃ c, x = .bl c ∧ if c = true then tE K P (.and (f :: es)) σ H1 Q else Q (.bl false) H1) := by
  obtain ⟨m, Z, c, env, r, env', E, G, ev, k⟩ := h
  obtain ⟨x, h1, h2⟩ := bind_some (show ((evA P m e env).bind fun x => (x.1.bl?).bind fun t => if t then evAnd P m (f :: es) x.2 else some (.tmp (.bl false), x.2)) = some (r, env') from ev)
  obtain ⟨t, h3, h4⟩ := bind_some h2
  refine ⟨m, Z, c, env, x.1, x.2, E, G, h1, fun v H1 Z1 c1 ca1 E1 q1 G1 F1 M1 => ?_⟩
  rw [A.of_bl h3] at q1
  have q1 : v = .bl t ∧ ca1 = zc := q1
  obtain ⟨rfl, rfl⟩ := q1
  rw [add_zc] at G1 F1
  refine ⟨t, rfl, ?_⟩
  cases t with
  | true =>
    rw [if_pos rfl]
    exact ⟨m, Z1, c1, x.2, r, env', E1, G1, h4, fun v H2 Z2 c2 ca2 E2 q2 G2 F2 M2 => k v H2 Z2 c2 ca2 E2 q2 G2 (F1.trans F2) fun x b hb => M2 x b ((F1 b).2.1 hb)⟩
  | false =>
    have h4 : some (A.tmp (.bl false), x.2) = some (r, env') := h4
    injection h4 with h4
    injection h4 with hr he
    subst hr he
    rw [if_neg (by decide)]
    exact k _ H1 Z1 c1 zc E1 ⟨rfl, rfl⟩ (by rw [add_zc]; exact G1) (by rw [add_zc]; exact F1) fun _ _ _ => rfl
theorem in_or {e f : E} {es : List E} {σ : L2.St} {H : Hp} {Q : VK} (h : tE K P (.or (e :: f :: es)) σ H Q) : tE K P e σ H (fun x H1 => ∃ c, x = .bl c ∧ if c = true then Q (.bl true) H1 else tE K P (.or (f :: es)) σ H1 Q) := by
  obtain ⟨m, Z, c, env, r, env', E, G, ev, k⟩ := h
  obtain ⟨x, h1, h2⟩ := bind_some (show ((evA P m e env).bind fun x => (x.1.bl?).bind fun t => if t then some (.tmp (.bl true), x.2) else evOr P m (f :: es) x.2) = some (r, env') from ev)
  obtain ⟨t, h3, h4⟩ := bind_some h2
  refine ⟨m, Z, c, env, x.1, x.2, E, G, h1, fun v H1 Z1 c1 ca1 E1 q1 G1 F1 M1 => ?_⟩
  rw [A.of_bl h3] at q1
  have q1 : v = .bl t ∧ ca1 = zc := q1
  obtain ⟨rfl, rfl⟩ := q1
  rw [add_zc] at G1 F1
  refine ⟨t, rfl, ?_⟩
  cases t with
  | false =>
    rw [if_neg (by decide)]
    exact ⟨m, Z1, c1, x.2, r, env', E1, G1, h4, fun v H2 Z2 c2 ca2 E2 q2 G2 F2 M2 => k v H2 Z2 c2 ca2 E2 q2 G2 (F1.trans F2) fun x b hb => M2 x b ((F1 b).2.1 hb)⟩
  | true =>
    have h4 : some (A.tmp (.bl true), x.2) = some (r, env') := h4
    injection h4 with h4
    injection h4 with hr he
    subst hr he
    rw [if_pos rfl]
    exact k _ H1 Z1 c1 zc E1 ⟨rfl, rfl⟩ (by rw [add_zc]; exact G1) (by rw [add_zc]; exact F1) fun _ _ _ => rfl
theorem in_and1 {e : E} {σ : L2.St} {H : Hp} {Q : VK} (h : tE K P (.and [e]) σ H Q) : tE K P e σ H Q := h
theorem in_or1 {e : E} {σ : L2.St} {H : Hp} {Q : VK} (h : tE K P (.or [e]) σ H Q) : tE K P e σ H Q := h

/-! ### a op b op' c -/
theorem Fr_of_keep {m : Bool} {Z : Addr → Prop} {H H' : Hp} {c ca : Cnt} (keep : ∀ a u, H a = some u → H' a = some u) (fresh : ∀ a, H a ≠ none → ca a = 0) : Fr m Z H c Z H' (add c ca) := fun a => by
  refine ⟨fun z => z, fun n => ?_, fun n _ => ?_, fun n x => ⟨by have := fresh a n; simp only [add] at *; omega, fun z => z⟩⟩
  · obtain ⟨o, ho⟩ := Option.ne_none_iff_exists'.mp n
    rw [keep a o ho]; simp
  · obtain ⟨o, ho⟩ := Option.ne_none_iff_exists'.mp n
    rw [keep a o ho, ho]
theorem in_cmp2 {o1 o2 : CmpOp} {a b e : E} {σ : L2.St} {H : Hp} {Q : VK} (h : tE K P (.cmp2 o1 o2 a b e) σ H Q) : tChain (rCmp K o1) (rCmp K o2) (tE K P a) (tE K P b) (tE K P e) σ H Q := by
  obtain ⟨m, Z, c, env, r, env', E, G, ev, k⟩ := h
  obtain ⟨x, h1, h2⟩ := bind_some (show ((evA P m a env).bind fun x => (evA P (m || x.1.isPk) b x.2).bind fun y => (x.1.tmp?).bind fun dx => (y.1.tmp?).bind fun dy =>
      ((cmpD o1 dx dy).bind D.bl?).bind fun t => if t then (evA P m e y.2).bind fun z => (z.1.tmp?).bind fun dz => (cmpD o2 dy dz).map fun d => (A.tmp d, z.2) else some (.tmp (.bl false), y.2)) = some (r, env') from ev)
  obtain ⟨y, h3, h4⟩ := bind_some h2
  obtain ⟨dx, hx, h4⟩ := bind_some h4
  obtain ⟨dy, hy, h4⟩ := bind_some h4
  obtain ⟨t, ht, h6⟩ := bind_some h4
  obtain ⟨rr, h5, hb⟩ := bind_some ht
  have hb := D.of_bl hb
  subst hb
  have hx := A.of_tmp hx
  have hy := A.of_tmp hy
  obtain ⟨ax, env1⟩ := x
  obtain ⟨ay, env2⟩ := y
  simp only at hx hy
  subst hx hy
  refine ⟨m, Z, c, env, _, env1, E, G, h1, fun v H1 Z1 c1 ca1 E1 q1 G1 F1 M1 => ?_⟩
  refine ⟨m || false, Z1, c1, env1, _, env2, E1, G1.le (fun a => by simp only [add]; omega), h3, fun u H2 Z2 c2 ca2 E2 q2 G2 F2 M2 => ?_⟩
  obtain ⟨q1', G', F'⟩ := frame_step G1 q1 F2 G2 (fun d h => by cases h)
  have F3 := F1.trans (F'.low (by intro x; simp [x]))
  have ee : add (add c2 ca2) ca1 = add c2 (add ca2 ca1) := by funext a; simp only [add]; omega
  rw [ee] at G' F3
  refine ok_cmp o1 Z2 H2 (add c2 (add ca2 ca1)) [dx, dy] [v, u] (.bl t) _ ⟨v, [u], _, rfl, q1', u, [], _, rfl, q2, rfl⟩ G' h5 fun z H3 ca3 q3 G3 keep fresh => ?_
  have q3 : z = .bl t ∧ ca3 = zc := q3
  obtain ⟨rfl, rfl⟩ := q3
  have E3 : ED K Z2 H3 env2 σ c2 := ED.loc (fun _ z => z) (fun a o h _ => keep a o h) E2
  have F4 := F3.trans (Fr_of_keep keep fresh)
  rw [add_zc] at G3 F4
  refine ⟨t, rfl, ?_⟩
  cases t with
  | true =>
    rw [if_pos rfl]
    obtain ⟨z3, h7, h8⟩ := bind_some (show ((evA P m e env2).bind fun z => (z.1.tmp?).bind fun dz => (cmpD o2 dy dz).map fun d => (A.tmp d, z.2)) = some (r, env') from h6)
    obtain ⟨dz, hz, h8⟩ := bind_some h8
    obtain ⟨dd, h9, h10⟩ := map_some h8
    injection h10 with hr he
    subst hr he
    have hz := A.of_tmp hz
    refine ⟨m, Z2, c2, env2, z3.1, z3.2, E3, G3.le (fun a => by simp only [add]; omega), h7, fun w H4 Z4 c4 ca4 E4 q4 G4 F5 M4 => ?_⟩
    rw [hz] at q4
    have q2b : AD K Z2 H3 σ (.tmp dy) u ca2 := Den.loc (fun _ z => z) (fun a o h _ => keep a o h) q2
    obtain ⟨q2', G5, F6⟩ := frame_step (σ := σ) (ca1 := ca2) (G3.le fun a => by simp only [add]; omega) q2b F5 G4 (fun d h => by cases h)
    refine ok_cmp o2 Z4 H4 (add (add c4 ca4) ca2) [dy, dz] [u, w] dd Q ⟨u, [w], _, rfl, q2', w, [], _, rfl, q4, rfl⟩ G5 h9 fun z5 H5 ca5 q5 G6 keep5 fresh5 => ?_
    have F8 := ((F4.lessR (e := add c2 ca2) fun a => by simp only [add]; omega).trans F6).trans (Fr_of_keep keep5 fresh5)
    refine k z5 H5 Z4 c4 ca5 (ED.loc (fun _ z => z) (fun a o h _ => keep5 a o h) E4) q5 (G6.le fun a => by simp only [add]; omega) (F8.lessR fun a => by simp only [add]; omega) fun x b hb => fresh5 b ((F6 b).2.1 ((F4 b).2.1 hb))
  | false =>
    have h6 : some (A.tmp (.bl false), env2) = some (r, env') := h6
    injection h6 with h6
    injection h6 with hr he
    subst hr he
    rw [if_neg (by decide)]
    exact k _ H3 Z2 c2 zc E3 ⟨rfl, rfl⟩ (G3.le fun a => by simp only [add, zc]; omega) (F4.lessR fun a => by simp only [add, zc]; omega) fun _ _ _ => rfl

/-! ### slices -/
def rSli (K : PySem.W.Frag) : V → Option Int → Option Int → Hp → VK → Prop := fun x lo hi H Q => rSlL K x lo hi H Q ∨ rSlA K x lo hi H Q
theorem sl_both {X : Cx} : SlR X (rSli X.K) := sl_list.or sl_tupA
def tI (K : PySem.W.Frag) (P : Ctx) : List E → TO
  | [] => tNoPart
  | [e] => tPart (tE K P e)
  | _ => fun _ _ _ => False
theorem in_I {m : Bool} {Z : Addr → Prop} {c : Cnt} {env env' : EnvD} {es : List E} {o : Option Int} {σ : L2.St} {H : Hp} {Q : Option Int → Hp → Prop} (E : ED K Z H env σ c) (G : Gd Z H c) (ev : evI P m es env = some (o, env'))
    (k : ∀ H' Z' c', ED K Z' H' env' σ c' → Gd Z' H' c' → Fr m Z H c Z' H' c' → Q o H') : tI K P es σ H Q := by
  rcases es with _ | ⟨e, _ | ⟨f, r⟩⟩
  · cases ev
    exact k H Z c E G Fr.refl
  · obtain ⟨x, h1, h2⟩ := bind_some (show ((evA P m e env).bind fun x => (x.1.int?).map fun i => (some i, x.2)) = some (o, env') from ev)
    obtain ⟨i, h3, h4⟩ := map_some h2
    injection h4 with hr he
    subst hr he
    refine ⟨m, Z, c, env, x.1, x.2, E, G, h1, fun v H1 Z1 c1 ca1 E1 q1 G1 F1 M1 => ?_⟩
    rw [A.of_int h3] at q1
    have q1 : v = .int i ∧ ca1 = zc := q1
    obtain ⟨rfl, rfl⟩ := q1
    rw [add_zc] at G1 F1
    exact ⟨i, rfl, k H1 Z1 c1 E1 G1 F1⟩
  · cases ev
theorem cut_map {Z : Addr → Prop} {H : Hp} {ds : List D} {vs : List V} (p : D.plains ds = true) {c : Cnt} (q : Dens K Z H ds vs c) (lo hi : Option Int) : Dens K Z H (cutD ds lo hi) (cutV vs lo hi) zc := by
  have q := Dens.pl' p q
  have dr : ∀ {ds : List D} {vs : List V} (n : Nat), Dens K Z H ds vs zc → Dens K Z H (ds.drop n) (vs.drop n) zc := by
    intro ds
    induction ds with
    | nil => intro vs n q; obtain ⟨rfl, _⟩ := q; rw [List.drop_nil, List.drop_nil]; exact ⟨rfl, rfl⟩
    | cons d ds ih =>
      intro vs n q
      cases n with
      | zero => exact q
      | succ n =>
        obtain ⟨v, r, c1, c2, rfl, q1, q2, e⟩ := q
        have e2 : c2 = zc := by funext a; have := congrFun e a; simp only [add, zc] at this; simp only [zc]; omega
        subst e2
        exact ih n q2
  have tk : ∀ {ds : List D} {vs : List V} (n : Nat), Dens K Z H ds vs zc → Dens K Z H (ds.take n) (vs.take n) zc := by
    intro ds
    induction ds with
    | nil => intro vs n q; obtain ⟨rfl, _⟩ := q; rw [List.take_nil, List.take_nil]; exact ⟨rfl, rfl⟩
    | cons d ds ih =>
      intro vs n q
      cases n with
      | zero => exact ⟨rfl, rfl⟩
      | succ n =>
        obtain ⟨v, r, c1, c2, rfl, q1, q2, e⟩ := q
        have e2 : c2 = zc := by funext a; have := congrFun e a; simp only [add, zc] at this; simp only [zc]; omega
        subst e2
        exact ⟨v, _, c1, zc, rfl, q1, ih n q2, e⟩
  unfold cutD cutV
  rw [q.length]
  exact tk _ (dr _ q)
theorem cutD_whole {ds : List D} {lo hi : Option Int} (h : HT.sIx ds.length 0 lo = 0 ∧ HT.sIx ds.length ds.length hi = ds.length) : cutD ds lo hi = ds := by
  unfold cutD
  rw [h.1, h.2, List.drop_zero, Nat.sub_zero, List.take_length]
theorem in_sli {a : E} {lo hi : List E} {σ : L2.St} {H : Hp} {Q : VK} (h : tE K P (.sli a lo hi) σ H Q) : tSl (rSli K) (tE K P a) (tI K P lo) (tI K P hi) σ H Q := by
  obtain ⟨m, Z, c, env, r, env', E, G, ev, k⟩ := h
  obtain ⟨x, h1, h2⟩ := bind_some (show ((evA P m a env).bind fun x => (evI P (m || x.1.isPk) lo x.2).bind fun l => (evI P (m || x.1.isPk) hi l.2).bind fun h =>
      (x.1.get h.2).bind fun d => (cutO d l.1 h.1).map fun r => (A.tmp r, h.2)) = some (r, env') from ev)
  obtain ⟨l, h3, h4⟩ := bind_some h2
  obtain ⟨hh, h5, h6⟩ := bind_some h4
  obtain ⟨d, h7, h8⟩ := bind_some h6
  obtain ⟨rr, h9, h10⟩ := map_some h8
  injection h10 with hr he
  subst hr he
  refine ⟨m, Z, c, env, x.1, x.2, E, G, h1, fun v H1 Z1 c1 ca1 E1 q1 G1 F1 M1 => ?_⟩
  refine in_I E1 (G1.le fun a => by simp only [add]; omega) h3 fun H2 Z2 c2 E2 G2 F2 => ?_
  obtain ⟨q2, G2', F2'⟩ := frame_step G1 q1 F2 G2 isPk_of
  refine in_I E2 G2 h5 fun H3 Z3 c3 E3 G3 F3 => ?_
  obtain ⟨q3, G3', F3'⟩ := frame_step G2' q2 F3 G3 isPk_of
  obtain ⟨cd, qd, _⟩ := q3.look E3 h7
  have F := (F1.trans (F2'.low (m := m) (by intro x; simp [x]))).trans (F3'.low (m := m) (by intro x; simp [x]))
  have G4 : Gd Z3 H3 c3 := G3
  have F4 : Fr m Z H c Z3 H3 c3 := F.lessR fun a => by simp only [add]; omega
  have K1 : OpK K Z3 H3 c3 rr Q := fun w H5 ca5 q5 G5 keep fresh => by
    have F5 : Fr m Z3 H3 c3 Z3 H5 (add c3 ca5) := Fr_of_keep keep fresh
    exact k w H5 Z3 c3 ca5 (ED.loc (fun _ z => z) (fun a o h _ => keep a o h) E3) q5 G5 (F4.trans F5) fun x b hb => fresh b ((F4 b).2.1 hb)
  cases d with
  | tup ds =>
    have h9 : (if D.plains ds then some (D.tup (cutD ds l.1 hh.1)) else none) = some rr := h9
    obtain ⟨p, e⟩ := if_some h9
    cases e
    obtain ⟨b, vs, rfl, s, q⟩ := qd
    have cm := cut_map p q l.1 hh.1
    refine .inr ⟨b, vs, rfl, s, fun hw => ?_, fun _ => k_tup K1 G4 cm⟩
    rw [q.length] at hw
    have e := cutD_whole hw
    exact k_plain K1 G4 ⟨b, vs, rfl, s, by rw [e]; exact Dens.pl' p q⟩
  | lst o ds =>
    have h9 : (if D.plains ds then some (D.lst true (cutD ds l.1 hh.1)) else none) = some rr := h9
    obtain ⟨p, e⟩ := if_some h9
    cases e
    obtain ⟨b, vs, c', rfl, s, q⟩ := qd.lstI
    exact .inl ⟨b, vs, rfl, SqL.of s, k_lst K1 G4 (cut_map p q l.1 hh.1)⟩
  | _ => cases h9
end
end DL
end

section
/-! DL10: dict displays, calls. -/
namespace DL
open PySem PySem.Spec L2
open PyProof.Rows hiding St

/-! ### tables -/
section
variable {κ : Type} [DecidableEq κ]
theorem find_none (k : κ) : ∀ (ks : List κ) (n : Nat), find k ks n = none → k ∉ ks
  | [], _, _ => by simp
  | x :: r, n, h => by
    unfold find at h
    split at h
    · cases h
    · rename_i hx
      have := find_none k r (n + 1) h
      simp only [List.mem_cons, not_or]
      exact ⟨fun e => hx e.symm, this⟩
theorem find_at (k : κ) : ∀ (ks : List κ) (n j : Nat), find k ks n = some j → n ≤ j ∧ ks[j - n]? = some k
  | [], _, _, h => by cases h
  | x :: r, n, j, h => by
    unfold find at h
    split at h
    · rename_i hx
      cases h
      exact ⟨Nat.le_refl _, by simp [hx]⟩
    · obtain ⟨h1, h2⟩ := find_at k r (n + 1) j h
      refine ⟨by omega, ?_⟩
      rw [show j - n = (j - (n + 1)) + 1 by omega, List.getElem?_cons_succ]
      exact h2
theorem any_mem (kvs : List (κ × V)) (k : κ) : (kvs.any fun kv => decide (kv.1 = k)) = decide (k ∈ kvs.map (·.1)) := by
  induction kvs with
  | nil => rfl
  | cons p r ih =>
    rw [List.any_cons, ih, List.map_cons]
    by_cases h : p.1 = k
    · rw [decide_eq_true h]; simp [h]
    · rw [decide_eq_false h, Bool.false_or]
      have e : k ∈ p.1 :: r.map (·.1) ↔ k ∈ r.map (·.1) := by
        simp only [List.mem_cons]
        exact ⟨fun x => x.resolve_left fun z => h z.symm, .inr⟩
      rw [Bool.eq_iff_iff]
      simp only [decide_eq_true_eq]
      exact e.symm
theorem map_set (k : κ) (v : V) : ∀ (kvs : List (κ × V)) (j : Nat), (kvs.map (·.1)).Nodup → (kvs.map (·.1))[j]? = some k →
    (kvs.map (fun kv => if kv.1 = k then (kv.1, v) else kv)).map (·.1) = kvs.map (·.1) ∧ (kvs.map (fun kv => if kv.1 = k then (kv.1, v) else kv)).map (·.2) = (kvs.map (·.2)).set j v
  | [], _, _, h => by simp at h
  | (a, b) :: r, 0, nd, h => by
    rw [List.map_cons, List.nodup_cons] at nd
    have h : a = k := by simpa using h
    subst h
    have e : r.map (fun kv => if kv.1 = a then (kv.1, v) else kv) = r := by
      rw [List.map_congr_left (g := id), List.map_id]
      intro kv hkv
      rw [if_neg]
      · rfl
      · intro e
        exact nd.1 (by rw [show (a, b).1 = kv.1 from e.symm]; exact List.mem_map_of_mem hkv)
    rw [List.map_cons, if_pos rfl, e]
    exact ⟨rfl, rfl⟩
  | (a, b) :: r, j + 1, nd, h => by
    rw [List.map_cons, List.nodup_cons] at nd
    have h : (r.map (·.1))[j]? = some k := by simpa using h
    have hne : a ≠ k := fun e => nd.1 (by rw [show (a, b).1 = k from e]; exact List.mem_of_getElem? h)
    obtain ⟨h1, h2⟩ := map_set k v r j nd.2 h
    rw [List.map_cons, if_neg (show ¬ (a, b).1 = k from hne)]
    refine ⟨?_, ?_⟩
    · rw [List.map_cons, List.map_cons, h1]
    · rw [List.map_cons, List.map_cons, h2]; rfl
theorem put_keys (kvs : List (κ × V)) (k : κ) (v : V) (nd : (kvs.map (·.1)).Nodup) : ((putK kvs k v).map (·.1)).Nodup ∧
    (putK kvs k v).map (·.1) = (match find k (kvs.map (·.1)) 0 with | some _ => kvs.map (·.1) | none => kvs.map (·.1) ++ [k]) ∧
    (putK kvs k v).map (·.2) = (match find k (kvs.map (·.1)) 0 with | some j => (kvs.map (·.2)).set j v | none => kvs.map (·.2) ++ [v]) := by
  unfold putK
  rw [any_mem]
  cases hf : find k (kvs.map (·.1)) 0 with
  | some j =>
    have h2 := (find_at k _ 0 j hf).2
    rw [Nat.sub_zero] at h2
    obtain ⟨e1, e2⟩ := map_set k v kvs j nd h2
    rw [if_pos (decide_eq_true (List.mem_of_getElem? h2)), e1, e2]
    exact ⟨nd, rfl, rfl⟩
  | none =>
    have h2 := find_none k _ 0 hf
    rw [if_neg (by simpa using h2)]
    rw [List.map_append, List.map_append]
    refine ⟨?_, rfl, rfl⟩
    rw [List.nodup_append]
    refine ⟨nd, by simp, ?_⟩
    intro a ha b hb
    simp only [List.map_cons, List.map_nil, List.mem_singleton] at hb
    subst hb
    rintro rfl
    exact h2 ha
end
section
variable {K : PySem.W.Frag} {Z : Addr → Prop} {H : Hp}
theorem Dens.setAt {ds : List D} {vs : List V} {c cv : Cnt} {j : Nat} {d : D} {v : V} (q : Dens K Z H ds vs c) (p : Den K Z H d v cv) (h : j < ds.length) : ∃ c', Dens K Z H (ds.set j d) (vs.set j v) c' ∧ ∀ a, c' a ≤ c a + cv a := by
  obtain ⟨w, c1, c2, e1, q1, rfl, f⟩ := q.at (List.getElem?_eq_getElem h)
  exact ⟨_, f (fun _ z => z) (fun _ _ h _ => h) p, fun a => by simp only [add]; omega⟩
theorem putD_den {kvs : List (Key × V)} {ks : List Key} {ds : List D} {k : Key} {d : D} {v : V} {c cv : Cnt} (nd : kvs.map (·.1) = ks ∧ ks.Nodup) (q : Dens K Z H ds (kvs.map (·.2)) c) (p : Den K Z H d v cv) :
    ((putK kvs k v).map (·.1) = (putD k d ks ds).1 ∧ (putD k d ks ds).1.Nodup) ∧ ∃ c', Dens K Z H (putD k d ks ds).2 ((putK kvs k v).map (·.2)) c' ∧ ∀ a, c' a ≤ c a + cv a := by
  obtain ⟨rfl, nd⟩ := nd
  obtain ⟨h1, h2, h3⟩ := put_keys kvs k v nd
  unfold putD
  rw [h2] at h1
  rw [h2, h3]
  cases hf : find k (kvs.map (·.1)) 0 with
  | some j =>
    rw [hf] at h1
    have hl := find_lt k _ _ _ hf
    rw [List.length_map] at hl
    have := q.length
    rw [List.length_map] at this
    exact ⟨⟨rfl, h1⟩, q.setAt p (by omega)⟩
  | none =>
    rw [hf] at h1
    refine ⟨⟨rfl, h1⟩, _, Dens.app q ⟨v, [], cv, zc, rfl, p, ⟨rfl, rfl⟩, (add_zc _).symm⟩, fun a => Nat.le_refl _⟩
theorem merge_den : ∀ (ps : List (Key × D)) (more : List (Key × V)) (kvs : List (Key × V)) (ks : List Key) (ds : List D) (c cv : Cnt), (kvs.map (·.1) = ks ∧ ks.Nodup) → Dens K Z H ds (kvs.map (·.2)) c →
    more.map (·.1) = ps.map (·.1) → Dens K Z H (ps.map (·.2)) (more.map (·.2)) cv →
    ((mergeK kvs more).map (·.1) = (ps.foldl (fun x p => putD p.1 p.2 x.1 x.2) (ks, ds)).1 ∧ (ps.foldl (fun x p => putD p.1 p.2 x.1 x.2) (ks, ds)).1.Nodup) ∧
      ∃ c', Dens K Z H (ps.foldl (fun x p => putD p.1 p.2 x.1 x.2) (ks, ds)).2 ((mergeK kvs more).map (·.2)) c' ∧ ∀ a, c' a ≤ c a + cv a
  | [], [], kvs, ks, ds, c, cv, nd, q, _, _ => ⟨nd, c, q, fun a => by omega⟩
  | [], _ :: _, _, _, _, _, _, _, _, h, _ => by cases h
  | _ :: _, [], _, _, _, _, _, _, _, h, _ => by cases h
  | (k, d) :: ps, (k', v) :: more, kvs, ks, ds, c, cv, nd, q, h, p => by
    rw [List.map_cons, List.map_cons] at h
    injection h with h1 h2
    have h1 : k' = k := h1
    subst h1
    obtain ⟨w, r, c1, c2, e, p1, p2, rfl⟩ := p
    rw [List.map_cons] at e
    injection e with e1 e2
    have e1 : v = w := e1
    subst e1 e2
    obtain ⟨nd', c', q', le⟩ := putD_den (k := k') nd q p1
    obtain ⟨nd'', c'', q'', le'⟩ := merge_den ps more (putK kvs k' v) (putD k' d ks ds).1 (putD k' d ks ds).2 c' c2 nd' q' h2 p2
    refine ⟨nd'', c'', q'', fun a => ?_⟩
    have := le a
    have := le' a
    simp only [add]; omega
end

/-! ### {k: v, ..} -/
def pairTs : List TE → List (TE × TE)
  | a :: b :: r => (a, b) :: pairTs r
  | _ => []
def pairVs : List V → List (V × V)
  | a :: b :: r => (a, b) :: pairVs r
  | _ => []
def even {α : Type} : List α → Bool
  | [] => true
  | [_] => false
  | _ :: _ :: r => even r
theorem tPairs_eq : ∀ (ts : List TE), even ts = true → ∀ (σ : L2.St) (H : Hp) (Q : List (V × V) → Hp → Prop), tPairs (pairTs ts) σ H Q = tL ts σ H (fun vs H1 => Q (pairVs vs) H1)
  | [], _, _, _, _ => rfl
  | [_], h, _, _, _ => by cases h
  | a :: b :: r, h, σ, H, Q => by
    show a σ H (fun x H1 => b σ H1 fun y H2 => tPairs (pairTs r) σ H2 fun ps H3 => Q ((x, y) :: ps) H3) = a σ H (fun x H1 => b σ H1 fun y H2 => tL r σ H2 fun vs H3 => Q (pairVs (x :: y :: vs)) H3)
    have ih := tPairs_eq r h
    congr 1
    funext x H1
    congr 1
    funext y H2
    exact ih σ H2 _
section
variable {K : PySem.W.Frag} {P : Ctx}
theorem pairs_den {Z : Addr → Prop} {H : Hp} : ∀ {xs : List D} {vs : List V} {c : Cnt} {ps : List (Key × D)}, Dens K Z H xs vs c → pairsD xs = some ps →
    ∃ kvs : List (Key × V), pairVs vs = kvs.map (fun kv => (kV kv.1, kv.2)) ∧ kvs.map (·.1) = ps.map (·.1) ∧ ∃ c', Dens K Z H (ps.map (·.2)) (kvs.map (·.2)) c' ∧ ∀ a, c' a ≤ c a
  | [], _, _, _, q, h => by
    cases h
    obtain ⟨rfl, rfl⟩ := q
    exact ⟨[], rfl, rfl, zc, ⟨rfl, rfl⟩, fun a => Nat.le_refl _⟩
  | [_], _, _, _, _, h => by cases h
  | k :: d :: r, _, _, ps, q, h => by
    obtain ⟨kk, h1, h2⟩ := bind_some (show ((D.key? k).bind fun k => (pairsD r).map fun ps => (k, d) :: ps) = some ps from h)
    obtain ⟨ps', h3, rfl⟩ := map_some h2
    obtain ⟨v, _, c1, c2, rfl, q1, ⟨w, rs, c3, c4, rfl, q2, q3, rfl⟩, rfl⟩ := q
    obtain ⟨kvs, e1, e2, c', q', le⟩ := pairs_den q3 h3
    refine ⟨(kk, w) :: kvs, ?_, by rw [List.map_cons, List.map_cons, e2], add c3 c', ⟨w, _, c3, c', rfl, q2, q', rfl⟩, fun a => by have := le a; simp only [add]; omega⟩
    show (v, w) :: pairVs rs = (kV kk, w) :: _
    rw [keyD q1 h1, e1]
theorem even_map {α β : Type} (f : α → β) : ∀ (es : List α), even (es.map f) = even es
  | [] => rfl
  | [_] => rfl
  | _ :: _ :: r => even_map f r
theorem in_dK {es : List E} (he : even es = true) {σ : L2.St} {H : Hp} {Q : VK} (h : tE K P (.dK es) σ H Q) : tDisp (pairTs (es.map (tE K P))) σ H Q := by
  obtain ⟨m, Z, c, env, r, env', E, G, ev, k⟩ := h
  obtain ⟨x, h1, h2⟩ := bind_some (show ((evMs P m es env).bind fun x => (dispD x.1).map fun d => (A.tmp d, x.2)) = some (r, env') from ev)
  obtain ⟨d, h3, h4⟩ := map_some h2
  injection h4 with hr he'
  subst hr he'
  obtain ⟨ps, h5, h6⟩ := bind_some h3
  have h6 : (if ps.length ≤ 15 then some (D.dK true (mergeD ps).1 (mergeD ps).2) else none) = some d := h6
  split at h6
  · rename_i h15
    injection h6 with hd
    subst hd
    intro p hp
    rw [tPairs_eq _ (by rw [even_map]; exact he)]
    have E0 : ED K Z (upd H p (.dK [])) env σ c := ED.loc (fun _ z => z) (fun a u h _ => keep_new hp a u h) E
    refine seqM ⟨m, Z, c, env, x.1, x.2, E0, G.newT hp, h1, fun vs H1 Z1 c1 ca1 E1 q1 G1 F1 M1 => ?_⟩
    have hcp : c p = 0 := G.non0 hp
    have hpu : upd H p (.dK []) p ≠ none := by rw [upd_same]; simp
    have hp1 : H1 p = some (.dK []) := by rw [(F1 p).2.2.1 hpu (.inr hcp), upd_same]
    have hn1 := ((F1 p).2.2.2 hpu hcp).1
    have nz : ¬ Z1 p := fun z => (G p).2.2 (((F1 p).2.2.2 hpu hcp).2 z) |>.2 hp
    obtain ⟨kvs, e1, e2, c', q', le⟩ := pairs_den q1 h5
    refine ⟨hp1, kvs, e1, ?_, ?_⟩
    · have : kvs.length = ps.length := by have := congrArg List.length e2; simpa using this
      omega
    · obtain ⟨nd, c'', q'', le'⟩ := merge_den (K := K) (Z := Z1) (H := H1) ps kvs [] [] [] zc c' ⟨rfl, .nil⟩ ⟨rfl, rfl⟩ e2 q'
      have le2 : ∀ a, c'' a ≤ ca1 a := fun a => by have := le a; have := le' a; simp only [zc] at *; omega
      have z1 : add c1 ca1 p = 0 := hn1
      have keep : ∀ a o, H1 a = some o → (isMut o = false ∨ Z1 a ∨ add c1 ca1 a ≠ 0) → upd H1 p (.dK (mergeK [] kvs)) a = some o := fun a o h x => by
        have : a ≠ p := by
          rintro rfl
          rcases x with x | x | x
          · rw [hp1] at h; cases h; cases x
          · exact nz x
          · exact x z1
        rw [upd_ne this]; exact h
      have E2 : ED K Z1 (upd H1 p (.dK (mergeK [] kvs))) x.2 σ c1 := ED.loc (fun _ z => z) (fun a o h x => keep a o h (x.elim .inl fun y => .inr (y.elim .inl fun z => .inr (by simp only [add]; omega)))) E1
      have q2 : Dens K Z1 (upd H1 p (.dK (mergeK [] kvs))) (mergeD ps).2 ((mergeK [] kvs).map (·.2)) c'' := Dens.loc (fun _ z => z) (fun a o h x => keep a o h (x.elim .inl fun y => .inr (y.elim .inl fun z => .inr (by have := le2 a; simp only [add]; omega)))) q''
      refine k (.ref p) _ Z1 c1 (add (one p) c'') E2 ⟨p, _, c'', rfl, upd_same, nd, q2, rfl⟩ (fun a => ?_) (fun a => ?_) fun x b hb => ?_
      · obtain ⟨g1, g2, g3⟩ := G1 a
        have := le2 a
        by_cases ha : a = p
        · subst ha
          simp only [add, one_self] at *
          exact ⟨by omega, fun _ => ⟨_, upd_same, rfl⟩, fun z => absurd z nz⟩
        · simp only [add, one_ne ha, MutA, upd_ne ha] at *
          exact ⟨by omega, fun x => g2 (by omega), fun z => ⟨by have := (g3 z).1; omega, (g3 z).2⟩⟩
      · obtain ⟨f1, f2, f3, f4⟩ := F1 a
        have := le2 a
        by_cases ha : a = p
        · subst ha
          exact ⟨f1, fun n => absurd hp n, fun n => absurd hp n, fun n => absurd hp n⟩
        · simp only [upd_ne ha] at *
          simp only [add, one_ne ha] at *
          exact ⟨f1, f2, f3, fun n x => ⟨by have := (f4 n x).1; omega, (f4 n x).2⟩⟩
      · have hbp : b ≠ p := by rintro rfl; exact hb hp
        have := le2 b
        have := M1 x b (by rw [upd_ne hbp]; exact hb)
        simp only [add, one_ne hbp]; omega
  · cases h6

/-! ### calls -/
theorem ED.at_len {Z : Addr → Prop} {H : Hp} {env : EnvD} {σ : L2.St} {c : Cnt} {i : Nat} {x : Option V} (E : ED K Z H env σ c) (h : σ[i]? = some x) : i < env.length := by
  rw [← E.len]
  exact (List.getElem?_eq_some_iff.mp h).1
theorem lend_ok {Z : Addr → Prop} {H : Hp} {σ : L2.St} : ∀ {as : List A} {vs : List V} {ds : List D} {env env2 : EnvD} {c ca : Cnt}, ED K Z H env σ c → ADs K Z H σ as vs ca → lendA as env = some (ds, env2) →
    ∃ c2 cd, ED K Z H env2 σ c2 ∧ Dens K Z H ds vs cd ∧ (∀ a, c2 a + cd a = c a + ca a) ∧ (as.all A.isTmp = true → cd = ca)
  | [], _, _, _, _, _, _, E, q, h => by
    obtain ⟨rfl, rfl⟩ := q
    have h : some (([] : List D), _) = some (_, _) := h
    injection h with h
    injection h with h1 h2
    subst h1 h2
    exact ⟨_, zc, E, ⟨rfl, rfl⟩, fun a => rfl, fun _ => rfl⟩
  | .tmp d :: as, _, _, _, _, _, _, E, q, h => by
    obtain ⟨v, r, c1, c2, rfl, q1, q2, rfl⟩ := q
    obtain ⟨x, h1, h2⟩ := map_some (show (lendA as _).map (fun x => (d :: x.1, x.2)) = some _ from h)
    injection h2 with ha hb
    subst ha hb
    obtain ⟨k1, kd, E2, q3, e, t⟩ := lend_ok E q2 h1
    exact ⟨k1, add c1 kd, E2, ⟨v, r, c1, kd, rfl, q1, q3, rfl⟩, fun a => by have := e a; simp only [add]; omega, fun x => by rw [t (by simpa [A.isTmp] using x)]⟩
  | .ref i :: as, _, _, _, _, _, _, E, q, h => by
    obtain ⟨v, r, c1, c2, rfl, q1, q2, rfl⟩ := q
    obtain ⟨hv, rfl⟩ := q1
    obtain ⟨d, g, h⟩ := bind_some (show ((getE _ i).bind fun d => (lendA as (_ : EnvD)).map fun x => (d :: x.1, x.2)) = some _ from h)
    obtain ⟨x, h1, h2⟩ := map_some h
    injection h2 with ha hb
    subst ha hb
    obtain ⟨w, k1, k2, e1, q3, E1, rfl⟩ := E.take (getE_some g)
    rw [hv] at e1
    cases e1
    obtain ⟨k3, kd, E2, q4, e, t⟩ := lend_ok E1 q2 h1
    exact ⟨k3, add k1 kd, E2, ⟨v, r, k1, kd, rfl, q3, q4, rfl⟩, fun a => by have := e a; simp only [add, zc]; omega, fun x => by simp [A.isTmp] at x⟩
  | .pk _ :: _, _, _, _, _, _, _, _, _, h => by cases h
theorem back_ok {Z Z' : Addr → Prop} {H H' : Hp} {σ : L2.St} : ∀ {as : List A} {vs : List V} {ds' : List D} {env : EnvD} {c ca c' : Cnt}, ED K Z' H' env σ c → ADs K Z H σ as vs ca → Dens K Z' H' ds' vs c' →
    ∃ c3, ED K Z' H' (backA as ds' env) σ c3 ∧ ∀ a, c3 a ≤ c a + c' a
  | [], _, ds', _, c, _, _, E, q, p => by
    exact ⟨c, by cases ds' <;> exact E, fun a => by omega⟩
  | .tmp d :: as, _, [], env, c, _, _, E, q, p => ⟨c, E, fun a => by omega⟩
  | .ref d :: as, _, [], env, c, _, _, E, q, p => ⟨c, E, fun a => by omega⟩
  | .pk d :: as, _, ds', env, c, _, _, E, q, p => ⟨c, by cases ds' <;> exact E, fun a => by omega⟩
  | .tmp d :: as, _, d' :: ds', env, c, _, _, E, q, p => by
    obtain ⟨v, r, c1, c2, rfl, q1, q2, rfl⟩ := q
    obtain ⟨v', r', k1, k2, e, p1, p2, rfl⟩ := p
    cases e
    obtain ⟨c3, E3, le⟩ := back_ok (env := env) E q2 p2
    exact ⟨c3, E3, fun a => by have := le a; simp only [add]; omega⟩
  | .ref i :: as, _, d' :: ds', env, c, _, _, E, q, p => by
    obtain ⟨v, r, c1, c2, rfl, q1, q2, rfl⟩ := q
    obtain ⟨hv, rfl⟩ := q1
    obtain ⟨v', r', k1, k2, e, p1, p2, rfl⟩ := p
    cases e
    obtain ⟨c4, c5, E4, rfl⟩ := E.drop i
    have E5 := ED.put E4 (E.at_len hv) p1
    rw [set_self hv] at E5
    obtain ⟨c3, E3, le⟩ := back_ok (env := env.set i (some d')) E5 q2 p2
    exact ⟨c3, E3, fun a => by have := le a; simp only [add] at *; omega⟩
theorem in_call {f n : Nat} {es : List E} (hn : es.length = n) {σ : L2.St} {H : Hp} {Q : VK} (h : tE K P (.call f es) σ H Q) : tL (es.map (tE K P)) σ H (fun vs H1 => spD K n (P.call f) vs H1 Q E0) := by
  obtain ⟨m, Z, c, env, r, env', E, G, ev, k⟩ := h
  obtain ⟨x, h1, h2⟩ := bind_some (show ((evAs P m es env).bind fun x => if m && !x.1.all A.isTmp then none else
      (lendA x.1 x.2).bind fun y => (P.call f y.1).map fun z => (A.tmp z.1, backA x.1 z.2 y.2)) = some (r, env') from ev)
  have hlen : ∀ (m : Bool) (es : List DL.E) (env : EnvD) (y : List A × EnvD), evAs P m es env = some y → y.1.length = es.length := by
    intro m es
    induction es generalizing m with
    | nil => intro env y h; cases h; rfl
    | cons e es ih =>
      intro env y h
      obtain ⟨z, g1, g2⟩ := bind_some (show ((evA P m e env).bind fun x => (evAs P (m || x.1.isPk) es x.2).map fun y => (x.1 :: y.1, y.2)) = some y from h)
      obtain ⟨w, g3, rfl⟩ := map_some g2
      show w.1.length + 1 = es.length + 1
      rw [ih _ _ _ g3]
  have hl := hlen _ _ _ _ h1
  refine seqL ⟨m, Z, c, env, x.1, x.2, E, G, h1, fun vs H1 Z1 c1 ca1 E1 q1 G1 F1 M1 => ?_⟩
  cases hc : (m && !x.1.all A.isTmp) with
  | true => rw [hc] at h2; cases h2
  | false =>
    rw [hc] at h2
    obtain ⟨y, h3, h4⟩ := bind_some (show ((lendA x.1 x.2).bind fun y => (P.call f y.1).map fun z => (A.tmp z.1, backA x.1 z.2 y.2)) = some (r, env') from h2)
    obtain ⟨z, h5, h6⟩ := map_some h4
    injection h6 with hr he
    subst hr he
    obtain ⟨c2, cd, E2, q2, e, t⟩ := lend_ok E1 q1 h3
    have G2 : Gd Z1 H1 (add c2 cd) := by
      have ee : add c2 cd = add c1 ca1 := funext e
      rw [ee]; exact G1
    have hvl : vs.length = n := by
      have ll : ∀ {as : List A} {vs : List V} {ca : Cnt}, ADs K Z1 H1 σ as vs ca → vs.length = as.length := by
        intro as
        induction as with
        | nil => intro vs ca q; obtain ⟨rfl, _⟩ := q; rfl
        | cons a as ih => intro vs ca q; obtain ⟨v, r, c1, c2, rfl, _, q2, _⟩ := q; simp [ih q2]
      rw [ll q1, hl, hn]
    refine ⟨hvl, Z1, y.1, cd, z.1, z.2, q2, G2.le (fun a => by simp only [add]; omega), h5, fun v H3 Z3 cr c' qr q3 G3 F3 => ?_⟩
    have G2' : Gd Z1 H1 (add cd c2) := by rw [add_comm]; exact G2
    obtain ⟨G4, F4⟩ := F3.ext G2' G3
    have E3 : ED K Z3 H3 y.2 σ c2 := ED.loc F3.zz (F3.keep G2') E2
    obtain ⟨c3, E4, le⟩ := back_ok (Z := Z1) (H := H1) E3 q1 q3
    have ee : add cd c2 = add c1 ca1 := by funext a; have := e a; simp only [add]; omega
    rw [ee] at F4
    refine k v H3 Z3 c3 cr E4 qr (G4.le fun a => by have := le a; simp only [add]; omega) ?_ ?_
    · cases m with
      | false => exact (F1.trans F4).lessR fun a => by have := le a; simp only [add]; omega
      | true =>
        have ht : x.1.all A.isTmp = true := by simpa using hc
        have et := t ht
        subst et
        -- what stood ahead is not the callee's
        intro a
        obtain ⟨f1, f2, f3, f4⟩ := F1 a
        obtain ⟨g1, g2, g3, g4⟩ := F4 a
        refine ⟨fun z => g1 (f1 z), fun n => g2 (f2 n), fun n x => ?_, fun n x => ?_⟩
        · rw [← f3 n (.inl rfl)]
          have hz : cd a = 0 := M1 rfl a n
          exact (F3 a).2.2.1 (f2 n) (.inr hz)
        · have := le a
          exact ⟨by have := (g4 (f2 n) (f4 n x).1).1; simp only [add] at *; omega, fun z => (f4 n x).2 ((g4 (f2 n) (f4 n x).1).2 z)⟩
    · rintro rfl b hb
      have ht : x.1.all A.isTmp = true := by simpa using hc
      have et := t ht
      subst et
      have hz : cd b = 0 := M1 rfl b hb
      have := ((F3 b).2.2.2 ((F1 b).2.1 hb) hz).1
      simp only [add] at this; omega
end
end DL
end

section
/-! DL11: what is walked; comprehensions. -/
namespace DL
open PySem PySem.Spec L2
open PyProof.Rows hiding St

/-! ### targets -/
mutual
def tgS : Tg → List Nat
  | .nm i => [i]
  | .tp ts => tgsS ts
def tgsS : List Tg → List Nat
  | [] => []
  | t :: ts => tgS t ++ tgsS ts
end
section
variable (K : PySem.W.Frag)
def gT (tg : Tg) : TG := fun v σ H Q => ∃ Z c cd d env env', ED K Z H env σ c ∧ Den K Z H d v cd ∧ bindT tg d env = some env' ∧
  ∀ σ' c', ED K Z H env' σ' c' → (∀ a, c' a ≤ c a + cd a) → σ'.length = σ.length → (∀ j, j ∉ tgS tg → σ'[j]? = σ[j]?) → Q σ' H
def gTs (ts : List Tg) : TGs := fun vs σ H Q => ∃ Z c cd ds env env', ED K Z H env σ c ∧ Dens K Z H ds vs cd ∧ bindTs ts ds env = some env' ∧
  ∀ σ' c', ED K Z H env' σ' c' → (∀ a, c' a ≤ c a + cd a) → σ'.length = σ.length → (∀ j, j ∉ tgsS ts → σ'[j]? = σ[j]?) → Q σ' H
end
theorem PG.imp {X : Cx} {p : PySem.Expr} {t t' : TG} (h : PG X p t) (f : ∀ v σ H Q, t' v σ H Q → t v σ H Q) : PG X p t' := ⟨fun pins s σ H v u Q I r q => h.run pins s σ H v u Q I r (f v σ H Q q)⟩
theorem PGs.imp {X : Cx} {p : List PySem.Expr} {t t' : TGs} (h : PGs X p t) (f : ∀ v σ H Q, t' v σ H Q → t v σ H Q) : PGs X p t' := ⟨fun pins s σ H v u Q I r q => h.run pins s σ H v u Q I r (f v σ H Q q)⟩
mutual
def chkTg (N : List Str) (sc : Scope) (fnB : Str → Bool) : Tg → PySem.Expr → Bool
  | .nm i, .Name x _ => decide (N[i]? = some x) && locB sc x && (fnB x || decide (sc.names.lookup x = some .local))
  | .tp ts, .Tuple ps _ _ => ps.all notStar && chkTgs N sc fnB ts ps
  | _, _ => false
def chkTgs (N : List Str) (sc : Scope) (fnB : Str → Bool) : List Tg → List PySem.Expr → Bool
  | [], [] => true
  | t :: ts, p :: ps => chkTg N sc fnB t p && chkTgs N sc fnB ts ps
  | _, _ => false
end
theorem each_cons {e : PySem.Expr} {es : List PySem.Expr} {env : Env} (h : notStar e = true) : assignEach (e :: es) env = (false, assign e env) :: assignEach es env := by
  cases e <;> first | rfl | cases h
theorem each_len {env : Env} : ∀ {es : List PySem.Expr}, es.all notStar = true → (assignEach es env).length = es.length ∧ (assignEach es env).findIdx? (·.1) = none
  | [], _ => ⟨rfl, rfl⟩
  | e :: es, h => by
    rw [List.all_cons, Bool.and_eq_true] at h
    obtain ⟨h1, h2⟩ := each_len (env := env) h.2
    rw [each_cons h.1]
    refine ⟨by simp [h1], ?_⟩
    rw [List.findIdx?_cons]
    simp [h2]
section
variable {X : Cx} {P : Ctx} {fn : List (Str × Nat)} {bl N : List Str} {sc : Scope} {fnB : Str → Bool}
mutual
theorem pg_T (C : CtxOk P fn bl N X) (hs : X.env.scope = sc) (hf : ∀ x, fnB x = true → X.fn x = true) : ∀ (tg : Tg) (p : PySem.Expr), chkTg N sc fnB tg p = true → PG X p (gT X.K tg)
  | .nm i, p, h => by
    unfold chkTg at h
    split at h
    · rename_i i' x pos heq
      cases heq
      rw [Bool.and_eq_true, Bool.and_eq_true] at h
      refine PG.imp (pg_name (i := i) (by rw [C.hN]; exact C.nd) (by rw [C.hN]; exact of_decide_eq_true h.1.1) (by rw [hs]; exact loc_of h.1.2) ?_) fun v σ H Q q => ?_
      · rcases Bool.or_eq_true .. ▸ h.2 with z | z
        · exact .inl (hf x z)
        · exact .inr (by rw [hs]; exact of_decide_eq_true z)
      · obtain ⟨Z, c, cd, d, env, env', E, q1, b, k⟩ := q
        have b : (if i < env.length then some (env.set i (some d)) else none) = some env' := b
        split at b
        · rename_i hi
          cases b
          obtain ⟨c2, c1, E2, rfl⟩ := E.drop i
          refine k _ _ (ED.put E2 hi q1) (fun a => by simp only [add]; omega) (by simp) fun j hj => ?_
          have : i ≠ j := fun e => hj (by subst e; simp [tgS])
          rw [List.getElem?_set_ne this]
        · cases b
    · rename_i heq; cases heq
    · cases h
  | .tp ts, p, h => by
    unfold chkTg at h
    split at h
    · rename_i heq; cases heq
    · rename_i ts' ps k pos heq
      cases heq
      rw [Bool.and_eq_true] at h
      obtain ⟨h1, h2⟩ := each_len (env := X.env) h.1
      refine PG.imp (pg_tup C.calm (pgs_T C hs hf ts ps h.2 h.1) h1 h2) fun v σ H Q q => ?_
      obtain ⟨Z, c, cd, d, env, env', E, q1, b, k⟩ := q
      cases d with
      | tup ds =>
        obtain ⟨a, xs, rfl, s, q1⟩ := q1
        have b : bindTs ts ds env = some env' := b
        have hl : ∀ (ts : List Tg) (ds : List D) (env env' : EnvD), bindTs ts ds env = some env' → ts.length = ds.length := by
          intro ts
          induction ts with
          | nil => intro ds env env' b; cases ds with | nil => rfl | cons _ _ => cases b
          | cons t ts ih =>
            intro ds env env' b
            cases ds with
            | nil => cases b
            | cons d ds =>
              obtain ⟨e, b1, b2⟩ := bind_some (show ((bindT t d env).bind fun e => bindTs ts ds e) = some env' from b)
              simp [ih ds e env' b2]
        have hp : ∀ (ts : List Tg) (ps : List PySem.Expr), chkTgs N sc fnB ts ps = true → ts.length = ps.length := by
          intro ts
          induction ts with
          | nil => intro ps b; cases ps with | nil => rfl | cons _ _ => cases b
          | cons t ts ih =>
            intro ps b
            cases ps with
            | nil => cases b
            | cons d ds =>
              have b : (chkTg N sc fnB t d && chkTgs N sc fnB ts ds) = true := b
              rw [Bool.and_eq_true] at b
              simp [ih ds b.2]
        refine ⟨a, xs, rfl, s, ?_, Z, c, cd, ds, env, env', E, q1, b, k⟩
        rw [q1.length, ← hl _ _ _ _ b, hp _ _ h.2]
      | _ => cases b
    · cases h
theorem pgs_T (C : CtxOk P fn bl N X) (hs : X.env.scope = sc) (hf : ∀ x, fnB x = true → X.fn x = true) : ∀ (ts : List Tg) (ps : List PySem.Expr), chkTgs N sc fnB ts ps = true → ps.all notStar = true → PGs X ps (gTs X.K ts)
  | [], [], _, _ => PGs.imp pgs_nil fun vs σ H Q q => by
    obtain ⟨Z, c, cd, ds, env, env', E, q1, b, k⟩ := q
    cases ds with
    | nil =>
      cases b
      obtain ⟨rfl, rfl⟩ := q1
      exact ⟨rfl, k σ c E (fun a => by omega) rfl fun _ _ => rfl⟩
    | cons _ _ => cases b
  | [], _ :: _, h, _ => by cases h
  | _ :: _, [], h, _ => by cases h
  | t :: ts, p :: ps, h, hn => by
    have h : (chkTg N sc fnB t p && chkTgs N sc fnB ts ps) = true := h
    rw [Bool.and_eq_true] at h
    rw [List.all_cons, Bool.and_eq_true] at hn
    refine PGs.imp (pgs_cons (pg_T C hs hf t p h.1) (pgs_T C hs hf ts ps h.2 hn.2) (by rw [each_cons hn.1]; rfl)) fun vs σ H Q q => ?_
    obtain ⟨Z, c, cd, ds, env, env', E, q1, b, k⟩ := q
    cases ds with
    | nil => cases b
    | cons d ds =>
      obtain ⟨v, r, c1, c2, rfl, q1, q2, rfl⟩ := q1
      obtain ⟨e, b1, b2⟩ := bind_some (show ((bindT t d env).bind fun e => bindTs ts ds e) = some env' from b)
      refine ⟨v, r, rfl, Z, c, c1, d, env, e, E, q1, b1, fun σ1 k1 E1 le1 hl1 ag1 => ?_⟩
      refine ⟨Z, k1, c2, ds, e, env', E1, q2, b2, fun σ2 k2 E2 le2 hl2 ag2 => ?_⟩
      refine k σ2 k2 E2 (fun a => by have := le1 a; have := le2 a; simp only [add]; omega) (hl2.trans hl1) fun j hj => ?_
      have hj : j ∉ tgS t ++ tgsS ts := hj
      rw [List.mem_append, not_or] at hj
      rw [ag2 j hj.2, ag1 j hj.1]
end
end

/-! ### slots set aside -/
section
variable {K : PySem.W.Frag} {Z : Addr → Prop} {H : Hp}
theorem ED.agree : ∀ {e : EnvD} {s s' : L2.St} {c : Cnt}, ED K Z H e s c → s'.length = s.length → (∀ (j : Nat) (d : D) (v : V), e[j]? = some (some d) → s[j]? = some (some v) → s'[j]? = some (some v)) → ED K Z H e s' c
  | [], _, s', _, q, hl, _ => by
    obtain ⟨rfl, rfl⟩ := q
    exact ⟨List.eq_nil_of_length_eq_zero hl, rfl⟩
  | none :: e, _, s', _, q, hl, ag => by
    obtain ⟨x, r, rfl, q⟩ := q
    cases s' with
    | nil => cases hl
    | cons y s' => exact ⟨y, s', rfl, ED.agree q (by simpa using hl) fun j d v h1 h2 => by have := ag (j + 1) d v (by simpa using h1) (by simpa using h2); simpa using this⟩
  | some d :: e, _, s', _, q, hl, ag => by
    obtain ⟨v, r, c1, c2, rfl, q1, q2, rfl⟩ := q
    cases s' with
    | nil => cases hl
    | cons y s' =>
      have h0 := ag 0 d v (by simp) (by simp)
      have h0 : y = some v := by simpa using h0
      subst h0
      exact ⟨v, s', c1, c2, rfl, q1, ED.agree q2 (by simpa using hl) fun j d v h1 h2 => by have := ag (j + 1) d v (by simpa using h1) (by simpa using h2); simpa using this, rfl⟩
theorem ED.wipe1 {e : EnvD} {s : L2.St} {c : Cnt} (i : Nat) (y : Option V) (E : ED K Z H e s c) : ∃ c', ED K Z H (e.set i none) (s.set i y) c' ∧ ∀ a, c' a ≤ c a := by
  obtain ⟨c2, c1, E2, rfl⟩ := E.drop i
  refine ⟨c2, E2.agree (by simp) fun j d v h1 h2 => ?_, fun a => by simp only [add]; omega⟩
  by_cases hj : i = j
  · subst hj
    rw [List.getElem?_set_self (by
      have := (List.getElem?_eq_some_iff.mp h1).1
      simpa using this)] at h1
    cases h1
  · rw [List.getElem?_set_ne hj]; exact h2
theorem ED.wipe : ∀ {own : List Nat} {e : EnvD} {s : L2.St} {c : Cnt}, ED K Z H e s c → ∃ c', ED K Z H (wipeE own e) (L2.wipe s own) c' ∧ ∀ a, c' a ≤ c a
  | [], _, _, c, E => ⟨c, E, fun a => Nat.le_refl _⟩
  | i :: own, _, _, _, E => by
    obtain ⟨c1, E1, le1⟩ := ED.wipe (own := own) E
    obtain ⟨c2, E2, le2⟩ := E1.wipe1 i none
    exact ⟨c2, E2, fun a => Nat.le_trans (le2 a) (le1 a)⟩
theorem ED.unwipe {own : List Nat} {e : EnvD} {s : L2.St} {c : Cnt} (E : ED K Z H e (L2.wipe s own) c) : ED K Z H e s c :=
  E.agree (wipe_length s own).symm fun j d v h1 h2 => (wipe_some h2).1
/-- what stood in the slots set aside is put back -/
theorem ED.rest {env0 : EnvD} {s : L2.St} : ∀ {own : List Nat} {e : EnvD} {c : Cnt}, ED K Z H e s c → (∀ i d, i ∈ own → getE env0 i = some d → ∃ v, s[i]? = some (some v) ∧ Den K Z H d v zc) → ∃ c', ED K Z H (restE own env0 e) s c' ∧ ∀ a, c' a ≤ c a
  | [], _, c, E, _ => ⟨c, E, fun a => Nat.le_refl _⟩
  | i :: own, e, _, E, h => by
    obtain ⟨c1, E1, le1⟩ := ED.rest (own := own) E fun j d hj => h j d (List.mem_cons_of_mem _ hj)
    obtain ⟨c2, c3, E2, rfl⟩ := E1.drop i
    cases hg : getE env0 i with
    | none =>
      refine ⟨c2, ?_, fun a => by have := le1 a; simp only [add] at this; omega⟩
      show ED K Z H ((restE own env0 e).set i (getE env0 i)) s c2
      rw [hg]; exact E2
    | some d =>
      obtain ⟨v, hv, q⟩ := h i d List.mem_cons_self hg
      have E3 := ED.put E2 (E1.at_len hv) q
      rw [set_self hv] at E3
      refine ⟨add zc c2, ?_, fun a => by have := le1 a; simp only [add, zc] at *; omega⟩
      show ED K Z H ((restE own env0 e).set i (getE env0 i)) s (add zc c2)
      rw [hg]; exact E3
end

/-! ### what is walked -/
structure Walks (J : It) (xs : List V) (St : Hp → Prop) : Prop where
  go : ∀ i H, St H → i < xs.length → J.go i H
  yld : ∀ i H x H', St H → i < xs.length → J.yld i H x H' → H' = H ∧ xs[i]? = some x
  stop : ∀ i H, St H → xs.length ≤ i → J.stop i H
theorem walks_list (K : PySem.W.Frag) (a : Addr) (xs : List V) : Walks (Itl K a) xs (fun H => H a = some (.lst xs)) where
  go := fun i H s h => ⟨xs, xs[i], SqL.of s, by simp [h]⟩
  yld := fun i H x H' s _ y => ⟨y.1, y.2 xs (SqL.of s)⟩
  stop := fun i H s h => ⟨xs, SqL.of s, h⟩
theorem walks_tup (K : PySem.W.Frag) (a : Addr) (xs : List V) : Walks (Itt K a) xs (fun H => SqT K H a xs) where
  go := fun i H s h => ⟨xs, xs[i], s, by simp [h]⟩
  yld := fun i H x H' s _ y => ⟨y.1, y.2 xs s⟩
  stop := fun i H s h => ⟨xs, s, h⟩
def rgN (lo : Int) (n : Nat) : List V := (List.range n).map fun (i : Nat) => V.int (lo + (i : Int))
theorem walks_rng (lo : Int) (n : Nat) : Walks (Itr lo n) (rgN lo n) (fun _ => True) where
  go := fun i H _ h => by
    show i < n
    unfold rgN at h; simpa using h
  yld := fun i H x H' _ h y => by
    have h : i < n := by unfold rgN at h; simpa using h
    obtain ⟨e, y⟩ := y
    refine ⟨e, ?_⟩
    subst y
    unfold rgN
    simp [h]
  stop := fun i H _ h => by
    show n ≤ i
    unfold rgN at h; simpa using h
end DL
end

section
/-! DL12: comprehensions. -/
namespace DL
open PySem PySem.Spec L2
open PyProof.Rows hiding St

section
variable (K : PySem.W.Frag) (P : Ctx)
def tIfs : List T → TT
  | [] => tYes
  | t :: _ => tT K P t
def stepC (m : Bool) (tg : Tg) (own : List Nat) (ifs : List T) (elt : E) (d : D) (e : EnvD) : Option (Option D × EnvD) :=
  (bindT tg d e).bind fun e1 => (evTand P m ifs e1).bind fun t => if t.1 then ((evA P m elt t.2).bind fun x => mat m x.1 x.2).map fun r => (some r.1, wipeE own r.2) else some (none, wipeE own t.2)
end
section
variable {K : PySem.W.Frag} {P : Ctx}
theorem in_ifs {ifs : List T} (h1 : ifs.length ≤ 1) {σ : L2.St} {H : Hp} {Q : Bool → Hp → Prop}
    (h : ∃ m Z c env b env', ED K Z H env σ c ∧ Gd Z H c ∧ evTand P m ifs env = some (b, env') ∧ ∀ H' Z' c', ED K Z' H' env' σ c' → Gd Z' H' c' → Fr m Z H c Z' H' c' → Q b H') : tIfs K P ifs σ H Q := by
  obtain ⟨m, Z, c, env, b, env', E, G, ev, k⟩ := h
  match ifs, h1 with
  | [], _ =>
    have ev : some (true, env) = some (b, env') := ev
    injection ev with ev
    injection ev with e1 e2
    subst e1 e2
    exact k H Z c E G Fr.refl
  | [t], _ =>
    obtain ⟨x, g1, g2⟩ := bind_some (show ((evT P m t env).bind fun x => if x.1 then evTand P m [] x.2 else some (false, x.2)) = some (b, env') from ev)
    refine ⟨m, Z, c, env, x.1, x.2, E, G, g1, fun H' Z' c' E' G' F' => ?_⟩
    cases hx : x.1 with
    | true =>
      rw [hx] at g2
      have g2 : some (true, x.2) = some (b, env') := g2
      injection g2 with g2
      injection g2 with e1 e2
      subst e1 e2
      exact k H' Z' c' E' G' F'
    | false =>
      rw [hx] at g2
      have g2 : some (false, x.2) = some (b, env') := g2
      injection g2 with g2
      injection g2 with e1 e2
      subst e1 e2
      exact k H' Z' c' E' G' F'
theorem wipe_agree {σ σ' : L2.St} {own : List Nat} (hl : σ'.length = (wipe σ own).length) (ag : ∀ j, j ∉ own → σ'[j]? = (wipe σ own)[j]?) : wipe σ' own = wipe σ own := by
  apply List.ext_getElem?
  intro j
  by_cases hj : j ∈ own
  · by_cases hlen : j < σ.length
    · have h1 : ∀ (s : L2.St), j < s.length → (wipe s own)[j]? = some none := by
        intro s hs
        have hs' : j < (wipe s own).length := by rw [wipe_length]; exact hs
        rw [List.getElem?_eq_getElem hs']
        cases h : (wipe s own)[j] with
        | none => rfl
        | some v => exact absurd hj (wipe_some (by rw [List.getElem?_eq_getElem hs', h])).2
      rw [h1 σ hlen, h1 σ' (by rw [hl, wipe_length]; exact hlen)]
    · rw [List.getElem?_eq_none (by rw [wipe_length, hl, wipe_length]; omega), List.getElem?_eq_none (by rw [wipe_length]; omega)]
  · rw [wipe_out hj, ag j hj]
/-- a list with an item more -/
theorem upd_keep {Z : Addr → Prop} {H : Hp} {D : Addr} {c : Cnt} {o o' : HO} (hD : H D = some o) (mo : isMut o = true) (G : Gd Z H (add c (one D))) :
    ∀ a u, H a = some u → (isMut u = false ∨ Z a ∨ c a ≠ 0) → upd H D o' a = some u := fun a u h x => by
  have : a ≠ D := by
    rintro rfl
    obtain ⟨g1, g2, g3⟩ := G a
    simp only [add, one_self] at g1 g3
    rcases x with x | x | x
    · rw [hD] at h; cases h; rw [mo] at x; cases x
    · have := (g3 x).1; omega
    · omega
  rw [upd_ne this]; exact h
theorem comp_run {J : It} {xs : List V} {St : Hp → Prop} (w : Walks J xs St) {Z1 : Addr → Prop} {H1 : Hp} {cS ex : Cnt} {env0 env3 : EnvD} {σ : L2.St} {own : List Nat} {mm : Bool} {its ds : List D} {tg : Tg} {ifs : List T} {elt : E} {Q : VK}
    (E1 : ED K Z1 H1 env0 σ cS) (G1 : Gd Z1 H1 (add cS ex)) (hst : ∀ H', (∀ a o, H1 a = some o → (isMut o = false ∨ Z1 a ∨ ex a ≠ 0 ∨ mm = true) → H' a = some o) → St H') (q : Dens K Z1 H1 its xs zc)
    (htg : ∀ i ∈ tgS tg, i ∈ own) (hifs : ifs.length ≤ 1) (ev : compF (stepC P mm tg own ifs elt) its [] (wipeE own env0) = some (ds, env3))
    (fin : ∀ D H' Z' c' cacc vacc, H1 D = none → H' D = some (.lst vacc) → ED K Z' H' env3 (wipe σ own) c' → Dens K Z' H' ds vacc cacc → (mm = true → ∀ b, H1 b ≠ none → cacc b = 0) → Gd Z' H' (add c' (add (one D) (add cacc ex))) → Fr mm Z1 H1 cS Z' H' (add c' (add (one D) cacc)) → Q (.ref D) H') :
    ∀ D, H1 D = none → ∃ W : Nat → Nat → Hp → Prop, (∃ m, W 0 m (upd H1 D (.lst []))) ∧ ∀ i m H, W i m H →
  (J.stop i H ∧ Q (.ref D) H) ∨ (J.go i H ∧ ∃ Nx : Hp → Prop, (∀ H', Nx H' → ∃ m', m' < m ∧ W (i + 1) m' H') ∧ ∀ x H', J.yld i H x H' → gT K tg x (wipe σ own) H' fun σ2 H2 => wipe σ2 own = wipe σ own ∧ tIfs K P ifs σ2 H2 fun b H3 =>
    if b = true then tE K P elt σ2 H3 fun y H4 => ∃ acc, H4 D = some (.lst acc) ∧ acc.length < sizeLine ∧ Nx (upd H4 D (.lst (acc ++ [y]))) else Nx H3) := by
  intro D hD
  have hxl := q.length
  refine ⟨fun i k H' => k = xs.length - i ∧ i ≤ xs.length ∧ ∃ Z c env acc vacc cacc, ED K Z H' env (wipe σ own) c ∧ H' D = some (.lst vacc) ∧ Dens K Z H' acc vacc cacc ∧ Gd Z H' (add c (add (one D) (add cacc ex))) ∧
    Fr mm Z1 H1 cS Z H' (add c (add (one D) cacc)) ∧ (mm = true → ∀ b, H1 b ≠ none → cacc b = 0) ∧ compF (stepC P mm tg own ifs elt) (its.drop i) acc env = some (ds, env3), ⟨xs.length, by omega, by omega, ?_⟩, fun i k H' ⟨hk, hi, Z, c, env, acc, vacc, cacc, E, hl, qa, G, F, MM, ev⟩ => ?_⟩
  · obtain ⟨c', E', le⟩ := E1.wipe (own := own)
    have cD : cS D = 0 ∧ ex D = 0 := by have := G1.non0 hD; simp only [add] at this; omega
    refine ⟨Z1, c', wipeE own env0, [], [], zc, ED.loc (fun _ z => z) (fun a u h _ => keep_new hD a u h) E', upd_same, ⟨rfl, rfl⟩, ?_, ?_, fun _ _ _ => rfl, ev⟩
    · refine (Gd.new (o := .lst []) G1 hD rfl).le fun a => ?_
      have := le a
      simp only [add, zc]; omega
    · refine ((Fr.new (c := cS) hD).lessR fun a => ?_)
      have := le a
      simp only [add, zc]; omega
  · have zD : ∀ a, Z1 a → cS a = 0 := fun a z => by have := ((G1 a).2.2 z).1; simp only [add] at this; omega
    have st : St H' := hst H' fun a o h x => by
      rw [(F a).2.2.1 (by rw [h]; simp) ?_]; exact h
      rcases x with x | x | x | x
      · right; have := G1.nm h x; simp only [add] at this; omega
      · exact .inr (zD a x)
      · right; have := (G1 a).1; simp only [add] at this; omega
      · exact .inl x
    by_cases hlt : i < xs.length
    · refine .inr ⟨w.go i H' st hlt, fun H'' => xs.length - (i + 1) = xs.length - (i + 1) ∧ i + 1 ≤ xs.length ∧ ∃ Z c env acc vacc cacc, ED K Z H'' env (wipe σ own) c ∧ H'' D = some (.lst vacc) ∧ Dens K Z H'' acc vacc cacc ∧ Gd Z H'' (add c (add (one D) (add cacc ex))) ∧
        Fr mm Z1 H1 cS Z H'' (add c (add (one D) cacc)) ∧ (mm = true → ∀ b, H1 b ≠ none → cacc b = 0) ∧ compF (stepC P mm tg own ifs elt) (its.drop (i + 1)) acc env = some (ds, env3), fun H'' n => ⟨xs.length - (i + 1), by omega, n⟩, fun x H'' y => ?_⟩
      obtain ⟨rfl, hx⟩ := w.yld i H' x H'' st hlt y
      obtain ⟨d, k1, k2, hd, qd, ek⟩ := Dens.getV q hx
      have ek1 : k1 = zc := by funext a; have := congrFun ek a; simp only [add, zc] at *; omega
      subst ek1
      have kp : ∀ a o, H1 a = some o → (isMut o = false ∨ Z1 a ∨ zc a ≠ 0) → H'' a = some o := fun a o h x => by
        rw [(F a).2.2.1 (by rw [h]; simp) ?_]; exact h
        rcases x with x | x | x
        · right; have := G1.nm h x; simp only [add] at this; omega
        · exact .inr (zD a x)
        · exact absurd rfl x
      have qd := Den.loc F.zz kp qd
      obtain ⟨hil, hdi⟩ := List.getElem?_eq_some_iff.mp hd
      have edrop : its.drop i = d :: its.drop (i + 1) := by rw [List.drop_eq_getElem_cons hil, hdi]
      rw [edrop] at ev
      obtain ⟨p, s1, s2⟩ := bind_some (show ((stepC P mm tg own ifs elt d env).bind fun p => match p.1 with
        | none => compF (stepC P mm tg own ifs elt) (its.drop (i + 1)) acc p.2
        | some d => if acc.length < sizeLine then compF (stepC P mm tg own ifs elt) (its.drop (i + 1)) (acc ++ [d]) p.2 else none) = some (ds, env3) from ev)
      obtain ⟨e1, b1, s3⟩ := bind_some (show ((bindT tg d env).bind fun e1 => (evTand P mm ifs e1).bind fun t => if t.1 then ((evA P mm elt t.2).bind fun x => mat mm x.1 x.2).map fun r => (some r.1, wipeE own r.2) else some (none, wipeE own t.2)) = some p from s1)
      obtain ⟨t, b2, s4⟩ := bind_some s3
      refine ⟨Z, c, zc, d, env, e1, E, qd, b1, fun σ' c' E' le' hl' ag => ?_⟩
      have ew : wipe σ' own = wipe σ own := wipe_agree hl' fun j hj => ag j fun h => hj (htg j h)
      refine ⟨ew, ?_⟩
      have G' : Gd Z H'' (add c' (add (one D) (add cacc ex))) := G.le fun a => by have := le' a; simp only [add, zc] at *; omega
      have G'' : Gd Z H'' (add c' (add (one D) cacc)) := G.le fun a => by have := le' a; simp only [add, zc] at *; omega
      refine in_ifs hifs ⟨mm, Z, c', e1, t.1, t.2, E', G'.le (fun a => by simp only [add]; omega), b2, fun H3 Z3 c3 E3 G3 F3 => ?_⟩
      cases ht : t.1 with
      | false =>
        rw [ht] at s4
        have s4 : some (none, wipeE own t.2) = some p := s4
        injection s4 with s4
        subst s4
        obtain ⟨c4, E4, le4⟩ := E3.wipe (own := own)
        rw [ew] at E4
        obtain ⟨Ga, Fa⟩ := F3.ext G' G3
        obtain ⟨Gb, Fb⟩ := F3.ext G'' G3
        show _ ∧ _
        refine ⟨rfl, hlt, Z3, c4, _, acc, vacc, cacc, E4, F3.keep G' D _ hl (.inr (.inr (by simp only [add, one_self]; omega))), Dens.loc F3.zz (fun a o h x => F3.keep G' a o h (x.elim .inl fun x => .inr (x.elim .inl fun x => .inr (by simp only [add]; omega)))) qa,
          Ga.le fun a => by have := le4 a; simp only [add]; omega, ?_, MM, s2⟩
        exact (F.trans (Fb.lessL fun a => by have := le' a; simp only [add, zc] at *; omega)).lessR fun a => by have := le4 a; simp only [add]; omega
      | true =>
        rw [ht] at s4
        obtain ⟨r, s5, s6⟩ := map_some (show ((evA P mm elt t.2).bind fun x => mat mm x.1 x.2).map (fun r => (some r.1, wipeE own r.2)) = some p from s4)
        subst s6
        obtain ⟨x0, s7, s8⟩ := bind_some s5
        show tE K P elt σ' H3 _
        refine ⟨mm, Z3, c3, t.2, x0.1, x0.2, E3, G3, s7, fun v H4 Z4 c4 ca4 E4 q4 G4 F4 M4 => ?_⟩
        obtain ⟨Z5, c5, cd, E5, q5, G5, F5, le5⟩ := mat_ok E4 q4 G4 s8
        have F6 := (F3.trans F4).trans F5
        have s2 : (if acc.length < sizeLine then compF (stepC P mm tg own ifs elt) (its.drop (i + 1)) (acc ++ [r.1]) (wipeE own r.2) else none) = some (ds, env3) := s2
        have hlen : acc.length < sizeLine := by
          by_cases h : acc.length < sizeLine
          · exact h
          · rw [if_neg h] at s2; cases s2
        rw [if_pos hlen] at s2
        obtain ⟨Ga, Fa⟩ := F6.ext G' G5
        obtain ⟨Gb, Fb⟩ := F6.ext G'' G5
        have hD4 : H4 D = some (.lst vacc) := F6.keep G' D _ hl (.inr (.inr (by simp only [add, one_self]; omega)))
        have qa4 : Dens K Z5 H4 acc vacc cacc := Dens.loc F6.zz (fun a o h x => F6.keep G' a o h (x.elim .inl fun x => .inr (x.elim .inl fun x => .inr (by simp only [add]; omega)))) qa
        refine ⟨vacc, hD4, by rw [qa.length]; exact hlen, rfl, hlt, ?_⟩
        have uk := upd_keep (o' := .lst (vacc ++ [v])) (c := add (add c5 cd) (add cacc ex)) hD4 rfl (Ga.le fun a => by simp only [add]; omega)
        obtain ⟨c6, E6, le6⟩ := E5.wipe (own := own)
        rw [ew] at E6
        refine ⟨Z5, c6, _, acc ++ [r.1], vacc ++ [v], add cacc (add cd zc), ED.loc (fun _ z => z) (fun a o h x => uk a o h (x.elim .inl fun x => .inr (x.elim .inl fun x => .inr (by have := le6 a; simp only [add]; omega)))) E6, upd_same, ?_, ?_, ?_, fun x b hb => ?_, s2⟩
        · refine Dens.loc (fun _ z => z) (fun a o h x => uk a o h (x.elim .inl fun x => .inr (x.elim .inl fun x => .inr (by simp only [add, zc] at *; omega)))) (Dens.app qa4 ⟨v, [], cd, zc, rfl, q5, ⟨rfl, rfl⟩, rfl⟩)
        · intro a
          obtain ⟨g1, g2, g3⟩ := Ga a
          have := le6 a
          by_cases ha : a = D
          · subst ha
            simp only [add, one_self, zc] at *
            exact ⟨by omega, fun _ => ⟨_, upd_same, rfl⟩, fun z => ⟨by have := (g3 z).1; omega, by rw [upd_same]; simp⟩⟩
          · simp only [add, one_ne ha, MutA, upd_ne ha, zc] at *
            exact ⟨by omega, fun x => g2 (by omega), fun z => ⟨by have := (g3 z).1; omega, (g3 z).2⟩⟩
        · have F7 := F.trans (Fb.lessL fun a => by have := le' a; simp only [add, zc] at *; omega)
          intro a
          obtain ⟨f1, f2, f3, f4⟩ := F7 a
          have := le6 a
          by_cases ha : a = D
          · subst ha
            exact ⟨f1, fun n => absurd hD n, fun n => absurd hD n, fun n => absurd hD n⟩
          · simp only [add, one_ne ha, upd_ne ha, zc] at *
            exact ⟨f1, f2, f3, fun n x => ⟨by have := (f4 n x).1; omega, (f4 n x).2⟩⟩
        · have := MM x b hb
          have := M4 x b ((F3 b).2.1 ((F b).2.1 hb))
          have := le5 b
          simp only [add, zc]; omega
    · have hi' : i = xs.length := by omega
      refine .inl ⟨w.stop i H' st (by omega), ?_⟩
      rw [List.drop_eq_nil_of_le (by omega)] at ev
      have ev : some (acc, env) = some (ds, env3) := ev
      injection ev with ev
      injection ev with e1 e2
      subst e1 e2
      exact fin D H' Z c cacc vacc hD hl E qa MM G F
end
end DL
end

section
/-! DL13: what a comprehension walks. -/
namespace DL
open PySem PySem.Spec L2
open PyProof.Rows hiding St

theorem PI.imp {X : Cx} {tg iter : PySem.Expr} {t t' : TI} (h : PI X tg iter t) (f : ∀ σ H R, t' σ H R → t σ H R) : PI X tg iter t' := ⟨fun pins s σ H R I q => h.run pins s σ H R I (f σ H R q)⟩
def jAny (K : PySem.W.Frag) (vs : List V) (H : Hp) (R : It → Hp → Prop) : Prop := ∃ a, vs = [.ref a] ∧ (((∃ xs, SqL K H a xs) ∧ R (Itl K a) H) ∨ ((∃ xs, SqT K H a xs) ∧ R (Itt K a) H))
def jRng1 (vs : List V) (H : Hp) (R : It → Hp → Prop) : Prop := ∃ j : Int, vs = [.int j] ∧ -(2 ^ 62) ≤ j ∧ j < 2 ^ 62 ∧ R (Itr 0 j.toNat) H
def jRng2 (vs : List V) (H : Hp) (R : It → Hp → Prop) : Prop := ∃ i j : Int, vs = [.int i, .int j] ∧ (-(2 ^ 62) ≤ i ∧ i < 2 ^ 62 ∧ -(2 ^ 62) ≤ j ∧ j < 2 ^ 62) ∧ R (Itr i (j - i).toNat) H
def jSrc (K : PySem.W.Frag) : SrcK → Nat → List V → Hp → (It → Hp → Prop) → Prop
  | .rng, 1 => jRng1
  | .rng, 2 => jRng2
  | .it _, 1 => jAny K
  | .zip, 2 => fun vs H R => ∃ a b xs ys, vs = [.ref a, .ref b] ∧ ((SqL K H a xs ∧ SqL K H b ys ∧ R (Itz K a b) H) ∨ (SqT K H a xs ∧ SqT K H b ys ∧ R (RZ.ItzT K a b) H))
  | _, _ => fun _ _ _ => False
def iSrc (K : PySem.W.Frag) (k : SrcK) (ts : List TE) : TI := fun σ H R => tL ts σ H fun vs H1 => jSrc K k ts.length vs H1 R
section
variable {X : Cx} {tg : PySem.Expr}
theorem pi_any {l : PySem.Expr} {tl : TE} {b : Bool} (hl : PE X l tl) : PI X tg l (iSrc X.K (.it b) [tl]) := by
  refine ⟨fun pins s σ H R I h => ?_⟩
  refine thn (hl.run pins s σ H _ I h) fun v s1 ⟨x, H1, I1, r1, q1⟩ => ?_
  obtain ⟨a, e, q1⟩ := q1
  cases e
  cases r1
  rcases q1 with ⟨⟨xs, hq⟩, q⟩ | ⟨⟨xs, hq⟩, q⟩
  · obtain ⟨its, rv, p, hz⟩ := I1.list hq
    refine wpAny_pyIter_list p.isList ?_
    refine ⟨s1.heap.objs.size, [s1.heap.objs.size], _, _, H1, rfl, I1.kept (t' := s1.toks) fun b o e => Heap.get?_push_of_some _ e, turn_list a _, ⟨_, Heap.get?_push_size _ rfl, rfl, rfl⟩, fun b hb => ?_, q⟩
    have e : b = s1.heap.objs.size := by simpa using hb
    subst e
    exact I1.fpOk (Nat.le_refl _) (I1.hok.fresh (Nat.le_refl _))
  · obtain ⟨its, rv, p, hz⟩ := I1.tuple hq
    refine wpAny_pyIter_tuple (show s1.heap.IsTuple a its.toArray from p) ?_
    refine ⟨s1.heap.objs.size, [s1.heap.objs.size], _, _, H1, rfl, I1.kept (t' := s1.toks) fun b o e => Heap.get?_push_of_some _ e, turn_tuple a _, ⟨_, Heap.get?_push_size _ rfl, rfl, rfl⟩, fun b hb => ?_, q⟩
    have e : b = s1.heap.objs.size := by simpa using hb
    subst e
    exact I1.fpOk (Nat.le_refl _) (I1.hok.fresh (Nat.le_refl _))
theorem pi_rng1 {a : PySem.Expr} {ta : TE} {p pos : Pos} (hg : Gl X "range") (hm : X.mg "range" = none) (ha : PE X a ta) (hs : notStar a = true) : PI X tg (.Call (.Name "range" p) [a] [] pos) (iSrc X.K .rng [ta]) :=
  PI.imp (pi_range1 hg hm (pa_of (ts := [ta]) (by simp [hs]) (.cons ha .nil)) (star_cons hs)) fun σ H R h => h
theorem pi_rng2 {a b : PySem.Expr} {ta tb : TE} {p pos : Pos} (hg : Gl X "range") (hm : X.mg "range" = none) (ha : PE X a ta) (hb : PE X b tb) (hs : notStar a = true) (hs2 : notStar b = true) : PI X tg (.Call (.Name "range" p) [a, b] [] pos) (iSrc X.K .rng [ta, tb]) :=
  PI.imp (pi_range2 hg hm (pa_of (ts := [ta, tb]) (by simp [hs, hs2]) (.cons ha (.cons hb .nil))) (by rw [star_cons hs, star_cons hs2]; rfl) (star_cons hs2)) fun σ H R h => h
def chkSrc (bl : List Str) (sc : Scope) : SrcK → PySem.Expr → Option (List PySem.Expr)
  | .rng, .Call (.Name x _) [a] [] _ => if bltB bl sc x "range" && notStar a then some [a] else none
  | .rng, .Call (.Name x _) [a, b] [] _ => if bltB bl sc x "range" && notStar a && notStar b then some [a, b] else none
  | .it _, p => some [p]
  | .zip, .Call (.Name x _) [a, b] [] _ => if bltB bl sc x "zip" && notStar a && notStar b then some [a, b] else none
  | _, _ => none
/-- zip is walked by a pair alone -/
def zipOk : SrcK → PySem.Expr → Bool
  | .zip, .Tuple _ _ _ => true
  | .zip, _ => false
  | _, _ => true
theorem pi_of {P : Ctx} {fn : List (Str × Nat)} {bl N : List Str} {sc : Scope} (C : CtxOk P fn bl N X) (hs : X.env.scope = sc) (k : SrcK) {p : PySem.Expr} {ps : List PySem.Expr} (h : chkSrc bl sc k p = some ps) {ts : List TE} (hp : PEs X ps ts) (hz : zipOk k tg = true) : PI X tg p (iSrc X.K k ts) := by
  unfold chkSrc at h
  split at h
  · split at h
    · rename_i hc
      rw [Bool.and_eq_true] at hc
      cases h
      obtain ⟨rfl, g, m⟩ := blt_of C hs hc.1
      cases hp with
      | cons h1 hp => cases hp; exact pi_rng1 g m h1 hc.2
    · cases h
  · split at h
    · rename_i hc
      rw [Bool.and_eq_true, Bool.and_eq_true] at hc
      cases h
      obtain ⟨rfl, g, m⟩ := blt_of C hs hc.1.1
      cases hp with
      | cons h1 hp => cases hp with
        | cons h2 hp => cases hp; exact pi_rng2 g m h1 h2 hc.1.2 hc.2
    · cases h
  · cases h
    cases hp with
    | cons h1 hp => cases hp; exact pi_any h1
  · split at h
    · rename_i hc
      rw [Bool.and_eq_true, Bool.and_eq_true] at hc
      cases h
      obtain ⟨rfl, g, m⟩ := blt_of C hs hc.1.1
      cases hp with
      | cons h1 hp => cases hp with
        | cons h2 hp =>
          cases hp
          cases tg <;> first
            | exact PI.imp (RZ.pi_zipA g m (pa_of (ts := [_, _]) (by simp [hc.1.2, hc.2]) (.cons h1 (.cons h2 .nil))) (star_cons hc.1.2) (star_any (by simp [hc.2]))) fun σ H R h => h
            | cases hz
    · cases h
  · cases h
end

section
variable {K : PySem.W.Frag} {P : Ctx}
theorem rgL_den {Z : Addr → Prop} {H : Hp} (lo hi : Int) : Dens K Z H (rngL lo hi) (rgN lo (hi - lo).toNat) zc := by
  unfold rngL rgN
  generalize (hi - lo).toNat = n
  have h : ∀ l : List Nat, Dens K Z H (l.map fun (k : Nat) => D.int (lo + (k : Int))) (l.map fun (i : Nat) => V.int (lo + (i : Int))) zc := by
    intro l
    induction l with
    | nil => exact ⟨rfl, rfl⟩
    | cons a l ih => exact ⟨_, _, zc, zc, rfl, ⟨rfl, rfl⟩, ih, (add_zc _).symm⟩
  exact h _
theorem AD.look1 {Z : Addr → Prop} {H : Hp} {σ : L2.St} {env : EnvD} {c ca : Cnt} {a : A} {v : V} {d : D} (E : ED K Z H env σ c) (q : AD K Z H σ a v ca) (h : a.get env = some d) : ∃ c1, Den K Z H d v c1 ∧ (a.isTmp = true → c1 = ca) := q.look E h
theorem items_den {Z : Addr → Prop} {H : Hp} {d : D} {v : V} {c : Cnt} {its : List D} (q : Den K Z H d v c) (h : d.items = some its) : ∃ a xs c', v = .ref a ∧ ((H a = some (.lst xs) ∧ (Z a ∨ c a ≠ 0)) ∨ SqT K H a xs) ∧ Dens K Z H its xs c' ∧ (∀ b, c' b ≤ c b) := by
  cases d with
  | tup ds =>
    cases h
    obtain ⟨a, vs, rfl, s, q⟩ := q
    exact ⟨a, vs, c, rfl, .inr s, q, fun b => Nat.le_refl _⟩
  | lst o ds =>
    cases h
    cases o with
    | true =>
      obtain ⟨a, vs, c', rfl, s, q, rfl⟩ := q
      exact ⟨a, vs, c', rfl, .inl ⟨s, .inr (by simp only [add, one_self]; omega)⟩, q, fun b => by simp only [add]; omega⟩
    | false =>
      obtain ⟨a, vs, rfl, s, z, q, rfl⟩ := q
      exact ⟨a, vs, zc, rfl, .inl ⟨s, .inl z⟩, q, fun b => Nat.le_refl _⟩
  | _ => cases h
/-- what is walked stands firm -/
structure SrcOk (K : PySem.W.Frag) (m : Bool) (env1 : EnvD) (s : Src) (σ : L2.St) (Z1 : Addr → Prop) (H1 : Hp) (c1 ca1 cS ex : Cnt) (J : It) (xs : List V) (St : Hp → Prop) : Prop where
  w : Walks J xs St
  E : ED K Z1 H1 s.env σ cS
  le : ∀ a, cS a + ex a ≤ c1 a + ca1 a
  st : ∀ H', (∀ a o, H1 a = some o → (isMut o = false ∨ Z1 a ∨ ex a ≠ 0 ∨ s.m = true) → H' a = some o) → St H'
  q : Dens K Z1 H1 s.its xs zc
  mm : m = true → s.m = true
  un : ∀ (Z' : Addr → Prop) H' env' c', (∀ a, Z1 a → Z' a) → (∀ a o, H1 a = some o → (isMut o = false ∨ Z1 a ∨ ex a ≠ 0) → H' a = some o) → ED K Z' H' env' σ c' → env'.length = env1.length → ∃ c'', ED K Z' H' (unlend s.lent env') σ c'' ∧ ∀ a, c'' a ≤ c' a + ex a
theorem src_rng {m : Bool} {env1 : EnvD} {its : List D} {σ : L2.St} {Z1 : Addr → Prop} {H1 : Hp} {c1 ca1 : Cnt} {lo hi : Int} (E : ED K Z1 H1 env1 σ c1) (e : its = rngL lo hi) : SrcOk K m env1 ⟨its, m, env1, none⟩ σ Z1 H1 c1 ca1 c1 ca1 (Itr lo (hi - lo).toNat) (rgN lo (hi - lo).toNat) (fun _ => True) where
  w := walks_rng _ _
  E := E
  le := fun a => Nat.le_refl _
  st := fun _ _ => trivial
  q := by subst e; exact rgL_den _ _
  mm := fun h => h
  un := fun Z' H' env' c' _ _ E' _ => ⟨c', E', fun a => by omega⟩
theorem src_it {lend m : Bool} {env1 : EnvD} {its : List D} {σ : L2.St} {Z1 : Addr → Prop} {H1 : Hp} {c1 ca1 : Cnt} {a : A} {v : V} {d : D} {s : Src} (E : ED K Z1 H1 env1 σ c1) (q : AD K Z1 H1 σ a v ca1)
    (g : a.get env1 = some d) (hi : d.items = some its) (hp : D.plains its = true) (hs : srcI lend m a env1 d its = some s) : ∃ cS ex p xs, v = .ref p ∧
      ((SrcOk K m env1 s σ Z1 H1 c1 ca1 cS ex (Itl K p) xs (fun H => H p = some (.lst xs)) ∧ SqL K H1 p xs) ∨ (SrcOk K m env1 s σ Z1 H1 c1 ca1 cS ex (Itt K p) xs (fun H => SqT K H p xs) ∧ SqT K H1 p xs)) := by
  have plain : ∀ {xs : List V} {c' : Cnt}, Dens K Z1 H1 its xs c' → Dens K Z1 H1 its xs zc := fun q => by
    have := Dens.pl hp q; subst this; exact q
  unfold srcI at hs
  split at hs
  · rename_i i hr
    cases a with
    | ref j =>
      injection hr with hr
      subst hr
      split at hs
      · cases hs
      · rename_i hm
        cases hs
        obtain ⟨hv, rfl⟩ := q
        have hg := getE_some (show getE env1 j = some d from g)
        obtain ⟨w, k1, k2, e1, q1, E2, rfl⟩ := E.take hg
        rw [hv] at e1; cases e1
        obtain ⟨p, xs, c', rfl, hh, qi, le⟩ := items_den q1 hi
        refine ⟨k2, k1, p, xs, rfl, ?_⟩
        have un : ∀ (Z' : Addr → Prop) H' (env' : EnvD) c', (∀ a, Z1 a → Z' a) → (∀ a o, H1 a = some o → (isMut o = false ∨ Z1 a ∨ k1 a ≠ 0) → H' a = some o) → ED K Z' H' env' σ c' → env'.length = env1.length → ∃ c'', ED K Z' H' (unlend (some (j, d)) env') σ c'' ∧ ∀ a, c'' a ≤ c' a + k1 a := by
          intro Z' H' env' c' hz hk E' hl
          obtain ⟨k3, k4, E3, rfl⟩ := E'.drop j
          have E4 := ED.put E3 (E'.at_len hv) (Den.loc hz hk q1)
          rw [set_self hv] at E4
          exact ⟨_, E4, fun a => by simp only [add]; omega⟩
        rcases hh with ⟨hh, hz⟩ | hh
        · refine .inl ⟨⟨walks_list _ _ _, E2, fun a => by simp only [add]; omega, fun H' k => k p _ hh (hz.elim (fun z => .inr (.inl z)) fun z => .inr (.inr (.inl z))), plain qi, fun x => absurd x hm, un⟩, SqL.of hh⟩
        · refine .inr ⟨⟨walks_tup _ _ _, E2, fun a => by simp only [add]; omega, fun H' k => SqT.loc (fun a o h x => k a o h (.inl x)) hh, plain qi, fun x => absurd x hm, un⟩, hh⟩
    | tmp _ => cases hr
    | pk _ => cases hr
  · cases hs
    obtain ⟨k, q1, ht⟩ := q.look E g
    obtain ⟨p, xs, c', rfl, hh, qi, le⟩ := items_den q1 hi
    refine ⟨c1, ca1, p, xs, rfl, ?_⟩
    have un : ∀ (Z' : Addr → Prop) H' (env' : EnvD) c', (∀ a, Z1 a → Z' a) → (∀ a o, H1 a = some o → (isMut o = false ∨ Z1 a ∨ ca1 a ≠ 0) → H' a = some o) → ED K Z' H' env' σ c' → env'.length = env1.length → ∃ c'', ED K Z' H' (unlend none env') σ c'' ∧ ∀ a, c'' a ≤ c' a + ca1 a := by
      intro Z' H' env' c' _ _ E' _
      exact ⟨c', E', fun a => by omega⟩
    rcases hh with ⟨hh, hz⟩ | hh
    · refine .inl ⟨⟨walks_list _ _ _, E, fun a => Nat.le_refl _, fun H' kk => ?_, plain qi, fun x => by simp [x], un⟩, SqL.of hh⟩
      refine kk p _ hh ?_
      rcases hz with z | z
      · exact .inr (.inl z)
      · cases hta : a.isTmp with
        | true => rw [ht hta] at z; exact .inr (.inr (.inl z))
        | false => exact .inr (.inr (.inr (by simp)))
    · exact .inr ⟨⟨walks_tup _ _ _, E, fun a => Nat.le_refl _, fun H' k => SqT.loc (fun a o h x => k a o h (.inl x)) hh, plain qi, fun x => by simp [x], un⟩, hh⟩
end
end DL
end

section
/-! DL14: comprehensions as values. -/
namespace DL
open PySem PySem.Spec L2
open PyProof.Rows hiding St
section
variable {K : PySem.W.Frag} {P : Ctx}
theorem ADs.length {Z : Addr → Prop} {H : Hp} {σ : L2.St} : ∀ {as : List A} {vs : List V} {ca : Cnt}, ADs K Z H σ as vs ca → vs.length = as.length
  | [], _, _, q => by obtain ⟨rfl, _⟩ := q; rfl
  | a :: as, _, _, q => by obtain ⟨v, r, c1, c2, rfl, _, q2, _⟩ := q; simp [ADs.length q2]
theorem evAs_len : ∀ {es : List DL.E} {m : Bool} {env : EnvD} {y : List A × EnvD}, evAs P m es env = some y → y.1.length = es.length
  | [], _, _, _, h => by cases h; rfl
  | e :: es, m, env, y, h => by
    obtain ⟨z, g1, g2⟩ := bind_some (show ((evA P m e env).bind fun x => (evAs P (m || x.1.isPk) es x.2).map fun y => (x.1 :: y.1, y.2)) = some y from h)
    obtain ⟨w, g3, rfl⟩ := map_some g2
    show w.1.length + 1 = es.length + 1
    rw [evAs_len g3]
theorem rng_int {Z : Addr → Prop} {H : Hp} {ds : List D} {vs : List V} {its : List D} (q : DenB K Z H ds vs) (h : rngItems ds = some its) : ∃ lo hi, its = rngL lo hi ∧
    ((vs.length = 1 ∧ ∀ R, R (Itr lo (hi - lo).toNat) H → jRng1 vs H R) ∨ (vs.length = 2 ∧ ∀ R, R (Itr lo (hi - lo).toNat) H → jRng2 vs H R)) := by
  unfold rngItems at h
  have ok : ∀ i, rngOk i = true → -(2 ^ 62) ≤ i ∧ i < 2 ^ 62 := fun i h => by
    unfold rngOk at h
    rw [Bool.and_eq_true] at h
    exact ⟨of_decide_eq_true h.1, of_decide_eq_true h.2⟩
  split at h
  · split at h
    · rename_i j hj
      cases h
      obtain ⟨v, r, c, rfl, q1, q2⟩ := q
      have q2 : r = [] := q2
      subst q2
      obtain ⟨rfl, _⟩ := q1
      refine ⟨0, j, rfl, .inl ⟨rfl, fun R hR => ⟨j, rfl, (ok j hj).1, (ok j hj).2, ?_⟩⟩⟩
      rw [show j - 0 = j by omega] at hR
      exact hR
    · cases h
  · split at h
    · rename_i i j hj
      rw [Bool.and_eq_true] at hj
      cases h
      obtain ⟨v, r, c, rfl, q1, v', r', c', rfl, q2, q3⟩ := q
      have q3 : r' = [] := q3
      subst q3
      obtain ⟨rfl, _⟩ := q1
      obtain ⟨rfl, _⟩ := q2
      exact ⟨i, j, rfl, .inr ⟨rfl, fun R hR => ⟨i, j, rfl, ⟨(ok i hj.1).1, (ok i hj.1).2, (ok j hj.2).1, (ok j hj.2).2⟩, hR⟩⟩⟩
    · cases h
  · cases h
theorem src_ok {k : SrcK} {m : Bool} {as : List A} {env1 : EnvD} {s : Src} {vs : List V} {σ : L2.St} {Z1 : Addr → Prop} {H1 : Hp} {c1 ca1 : Cnt} (E : ED K Z1 H1 env1 σ c1) (q : ADs K Z1 H1 σ as vs ca1) (h : srcC k m as env1 = some s)
    {n : Nat} (hn : n = as.length) {R : It → Hp → Prop} (r : ∀ J xs St cS ex, SrcOk K m env1 s σ Z1 H1 c1 ca1 cS ex J xs St → R J H1) : jSrc K k n vs H1 R := by
  have hvl := q.length
  subst hn
  cases k with
  | rng =>
    obtain ⟨its, h1, rfl⟩ := map_some (show ((A.gets env1 as).bind rngItems).map (fun its => (⟨its, m, env1, none⟩ : Src)) = some s from h)
    obtain ⟨ds, h2, h3⟩ := bind_some h1
    obtain ⟨lo, hi, e, x⟩ := rng_int (ADs.look E q h2) h3
    rcases x with ⟨hl, x⟩ | ⟨hl, x⟩
    · rw [← hvl, hl]; exact x R (r _ _ _ _ _ (src_rng E e))
    · rw [← hvl, hl]; exact x R (r _ _ _ _ _ (src_rng E e))
  | it lend =>
    obtain ⟨a, h1, h2⟩ := bind_some (show ((A.one? as).bind fun a => (a.get env1).bind fun d => (d.items).bind fun its => if D.plains its then srcI lend m a env1 d its else none) = some s from h)
    obtain ⟨d, h3, h4⟩ := bind_some h2
    obtain ⟨its, h5, h6⟩ := bind_some h4
    split at h6
    · rename_i hp
      unfold A.one? at h1
      split at h1
      · cases h1
        obtain ⟨v, r', k1, k2, rfl, q1, q2, rfl⟩ := q
        obtain ⟨rfl, rfl⟩ := q2
        rw [add_zc] at r
        obtain ⟨cS, ex, p, xs, rfl, x⟩ := src_it E q1 h3 h5 hp h6
        refine ⟨p, rfl, ?_⟩
        rcases x with ⟨x, y⟩ | ⟨x, y⟩
        · exact .inl ⟨⟨xs, y⟩, r _ _ _ _ _ x⟩
        · exact .inr ⟨⟨xs, y⟩, r _ _ _ _ _ x⟩
      · cases h1
    · cases h6
  | zip => cases h
theorem plainAt_den {Z : Addr → Prop} {H : Hp} {own : List Nat} {env : EnvD} {σ : L2.St} {c : Cnt} (E : ED K Z H env σ c) (h : plainAt own env = true) : ∀ i d, i ∈ own → getE env i = some d → ∃ v, σ[i]? = some (some v) ∧ Den K Z H d v zc := by
  intro i d hi hg
  unfold plainAt at h
  rw [List.all_eq_true] at h
  have h := h i hi
  rw [hg] at h
  have h : d.plain = true := h
  obtain ⟨v, k1, k2, e, q, _, _⟩ := E.take (getE_some hg)
  have := Den.pl h q
  subst this
  exact ⟨v, e, q⟩
theorem restE_len (env0 : EnvD) : ∀ (own : List Nat) (env : EnvD), (restE own env0 env).length = env.length
  | [], _ => rfl
  | i :: own, env => by
    show ((restE own env0 env).set i (getE env0 i)).length = _
    rw [List.length_set, restE_len env0 own env]
theorem in_comp {tg : Tg} {own : List Nat} {k : SrcK} {src : List E} {ifs : List T} {elt : E} (htg : ∀ i ∈ tgS tg, i ∈ own) (hifs : ifs.length ≤ 1) {σ : L2.St} {H : Hp} {Q : VK} (h : tE K P (.comp tg own k src ifs elt) σ H Q) :
    tLc (iSrc K k (src.map (tE K P))) (gT K tg) (tIfs K P ifs) (tE K P elt) own σ H Q := by
  obtain ⟨m, Z, c, env, a, env', E, G, ev, kk⟩ := h
  obtain ⟨x, h1, h2⟩ := bind_some (show ((evAs P m src env).bind fun x => (srcC k m x.1 x.2).bind fun s => if plainAt own x.2 then
      (compF (stepC P s.m tg own ifs elt) s.its [] (wipeE own s.env)).map fun r => (A.tmp (.lst true r.1), unlend s.lent (restE own x.2 r.2)) else none) = some (a, env') from ev)
  obtain ⟨s, h3, h4⟩ := bind_some h2
  split at h4
  · rename_i hpl
    obtain ⟨r, h5, h6⟩ := map_some h4
    injection h6 with ha he
    subst ha he
    refine seqL ⟨m, Z, c, env, x.1, x.2, E, G, h1, fun vs H1 Z1 c1 ca1 E1 q1 G1 F1 M1 => ?_⟩
    refine src_ok E1 q1 h3 (by rw [evAs_len h1, List.length_map]) fun J xs St cS ex so => ?_
    have GS : Gd Z1 H1 (add cS ex) := G1.le fun a => so.le a
    refine comp_run (env3 := r.2) (ds := r.1) so.w so.E GS so.st so.q htg hifs h5 fun D H' Z' c' cacc vacc hD hl E' qa MM G' F' => ?_
    have E2 := E'.unwipe
    have ext : ∀ a o, H1 a = some o → (isMut o = false ∨ Z1 a ∨ ex a ≠ 0) → H' a = some o := F'.keep GS
    have hp := plainAt_den E1 hpl
    obtain ⟨c2, E3, le3⟩ := E2.rest (env0 := x.2) fun i d hi hg => by
      obtain ⟨v, hv, q⟩ := hp i d hi hg
      exact ⟨v, hv, Den.loc F'.zz (fun a o h x => ext a o h (x.elim .inl fun x => .inr (x.elim .inl fun x => absurd rfl x))) q⟩
    have hlen : (restE own x.2 r.2).length = x.2.length := by
      rw [restE_len, ← E2.len, E1.len]
    obtain ⟨c3, E4, le4⟩ := so.un Z' H' (restE own x.2 r.2) c2 F'.zz ext E3 hlen
    have G5 : Gd Z' H' (add c3 (add (one D) cacc)) := G'.le fun a => by have := le3 a; have := le4 a; simp only [add]; omega
    have G6 : Gd Z' H' (add c' (add (one D) cacc)) := G'.le fun a => by simp only [add]; omega
    obtain ⟨_, F7⟩ := F'.ext GS G6
    have F8 : Fr m Z1 H1 (add c1 ca1) Z' H' (add c3 (add (one D) cacc)) := by
      refine Fr.low (m' := s.m) ?_ so.mm
      refine (F7.lessL fun a => so.le a).lessR fun a => by have := le3 a; have := le4 a; simp only [add]; omega
    refine kk (.ref D) H' Z' c3 (add (one D) cacc) E4 ⟨D, vacc, cacc, rfl, hl, qa, rfl⟩ G5 (F1.trans F8) fun hm b hb => ?_
    have hb1 : H1 b ≠ none := (F1 b).2.1 hb
    have hbD : b ≠ D := by rintro rfl; exact hb1 hD
    have := MM (so.mm hm) b hb1
    simp only [add, one_ne hbD]; omega
  · cases h4
end
end DL
end

section
/-! DL15: the compact text against the model's text; soundness of the readings of expressions and tests. -/
namespace DL
open PySem PySem.Spec L2
open PyProof.Rows hiding St

def plIx : PySem.Expr → Bool
  | .Name _ _ => true
  | .Constant _ _ _ => true
  | .BinOp _ _ _ _ => true
  | .UnaryOp _ _ _ => true
  | .Call _ _ _ _ => true
  | .Subscript _ _ _ => true
  | .IfExp _ _ _ _ => true
  | .Tuple _ _ _ => true
  | .Attribute _ _ _ => true
  | _ => false
theorem plIx_ok {b : PySem.Expr} (h : plIx b = true) : PlainIx b := by
  cases b <;> first | (intro o i; rfl) | cases h
/-- tests by their value's truth -/
def plT : PySem.Expr → Bool
  | .Name _ _ => true
  | .Constant _ _ _ => true
  | .BinOp _ _ _ _ => true
  | .Call _ _ _ _ => true
  | .Subscript _ _ _ => true
  | .Attribute _ _ _ => true
  | .Tuple _ _ _ => true
  | .List _ _ => true
  | .UnaryOp .USub _ _ => true
  | .ListComp _ _ _ _ => true
  | _ => false
theorem plT_ok {X : Cx} {b : PySem.Expr} (h : plT b = true) : ∀ whole, isTrue b X.env whole = (do let v ← whole; standAt b.pos; holding [v] (truthy v)) := by
  unfold plT at h
  split at h <;> first | (intro w; rfl) | cases h
def notSet : PySem.Expr → Bool
  | .Set _ _ _ => false
  | _ => true
theorem notSet_ok {X : Cx} {b : PySem.Expr} (h : notSet b = true) : ∀ x, foldedSetIterable b X.env x = pure x := by
  cases b <;> first | (intro x; rfl) | cases h
/-- a comparison, as a test -/
def cmpT : Op → Bool
  | .cmp _ => true
  | .isN => true
  | .notN => true
  | .isB _ => true
  | _ => false

mutual
def chkE (fn : List (Str × Nat)) (bl N : List Str) (sc : Scope) : E → PySem.Expr → Bool
  | .var i, p => isVar N sc i p
  | .mv i, p => isVar N sc i p
  | .fz i, p => isVar N sc i p
  | .int n, p => match p with | .Constant (.int k) _ _ => decide (k = n) | _ => false
  | .bl b, p => match p with | .Constant (.bool k) _ _ => decide (k = b) | _ => false
  | .non, p => match p with | .Constant .none _ _ => true | _ => false
  | .str s, p => match p with | .Constant (.str k) _ _ => decide (k = s) | _ => false
  | .op o es, p => served o && match chkOp bl sc o p with | some ps => chkEs fn bl N sc es ps | none => false
  | .sub a i, p => match p with | .Subscript a' i' _ => plIx i' && chkE fn bl N sc a a' && chkE fn bl N sc i i' | _ => false
  | .tup es, p => match p with | .Tuple ps _ _ => ps.all notStar && chkEs fn bl N sc es ps | _ => false
  | .lst es, p => match p with | .List ps _ => ps.all notStar && chkEs fn bl N sc es ps | _ => false
  | .dK es, p => match p with | .Dict ks vs _ => !ks.isEmpty && decide (ks.length ≤ 15) && chkKV fn bl N sc es ks vs | _ => false
  | .dT, _ => false
  | .sli a lo hi, p => match p with | .Subscript a' (.Slice l h none _) _ => chkE fn bl N sc a a' && chkO fn bl N sc lo l && chkO fn bl N sc hi h | _ => false
  | .ite c a b, p => match p with | .IfExp c' a' b' _ => chkT fn bl N sc c c' && chkE fn bl N sc a a' && chkE fn bl N sc b b' | _ => false
  | .and es, p => match p with | .BoolOp .And ps _ => chkEs fn bl N sc es ps && !ps.isEmpty | _ => false
  | .or es, p => match p with | .BoolOp .Or ps _ => chkEs fn bl N sc es ps && !ps.isEmpty | _ => false
  | .not e, p => match p with | .UnaryOp .Not e' _ => chkE fn bl N sc e e' | _ => false
  | .cmp2 o1 o2 a b c, p => match p with | .Compare a' [q1, q2] [b', c'] _ => decide (q1 = o1) && decide (q2 = o2) && !lastMarks [o1, o2] [b', c'] && chkE fn bl N sc a a' && chkE fn bl N sc b b' && chkE fn bl N sc c c' | _ => false
  | .call f es, p => match p with | .Call (.Name x _) ps [] _ => decide (fn[f]? = some (x, es.length)) && glB sc x && !dbgB x && ps.all notStar && chkEs fn bl N sc es ps | _ => false
  | .pop _ _, _ => false
  | .popAt _ _ _, _ => false
  | .comp tg own k src ifs elt, p => match p with
    | .ListComp elt' [⟨tg', iter, ifs', 0⟩] scope _ => notSet iter && zipOk k tg' && blkC N sc scope (own.map fun i => ((N[i]?).getD ⟨#[]⟩, i)) && (tgS tg).all own.contains && decide (ifs.length ≤ 1) &&
        chkTg N (relS scope sc) (fun x => scope.names.lookup x == some .cell) tg tg' && (match chkSrc bl sc k iter with | some ps => chkEs fn bl N sc src ps | none => false) && chkTs fn bl N (relS scope sc) ifs ifs' && chkE fn bl N (relS scope sc) elt elt'
    | _ => false
def chkEs (fn : List (Str × Nat)) (bl N : List Str) (sc : Scope) : List E → List PySem.Expr → Bool
  | [], ps => ps.isEmpty
  | e :: es, ps => match ps with | p :: ps => chkE fn bl N sc e p && chkEs fn bl N sc es ps | [] => false
def chkKV (fn : List (Str × Nat)) (bl N : List Str) (sc : Scope) : List E → List (Option PySem.Expr) → List PySem.Expr → Bool
  | [], ks, vs => ks.isEmpty && vs.isEmpty
  | [_], _, _ => false
  | e :: f :: es, ks, vs => match ks, vs with | some k :: ks, v :: vs => chkE fn bl N sc e k && chkE fn bl N sc f v && chkKV fn bl N sc es ks vs | _, _ => false
def chkO (fn : List (Str × Nat)) (bl N : List Str) (sc : Scope) : List E → Option PySem.Expr → Bool
  | [], p => p.isNone
  | e :: es, p => match p with | some p => chkE fn bl N sc e p && es.isEmpty | none => false
def chkT (fn : List (Str × Nat)) (bl N : List Str) (sc : Scope) : T → PySem.Expr → Bool
  | .val e, p => (plT p && chkE fn bl N sc e p) || (match e with
    | .op o es => cmpT o && match chkOp bl sc o p with | some ps => chkEs fn bl N sc es ps | none => false
    | .cmp2 o1 o2 a b c => (match p with | .Compare a' [q1, q2] [b', c'] _ => decide (q1 = o1) && decide (q2 = o2) && !lastMarks [o1, o2] [b', c'] && chkE fn bl N sc a a' && chkE fn bl N sc b b' && chkE fn bl N sc c c' | _ => false)
    | _ => false)
  | .and ts, p => match p with | .BoolOp .And ps _ => chkTs fn bl N sc ts ps && !ps.isEmpty | _ => false
  | .or ts, p => match p with | .BoolOp .Or ps _ => chkTs fn bl N sc ts ps && !ps.isEmpty | _ => false
  | .not t, p => match p with | .UnaryOp .Not e' _ => chkT fn bl N sc t e' | _ => false
  | .ite c a b, p => match p with | .IfExp c' a' b' _ => chkT fn bl N sc c c' && chkT fn bl N sc a a' && chkT fn bl N sc b b' | _ => false
def chkTs (fn : List (Str × Nat)) (bl N : List Str) (sc : Scope) : List T → List PySem.Expr → Bool
  | [], ps => ps.isEmpty
  | t :: ts, ps => match ps with | p :: ps => chkT fn bl N sc t p && chkTs fn bl N sc ts ps | [] => false
end
end DL
end

section
/-! DL16: soundness of the readings of expressions and tests. -/
namespace DL
open PySem PySem.Spec L2
open PyProof.Rows hiding St

section
variable {X : Cx} {P : Ctx} {fn : List (Str × Nat)} {bl N : List Str} {sc : Scope}
theorem pt_op_of (C : CtxOk P fn bl N X) (hs : X.env.scope = sc) (o : Op) (hc : cmpT o = true) {p : PySem.Expr} {ps : List PySem.Expr} (h : chkOp bl sc o p = some ps) {ts : List TE} (hp : PEs X ps ts) :
    PT X p (fun σ H Q => tL ts σ H fun vs H1 => rOp X.K o vs H1 (fun x H2 => ∃ k, x = .bl k ∧ Q k H2)) := by
  unfold chkOp at h
  split at h <;> first | (cases hc; done) | skip
  · split at h
    · rename_i e
      rw [Bool.and_eq_true] at e
      have e1 := of_decide_eq_true e.1
      subst e1; cases h
      cases hp with
      | cons h1 hp => cases hp with
        | cons h2 hp => cases hp; exact pt_cmpR (op_cmp C.room _) h1 h2 (by simpa using e.2)
    · cases h
  · cases h
    cases hp with
    | cons h1 hp => cases hp; exact pt_cmp (pc_isN h1) (nomark _)
  · cases h
    cases hp with
    | cons h1 hp => cases hp; exact pt_cmp (pc_notN h1) (nomark _)
  · split at h
    · rename_i e; subst e; cases h
      cases hp with
      | cons h1 hp => cases hp; exact pt_cmpR op_isBl h1 pe_bl (nomark _)
    · cases h
  · cases h
theorem opD_bl (o : Op) (hc : cmpT o = true) (ds : List D) (d : D) (t : Bool) (h : opD o ds = some d) (ht : d.truthy = some t) : d = .bl t := by
  have hb : ∃ b, d = .bl b := by
    unfold opD at h
    split at h <;> first | (cases hc; done) | skip
    · unfold cmpD at h
      split at h <;> first
        | (cases h; exact ⟨_, rfl⟩)
        | (split at h <;> first | (cases h; exact ⟨_, rfl⟩) | cases h)
        | (obtain ⟨k, _, rfl⟩ := map_some h; exact ⟨_, rfl⟩)
        | cases h
    · cases h; exact ⟨_, rfl⟩
    · cases h; exact ⟨_, rfl⟩
    · cases h; exact ⟨_, rfl⟩
    · cases h
  obtain ⟨b, rfl⟩ := hb
  cases ht; rfl
theorem CtxOk.blk (C : CtxOk P fn bl N X) (s : Shared) (H : Hp) (scope : Scope) (Cc : Addr) (cl : List (Str × Addr)) (fp : List Addr) : CtxOk P fn bl N (X.blk s H scope (compEnvC scope cl Cc X.env) fp) where
  calm := C.calm
  hN := C.hN
  nd := C.nd
  pass := PassesOwn.never
  room := C.room
  fns := C.fns
  blt := C.blt
theorem PEs.length : ∀ {ps : List PySem.Expr} {ts : List TE}, PEs X ps ts → ps.length = ts.length
  | _, _, .nil => rfl
  | _, _, .cons _ h => by simp [PEs.length h]
theorem andL : ∀ {es : List E} {ps : List PySem.Expr} {pos : Pos}, PEs X ps (es.map (tE X.K P)) → ps ≠ [] → PE X (.BoolOp .And ps pos) (tE X.K P (.and es))
  | [], _, _, h, n => by cases h; exact absurd rfl n
  | [e], _, _, h, _ => by
    cases h with
    | cons h1 h => cases h; exact PE.imp (pe_one h1) fun σ H Q q => in_and1 q
  | e :: f :: es, _, _, h, _ => by
    cases h with
    | cons h1 h =>
      have ih := fun pos => andL (es := f :: es) (pos := pos) h (by rintro rfl; cases h)
      cases h with
      | cons h2 h => exact PE.imp (pe_and h1 (ih _)) fun σ H Q q => in_and q
theorem orL : ∀ {es : List E} {ps : List PySem.Expr} {pos : Pos}, PEs X ps (es.map (tE X.K P)) → ps ≠ [] → PE X (.BoolOp .Or ps pos) (tE X.K P (.or es))
  | [], _, _, h, n => by cases h; exact absurd rfl n
  | [e], _, _, h, _ => by
    cases h with
    | cons h1 h => cases h; exact PE.imp (pe_one h1) fun σ H Q q => in_or1 q
  | e :: f :: es, _, _, h, _ => by
    cases h with
    | cons h1 h =>
      have ih := fun pos => orL (es := f :: es) (pos := pos) h (by rintro rfl; cases h)
      cases h with
      | cons h2 h => exact PE.imp (pe_or h1 (ih _)) fun σ H Q q => in_or q
/-- one expression a test -/
inductive PTL (X : Cx) : List PySem.Expr → List TT → Prop where
  | nil : PTL X [] []
  | cons {p : PySem.Expr} {ps : List PySem.Expr} {t : TT} {ts : List TT} : PT X p t → PTL X ps ts → PTL X (p :: ps) (t :: ts)
theorem andT : ∀ {es : List T} {ps : List PySem.Expr} {pos : Pos}, PTL X ps (es.map (tT X.K P)) → ps ≠ [] → PW X (.BoolOp .And ps pos) (tT X.K P (.and es))
  | [], _, _, h, n => by cases h; exact absurd rfl n
  | [e], _, _, h, _ => by
    cases h with
    | cons h1 h => cases h; exact pw_and1 (PT.imp h1 fun σ H Q q => in_tand1 q)
  | e :: f :: es, _, _, h, _ => by
    cases h with
    | cons h1 h =>
      have ih := fun pos => andT (es := f :: es) (pos := pos) h (by rintro rfl; cases h)
      cases h with
      | cons h2 h =>
        have := pw_and h1 (ih ⟨0, 0, 0, 0⟩)
        exact ⟨fun wh pins s σ H Q I q => (pw_and h1 (ih _)).run wh pins s σ H Q I (in_tand q)⟩
theorem orT : ∀ {es : List T} {ps : List PySem.Expr} {pos : Pos}, PTL X ps (es.map (tT X.K P)) → ps ≠ [] → PW X (.BoolOp .Or ps pos) (tT X.K P (.or es))
  | [], _, _, h, n => by cases h; exact absurd rfl n
  | [e], _, _, h, _ => by
    cases h with
    | cons h1 h => cases h; exact pw_or1 (PT.imp h1 fun σ H Q q => in_tor1 q)
  | e :: f :: es, _, _, h, _ => by
    cases h with
    | cons h1 h =>
      have ih := fun pos => orT (es := f :: es) (pos := pos) h (by rintro rfl; cases h)
      cases h with
      | cons h2 h => exact ⟨fun wh pins s σ H Q I q => (pw_or h1 (ih _)).run wh pins s σ H Q I (in_tor q)⟩
theorem pt_ifE {c a b : PySem.Expr} {pos : Pos} {tc ta tb : TT} (hc : PT X c tc) (ha : PT X a ta) (hb : PT X b tb) : PT X (.IfExp c a b pos) (fun σ H Q => tc σ H fun k H1 => if k = true then ta σ H1 Q else tb σ H1 Q) := by
  refine ⟨fun pins s σ H Q I h => ?_⟩
  refine isTrue_IfExp (thn (hc.run pins s σ H _ I h) fun d s1 ⟨H1, I1, q1⟩ => ?_)
  cases d with
  | true => exact ha.run pins s1 σ H1 Q I1 q1
  | false => exact hb.run pins s1 σ H1 Q I1 q1
end

theorem cmpD_bl {o : CmpOp} {a b d : D} (h : cmpD o a b = some d) : ∃ b, d = .bl b := by
  unfold cmpD at h
  split at h <;> first
    | (cases h; exact ⟨_, rfl⟩)
    | (split at h <;> first | (cases h; exact ⟨_, rfl⟩) | cases h)
    | (obtain ⟨k, _, rfl⟩ := map_some h; exact ⟨_, rfl⟩)
    | cases h
theorem in_cmp2T {K : PySem.W.Frag} {P : Ctx} {o1 o2 : CmpOp} {a b e : E} {σ : L2.St} {H : Hp} {Q : Bool → Hp → Prop} (h : tT K P (.val (.cmp2 o1 o2 a b e)) σ H Q) : tTest (tChain (rCmp K o1) (rCmp K o2) (tE K P a) (tE K P b) (tE K P e)) σ H Q := by
  obtain ⟨m, Z, c, env, r, env', E, G, ev, k⟩ := h
  obtain ⟨x, h1, h2⟩ := bind_some (show ((evA P m (.cmp2 o1 o2 a b e) env).bind fun x => (x.1.get x.2).bind fun d => (d.truthy).map fun t => (t, x.2)) = some (r, env') from ev)
  obtain ⟨d, h3, h4⟩ := bind_some h2
  obtain ⟨t, h5, h6⟩ := map_some h4
  injection h6 with ha hb
  subst ha hb
  have hd : x.1 = .tmp (.bl t) := by
    obtain ⟨y, g1, g2⟩ := bind_some (show ((evA P m a env).bind fun x => (evA P (m || x.1.isPk) b x.2).bind fun y => (x.1.tmp?).bind fun dx => (y.1.tmp?).bind fun dy =>
      ((cmpD o1 dx dy).bind D.bl?).bind fun t => if t then (evA P m e y.2).bind fun z => (z.1.tmp?).bind fun dz => (cmpD o2 dy dz).map fun d => (A.tmp d, z.2) else some (.tmp (.bl false), y.2)) = some x from h1)
    obtain ⟨z, g3, g4⟩ := bind_some g2
    obtain ⟨dx, g5, g6⟩ := bind_some g4
    obtain ⟨dy, g7, g8⟩ := bind_some g6
    obtain ⟨u, g9, g10⟩ := bind_some g8
    have fin : ∀ b : Bool, x.1 = .tmp (.bl b) → x.1 = .tmp (.bl t) := by
      intro b hb
      rw [hb] at h3
      injection h3 with h3
      subst h3
      injection h5 with h5
      rw [hb, h5]
    cases u with
    | false =>
      rw [if_neg (by decide)] at g10
      injection g10 with g10
      exact fin false (by rw [← g10])
    | true =>
      rw [if_pos rfl] at g10
      obtain ⟨w, g11, g12⟩ := bind_some g10
      obtain ⟨dz, g13, g14⟩ := bind_some g12
      obtain ⟨d2, g15, g16⟩ := map_some g14
      obtain ⟨b2, rfl⟩ := cmpD_bl g15
      exact fin b2 (by rw [← g16])
  refine in_cmp2 ⟨m, Z, c, env, x.1, x.2, E, G, h1, fun v H' Z' c' ca E' q' G' F' M' => ?_⟩
  rw [hd] at q'
  obtain ⟨rfl, rfl⟩ := q'
  rw [add_zc] at G' F'
  exact ⟨t, rfl, k H' Z' c' E' G' F'⟩
theorem own_ix {N : List Str} {own : List Nat} : (own.map fun i => ((N[i]?).getD ⟨#[]⟩, i)).map (·.2) = own := by
  induction own with
  | nil => rfl
  | cons a l ih => simpa using ih
mutual
theorem snd_E {P : Ctx} {fn : List (Str × Nat)} {bl N : List Str} {X : Cx} {sc : Scope} (C : CtxOk P fn bl N X) (hs : X.env.scope = sc) : ∀ (e : E) (p : PySem.Expr), chkE fn bl N sc e p = true → PE X p (tE X.K P e)
  | .var i, p, h => by
    unfold chkE at h
    exact PE.imp (pe_varB C.hN hs h) fun σ H Q q => in_var q
  | .mv i, p, h => by
    unfold chkE at h
    exact PE.imp (pe_varB C.hN hs h) fun σ H Q q => in_mv q
  | .fz i, p, h => by
    unfold chkE at h
    exact PE.imp (pe_varB C.hN hs h) fun σ H Q q => in_fz q
  | .int n, p, h => by
    unfold chkE at h
    split at h
    · have := of_decide_eq_true h; subst this
      exact PE.imp pe_int fun σ H Q q => in_const (d := .int _) (v := .int _) (fun _ _ => ⟨rfl, rfl⟩) (fun _ _ => rfl) q
    · cases h
  | .bl n, p, h => by
    unfold chkE at h
    split at h
    · have := of_decide_eq_true h; subst this
      exact PE.imp pe_bl fun σ H Q q => in_const (d := .bl _) (v := .bl _) (fun _ _ => ⟨rfl, rfl⟩) (fun _ _ => rfl) q
    · cases h
  | .non, p, h => by
    unfold chkE at h
    split at h
    · exact PE.imp pe_non fun σ H Q q => in_const (d := .non) (fun _ _ => ⟨rfl, rfl⟩) (fun _ _ => rfl) q
    · cases h
  | .str n, p, h => by
    unfold chkE at h
    split at h
    · have := of_decide_eq_true h; subst this
      exact PE.imp pe_str fun σ H Q q => in_const (d := .str _) (v := .str _) (fun _ _ => ⟨rfl, rfl⟩) (fun _ _ => rfl) q
    · cases h
  | .op o es, p, h => by
    unfold chkE at h
    rw [Bool.and_eq_true] at h
    split at h
    · rename_i ps hps
      exact PE.imp (pe_op_of C hs o hps (snd_Es C hs es ps h.2)) fun σ H Q q => op_in (ok_op o h.1) q
    · exact absurd h.2 (by simp)
  | .sub a i, p, h => by
    unfold chkE at h
    split at h
    · rw [Bool.and_eq_true, Bool.and_eq_true] at h
      exact PE.imp (pe_ix (ix_sub C.room) (snd_E C hs a _ h.1.2) (snd_E C hs i _ h.2) (plIx_ok h.1.1)) fun σ H Q q => in_sub q
    · cases h
  | .tup es, p, h => by
    unfold chkE at h
    split at h
    · rw [Bool.and_eq_true] at h
      exact PE.imp (pe_tup (pa_of h.1 (snd_Es C hs es _ h.2))) fun σ H Q q => in_tup q
    · cases h
  | .lst es, p, h => by
    unfold chkE at h
    split at h
    · rw [Bool.and_eq_true] at h
      exact PE.imp (pe_lst (pa_of h.1 (snd_Es C hs es _ h.2))) fun σ H Q q => in_lst q
    · cases h
  | .dK es, p, h => by
    unfold chkE at h
    split at h
    · rw [Bool.and_eq_true, Bool.and_eq_true] at h
      obtain ⟨g1, g2, g3, g4⟩ := snd_KV C hs es _ _ h.2
      exact PE.imp (pe_disp (g1 _) g2 g3 (by rintro rfl; exact absurd h.1.1 (by decide)) (of_decide_eq_true h.1.2)) fun σ H Q q => in_dK g4 q
    · cases h
  | .dT, _, h => by unfold chkE at h; cases h
  | .sli a lo hi, p, h => by
    unfold chkE at h
    split at h
    · rw [Bool.and_eq_true, Bool.and_eq_true] at h
      exact PE.imp (pe_slice sl_both (snd_E C hs a _ h.1.1) (snd_O C hs lo _ h.1.2) (snd_O C hs hi _ h.2)) fun σ H Q q => in_sli q
    · cases h
  | .ite c a b, p, h => by
    unfold chkE at h
    split at h
    · rw [Bool.and_eq_true, Bool.and_eq_true] at h
      exact PE.imp (pe_ifExp (snd_T C hs c _ h.1.1) (snd_E C hs a _ h.1.2) (snd_E C hs b _ h.2)) fun σ H Q q => in_ite q
    · cases h
  | .and es, p, h => by
    unfold chkE at h
    split at h
    · rw [Bool.and_eq_true] at h
      exact andL (snd_Es C hs es _ h.1) (by rintro rfl; exact absurd h.2 (by decide))
    · cases h
  | .or es, p, h => by
    unfold chkE at h
    split at h
    · rw [Bool.and_eq_true] at h
      exact orL (snd_Es C hs es _ h.1) (by rintro rfl; exact absurd h.2 (by decide))
    · cases h
  | .not e, p, h => by
    unfold chkE at h
    split at h
    · exact PE.imp (pe_notT (snd_E C hs e _ h)) fun σ H Q q => in_not q
    · cases h
  | .cmp2 o1 o2 a b c, p, h => by
    unfold chkE at h
    split at h
    · simp only [Bool.and_eq_true, Bool.not_eq_true'] at h
      obtain ⟨⟨⟨⟨⟨e1, e2⟩, hm⟩, ha⟩, hb⟩, hc⟩ := h
      have e1 := of_decide_eq_true e1
      have e2 := of_decide_eq_true e2
      subst e1 e2
      exact PE.imp (pe_chain (op_cmp C.room _) (op_cmp C.room _) (snd_E C hs a _ ha) (snd_E C hs b _ hb) (snd_E C hs c _ hc) hm) fun σ H Q q => in_cmp2 q
    · cases h
  | .call f es, p, h => by
    unfold chkE at h
    split at h
    · rename_i x q ps pos
      simp only [Bool.and_eq_true, Bool.not_eq_true'] at h
      obtain ⟨⟨⟨⟨e1, hg⟩, hd⟩, hn⟩, he⟩ := h
      obtain ⟨fa, fd, prs, k, hpl, hm, hk, hb, hr, F⟩ := C.fns f x _ (of_decide_eq_true e1)
      have hes := snd_Es C hs es _ he
      have hd1 : (x == ("__debug__" : Str)) = false := by unfold dbgB at hd; rw [Bool.or_eq_false_iff] at hd; exact hd.1
      rw [hpl] at F
      have fin : ∀ σ H Q, tE X.K P (.call f es) σ H Q → tCall (spD X.K es.length (P.call f)) [] E0 (tL (es.map (tE X.K P))) σ H Q := fun σ H Q q => by
        have q := in_call rfl q
        unfold tCall
        simp only [List.append_nil]
        exact q
      cases ps with
      | nil =>
        refine PE.imp (pe_call0 (dvs := []) (ds := []) F hr (gl_of hs hg) hm hk hb .nil (E := E0) pass0 hd1) fun σ H Q q => ?_
        have hl := hes.length
        rw [List.length_map] at hl
        have hn0 := List.eq_nil_of_length_eq_zero (show es.length = 0 from hl.symm)
        have q := fin σ H Q q
        subst hn0
        exact q
      | cons p0 ps =>
        have hn' := hn
        rw [List.all_cons, Bool.and_eq_true] at hn'
        exact PE.imp (pe_call (dvs := []) (ds := []) F hr (gl_of hs hg) hm hk hb .nil (E := E0) pass0 (pa_of hn hes) hd1 (star_cons hn'.1) (star_any hn'.2)) fin
    · cases h
  | .pop _ _, _, h => by unfold chkE at h; cases h
  | .popAt _ _ _, _, h => by unfold chkE at h; cases h
  | .comp tg own k src ifs elt, p, h => by
    unfold chkE at h
    split at h
    · rename_i elt' tg' iter ifs' scope pos
      simp only [Bool.and_eq_true] at h
      obtain ⟨⟨⟨⟨⟨⟨⟨⟨h1, h1z⟩, h2⟩, h3⟩, h4⟩, h5⟩, h6⟩, h7⟩, h8⟩ := h
      split at h6
      · rename_i ps hps
        have hb := blkOk_by h2
        rw [← hs] at hb
        have hsc : ∀ (s : Shared) (H : Hp) (Cc : Addr) (cl : List (Str × Addr)) (fp : List Addr), (X.blk s H scope (compEnvC scope cl Cc X.env) fp).env.scope = relS scope sc := by
          intro s H Cc cl fp
          rw [← hs]; rfl
        have hifs := of_decide_eq_true h4
        refine PE.imp (pe_lc (own := own.map fun i => ((N[i]?).getD ⟨#[]⟩, i)) (wi := iSrc X.K k (src.map (tE X.K P))) (g := gT X.K tg) (tt := tIfs X.K P ifs) (te := tE X.K P elt) C.calm (by rw [C.hN]; exact C.nd) (pi_of C hs k hps (snd_Es C hs src _ h6) h1z) (by rw [C.hN]; exact hb) ?_ ?_ ?_ (notSet_ok h1)) fun σ H Q q => ?_
        · intro s H Cc cl fp
          exact pg_T (C.blk s H scope Cc cl fp) (hsc s H Cc cl fp) (fnB := fun x => scope.names.lookup x == some .cell) (fun x hx => hx) tg _ h5
        · intro s H Cc cl fp
          exact snd_Ifs (C.blk s H scope Cc cl fp) (hsc s H Cc cl fp) ifs ifs' hifs h7
        · intro s H Cc cl fp
          exact snd_E (C.blk s H scope Cc cl fp) (hsc s H Cc cl fp) elt _ h8
        · rw [own_ix]
          exact in_comp (fun i hi => by
            have := (List.all_eq_true.mp h3) i hi
            simpa using this) hifs q
      · cases h6
    · cases h
theorem snd_Es {P : Ctx} {fn : List (Str × Nat)} {bl N : List Str} {X : Cx} {sc : Scope} (C : CtxOk P fn bl N X) (hs : X.env.scope = sc) : ∀ (es : List E) (ps : List PySem.Expr), chkEs fn bl N sc es ps = true → PEs X ps (es.map (tE X.K P))
  | [], ps, h => by
    unfold chkEs at h
    cases ps with
    | nil => exact .nil
    | cons _ _ => cases h
  | e :: es, ps, h => by
    unfold chkEs at h
    cases ps with
    | nil => cases h
    | cons p ps =>
      have h : (chkE fn bl N sc e p && chkEs fn bl N sc es ps) = true := h
      rw [Bool.and_eq_true] at h
      exact .cons (snd_E C hs e p h.1) (snd_Es C hs es ps h.2)
theorem snd_KV {P : Ctx} {fn : List (Str × Nat)} {bl N : List Str} {X : Cx} {sc : Scope} (C : CtxOk P fn bl N X) (hs : X.env.scope = sc) : ∀ (es : List E) (ks : List (Option PySem.Expr)) (vs : List PySem.Expr), chkKV fn bl N sc es ks vs = true →
    (∀ pos, PPs X pos ks vs (pairTs (es.map (tE X.K P)))) ∧ ks.all (·.isSome) = true ∧ ks.length = vs.length ∧ even es = true
  | [], ks, vs, h => by
    unfold chkKV at h
    rw [Bool.and_eq_true] at h
    cases ks with
    | nil => cases vs with
      | nil => exact ⟨fun _ => pps_nil, rfl, rfl, rfl⟩
      | cons _ _ => exact absurd h.2 (by simp)
    | cons _ _ => exact absurd h.1 (by simp)
  | [_], _, _, h => by unfold chkKV at h; cases h
  | e :: f :: es, ks, vs, h => by
    unfold chkKV at h
    split at h
    · rename_i k ks' v vs'
      rw [Bool.and_eq_true, Bool.and_eq_true] at h
      obtain ⟨g1, g2, g3, g4⟩ := snd_KV C hs es ks' vs' h.2
      exact ⟨fun pos => pps_cons (snd_E C hs e k h.1.1) (snd_E C hs f v h.1.2) (g1 pos), by simp [g2], by simp [g3], g4⟩
    · cases h
theorem snd_O {P : Ctx} {fn : List (Str × Nat)} {bl N : List Str} {X : Cx} {sc : Scope} (C : CtxOk P fn bl N X) (hs : X.env.scope = sc) : ∀ (es : List E) (p : Option PySem.Expr), chkO fn bl N sc es p = true → PO X p (tI X.K P es)
  | [], p, h => by
    unfold chkO at h
    cases p with
    | none => exact po_none
    | some _ => cases h
  | e :: es, p, h => by
    unfold chkO at h
    cases p with
    | none => cases h
    | some p =>
      have h : (chkE fn bl N sc e p && es.isEmpty) = true := h
      rw [Bool.and_eq_true] at h
      cases es with
      | nil => exact po_some (snd_E C hs e p h.1)
      | cons _ _ => exact absurd h.2 (by simp)
theorem snd_T {P : Ctx} {fn : List (Str × Nat)} {bl N : List Str} {X : Cx} {sc : Scope} (C : CtxOk P fn bl N X) (hs : X.env.scope = sc) : ∀ (t : T) (p : PySem.Expr), chkT fn bl N sc t p = true → PT X p (tT X.K P t)
  | .val e, p, h => by
    unfold chkT at h
    rw [Bool.or_eq_true] at h
    rcases h with h | h
    · rw [Bool.and_eq_true] at h
      exact PT.imp (pt_truth (snd_E C hs e p h.2) (plT_ok h.1)) fun σ H Q q => in_val q
    · split at h
      · rename_i o es
        rw [Bool.and_eq_true] at h
        split at h
        · rename_i ps hps
          refine PT.imp (pt_op_of C hs o h.1 hps (snd_Es C hs es ps h.2)) fun σ H Q q => op_inT (ok_op o (by have := h.1; cases o <;> first | rfl | cases this)) (opD_bl o h.1) q
        · exact absurd h.2 (by simp)
      · rename_i o1 o2 a b c
        split at h
        · simp only [Bool.and_eq_true, Bool.not_eq_true'] at h
          obtain ⟨⟨⟨⟨⟨e1, e2⟩, hm⟩, ha⟩, hb⟩, hc⟩ := h
          have e1 := of_decide_eq_true e1
          have e2 := of_decide_eq_true e2
          subst e1 e2
          refine PT.imp (pt_chain (op_cmp C.room _) (op_cmp C.room _) (snd_E C hs a _ ha) (snd_E C hs b _ hb) (snd_E C hs c _ hc) hm) fun σ H Q q => ?_
          exact in_cmp2T q
        · cases h
      · cases h
  | .and ts, p, h => by
    unfold chkT at h
    split at h
    · rw [Bool.and_eq_true] at h
      exact (andT (snd_Ts C hs ts _ h.1) (by rintro rfl; exact absurd h.2 (by decide))).pt
    · cases h
  | .or ts, p, h => by
    unfold chkT at h
    split at h
    · rw [Bool.and_eq_true] at h
      exact (orT (snd_Ts C hs ts _ h.1) (by rintro rfl; exact absurd h.2 (by decide))).pt
    · cases h
  | .not t, p, h => by
    unfold chkT at h
    split at h
    · exact PT.imp (pt_not (snd_T C hs t _ h)) fun σ H Q q => in_tnot q
    · cases h
  | .ite c a b, p, h => by
    unfold chkT at h
    split at h
    · rw [Bool.and_eq_true, Bool.and_eq_true] at h
      exact PT.imp (pt_ifE (snd_T C hs c _ h.1.1) (snd_T C hs a _ h.1.2) (snd_T C hs b _ h.2)) fun σ H Q q => in_tite q
    · cases h
theorem snd_Ts {P : Ctx} {fn : List (Str × Nat)} {bl N : List Str} {X : Cx} {sc : Scope} (C : CtxOk P fn bl N X) (hs : X.env.scope = sc) : ∀ (ts : List T) (ps : List PySem.Expr), chkTs fn bl N sc ts ps = true → PTL X ps (ts.map (tT X.K P))
  | [], ps, h => by
    unfold chkTs at h
    cases ps with
    | nil => exact .nil
    | cons _ _ => cases h
  | t :: ts, ps, h => by
    unfold chkTs at h
    cases ps with
    | nil => cases h
    | cons p ps =>
      have h : (chkT fn bl N sc t p && chkTs fn bl N sc ts ps) = true := h
      rw [Bool.and_eq_true] at h
      exact .cons (snd_T C hs t p h.1) (snd_Ts C hs ts ps h.2)
theorem snd_Ifs {P : Ctx} {fn : List (Str × Nat)} {bl N : List Str} {X : Cx} {sc : Scope} (C : CtxOk P fn bl N X) (hs : X.env.scope = sc) : ∀ (ts : List T) (ps : List PySem.Expr), ts.length ≤ 1 → chkTs fn bl N sc ts ps = true → PTs X ps (tIfs X.K P ts)
  | [], ps, _, h => by
    unfold chkTs at h
    cases ps with
    | nil => exact pts_nil
    | cons _ _ => cases h
  | t :: ts, ps, hl, h => by
    unfold chkTs at h
    cases ps with
    | nil => cases h
    | cons p ps =>
      have h : (chkT fn bl N sc t p && chkTs fn bl N sc ts ps) = true := h
      rw [Bool.and_eq_true] at h
      cases ts with
      | cons _ _ => simp at hl
      | nil =>
        have h2 := h.2
        unfold chkTs at h2
        cases ps with
        | cons _ _ => cases h2
        | nil => exact pts_one (snd_T C hs t p h.1)
end
end DL
end

section
/-! DL17: statements: flow, stores of names. -/
namespace DL
open PySem PySem.Spec L2
open PyProof.Rows hiding St

def kont (D : Ends) : Fl → L2.St → Hp → V → Prop
  | .nx, σ, H, _ => D.nx σ H
  | .bk, σ, H, _ => D.bk σ H
  | .ct, σ, H, _ => D.ct σ H
  | .rt _, _, H, v => D.rt v H
def flDen (K : PySem.W.Frag) (Z : Addr → Prop) (H : Hp) : Fl → V → Cnt → Prop
  | .rt d, v, c => Den K Z H d v c
  | _, _, c => c = zc
def FX (fx : List Nat) (σ σ' : L2.St) : Prop := σ'.length = σ.length ∧ ∀ j ∈ fx, σ'[j]? = σ[j]?
theorem FX.refl {fx : List Nat} {σ : L2.St} : FX fx σ σ := ⟨rfl, fun _ _ => rfl⟩
theorem FX.trans {fx : List Nat} {σ σ1 σ2 : L2.St} (a : FX fx σ σ1) (b : FX fx σ1 σ2) : FX fx σ σ2 := ⟨b.1.trans a.1, fun j hj => (b.2 j hj).trans (a.2 j hj)⟩
section
variable (K : PySem.W.Frag) (P : Ctx) (fx : List Nat)
/-- what a run of statements reaches -/
def Rch (D : Ends) (σ : L2.St) (Z : Addr → Prop) (H : Hp) (c : Cnt) (fl : Fl) (env' : EnvD) : Prop :=
  ∀ v σ' H' Z' c' cr, ED K Z' H' env' σ' c' → flDen K Z' H' fl v cr → Gd Z' H' (add c' cr) → Fr false Z H c Z' H' (add c' cr) → FX fx σ σ' → kont D fl σ' H' v
def tS (s : S) : TS := fun D σ H => ∃ Z c env fl env', ED K Z H env σ c ∧ Gd Z H c ∧ evS P s env = some (fl, env') ∧ Rch K fx D σ Z H c fl env'
def tSs (s : List S) : TS := fun D σ H => ∃ Z c env fl env', ED K Z H env σ c ∧ Gd Z H c ∧ evSs P s env = some (fl, env') ∧ Rch K fx D σ Z H c fl env'
end
section
variable {K : PySem.W.Frag} {P : Ctx} {fx : List Nat} {Y : Ends} {σ : L2.St} {H : Hp} {Z : Addr → Prop} {c : Cnt} {env env' : EnvD} {fl : Fl}
theorem Rch.low {fx' : List Nat} (h : ∀ j ∈ fx', j ∈ fx) (r : Rch K fx' Y σ Z H c fl env') : Rch K fx Y σ Z H c fl env' :=
  fun v σ' H' Z' c' cr E q G F X => r v σ' H' Z' c' cr E q G F ⟨X.1, fun j hj => X.2 j (h j hj)⟩
/-- a step on: what was reached is run from -/
theorem Rch.step {σ1 : L2.St} {Z1 : Addr → Prop} {H1 : Hp} {c1 : Cnt} (r : Rch K fx Y σ Z H c fl env') (F : Fr false Z H c Z1 H1 c1) (X : FX fx σ σ1) : Rch K fx Y σ1 Z1 H1 c1 fl env' :=
  fun v σ' H' Z' c' cr E q G F' X' => r v σ' H' Z' c' cr E q G (F.trans F') (X.trans X')
theorem Rch.nx (r : Rch K fx Y σ Z H c .nx env') {σ1 : L2.St} {Z1 : Addr → Prop} {H1 : Hp} {c1 : Cnt} (E : ED K Z1 H1 env' σ1 c1) (G : Gd Z1 H1 c1) (F : Fr false Z H c Z1 H1 c1) (X : FX fx σ σ1) : Y.nx σ1 H1 :=
  r .non σ1 H1 Z1 c1 zc E rfl (by rw [add_zc]; exact G) (by rw [add_zc]; exact F) X
theorem in_nil (h : tSs K P fx [] Y σ H) : tNext Y σ H := by
  obtain ⟨Z, c, env, fl, env', E, G, ev, r⟩ := h
  have ev : some (Fl.nx, env) = some (fl, env') := ev
  injection ev with ev
  injection ev with e1 e2
  subst e1 e2
  exact r.nx E G Fr.refl FX.refl
theorem in_seq {s : S} {ss : List S} (h : tSs K P fx (s :: ss) Y σ H) : tSeq (tS K P fx s) (tSs K P fx ss) Y σ H := by
  obtain ⟨Z, c, env, fl, env', E, G, ev, r⟩ := h
  obtain ⟨x, h1, h2⟩ := bind_some (show ((evS P s env).bind fun x => match x.1 with
    | .nx => evSs P ss x.2
    | f => some (f, x.2)) = some (fl, env') from ev)
  refine ⟨Z, c, env, x.1, x.2, E, G, h1, fun v σ' H' Z' c' cr E' q' G' F' X' => ?_⟩
  cases hx : x.1 with
  | nx =>
    rw [hx] at h2 q'
    have q' : cr = zc := q'
    subst q'
    rw [add_zc] at G' F'
    exact ⟨Z', c', x.2, fl, env', E', G', h2, r.step F' X'⟩
  | bk =>
    rw [hx] at h2 q'
    have h2 : some (Fl.bk, x.2) = some (fl, env') := h2
    injection h2 with h2
    injection h2 with e1 e2
    subst e1 e2
    exact r v σ' H' Z' c' cr E' q' G' F' X'
  | ct =>
    rw [hx] at h2 q'
    have h2 : some (Fl.ct, x.2) = some (fl, env') := h2
    injection h2 with h2
    injection h2 with e1 e2
    subst e1 e2
    exact r v σ' H' Z' c' cr E' q' G' F' X'
  | rt d =>
    rw [hx] at h2 q'
    have h2 : some (Fl.rt d, x.2) = some (fl, env') := h2
    injection h2 with h2
    injection h2 with e1 e2
    subst e1 e2
    exact r v σ' H' Z' c' cr E' q' G' F' X'
theorem in_simple {s : S} {f : Fl} (hs : ∀ env, evS P s env = some (f, env)) (hf : ∀ Z H, flDen K Z H f .non zc) (h : tS K P fx s Y σ H) : kont Y f σ H .non := by
  obtain ⟨Z, c, env, fl, env', E, G, ev, r⟩ := h
  rw [hs] at ev
  injection ev with ev
  injection ev with e1 e2
  subst e1 e2
  exact r .non σ H Z c zc E (hf _ _) (by rw [add_zc]; exact G) (by rw [add_zc]; exact Fr.refl) FX.refl
/-- a value kept -/
theorem in_M {m : Bool} {e : E} {Q : VK} {d : D} (E : ED K Z H env σ c) (G : Gd Z H c) (ev : evM P m e env = some (d, env'))
    (k : ∀ v H' Z' c' cd, ED K Z' H' env' σ c' → Den K Z' H' d v cd → Gd Z' H' (add c' cd) → Fr m Z H c Z' H' (add c' cd) → Q v H') : tE K P e σ H Q := by
  obtain ⟨x, h1, h2⟩ := bind_some (show ((evA P m e env).bind fun x => mat m x.1 x.2) = some (d, env') from ev)
  refine ⟨m, Z, c, env, x.1, x.2, E, G, h1, fun v H1 Z1 c1 ca1 E1 q1 G1 F1 M1 => ?_⟩
  obtain ⟨Z2, c2, cd, E2, q2, G2, F2, le⟩ := mat_ok E1 q1 G1 h2
  exact k v H1 Z2 c2 cd E2 q2 G2 (F1.trans F2)
theorem in_ret {e : E} (h : tS K P fx (.ret e) Y σ H) : tRet (tE K P e) Y σ H := by
  obtain ⟨Z, c, env, fl, env', E, G, ev, r⟩ := h
  obtain ⟨x, h1, h2⟩ := map_some (show (evM P false e env).map (fun x => (Fl.rt x.1, x.2)) = some (fl, env') from ev)
  injection h2 with e1 e2
  subst e1 e2
  exact in_M E G h1 fun v H' Z' c' cd E' q' G' F' => r v σ H' Z' c' cd E' q' G' F' FX.refl
theorem in_ex {e : E} (h : tS K P fx (.ex e) Y σ H) : tDrop (tE K P e) Y σ H := by
  obtain ⟨Z, c, env, fl, env', E, G, ev, r⟩ := h
  obtain ⟨x, h1, h2⟩ := map_some (show (evA P false e env).map (fun x => (Fl.nx, x.2)) = some (fl, env') from ev)
  injection h2 with e1 e2
  subst e1 e2
  exact ⟨false, Z, c, env, x.1, x.2, E, G, h1, fun v H' Z' c' ca E' q' G' F' M' => r.nx E' (G'.le fun a => by simp only [add]; omega) (F'.lessR fun a => by simp only [add]; omega) FX.refl⟩
theorem in_asg {t : Tg} {e : E} (hfx : ∀ j ∈ fx, j ∉ tgS t) (h : tS K P fx (.asg t e) Y σ H) : tAsg (tE K P e) (gT K t) Y σ H := by
  obtain ⟨Z, c, env, fl, env', E, G, ev, r⟩ := h
  obtain ⟨x, h1, h2⟩ := bind_some (show ((evM P false e env).bind fun x => (bindT t x.1 x.2).map fun e' => (Fl.nx, e')) = some (fl, env') from ev)
  obtain ⟨e2, h3, h4⟩ := map_some h2
  injection h4 with e1 e2
  subst e1 e2
  refine in_M E G h1 fun v H' Z' c' cd E' q' G' F' => ?_
  refine ⟨Z', c', cd, x.1, x.2, _, E', q', h3, fun σ1 k1 E1 le1 hl1 ag1 => ?_⟩
  exact r.nx E1 (G'.le le1) (F'.lessR le1) ⟨hl1, fun j hj => ag1 j (hfx j hj)⟩
theorem in_if {t : T} {a b : List S} (h : tS K P fx (.ite t a b) Y σ H) : tIfS (tT K P t) (tSs K P fx a) (tSs K P fx b) Y σ H := by
  obtain ⟨Z, c, env, fl, env', E, G, ev, r⟩ := h
  obtain ⟨x, h1, h2⟩ := bind_some (show ((evT P false t env).bind fun x => if x.1 then evSs P a x.2 else evSs P b x.2) = some (fl, env') from ev)
  refine ⟨false, Z, c, env, x.1, x.2, E, G, h1, fun H1 Z1 c1 E1 G1 F1 => ?_⟩
  cases hx : x.1 with
  | true => rw [hx] at h2; exact ⟨Z1, c1, x.2, fl, env', E1, G1, h2, r.step F1 FX.refl⟩
  | false => rw [hx] at h2; exact ⟨Z1, c1, x.2, fl, env', E1, G1, h2, r.step F1 FX.refl⟩
/-- the names that par stores -/
theorem bind_cons {i : Nat} {is : List Nat} {ds : List D} (h : bindN (i :: is) ds env = some env') : ∃ d r, ds = d :: r ∧ i < env.length ∧ bindN is r (env.set i (some d)) = some env' := by
  cases ds with
  | nil => cases h
  | cons d r =>
    have h : (if i < env.length then bindN is r (env.set i (some d)) else none) = some env' := h
    split at h
    · rename_i hi; exact ⟨d, r, rfl, hi, h⟩
    · cases h
theorem bind_nil {ds : List D} (h : bindN [] ds env = some env') : ds = [] ∧ env' = env := by
  cases ds with
  | nil => cases h; exact ⟨rfl, rfl⟩
  | cons _ _ => cases h
theorem bind_two {i j : Nat} {ds : List D} (h : bindN [i, j] ds env = some env') : ∃ d1 d2, ds = [d1, d2] ∧ i < env.length ∧ j < env.length ∧ env' = (env.set i (some d1)).set j (some d2) := by
  obtain ⟨d1, r1, rfl, h1, h⟩ := bind_cons h
  obtain ⟨d2, r2, rfl, h2, h⟩ := bind_cons h
  obtain ⟨rfl, rfl⟩ := bind_nil h
  exact ⟨d1, d2, rfl, h1, by simpa using h2, rfl⟩
theorem in_Ms {m : Bool} {es : List E} {Q : List V → Hp → Prop} {ds : List D} (E : ED K Z H env σ c) (G : Gd Z H c) (ev : evMs P m es env = some (ds, env'))
    (k : ∀ vs H' Z' c' cd, ED K Z' H' env' σ c' → Dens K Z' H' ds vs cd → Gd Z' H' (add c' cd) → Fr m Z H c Z' H' (add c' cd) → Q vs H') : tL (es.map (tE K P)) σ H Q :=
  seqM ⟨m, Z, c, env, ds, env', E, G, ev, fun vs H1 Z1 c1 ca1 E1 q1 G1 F1 M1 => k vs H1 Z1 c1 ca1 E1 q1 G1 F1⟩
theorem in_par2 {i j : Nat} {es : List E} (hij : i ≠ j) (hfx : ∀ l ∈ fx, l ≠ i ∧ l ≠ j) (h : tS K P fx (.par [i, j] es) Y σ H) : tPar i j (tL (es.map (tE K P))) Y σ H := by
  obtain ⟨Z, c, env, fl, env', E, G, ev, r⟩ := h
  obtain ⟨x, h1, h2⟩ := bind_some (show ((evMs P false es env).bind fun x => (bindN [i, j] x.1 x.2).map fun e' => (Fl.nx, e')) = some (fl, env') from ev)
  obtain ⟨e2, h3, h4⟩ := map_some h2
  injection h4 with e1 e2
  subst e1 e2
  obtain ⟨d1, d2, hd, hi, hj, rfl⟩ := bind_two h3
  refine in_Ms E G h1 fun vs H1 Z1 c1 cd E1 q1 G1 F1 => ?_
  rw [hd] at q1
  obtain ⟨v, r1, k1, k2, rfl, p1, ⟨w, r2, k3, k4, rfl, p2, ⟨rfl, rfl⟩, rfl⟩, rfl⟩ := q1
  obtain ⟨c2, c3, E2, rfl⟩ := E1.drop i
  have E3 := ED.put (v := v) E2 hi p1
  obtain ⟨c4, c5, E4, e4⟩ := E3.drop j
  have E5 := ED.put (v := w) E4 (by simpa using hj) p2
  have le : ∀ a, (add k3 c4) a ≤ add (add c3 c2) (add k1 (add k3 zc)) a := fun a => by have := congrFun e4 a; simp only [add, zc] at *; omega
  refine ⟨v, w, rfl, r.nx E5 (G1.le le) (F1.lessR le) ⟨by simp, fun l hl => ?_⟩⟩
  have := hfx l hl
  rw [List.getElem?_set_ne (fun e => this.2 e.symm), List.getElem?_set_ne (fun e => this.1 e.symm)]

/-! ### while -/
def whileN (c : EnvD → Option (Bool × EnvD)) (b : EnvD → Option (Fl × EnvD)) : Nat → EnvD → Option (Fl × EnvD)
  | 0, _ => none
  | n + 1, env => match c env with
    | none => none
    | some (false, e) => some (.nx, e)
    | some (true, e) => match b e with
      | none => none
      | some (.nx, e') => whileN c b n e'
      | some (.ct, e') => whileN c b n e'
      | some (.bk, e') => some (.nx, e')
      | some (.rt d, e') => some (.rt d, e')
theorem whileF_N {c : EnvD → Option (Bool × EnvD)} {b : EnvD → Option (Fl × EnvD)} {env : EnvD} {r : Fl × EnvD} (h : whileF c b env = some r) : ∃ n, whileN c b n env = some r := by
  refine whileF.partial_correctness c b (fun env r => ∃ n, whileN c b n env = some r) ?_ env r h
  intro w ih env r h
  split at h
  · cases h
  · rename_i e he
    exact ⟨1, by unfold whileN; rw [he]; exact h⟩
  · rename_i e he
    split at h
    · cases h
    · rename_i e' hb
      obtain ⟨n, hn⟩ := ih _ _ h
      exact ⟨n + 1, by unfold whileN; rw [he]; simp only [hb]; exact hn⟩
    · rename_i e' hb
      obtain ⟨n, hn⟩ := ih _ _ h
      exact ⟨n + 1, by unfold whileN; rw [he]; simp only [hb]; exact hn⟩
    · rename_i e' hb
      exact ⟨1, by unfold whileN; rw [he]; simp only [hb]; exact h⟩
    · rename_i d e' hb
      exact ⟨1, by unfold whileN; rw [he]; simp only [hb]; exact h⟩
theorem in_while {t : T} {b : List S} (h : tS K P fx (.whl t b) Y σ H) : tWhile (tT K P t) (tSs K P fx b) Y σ H := by
  obtain ⟨Z, c, env, fl, env', E, G, ev, r⟩ := h
  obtain ⟨n, hn⟩ := whileF_N (show whileF (evT P false t) (evSs P b) env = some (fl, env') from ev)
  refine ⟨fun m σ1 H1 => ∃ Z1 c1 env1, ED K Z1 H1 env1 σ1 c1 ∧ Gd Z1 H1 c1 ∧ whileN (evT P false t) (evSs P b) m env1 = some (fl, env') ∧ Rch K fx Y σ1 Z1 H1 c1 fl env', ⟨n, Z, c, env, E, G, hn, r⟩, fun m σ1 H1 ⟨Z1, c1, env1, E1, G1, h1, r1⟩ => ?_⟩
  cases m with
  | zero => cases h1
  | succ m =>
    unfold whileN at h1
    cases hc : evT P false t env1 with
    | none => rw [hc] at h1; cases h1
    | some x =>
      obtain ⟨x, e⟩ := x
      rw [hc] at h1
      refine ⟨false, Z1, c1, env1, x, e, E1, G1, hc, fun H2 Z2 c2 E2 G2 F2 => ?_⟩
      have r2 := r1.step F2 FX.refl
      cases x with
      | false =>
        have h1 : some (Fl.nx, e) = some (fl, env') := h1
        injection h1 with h1
        injection h1 with e1 e2
        subst e1 e2
        show ite _ _ _
        rw [if_neg (by decide)]
        exact r2.nx E2 G2 Fr.refl FX.refl
      | true =>
        show ite _ _ _
        rw [if_pos rfl]
        refine ⟨fun σ' H' => ∃ Z1 c1 env1, ED K Z1 H' env1 σ' c1 ∧ Gd Z1 H' c1 ∧ whileN (evT P false t) (evSs P b) m env1 = some (fl, env') ∧ Rch K fx Y σ' Z1 H' c1 fl env', fun σ' H' w => ⟨m, Nat.lt_succ_self m, w⟩, ?_⟩
        cases hb : evSs P b e with
        | none => simp only [hb] at h1; cases h1
        | some y =>
          obtain ⟨f, e'⟩ := y
          simp only [hb] at h1
          refine ⟨Z2, c2, e, f, e', E2, G2, hb, fun v σ' H' Z' c' cr E' q' G' F' X' => ?_⟩
          have r3 := r2.step F' X'
          cases f with
          | nx =>
            have q' : cr = zc := q'
            subst q'
            rw [add_zc] at G' F' r3
            exact ⟨Z', c', e', E', G', h1, r3⟩
          | ct =>
            have q' : cr = zc := q'
            subst q'
            rw [add_zc] at G' F' r3
            exact ⟨Z', c', e', E', G', h1, r3⟩
          | bk =>
            have h1 : some (Fl.nx, e') = some (fl, env') := h1
            injection h1 with h1
            injection h1 with e1 e2
            subst e1 e2
            have q' : cr = zc := q'
            subst q'
            rw [add_zc] at G' F' r3
            exact r3.nx E' G' Fr.refl FX.refl
          | rt d =>
            have h1 : some (Fl.rt d, e') = some (fl, env') := h1
            injection h1 with h1
            injection h1 with e1 e2
            subst e1 e2
            exact r3 v σ' H' Z' c' cr E' q' G' Fr.refl FX.refl
end
end DL
end

section
/-! DL18: for. -/
namespace DL
open PySem PySem.Spec L2
open PyProof.Rows hiding St

section
variable {K : PySem.W.Frag} {P : Ctx} {fx : List Nat} {Y : Ends} {σ : L2.St} {H : Hp} {Z : Addr → Prop} {c : Cnt} {env env' : EnvD} {fl : Fl}
/-- what a for walks stands firm -/
structure ForOk (K : PySem.W.Frag) (s : Src) (σ : L2.St) (Z1 Z2 : Addr → Prop) (H1 : Hp) (c1 ca1 cS ex : Cnt) (J : It) (St : Hp → Prop) : Prop where
  go : ∀ i H, St H → i < s.its.length → J.go i H
  yld : ∀ i Z H x H', (∀ a, Z2 a → Z a) → (∀ a o, H1 a = some o → (isMut o = false ∨ Z2 a) → H a = some o) → St H → i < s.its.length → J.yld i H x H' → (H' = H ∨ ∃ T xs, H T = none ∧ H' = upd H T (.tup xs)) ∧ ∃ d, s.its[i]? = some d ∧ Den K Z H' d x zc
  stop : ∀ i H, St H → s.its.length ≤ i → J.stop i H
  E : ED K Z2 H1 s.env σ cS
  G : Gd Z2 H1 (add cS ex)
  F : Fr false Z1 H1 (add c1 ca1) Z2 H1 (add cS ex)
  st : ∀ H', (∀ a o, H1 a = some o → (isMut o = false ∨ Z2 a ∨ ex a ≠ 0) → H' a = some o) → St H'
  un : ∀ (Z' : Addr → Prop) H' env' σ' c', (∀ a, Z2 a → Z' a) → (∀ a o, H1 a = some o → (isMut o = false ∨ Z2 a ∨ ex a ≠ 0) → H' a = some o) → ED K Z' H' env' σ' c' → (∀ i d, s.lent = some (i, d) → σ'[i]? = σ[i]?) →
    ∃ c'', ED K Z' H' (unlend s.lent env') σ' c'' ∧ ∀ a, c'' a ≤ c' a + ex a
theorem walks_yld {J : It} {xs : List V} {St : Hp → Prop} {its : List D} {Z2 : Addr → Prop} {H1 : Hp} (w : Walks J xs St) (q : Dens K Z2 H1 its xs zc) : ∀ i (Z : Addr → Prop) H x H', (∀ a, Z2 a → Z a) → (∀ a o, H1 a = some o → (isMut o = false ∨ Z2 a) → H a = some o) → St H → i < its.length → J.yld i H x H' → (H' = H ∨ ∃ T xs, H T = none ∧ H' = upd H T (.tup xs)) ∧ ∃ d, its[i]? = some d ∧ Den K Z H' d x zc := by
  intro i Z H x H' hz hk st hi y
  obtain ⟨rfl, hx⟩ := w.yld i H x H' st (by rw [q.length]; exact hi) y
  obtain ⟨d, k1, k2, hd, qd, ek⟩ := Dens.getV q hx
  have ek1 : k1 = zc := by funext a; have := congrFun ek a; simp only [add, zc] at *; omega
  subst ek1
  exact ⟨.inl rfl, d, hd, Den.loc hz (fun a o h x => hk a o h (x.elim .inl fun x => x.elim .inr fun x => absurd rfl x)) qd⟩
theorem for_ok {k : SrcK} {as : List A} {env1 : EnvD} {s : Src} {vs : List V} {σ : L2.St} {Z1 : Addr → Prop} {H1 : Hp} {c1 ca1 : Cnt} (E : ED K Z1 H1 env1 σ c1) (q : ADs K Z1 H1 σ as vs ca1) (G : Gd Z1 H1 (add c1 ca1)) (h : forC k as env1 = some s)
    {n : Nat} (hn : n = as.length) {R : It → Hp → Prop} (r : ∀ J St Z2 cS ex, ForOk K s σ Z1 Z2 H1 c1 ca1 cS ex J St → R J H1) : jSrc K k n vs H1 R := by
  have hvl := q.length
  subst hn
  cases k with
  | rng =>
    obtain ⟨its, h1, rfl⟩ := map_some (show ((A.gets env1 as).bind rngItems).map (fun its => (⟨its, false, env1, none⟩ : Src)) = some s from h)
    obtain ⟨ds, h2, h3⟩ := bind_some h1
    obtain ⟨lo, hi, e, x⟩ := rng_int (ADs.look E q h2) h3
    have so := src_rng (K := K) (m := false) (ca1 := ca1) E e
    have fo : ForOk K ⟨its, false, env1, none⟩ σ Z1 Z1 H1 c1 ca1 c1 ca1 (Itr lo (hi - lo).toNat) (fun _ => True) :=
      ⟨fun i H st hi => so.w.go i H st (by rw [so.q.length]; exact hi), walks_yld so.w so.q, fun i H st hi => so.w.stop i H st (by rw [so.q.length]; exact hi), E, G, Fr.refl, fun _ _ => trivial, fun Z' H' env' σ' c' _ _ E' _ => ⟨c', E', fun a => by omega⟩⟩
    rcases x with ⟨hl, x⟩ | ⟨hl, x⟩
    · rw [← hvl, hl]; exact x R (r _ _ _ _ _ fo)
    · rw [← hvl, hl]; exact x R (r _ _ _ _ _ fo)
  | it lend =>
    obtain ⟨a, h1, h2⟩ := bind_some (show ((A.one? as).bind fun a => (a.get env1).bind fun d => (d.items).bind fun its => forI lend a env1 d its) = some s from h)
    obtain ⟨d, h3, h4⟩ := bind_some h2
    obtain ⟨its, h5, h6⟩ := bind_some h4
    unfold A.one? at h1
    split at h1
    · cases h1
      obtain ⟨v, r', k1, k2, rfl, q1, q2, rfl⟩ := q
      obtain ⟨rfl, rfl⟩ := q2
      rw [add_zc] at r G
      have fin : ∀ {p : Addr} {xs : List V} {Z2 : Addr → Prop} {cS ex : Cnt}, v = .ref p → ((H1 p = some (.lst xs) ∧ (Z2 p ∨ ex p ≠ 0)) ∨ SqT K H1 p xs) → ED K Z2 H1 s.env σ cS → Gd Z2 H1 (add cS ex) → Fr false Z1 H1 (add c1 k1) Z2 H1 (add cS ex) → Dens K Z2 H1 s.its xs zc →
          (∀ (Z' : Addr → Prop) H' env' σ' c', (∀ a, Z2 a → Z' a) → (∀ a o, H1 a = some o → (isMut o = false ∨ Z2 a ∨ ex a ≠ 0) → H' a = some o) → ED K Z' H' env' σ' c' → (∀ i d, s.lent = some (i, d) → σ'[i]? = σ[i]?) →
            ∃ c'', ED K Z' H' (unlend s.lent env') σ' c'' ∧ ∀ a, c'' a ≤ c' a + ex a) → jSrc K (.it lend) 1 [v] H1 R := by
        intro p xs Z2 cS ex hv hh E2 G2 F2 q2 un
        refine ⟨p, by rw [hv], ?_⟩
        rcases hh with ⟨hh, hz⟩ | hh
        · exact .inl ⟨⟨xs, SqL.of hh⟩, r _ _ _ _ _ ⟨fun i H st hi => (walks_list _ _ _).go i H st (by rw [q2.length]; exact hi), walks_yld (walks_list _ _ _) q2, fun i H st hi => (walks_list _ _ _).stop i H st (by rw [q2.length]; exact hi), E2, G2, F2, fun H' k => k p _ hh (hz.elim (fun z => .inr (.inl z)) fun z => .inr (.inr z)), un⟩⟩
        · exact .inr ⟨⟨xs, hh⟩, r _ _ _ _ _ ⟨fun i H st hi => (walks_tup _ _ _).go i H st (by rw [q2.length]; exact hi), walks_yld (walks_tup _ _ _) q2, fun i H st hi => (walks_tup _ _ _).stop i H st (by rw [q2.length]; exact hi), E2, G2, F2, fun H' k => SqT.loc (fun a o h x => k a o h (.inl x)) hh, un⟩⟩
      cases a with
      | pk d' => cases h6
      | tmp d' =>
        cases h3
        have h6 : (if D.plains its then some (⟨its, false, env1, none⟩ : Src) else none) = some s := h6
        split at h6
        · rename_i hp
          cases h6
          obtain ⟨p, xs, c', hv, hh, qi, le⟩ := items_den q1 h5
          have := Dens.pl hp qi
          subst this
          exact fin hv hh E G Fr.refl qi fun Z' H' env' σ' c' _ _ E' _ => ⟨c', E', fun a => by omega⟩
        · cases h6
      | ref i =>
        obtain ⟨hv, rfl⟩ := q1
        have hg := getE_some (show getE env1 i = some d from h3)
        obtain ⟨w, k3, k4, e1, q1, E2, rfl⟩ := E.take hg
        rw [hv] at e1; cases e1
        obtain ⟨p, xs, c', hv', hh, qi, le⟩ := items_den q1 h5
        rw [add_zc] at G fin
        have h6 : (if lend then (if D.plains its then some (⟨its, false, env1.set i none, some (i, d)⟩ : Src) else none) else some ⟨D.freezes its, false, env1.set i (some d.freeze), none⟩) = some s := h6
        split at h6
        · split at h6
          · rename_i hp
            cases h6
            have := Dens.pl hp qi
            subst this
            have ee : add k3 k4 = add k4 k3 := add_comm _ _
            rw [ee] at G fin
            refine fin hv' hh E2 G Fr.refl qi fun Z' H' env' σ' c' hz hk E' hl => ?_
            obtain ⟨k5, k6, E3, rfl⟩ := E'.drop i
            have hs := hl i d rfl
            rw [hv] at hs
            have E4 := ED.put E3 (E'.at_len hs) (Den.loc hz hk q1)
            rw [set_self hs] at E4
            exact ⟨_, E4, fun a => by simp only [add]; omega⟩
          · cases h6
        · cases h6
          have gd : ∀ a, k3 a ≠ 0 → MutA H1 a := fun a x => (G a).2.1 (by simp only [add]; omega)
          have E3 := ED.put (i := i) (ED.loc (Z' := fun a => Z1 a ∨ k3 a ≠ 0) (H' := H1) (fun _ => .inl) (fun _ _ h _ => h) E2) (List.getElem?_eq_some_iff.mp hg).1 (Den.frz (W := fun a => Z1 a ∨ k3 a ≠ 0) (fun _ => .inl) (fun _ => .inr) q1)
          rw [zc_add, set_self hv] at E3
          refine fin (Z2 := fun a => Z1 a ∨ k3 a ≠ 0) (cS := k4) (ex := zc) hv' (hh.elim (fun ⟨x, y⟩ => .inl ⟨x, .inl y⟩) .inr) E3 ?_ ?_ (Dens.frz (fun _ => .inl) (fun a x => .inr (by have := le a; omega)) qi) fun Z' H' env' σ' c' _ _ E' _ => ⟨c', E', fun a => by omega⟩
          · intro a
            obtain ⟨g1, g2, g3⟩ := G a
            simp only [add, zc] at *
            refine ⟨by omega, fun x => g2 (by omega), fun z => ?_⟩
            rcases z with z | z
            · exact ⟨by have := (g3 z).1; omega, (g3 z).2⟩
            · exact ⟨by omega, (gd a z).ne⟩
          · intro a
            simp only [add, zc]
            exact ⟨.inl, fun n => n, fun _ _ => trivial, fun n x => ⟨by omega, fun z => z.elim id fun y => absurd (by omega) y⟩⟩
    · cases h1
  | zip =>
    obtain ⟨its, h1, rfl⟩ := map_some (show ((A.gets env1 as).bind zipItems).map (fun its => (⟨its, false, env1, none⟩ : Src)) = some s from h)
    obtain ⟨ds, h2, h3⟩ := bind_some h1
    have B := ADs.look E q h2
    unfold zipItems at h3
    split at h3
    · rename_i xs ys
      split at h3
      · rename_i hp
        cases h3
        rw [Bool.and_eq_true] at hp
        obtain ⟨v, r1, k1, rfl, q1, u, r2, k2, rfl, q2, e⟩ := B
        have e : r2 = [] := e
        subst e
        obtain ⟨a, vs1, rfl, s1, q1⟩ := q1
        obtain ⟨b, vs2, rfl, s2, q2⟩ := q2
        have := Dens.pl hp.1 q1
        subst this
        have := Dens.pl hp.2 q2
        subst this
        have hl : as.length = 2 := by rw [← hvl]; rfl
        rw [hl]
        have ln : ((xs.zip ys).map fun p : D × D => D.tup [p.1, p.2]).length = min vs1.length vs2.length := by rw [List.length_map, List.length_zip, q1.length, q2.length]
        refine ⟨a, b, vs1, vs2, rfl, .inr ⟨s1, s2, r _ (fun H => SqT K H a vs1 ∧ SqT K H b vs2) Z1 c1 ca1 ⟨fun i H st hi => ?_, fun i Z H x H' hz hk st hi y => ?_, fun i H st hi => ?_, E, G, Fr.refl, fun H' k => ⟨SqT.loc (fun a o h x => k a o h (.inl x)) s1, SqT.loc (fun a o h x => k a o h (.inl x)) s2⟩, fun Z' H' env' σ' c' _ _ E' _ => ⟨c', E', fun a => by omega⟩⟩⟩⟩
        · have hi : i < min vs1.length vs2.length := by rw [← ln]; exact hi
          exact ⟨vs1, vs2, vs1[i]'(by omega), vs2[i]'(by omega), st.1, st.2, List.getElem?_eq_getElem (by omega), List.getElem?_eq_getElem (by omega)⟩
        · have hi : i < min vs1.length vs2.length := by rw [← ln]; exact hi
          obtain ⟨Tt, x1, x2, rfl, hn, rfl, f1, f2⟩ := y
          have g1 := f1 vs1 st.1
          have g2 := f2 vs2 st.2
          obtain ⟨d1, k1, k1', hd1, p1, e1⟩ := Dens.getV q1 g1
          obtain ⟨d2, k2, k2', hd2, p2, e2⟩ := Dens.getV q2 g2
          have ek1 : k1 = zc := by funext a; have := congrFun e1 a; simp only [add, zc] at *; omega
          have ek2 : k2 = zc := by funext a; have := congrFun e2 a; simp only [add, zc] at *; omega
          subst ek1 ek2
          have lc : ∀ a o, H1 a = some o → (isMut o = false ∨ Z1 a ∨ zc a ≠ 0) → upd H Tt (.tup [x1, x2]) a = some o := fun a o h x => keep_new hn a o (hk a o h (x.elim .inl fun x => x.elim .inr fun x => absurd rfl x))
          refine ⟨.inr ⟨Tt, _, hn, rfl⟩, .tup [d1, d2], ?_, Tt, [x1, x2], rfl, .inl (.inl upd_same), x1, [x2], zc, zc, rfl, Den.loc hz lc p1, ⟨x2, [], zc, zc, rfl, Den.loc hz lc p2, ⟨rfl, rfl⟩, (add_zc _).symm⟩, (add_zc _).symm⟩
          rw [List.getElem?_map, show (xs.zip ys)[i]? = some (d1, d2) from List.getElem?_zip_eq_some.mpr ⟨hd1, hd2⟩]
          rfl
        · have hi : min vs1.length vs2.length ≤ i := by rw [← ln]; exact hi
          exact ⟨vs1, vs2, st.1, st.2, by omega⟩
      · cases h3
    · cases h3

/-- the slots that the walk holds on to -/
def lentFx : SrcK → List E → List Nat
  | .it true, [.var i] => [i]
  | _, _ => []
def lentOk : SrcK → List E → Bool
  | .it true, [.var _] => true
  | .it true, _ => false
  | _, _ => true
theorem lentOk_var {src : List E} (h : lentOk (.it true) src = true) : ∃ i, src = [.var i] := by
  rcases src with _ | ⟨e, _ | ⟨f, r⟩⟩
  · cases h
  · cases e <;> first | exact ⟨_, rfl⟩ | cases h
  · cases e <;> cases h
theorem lent_at {k : SrcK} {src : List E} {as : List A} {env1 : EnvD} {s : Src} (hk : lentOk k src = true) (h1 : evAs P false src env = some (as, env1)) (h2 : forC k as env1 = some s) : ∀ i d, s.lent = some (i, d) → i ∈ lentFx k src := by
  intro i d hl
  cases k with
  | rng =>
    obtain ⟨its, _, rfl⟩ := map_some (show ((A.gets env1 as).bind rngItems).map (fun its => (⟨its, false, env1, none⟩ : Src)) = some s from h2)
    cases hl
  | zip =>
    obtain ⟨its, _, rfl⟩ := map_some (show ((A.gets env1 as).bind zipItems).map (fun its => (⟨its, false, env1, none⟩ : Src)) = some s from h2)
    cases hl
  | it lend =>
    obtain ⟨a, g1, g2⟩ := bind_some (show ((A.one? as).bind fun a => (a.get env1).bind fun d => (d.items).bind fun its => forI lend a env1 d its) = some s from h2)
    obtain ⟨d', g3, g4⟩ := bind_some g2
    obtain ⟨its, g5, g6⟩ := bind_some g4
    cases a with
    | pk _ => cases g6
    | tmp _ =>
      have g6 : (if D.plains its then some (⟨its, false, env1, none⟩ : Src) else none) = some s := g6
      split at g6
      · cases g6; cases hl
      · cases g6
    | ref j =>
      have g6 : (if lend then (if D.plains its then some (⟨its, false, env1.set j none, some (j, d')⟩ : Src) else none) else some ⟨D.freezes its, false, env1.set j (some d'.freeze), none⟩) = some s := g6
      cases lend with
      | false => rw [if_neg (by decide)] at g6; cases g6; cases hl
      | true =>
        rw [if_pos rfl] at g6
        split at g6
        · cases g6
          cases hl
          obtain ⟨i', rfl⟩ := lentOk_var hk
          obtain ⟨x, m1, m2⟩ := bind_some (show ((evA P false (.var i') env).bind fun x => (evAs P (false || x.1.isPk) [] x.2).map fun y => (x.1 :: y.1, y.2)) = some (as, env1) from h1)
          obtain ⟨y, m3, m4⟩ := map_some m2
          injection m4 with m5 m6
          have m3 : some (([] : List A), x.2) = some y := m3
          injection m3 with m3
          subst m3
          obtain ⟨dd, m7, m8⟩ := map_some (show (getE env i').map (fun d => (if d.plain then A.tmp d else .ref i', env)) = some x from m1)
          subst m8
          subst m5
          have g1 : some (if dd.plain then A.tmp dd else .ref i') = some (A.ref i) := g1
          injection g1 with g1
          split at g1
          · cases g1
          · cases g1; exact List.mem_singleton.mpr rfl
        · cases g6

theorem in_for {tg : Tg} {k : SrcK} {src : List E} {b : List S} (hk : lentOk k src = true) (hfx : ∀ j ∈ tgS tg, j ∉ lentFx k src ++ fx) (h : tS K P fx (.for_ tg k src b) Y σ H) :
    tFor (iSrc K k (src.map (tE K P))) (gT K tg) (tSs K P (lentFx k src ++ fx) b) Y σ H := by
  obtain ⟨Z, c, env, fl, env', E, G, ev, r⟩ := h
  obtain ⟨x, h1, h2⟩ := bind_some (show ((evAs P false src env).bind fun x => (forC k x.1 x.2).bind fun s => (loopF (fun d e => (bindT tg d e).bind (evSs P b)) s.its s.env).map fun r => (r.1, unlend s.lent r.2)) = some (fl, env') from ev)
  obtain ⟨s, h3, h4⟩ := bind_some h2
  obtain ⟨y, h5, h6⟩ := map_some h4
  injection h6 with e1 e2
  subst e1 e2
  have hlent := lent_at hk h1 h3
  generalize hfx' : lentFx k src ++ fx = fx' at *
  have sub : ∀ j ∈ fx, j ∈ fx' := fun j hj => by rw [← hfx']; exact List.mem_append_right _ hj
  refine seqL ⟨false, Z, c, env, x.1, x.2, E, G, h1, fun vs H1 Z1 c1 ca1 E1 q1 G1 F1 M1 => ?_⟩
  refine for_ok E1 q1 G1 h3 (by rw [evAs_len h1, List.length_map]) fun J St Z2 cS ex fo => ?_
  have F12 := F1.trans fo.F
  -- the end
  have fin : ∀ (fl : Fl) (e' : EnvD), fl = y.1 → e' = y.2 → ∀ v σ' H' Z' c' cr, ED K Z' H' e' σ' c' → flDen K Z' H' fl v cr → Gd Z' H' (add (add c' cr) ex) → Fr false Z2 H1 cS Z' H' (add c' cr) → FX fx' σ σ' → kont Y fl σ' H' v := by
    intro fl e' hfl he v σ' H' Z' c' cr E' q' G' F' X'
    subst hfl he
    obtain ⟨c2, E2, le⟩ := fo.un Z' H' y.2 σ' c' F'.zz (F'.keep fo.G) E' fun i d hl => X'.2 i (by rw [← hfx']; exact List.mem_append_left _ (hlent i d hl))
    obtain ⟨_, F3⟩ := F'.ext fo.G (G'.le fun a => by simp only [add]; omega)
    exact r v σ' H' Z' c2 cr E2 q' (G'.le fun a => by have := le a; simp only [add]; omega) ((F12.trans F3).lessR fun a => by have := le a; simp only [add]; omega) ⟨X'.1, fun j hj => X'.2 j (sub j hj)⟩
  refine ⟨fun i kk σ' H' => kk = s.its.length - i ∧ i ≤ s.its.length ∧ ∃ Z c env, ED K Z H' env σ' c ∧ Gd Z H' (add c ex) ∧ Fr false Z2 H1 cS Z H' c ∧ FX fx' σ σ' ∧ loopF (fun d e => (bindT tg d e).bind (evSs P b)) (s.its.drop i) env = some y,
    ⟨s.its.length, by omega, by omega, Z2, cS, s.env, fo.E, fo.G, Fr.refl, FX.refl, h5⟩, fun i kk σ' H' ⟨hkk, hi, Z, c, env, E, G, F, X, ev⟩ => ?_⟩
  have kp := F.keep fo.G
  have st : St H' := fo.st H' fun a o h x => kp a o h x
  by_cases hlt : i < s.its.length
  · refine .inr ⟨fo.go i H' st hlt, fun σ'' H'' => s.its.length - (i + 1) = s.its.length - (i + 1) ∧ i + 1 ≤ s.its.length ∧ ∃ Z c env, ED K Z H'' env σ'' c ∧ Gd Z H'' (add c ex) ∧ Fr false Z2 H1 cS Z H'' c ∧ FX fx' σ σ'' ∧ loopF (fun d e => (bindT tg d e).bind (evSs P b)) (s.its.drop (i + 1)) env = some y,
      fun σ'' H'' n => ⟨s.its.length - (i + 1), by omega, n⟩, fun x H'' yy => ?_⟩
    obtain ⟨hH, d, hd, qd⟩ := fo.yld i Z H' x H'' F.zz (fun a o h x => kp a o h (x.elim .inl fun x => .inr (.inl x))) st hlt yy
    have E : ED K Z H'' env σ' c := by
      rcases hH with rfl | ⟨T, xs, hn, rfl⟩
      · exact E
      · exact ED.loc (fun _ z => z) (fun a u h _ => keep_new hn a u h) E
    have G : Gd Z H'' (add c ex) := by
      rcases hH with rfl | ⟨T, xs, hn, rfl⟩
      · exact G
      · exact G.newT hn
    have F : Fr false Z2 H1 cS Z H'' c := by
      rcases hH with rfl | ⟨T, xs, hn, rfl⟩
      · exact F
      · exact F.trans (Fr.newT hn)
    obtain ⟨hil, hdi⟩ := List.getElem?_eq_some_iff.mp hd
    have edrop : s.its.drop i = d :: s.its.drop (i + 1) := by rw [List.drop_eq_getElem_cons hil, hdi]
    rw [edrop] at ev
    obtain ⟨p, s1, s2⟩ := bind_some (show (((bindT tg d env).bind (evSs P b)).bind fun p => match p.1 with
      | .nx => loopF (fun d e => (bindT tg d e).bind (evSs P b)) (s.its.drop (i + 1)) p.2
      | .ct => loopF (fun d e => (bindT tg d e).bind (evSs P b)) (s.its.drop (i + 1)) p.2
      | .bk => some (.nx, p.2)
      | .rt d => some (.rt d, p.2)) = some y from ev)
    obtain ⟨e1, b1, b2⟩ := bind_some s1
    refine ⟨Z, c, zc, d, env, e1, E, qd, b1, fun σ2 c2 E2 le2 hl2 ag2 => ?_⟩
    have le2 : ∀ a, c2 a ≤ c a := fun a => by have := le2 a; simp only [zc] at this; omega
    have X2 : FX fx' σ σ2 := X.trans ⟨hl2, fun j hj => ag2 j fun h => hfx j h hj⟩
    have G2 : Gd Z H'' (add c2 ex) := G.le fun a => by have := le2 a; simp only [add]; omega
    refine ⟨Z, c2, e1, p.1, p.2, E2, G2.le (fun a => by simp only [add]; omega), b2, fun v σ3 H3 Z3 c3 cr E3 q3 G3 F3 X3 => ?_⟩
    obtain ⟨Ga, Fa⟩ := F3.ext G2 G3
    have F4 : Fr false Z2 H1 cS Z3 H3 (add c3 cr) := F.trans (F3.lessL le2)
    have X4 := X2.trans X3
    cases hp : p.1 with
    | nx =>
      rw [hp] at s2 q3
      have q3 : cr = zc := q3
      subst q3
      rw [add_zc] at Ga F4
      exact ⟨rfl, hlt, Z3, c3, p.2, E3, Ga, F4, X4, s2⟩
    | ct =>
      rw [hp] at s2 q3
      have q3 : cr = zc := q3
      subst q3
      rw [add_zc] at Ga F4
      exact ⟨rfl, hlt, Z3, c3, p.2, E3, Ga, F4, X4, s2⟩
    | bk =>
      rw [hp] at s2 q3
      have q3 : cr = zc := q3
      have s2 : some (Fl.nx, p.2) = some y := s2
      injection s2 with s2
      exact fin .nx p.2 (by rw [← s2]) (by rw [← s2]) v σ3 H3 Z3 c3 cr E3 q3 Ga F4 X4
    | rt dd =>
      rw [hp] at s2 q3
      have s2 : some (Fl.rt dd, p.2) = some y := s2
      injection s2 with s2
      exact fin (.rt dd) p.2 (by rw [← s2]) (by rw [← s2]) v σ3 H3 Z3 c3 cr E3 q3 Ga F4 X4
  · refine .inl ⟨fo.stop i H' st (by omega), ?_⟩
    rw [List.drop_eq_nil_of_le (by omega)] at ev
    have ev : some (Fl.nx, env) = some y := ev
    injection ev with ev
    exact fin .nx env (by rw [← ev]) (by rw [← ev]) .non σ' H' Z c zc E rfl (by rw [add_zc]; exact G) (by rw [add_zc]; exact F) X
end
end DL
end

section
/-! DL19: updates of a name's own list or dict. -/
namespace DL
open PySem PySem.Spec L2
open PyProof.Rows hiding St

theorem PSet.or {X : Cx} {r r' : TSet} (h : PSet X r) (h' : PSet X r') : PSet X (fun o i v H Q => r o i v H Q ∨ r' o i v H Q) := by
  intro pins s σ H o i v ov iv u Q I ro ri rv q
  rcases q with q | q
  · exact h pins s σ H o i v ov iv u Q I ro ri rv q
  · exact h' pins s σ H o i v ov iv u Q I ro ri rv q
theorem PGet.or {X : Cx} {r r' : V → V → Hp → VK → Prop} (h : PGet X r) (h' : PGet X r') : PGet X (fun o i H Q => r o i H Q ∨ r' o i H Q) := by
  intro pins s σ H o i ov iv Q I ro ri q
  rcases q with q | q
  · exact h pins s σ H o i ov iv Q I ro ri q
  · exact h' pins s σ H o i ov iv Q I ro ri q
theorem PIp.or {X : Cx} {op : Operator} {r r' : TIp} (h : PIp X op r) (h' : PIp X op r') : PIp X op (fun x y H Q => r x y H Q ∨ r' x y H Q) := by
  intro pins s σ H x y v u Q I r1 r2 q
  rcases q with q | q
  · exact h pins s σ H x y v u Q I r1 r2 q
  · exact h' pins s σ H x y v u Q I r1 r2 q
def rSt (K : PySem.W.Frag) : TSet := fun o i v H Q => rSetL o i v H Q ∨ rSetD o i v H Q
theorem set_both {X : Cx} (hr : Room 0 X.A) : PSet X (rSt X.K) := PSet.or set_list (set_dict (hu_of hr))
theorem get_list {X : Cx} : PGet X (rIxL X.K) := by
  intro pins s σ H x y v u Q I rx ry h
  obtain ⟨p, xs, i, z, rfl, rfl, hq, he, q⟩ := h
  cases rx
  obtain ⟨t, rfl⟩ := ry
  obtain ⟨its, r, pl, hz⟩ := I.list hq
  obtain ⟨j, h1, h2, h3, h4, h5⟩ := atI_get he
  obtain ⟨w, ew, rw'⟩ := r.get h2
  have hl := r.length
  have hn := line63
  have fin : EP X pins σ Q w s := ⟨z, H, I, rw', q⟩
  by_cases h0 : 0 ≤ i
  · have hj : i.toNat = j := by
      rw [seqIndex_of h0 h5] at h1
      exact Option.some.inj h1
    exact wpAny_getItem_list pl.isList h0 (by omega) (by rw [hj]; simpa using ew) fin
  · have hj : (i + (its.toArray.size : Int)).toNat = j := by
      rw [seqIndex_neg (by omega) h4] at h1
      rw [List.size_toArray, ← hl]
      exact Option.some.inj h1
    exact wpAny_getItem_list_neg pl.isList (by omega) (by rw [List.size_toArray] <;> omega) (by omega) (by rw [hj]; simpa using ew) fin
theorem get_tup {X : Cx} : PGet X (rIxT X.K) := by
  intro pins s σ H x y v u Q I rx ry h
  obtain ⟨p, xs, i, z, rfl, rfl, hq, he, q⟩ := h
  cases rx
  obtain ⟨t, rfl⟩ := ry
  obtain ⟨its, r, pl, hz⟩ := I.tuple hq
  obtain ⟨j, h1, h2, h3, h4, h5⟩ := atI_get he
  obtain ⟨w, ew, rw'⟩ := r.get h2
  have hl := r.length
  have hn := line63
  have fin : EP X pins σ Q w s := ⟨z, H, I, rw', q⟩
  exact getItem_tuple (j := j) pl (by omega) (by omega) (by rw [List.size_toArray, ← hl]; exact h1) (by simpa using ew) fin
theorem get_sub {X : Cx} (hr : Room 0 X.A) : PGet X (rSub X.K) := by
  refine PGet.or get_list (PGet.or get_tup ?_)
  intro pins s σ H x y v u Q I rx ry h
  obtain ⟨a, w, rfl, g, q⟩ := h
  cases rx
  exact d_getItem (hu_of hr) I g ry fun w' s' I' r' => ⟨w, H, I', r', q⟩

section
variable {K : PySem.W.Frag} {P : Ctx} {fx : List Nat} {Y : Ends} {σ : L2.St} {H : Hp} {Z : Addr → Prop} {c : Cnt} {env env' : EnvD} {fl : Fl}
theorem evPath_nil {x : List D × EnvD} (h : evPath P [] env = some x) : x = ([], env) := by
  have h : some (([] : List D), env) = some x := h
  injection h with h
  exact h.symm
/-- a name's own object, rewritten -/
theorem own_upd {i : Nat} {p : Addr} {o o' : HO} {d' : D} {c2 c'' : Cnt} (E2 : ED K Z H (env.set i none) σ c2) (hi : i < env.length) (hv : σ[i]? = some (some (.ref p))) (hp : H p = some o) (mo : isMut o = true) (mo' : isMut o' = true)
    (q : ∀ (Z' : Addr → Prop) H', (∀ a u, H a = some u → (isMut u = false ∨ Z a ∨ c'' a ≠ 0) → H' a = some u) → H' p = some o' → Den K Z H' d' (.ref p) (add (one p) c'')) (G : Gd Z H (add (one p) (add c'' c2))) :
    ED K Z (upd H p o') (env.set i (some d')) σ (add (add (one p) c'') c2) ∧ Gd Z (upd H p o') (add (add (one p) c'') c2) ∧ Fr false Z H (add (add (one p) c'') c2) Z (upd H p o') (add (add (one p) c'') c2) := by
  have uk := upd_keep (o' := o') (c := add c'' c2) hp mo (G.le fun a => by simp only [add]; omega)
  have q := q Z (upd H p o') (fun a u h x => uk a u h (x.elim .inl fun x => .inr (x.elim .inl fun x => .inr (by simp only [add]; omega)))) upd_same
  have E3 := ED.loc (H' := upd H p o') (fun _ z => z) (fun a u h x => uk a u h (x.elim .inl fun x => .inr (x.elim .inl fun x => .inr (by simp only [add]; omega)))) E2
  have E4 := ED.put E3 hi q
  rw [set_self hv] at E4
  have ee : add (add (one p) c'') c2 = add (one p) (add c'' c2) := by funext a; simp only [add]; omega
  refine ⟨E4, ?_, ?_⟩
  · rw [ee]
    intro a
    obtain ⟨g1, g2, g3⟩ := G a
    by_cases ha : a = p
    · subst ha
      exact ⟨g1, fun _ => ⟨_, upd_same, mo'⟩, fun z => ⟨(g3 z).1, by rw [upd_same]; simp⟩⟩
    · simp only [MutA, upd_ne ha] at *
      exact ⟨g1, g2, g3⟩
  · rw [ee]
    intro a
    by_cases ha : a = p
    · subst ha
      refine ⟨fun z => z, fun _ => by rw [upd_same]; simp, fun _ x => ?_, fun _ x => ⟨x, fun z => z⟩⟩
      rcases x with x | x
      · cases x
      · simp only [add, one_self] at x; omega
    · simp only [upd_ne ha]
      exact ⟨fun z => z, fun n => n, fun _ _ => trivial, fun _ x => ⟨x, fun z => z⟩⟩
theorem den_lst {ds' : List D} {vs' : List V} {c'' : Cnt} {p : Addr} (q : Dens K Z H ds' vs' c'') : ∀ (Z' : Addr → Prop) H', (∀ a u, H a = some u → (isMut u = false ∨ Z a ∨ c'' a ≠ 0) → H' a = some u) → H' p = some (.lst vs') → Den K Z H' (.lst true ds') (.ref p) (add (one p) c'') :=
  fun Z' H' h hp => ⟨p, vs', c'', rfl, hp, Dens.loc (fun _ z => z) h q, rfl⟩
theorem den_dK {ks' : List Key} {ds' : List D} {kvs' : List (Key × V)} {c'' : Cnt} {p : Addr} (nd : kvs'.map (·.1) = ks' ∧ ks'.Nodup) (q : Dens K Z H ds' (kvs'.map (·.2)) c'') :
    ∀ (Z' : Addr → Prop) H', (∀ a u, H a = some u → (isMut u = false ∨ Z a ∨ c'' a ≠ 0) → H' a = some u) → H' p = some (.dK kvs') → Den K Z H' (.dK true ks' ds') (.ref p) (add (one p) c'') :=
  fun Z' H' h hp => ⟨p, kvs', c'', rfl, hp, nd, Dens.loc (fun _ z => z) h q, rfl⟩

theorem updE_nil {i : Nat} {f : D → Option D} (h : updE i [] f env = some env') : ∃ dd d', getE env i = some dd ∧ f dd = some d' ∧ env' = env.set i (some d') := by
  obtain ⟨dd, h1, h2⟩ := bind_some (show ((getE env i).bind fun d => (updD f d []).map fun d' => env.set i (some d')) = some env' from h)
  obtain ⟨d', h3, rfl⟩ := map_some h2
  have h3 : f dd = some d' := by
    cases dd <;> exact h3
  exact ⟨dd, d', h1, h3, rfl⟩
/-- o[k] = v done: o the name's own -/
theorem set_done {i : Nat} {kd d dd d' : D} {kv v w : V} {Q : Hp → Prop} {c2 ck cd : Cnt} (E : ED K Z H env σ c2) (hg : getE env i = some dd) (hw : σ[i]? = some (some w)) (qk : Den K Z H kd kv ck) (qd : Den K Z H d v cd) (hs : setD dd kd d = some d')
    (G : Gd Z H (add c2 cd)) (k : ∀ H' c', ED K Z H' (env.set i (some d')) σ c' → Gd Z H' c' → Fr false Z H (add c2 cd) Z H' c' → Q H') : rSt K w kv v H Q := by
  have hg' := getE_some hg
  obtain ⟨w', k1, k2, e1, q1, E2, rfl⟩ := E.take hg'
  rw [hw] at e1; cases e1
  have hi := (List.getElem?_eq_some_iff.mp hg').1
  cases dd with
  | lst o ds =>
    cases o with
    | false => cases kd <;> cases hs
    | true =>
      cases kd with
      | int j =>
        obtain ⟨j', h1, h2⟩ := map_some (show (ixN ds.length j).map (fun j => D.lst true (ds.set j d)) = some d' from hs)
        subst h2
        obtain ⟨p, vs, c', rfl, hp, q, rfl⟩ := q1
        obtain ⟨rfl, _⟩ := qk
        have hj : j' < ds.length := (ixN_seq h1).2.1
        obtain ⟨c'', q', le⟩ := q.setAt qd hj
        have G' : Gd Z H (add (one p) (add c'' k2)) := G.le fun a => by have := le a; simp only [add]; omega
        obtain ⟨E4, G4, F4⟩ := own_upd (o' := .lst (vs.set j' v)) E2 hi hw hp rfl rfl (den_lst q') G'
        exact .inl ⟨p, vs, j, j', rfl, rfl, hp, by rw [q.length]; exact h1, k _ _ E4 G4 (F4.lessL fun a => by have := le a; simp only [add]; omega)⟩
      | _ => cases hs
  | dK o ks ds =>
    cases o with
    | false => cases kd <;> cases hs
    | true =>
      obtain ⟨key, h1, h2⟩ := bind_some (show ((D.key? kd).bind fun k => if ks.length < sizeLine then some (D.dK true (putD k d ks ds).1 (putD k d ks ds).2) else none) = some d' by cases kd <;> exact hs)
      split at h2
      · rename_i hlt
        cases h2
        obtain ⟨p, kvs, c', rfl, hp, nd, q, rfl⟩ := q1
        have ek := keyD qk h1
        obtain ⟨nd', c'', q', le⟩ := putD_den (k := key) nd q qd
        have G' : Gd Z H (add (one p) (add c'' k2)) := G.le fun a => by have := le a; simp only [add]; omega
        obtain ⟨E4, G4, F4⟩ := own_upd (o' := .dK (putK kvs key v)) E2 hi hw hp rfl rfl (den_dK nd' q') G'
        refine .inr ⟨p, _, rfl, ?_, k _ _ E4 G4 (F4.lessL fun a => by have := le a; simp only [add]; omega)⟩
        rw [ek]
        exact DPut.k hp (by have := congrArg List.length nd.1; rw [List.length_map] at this; omega)
      · cases h2
  | _ => cases kd <;> cases hs
theorem in_sto {i : Nat} {k e : E} (h : tS K P fx (.sto i [] k e) Y σ H) : tAsg (tE K P e) (gSub (tVar i) (tE K P k) (rSt K)) Y σ H := by
  obtain ⟨Z, c, env, fl, env', E, G, ev, r⟩ := h
  obtain ⟨x, h1, h2⟩ := bind_some (show ((evM P false e env).bind fun x => (evPath P [] x.2).bind fun y => (getE y.2 i).bind fun _ => (evKey P k y.2).bind fun z =>
      (updE i y.1 (fun c => setD c z.1 x.1) z.2).map fun e' => (Fl.nx, e')) = some (fl, env') from ev)
  obtain ⟨y, h3, h4⟩ := bind_some h2
  obtain ⟨d0, h5, h6⟩ := bind_some h4
  obtain ⟨z, h7, h8⟩ := bind_some h6
  obtain ⟨e2, h9, h10⟩ := map_some h8
  injection h10 with e1 e2
  subst e1 e2
  have hy := evPath_nil h3
  subst hy
  obtain ⟨ka, g1, g2⟩ := bind_some (show ((evA P true k x.2).bind fun x => (x.1.tmp?).map fun d => (d, x.2)) = some z from h7)
  obtain ⟨kd, g3, rfl⟩ := map_some g2
  refine in_M E G h1 fun v H1 Z1 c1 cd E1 q1 G1 F1 => ?_
  obtain ⟨w, _, _, hw, _, _, _⟩ := E1.take (getE_some h5)
  refine ⟨w, hw, ?_⟩
  refine ⟨true, Z1, c1, x.2, ka.1, ka.2, E1, G1.le (fun a => by simp only [add]; omega), g1, fun kv H2 Z2 c2 ck E2 qk G2 F2 M2 => ?_⟩
  have G2' : Gd Z2 H2 c2 := G2.le fun a => by simp only [add]; omega
  obtain ⟨G3, F3⟩ := (F2.lessR (e := c2) fun a => by simp only [add]; omega).ext G1 G2'
  have hka : ka.1 = .tmp kd := by
    generalize ka.1 = a at g3
    cases a <;> cases g3
    rfl
  rw [hka] at qk
  have qd := Den.loc F2.zz (fun a o h x => F2.keep G1 a o h x) q1
  obtain ⟨dd, d', g5, g6, rfl⟩ := updE_nil h9
  refine set_done E2 g5 hw qk qd g6 G3 fun H4 c4 E4 G4 F4 => ?_
  exact r.nx E4 G4 (F1.trans (F3.weak.trans F4)) FX.refl

/-! ### op= -/
def rIp : Operator → TIp
  | .Add => ipI fun i j => i + j
  | .Sub => ipI fun i j => i - j
  | _ => fun _ _ _ _ => False
theorem ip_all {X : Cx} (o : Operator) : PIp X o (rIp o) := by
  cases o with
  | Add => exact ip_add
  | Sub => exact ip_sub
  | _ => intro pins s σ H x y v u Q I r1 r2 h; exact h.elim
theorem aug_den {o : Operator} {a b d : D} {x y : V} {c1 c2 : Cnt} (qa : Den K Z H a x c1) (qb : Den K Z H b y c2) (h : augD o a b = some d) (ho : o ≠ .Mult) : ∃ v, Den K Z H d v zc ∧ ∀ Q : VK, Q v H → rIp o x y H Q := by
  unfold augD at h
  split at h
  · cases h
    obtain ⟨rfl, _⟩ := qa
    obtain ⟨rfl, _⟩ := qb
    exact ⟨_, ⟨rfl, rfl⟩, fun Q q => ⟨_, _, rfl, rfl, q⟩⟩
  · cases h
    obtain ⟨rfl, _⟩ := qa
    obtain ⟨rfl, _⟩ := qb
    exact ⟨_, ⟨rfl, rfl⟩, fun Q q => ⟨_, _, rfl, rfl, q⟩⟩
  · exact absurd rfl ho
  · cases h
theorem aug_plain {o : Operator} {a b d : D} (h : augD o a b = some d) : ∃ i j, a = .int i ∧ b = .int j := by
  unfold augD at h
  split at h <;> first | (cases h; exact ⟨_, _, rfl, rfl⟩) | (exact ⟨_, _, rfl, rfl⟩) | cases h
theorem in_aug {i : Nat} {o : Operator} {e : E} (ho : o ≠ .Mult) (hfx : i ∉ fx) (h : tS K P fx (.aug i o e) Y σ H) : tAug i (tE K P e) (rIp o) Y σ H := by
  obtain ⟨Z, c, env, fl, env', E, G, ev, r⟩ := h
  obtain ⟨x, h1, h2⟩ := bind_some (show ((getE env i).bind fun x => (evA P false e env).bind fun y => (y.1.get y.2).bind fun d => (augD o x d).bind fun r =>
      if i < env.length then some (Fl.nx, y.2.set i (some r)) else none) = some (fl, env') from ev)
  obtain ⟨y, h3, h4⟩ := bind_some h2
  obtain ⟨d, h5, h6⟩ := bind_some h4
  obtain ⟨n, h7, h8⟩ := bind_some h6
  split at h8
  · rename_i hi
    injection h8 with h8
    injection h8 with e1 e2
    subst e1 e2
    obtain ⟨i1, j1, rfl, rfl⟩ := aug_plain h7
    obtain ⟨w, k1, k2, hw, qw, E0, rfl⟩ := E.take (getE_some h1)
    refine ⟨w, hw, false, Z, _, env, y.1, y.2, E, G, h3, fun v H1 Z1 c1 ca1 E1 q1 G1 F1 M1 => ?_⟩
    obtain ⟨cb, qb, _⟩ := q1.look E1 h5
    have qw1 : Den K Z1 H1 (.int i1) w zc := ⟨qw.1, rfl⟩
    obtain ⟨u, qu, f⟩ := aug_den qw1 qb h7 ho
    refine f _ ?_
    obtain ⟨c3, c4, E3, rfl⟩ := E1.drop i
    have E4 := ED.put (v := u) E3 (by rw [← E1.len, E.len]; exact hi) qu
    refine r.nx E4 (G1.le fun a => by simp only [add, zc]; omega) (F1.lessR fun a => by simp only [add, zc]; omega) ⟨by simp, fun j hj => ?_⟩
    rw [List.getElem?_set_ne (fun e => hfx (by rw [e]; exact hj))]
  · cases h8
theorem in_augS {i : Nat} {o : Operator} {k e : E} (ho : o ≠ .Mult) (h : tS K P fx (.augS i [] k o e) Y σ H) : tAugS (tVar i) (tE K P k) (tE K P e) (rSub K) (rIp o) (rSt K) Y σ H := by
  obtain ⟨Z, c, env, fl, env', E, G, ev, r⟩ := h
  obtain ⟨y, h1, h2⟩ := bind_some (show ((evPath P [] env).bind fun y => (getE y.2 i).bind fun _ => (evKey P k y.2).bind fun z => (getE z.2 i).bind fun r => (getP r (y.1 ++ [z.1])).bind fun old =>
      (evA P true e z.2).bind fun x => (x.1.get x.2).bind fun d => (augD o old d).bind fun new => (updE i y.1 (fun c => setD c z.1 new) x.2).map fun e' => (Fl.nx, e')) = some (fl, env') from ev)
  have hy := evPath_nil h1
  subst hy
  obtain ⟨d0, h3, h4⟩ := bind_some h2
  obtain ⟨z, h5, h6⟩ := bind_some h4
  obtain ⟨dr, h7, h8⟩ := bind_some h6
  obtain ⟨old, h9, h10⟩ := bind_some h8
  obtain ⟨xa, h11, h12⟩ := bind_some h10
  obtain ⟨d, h13, h14⟩ := bind_some h12
  obtain ⟨new, h15, h16⟩ := bind_some h14
  obtain ⟨e2, h17, h18⟩ := map_some h16
  injection h18 with e1 e2
  subst e1 e2
  obtain ⟨ka, g1, g2⟩ := bind_some (show ((evA P true k env).bind fun x => (x.1.tmp?).map fun d => (d, x.2)) = some z from h5)
  obtain ⟨kd, g3, rfl⟩ := map_some g2
  have hka : ka.1 = .tmp kd := by
    generalize ka.1 = a at g3
    cases a <;> cases g3
    rfl
  obtain ⟨w, _, _, hw, _, _, _⟩ := E.take (getE_some h3)
  refine ⟨w, hw, true, Z, c, env, ka.1, ka.2, E, G, g1, fun kv H1 Z1 c1 ck E1 qk G1 F1 M1 => ?_⟩
  rw [hka] at qk
  obtain ⟨w', k1, k2, hw', qw, E0, ee⟩ := E1.take (getE_some h7)
  rw [hw] at hw'; cases hw'
  have h9 : (subD dr kd).bind (fun x => getP x []) = some old := by
    cases dr <;> exact h9
  obtain ⟨old', h9a, h9b⟩ := bind_some h9
  have : old' = old := by
    have h9b : some old' = some old := by cases old' <;> exact h9b
    injection h9b
  subst this
  obtain ⟨u, co, f, qo, _⟩ := sub_den qw qk h9a
  refine f _ ?_
  obtain ⟨i1, j1, rfl, rfl⟩ := aug_plain h15
  obtain ⟨rfl, _⟩ := qo
  have hint : ∀ (Z : Addr → Prop) H, Den K Z H kd kv zc ∨ True := fun _ _ => .inr trivial
  refine ⟨true, Z1, c1, ka.2, xa.1, xa.2, E1, G1.le (fun a => by simp only [add]; omega), h11, fun v H2 Z2 c2 ca2 E2 q2 G2 F2 M2 => ?_⟩
  obtain ⟨cb, qb, _⟩ := q2.look E2 h13
  obtain ⟨nv, qn, f2⟩ := aug_den (K := K) (Z := Z2) (H := H2) (a := .int i1) (b := .int j1) ⟨rfl, rfl⟩ qb h15 ho
  refine f2 _ ?_
  obtain ⟨dd, d', g5, g6, rfl⟩ := updE_nil h17
  have qk2 : Den K Z2 H2 kd kv ck := Den.loc F2.zz (fun a o h x => F2.keep G1 a o h x) qk
  have G3 : Gd Z2 H2 (add c2 zc) := G2.le fun a => by simp only [add, zc]; omega
  refine set_done E2 g5 hw qk2 qn g6 G3 fun H4 c4 E4 G4 F4 => ?_
  have F12 : Fr false Z H c Z2 H2 (add c2 zc) := (((F1.weak.lessR (e := c1) fun a => by simp only [add]; omega).trans F2.weak).lessR fun a => by simp only [add, zc]; omega)
  exact r.nx E4 G4 (F12.trans F4) FX.refl
end
end DL
end

section
/-! DL20: append, extend, remove; a, b, c = x, y, z. -/
namespace DL
open PySem PySem.Spec L2
open PyProof.Rows hiding St

section
variable {K : PySem.W.Frag} {P : Ctx} {fx : List Nat} {Y : Ends} {σ : L2.St} {H : Hp} {Z : Addr → Prop} {c : Cnt} {env env' : EnvD} {fl : Fl}
theorem tmp_of {a : A} {d : D} (h : a.tmp? = some d) : a = .tmp d := by cases a <;> cases h; rfl
/-- the list at a name -/
theorem lst_at {i : Nat} {u : Unit} (E : ED K Z H env σ c) (h : (getE env i).bind D.lst? = some u) : ∃ w, σ[i]? = some (some w) ∧ tyV K "list" w H := by
  obtain ⟨d, h1, h2⟩ := bind_some h
  obtain ⟨w, k1, k2, hw, q, _, _⟩ := E.take (getE_some h1)
  cases d with
  | lst o ds =>
    obtain ⟨a, vs, c', rfl, s, q⟩ := q.lstI
    exact ⟨_, hw, .inl ⟨rfl, vs, SqL.of s⟩⟩
  | _ => cases h2
/-- the list of a name taken for an update -/
theorem lst_own {i : Nat} {dd : D} {ds : List D} {w : V} (E : ED K Z H env σ c) (hg : getE env i = some (.lst true ds)) (hw : σ[i]? = some (some w)) :
    ∃ p vs c' k2, w = .ref p ∧ H p = some (.lst vs) ∧ Dens K Z H ds vs c' ∧ ED K Z H (env.set i none) σ k2 ∧ c = add (add (one p) c') k2 ∧ i < env.length := by
  have hg' := getE_some hg
  obtain ⟨w', k1, k2, e1, q1, E2, rfl⟩ := E.take hg'
  rw [hw] at e1; cases e1
  obtain ⟨p, vs, c', rfl, hp, q, rfl⟩ := q1
  exact ⟨p, vs, c', k2, rfl, hp, q, E2, rfl, (List.getElem?_eq_some_iff.mp hg').1⟩
theorem in_app {i : Nat} {e : E} (h : tS K P fx (.app i [] e) Y σ H) : tDrop (tBM K "list" rAppend (tVar i) (tL [tE K P e])) Y σ H := by
  obtain ⟨Z, c, env, fl, env', E, G, ev, r⟩ := h
  obtain ⟨y, h1, h2⟩ := bind_some (show ((evPath P [] env).bind fun y => ((getE y.2 i).bind D.lst?).bind fun _ => (evM P false e y.2).bind fun x => (updE i y.1 (appD x.1) x.2).map fun e' => (Fl.nx, e')) = some (fl, env') from ev)
  have hy := evPath_nil h1
  subst hy
  obtain ⟨u, h3, h4⟩ := bind_some h2
  obtain ⟨x, h5, h6⟩ := bind_some h4
  obtain ⟨e2, h7, h8⟩ := map_some h6
  injection h8 with e1 e2
  subst e1 e2
  obtain ⟨w, hw, ty⟩ := lst_at E h3
  refine ⟨w, hw, ty, ?_⟩
  show tE K P e σ H _
  refine in_M E G h5 fun v H1 Z1 c1 cd E1 q1 G1 F1 => ?_
  obtain ⟨dd, d', g1, g2, rfl⟩ := updE_nil h7
  have hd : ∃ ds, dd = .lst true ds ∧ ds.length < sizeLine ∧ d' = .lst true (ds ++ [x.1]) := by
    unfold appD at g2
    split at g2
    · split at g2
      · rename_i hl
        cases g2
        exact ⟨_, rfl, hl, rfl⟩
      · cases g2
    · cases g2
  obtain ⟨ds, rfl, hlt, rfl⟩ := hd
  obtain ⟨p, vs, c', k2, rfl, hp, q, E2, rfl, hi⟩ := lst_own (dd := .non) E1 g1 hw
  have q' : Dens K Z1 H1 (ds ++ [x.1]) (vs ++ [v]) (add c' (add cd zc)) := Dens.app q ⟨v, [], cd, zc, rfl, q1, ⟨rfl, rfl⟩, rfl⟩
  have G' : Gd Z1 H1 (add (one p) (add (add c' (add cd zc)) k2)) := G1.le fun a => by simp only [add, zc]; omega
  obtain ⟨E4, G4, F4⟩ := own_upd (o' := .lst (vs ++ [v])) E2 hi hw hp rfl rfl (den_lst q') G'
  exact ⟨p, vs, v, rfl, rfl, hp, by rw [q.length]; exact hlt, r.nx E4 G4 (F1.trans (F4.lessL fun a => by simp only [add, zc]; omega)) FX.refl⟩
theorem in_ext {i : Nat} {e : E} (h : tS K P fx (.ext i [] e) Y σ H) : tDrop (tBM K "list" rExtend (tVar i) (tL [tE K P e])) Y σ H := by
  obtain ⟨Z, c, env, fl, env', E, G, ev, r⟩ := h
  obtain ⟨y, h1, h2⟩ := bind_some (show ((evPath P [] env).bind fun y => ((getE y.2 i).bind D.lst?).bind fun _ => (evA P false e y.2).bind fun x => (x.1.get x.2).bind fun d => (updE i y.1 (extD d) x.2).map fun e' => (Fl.nx, e')) = some (fl, env') from ev)
  have hy := evPath_nil h1
  subst hy
  obtain ⟨u, h3, h4⟩ := bind_some h2
  obtain ⟨x, h5, h6⟩ := bind_some h4
  obtain ⟨d, h6a, h6b⟩ := bind_some h6
  obtain ⟨e2, h7, h8⟩ := map_some h6b
  injection h8 with e1 e2
  subst e1 e2
  obtain ⟨w, hw, ty⟩ := lst_at E h3
  refine ⟨w, hw, ty, ?_⟩
  show tE K P e σ H _
  refine ⟨false, Z, c, env, x.1, x.2, E, G, h5, fun v H1 Z1 c1 ca E1 q1 G1 F1 M1 => ?_⟩
  obtain ⟨cb, qb, _⟩ := q1.look E1 h6a
  obtain ⟨dd, d', g1, g2, rfl⟩ := updE_nil h7
  have hd : ∃ ds o es, dd = .lst true ds ∧ d = .lst o es ∧ D.plains es = true ∧ ds.length + es.length ≤ sizeLine ∧ d' = .lst true (ds ++ es) := by
    unfold extD at g2
    split at g2
    · split at g2
      · split at g2
        · rename_i hl
          cases g2
          rw [Bool.and_eq_true] at hl
          exact ⟨_, _, _, rfl, rfl, hl.1, of_decide_eq_true hl.2, rfl⟩
        · cases g2
      · cases g2
    · cases g2
  obtain ⟨ds, o, es, rfl, rfl, hpl, hlt, rfl⟩ := hd
  obtain ⟨p, vs, c', k2, rfl, hp, q, E2, rfl, hi⟩ := lst_own (dd := .non) E1 g1 hw
  obtain ⟨b, ws, c3, rfl, hb, qe⟩ := qb.lstI
  have := Dens.pl hpl qe
  subst this
  have q' : Dens K Z1 H1 (ds ++ es) (vs ++ ws) (add c' zc) := Dens.app q qe
  have G' : Gd Z1 H1 (add (one p) (add (add c' zc) k2)) := G1.le fun a => by simp only [add, zc]; omega
  obtain ⟨E4, G4, F4⟩ := own_upd (o' := .lst (vs ++ ws)) E2 hi hw hp rfl rfl (den_lst q') G'
  exact ⟨p, b, vs, ws, rfl, rfl, hp, hb, by rw [q.length, qe.length]; exact hlt, r.nx E4 G4 ((F1.lessR (e := add (add (add (one p) c') k2) zc) fun a => by simp only [add, zc]; omega).trans (F4.lessL fun a => by simp only [add, zc]; omega)) FX.refl⟩
theorem remL_at {n : Int} : ∀ {ns l : List Int}, remL n ns = some l → ∃ j, ns[j]? = some n ∧ (∀ m : Nat, m < j → ns[m]? ≠ some n) ∧ l = ns.eraseIdx j
  | [], _, h => by cases h
  | x :: r, l, h => by
    have h : (if x = n then some r else (remL n r).map fun l => x :: l) = some l := h
    split at h
    · rename_i e
      cases h
      exact ⟨0, by simp [e], fun m hm => absurd hm (by omega), rfl⟩
    · rename_i e
      obtain ⟨l', h1, rfl⟩ := map_some h
      obtain ⟨j, g1, g2, rfl⟩ := remL_at h1
      refine ⟨j + 1, by simpa using g1, fun m hm => ?_, rfl⟩
      cases m with
      | zero => simpa using e
      | succ m => simpa using g2 m (by omega)
theorem dens_intsV {ns : List Int} : ∀ {vs : List V} {c : Cnt}, Dens K Z H (ns.map D.int) vs c → vs = ns.map V.int ∧ c = zc := by
  induction ns with
  | nil => intro vs c q; exact q
  | cons n ns ih =>
    intro vs c q
    obtain ⟨v, r, c1, c2, rfl, ⟨rfl, rfl⟩, q2, rfl⟩ := q
    obtain ⟨rfl, rfl⟩ := ih q2
    exact ⟨rfl, add_zc _⟩
theorem den_ints (ns : List Int) : Dens K Z H (ns.map D.int) (ns.map V.int) zc := by
  induction ns with
  | nil => exact ⟨rfl, rfl⟩
  | cons n ns ih => exact ⟨_, _, zc, zc, rfl, ⟨rfl, rfl⟩, ih, (add_zc _).symm⟩
theorem in_rem {i : Nat} {e : E} (h : tS K P fx (.rem i [] e) Y σ H) : tDrop (tBM K "list" rRemI (tVar i) (tL [tE K P e])) Y σ H := by
  obtain ⟨Z, c, env, fl, env', E, G, ev, r⟩ := h
  obtain ⟨y, h1, h2⟩ := bind_some (show ((evPath P [] env).bind fun y => ((getE y.2 i).bind D.lst?).bind fun _ => (evA P false e y.2).bind fun x => (x.1.get x.2).bind fun d => (updE i y.1 (remD d) x.2).map fun e' => (Fl.nx, e')) = some (fl, env') from ev)
  have hy := evPath_nil h1
  subst hy
  obtain ⟨u, h3, h4⟩ := bind_some h2
  obtain ⟨x, h5, h6⟩ := bind_some h4
  obtain ⟨d, h6a, h6b⟩ := bind_some h6
  obtain ⟨e2, h7, h8⟩ := map_some h6b
  injection h8 with e1 e2
  subst e1 e2
  obtain ⟨w, hw, ty⟩ := lst_at E h3
  refine ⟨w, hw, ty, ?_⟩
  show tE K P e σ H _
  refine ⟨false, Z, c, env, x.1, x.2, E, G, h5, fun v H1 Z1 c1 ca E1 q1 G1 F1 M1 => ?_⟩
  obtain ⟨cb, qb, _⟩ := q1.look E1 h6a
  obtain ⟨dd, d', g1, g2, rfl⟩ := updE_nil h7
  have hd : ∃ ns n l, dd = .lst true (ns.map D.int) ∧ d = .int n ∧ remL n ns = some l ∧ d' = .lst true (l.map .int) := by
    unfold remD at g2
    split at g2
    · split at g2
      · obtain ⟨ns, k1, k2⟩ := bind_some g2
        obtain ⟨l, k3, rfl⟩ := map_some k2
        have := ints_of k1
        subst this
        exact ⟨_, _, _, rfl, rfl, k3, rfl⟩
      · cases g2
    · cases g2
  obtain ⟨ns, n, l, rfl, rfl, hr, rfl⟩ := hd
  obtain ⟨rfl, _⟩ := qb
  obtain ⟨p, vs, c', k2, rfl, hp, q, E2, rfl, hi⟩ := lst_own (dd := .non) E1 g1 hw
  obtain ⟨rfl, rfl⟩ := dens_intsV q
  obtain ⟨j, j1, j2, rfl⟩ := remL_at hr
  have G' : Gd Z1 H1 (add (one p) (add zc k2)) := G1.le fun a => by simp only [add, zc]; omega
  obtain ⟨E4, G4, F4⟩ := own_upd (o' := .lst ((ns.eraseIdx j).map V.int)) E2 hi hw hp rfl rfl (den_lst (den_ints _)) G'
  exact ⟨p, ns, n, j, rfl, rfl, hp, j1, j2, r.nx E4 G4 (F1.trans (F4.lessL fun a => by simp only [add, zc]; omega)) FX.refl⟩
theorem bind_three {i j l : Nat} {ds : List D} (h : bindN [i, j, l] ds env = some env') : ∃ d1 d2 d3, ds = [d1, d2, d3] ∧ i < env.length ∧ j < env.length ∧ l < env.length ∧ env' = ((env.set i (some d1)).set j (some d2)).set l (some d3) := by
  obtain ⟨d1, r1, rfl, h1, h⟩ := bind_cons h
  obtain ⟨d2, r2, rfl, h2, h⟩ := bind_cons h
  obtain ⟨d3, r3, rfl, h3, h⟩ := bind_cons h
  obtain ⟨rfl, rfl⟩ := bind_nil h
  exact ⟨d1, d2, d3, rfl, h1, by simpa using h2, by simpa using h3, rfl⟩
theorem in_par3 {i j l : Nat} {es : List E} (hfx : ∀ k ∈ fx, k ≠ i ∧ k ≠ j ∧ k ≠ l) (h : tS K P fx (.par [i, j, l] es) Y σ H) : tPar3 i j l (tL (es.map (tE K P))) Y σ H := by
  obtain ⟨Z, c, env, fl, env', E, G, ev, r⟩ := h
  obtain ⟨x, h1, h2⟩ := bind_some (show ((evMs P false es env).bind fun x => (bindN [i, j, l] x.1 x.2).map fun e' => (Fl.nx, e')) = some (fl, env') from ev)
  obtain ⟨e2, h3, h4⟩ := map_some h2
  injection h4 with e1 e2
  subst e1 e2
  obtain ⟨d1, d2, d3, hd, hi, hj, hl, rfl⟩ := bind_three h3
  refine in_Ms E G h1 fun vs H1 Z1 c1 cd E1 q1 G1 F1 => ?_
  rw [hd] at q1
  obtain ⟨u, r1, k1, k2, rfl, p1, ⟨v, r2, k3, k4, rfl, p2, ⟨w, r3, k5, k6, rfl, p3, ⟨rfl, rfl⟩, rfl⟩, rfl⟩, rfl⟩ := q1
  obtain ⟨c2, c3, E2, rfl⟩ := E1.drop i
  have E3 := ED.put (v := u) E2 hi p1
  obtain ⟨c4, c5, E4, e4⟩ := E3.drop j
  have E5 := ED.put (v := v) E4 (by simpa using hj) p2
  obtain ⟨c6, c7, E6, e6⟩ := E5.drop l
  have E7 := ED.put (v := w) E6 (by simpa using hl) p3
  have le : ∀ a, (add k5 c6) a ≤ add (add c3 c2) (add k1 (add k3 (add k5 zc))) a := fun a => by have := congrFun e4 a; have := congrFun e6 a; simp only [add, zc] at *; omega
  refine ⟨u, v, w, rfl, r.nx E7 (G1.le le) (F1.lessR le) ⟨by simp, fun m hm => ?_⟩⟩
  have := hfx m hm
  rw [List.getElem?_set_ne (fun e => this.2.2 e.symm), List.getElem?_set_ne (fun e => this.2.1 e.symm), List.getElem?_set_ne (fun e => this.1 e.symm)]
end
end DL
end

section
/-! DL21: statements against the model's text. -/
namespace DL
open PySem PySem.Spec L2
open PyProof.Rows hiding St

/-! ### stores at once -/
def swN (sc : Scope) (line : Nat) : PySem.Expr → Option Str
  | .Name id pos => if sc.names.lookup id == some .local && pos.line == line then some id else none
  | _ => none
/-- what swappedStores says of a tuple stored in a tuple -/
def swK (sc : Scope) (ts vs : List PySem.Expr) : Option (Option (List Str)) :=
  if !(ts.length == 2 || ts.length == 3) || vs.length != ts.length then some none
  else if vs.any fun | .Starred .. => true | _ => false then some none
  else
    let names := ts.filterMap (swN sc ((ts.head?.map (·.pos.line)).getD 0))
    if names.length != ts.length || names.eraseDups.length != names.length then some none
    else if vs.all (foldedForSure 8) then some none
    else if vs.all (constantsAlone 8) then none
    else some (some names)
theorem swN_eq {env : Env} (line : Nat) : (fun e => match e with | .Name id pos => if env.kindOf id == some .local && pos.line == line then some id else none | _ => none) = swN env.scope line := by
  funext e
  cases e <;> rfl
theorem swK_ok {env : Env} (hk : env.scope.kind = .function) {ts vs : List PySem.Expr} {k k2 : Nat} {p p2 : Pos} {r : Option (List Str)} (h : swK env.scope ts vs = some r) : swappedStores [.Tuple ts k p] (.Tuple vs k2 p2) env = pure r := by
  have hb : env.blockKind = .function := by
    unfold Env.blockKind
    rw [hk]; rfl
  have hl : (fun e : PySem.Expr => match e with | .Name id pos => if env.kindOf id == some .local && pos.line == (ts.head?.map (·.pos.line)).getD 0 then some id else none | _ => none) = swN env.scope ((ts.head?.map (·.pos.line)).getD 0) := swN_eq _
  have e0 : (NameKind.local : NameKind) = .local := rfl
  have hbb : (env.blockKind != ScopeKind.function) = false := by rw [hb]; rfl
  unfold swK at h
  show (do
    if !(ts.length == 2 || ts.length == 3) || vs.length != ts.length || env.blockKind != .function then return none
    if vs.any fun | .Starred .. => true | _ => false then return none
    let line := (ts.head?.map (·.pos.line)).getD 0
    let names := ts.filterMap fun
      | .Name id pos => if env.kindOf id == some .local && pos.line == line then some id else none
      | _ => none
    if names.length != ts.length || names.eraseDups.length != names.length then return none
    if vs.all (foldedForSure 8) then return none
    if vs.all (constantsAlone 8) then unsupported "assign.tuple-of-constant-expressions:order-of-the-stores"
    return some names : Sem (Option (List Str))) = pure r
  rw [hbb, Bool.or_false]
  split at h
  · rename_i h1
    cases h
    rw [if_pos h1] <;> rfl
  · rename_i h1
    rw [if_neg h1]
    split at h
    · rename_i h2
      cases h
      show (if _ then _ else _) = _
      rw [if_pos h2] <;> rfl
    · rename_i h2
      show (if _ then _ else _) = _
      rw [if_neg h2]
      have hn : (ts.filterMap fun
        | .Name id pos => if env.kindOf id == some .local && pos.line == (ts.head?.map (·.pos.line)).getD 0 then some id else none
        | _ => none) = ts.filterMap (swN env.scope ((ts.head?.map (·.pos.line)).getD 0)) := by
        congr 1
      show (if _ then _ else _) = _
      rw [hn]
      dsimp only at h
      split at h
      · rename_i h3
        cases h
        rw [if_pos h3] <;> rfl
      · rename_i h3
        rw [if_neg h3]
        split at h
        · rename_i h4
          cases h
          show (if _ then _ else _) = _
          rw [if_pos h4] <;> rfl
        · rename_i h4
          show (if _ then _ else _) = _
          rw [if_neg h4]
          split at h
          · cases h
          · rename_i h5
            cases h
            show (if _ then _ else _) = _
            rw [if_neg h5] <;> rfl

def isComp : PySem.Expr → Bool
  | .ListComp _ _ _ _ => true
  | .SetComp _ _ _ _ => true
  | .DictComp _ _ _ _ _ => true
  | _ => false
theorem isComp_sw {e : PySem.Expr} (h : isComp e = false) {t : Option PySem.Expr} {l : Nat} {env : Env} : swapsWith e t l env = pure false := by
  cases e <;> first | rfl | cases h
theorem sub_sw {e o i : PySem.Expr} {p : Pos} {l : Nat} {env : Env} : swapsWith e (some (.Subscript o i p)) l env = pure false := by
  cases e <;> rfl
/-- a comprehension stored under a plain local name on its own line -/
def swC (sc scope : Scope) (y : Str) (py pos : Pos) : Bool := decide (sc.names.lookup y = some .local) && decide (py.line = pos.line) && !(scope.names.any fun (n, k) => n == y && (k == .local || k == .cell))
theorem swC_ok {env : Env} (hk : env.scope.kind = .function) {scope : Scope} {y : Str} {py pos : Pos} {elt : PySem.Expr} {gs : List Comprehension} {l : Nat} (h : swC env.scope scope y py pos = true) : swapsWith (.ListComp elt gs scope pos) (some (.Name y py)) l env = pure true := by
  have hb : env.blockKind = .function := by
    unfold Env.blockKind
    rw [hk]; rfl
  unfold swC at h
  rw [Bool.and_eq_true, Bool.and_eq_true] at h
  have h1 : env.kindOf y = some .local := of_decide_eq_true h.1.1
  have h2 := of_decide_eq_true h.1.2
  show (pure (env.blockKind == .function && env.kindOf y == some .local && py.line == pos.line && !(scope.names.any fun (n, k) => n == y && (k == .local || k == .cell))) : Sem Bool) = pure true
  rw [hb, h1, h2, h.2]
  simp
theorem swF_ok {env : Env} {scope : Scope} {y : Str} {py pos : Pos} {elt : PySem.Expr} {gs : List Comprehension} {l : Nat} (h : env.scope.names.lookup y ≠ some .local) : swapsWith (.ListComp elt gs scope pos) (some (.Name y py)) l env = pure false := by
  have h1 : (env.kindOf y == some .local) = false := by
    cases hh : (env.kindOf y == some .local) with
    | false => rfl
    | true =>
      exfalso
      apply h
      show env.kindOf y = some .local
      revert hh
      generalize env.kindOf y = k
      intro hh
      cases k with
      | none => cases hh
      | some k => cases k <;> first | rfl | cases hh
  show (pure (env.blockKind == .function && env.kindOf y == some .local && py.line == pos.line && !(scope.names.any fun (n, k) => n == y && (k == .local || k == .cell))) : Sem Bool) = pure false
  rw [h1]
  simp
/-- no store at once -/
def swO (sc : Scope) : PySem.Expr → PySem.Expr → Bool
  | .Tuple ts _ _, .Tuple vs _ _ => decide (swK sc ts vs = some none)
  | .List _ _, _ => false
  | _, _ => true
theorem swO_ok {env : Env} (hk : env.scope.kind = .function) {t e : PySem.Expr} (h : swO env.scope t e = true) : swappedStores [t] e env = pure none := by
  cases t with
  | Tuple ts k p =>
    cases e with
    | Tuple vs k2 p2 => exact swK_ok hk (of_decide_eq_true h)
    | _ => rfl
  | List _ _ => cases h
  | _ => rfl

def nameIs (N : List Str) (sc : Scope) (i : Nat) : PySem.Expr → Option Str
  | .Name x _ => if decide (N[i]? = some x) && decide (sc.names.lookup x = some .local) then some x else none
  | _ => none
def opIn (fx : List Nat) (l : List Nat) : Bool := l.all fun i => !fx.contains i
theorem opIn_ok {fx l : List Nat} (h : opIn fx l = true) : ∀ j ∈ fx, j ∉ l := by
  intro j hj hl
  unfold opIn at h
  rw [List.all_eq_true] at h
  have := h j hl
  simp [hj] at this
def augOk : Operator → Bool
  | .Add => true
  | .Sub => true
  | _ => false
/-- xs.m(e) as a statement -/
def mCall (N : List Str) (sc : Scope) (i : Nat) (m : Str) : PySem.Expr → Option PySem.Expr
  | .Call (.Attribute o a ap) [e] [] cp => if isVar N sc i o && decide (a = m) && decide (ap.endLine = cp.line) && notStar e then some e else none
  | _ => none
mutual
def chkS (fn : List (Str × Nat)) (bl N : List Str) (sc : Scope) : List Nat → S → Stmt → Bool
  | fx, .asg t e, p => match p with
    | .Assign [tg] e' _ => chkTg N sc (fun _ => true) t tg && notStar tg && opIn fx (tgS t) && chkE fn bl N sc e e' && swO sc tg e' && (match tg, e', t, e with
      | .Name y py, .ListComp _ _ scope pos, .nm _, .comp _ _ _ _ _ _ => swC sc scope y py pos || decide (sc.names.lookup y ≠ some .local)
      | _, _, _, _ => !isComp e')
    | _ => false
  | fx, .par is es, p => match p, is with
    | .Assign [.Tuple [a, b] _ _] (.Tuple vs _ _) _, [i, j] => (match nameIs N sc i a, nameIs N sc j b with
      | some x, some y => decide (swK sc [a, b] vs = some (some [x, y])) && decide (i ≠ j) && opIn fx [i, j] && vs.all notStar && decide (vs.length = 2) && chkEs fn bl N sc es vs
      | _, _ => false)
    | .Assign [.Tuple [a, b, c] _ _] (.Tuple vs _ _) _, [i, j, l] => (match nameIs N sc i a, nameIs N sc j b, nameIs N sc l c with
      | some x, some y, some z => decide (swK sc [a, b, c] vs = some (some [x, y, z])) && decide (i ≠ j) && decide (i ≠ l) && decide (j ≠ l) && opIn fx [i, j, l] && vs.all notStar && decide (vs.length = 3) && chkEs fn bl N sc es vs
      | _, _, _ => false)
    | _, _ => false
  | _, .sto i path k e, p => match p with
    | .Assign [.Subscript o k' _] e' _ => path.isEmpty && isVar N sc i o && plIx k' && chkE fn bl N sc k k' && chkE fn bl N sc e e'
    | _ => false
  | _, .stoT _ _, _ => false
  | fx, .aug i o e, p => match p with
    | .AugAssign (.Name x _) o' e' _ => decide (N[i]? = some x) && locB sc x && decide (o' = o) && augOk o && !fx.contains i && chkE fn bl N sc e e'
    | _ => false
  | _, .augS i path k o e, p => match p with
    | .AugAssign (.Subscript x k' _) o' e' _ => path.isEmpty && isVar N sc i x && plIx k' && decide (o' = o) && augOk o && chkE fn bl N sc k k' && chkE fn bl N sc e e'
    | _ => false
  | _, .app i path e, p => match p with
    | .Expr v _ => path.isEmpty && (match mCall N sc i "append" v with | some e' => chkE fn bl N sc e e' | none => false)
    | _ => false
  | _, .ext i path e, p => match p with
    | .Expr v _ => path.isEmpty && (match mCall N sc i "extend" v with | some e' => chkE fn bl N sc e e' | none => false)
    | _ => false
  | _, .rem i path e, p => match p with
    | .Expr v _ => path.isEmpty && (match mCall N sc i "remove" v with | some e' => chkE fn bl N sc e e' | none => false)
    | _ => false
  | _, .ex e, p => match p with
    | .Expr e' _ => !isComp e' && chkE fn bl N sc e e'
    | _ => false
  | fx, .ite c a b, p => match p with
    | .If c' a' b' _ => chkT fn bl N sc c c' && chkSs fn bl N sc fx a a' && chkSs fn bl N sc fx b b'
    | _ => false
  | fx, .whl c b, p => match p with
    | .While c' b' [] _ => chkT fn bl N sc c c' && chkSs fn bl N sc fx b b'
    | _ => false
  | fx, .for_ tg k src b, p => match p with
    | .For tg' iter b' [] _ => notSet iter && zipOk k tg' && lentOk k src && chkTg N sc (fun _ => true) tg tg' && opIn (lentFx k src ++ fx) (tgS tg) && (match chkSrc bl sc k iter with | some ps => chkEs fn bl N sc src ps | none => false) && chkSs fn bl N sc (lentFx k src ++ fx) b b'
    | _ => false
  | _, .ret e, p => match p with
    | .Return (some e') _ => chkE fn bl N sc e e'
    | _ => false
  | _, .retN, p => match p with
    | .Return none _ => true
    | _ => false
  | _, .brk, p => match p with
    | .Break _ => true
    | _ => false
  | _, .cnt, p => match p with
    | .Continue _ => true
    | _ => false
  | _, .pass, p => match p with
    | .Pass _ => true
    | .Expr (.Constant (.str _) _ _) _ => true
    | _ => false
def chkSs (fn : List (Str × Nat)) (bl N : List Str) (sc : Scope) : List Nat → List S → List Stmt → Bool
  | _, [], ps => ps.isEmpty
  | fx, s :: ss, ps => match ps with | p :: ps => chkS fn bl N sc fx s p && chkSs fn bl N sc fx ss ps | [] => false
end
end DL
end

section
/-! DL22: soundness of the readings of statements. -/
namespace DL
open PySem PySem.Spec L2
open PyProof.Rows hiding St

section
variable {X : Cx} {P : Ctx} {fn : List (Str × Nat)} {bl N : List Str} {sc : Scope}
theorem gT_nm {K : PySem.W.Frag} {i : Nat} {v : V} {σ : L2.St} {H : Hp} {Q : L2.St → Hp → Prop} (q : gT K (.nm i) v σ H Q) : gName i v σ H Q := by
  obtain ⟨Z, c, cd, d, env, env', E, q1, b, k⟩ := q
  have b : (if i < env.length then some (env.set i (some d)) else none) = some env' := b
  split at b
  · rename_i hi
    cases b
    obtain ⟨c2, c1, E2, rfl⟩ := E.drop i
    refine k _ _ (ED.put E2 hi q1) (fun a => by simp only [add]; omega) (by simp) fun j hj => ?_
    have : i ≠ j := fun e => hj (by subst e; simp [tgS])
    rw [List.getElem?_set_ne this]
  · cases b
theorem tE_post {K : PySem.W.Frag} {e : E} {σ : L2.St} {H : Hp} {Q Q' : VK} (h : tE K P e σ H Q) (f : ∀ v H', Q v H' → Q' v H') : tE K P e σ H Q' := by
  obtain ⟨m, Z, c, env, a, env', E, G, ev, k⟩ := h
  exact ⟨m, Z, c, env, a, env', E, G, ev, fun v H' Z' c' ca E' q' G' F' M' => f v H' (k v H' Z' c' ca E' q' G' F' M')⟩
theorem one_each {tg : PySem.Expr} (h : notStar tg = true) : (assignEach [tg] X.env).map (·.2) = [assign tg X.env] := by
  rw [each_cons h]; rfl
theorem nameIs_ok {i : Nat} {p : PySem.Expr} {x : Str} (h : nameIs N sc i p = some x) : ∃ pos, p = .Name x pos ∧ N[i]? = some x ∧ sc.names.lookup x = some .local := by
  unfold nameIs at h
  split at h
  · split at h
    · rename_i hc
      rw [Bool.and_eq_true] at hc
      cases h
      exact ⟨_, rfl, of_decide_eq_true hc.1, of_decide_eq_true hc.2⟩
    · cases h
  · cases h
theorem set_sub {o k : PySem.Expr} {pos : Pos} (h : plIx k = true) : ∀ v, assign (.Subscript o k pos) X.env v = (do
      let ov ← holding [v] (eval o X.env)
      let iv ← holding [v, ov] (eval k X.env)
      standAt pos
      holding [v, ov, iv] (setItem ov iv v)
      release [v, ov, iv] []) := by
  cases k <;> first | (intro v; rfl) | cases h
theorem aug_sub {k : PySem.Expr} (h : plIx k = true) : ∀ ov iv new, augStore k ov iv new = (do holding [new, ov, iv] (setItem ov iv new); release [new, ov, iv] []; pure .next) := by
  cases k <;> first | (intro ov iv new; rfl) | cases h
/-- xs.m(e) -/
theorem ps_m (C : CtxOk P fn bl N X) (hs : X.env.scope = sc) {i : Nat} {m : Str} {id : String} {r : V → List V → Hp → VK → Prop} {v e' : PySem.Expr} {pos : Pos} {te : TE} (h : mCall N sc i m v = some e') (slot : Slot "list" m id) (hty : typeOf (.builtin id) = pure (.type "method_descriptor")) (hm : MtR X id r)
    (he : PE X e' te) : PS X (.Expr v pos) (tDrop (tBM X.K "list" r (tVar i) (tL [te]))) := by
  unfold mCall at h
  split at h
  · split at h
    · rename_i o a ap e cp hc
      simp only [Bool.and_eq_true] at hc
      obtain ⟨⟨⟨h1, h2⟩, h3⟩, h4⟩ := hc
      cases h
      have h2 := of_decide_eq_true h2
      have h3 := of_decide_eq_true h3
      subst h2
      have hb : attributeBase o a X.env (eval o X.env) = eval o X.env := by
        unfold isVar at h1
        split at h1
        · rfl
        · cases h1
      refine ps_expr (pe_bm PySem.F.plainAttrs_list slot hty hm (pe_varB C.hN hs h1) (pa_of (by simp [h4]) (.cons he .nil)) hb ?_ ?_ (star_cons h4) rfl) rfl
      · rw [star_cons h4]; rfl
      · rw [h3]; exact beq_self_eq_true _
    · cases h
  · cases h
end

mutual
theorem snd_S {P : Ctx} {fn : List (Str × Nat)} {bl N : List Str} {X : Cx} {sc : Scope} (C : CtxOk P fn bl N X) (hs : X.env.scope = sc) (hk : sc.kind = .function) (hf : ∀ x, X.fn x = true) : ∀ (fx : List Nat) (s : S) (p : Stmt), chkS fn bl N sc fx s p = true → PS X p (tS X.K P fx s)
  | fx, .asg t e, p, h => by
    unfold chkS at h
    split at h
    · rename_i tg e' pos
      simp only [Bool.and_eq_true] at h
      obtain ⟨⟨⟨⟨⟨h1, h2⟩, h3⟩, h4⟩, h5⟩, h6⟩ := h
      have hk' : X.env.scope.kind = .function := by rw [hs]; exact hk
      have hsw : swappedStores [tg] e' X.env = pure none := swO_ok hk' (by rw [hs]; exact h5)
      have plain : swapsWithSole [tg] e' pos.line X.env = pure false → PS X (.Assign [tg] e' pos) (tS X.K P fx (.asg t e)) := fun hsole =>
        PS.imp (ps_asg (snd_E C hs e e' h4) (pg_T C hs (fnB := fun _ => true) (fun x _ => hf x) t tg h1) hsole hsw (one_each h2)) fun D σ H q => in_asg (opIn_ok h3) q
      split at h6
      · rename_i y py elt gs scope pos' i tg' own k src ifs elt'
        rw [Bool.or_eq_true] at h6
        rcases h6 with h6 | h6
        · unfold chkE at h4
          split at h4
          · rename_i elt2 tg2 iter2 ifs2 scope2 pos2 heq
            cases heq
            simp only [Bool.and_eq_true] at h4
            obtain ⟨⟨⟨⟨⟨⟨⟨⟨k1, k1z⟩, k2⟩, k3⟩, k4⟩, k5⟩, k6⟩, k7⟩, k8⟩ := h4
            split at k6
            · rename_i ps hps
              have hb := blkOk_by k2
              rw [← hs] at hb
              have hsc : ∀ (s : Shared) (H : Hp) (Cc : Addr) (cl : List (Str × Addr)) (fp : List Addr), (X.blk s H scope (compEnvC scope cl Cc X.env) fp).env.scope = relS scope sc := by
                intro s H Cc cl fp
                rw [← hs]; rfl
              have hifs := of_decide_eq_true k4
              have hny : N[i]? = some y := by
                unfold chkTg at h1
                simp only [Bool.and_eq_true] at h1
                exact of_decide_eq_true h1.1.1
              have hloc : X.env.scope.names.lookup y = some .local := by
                rw [hs]
                unfold swC at h6
                simp only [Bool.and_eq_true] at h6
                exact of_decide_eq_true h6.1.1
              refine PS.imp (ps_setLc (i := i) (own := own.map fun i => ((N[i]?).getD ⟨#[]⟩, i)) (wi := iSrc X.K k (src.map (tE X.K P))) (g := gT X.K tg') (tt := tIfs X.K P ifs) (te := tE X.K P elt') C.calm (by rw [C.hN]; exact C.nd) (by rw [C.hN]; exact hny) hloc
                (swC_ok hk' (by rw [hs]; exact h6)) (pi_of C hs k hps (snd_Es C hs src _ k6) k1z) (by rw [C.hN]; exact hb) ?_ ?_ ?_ (notSet_ok k1)) fun D σ H q => ?_
              · intro s H Cc cl fp
                exact pg_T (C.blk s H scope Cc cl fp) (hsc s H Cc cl fp) (fnB := fun x => scope.names.lookup x == some .cell) (fun x hx => hx) tg' _ k5
              · intro s H Cc cl fp
                exact snd_Ifs (C.blk s H scope Cc cl fp) (hsc s H Cc cl fp) ifs _ hifs k7
              · intro s H Cc cl fp
                exact snd_E (C.blk s H scope Cc cl fp) (hsc s H Cc cl fp) elt' _ k8
              · rw [own_ix]
                exact in_comp (fun i hi => by
                  have := (List.all_eq_true.mp k3) i hi
                  simpa using this) hifs (tE_post (in_asg (opIn_ok h3) q) fun v H' q => gT_nm q)
            · cases k6
          · cases h4
        · exact plain (swF_ok (l := pos.line) (by rw [hs]; exact of_decide_eq_true h6))
      · exact plain (isComp_sw (by simpa using h6))
    · cases h
  | fx, .par is es, p, h => by
    unfold chkS at h
    split at h
    · rename_i a b kt pt vs k2 pt2 pos i j
      split at h
      · rename_i x y hx hy
        obtain ⟨px, rfl, nx, lx⟩ := nameIs_ok hx
        obtain ⟨py, rfl, ny, ly⟩ := nameIs_ok hy
        simp only [Bool.and_eq_true] at h
        obtain ⟨⟨⟨⟨⟨h1, h2⟩, h3⟩, h4⟩, h5⟩, h6⟩ := h
        have h5 := of_decide_eq_true h5
        have hk' : X.env.scope.kind = .function := by rw [hs]; exact hk
        rcases vs with _ | ⟨v1, _ | ⟨v2, _ | ⟨v3, r⟩⟩⟩
        · cases h5
        · cases h5
        · refine PS.imp (ps_par C.calm (by rw [C.hN]; exact C.nd) (by rw [C.hN]; exact nx) (by rw [C.hN]; exact ny) (of_decide_eq_true h2) (by rw [hs]; exact lx) (by rw [hs]; exact ly) (pa_of h4 (snd_Es C hs es _ h6))
            (swK_ok hk' (by rw [hs]; exact of_decide_eq_true h1))) fun D σ H q => in_par2 (of_decide_eq_true h2) (fun l hl => ?_) q
          have := opIn_ok h3 l hl
          simp only [List.mem_cons, List.not_mem_nil, or_false, not_or] at this
          exact this
        · simp at h5
      · cases h
    · rename_i a b c kt pt vs k2 pt2 pos i j l
      split at h
      · rename_i x y z hx hy hz
        obtain ⟨px, rfl, nx, lx⟩ := nameIs_ok hx
        obtain ⟨py, rfl, ny, ly⟩ := nameIs_ok hy
        obtain ⟨pz, rfl, nz, lz⟩ := nameIs_ok hz
        simp only [Bool.and_eq_true] at h
        obtain ⟨⟨⟨⟨⟨⟨⟨h1, h2⟩, h2a⟩, h2b⟩, h3⟩, h4⟩, h5⟩, h6⟩ := h
        have h5 := of_decide_eq_true h5
        have hk' : X.env.scope.kind = .function := by rw [hs]; exact hk
        rcases vs with _ | ⟨v1, _ | ⟨v2, _ | ⟨v3, _ | ⟨v4, r⟩⟩⟩⟩
        · cases h5
        · cases h5
        · cases h5
        · refine PS.imp (ps_par3 C.calm (by rw [C.hN]; exact C.nd) (by rw [C.hN]; exact nx) (by rw [C.hN]; exact ny) (by rw [C.hN]; exact nz) (of_decide_eq_true h2) (of_decide_eq_true h2a) (of_decide_eq_true h2b) (by rw [hs]; exact lx) (by rw [hs]; exact ly) (by rw [hs]; exact lz) (pa_of h4 (snd_Es C hs es _ h6))
            (swK_ok hk' (by rw [hs]; exact of_decide_eq_true h1))) fun D σ H q => in_par3 (fun l hl => ?_) q
          have := opIn_ok h3 l hl
          simp only [List.mem_cons, List.not_mem_nil, or_false, not_or] at this
          exact this
        · simp at h5
      · cases h
    · cases h
  | fx, .sto i path k e, p, h => by
    unfold chkS at h
    split at h
    · rename_i o k' p' e' pos
      simp only [Bool.and_eq_true] at h
      obtain ⟨⟨⟨⟨h1, h2⟩, h3⟩, h4⟩, h5⟩ := h
      cases path with
      | cons _ _ => cases h1
      | nil => exact PS.imp (ps_asg (snd_E C hs e e' h5) (pg_sub (pe_varB C.hN hs h2) (snd_E C hs k k' h4) (set_both C.room) (set_sub h3)) (sub_sw (o := o) (i := k') (p := p') (l := pos.line) (env := X.env)) rfl rfl) fun D σ H q => in_sto q
    · cases h
  | _, .stoT _ _, _, h => by unfold chkS at h; cases h
  | fx, .aug i o e, p, h => by
    unfold chkS at h
    split at h
    · rename_i x px o' e' pos
      simp only [Bool.and_eq_true] at h
      obtain ⟨⟨⟨⟨⟨h1, h2⟩, h3⟩, h4⟩, h5⟩, h6⟩ := h
      have h3 := of_decide_eq_true h3
      subst h3
      refine PS.imp (ps_aug (i := i) (by rw [C.hN]; exact C.nd) (by rw [C.hN]; exact of_decide_eq_true h1) (by rw [hs]; exact loc_of h2) (snd_E C hs e e' h6) (ip_all o') (.inl (hf x))) fun D σ H q => in_aug (by rintro rfl; cases h4) (by simpa using h5) q
    · cases h
  | fx, .augS i path k o e, p, h => by
    unfold chkS at h
    split at h
    · rename_i x k' p' o' e' pos
      simp only [Bool.and_eq_true] at h
      obtain ⟨⟨⟨⟨⟨⟨h1, h2⟩, h3⟩, h4⟩, h5⟩, h6⟩, h7⟩ := h
      have h4 := of_decide_eq_true h4
      subst h4
      cases path with
      | cons _ _ => cases h1
      | nil => exact PS.imp (ps_augS (pe_varB C.hN hs h2) (snd_E C hs k k' h6) (get_sub C.room) (snd_E C hs e e' h7) (ip_all o') (set_both C.room) (aug_sub h3)) fun D σ H q => in_augS (by rintro rfl; cases h5) q
    · cases h
  | fx, .app i path e, p, h => by
    unfold chkS at h
    split at h
    · rw [Bool.and_eq_true] at h
      cases path with
      | cons _ _ => exact absurd h.1 (by simp)
      | nil =>
        have h := h.2
        split at h
        · rename_i e' he
          exact PS.imp (ps_m C hs he PySem.F.slot_list_append PySem.F.type_list_append mt_append (snd_E C hs e e' h)) fun D σ H q => in_app q
        · cases h
    · cases h
  | fx, .ext i path e, p, h => by
    unfold chkS at h
    split at h
    · rw [Bool.and_eq_true] at h
      cases path with
      | cons _ _ => exact absurd h.1 (by simp)
      | nil =>
        have h := h.2
        split at h
        · rename_i e' he
          exact PS.imp (ps_m C hs he PySem.F.slot_list_extend PySem.F.type_list_extend mt_extend (snd_E C hs e e' h)) fun D σ H q => in_ext q
        · cases h
    · cases h
  | fx, .rem i path e, p, h => by
    unfold chkS at h
    split at h
    · rw [Bool.and_eq_true] at h
      cases path with
      | cons _ _ => exact absurd h.1 (by simp)
      | nil =>
        have h := h.2
        split at h
        · rename_i e' he
          exact PS.imp (ps_m C hs he PySem.F.slot_list_remove PySem.F.type_list_remove mt_remove (snd_E C hs e e' h)) fun D σ H q => in_rem q
        · cases h
    · cases h
  | fx, .ex e, p, h => by
    unfold chkS at h
    split at h
    · rw [Bool.and_eq_true] at h
      exact PS.imp (ps_expr (snd_E C hs e _ h.2) (isComp_sw (by simpa using h.1))) fun D σ H q => in_ex q
    · cases h
  | fx, .ite c a b, p, h => by
    unfold chkS at h
    split at h
    · simp only [Bool.and_eq_true] at h
      exact PS.imp (ps_if (snd_T C hs c _ h.1.1) (snd_Ss C hs hk hf fx a _ h.1.2) (snd_Ss C hs hk hf fx b _ h.2)) fun D σ H q => in_if q
    · cases h
  | fx, .whl c b, p, h => by
    unfold chkS at h
    split at h
    · simp only [Bool.and_eq_true] at h
      exact PS.imp (ps_while C.pass (snd_T C hs c _ h.1) (snd_Ss C hs hk hf fx b _ h.2)) fun D σ H q => in_while q
    · cases h
  | fx, .for_ tg k src b, p, h => by
    unfold chkS at h
    split at h
    · simp only [Bool.and_eq_true] at h
      obtain ⟨⟨⟨⟨⟨⟨h1, h1z⟩, h2⟩, h3⟩, h4⟩, h5⟩, h6⟩ := h
      split at h5
      · rename_i ps hps
        exact PS.imp (ps_for C.pass C.calm (pi_of C hs k hps (snd_Es C hs src _ h5) h1z) (pg_T C hs (fnB := fun _ => true) (fun x _ => hf x) tg _ h3) (snd_Ss C hs hk hf (lentFx k src ++ fx) b _ h6) (notSet_ok h1)) fun D σ H q => in_for h2 (fun j hj hj' => opIn_ok h4 j hj' hj) q
      · cases h5
    · cases h
  | fx, .ret e, p, h => by
    unfold chkS at h
    split at h
    · exact PS.imp (ps_ret (snd_E C hs e _ h)) fun D σ H q => in_ret q
    · cases h
  | fx, .retN, p, h => by
    unfold chkS at h
    split at h
    · exact PS.imp ps_retN fun D σ H q => in_simple (f := .rt .non) (fun _ => rfl) (fun _ _ => ⟨rfl, rfl⟩) q
    · cases h
  | fx, .brk, p, h => by
    unfold chkS at h
    split at h
    · exact PS.imp ps_break fun D σ H q => in_simple (f := .bk) (fun _ => rfl) (fun _ _ => rfl) q
    · cases h
  | fx, .cnt, p, h => by
    unfold chkS at h
    split at h
    · exact PS.imp ps_continue fun D σ H q => in_simple (f := .ct) (fun _ => rfl) (fun _ _ => rfl) q
    · cases h
  | fx, .pass, p, h => by
    unfold chkS at h
    split at h
    · exact PS.imp ps_pass fun D σ H q => in_simple (f := .nx) (fun _ => rfl) (fun _ _ => rfl) q
    · exact PS.imp ps_doc fun D σ H q => in_simple (f := .nx) (fun _ => rfl) (fun _ _ => rfl) q
    · cases h
theorem snd_Ss {P : Ctx} {fn : List (Str × Nat)} {bl N : List Str} {X : Cx} {sc : Scope} (C : CtxOk P fn bl N X) (hs : X.env.scope = sc) (hk : sc.kind = .function) (hf : ∀ x, X.fn x = true) : ∀ (fx : List Nat) (s : List S) (p : List Stmt), chkSs fn bl N sc fx s p = true → PSs X p (tSs X.K P fx s)
  | fx, [], ps, h => by
    unfold chkSs at h
    cases ps with
    | nil => exact PSs.imp pss_nil fun D σ H q => in_nil q
    | cons _ _ => cases h
  | fx, s :: ss, ps, h => by
    unfold chkSs at h
    cases ps with
    | nil => cases h
    | cons p ps =>
      have h : (chkS fn bl N sc fx s p && chkSs fn bl N sc fx ss ps) = true := h
      rw [Bool.and_eq_true] at h
      exact PSs.imp (pss_cons (snd_S C hs hk hf fx s p h.1) (snd_Ss C hs hk hf fx ss ps h.2)) fun D σ H q => in_seq q
end
end DL
end

section
/-! DL23: defs, programs. -/
namespace DL
open PySem PySem.Spec L2
open PyProof.Rows hiding St

def fxOf (n : Nat) (re : List Nat) : List Nat := (List.range n).filter fun i => !re.contains i
/-- a def of the text against its compact text -/
def FnAt (fn : List (Str × Nat)) (bl : List Str) (K : PySem.W.Frag) (mg : Str → Option Value) (x : Str) (n : Nat) (F : FD) : Prop :=
  ∃ (st : Stmt) (f : Addr) (fd : FuncData) (N ps : List Str), L2.Fun K x x st f fd ∧ FnScope N ps (L2.defScope st) ∧ ps.length = n ∧ N.length = F.ns ∧ F.np = n ∧ n ≤ N.length ∧ Binds K fd ps [] ∧ mg x = some (.ref f) ∧
    chkSs fn bl N (L2.defScope st) (fxOf n F.re) F.body (L2.defBody st) = true

section
variable {K : PySem.W.Frag} {Z : Addr → Prop} {H : Hp}
theorem getE_set {env : EnvD} {i j : Nat} {x : Option D} (h : i ≠ j) : getE (env.set i x) j = getE env j := by
  unfold getE
  rw [List.getElem?_set_ne h]
theorem backP_set {re : List Nat} {env : EnvD} {j : Nat} {x : Option D} : ∀ {ds : List D} {i : Nat}, j < i → backP re i ds (env.set j x) = backP re i ds env
  | [], _, _ => rfl
  | d :: ds, i, h => by
    show ((if d.plain then some d else if re.contains i then none else getE (env.set j x) i).bind fun x' => (backP re (i + 1) ds (env.set j x)).map fun xs => x' :: xs) = ((if d.plain then some d else if re.contains i then none else getE env i).bind fun x' => (backP re (i + 1) ds env).map fun xs => x' :: xs)
    rw [backP_set (by omega), getE_set (by omega)]
theorem back_params {re : List Nat} {σ : L2.St} {Z0 : Addr → Prop} {H0 : Hp} (hz : ∀ a, Z0 a → Z a) (hk : ∀ a o, H0 a = some o → (isMut o = false ∨ Z0 a) → H a = some o) : ∀ {ds ds' : List D} {vs : List V} {c0 : Cnt} {i : Nat} {env : EnvD} {c : Cnt}, ED K Z H env σ c → Dens K Z0 H0 ds vs c0 →
    (∀ j v, vs[j]? = some v → re.contains (i + j) = false → σ[i + j]? = some (some v)) → backP re i ds env = some ds' → ∃ c', Dens K Z H ds' vs c' ∧ ∀ a, c' a ≤ c a
  | [], _, _, _, i, env, c, E, q, hs, h => by
    cases h
    obtain ⟨rfl, rfl⟩ := q
    exact ⟨zc, ⟨rfl, rfl⟩, fun a => Nat.zero_le _⟩
  | d :: ds, _, _, _, i, env, c, E, q, hs, h => by
    obtain ⟨v, r, c1, c2, rfl, q1, q2, rfl⟩ := q
    obtain ⟨x, h1, h2⟩ := bind_some (show ((if d.plain then some d else if re.contains i then none else getE env i).bind fun x' => (backP re (i + 1) ds env).map fun xs => x' :: xs) = some _ from h)
    obtain ⟨xs, h3, rfl⟩ := map_some h2
    have hs' : ∀ j v, r[j]? = some v → re.contains (i + 1 + j) = false → σ[i + 1 + j]? = some (some v) := fun j v hj hc => by
      have e : i + 1 + j = i + (j + 1) := by omega
      rw [e] at hc ⊢
      exact hs (j + 1) v (by simpa using hj) hc
    split at h1
    · rename_i hp
      cases h1
      have := Den.pl hp q1
      subst this
      obtain ⟨c', q', le⟩ := back_params hz hk E q2 hs' h3
      exact ⟨add zc c', ⟨v, r, zc, c', rfl, Den.loc hz (fun a o h x => hk a o h (x.elim .inl fun x => x.elim .inr fun x => absurd rfl x)) q1, q', rfl⟩, fun a => by have := le a; simp only [add, zc]; omega⟩
    · split at h1
      · cases h1
      · rename_i hc
        obtain ⟨w, k1, k2, hw, qw, E2, rfl⟩ := E.take (getE_some h1)
        have hv := hs 0 v (by simp) (by simpa using hc)
        rw [show i + 0 = i from rfl, hw] at hv
        cases hv
        rw [← backP_set (j := i) (x := none) (Nat.lt_succ_self i)] at h3
        obtain ⟨c', q', le⟩ := back_params hz hk E2 q2 hs' h3
        exact ⟨add k1 c', ⟨_, r, k1, c', rfl, qw, q', rfl⟩, fun a => by have := le a; simp only [add]; omega⟩
theorem ED_start : ∀ {ds : List D} {vs : List V} {c : Cnt}, Dens K Z H ds vs c → ∀ m, ED K Z H (ds.map some ++ List.replicate m none) (vs.map some ++ List.replicate m none) c
  | [], _, _, q, m => by
    obtain ⟨rfl, rfl⟩ := q
    induction m with
    | zero => exact ⟨rfl, rfl⟩
    | succ m ih => exact ⟨none, _, rfl, ih⟩
  | d :: ds, _, _, q, m => by
    obtain ⟨v, r, c1, c2, rfl, q1, q2, rfl⟩ := q
    exact ⟨v, _, c1, c2, rfl, q1, ED_start q2 m, rfl⟩
end

theorem fn_step {P : Program} {w : World} {K : PySem.W.Frag} {mg : Str → Option Value} {base : Heap} {fn : List (Str × Nat)} {bl : List Str} {T : List FD} {d f n : Nat} {x : Str} {F : FD} {st : Stmt} {fa : Addr} {fd : FuncData} {N ps : List Str}
    (ih : ∀ (f : Nat) (x : Str) (n : Nat), fn[f]? = some (x, n) → ∃ (fa : Addr) (fd : FuncData) (ps : List Str), ps.length = n ∧ mg x = some (.ref fa) ∧ PySem.W.keepIn K (.ref fa) = true ∧ Binds K fd ps [] ∧
      FnOk P w K mg base L2.CX0 d fa fd ps (spD K n (evF T d f)))
    (hb : ∀ x : Str, bl.contains x = true → mg x = none) (hF : T[f]? = some F) (FF : L2.Fun K x x st fa fd) (S : FnScope N ps (L2.defScope st)) (hl : ps.length = n) (hN : N.length = F.ns) (hnp : F.np = n) (hle : n ≤ N.length)
    (hc : chkSs fn bl N (L2.defScope st) (fxOf n F.re) F.body (L2.defBody st) = true) : FnOk P w K mg base L2.CX0 (d + 1) fa fd ps (spD K n (evF T (d + 1) f)) := by
    refine FF.ok S (fun vs H Q E hsp => by rw [hsp.1, hl]) fun cdv A outer s H vs Q E hr hsp => ?_
    obtain ⟨hvl, Z, ds, c, r, ds', q, G, hg, k⟩ := hsp
    have C : CtxOk ⟨evF T d⟩ fn bl N (cxOf L2.CX0 P w K mg base N x (L2.defScope st) fa cdv A outer s H E).nox := {
      calm := rfl
      hN := rfl
      nd := S.nd
      pass := PassesOwn.never
      room := hr.mono (Nat.zero_le _)
      fns := fun f' x' n' h' => by
        obtain ⟨fa', fd', ps', hl', hm', hk', hB', F'⟩ := ih f' x' n' h'
        exact ⟨fa', fd', ps', d, hl', hm', hk', hB', hr, by rw [hl']; exact F'⟩
      blt := hb }
    refine ⟨_, snd_Ss C rfl S.kind (fun _ => rfl) (fxOf n F.re) F.body _ hc, ?_⟩
    obtain ⟨F', hF', hg⟩ := bind_some (show ((T[f]?).bind fun fd => runF ⟨evF T d⟩ fd ds) = some (r, ds') from hg)
    rw [hF] at hF'
    cases hF'
    unfold runF at hg
    split at hg
    · rename_i hdl
      obtain ⟨y, h1, h2⟩ := bind_some hg
      have hdn : ds.length = n := by rw [hdl, hnp]
      have hvn : vs.length = n := by rw [q.length, hdn]
      have E0 : ED K Z H (ds.map some ++ List.replicate (F.ns - F.np) none) (L2.start N vs) c := by
        unfold L2.start
        rw [hN, hvn, hnp]
        exact ED_start q _
      refine ⟨Z, c, _, y.1, y.2, E0, G, h1, fun v σ' H' Z' c' cr E' q' G' F' X' => ?_⟩
      have fin : ∀ (rr : D), Den K Z' H' rr v cr → (backP F.re 0 ds y.2).map (fun ds' => (rr, ds')) = some (r, ds') → Q v H' := fun rr qr hb' => by
        obtain ⟨ds2, h3, h4⟩ := map_some hb'
        injection h4 with h5 h6
        subst h5 h6
        obtain ⟨c2, q2, le⟩ := back_params (Z0 := Z) (H0 := H) F'.zz (fun a o h x => F'.keep (e := zc) (by rw [add_zc]; exact G) a o h (x.elim .inl fun x => .inr (.inl x))) E' q (fun j v' hj hcon => by
          rw [Nat.zero_add] at hcon ⊢
          have hjn : j < vs.length := (List.getElem?_eq_some_iff.mp hj).1
          rw [X'.2 j (by
            unfold fxOf
            rw [List.mem_filter, List.mem_range]
            exact ⟨by omega, by rw [hcon]; rfl⟩)]
          unfold L2.start
          rw [List.getElem?_append_left (by simpa using hjn), List.getElem?_map, hj]
          rfl) h3
        exact k v H' Z' cr c2 qr q2 (G'.le fun a => by have := le a; simp only [add]; omega) (F'.lessR fun a => by have := le a; simp only [add]; omega)
      cases hy : y.1 with
      | rt d' => rw [hy] at q' h2; exact fin d' q' h2
      | nx =>
        rw [hy] at q' h2
        have q' : cr = zc := q'
        subst q'
        -- the value of a def that runs out is None
        show Q .non H'
        obtain ⟨ds2, h3, h4⟩ := map_some (show (backP F.re 0 ds y.2).map (fun ds' => (D.non, ds')) = some (r, ds') from h2)
        injection h4 with h5 h6
        subst h5 h6
        obtain ⟨c2, q2, le⟩ := back_params (Z0 := Z) (H0 := H) F'.zz (fun a o h x => F'.keep (e := zc) (by rw [add_zc]; exact G) a o h (x.elim .inl fun x => .inr (.inl x))) E' q (fun j v' hj hcon => by
          rw [Nat.zero_add] at hcon ⊢
          have hjn : j < vs.length := (List.getElem?_eq_some_iff.mp hj).1
          rw [X'.2 j (by
            unfold fxOf
            rw [List.mem_filter, List.mem_range]
            exact ⟨by omega, by rw [hcon]; rfl⟩)]
          unfold L2.start
          rw [List.getElem?_append_left (by simpa using hjn), List.getElem?_map, hj]
          rfl) h3
        exact k .non H' Z' zc c2 ⟨rfl, rfl⟩ q2 (G'.le fun a => by have := le a; simp only [add]; omega) (F'.lessR fun a => by have := le a; simp only [add]; omega)
      | bk => rw [hy] at h2; cases h2
      | ct => rw [hy] at h2; cases h2
    · cases hg
theorem fn_all {P : Program} {w : World} {K : PySem.W.Frag} {mg : Str → Option Value} {base : Heap} {fn : List (Str × Nat)} {bl : List Str} {T : List FD} (hT : ∀ (f : Nat) (x : Str) (n : Nat), fn[f]? = some (x, n) → ∃ F, T[f]? = some F ∧ FnAt fn bl K mg x n F)
    (hb : ∀ x : Str, bl.contains x = true → mg x = none) : ∀ (d f : Nat) (x : Str) (n : Nat), fn[f]? = some (x, n) → ∃ (fa : Addr) (fd : FuncData) (ps : List Str), ps.length = n ∧ mg x = some (.ref fa) ∧ PySem.W.keepIn K (.ref fa) = true ∧ Binds K fd ps [] ∧
      FnOk P w K mg base L2.CX0 d fa fd ps (spD K n (evF T d f))
  | 0, f, x, n, h => by
    obtain ⟨F, hF, st, fa, fd, N, ps, FF, S, hl, hN, hnp, hle, hB, hm, hc⟩ := hT f x n h
    refine ⟨fa, fd, ps, hl, hm, FF.kp, hB, ⟨fun vs H Q E hsp => by rw [hsp.1, hl], fun A outer s H args us vs Q E hr he hbt hv hsp => ?_⟩⟩
    obtain ⟨_, Z, ds, c, r, ds', _, _, hg, _⟩ := hsp
    cases hg
  | d + 1, f, x, n, h => by
    obtain ⟨F, hF, st, fa, fd, N, ps, FF, S, hl, hN, hnp, hle, hB, hm, hc⟩ := hT f x n h
    exact ⟨fa, fd, ps, hl, hm, FF.kp, hB, fn_step (fn_all hT hb d) hb hF FF S hl hN hnp hle hc⟩
end DL
end

section
/-! DL24: facts of the top; the head. -/
namespace DL
open PySem PySem.Spec L2
open PyProof.Rows hiding St

theorem fnAt_mk {fn : List (Str × Nat)} {bl : List Str} {K : PySem.W.Frag} {h : Heap} {mg : Str → Option Value} {x : Str} {n : Nat} {F : FD} {st : Stmt} {N ps : List Str} {f : Addr} {oc : Value} {od an : Option Addr} {osl : Array (Option Value)} {kV doc pm cdv ct : Value} (X : K.In h) (G : h.Ns mainGlobals mg)
    (S : FnScope N ps (L2.defScope st))
    (hb : ∀ (kV doc pm : Value) (an : Option Addr) (cdv ct : Value) (us : List Value), us.length = ps.length → bindArgs (PySem.W.fnOf x x (L2.defArgs st) (L2.defBody st) (L2.defScope st) .none kV doc pm an cdv ct) ⟨us, []⟩ = pure (ps.zip us))
    (hn : ps.length = n) (hN : N.length = F.ns) (hp : F.np = n) (hle : n ≤ N.length) (hc : chkSs fn bl N (L2.defScope st) (fxOf n F.re) F.body (L2.defBody st) = true)
    (a : PySem.W.nsIn K mainGlobals x = some (some (.ref f)))
    (l : K.lookup f = some ⟨oc, od, .func (PySem.W.fnOf x x (L2.defArgs st) (L2.defBody st) (L2.defScope st) .none kV doc pm an cdv ct), osl⟩) (c : PySem.W.codeIn K cdv x = true) (k : PySem.W.keepIn K (.ref f) = true) : FnAt fn bl K mg x n F :=
  ⟨st, f, _, N, ps, fun_mk l c k, S, hn, hN, hp, hle, (fun_mk l c k).binds hb, PySem.W.mg_of X G a, hc⟩

/-- all defs, in order -/
inductive AllAt (fn : List (Str × Nat)) (bl : List Str) (K : PySem.W.Frag) (mg : Str → Option Value) : List (Str × Nat) → List FD → Prop where
  | nil : AllAt fn bl K mg [] []
  | cons {x : Str} {n : Nat} {F : FD} {r : List (Str × Nat)} {T : List FD} : FnAt fn bl K mg x n F → AllAt fn bl K mg r T → AllAt fn bl K mg ((x, n) :: r) (F :: T)
theorem AllAt.at {fn : List (Str × Nat)} {bl : List Str} {K : PySem.W.Frag} {mg : Str → Option Value} : ∀ {r : List (Str × Nat)} {T : List FD}, AllAt fn bl K mg r T → ∀ (f : Nat) (x : Str) (n : Nat), r[f]? = some (x, n) → ∃ F, T[f]? = some F ∧ FnAt fn bl K mg x n F
  | _, _, .nil, _, _, _, h => by simp at h
  | _, _, .cons h1 h2, 0, x, n, h => by
    have h : some _ = some (x, n) := h
    injection h with h
    injection h with e1 e2
    subst e1 e2
    exact ⟨_, rfl, h1⟩
  | _, _, .cons h1 h2, f + 1, x, n, h => by
    obtain ⟨F, g1, g2⟩ := h2.at f x n (by simpa using h)
    exact ⟨F, by simpa using g1, g2⟩
theorem scr_of {K : PySem.W.Frag} {H : Hp} {a : Addr} {xs : List V} (hO : Only H) (hS : SqL K H a xs) : ScrL K H a xs := by
  rcases hS with (hS | hS) | hS
  · rcases hO a with h | ⟨o, ys, h⟩
    · rw [h] at hS; cases hS
    · rw [h] at hS; cases hS
  · exact .inl hS
  · exact .inr hS
/-- the law's promise, from what the evaluator says -/
theorem law_says {K : PySem.W.Frag} {H : Hp} {a : Addr} {ns : List Int} {g : List D → Option (D × List D)} (hO : Only H) (hS : SqL K H a (ns.map V.int)) (h : ∃ ds', g [.scr ns] = some (.bl true, ds')) : spD K 1 g [.ref a] H (fun v _ => v = .bl true) fun _ _ _ => False := by
  obtain ⟨ds', h⟩ := h
  refine ⟨rfl, fun _ => False, [.scr ns], zc, _, ds', ⟨.ref a, [], zc, zc, rfl, ⟨a, rfl, scr_of hO hS, rfl⟩, ⟨rfl, rfl⟩, (add_zc _).symm⟩, fun a => ⟨Nat.zero_le _, fun x => absurd rfl x, fun x => x.elim⟩, h, fun v H' Z' cr c' q _ _ _ => q.1⟩
theorem law_F {P : Program} {w : World} {K : PySem.W.Frag} {h : Heap} {mg : Str → Option Value} {fa : Addr} {fn : List (Str × Nat)} {bl : List Str} {T : List FD} {li k : Nat} {nm x : Str} {F : FD} {st : Stmt} {N : List Str} {f : Addr} {oc : Value} {od an : Option Addr} {osl : Array (Option Value)} {kV doc pm cdv ct : Value} (X : K.In h) (G : h.Ns mainGlobals mg)
    (A : AllAt fn bl K mg fn T) (hb : ∀ x : Str, bl.contains x = true → mg x = none) (hfa : mg nm = some (.ref fa)) (S : FnScope N [x] (L2.defScope st))
    (hbd : ∀ (kV doc pm : Value) (an : Option Addr) (cdv ct : Value) (us : List Value), us.length = 1 → bindArgs (PySem.W.fnOf nm nm (L2.defArgs st) (L2.defBody st) (L2.defScope st) .none kV doc pm an cdv ct) ⟨us, []⟩ = pure ([x].zip us))
    (hF : T[li]? = some F) (hN : N.length = F.ns) (hp : F.np = 1) (hle : 1 ≤ N.length) (hc : chkSs fn bl N (L2.defScope st) (fxOf 1 F.re) F.body (L2.defBody st) = true)
    (a : PySem.W.nsIn K mainGlobals nm = some (some (.ref f)))
    (l : K.lookup f = some ⟨oc, od, .func (PySem.W.fnOf nm nm (L2.defArgs st) (L2.defBody st) (L2.defScope st) .none kV doc pm an cdv ct), osl⟩) (c : PySem.W.codeIn K cdv nm = true) (kp : PySem.W.keepIn K (.ref f) = true) :
    ∃ fd : FuncData, (∀ (s : Shared) (u : Value), BindsTo s fd ⟨[u], []⟩ [(x, u)]) ∧ ∀ base : Heap, K.In base → base.Ns mainGlobals mg → FnOk P w K mg base L2.CX0 (k + 1) fa fd [x] (spD K 1 (evF T (k + 1) li)) := by
  have e := hfa.symm.trans (PySem.W.mg_of X G a)
  cases e
  exact ⟨_, fun s u => .of_eq (hbd kV doc pm an cdv ct [u] rfl), fun base _ _ => fn_step (fn_all (fun f x n h => A.at f x n h) hb k) hb hF (fun_mk l c kp) S rfl hN hp hle hc⟩
end DL
end

section
/-! DL25: words for running the evaluator by hand. -/
namespace DL
open PySem PySem.Spec L2
section
variable {P : DL.Ctx} {env : EnvD}
theorem getE0 {x : Option D} {r : EnvD} : getE (x :: r) 0 = x := rfl
theorem getES {x : Option D} {r : EnvD} {n : Nat} : getE (x :: r) (n + 1) = getE r n := rfl
theorem pl_int {i : Int} : D.plain (.int i) = true := rfl
theorem pl_bl {i : Bool} : D.plain (.bl i) = true := rfl
theorem pl_non : D.plain .non = true := rfl
theorem pl_str {s : Str} : D.plain (.str s) = true := rfl
theorem pl_scr {ns : List Int} : D.plain (.scr ns) = true := rfl
theorem pl_tup {ds : List D} : D.plain (.tup ds) = D.plains ds := rfl
theorem pl_lst {o : Bool} {ds : List D} : D.plain (.lst o ds) = !o := rfl
theorem pl_dK {o : Bool} {ks : List Key} {ds : List D} : D.plain (.dK o ks ds) = !o := rfl
theorem pls_nil : D.plains [] = true := rfl
theorem pls_cons {d : D} {ds : List D} : D.plains (d :: ds) = (D.plain d && D.plains ds) := rfl
theorem pls_ints (ns : List Int) : D.plains (ns.map .int) = true := by
  induction ns with
  | nil => rfl
  | cons n ns ih => exact ih
theorem fr_int {i : Int} : D.freeze (.int i) = .int i := rfl
theorem o_add {i j : Int} : opD (.bin .Add) [.int i, .int j] = some (.int (i + j)) := rfl
theorem o_sub {i j : Int} : opD (.bin .Sub) [.int i, .int j] = some (.int (i - j)) := rfl
theorem o_mul {i j : Int} (h : mulOk i j = true) : opD (.bin .Mult) [.int i, .int j] = some (.int (i * j)) := by
  show (if mulOk i j then _ else _) = _
  rw [h]; rfl
theorem o_div {i j : Int} (h : divOk j = true) : opD (.bin .FloorDiv) [.int i, .int j] = some (.int (divD i j)) := by
  show (if divOk j then _ else _) = _
  rw [h]; rfl
theorem o_mod {i j : Int} (h : j ≠ 0) : opD (.bin .Mod) [.int i, .int j] = some (.int (modD i j)) := by
  show (if decide (j ≠ 0) then _ else _) = _
  rw [decide_eq_true h]; rfl
theorem o_neg {i : Int} : opD .neg [.int i] = some (.int (-i)) := rfl
theorem o_abs {i : Int} : opD .abs [.int i] = some (.int (if i < 0 then -i else i)) := rfl
theorem o_toInt {i : Int} : opD .toInt [.int i] = some (.int i) := rfl
theorem o_lt {i j : Int} : opD (.cmp .Lt) [.int i, .int j] = some (.bl (decide (i < j))) := rfl
theorem o_le {i j : Int} : opD (.cmp .LtE) [.int i, .int j] = some (.bl (decide (i ≤ j))) := rfl
theorem o_gt {i j : Int} : opD (.cmp .Gt) [.int i, .int j] = some (.bl (decide (j < i))) := rfl
theorem o_ge {i j : Int} : opD (.cmp .GtE) [.int i, .int j] = some (.bl (decide (j ≤ i))) := rfl
theorem eqv_int (i j : Int) : D.eqv (.int i) (.int j) = decide (i = j) := by
  show (i == j) = _
  by_cases h : i = j <;> simp [h]
theorem o_eq {i j : Int} : opD (.cmp .Eq) [.int i, .int j] = some (.bl (decide (i = j))) := by
  show (if (D.int i).shp && (D.int j).shp then some (D.bl (D.eqv (.int i) (.int j))) else none) = _
  rw [eqv_int]; rfl
theorem o_ne {i j : Int} : opD (.cmp .NotEq) [.int i, .int j] = some (.bl (!decide (i = j))) := by
  show (if (D.int i).shp && (D.int j).shp then some (D.bl (!D.eqv (.int i) (.int j))) else none) = _
  rw [eqv_int]; rfl
theorem o_lenL {o : Bool} {ds : List D} : opD .len [.lst o ds] = some (.int ds.length) := rfl
theorem o_lenT {ds : List D} : opD .len [.tup ds] = some (.int ds.length) := rfl
theorem o_lenS {ns : List Int} : opD .len [.scr ns] = some (.int ns.length) := rfl
theorem tr_bl {b : Bool} : D.truthy (.bl b) = some b := rfl
theorem a_add {i j : Int} : augD .Add (.int i) (.int j) = some (.int (i + j)) := rfl
theorem a_sub {i j : Int} : augD .Sub (.int i) (.int j) = some (.int (i - j)) := rfl
theorem upd_nil {f : D → Option D} {d : D} : updD f d [] = f d := by cases d <;> rfl
theorem getP1 {d k : D} : getP d [k] = subD d k := by
  have h : ∀ d : D, getP d [] = some d := fun d => by cases d <;> rfl
  have : getP d [k] = (subD d k).bind fun x => getP x [] := by cases d <;> rfl
  rw [this]
  cases subD d k with
  | none => rfl
  | some x => exact h x
theorem mk_plain {t : Bool} {d : D} (h : d.plain = true) : mkA t d = .tmp d := by unfold mkA; rw [h]; rfl
theorem fr_lst {o : Bool} {ds : List D} : D.freeze (.lst o ds) = .lst false (D.freezes ds) := rfl
theorem mk_t {d : D} : mkA true d = .tmp d := by unfold mkA; rw [Bool.or_true]; rfl
theorem mk_int {t : Bool} {i : Int} : mkA t (.int i) = .tmp (.int i) := rfl
theorem mk_pk {d : D} (h : d.plain = false) : mkA false d = .pk d := by unfold mkA; rw [h]; rfl
theorem mk_lst {ds : List D} : mkA false (.lst true ds) = .pk (.lst true ds) := rfl
theorem sub_L {o : Bool} {ds : List D} {i : Int} : subD (.lst o ds) (.int i) = atI ds i := rfl
theorem sub_T {ds : List D} {i : Int} : subD (.tup ds) (.int i) = atI ds i := rfl
theorem sub_S {ns : List Int} {i : Int} : subD (.scr ns) (.int i) = (atI ns i).map .int := rfl
theorem at_nat {α : Type} {xs : List α} {n : Nat} {x : α} (h : xs[n]? = some x) : atI xs (n : Int) = some x := L2.atI_nat h

theorem while_stop {c : EnvD → Option (Bool × EnvD)} {b : EnvD → Option (Fl × EnvD)} {e : EnvD} (h : c env = some (false, e)) : whileF c b env = some (.nx, e) := by
  rw [whileF, h]
theorem while_next {c : EnvD → Option (Bool × EnvD)} {b : EnvD → Option (Fl × EnvD)} {e e' : EnvD} (h : c env = some (true, e)) (h2 : b e = some (.nx, e')) : whileF c b env = whileF c b e' := by
  rw [whileF, h]
  simp only [h2]
theorem loop_next {step : D → EnvD → Option (Fl × EnvD)} {x : D} {r : List D} {e : EnvD} (h : step x env = some (.nx, e)) : loopF step (x :: r) env = loopF step r e := by
  show (step x env).bind _ = _
  rw [h]; rfl
theorem loop_brk {step : D → EnvD → Option (Fl × EnvD)} {x : D} {r : List D} {e : EnvD} (h : step x env = some (.bk, e)) : loopF step (x :: r) env = some (.nx, e) := by
  show (step x env).bind _ = _
  rw [h]; rfl
theorem loop_ret {step : D → EnvD → Option (Fl × EnvD)} {x d : D} {r : List D} {e : EnvD} (h : step x env = some (.rt d, e)) : loopF step (x :: r) env = some (.rt d, e) := by
  show (step x env).bind _ = _
  rw [h]; rfl
theorem ss_nx {s : S} {r : List S} {e : EnvD} (h : evS P s env = some (.nx, e)) : evSs P (s :: r) env = evSs P r e := by
  show (evS P s env).bind _ = _
  rw [h]; rfl
theorem ss_rt {s : S} {r : List S} {e : EnvD} {d : D} (h : evS P s env = some (.rt d, e)) : evSs P (s :: r) env = some (.rt d, e) := by
  show (evS P s env).bind _ = _
  rw [h]; rfl
theorem run_of {f : FD} {ds ds' : List D} {r : D} {e : EnvD} (hl : ds.length = f.np) (h : evSs P f.body (ds.map some ++ List.replicate (f.ns - f.np) none) = some (.rt r, e)) (hb : backP f.re 0 ds e = some ds') : runF P f ds = some (r, ds') := by
  unfold runF
  rw [if_pos hl, h]
  show (backP f.re 0 ds e).map _ = _
  rw [hb]; rfl
theorem call_of {T : List FD} {k i : Nat} {f : FD} {ds ds' : List D} {r : D} {e : EnvD} (hT : T[i]? = some f) (hl : ds.length = f.np) (h : evSs ⟨evF T k⟩ f.body (ds.map some ++ List.replicate (f.ns - f.np) none) = some (.rt r, e)) (hb : backP f.re 0 ds e = some ds') : evF T (k + 1) i ds = some (r, ds') := by
  show ((T[i]?).bind fun fd => runF ⟨evF T k⟩ fd ds) = _
  rw [hT]
  exact run_of hl h hb
theorem sz0 : szOk 0 = true := by decide
theorem sz1 : szOk 1 = true := by decide
theorem sz2 : szOk 2 = true := by decide
theorem sz3 : szOk 3 = true := by decide
theorem sz4 : szOk 4 = true := by decide
theorem sz5 : szOk 5 = true := by decide
theorem sz6 : szOk 6 = true := by decide
theorem sz7 : szOk 7 = true := by decide
theorem sz8 : szOk 8 = true := by decide
theorem sz9 : szOk 9 = true := by decide
theorem sz10 : szOk 10 = true := by decide
theorem sz11 : szOk 11 = true := by decide
theorem s_for {tg : Tg} {k : SrcK} {src : List E} {b : List S} {as : List A} {e1 : EnvD} {sr : Src} {fl : Fl} {e2 : EnvD} (h1 : evAs P false src env = some (as, e1)) (h2 : forC k as e1 = some sr) (h3 : loopF (fun d e => (bindT tg d e).bind (evSs P b)) sr.its sr.env = some (fl, e2)) : evS P (.for_ tg k src b) env = some (fl, unlend sr.lent e2) := by
  show ((evAs P false src env).bind _) = _
  rw [h1]
  show ((forC k as e1).bind _) = _
  rw [h2]
  show (loopF _ sr.its sr.env).map _ = _
  rw [h3]; rfl
theorem s_rng {tg : Tg} {n : Int} {b : List S} {src : List E} {e1 e2 : EnvD} {fl : Fl} (h1 : evAs P false src env = some ([.tmp (.int n)], e1)) (hr : rngOk n = true) (h3 : loopF (fun d e => (bindT tg d e).bind (evSs P b)) (rngL 0 n) e1 = some (fl, e2)) : evS P (.for_ tg .rng src b) env = some (fl, e2) := by
  refine s_for (sr := ⟨rngL 0 n, false, e1, none⟩) h1 ?_ h3
  show (Option.map _ (if rngOk n then some (rngL 0 n) else none)) = _
  rw [hr]; rfl
theorem s_whl {c : T} {b : List S} {r : Fl × EnvD} (h : whileF (evT P false c) (evSs P b) env = some r) : evS P (.whl c b) env = some r := h
theorem at2_0 {α : Type} {x y : α} : atI [x, y] 0 = some x := rfl
theorem at2_1 {α : Type} {x y : α} : atI [x, y] 1 = some y := rfl
theorem modD_pos {i j : Int} (h : 0 < j) : modD i j = i % j := if_pos h
theorem divD_pos {i j : Int} (h : 0 < j) : divD i j = i / j := if_pos h
theorem abs_nat (i : Int) : (if i < 0 then -i else i) = (i.natAbs : Int) := by split <;> omega

/-! ### loops -/
theorem loop_inv {step : D → EnvD → Option (Fl × EnvD)} (I : EnvD → Prop) : ∀ {its : List D} {env : EnvD}, (∀ d ∈ its, ∀ e, I e → ∃ e', step d e = some (.nx, e') ∧ I e') → I env → ∃ e', loopF step its env = some (.nx, e') ∧ I e'
  | [], env, _, h => ⟨env, rfl, h⟩
  | x :: r, env, hs, h => by
    obtain ⟨e1, h1, h2⟩ := hs x List.mem_cons_self env h
    obtain ⟨e2, h3, h4⟩ := loop_inv I (its := r) (fun d hd e => hs d (List.mem_cons_of_mem _ hd) e) h2
    refine ⟨e2, ?_, h4⟩
    show (step x env).bind _ = _
    rw [h1]
    exact h3
/-- .. counted -/
theorem loop_ix {step : D → EnvD → Option (Fl × EnvD)} (its : List D) (I : Nat → EnvD → Prop) (hs : ∀ i d e, its[i]? = some d → I i e → ∃ e', step d e = some (.nx, e') ∧ I (i + 1) e') {env : EnvD} (h : I 0 env) : ∃ e', loopF step its env = some (.nx, e') ∧ I its.length e' := by
  have key : ∀ (n i : Nat) (env : EnvD), its.length - i = n → i ≤ its.length → I i env → ∃ e', loopF step (its.drop i) env = some (.nx, e') ∧ I its.length e' := by
    intro n
    induction n with
    | zero =>
      intro i env hn hi h
      have : i = its.length := by omega
      subst this
      rw [List.drop_length]
      exact ⟨env, rfl, h⟩
    | succ n ih =>
      intro i env hn hi h
      have hlt : i < its.length := by omega
      obtain ⟨e1, h1, h2⟩ := hs i its[i] env (List.getElem?_eq_getElem hlt) h
      obtain ⟨e2, h3, h4⟩ := ih (i + 1) e1 (by omega) (by omega) h2
      refine ⟨e2, ?_, h4⟩
      rw [List.drop_eq_getElem_cons hlt]
      show (step _ env).bind _ = _
      rw [h1]
      exact h3
  have := key its.length 0 env rfl (Nat.zero_le _) h
  rwa [List.drop_zero] at this
theorem comp_ix {step : D → EnvD → Option (Option D × EnvD)} (its : List D) (hz : its.length ≤ sizeLine) (f : D → Option D) (hs : ∀ d ∈ its, step d env = some (f d, env)) : ∀ (acc : List D), acc.length + its.length ≤ sizeLine → compF step its acc env = some (acc ++ its.filterMap f, env) := by
  induction its with
  | nil => intro acc _; simp [compF]
  | cons x r ih =>
    intro acc hl
    have h1 := hs x List.mem_cons_self
    have ih := ih (by simp at hz; omega) fun d hd => hs d (List.mem_cons_of_mem _ hd)
    show (step x env).bind _ = _
    rw [h1]
    cases hf : f x with
    | none =>
      show compF step r acc env = _
      rw [ih acc (by simp at hl; omega), List.filterMap_cons_none hf]
    | some d =>
      show (if acc.length < sizeLine then compF step r (acc ++ [d]) env else none) = _
      rw [if_pos (by simp at hl; omega), ih (acc ++ [d]) (by simp at hl ⊢; omega), List.filterMap_cons_some hf]
      simp
theorem comp_inv {step : D → EnvD → Option (Option D × EnvD)} (I : List D → EnvD → Prop) : ∀ (its : List D) (acc : List D) (env : EnvD), (∀ d ∈ its, ∀ acc e, I acc e → ∃ x e', step d e = some (some x, e') ∧ I (acc ++ [x]) e') → I acc env → acc.length + its.length ≤ sizeLine → ∃ ds e', compF step its acc env = some (ds, e') ∧ I ds e' ∧ ds.length = acc.length + its.length
  | [], acc, env, _, h, _ => ⟨acc, env, rfl, h, rfl⟩
  | d :: its, acc, env, hs, h, hl => by
    obtain ⟨x, e1, h1, h2⟩ := hs d List.mem_cons_self acc env h
    obtain ⟨ds, e2, h3, h4, h5⟩ := comp_inv I its (acc ++ [x]) e1 (fun d hd => hs d (List.mem_cons_of_mem _ hd)) h2 (by simp at hl ⊢; omega)
    refine ⟨ds, e2, ?_, h4, by simp at h5 ⊢; omega⟩
    show (step d env).bind _ = _
    rw [h1]
    show (if acc.length < sizeLine then compF step its (acc ++ [x]) e1 else none) = _
    rw [if_pos (by simp at hl; omega)]
    exact h3
theorem e_comp {m : Bool} {tg : Tg} {own : List Nat} {src : List E} {ifs : List T} {elt : E} {n : Int} {e1 e2 : EnvD} {ds : List D} (h1 : evAs P m src env = some ([.tmp (.int n)], e1)) (hr : rngOk n = true) (hp : plainAt own e1 = true)
    (h3 : compF (fun d e => (bindT tg d e).bind fun e1 => (evTand P m ifs e1).bind fun t => if t.1 then ((evA P m elt t.2).bind fun x => mat m x.1 x.2).map fun r => (some r.1, wipeE own r.2) else some (none, wipeE own t.2)) (rngL 0 n) [] (wipeE own e1) = some (ds, e2)) :
    evA P m (.comp tg own .rng src ifs elt) env = some (.tmp (.lst true ds), restE own e1 e2) := by
  have hs : srcC .rng m [.tmp (.int n)] e1 = some ⟨rngL 0 n, m, e1, none⟩ := by
    show (Option.map _ (if rngOk n then some (rngL 0 n) else none)) = _
    rw [hr]; rfl
  show ((evAs P m src env).bind _) = _
  rw [h1]
  show ((srcC .rng m [.tmp (.int n)] e1).bind _) = _
  rw [hs]
  show (if plainAt own e1 then _ else none) = _
  rw [if_pos hp]
  show (compF _ (rngL 0 n) [] (wipeE own e1)).map _ = _
  rw [h3]; rfl
theorem rng_at {n : Int} {i : Nat} {d : D} (h : (rngL 0 n)[i]? = some d) : d = .int i ∧ (i : Int) < n := by
  unfold rngL at h
  rw [List.getElem?_map] at h
  cases hi : (List.range (n - 0).toNat)[i]? with
  | none => rw [hi] at h; cases h
  | some k =>
    rw [hi] at h
    have hk := List.getElem?_eq_some_iff.mp hi
    obtain ⟨h1, h2⟩ := hk
    rw [List.getElem_range] at h2
    have h : some (D.int (0 + (k : Int))) = some d := h
    injection h with h
    subst h2
    rw [List.length_range] at h1
    refine ⟨by rw [← h]; simp, by omega⟩
theorem rng_len (n : Int) : (rngL 0 n).length = n.toNat := by unfold rngL; simp
end
mutual
/-- numbers, texts, truth values, None and tuples of such -/
def D.solid : D → Bool
  | .non => true
  | .bl _ => true
  | .int _ => true
  | .str _ => true
  | .tup ds => D.solids ds
  | _ => false
def D.solids : List D → Bool
  | [] => true
  | d :: ds => D.solid d && D.solids ds
end
mutual
theorem freeze_id : ∀ {d : D}, d.solid = true → d.freeze = d
  | .non, _ => rfl
  | .bl _, _ => rfl
  | .int _, _ => rfl
  | .str _, _ => rfl
  | .scr _, h => by cases h
  | .tup ds, h => by show D.tup (D.freezes ds) = _; rw [freezes_id h]
  | .lst _ _, h => by cases h
  | .dK _ _ _, h => by cases h
  | .dT _ _ _, h => by cases h
theorem freezes_id : ∀ {ds : List D}, D.solids ds = true → D.freezes ds = ds
  | [], _ => rfl
  | d :: ds, h => by
    have h : (D.solid d && D.solids ds) = true := h
    rw [Bool.and_eq_true] at h
    show D.freeze d :: D.freezes ds = _
    rw [freeze_id h.1, freezes_id h.2]
end
mutual
theorem solid_pl : ∀ {d : D}, d.solid = true → d.plain = true
  | .non, _ => rfl
  | .bl _, _ => rfl
  | .int _, _ => rfl
  | .str _, _ => rfl
  | .scr _, h => by cases h
  | .tup ds, h => solids_pl (ds := ds) h
  | .lst _ _, h => by cases h
  | .dK _ _ _, h => by cases h
  | .dT _ _ _, h => by cases h
theorem solids_pl : ∀ {ds : List D}, D.solids ds = true → D.plains ds = true
  | [], _ => rfl
  | d :: ds, h => by
    have h : (D.solid d && D.solids ds) = true := h
    rw [Bool.and_eq_true] at h
    show (D.plain d && D.plains ds) = true
    rw [solid_pl h.1, solids_pl h.2]; rfl
end
mutual
theorem freeze_pl : ∀ {d : D}, d.freeze.plain = true
  | .non => rfl
  | .bl _ => rfl
  | .int _ => rfl
  | .str _ => rfl
  | .scr _ => rfl
  | .tup ds => freezes_pl (ds := ds)
  | .lst _ _ => rfl
  | .dK _ _ _ => rfl
  | .dT _ _ _ => rfl
theorem freezes_pl : ∀ {ds : List D}, D.plains (D.freezes ds) = true
  | [] => rfl
  | d :: ds => by
    show (D.plain d.freeze && D.plains (D.freezes ds)) = true
    rw [freeze_pl, freezes_pl]; rfl
end
theorem freezes_map : ∀ (ds : List D), D.freezes ds = ds.map D.freeze
  | [] => rfl
  | d :: ds => by
    show D.freeze d :: D.freezes ds = _
    rw [freezes_map ds]; rfl
theorem solids_app {ds es : List D} : D.solids (ds ++ es) = (D.solids ds && D.solids es) := by
  induction ds with
  | nil => rfl
  | cons d ds ih =>
    show (D.solid d && D.solids (ds ++ es)) = ((D.solid d && D.solids ds) && D.solids es)
    rw [ih, Bool.and_assoc]
theorem solids_at {ds : List D} (h : D.solids ds = true) {d : D} (hd : d ∈ ds) : d.solid = true := by
  induction ds with
  | nil => cases hd
  | cons x xs ih =>
    have h : (D.solid x && D.solids xs) = true := h
    rw [Bool.and_eq_true] at h
    rcases List.mem_cons.mp hd with rfl | hd
    · exact h.1
    · exact ih h.2 hd
end DL
end

section
/-! DL26: what may be compared, and what == says of lists and tuples. -/
namespace DL
open PySem PySem.Spec L2
/-- may be compared, nested n deep at most -/
def D.shd (n : Nat) (d : D) : Prop := d.py.canLay0 = true ∧ d.py.depth ≤ n
theorem shd_mono {n m : Nat} {d : D} (h : d.shd n) (hm : n ≤ m) : d.shd m := ⟨h.1, Nat.le_trans h.2 hm⟩
theorem shd_int {n : Nat} {i : Int} : D.shd n (.int i) := ⟨rfl, Nat.zero_le _⟩
theorem shd_bl {n : Nat} {i : Bool} : D.shd n (.bl i) := ⟨rfl, Nat.zero_le _⟩
theorem shd_non {n : Nat} : D.shd n .non := ⟨rfl, Nat.zero_le _⟩
theorem shd_str {n : Nat} {s : Str} (h : (PyData.str s).canLay0 = true) : D.shd n (.str s) := ⟨h, Nat.zero_le _⟩
theorem pys_all {n : Nat} : ∀ {ds : List D}, (∀ d ∈ ds, d.shd n) → PyData.canLayAll0 (D.pys ds) = true ∧ PyData.depthAll (D.pys ds) ≤ n
  | [], _ => ⟨rfl, Nat.zero_le _⟩
  | d :: ds, h => by
    obtain ⟨h1, h2⟩ := h d List.mem_cons_self
    obtain ⟨h3, h4⟩ := pys_all (ds := ds) fun d hd => h d (List.mem_cons_of_mem _ hd)
    refine ⟨?_, ?_⟩
    · show (d.py.canLay0 && PyData.canLayAll0 (D.pys ds)) = true
      rw [h1, h3]; rfl
    · show max d.py.depth (PyData.depthAll (D.pys ds)) ≤ n
      exact Nat.max_le.mpr ⟨h2, h4⟩
theorem shd_tup {n : Nat} {ds : List D} (h : ∀ d ∈ ds, d.shd n) : D.shd (n + 1) (.tup ds) := by
  obtain ⟨h1, h2⟩ := pys_all h
  exact ⟨h1, Nat.add_le_add_right h2 1⟩
theorem shd_lst {n : Nat} {o : Bool} {ds : List D} (h : ∀ d ∈ ds, d.shd n) : D.shd (n + 1) (.lst o ds) := by
  obtain ⟨h1, h2⟩ := pys_all h
  exact ⟨h1, Nat.add_le_add_right h2 1⟩
theorem shp_of {n : Nat} {d : D} (h : d.shd n) (hn : n ≤ 64) : d.shp = true := by
  show (d.py.canLay0 && decide (d.py.depth ≤ 64)) = true
  rw [h.1, decide_eq_true (Nat.le_trans h.2 hn)]; rfl
theorem o_eqS {n : Nat} {a b : D} (ha : a.shd n) (hb : b.shd n) (hn : n ≤ 64) : opD (.cmp .Eq) [a, b] = some (.bl (a.eqv b)) := by
  show (if a.shp && b.shp then some (D.bl (a.eqv b)) else none) = _
  rw [shp_of ha hn, shp_of hb hn]; rfl
theorem o_neS {n : Nat} {a b : D} (ha : a.shd n) (hb : b.shd n) (hn : n ≤ 64) : opD (.cmp .NotEq) [a, b] = some (.bl (!a.eqv b)) := by
  show (if a.shp && b.shp then some (D.bl (!a.eqv b)) else none) = _
  rw [shp_of ha hn, shp_of hb hn]; rfl
theorem eqv_nilL {o o' : Bool} {ds : List D} : D.eqv (.lst o ds) (.lst o' []) = ds.isEmpty := by cases ds <;> rfl
theorem eqv_nilT {ds : List D} : D.eqv (.tup ds) (.tup []) = ds.isEmpty := by cases ds <;> rfl
theorem eqv_ints : ∀ {ns ms : List Int}, PyData.eqvAll (D.pys (ns.map .int)) (D.pys (ms.map .int)) = decide (ns = ms)
  | [], [] => rfl
  | [], _ :: _ => rfl
  | _ :: _, [] => rfl
  | n :: ns, m :: ms => by
    show ((n == m) && PyData.eqvAll (D.pys (ns.map .int)) (D.pys (ms.map .int))) = _
    rw [eqv_ints]
    by_cases h : n = m <;> by_cases h2 : ns = ms <;> simp [h, h2]
theorem eqv_intsL {o o' : Bool} {ns ms : List Int} : D.eqv (.lst o (ns.map .int)) (.lst o' (ms.map .int)) = decide (ns = ms) := eqv_ints
theorem eqv_intsT {ns ms : List Int} : D.eqv (.tup (ns.map .int)) (.tup (ms.map .int)) = decide (ns = ms) := eqv_ints
theorem shd_ints {n : Nat} {ns : List Int} : ∀ d ∈ ns.map D.int, d.shd n := fun d hd => by
  obtain ⟨i, _, rfl⟩ := List.mem_map.mp hd; exact shd_int
theorem o_all {o : Bool} {ds : List D} {bs : List Bool} (h : ds = bs.map .bl) : opD .all [.lst o ds] = some (.bl (bs.all id)) := by
  subst h
  have hb : ∀ bs : List Bool, bls? (bs.map .bl) = some bs := by
    intro bs
    induction bs with
    | nil => rfl
    | cons b bs ih =>
      show (bls? (bs.map .bl)).map (fun r => b :: r) = _
      rw [ih]; rfl
  show (bls? (bs.map D.bl)).map _ = _
  rw [hb]; rfl
theorem and_T {P : DL.Ctx} {m : Bool} {e f : E} {es : List E} {env e1 : EnvD} (h : evA P m e env = some (.tmp (.bl true), e1)) : evAnd P m (e :: f :: es) env = evAnd P m (f :: es) e1 := by
  show ((evA P m e env).bind fun x => (x.1.bl?).bind fun t => if t then evAnd P m (f :: es) x.2 else some (.tmp (.bl false), x.2)) = _
  rw [h]; rfl
theorem and_F {P : DL.Ctx} {m : Bool} {e f : E} {es : List E} {env e1 : EnvD} (h : evA P m e env = some (.tmp (.bl false), e1)) : evAnd P m (e :: f :: es) env = some (.tmp (.bl false), e1) := by
  show ((evA P m e env).bind fun x => (x.1.bl?).bind fun t => if t then evAnd P m (f :: es) x.2 else some (.tmp (.bl false), x.2)) = _
  rw [h]; rfl
theorem e_and {P : DL.Ctx} {m : Bool} {es : List E} {env : EnvD} : evA P m (.and es) env = evAnd P m es env := rfl
theorem e_op {P : DL.Ctx} {m : Bool} {o : Op} {es : List E} {env e1 : EnvD} {as : List A} {ds : List D} {d : D} (h1 : evAs P m es env = some (as, e1)) (h2 : A.gets e1 as = some ds) (h3 : opD o ds = some d) : evA P m (.op o es) env = some (.tmp d, e1) := by
  show ((evAs P m es env).bind fun x => (A.gets x.2 x.1).bind fun ds => (opD o ds).map fun d => (A.tmp d, x.2)) = _
  rw [h1]
  show ((A.gets e1 as).bind fun ds => (opD o ds).map fun d => (A.tmp d, e1)) = _
  rw [h2]
  show ((opD o ds).map fun d => (A.tmp d, e1)) = _
  rw [h3]; rfl
theorem as_one {P : DL.Ctx} {m : Bool} {e : E} {env e1 : EnvD} {a : A} (h : evA P m e env = some (a, e1)) : evAs P m [e] env = some ([a], e1) := by
  show ((evA P m e env).bind fun x => (evAs P (m || x.1.isPk) [] x.2).map fun y => (x.1 :: y.1, y.2)) = _
  rw [h]; rfl
theorem as_two {P : DL.Ctx} {m : Bool} {e f : E} {env e1 e2 : EnvD} {d b : D} (h : evA P m e env = some (.tmp d, e1)) (h2 : evA P m f e1 = some (.tmp b, e2)) : evAs P m [e, f] env = some ([.tmp d, .tmp b], e2) := by
  show ((evA P m e env).bind fun x => (evAs P (m || x.1.isPk) [f] x.2).map fun y => (x.1 :: y.1, y.2)) = _
  rw [h]
  show ((evAs P (m || false) [f] e1).map fun y => (A.tmp d :: y.1, y.2)) = _
  rw [Bool.or_false, as_one h2]; rfl
theorem s_ret {P : DL.Ctx} {e : E} {env e1 : EnvD} {d : D} (h : evA P false e env = some (.tmp d, e1)) : evS P (.ret e) env = some (.rt d, e1) := by
  show (((evA P false e env).bind fun x => mat false x.1 x.2).map fun x => (Fl.rt x.1, x.2)) = _
  rw [h]; rfl
/-- a comprehension over a tuple at hand; the step leaves the slots as they are -/
theorem e_compT {P : DL.Ctx} {env : EnvD} {m : Bool} {tg : Tg} {own : List Nat} {src : List E} {ifs : List T} {elt : E} {its ds : List D} {e1 : EnvD} {d0 : D} (h1 : evAs P m src env = some ([.tmp d0], e1)) (hi : d0.items = some its) (hpl : D.plains its = true) (hp : plainAt own e1 = true)
    {e2 : EnvD} (h3 : compF (fun d e => (bindT tg d e).bind fun e1 => (evTand P m ifs e1).bind fun t => if t.1 then ((evA P m elt t.2).bind fun x => mat m x.1 x.2).map fun r => (some r.1, wipeE own r.2) else some (none, wipeE own t.2)) its [] (wipeE own e1) = some (ds, e2)) :
    evA P m (.comp tg own (.it false) src ifs elt) env = some (.tmp (.lst true ds), restE own e1 e2) := by
  have hs : srcC (.it false) m [.tmp d0] e1 = some ⟨its, m, e1, none⟩ := by
    show ((d0.items).bind fun its => if D.plains its then srcI false m (.tmp d0) e1 d0 its else none) = _
    rw [hi]
    show (if D.plains its then _ else none) = _
    rw [if_pos hpl]
    show some (Src.mk its (m || !true) e1 none) = _
    cases m <;> rfl
  show ((evAs P m src env).bind _) = _
  rw [h1]
  show ((srcC (.it false) m [.tmp d0] e1).bind _) = _
  rw [hs]
  show (if plainAt own e1 then _ else none) = _
  rw [if_pos hp]
  show (compF _ its [] (wipeE own e1)).map _ = _
  rw [h3]; rfl
end DL
end

section
/-! TL1: plain values, typed data and what they are as data. -/
namespace TL
open DL
open PySem (Str Operator CmpOp sizeLine PyData)

inductive PV where
  | non
  | bl (b : Bool)
  | int (i : Int)
  | str (s : Str)
  | tup (vs : List PV)
  | lst (vs : List PV)
mutual
def PV.enc : PV → D
  | .non => .non
  | .bl b => .bl b
  | .int i => .int i
  | .str s => .str s
  | .tup vs => .tup (PV.encs vs)
  | .lst vs => .lst false (PV.encs vs)
def PV.encs : List PV → List D
  | [] => []
  | v :: vs => PV.enc v :: PV.encs vs
end
theorem encs_map : ∀ vs : List PV, PV.encs vs = vs.map PV.enc
  | [] => rfl
  | v :: vs => by rw [PV.encs, encs_map vs]; rfl

section
variable {α β γ δ : Type}
def eT (f : α → D) (xs : List α) : D := .tup (xs.map f)
def eF (f : α → D) (xs : List α) : D := .lst false (xs.map f)
def eL (f : α → D) (xs : List α) : D := .lst true (xs.map f)
def eP (f : α → D) (g : β → D) (p : α × β) : D := .tup [f p.1, g p.2]
def e3 (f : α → D) (g : β → D) (h : γ → D) (p : α × β × γ) : D := .tup [f p.1, g p.2.1, h p.2.2]
def e4 (f : α → D) (g : β → D) (h : γ → D) (i : δ → D) (p : α × β × γ × δ) : D := .tup [f p.1, g p.2.1, h p.2.2.1, i p.2.2.2]
def eO (f : α → D) : Option α → D
  | none => .non
  | some a => f a
def eN (_ : Unit) : D := .non
abbrev eI : Int → D := D.int
abbrev eB : Bool → D := D.bl
abbrev eS : Str → D := D.str
abbrev eV : PV → D := PV.enc
/-- a plain value, or a list of such that is its holder's own -/
def eU (x : Bool × PV) : D := match x.1, x.2 with
  | true, .lst vs => .lst true (PV.encs vs)
  | _, v => PV.enc v

class Pl (f : α → D) : Prop where
  pl : ∀ a, (f a).plain = true
class Fz (f : α → D) : Prop where
  fz : ∀ a, (f a).freeze = f a
theorem pls_map (f : α → D) [h : Pl f] (xs : List α) : D.plains (xs.map f) = true := by
  induction xs with
  | nil => rfl
  | cons x xs ih =>
    show (D.plain (f x) && D.plains (xs.map f)) = true
    rw [h.pl, ih]; rfl
theorem fzs_map (f : α → D) [h : Fz f] (xs : List α) : D.freezes (xs.map f) = xs.map f := by
  induction xs with
  | nil => rfl
  | cons x xs ih =>
    show D.freeze (f x) :: D.freezes (xs.map f) = _
    rw [h.fz, ih]; rfl
mutual
theorem encPl : ∀ v : PV, (PV.enc v).plain = true
  | .non => rfl
  | .bl _ => rfl
  | .int _ => rfl
  | .str _ => rfl
  | .tup vs => encsPl vs
  | .lst _ => rfl
theorem encsPl : ∀ vs : List PV, D.plains (PV.encs vs) = true
  | [] => rfl
  | v :: vs => by
    show (D.plain (PV.enc v) && D.plains (PV.encs vs)) = true
    rw [encPl v, encsPl vs]; rfl
end
mutual
theorem encFz : ∀ v : PV, (PV.enc v).freeze = PV.enc v
  | .non => rfl
  | .bl _ => rfl
  | .int _ => rfl
  | .str _ => rfl
  | .tup vs => by show D.tup (D.freezes (PV.encs vs)) = .tup (PV.encs vs); rw [encsFz vs]
  | .lst vs => by show D.lst false (D.freezes (PV.encs vs)) = .lst false (PV.encs vs); rw [encsFz vs]
theorem encsFz : ∀ vs : List PV, D.freezes (PV.encs vs) = PV.encs vs
  | [] => rfl
  | v :: vs => by
    show D.freeze (PV.enc v) :: D.freezes (PV.encs vs) = _
    rw [encFz v, encsFz vs]; rfl
end
instance : Pl D.int := ⟨fun _ => rfl⟩
instance : Pl D.bl := ⟨fun _ => rfl⟩
instance : Pl D.str := ⟨fun _ => rfl⟩
instance : Pl D.scr := ⟨fun _ => rfl⟩
instance : Pl eN := ⟨fun _ => rfl⟩
instance : Pl PV.enc := ⟨encPl⟩
instance (f : α → D) [Pl f] : Pl (eT f) := ⟨fun xs => pls_map f xs⟩
instance (f : α → D) : Pl (eF f) := ⟨fun xs => rfl⟩
instance (f : α → D) (g : β → D) [hf : Pl f] [hg : Pl g] : Pl (eP f g) := ⟨fun p => by
  show (D.plain (f p.1) && (D.plain (g p.2) && true)) = true
  rw [hf.pl, hg.pl]; rfl⟩
instance (f : α → D) (g : β → D) (h : γ → D) [hf : Pl f] [hg : Pl g] [hh : Pl h] : Pl (e3 f g h) := ⟨fun p => by
  show (D.plain (f p.1) && (D.plain (g p.2.1) && (D.plain (h p.2.2) && true))) = true
  rw [hf.pl, hg.pl, hh.pl]; rfl⟩
instance (f : α → D) (g : β → D) (h : γ → D) (i : δ → D) [hf : Pl f] [hg : Pl g] [hh : Pl h] [hi : Pl i] : Pl (e4 f g h i) := ⟨fun p => by
  show (D.plain (f p.1) && (D.plain (g p.2.1) && (D.plain (h p.2.2.1) && (D.plain (i p.2.2.2) && true)))) = true
  rw [hf.pl, hg.pl, hh.pl, hi.pl]; rfl⟩
instance (f : α → D) [hf : Pl f] : Pl (eO f) := ⟨fun x => by cases x with | none => rfl | some a => exact hf.pl a⟩
instance : Fz D.int := ⟨fun _ => rfl⟩
instance : Fz D.bl := ⟨fun _ => rfl⟩
instance : Fz D.str := ⟨fun _ => rfl⟩
instance : Fz eN := ⟨fun _ => rfl⟩
instance : Fz PV.enc := ⟨encFz⟩
instance (f : α → D) [Fz f] : Fz (eT f) := ⟨fun xs => congrArg D.tup (fzs_map f xs)⟩
instance (f : α → D) [Fz f] : Fz (eF f) := ⟨fun xs => congrArg (D.lst false) (fzs_map f xs)⟩
instance (f : α → D) (g : β → D) [hf : Fz f] [hg : Fz g] : Fz (eP f g) := ⟨fun p => by
  show D.tup [D.freeze (f p.1), D.freeze (g p.2)] = _
  rw [hf.fz, hg.fz]; rfl⟩
instance (f : α → D) (g : β → D) (h : γ → D) [hf : Fz f] [hg : Fz g] [hh : Fz h] : Fz (e3 f g h) := ⟨fun p => by
  show D.tup [D.freeze (f p.1), D.freeze (g p.2.1), D.freeze (h p.2.2)] = _
  rw [hf.fz, hg.fz, hh.fz]; rfl⟩
instance (f : α → D) (g : β → D) (h : γ → D) (i : δ → D) [hf : Fz f] [hg : Fz g] [hh : Fz h] [hi : Fz i] : Fz (e4 f g h i) := ⟨fun p => by
  show D.tup [D.freeze (f p.1), D.freeze (g p.2.1), D.freeze (h p.2.2.1), D.freeze (i p.2.2.2)] = _
  rw [hf.fz, hg.fz, hh.fz, hi.fz]; rfl⟩
instance (f : α → D) [hf : Fz f] : Fz (eO f) := ⟨fun x => by cases x with | none => rfl | some a => exact hf.fz a⟩
theorem fz_L (f : α → D) [Fz f] (xs : List α) : (eL f xs).freeze = eF f xs := congrArg (D.lst false) (fzs_map f xs)
theorem fz_U (x : Bool × PV) : (eU x).freeze = PV.enc x.2 := by
  obtain ⟨b, v⟩ := x
  cases b
  · exact encFz v
  · cases v <;> first | exact encFz _ | (show D.lst false (D.freezes (PV.encs _)) = _; rw [encsFz]; rfl)

/-! ### one type as another -/
/-- d is what f makes of a -/
theorem c_V (f : α → D) (t : α → PV) (h : ∀ a, f a = PV.enc (t a)) (xs : List α) : eT f xs = PV.enc (.tup (xs.map t)) := by
  show D.tup _ = D.tup (PV.encs _)
  rw [encs_map, List.map_map]
  exact congrArg D.tup (List.map_congr_left fun a _ => h a)
theorem c_F (f : α → D) (t : α → PV) (h : ∀ a, f a = PV.enc (t a)) (xs : List α) : eF f xs = PV.enc (.lst (xs.map t)) := by
  show D.lst false _ = D.lst false (PV.encs _)
  rw [encs_map, List.map_map]
  exact congrArg (D.lst false) (List.map_congr_left fun a _ => h a)
theorem c_LU (f : α → D) (t : α → PV) (h : ∀ a, f a = PV.enc (t a)) (xs : List α) : eL f xs = eU (true, .lst (xs.map t)) := by
  show D.lst true _ = D.lst true (PV.encs _)
  rw [encs_map, List.map_map]
  exact congrArg (D.lst true) (List.map_congr_left fun a _ => h a)
theorem c_VU (v : PV) : PV.enc v = eU (false, v) := by cases v <;> rfl
theorem c_T (f : α → D) (g : β → D) (t : α → β) (h : ∀ a, f a = g (t a)) (xs : List α) : eT f xs = eT g (xs.map t) := by
  show D.tup _ = D.tup _
  rw [List.map_map]
  exact congrArg D.tup (List.map_congr_left fun a _ => h a)
theorem c_L (f : α → D) (g : β → D) (t : α → β) (h : ∀ a, f a = g (t a)) (xs : List α) : eL f xs = eL g (xs.map t) := by
  show D.lst true _ = D.lst true _
  rw [List.map_map]
  exact congrArg (D.lst true) (List.map_congr_left fun a _ => h a)
theorem c_P (f : α → D) (g : β → D) (t : α → PV) (u : β → PV) (h : ∀ a, f a = PV.enc (t a)) (k : ∀ a, g a = PV.enc (u a)) (p : α × β) : eP f g p = PV.enc (.tup [t p.1, u p.2]) := by
  show D.tup [_, _] = D.tup [_, _]
  rw [h, k]
theorem c_3 (f : α → D) (g : β → D) (i : γ → D) (t : α → PV) (u : β → PV) (v : γ → PV) (h : ∀ a, f a = PV.enc (t a)) (k : ∀ a, g a = PV.enc (u a)) (l : ∀ a, i a = PV.enc (v a)) (p : α × β × γ) : e3 f g i p = PV.enc (.tup [t p.1, u p.2.1, v p.2.2]) := by
  show D.tup [_, _, _] = D.tup [_, _, _]
  rw [h, k, l]
theorem c_4 (f : α → D) (g : β → D) (i : γ → D) (j : δ → D) (t : α → PV) (u : β → PV) (v : γ → PV) (w : δ → PV) (h : ∀ a, f a = PV.enc (t a)) (k : ∀ a, g a = PV.enc (u a)) (l : ∀ a, i a = PV.enc (v a)) (m : ∀ a, j a = PV.enc (w a)) (p : α × β × γ × δ) : e4 f g i j p = PV.enc (.tup [t p.1, u p.2.1, v p.2.2.1, w p.2.2.2]) := by
  show D.tup [_, _, _, _] = D.tup [_, _, _, _]
  rw [h, k, l, m]
theorem c_O (f : α → D) (t : α → PV) (h : ∀ a, f a = PV.enc (t a)) (x : Option α) : eO f x = PV.enc (x.elim .non t) := by
  cases x with
  | none => rfl
  | some a => exact h a
theorem c_PP {α' β' : Type} (f : α → D) (g : β → D) (f' : α' → D) (g' : β' → D) (t : α → α') (u : β → β') (h : ∀ a, f a = f' (t a)) (k : ∀ a, g a = g' (u a)) (p : α × β) : eP f g p = eP f' g' (t p.1, u p.2) := by
  show D.tup [_, _] = D.tup [_, _]
  rw [h, k]
theorem c_33 {α' β' γ' : Type} (f : α → D) (g : β → D) (i : γ → D) (f' : α' → D) (g' : β' → D) (i' : γ' → D) (t : α → α') (u : β → β') (v : γ → γ') (h : ∀ a, f a = f' (t a)) (k : ∀ a, g a = g' (u a)) (l : ∀ a, i a = i' (v a)) (p : α × β × γ) : e3 f g i p = e3 f' g' i' (t p.1, u p.2.1, v p.2.2) := by
  show D.tup [_, _, _] = D.tup [_, _, _]
  rw [h, k, l]

/-! ### parts of a plain value -/
def PV.asI : PV → Option Int
  | .int i => some i
  | _ => none
def PV.asB : PV → Option Bool
  | .bl b => some b
  | _ => none
def PV.asT : PV → Option (List PV)
  | .tup vs => some vs
  | _ => none
def PV.asQ : PV → Option (List PV)
  | .tup vs => some vs
  | .lst vs => some vs
  | _ => none
def PV.as2 : PV → Option (PV × PV)
  | .tup [a, b] => some (a, b)
  | _ => none
def PV.as3 : PV → Option (PV × PV × PV)
  | .tup [a, b, c] => some (a, b, c)
  | _ => none
theorem asI_enc {v : PV} {i : Int} (h : v.asI = some i) : PV.enc v = .int i := by
  cases v <;> first | (cases h; done) | (cases h; rfl)
theorem asB_enc {v : PV} {i : Bool} (h : v.asB = some i) : PV.enc v = .bl i := by
  cases v <;> first | (cases h; done) | (cases h; rfl)
theorem asT_enc {v : PV} {vs : List PV} (h : v.asT = some vs) : PV.enc v = eT PV.enc vs := by
  cases v <;> first | (cases h; done) | (injection h with h; subst h; show D.tup (PV.encs _) = _; rw [encs_map]; rfl)
theorem as2_enc {v : PV} {p : PV × PV} (h : v.as2 = some p) : PV.enc v = eP PV.enc PV.enc p := by
  unfold PV.as2 at h
  split at h
  · cases h; rfl
  · cases h
theorem as3_enc {v : PV} {p : PV × PV × PV} (h : v.as3 = some p) : PV.enc v = e3 PV.enc PV.enc PV.enc p := by
  unfold PV.as3 at h
  split at h
  · cases h; rfl
  · cases h
theorem asQ_items {v : PV} {vs : List PV} (h : v.asQ = some vs) : (PV.enc v).items = some (vs.map PV.enc) := by
  cases v <;> first | (cases h; done) | (injection h with h; subst h; show some (PV.encs _) = _; rw [encs_map])
end
end TL
end

section
/-! TL2: what an expression of the compact text comes to, rule by rule. -/
namespace TL
open DL
open PySem (Str Operator CmpOp sizeLine PyData)
section
variable {α β γ δ σ ρ : Type} {P : Ctx} {m : Bool} {env env1 env2 env3 : EnvD}
abbrev AX (P : Ctx) (m : Bool) (env : EnvD) (e : E) (a : A) (env' : EnvD) : Prop := evA P m e env = some (a, env')
abbrev QX (P : Ctx) (m : Bool) (env : EnvD) (es : List E) (as : List A) (env' : EnvD) : Prop := evAs P m es env = some (as, env')
abbrev MX (P : Ctx) (m : Bool) (env : EnvD) (es : List E) (ds : List D) (env' : EnvD) : Prop := evMs P m es env = some (ds, env')
abbrev TX (P : Ctx) (m : Bool) (env : EnvD) (t : T) (b : Bool) (env' : EnvD) : Prop := evT P m t env = some (b, env')
abbrev SX (P : Ctx) (env : EnvD) (s : S) (fl : Fl) (env' : EnvD) : Prop := evS P s env = some (fl, env')

/-! ### what a written partial step gives -/
theorem bnd {x : Option α} {f : α → Option β} {r : β} (h : x.bind f = some r) : ∃ a, x = some a ∧ f a = some r := by
  cases x with
  | none => cases h
  | some a => exact ⟨a, rfl, h⟩
theorem sj {a b : α} (h : some a = some b) : a = b := by injection h
theorem iteo {c : Bool} {x y : Option α} {r : α} (h : (if c = true then x else y) = some r) : (c = true ∧ x = some r) ∨ (c = false ∧ y = some r) := by
  cases c
  · exact .inr ⟨rfl, h⟩
  · exact .inl ⟨rfl, h⟩
theorem itT {c : Bool} {x y z : Option α} (hc : c = true) (h : (if c = true then x else y) = z) : x = z := by rw [if_pos hc] at h; exact h
theorem itF {c : Bool} {x y z : Option α} (hc : c = false) (h : (if c = true then x else y) = z) : y = z := by subst hc; exact h

/-! ### names and written things -/
theorem x_int {n : Int} : AX P m env (.int n) (.tmp (.int n)) env := rfl
theorem x_bl {n : Bool} : AX P m env (.bl n) (.tmp (.bl n)) env := rfl
theorem x_str {n : Str} : AX P m env (.str n) (.tmp (.str n)) env := rfl
theorem x_non : AX P m env .non (.tmp .non) env := rfl
theorem x_var {i : Nat} (f : α → D) [h : Pl f] {a : α} (g : getE env i = some (f a)) : AX P m env (.var i) (.tmp (f a)) env := by
  show (getE env i).map _ = _
  rw [g]
  show some (if (f a).plain then A.tmp (f a) else .ref i, env) = _
  rw [h.pl]; rfl
theorem x_varp {i : Nat} {d : D} (g : getE env i = some d) (h : d.plain = true) : AX P m env (.var i) (.tmp d) env := by
  show (getE env i).map _ = _
  rw [g]
  show some (if d.plain then A.tmp d else .ref i, env) = _
  rw [h]; rfl
theorem x_ref {i : Nat} {d : D} (g : getE env i = some d) (h : d.plain = false) : AX P m env (.var i) (.ref i) env := by
  show (getE env i).map _ = _
  rw [g]
  show some (if d.plain then A.tmp d else .ref i, env) = _
  rw [h]; rfl
theorem x_mv {i : Nat} {d : D} (g : getE env i = some d) : AX P false env (.mv i) (.tmp d) (env.set i none) := by
  show (if false = true then none else (getE env i).map fun d => (A.tmp d, env.set i none)) = _
  rw [g]; rfl
theorem x_fz {i : Nat} {d d' : D} (g : getE env i = some d) (h : d.freeze = d') : AX P false env (.fz i) (.tmp d') (env.set i (some d')) := by
  show (if false = true then none else (getE env i).map fun d => (A.tmp d.freeze, env.set i (some d.freeze))) = _
  rw [g, ← h]; rfl
theorem x_cast {e : E} {d d' : D} (h : AX P m env e (.tmp d) env1) (k : d = d') : AX P m env e (.tmp d') env1 := k ▸ h

/-! ### operations -/
theorem x_op1 {o : Op} {e : E} {a : A} {d r : D} (h : AX P m env e a env1) (g : a.get env1 = some d) (ho : opD o [d] = some r) : AX P m env (.op o [e]) (.tmp r) env1 := by
  show ((evAs P m [e] env).bind _) = _
  have : evAs P m [e] env = some ([a], env1) := by
    show ((evA P m e env).bind _) = _
    rw [h]; rfl
  rw [this]
  show ((A.gets env1 [a]).bind _) = _
  have : A.gets env1 [a] = some [d] := by
    show ((A.get env1 a).bind _) = _
    rw [g]; rfl
  rw [this]
  show (opD o [d]).map _ = _
  rw [ho]; rfl
theorem x_op2 {o : Op} {e1 e2 : E} {a1 a2 : A} {d1 d2 r : D} (h1 : AX P m env e1 a1 env1) (h2 : AX P (m || a1.isPk) env1 e2 a2 env2) (g1 : a1.get env2 = some d1) (g2 : a2.get env2 = some d2) (ho : opD o [d1, d2] = some r) : AX P m env (.op o [e1, e2]) (.tmp r) env2 := by
  show ((evAs P m [e1, e2] env).bind _) = _
  have : evAs P m [e1, e2] env = some ([a1, a2], env2) := by
    show ((evA P m e1 env).bind _) = _
    rw [h1]
    show (((evA P (m || a1.isPk) e2 env1).bind _).map _) = _
    rw [h2]; rfl
  rw [this]
  show ((A.gets env2 [a1, a2]).bind _) = _
  have : A.gets env2 [a1, a2] = some [d1, d2] := by
    show ((A.get env2 a1).bind _) = _
    rw [g1]
    show (((A.get env2 a2).bind _).map _) = _
    rw [g2]; rfl
  rw [this]
  show (opD o [d1, d2]).map _ = _
  rw [ho]; rfl
theorem x_sub {e i : E} {a k : A} {b kd d : D} {r : A} (h1 : AX P m env e a env1) (h2 : AX P (m || a.isPk) env1 i k env2) (g1 : a.get env2 = some b) (g2 : k.get env2 = some kd) (hs : subD b kd = some d) (hm : mkA a.isTmp d = r) : AX P m env (.sub e i) r env2 := by
  show ((evA P m e env).bind _) = _
  rw [h1]
  show ((evA P (m || a.isPk) i env1).bind _) = _
  rw [h2]
  show ((a.get env2).bind _) = _
  rw [g1]
  show ((k.get env2).bind _) = _
  rw [g2]
  show (subD b kd).map _ = _
  rw [hs, ← hm]; rfl
theorem mk_p (f : α → D) [h : Pl f] (t : Bool) (a : α) : mkA t (f a) = .tmp (f a) := mk_plain (h.pl a)
theorem q_nil : QX P m env [] [] env := rfl
theorem q_cons {e : E} {es : List E} {a : A} {as : List A} (h1 : AX P m env e a env1) (h2 : QX P (m || a.isPk) env1 es as env2) : QX P m env (e :: es) (a :: as) env2 := by
  show ((evA P m e env).bind _) = _
  rw [h1]
  show ((evAs P (m || a.isPk) es env1).map _) = _
  rw [h2]; rfl
theorem m_nil : MX P m env [] [] env := rfl
theorem m_cons {e : E} {es : List E} {d : D} {ds : List D} (h1 : AX P m env e (.tmp d) env1) (h2 : MX P m env1 es ds env2) : MX P m env (e :: es) (d :: ds) env2 := by
  show (((evA P m e env).bind fun x => mat m x.1 x.2).bind _) = _
  rw [h1]
  show ((evMs P m es env1).map _) = _
  rw [h2]; rfl
theorem x_tup {es : List E} {ds : List D} (h : MX P m env es ds env1) (hs : decide (ds.length ≤ 64) = true) : AX P m env (.tup es) (.tmp (.tup ds)) env1 := by
  show ((evMs P m es env).bind _) = _
  rw [h]
  show (if szOk ds.length then _ else _) = _
  have : szOk ds.length = true := decide_eq_true (Nat.le_trans (of_decide_eq_true hs) (by decide))
  rw [this]; rfl
theorem x_lst {es : List E} {ds : List D} (h : MX P m env es ds env1) (hs : decide (ds.length ≤ 64) = true) : AX P m env (.lst es) (.tmp (.lst true ds)) env1 := by
  show ((evMs P m es env).bind _) = _
  rw [h]
  show (if szOk ds.length then _ else _) = _
  have : szOk ds.length = true := decide_eq_true (Nat.le_trans (of_decide_eq_true hs) (by decide))
  rw [this]; rfl
theorem x_dict {es : List E} {ds : List D} {d : D} (h : MX P m env es ds env1) (hs : dispD ds = some d) : AX P m env (.dK es) (.tmp d) env1 := by
  show ((evMs P m es env).bind _) = _
  rw [h]
  show ((dispD ds).map _) = _
  rw [hs]; rfl
theorem i_none : evI P m [] env = some (none, env) := rfl
theorem i_some {e : E} {n : Int} (h : AX P m env e (.tmp (.int n)) env1) : evI P m [e] env = some (some n, env1) := by
  show ((evA P m e env).bind _) = _
  rw [h]; rfl
theorem x_sli {a : E} {lo hi : List E} {x : A} {l h : Option Int} {d r : D} (h1 : AX P m env a x env1) (h2 : evI P (m || x.isPk) lo env1 = some (l, env2)) (h3 : evI P (m || x.isPk) hi env2 = some (h, env3)) (g : x.get env3 = some d) (hc : cutO d l h = some r) : AX P m env (.sli a lo hi) (.tmp r) env3 := by
  show ((evA P m a env).bind _) = _
  rw [h1]
  show ((evI P (m || x.isPk) lo env1).bind _) = _
  rw [h2]
  show ((evI P (m || x.isPk) hi env2).bind _) = _
  rw [h3]
  show ((x.get env3).bind _) = _
  rw [g]
  show ((cutO d l h).map _) = _
  rw [hc]; rfl
theorem x_ite {c : T} {a b : E} {t : Bool} {r : A} (hc : TX P m env c t env1) (ha : t = true → AX P m env1 a r env2) (hb : t = false → AX P m env1 b r env2) : AX P m env (.ite c a b) r env2 := by
  show ((evT P m c env).bind _) = _
  rw [hc]
  cases t
  · exact hb rfl
  · exact ha rfl
theorem x_and1 {e : E} {a : A} (h : AX P m env e a env1) : evAnd P m [e] env = some (a, env1) := h
theorem x_andC {e e' : E} {es : List E} {x y : Bool} (h : AX P m env e (.tmp (.bl x)) env1) (ht : x = true → evAnd P m (e' :: es) env1 = some (.tmp (.bl y), env2)) (hf : x = false → y = false ∧ env2 = env1) : evAnd P m (e :: e' :: es) env = some (.tmp (.bl y), env2) := by
  show ((evA P m e env).bind _) = _
  rw [h]
  cases x
  · obtain ⟨rfl, rfl⟩ := hf rfl; rfl
  · exact ht rfl
theorem x_or1 {e : E} {a : A} (h : AX P m env e a env1) : evOr P m [e] env = some (a, env1) := h
theorem x_orC {e e' : E} {es : List E} {x y : Bool} (h : AX P m env e (.tmp (.bl x)) env1) (hf : x = false → evOr P m (e' :: es) env1 = some (.tmp (.bl y), env2)) (ht : x = true → y = true ∧ env2 = env1) : evOr P m (e :: e' :: es) env = some (.tmp (.bl y), env2) := by
  show ((evA P m e env).bind _) = _
  rw [h]
  cases x
  · exact hf rfl
  · obtain ⟨rfl, rfl⟩ := ht rfl; rfl
theorem x_andT {e e' : E} {es : List E} {x y : Bool} (h : AX P m env e (.tmp (.bl x)) env) (h2 : evAnd P m (e' :: es) env = some (.tmp (.bl y), env)) : evAnd P m (e :: e' :: es) env = some (.tmp (.bl (x && y)), env) :=
  x_andC h (fun hx => by rw [hx]; exact h2) (fun hx => ⟨by rw [hx]; rfl, rfl⟩)
theorem x_orT {e e' : E} {es : List E} {x y : Bool} (h : AX P m env e (.tmp (.bl x)) env) (h2 : evOr P m (e' :: es) env = some (.tmp (.bl y), env)) : evOr P m (e :: e' :: es) env = some (.tmp (.bl (x || y)), env) :=
  x_orC h (fun hx => by rw [hx]; exact h2) (fun hx => ⟨by rw [hx]; rfl, rfl⟩)
theorem x_and {es : List E} {a : A} (h : evAnd P m es env = some (a, env1)) : AX P m env (.and es) a env1 := by unfold AX; rw [evA]; exact h
theorem x_or {es : List E} {a : A} (h : evOr P m es env = some (a, env1)) : AX P m env (.or es) a env1 := by unfold AX; rw [evA]; exact h
theorem x_not {e : E} {a : A} {d : D} {t : Bool} (h : AX P m env e a env1) (g : a.get env1 = some d) (ht : d.truthy = some t) : AX P m env (.not e) (.tmp (.bl (!t))) env1 := by
  show ((evA P m e env).bind _) = _
  rw [h]
  show ((a.get env1).bind _) = _
  rw [g]
  show ((d.truthy).map _) = _
  rw [ht]; rfl
theorem x_cmp2 {o1 o2 : CmpOp} {a b c : E} {dx dy dz : D} {t u : Bool} (h1 : AX P m env a (.tmp dx) env1) (h2 : AX P (m || false) env1 b (.tmp dy) env2) (k1 : (cmpD o1 dx dy).bind D.bl? = some t) (h3 : AX P m env2 c (.tmp dz) env2) (k2 : cmpD o2 dy dz = some (.bl u)) : AX P m env (.cmp2 o1 o2 a b c) (.tmp (.bl (t && u))) env2 := by
  show ((evA P m a env).bind _) = _
  rw [h1]
  show ((evA P (m || false) b env1).bind _) = _
  rw [h2]
  show (((cmpD o1 dx dy).bind D.bl?).bind _) = _
  rw [k1]
  cases t
  · rfl
  · show ((evA P m c env2).bind _) = _
    rw [h3]
    show ((cmpD o2 dy dz).map _) = _
    rw [k2]; rfl
theorem x_call {f : Nat} {es : List E} {as : List A} {ds ds' : List D} {r : D} {e3 : EnvD} (h : QX P m env es as env1) (hm : (m && !as.all A.isTmp) = false) (hl : lendA as env1 = some (ds, env2)) (hc : P.call f ds = some (r, ds')) (hb : backA as ds' env2 = e3) : AX P m env (.call f es) (.tmp r) e3 := by
  show ((evAs P m es env).bind _) = _
  rw [h]
  show (if m && !as.all A.isTmp then none else (lendA as env1).bind _) = _
  rw [hm, hl]
  show ((P.call f ds).map _) = _
  rw [hc, ← hb]; rfl

/-! ### tests -/
theorem t_val {e : E} {a : A} {d : D} {t : Bool} (h : AX P m env e a env1) (g : a.get env1 = some d) (ht : d.truthy = some t) : TX P m env (.val e) t env1 := by
  show ((evA P m e env).bind _) = _
  rw [h]
  show ((a.get env1).bind _) = _
  rw [g]
  show ((d.truthy).map _) = _
  rw [ht]; rfl
theorem t_bl {e : E} {t : Bool} (h : AX P m env e (.tmp (.bl t)) env1) : TX P m env (.val e) t env1 := t_val h rfl rfl
theorem t_and {ts : List T} {b : Bool} (h : evTand P m ts env = some (b, env1)) : TX P m env (.and ts) b env1 := by unfold TX; rw [evT]; exact h
theorem t_or {ts : List T} {b : Bool} (h : evTor P m ts env = some (b, env1)) : TX P m env (.or ts) b env1 := by unfold TX; rw [evT]; exact h
theorem t_not {t : T} {b : Bool} (h : TX P m env t b env1) : TX P m env (.not t) (!b) env1 := by
  show ((evT P m t env).map _) = _
  rw [h]; rfl
theorem t_and1 {t : T} {b : Bool} (h : TX P m env t b env1) : evTand P m [t] env = some (b, env1) := by
  show ((evT P m t env).bind _) = _
  rw [h]
  cases b <;> rfl
theorem t_or1 {t : T} {b : Bool} (h : TX P m env t b env1) : evTor P m [t] env = some (b, env1) := by
  show ((evT P m t env).bind _) = _
  rw [h]
  cases b <;> rfl
theorem t_andC {t : T} {ts : List T} {x y : Bool} (h : TX P m env t x env1) (ht : x = true → evTand P m ts env1 = some (y, env2)) (hf : x = false → y = false ∧ env2 = env1) : evTand P m (t :: ts) env = some (y, env2) := by
  show ((evT P m t env).bind _) = _
  rw [h]
  cases x
  · obtain ⟨rfl, rfl⟩ := hf rfl; rfl
  · exact ht rfl
theorem t_orC {t : T} {ts : List T} {x y : Bool} (h : TX P m env t x env1) (hf : x = false → evTor P m ts env1 = some (y, env2)) (ht : x = true → y = true ∧ env2 = env1) : evTor P m (t :: ts) env = some (y, env2) := by
  show ((evT P m t env).bind _) = _
  rw [h]
  cases x
  · exact hf rfl
  · obtain ⟨rfl, rfl⟩ := ht rfl; rfl
theorem t_andT {t : T} {ts : List T} {x y : Bool} (h : TX P m env t x env) (h2 : evTand P m ts env = some (y, env)) : evTand P m (t :: ts) env = some (x && y, env) :=
  t_andC h (fun hx => by rw [hx]; exact h2) (fun hx => ⟨by rw [hx]; rfl, rfl⟩)
theorem t_orT {t : T} {ts : List T} {x y : Bool} (h : TX P m env t x env) (h2 : evTor P m ts env = some (y, env)) : evTor P m (t :: ts) env = some (x || y, env) :=
  t_orC h (fun hx => by rw [hx]; exact h2) (fun hx => ⟨by rw [hx]; rfl, rfl⟩)
theorem t_ite {c a b : T} {x y : Bool} (hc : TX P m env c x env1) (ha : x = true → TX P m env1 a y env2) (hb : x = false → TX P m env1 b y env2) : TX P m env (.ite c a b) y env2 := by
  show ((evT P m c env).bind _) = _
  rw [hc]
  cases x
  · exact hb rfl
  · exact ha rfl

/-! ### comprehensions -/
def szG (xs : List α) : Option Unit := if xs.length ≤ sizeLine then some () else none
theorem szG_le {xs : List α} {u : Unit} (h : szG xs = some u) : xs.length ≤ sizeLine := by
  unfold szG at h
  split at h
  · assumption
  · cases h
theorem szG_of {xs : List α} (h : xs.length ≤ 1000000) : szG xs = some () := if_pos (Nat.le_trans h (by decide))
def compM (F : α → Option (Option β)) : List α → Option (List β)
  | [] => some []
  | x :: xs => (F x).bind fun o => match o with
    | none => compM F xs
    | some y => (compM F xs).bind fun ys => some (y :: ys)
def mapO (F : α → Option β) : List α → Option (List β)
  | [] => some []
  | x :: xs => (F x).bind fun y => (mapO F xs).bind fun ys => some (y :: ys)
def mapS (F : α → σ → Option (β × σ)) : List α → σ → Option (List β × σ)
  | [], s => some ([], s)
  | x :: xs, s => (F x s).bind fun y => (mapS F xs y.2).bind fun ys => some (y.1 :: ys.1, ys.2)
def compS (F : α → σ → Option (Option β × σ)) : List α → σ → Option (List β × σ)
  | [], s => some ([], s)
  | x :: xs, s => (F x s).bind fun o => match o.1 with
    | none => compS F xs o.2
    | some y => (compS F xs o.2).bind fun ys => some (y :: ys.1, ys.2)
theorem mapO_len {F : α → Option β} : ∀ {xs : List α} {ys : List β}, mapO F xs = some ys → ys.length = xs.length
  | [], ys, h => by cases h; rfl
  | x :: xs, ys, h => by
    obtain ⟨y, h1, h⟩ := bnd h
    obtain ⟨zs, h2, h⟩ := bnd h
    cases h
    rw [List.length_cons, List.length_cons, mapO_len h2]
theorem mapO_map {F : α → Option β} {G : α → β} : ∀ {xs : List α}, (∀ x ∈ xs, F x = some (G x)) → mapO F xs = some (xs.map G)
  | [], _ => rfl
  | x :: xs, h => by
    rw [mapO, h x List.mem_cons_self, Option.bind_some, mapO_map fun y hy => h y (List.mem_cons_of_mem _ hy)]; rfl
theorem compM_fm {F : α → Option (Option β)} {G : α → Option β} : ∀ {xs : List α}, (∀ x ∈ xs, F x = some (G x)) → compM F xs = some (xs.filterMap G)
  | [], _ => rfl
  | x :: xs, h => by
    rw [compM, h x List.mem_cons_self, Option.bind_some, compM_fm fun y hy => h y (List.mem_cons_of_mem _ hy)]
    cases hg : G x with
    | none => rw [List.filterMap_cons_none hg]
    | some y => rw [List.filterMap_cons_some hg]; rfl

abbrev stepC (P : Ctx) (m : Bool) (tg : Tg) (own : List Nat) (ifs : List T) (elt : E) : D → EnvD → Option (Option D × EnvD) :=
  fun d e => (bindT tg d e).bind fun e1 => (evTand P m ifs e1).bind fun t => if t.1 then ((evA P m elt t.2).bind fun x => mat m x.1 x.2).map fun r => (some r.1, wipeE own r.2) else some (none, wipeE own t.2)
theorem stepC_y {tg : Tg} {own : List Nat} {ifs : List T} {elt : E} {d r : D} {e0 e1 e2 e3 e4 : EnvD} (hb : bindT tg d e0 = some e1) (ht : evTand P m ifs e1 = some (true, e2)) (he : AX P m e2 elt (.tmp r) e3) (hw : wipeE own e3 = e4) : stepC P m tg own ifs elt d e0 = some (some r, e4) := by
  show ((bindT tg d e0).bind _) = _
  rw [hb]
  show ((evTand P m ifs e1).bind _) = _
  rw [ht]
  show (((evA P m elt e2).bind _).map _) = _
  rw [he, ← hw]; rfl
theorem stepC_n {tg : Tg} {own : List Nat} {ifs : List T} {elt : E} {d : D} {e0 e1 e2 e4 : EnvD} (hb : bindT tg d e0 = some e1) (ht : evTand P m ifs e1 = some (false, e2)) (hw : wipeE own e2 = e4) : stepC P m tg own ifs elt d e0 = some (none, e4) := by
  show ((bindT tg d e0).bind _) = _
  rw [hb]
  show ((evTand P m ifs e1).bind _) = _
  rw [ht, ← hw]; rfl
/-- what one turn of a comprehension gives -/
def CY (g : β → D) (e' : EnvD) (o : Option (Option D × EnvD)) (y : Option β) : Prop := o = some (y.map g, e')
theorem compS_sim {step : D → EnvD → Option (Option D × EnvD)} {f : α → D} {g : β → D} {F : α → σ → Option (Option β × σ)} {E0 : σ → EnvD} (hs : ∀ x s y, F x s = some y → CY g (E0 y.2) (step (f x) (E0 s)) y.1) :
    ∀ (xs : List α) (s : σ) (ys : List β × σ) (acc : List D), compS F xs s = some ys → acc.length + xs.length ≤ sizeLine → compF step (xs.map f) acc (E0 s) = some (acc ++ ys.1.map g, E0 ys.2)
  | [], s, ys, acc, h, _ => by cases h; show some (acc, E0 s) = some (acc ++ [], E0 s); rw [List.append_nil]
  | x :: xs, s, ys, acc, h, hl => by
    rw [List.length_cons] at hl
    obtain ⟨y, h1, h⟩ := bnd h
    have h2 := hs x s y h1
    unfold CY at h2
    show ((step (f x) (E0 s)).bind _) = _
    rw [h2]
    obtain ⟨y, s'⟩ := y
    cases y with
    | none => exact compS_sim hs xs s' ys acc h (by omega)
    | some y =>
      obtain ⟨zs, h3, h⟩ := bnd h
      cases h
      show (if acc.length < sizeLine then compF step (xs.map f) (acc ++ [g y]) (E0 s') else none) = _
      rw [if_pos (by omega), compS_sim hs xs s' zs (acc ++ [g y]) h3 (by rw [List.length_append, List.length_cons, List.length_nil]; omega), List.append_assoc]; rfl
theorem mapS_comp {F : α → σ → Option (β × σ)} : ∀ {xs : List α} {s : σ}, mapS F xs s = compS (fun x s => (F x s).map fun y => (some y.1, y.2)) xs s
  | [], s => rfl
  | x :: xs, s => by
    rw [mapS, compS]
    cases F x s with
    | none => rfl
    | some y =>
      show (mapS F xs y.2).bind _ = (compS _ xs y.2).bind _
      rw [mapS_comp]
theorem compM_comp {F : α → Option (Option β)} : ∀ {xs : List α}, (compM F xs).map (fun ys => (ys, ())) = compS (fun x (_ : Unit) => (F x).map fun y => (y, ())) xs ()
  | [] => rfl
  | x :: xs => by
    rw [compM, compS]
    cases F x with
    | none => rfl
    | some y =>
      cases y with
      | none => exact compM_comp (xs := xs)
      | some y =>
        show Option.map _ ((compM F xs).bind _) = (compS _ xs ()).bind _
        rw [← compM_comp]
        cases compM F xs <;> rfl
theorem mapO_comp {F : α → Option β} : ∀ {xs : List α}, mapO F xs = compM (fun x => (F x).map some) xs
  | [] => rfl
  | x :: xs => by
    rw [mapO, compM]
    cases F x with
    | none => rfl
    | some y => show (mapO F xs).bind _ = (compM _ xs).bind _; rw [mapO_comp]
/-- what a comprehension walks -/
def SrcOk (P : Ctx) (m : Bool) (env : EnvD) (k : SrcK) (src : List E) (its : List D) (m' : Bool) (env1 env2 : EnvD) (lent : Option (Nat × D)) : Prop :=
  ∃ as, evAs P m src env = some (as, env1) ∧ srcC k m as env1 = some ⟨its, m', env2, lent⟩
theorem x_compS {tg : Tg} {own : List Nat} {k : SrcK} {src : List E} {ifs : List T} {elt : E} {lent : Option (Nat × D)} {m' : Bool} {f : α → D} {g : β → D} {F : α → σ → Option (Option β × σ)} {E0 : σ → EnvD} {s : σ} {xs : List α} {ys : List β × σ} {e3 : EnvD}
    (h1 : SrcOk P m env k src (xs.map f) m' env1 env2 lent) (hp : plainAt own env1 = true) (h0 : wipeE own env2 = E0 s) (hz : xs.length ≤ sizeLine) (hF : compS F xs s = some ys)
    (hs : ∀ x s y, F x s = some y → CY g (E0 y.2) (stepC P m' tg own ifs elt (f x) (E0 s)) y.1) (he : unlend lent (restE own env1 (E0 ys.2)) = e3) :
    AX P m env (.comp tg own k src ifs elt) (.tmp (.lst true (ys.1.map g))) e3 := by
  obtain ⟨as, h1, h2⟩ := h1
  show ((evAs P m src env).bind _) = _
  rw [h1]
  show ((srcC k m as env1).bind _) = _
  rw [h2]
  show (if plainAt own env1 then (compF (stepC P m' tg own ifs elt) (xs.map f) [] (wipeE own env2)).map _ else none) = _
  rw [if_pos hp, h0, compS_sim hs xs s ys [] hF (by simpa using hz), ← he]; rfl
theorem x_mapS {tg : Tg} {own : List Nat} {k : SrcK} {src : List E} {elt : E} {lent : Option (Nat × D)} {m' : Bool} {f : α → D} {g : β → D} {F : α → σ → Option (β × σ)} {E0 : σ → EnvD} {s : σ} {xs : List α} {ys : List β × σ} {e3 : EnvD}
    (h1 : SrcOk P m env k src (xs.map f) m' env1 env2 lent) (hp : plainAt own env1 = true) (h0 : wipeE own env2 = E0 s) (hz : xs.length ≤ sizeLine) (hF : mapS F xs s = some ys)
    (hs : ∀ x s y, F x s = some y → ∃ e1 e2, bindT tg (f x) (E0 s) = some e1 ∧ AX P m' e1 elt (.tmp (g y.1)) e2 ∧ wipeE own e2 = E0 y.2) (he : unlend lent (restE own env1 (E0 ys.2)) = e3) :
    AX P m env (.comp tg own k src [] elt) (.tmp (eL g ys.1)) e3 := by
  rw [mapS_comp] at hF
  refine x_compS h1 hp h0 hz hF (fun x s y hy => ?_) he
  cases hx : F x s with
  | none => rw [hx] at hy; cases hy
  | some z =>
    rw [hx] at hy; cases hy
    obtain ⟨e1, e2, a, b, c⟩ := hs x s z hx
    exact stepC_y a rfl b c
theorem x_compM {tg : Tg} {own : List Nat} {k : SrcK} {src : List E} {ifs : List T} {elt : E} {lent : Option (Nat × D)} {m' : Bool} {f : α → D} {g : β → D} {F : α → Option (Option β)} {E0 : EnvD} {xs : List α} {ys : List β} {e3 : EnvD}
    (h1 : SrcOk P m env k src (xs.map f) m' env1 env2 lent) (hp : plainAt own env1 = true) (h0 : wipeE own env2 = E0) (hz : xs.length ≤ sizeLine) (hF : compM F xs = some ys)
    (hs : ∀ x y, F x = some y → CY g E0 (stepC P m' tg own ifs elt (f x) E0) y) (he : unlend lent (restE own env1 E0) = e3) :
    AX P m env (.comp tg own k src ifs elt) (.tmp (eL g ys)) e3 := by
  have hF' := compM_comp (F := F) (xs := xs)
  rw [hF] at hF'
  exact x_compS (E0 := fun _ => E0) (s := ()) (F := fun x (_ : Unit) => (F x).map fun y => (y, ())) (ys := (ys, ())) h1 hp h0 hz hF'.symm (fun x s y hy => by
    cases hx : F x with
    | none => rw [hx] at hy; cases hy
    | some z => rw [hx] at hy; cases hy; exact hs x z hx) he
theorem x_mapO {tg : Tg} {own : List Nat} {k : SrcK} {src : List E} {elt : E} {lent : Option (Nat × D)} {m' : Bool} {f : α → D} {g : β → D} {F : α → Option β} {E0 : EnvD} {xs : List α} {ys : List β} {e3 : EnvD}
    (h1 : SrcOk P m env k src (xs.map f) m' env1 env2 lent) (hp : plainAt own env1 = true) (h0 : wipeE own env2 = E0) (hz : xs.length ≤ sizeLine) (hF : mapO F xs = some ys)
    (hs : ∀ x y, F x = some y → ∃ e1 e2, bindT tg (f x) E0 = some e1 ∧ AX P m' e1 elt (.tmp (g y)) e2 ∧ wipeE own e2 = E0) (he : unlend lent (restE own env1 E0) = e3) :
    AX P m env (.comp tg own k src [] elt) (.tmp (eL g ys)) e3 := by
  rw [mapO_comp] at hF
  refine x_compM h1 hp h0 hz hF (fun x y hy => ?_) he
  cases hx : F x with
  | none => rw [hx] at hy; cases hy
  | some z =>
    rw [hx] at hy; cases hy
    obtain ⟨e1, e2, a, b, c⟩ := hs x z hx
    exact stepC_y a rfl b c
theorem x_map {tg : Tg} {own : List Nat} {k : SrcK} {src : List E} {elt : E} {lent : Option (Nat × D)} {m' : Bool} {f : α → D} {g : β → D} {F : α → β} {E0 : EnvD} {xs : List α} {e3 : EnvD}
    (h1 : SrcOk P m env k src (xs.map f) m' env1 env2 lent) (hp : plainAt own env1 = true) (h0 : wipeE own env2 = E0) (hz : xs.length ≤ sizeLine)
    (hs : ∀ x, ∃ e1 e2, bindT tg (f x) E0 = some e1 ∧ AX P m' e1 elt (.tmp (g (F x))) e2 ∧ wipeE own e2 = E0) (he : unlend lent (restE own env1 E0) = e3) :
    AX P m env (.comp tg own k src [] elt) (.tmp (eL g (xs.map F))) e3 :=
  x_mapO h1 hp h0 hz (mapO_map (G := F) fun x _ => rfl) (fun x y hy => by cases hy; exact hs x) he
theorem fm_if (C : α → Bool) (F : α → β) : ∀ xs : List α, xs.filterMap (fun x => if C x = true then some (F x) else none) = (xs.filter C).map F
  | [] => rfl
  | x :: xs => by
    by_cases hc : C x = true
    · simp [hc, ← fm_if C F xs]
    · simp [hc, ← fm_if C F xs]
/-- [elt for x in xs if c], nothing of it partial -/
theorem x_filt {tg : Tg} {own : List Nat} {k : SrcK} {src : List E} {ifs : List T} {elt : E} {lent : Option (Nat × D)} {m' : Bool} {f : α → D} {g : β → D} {F : α → β} {C : α → Bool} {E0 : EnvD} {xs : List α} {e3 : EnvD}
    (h1 : SrcOk P m env k src (xs.map f) m' env1 env2 lent) (hp : plainAt own env1 = true) (h0 : wipeE own env2 = E0) (hz : xs.length ≤ sizeLine)
    (hs : ∀ x, ∃ e1, bindT tg (f x) E0 = some e1 ∧ evTand P m' ifs e1 = some (C x, e1) ∧ AX P m' e1 elt (.tmp (g (F x))) e1 ∧ wipeE own e1 = E0) (he : unlend lent (restE own env1 E0) = e3) :
    AX P m env (.comp tg own k src ifs elt) (.tmp (eL g ((xs.filter C).map F))) e3 := by
  have hF : compM (fun x => some (if C x = true then some (F x) else none)) xs = some ((xs.filter C).map F) := by
    rw [compM_fm (G := fun x => if C x = true then some (F x) else none) fun x _ => rfl]
    exact congrArg some (fm_if C F xs)
  refine x_compM h1 hp h0 hz hF (fun x y hy => ?_) he
  obtain ⟨e1, a, b, c, d⟩ := hs x
  cases hy
  by_cases hc : C x = true
  · rw [hc] at b; show CY g E0 _ (if C x = true then _ else _); rw [if_pos hc]; exact stepC_y a b c d
  · show CY g E0 _ (if C x = true then _ else _); rw [if_neg hc]
    have hc : C x = false := by simpa using hc
    rw [hc] at b; exact stepC_n a b d
end
end TL
end

section
/-! TL3: operations on typed data. -/
namespace TL
open DL
open PySem (Str Operator CmpOp sizeLine PyData)
section
variable {α β γ δ σ ρ : Type}
/-! numbers -/
def mulG (i j : Int) : Option Int := if mulOk i j = true then some (i * j) else none
def divG (i j : Int) : Option Int := if divOk j = true then some (divD i j) else none
def modG (i j : Int) : Option Int := if j = 0 then none else some (modD i j)
def powG (i j : Int) : Option Int := if (decide (0 ≤ j) && decide (j ≤ 1000000) && decide (i.natAbs < 2 ^ 64)) = true then some (i ^ j.toNat) else none
theorem o_mulG {i j r : Int} (h : mulG i j = some r) : opD (.bin .Mult) [.int i, .int j] = some (.int r) := by
  unfold mulG at h
  split at h
  · cases h; exact o_mul (by assumption)
  · cases h
theorem o_divG {i j r : Int} (h : divG i j = some r) : opD (.bin .FloorDiv) [.int i, .int j] = some (.int r) := by
  unfold divG at h
  split at h
  · cases h; exact o_div (by assumption)
  · cases h
theorem o_modG {i j r : Int} (h : modG i j = some r) : opD (.bin .Mod) [.int i, .int j] = some (.int r) := by
  unfold modG at h
  split at h
  · cases h
  · cases h; exact o_mod (by assumption)
theorem o_powG {i j r : Int} (h : powG i j = some r) : opD (.bin .Pow) [.int i, .int j] = some (.int r) := by
  show (if decide (0 ≤ j) && decide (j ≤ 1000000) && decide (i.natAbs < 2 ^ 64) then some (D.int (i ^ j.toNat)) else none) = _
  unfold powG at h
  split at h
  · cases h; rw [if_pos (by assumption)]
  · cases h
theorem mulG_of {i j : Int} (h : mulOk i j = true) : mulG i j = some (i * j) := if_pos h
theorem a_mulG {i j r : Int} (h : mulG i j = some r) : augD .Mult (.int i) (.int j) = some (.int r) := by
  unfold mulG at h
  show (if mulOk i j then some (D.int (i * j)) else none) = _
  split at h
  · cases h; rw [if_pos (by assumption)]
  · cases h
theorem o_absN {i : Int} : opD .abs [.int i] = some (.int (i.natAbs : Int)) := by rw [← abs_nat]; exact o_abs
def min2 (i j : Int) : Int := if j < i then j else i
def max2 (i j : Int) : Int := if j > i then j else i
theorem o_min2 {i j : Int} : opD .min2 [.int i, .int j] = some (.int (min2 i j)) := rfl
theorem o_max2 {i j : Int} : opD .max2 [.int i, .int j] = some (.int (max2 i j)) := rfl
def b2i (b : Bool) : Int := if b = true then 1 else 0
theorem o_intB {b : Bool} : opD .toInt [.bl b] = some (.int (b2i b)) := by cases b <;> rfl
theorem o_isB {b k : Bool} : opD (.isB b) [.bl k] = some (.bl (decide (k = b))) := rfl
/-! equality -/
class EqC (f : α → D) (n : outParam Nat) [DecidableEq α] : Prop where
  eqv : ∀ a b, D.eqv (f a) (f b) = decide (a = b)
  lay : ∀ a, (f a).py.canLay0 = true
  dep : ∀ a, (f a).py.depth ≤ n
theorem EqC.shp {f : α → D} {n : Nat} [DecidableEq α] [h : EqC f n] (hn : n ≤ 64) (a : α) : (f a).shp = true := by
  show ((f a).py.canLay0 && decide ((f a).py.depth ≤ 64)) = true
  rw [h.lay, decide_eq_true (Nat.le_trans (h.dep a) hn)]; rfl
instance : EqC D.int 1 := ⟨eqv_int, fun _ => rfl, fun a => by show PyData.depth (.int a) ≤ 1; rw [PyData.depth]; omega⟩
instance : EqC D.bl 1 := ⟨fun a b => by cases a <;> cases b <;> rfl, fun _ => rfl, fun a => by show PyData.depth (.bool a) ≤ 1; rw [PyData.depth]; omega⟩
theorem pys_map (f : α → D) (xs : List α) : D.pys (xs.map f) = xs.map fun a => (f a).py := by
  induction xs with
  | nil => rfl
  | cons x xs ih => show _ :: D.pys (xs.map f) = _; rw [ih]; rfl
theorem eqvs_map (f : α → D) {n : Nat} [DecidableEq α] [h : EqC f n] : ∀ xs ys : List α, PyData.eqvAll (D.pys (xs.map f)) (D.pys (ys.map f)) = decide (xs = ys)
  | [], [] => rfl
  | [], _ :: _ => rfl
  | _ :: _, [] => rfl
  | x :: xs, y :: ys => by
    show (PyData.eqv (f x).py (f y).py && PyData.eqvAll (D.pys (xs.map f)) (D.pys (ys.map f))) = _
    rw [eqvs_map f xs ys]
    have := h.eqv x y
    unfold D.eqv at this
    rw [this]
    by_cases a : x = y <;> by_cases b : xs = ys <;> simp [a, b]
theorem lays_map (f : α → D) {n : Nat} [DecidableEq α] [h : EqC f n] : ∀ xs : List α, PyData.canLayAll0 (D.pys (xs.map f)) = true
  | [] => rfl
  | x :: xs => by
    show (PyData.canLay0 (f x).py && PyData.canLayAll0 (D.pys (xs.map f))) = true
    rw [h.lay, lays_map f xs]; rfl
theorem deps_map (f : α → D) {n : Nat} [DecidableEq α] [h : EqC f n] : ∀ xs : List α, PyData.depthAll (D.pys (xs.map f)) ≤ n
  | [] => Nat.zero_le _
  | x :: xs => by
    have h1 := h.dep x
    have h2 := deps_map f xs
    show PyData.depthAll ((f x).py :: D.pys (xs.map f)) ≤ n
    rw [PyData.depthAll]
    omega
instance (f : α → D) {n : Nat} [DecidableEq α] [EqC f n] : EqC (eT f) (n + 1) := ⟨fun a b => eqvs_map f a b, fun a => lays_map f a, fun a => by
  show PyData.depth (.tuple (D.pys (a.map f))) ≤ n + 1
  rw [PyData.depth]
  have := deps_map f a
  omega⟩
instance (f : α → D) {n : Nat} [DecidableEq α] [EqC f n] : EqC (eL f) (n + 1) := ⟨fun a b => eqvs_map f a b, fun a => lays_map f a, fun a => by
  show PyData.depth (.list (D.pys (a.map f))) ≤ n + 1
  rw [PyData.depth]
  have := deps_map f a
  omega⟩
instance (f : α → D) {n : Nat} [DecidableEq α] [EqC f n] : EqC (eF f) (n + 1) := ⟨fun a b => eqvs_map f a b, fun a => lays_map f a, fun a => by
  show PyData.depth (.list (D.pys (a.map f))) ≤ n + 1
  rw [PyData.depth]
  have := deps_map f a
  omega⟩
instance (f : α → D) (g : β → D) {n k : Nat} [DecidableEq α] [DecidableEq β] [hf : EqC f n] [hg : EqC g k] : EqC (eP f g) (n + k + 1) := ⟨fun a b => by
  show (PyData.eqv (f a.1).py (f b.1).py && (PyData.eqv (g a.2).py (g b.2).py && true)) = _
  have h1 := hf.eqv a.1 b.1
  have h2 := hg.eqv a.2 b.2
  unfold D.eqv at h1 h2
  rw [h1, h2]
  obtain ⟨a1, a2⟩ := a
  obtain ⟨b1, b2⟩ := b
  by_cases x : a1 = b1 <;> by_cases y : a2 = b2 <;> simp [x, y], fun a => by
  show (PyData.canLay0 (f a.1).py && (PyData.canLay0 (g a.2).py && true)) = true
  rw [hf.lay, hg.lay]; rfl, fun a => by
  show PyData.depth (.tuple [(f a.1).py, (g a.2).py]) ≤ _
  have := hf.dep a.1
  have := hg.dep a.2
  simp only [PyData.depth, PyData.depthAll]
  omega⟩
instance (f : α → D) (g : β → D) (h : γ → D) {n k l : Nat} [DecidableEq α] [DecidableEq β] [DecidableEq γ] [hf : EqC f n] [hg : EqC g k] [hh : EqC h l] : EqC (e3 f g h) (n + k + l + 1) := ⟨fun a b => by
  show (PyData.eqv (f a.1).py (f b.1).py && (PyData.eqv (g a.2.1).py (g b.2.1).py && (PyData.eqv (h a.2.2).py (h b.2.2).py && true))) = _
  have h1 := hf.eqv a.1 b.1
  have h2 := hg.eqv a.2.1 b.2.1
  have h3 := hh.eqv a.2.2 b.2.2
  unfold D.eqv at h1 h2 h3
  rw [h1, h2, h3]
  obtain ⟨a1, a2, a3⟩ := a
  obtain ⟨b1, b2, b3⟩ := b
  by_cases x : a1 = b1 <;> by_cases y : a2 = b2 <;> by_cases z : a3 = b3 <;> simp [x, y, z], fun a => by
  show (PyData.canLay0 (f a.1).py && (PyData.canLay0 (g a.2.1).py && (PyData.canLay0 (h a.2.2).py && true))) = true
  rw [hf.lay, hg.lay, hh.lay]; rfl, fun a => by
  show PyData.depth (.tuple [(f a.1).py, (g a.2.1).py, (h a.2.2).py]) ≤ _
  have := hf.dep a.1
  have := hg.dep a.2.1
  have := hh.dep a.2.2
  simp only [PyData.depth, PyData.depthAll]
  omega⟩
theorem o_eqC (f : α → D) {n : Nat} [DecidableEq α] [h : EqC f n] (hn : decide (n ≤ 64) = true) (a b : α) : opD (.cmp .Eq) [f a, f b] = some (.bl (decide (a = b))) := by
  show (if (f a).shp && (f b).shp then some (D.bl (D.eqv (f a) (f b))) else none) = _
  rw [EqC.shp (of_decide_eq_true hn) a, EqC.shp (of_decide_eq_true hn) b, h.eqv]; rfl
theorem o_neC (f : α → D) {n : Nat} [DecidableEq α] [h : EqC f n] (hn : decide (n ≤ 64) = true) (a b : α) : opD (.cmp .NotEq) [f a, f b] = some (.bl (!decide (a = b))) := by
  show (if (f a).shp && (f b).shp then some (D.bl (!D.eqv (f a) (f b))) else none) = _
  rw [EqC.shp (of_decide_eq_true hn) a, EqC.shp (of_decide_eq_true hn) b, h.eqv]; rfl
def eqG (d e : D) : Option Bool := if (d.shp && e.shp) = true then some (d.eqv e) else none
theorem o_eqG {d e : D} {t : Bool} (h : eqG d e = some t) : opD (.cmp .Eq) [d, e] = some (.bl t) := by
  unfold eqG at h
  split at h
  · cases h
    show (if d.shp && e.shp then some (D.bl (d.eqv e)) else none) = _
    rw [if_pos (by assumption)]
  · cases h
theorem o_neG {d e : D} {t : Bool} (h : eqG d e = some t) : opD (.cmp .NotEq) [d, e] = some (.bl (!t)) := by
  unfold eqG at h
  split at h
  · cases h
    show (if d.shp && e.shp then some (D.bl (!d.eqv e)) else none) = _
    rw [if_pos (by assumption)]
  · cases h
/-! membership of ints -/
theorem inD_int (a : Int) (xs : List Int) : inD (.int a) (xs.map D.int) = decide (a ∈ xs) := by
  unfold inD
  induction xs with
  | nil => rfl
  | cons x xs ih =>
    rw [List.map_cons, List.any_cons, ih, eqv_int]
    by_cases h : x = a
    · subst h; simp
    · simp [h, Ne.symm h]
theorem flat_ints (xs : List Int) : (xs.map D.int).all D.flat = true := by
  induction xs with
  | nil => rfl
  | cons x xs ih => exact ih
theorem o_inT {a : Int} {xs : List Int} : opD (.cmp .In) [.int a, eT D.int xs] = some (.bl (decide (a ∈ xs))) := by
  show (if (D.int a).flat && (xs.map D.int).all D.flat then some (D.bl (inD (.int a) (xs.map D.int))) else none) = _
  rw [flat_ints, inD_int]; rfl
theorem o_inL {a : Int} {xs : List Int} : opD (.cmp .In) [.int a, eL D.int xs] = some (.bl (decide (a ∈ xs))) := by
  show (if (D.int a).flat && (xs.map D.int).all D.flat then some (D.bl (inD (.int a) (xs.map D.int))) else none) = _
  rw [flat_ints, inD_int]; rfl
theorem o_inF {a : Int} {xs : List Int} : opD (.cmp .In) [.int a, eF D.int xs] = some (.bl (decide (a ∈ xs))) := by
  show (if (D.int a).flat && (xs.map D.int).all D.flat then some (D.bl (inD (.int a) (xs.map D.int))) else none) = _
  rw [flat_ints, inD_int]; rfl
theorem o_niT {a : Int} {xs : List Int} : opD (.cmp .NotIn) [.int a, eT D.int xs] = some (.bl (!decide (a ∈ xs))) := by
  show (if (D.int a).flat && (xs.map D.int).all D.flat then some (D.bl (!inD (.int a) (xs.map D.int))) else none) = _
  rw [flat_ints, inD_int]; rfl
theorem o_niL {a : Int} {xs : List Int} : opD (.cmp .NotIn) [.int a, eL D.int xs] = some (.bl (!decide (a ∈ xs))) := by
  show (if (D.int a).flat && (xs.map D.int).all D.flat then some (D.bl (!inD (.int a) (xs.map D.int))) else none) = _
  rw [flat_ints, inD_int]; rfl
theorem o_niF {a : Int} {xs : List Int} : opD (.cmp .NotIn) [.int a, eF D.int xs] = some (.bl (!decide (a ∈ xs))) := by
  show (if (D.int a).flat && (xs.map D.int).all D.flat then some (D.bl (!inD (.int a) (xs.map D.int))) else none) = _
  rw [flat_ints, inD_int]; rfl
def inG (d : D) (ds : List D) : Option Bool := if (d.flat && ds.all D.flat) = true then some (inD d ds) else none
theorem o_inG {d : D} {f : α → D} {xs : List α} {t : Bool} (h : inG d (xs.map f) = some t) : opD (.cmp .In) [d, eT f xs] = some (.bl t) := by
  unfold inG at h
  split at h
  · cases h
    show (if d.flat && (xs.map f).all D.flat then some (D.bl (inD d (xs.map f))) else none) = _
    rw [if_pos (by assumption)]
  · cases h
theorem o_inGL {d : D} {f : α → D} {xs : List α} {t : Bool} (h : inG d (xs.map f) = some t) : opD (.cmp .In) [d, eL f xs] = some (.bl t) := by
  unfold inG at h
  split at h
  · cases h
    show (if d.flat && (xs.map f).all D.flat then some (D.bl (inD d (xs.map f))) else none) = _
    rw [if_pos (by assumption)]
  · cases h
theorem o_inGF {d : D} {f : α → D} {xs : List α} {t : Bool} (h : inG d (xs.map f) = some t) : opD (.cmp .In) [d, eF f xs] = some (.bl t) := by
  unfold inG at h
  split at h
  · cases h
    show (if d.flat && (xs.map f).all D.flat then some (D.bl (inD d (xs.map f))) else none) = _
    rw [if_pos (by assumption)]
  · cases h
/-! None -/
class NN (f : α → D) : Prop where
  nn : ∀ a, (f a).isNon = false
instance : NN D.int := ⟨fun _ => rfl⟩
instance : NN D.bl := ⟨fun _ => rfl⟩
instance : NN D.str := ⟨fun _ => rfl⟩
instance (f : α → D) : NN (eT f) := ⟨fun _ => rfl⟩
instance (f : α → D) : NN (eL f) := ⟨fun _ => rfl⟩
instance (f : α → D) : NN (eF f) := ⟨fun _ => rfl⟩
instance (f : α → D) (g : β → D) : NN (eP f g) := ⟨fun _ => rfl⟩
instance (f : α → D) (g : β → D) (h : γ → D) : NN (e3 f g h) := ⟨fun _ => rfl⟩
instance (f : α → D) (g : β → D) (h : γ → D) (i : δ → D) : NN (e4 f g h i) := ⟨fun _ => rfl⟩
theorem o_isN (f : α → D) [h : NN f] {x : Option α} : opD .isN [eO f x] = some (.bl x.isNone) := by
  cases x with
  | none => rfl
  | some a => show some (D.bl (f a).isNon) = _; rw [h.nn]; rfl
theorem o_notN (f : α → D) [h : NN f] {x : Option α} : opD .notN [eO f x] = some (.bl x.isSome) := by
  cases x with
  | none => rfl
  | some a => show some (D.bl (!(f a).isNon)) = _; rw [h.nn]; rfl
theorem o_isNf (f : α → D) [h : NN f] {x : α} : opD .isN [f x] = some (.bl false) := by
  show some (D.bl (f x).isNon) = _; rw [h.nn]
theorem o_notNf (f : α → D) [h : NN f] {x : α} : opD .notN [f x] = some (.bl true) := by
  show some (D.bl (!(f x).isNon)) = _; rw [h.nn]; rfl
def PV.isN : PV → Bool
  | .non => true
  | _ => false
theorem o_isNV {v : PV} : opD .isN [PV.enc v] = some (.bl v.isN) := by cases v <;> rfl
theorem o_notNV {v : PV} : opD .notN [PV.enc v] = some (.bl (!v.isN)) := by cases v <;> rfl
theorem asO_enc {f : α → D} {x : Option α} {a : α} (h : x = some a) : eO f x = f a := by rw [h]; rfl
/-! isinstance -/
def PV.isI : PV → Bool
  | .int _ => true
  | .bl _ => true
  | _ => false
def PV.isB : PV → Bool
  | .bl _ => true
  | _ => false
def PV.isT : PV → Bool
  | .tup _ => true
  | _ => false
def PV.isS : PV → Bool
  | .str _ => true
  | _ => false
def PV.isL : PV → Bool
  | .lst _ => true
  | _ => false
theorem o_isiI {v : PV} : opD (.isi .int) [PV.enc v] = some (.bl v.isI) := by cases v <;> rfl
theorem o_isiB {v : PV} : opD (.isi .bool) [PV.enc v] = some (.bl v.isB) := by cases v <;> rfl
theorem o_isiT {v : PV} : opD (.isi .tuple) [PV.enc v] = some (.bl v.isT) := by cases v <;> rfl
theorem o_isiS {v : PV} : opD (.isi .str) [PV.enc v] = some (.bl v.isS) := by cases v <;> rfl
theorem o_isiL {v : PV} : opD (.isi .list) [PV.enc v] = some (.bl v.isL) := by cases v <;> rfl
/-! rows of things -/
theorem o_lnT {f : α → D} {xs : List α} : opD .len [eT f xs] = some (.int (xs.length : Int)) := by
  show some (D.int ((xs.map f).length : Int)) = _; rw [List.length_map]
theorem o_lnL {f : α → D} {xs : List α} : opD .len [eL f xs] = some (.int (xs.length : Int)) := by
  show some (D.int ((xs.map f).length : Int)) = _; rw [List.length_map]
theorem o_lnF {f : α → D} {xs : List α} : opD .len [eF f xs] = some (.int (xs.length : Int)) := by
  show some (D.int ((xs.map f).length : Int)) = _; rw [List.length_map]
def PV.len : PV → Option Int
  | .tup vs => some (vs.length : Int)
  | .lst vs => some (vs.length : Int)
  | _ => none
theorem o_lnV {v : PV} {n : Int} (h : v.len = some n) : opD .len [PV.enc v] = some (.int n) := by
  cases v <;> first | (cases h; done) | (injection h with h; subst h; show some (D.int ((PV.encs _).length : Int)) = _; rw [encs_map, List.length_map])
theorem o_tupL (f : α → D) [h : Pl f] {xs : List α} : opD .tuple [eL f xs] = some (eT f xs) := by
  show (if D.plains (xs.map f) then _ else _) = _; rw [pls_map]; rfl
theorem o_tupF (f : α → D) [h : Pl f] {xs : List α} : opD .tuple [eF f xs] = some (eT f xs) := by
  show (if D.plains (xs.map f) then _ else _) = _; rw [pls_map]; rfl
theorem o_tupT (f : α → D) [h : Pl f] {xs : List α} : opD .tuple [eT f xs] = some (eT f xs) := by
  show (if D.plains (xs.map f) then _ else _) = _; rw [pls_map]; rfl
theorem o_lstT (f : α → D) [h : Pl f] {xs : List α} : opD .list [eT f xs] = some (eL f xs) := by
  show (if D.plains (xs.map f) then _ else _) = _; rw [pls_map]; rfl
theorem o_lstL (f : α → D) [h : Pl f] {xs : List α} : opD .list [eL f xs] = some (eL f xs) := by
  show (if D.plains (xs.map f) then _ else _) = _; rw [pls_map]; rfl
theorem o_lstF (f : α → D) [h : Pl f] {xs : List α} : opD .list [eF f xs] = some (eL f xs) := by
  show (if D.plains (xs.map f) then _ else _) = _; rw [pls_map]; rfl
theorem o_revT (f : α → D) [h : Pl f] {xs : List α} : opD .rev [eT f xs] = some (eT f xs.reverse) := by
  show (if D.plains (xs.map f) then some (D.tup (xs.map f).reverse) else _) = _; rw [pls_map, ← List.map_reverse]; rfl
theorem o_revL (f : α → D) [h : Pl f] {xs : List α} : opD .rev [eL f xs] = some (eL f xs.reverse) := by
  show (if D.plains (xs.map f) then some (D.lst true (xs.map f).reverse) else _) = _; rw [pls_map, ← List.map_reverse]; rfl
theorem o_revF (f : α → D) [h : Pl f] {xs : List α} : opD .rev [eF f xs] = some (eL f xs.reverse) := by
  show (if D.plains (xs.map f) then some (D.lst true (xs.map f).reverse) else _) = _; rw [pls_map, ← List.map_reverse]; rfl
theorem ints_m (ns : List Int) : ints? (ns.map D.int) = some ns := by
  induction ns with
  | nil => rfl
  | cons n ns ih => show (ints? (ns.map D.int)).map _ = _; rw [ih]; rfl
theorem bls_m (ns : List Bool) : bls? (ns.map D.bl) = some ns := by
  induction ns with
  | nil => rfl
  | cons n ns ih => show (bls? (ns.map D.bl)).map _ = _; rw [ih]; rfl
theorem o_srtL {xs : List Int} : opD .sorted [eL D.int xs] = some (eL D.int (sortI xs)) := by
  show (ints? (xs.map D.int)).map _ = _; rw [ints_m]; rfl
theorem o_srtF {xs : List Int} : opD .sorted [eF D.int xs] = some (eL D.int (sortI xs)) := by
  show (ints? (xs.map D.int)).map _ = _; rw [ints_m]; rfl
theorem o_sumL {xs : List Int} : opD .sum [eL D.int xs] = some (.int xs.sum) := by
  show (ints? (xs.map D.int)).map _ = _; rw [ints_m]; rfl
theorem o_sumF {xs : List Int} : opD .sum [eF D.int xs] = some (.int xs.sum) := by
  show (ints? (xs.map D.int)).map _ = _; rw [ints_m]; rfl
theorem o_allL {xs : List Bool} : opD .all [eL D.bl xs] = some (.bl (xs.all id)) := by
  show (bls? (xs.map D.bl)).map _ = _; rw [bls_m]; rfl
theorem o_anyL {xs : List Bool} : opD .any [eL D.bl xs] = some (.bl (xs.any id)) := by
  show (bls? (xs.map D.bl)).map _ = _; rw [bls_m]; rfl
theorem o_minL {xs : List Int} {m : Int} (h : minI xs = some m) : opD .min [eL D.int xs] = some (.int m) := by
  show (ints? (xs.map D.int)).bind _ = _; rw [ints_m]; show (minI xs).map _ = _; rw [h]; rfl
theorem o_maxL {xs : List Int} {m : Int} (h : maxI xs = some m) : opD .max [eL D.int xs] = some (.int m) := by
  show (ints? (xs.map D.int)).bind _ = _; rw [ints_m]; show (maxI xs).map _ = _; rw [h]; rfl
theorem o_minF {xs : List Int} {m : Int} (h : minI xs = some m) : opD .min [eF D.int xs] = some (.int m) := by
  show (ints? (xs.map D.int)).bind _ = _; rw [ints_m]; show (minI xs).map _ = _; rw [h]; rfl
theorem o_maxF {xs : List Int} {m : Int} (h : maxI xs = some m) : opD .max [eF D.int xs] = some (.int m) := by
  show (ints? (xs.map D.int)).bind _ = _; rw [ints_m]; show (maxI xs).map _ = _; rw [h]; rfl
/-! ranges -/
def rg (lo hi : Int) : List Int := (List.range (hi - lo).toNat).map fun (k : Nat) => lo + (k : Int)
theorem rg_D (lo hi : Int) : rngL lo hi = (rg lo hi).map D.int := by unfold rngL rg; rw [List.map_map]; rfl
theorem mem_rg {lo hi k : Int} : k ∈ rg lo hi ↔ lo ≤ k ∧ k < hi := by
  unfold rg
  rw [List.mem_map]
  constructor
  · rintro ⟨n, hn, rfl⟩
    rw [List.mem_range] at hn
    omega
  · rintro ⟨h1, h2⟩
    exact ⟨(k - lo).toNat, by rw [List.mem_range]; omega, by omega⟩
theorem rg_len (lo hi : Int) : (rg lo hi).length = (hi - lo).toNat := by unfold rg; simp
def rngG (lo hi : Int) : Option (List Int) := if (rngOk lo && rngOk hi) = true then some (rg lo hi) else none
theorem rngG_of {lo hi : Int} (h1 : -1000000000000 ≤ lo ∧ lo ≤ 1000000000000) (h2 : -1000000000000 ≤ hi ∧ hi ≤ 1000000000000) : rngG lo hi = some (rg lo hi) := by
  unfold rngG
  rw [if_pos]
  unfold rngOk
  rw [decide_eq_true (by omega), decide_eq_true (by omega), decide_eq_true (by omega), decide_eq_true (by omega)]; rfl
def rlG (j : Int) : Option (List Int) := if (rngOk j && szOk j.toNat) = true then some (rg 0 j) else none
theorem rlG_of {j : Int} (h : -1000000 ≤ j ∧ j ≤ 1000000) : rlG j = some (rg 0 j) := by
  unfold rlG
  rw [if_pos]
  unfold rngOk szOk
  have : sizeLine = 16777216 := rfl
  rw [decide_eq_true (by omega), decide_eq_true (by omega), decide_eq_true (by omega)]; rfl
theorem o_lrG {j : Int} {xs : List Int} (h : rlG j = some xs) : opD .lrange [.int j] = some (eL D.int xs) := by
  unfold rlG at h
  split at h
  · cases h
    show (if rngOk j && szOk j.toNat then some (D.lst true (rngL 0 j)) else none) = _
    rw [if_pos (by assumption), rg_D]; rfl
  · cases h
theorem o_trG {j : Int} {xs : List Int} (h : rlG j = some xs) : opD .trange [.int j] = some (eT D.int xs) := by
  unfold rlG at h
  split at h
  · cases h
    show (if rngOk j && szOk j.toNat then some (D.tup (rngL 0 j)) else none) = _
    rw [if_pos (by assumption), rg_D]; rfl
  · cases h
/-! + and * of rows -/
def catG (xs ys : List α) : Option (List α) := if xs.length + ys.length ≤ sizeLine then some (xs ++ ys) else none
theorem catG_of {xs ys : List α} (h : xs.length + ys.length ≤ 1000000) : catG xs ys = some (xs ++ ys) := if_pos (Nat.le_trans h (by decide))
theorem o_catT (f : α → D) [Pl f] {xs ys zs : List α} (h : catG xs ys = some zs) : opD (.bin .Add) [eT f xs, eT f ys] = some (eT f zs) := by
  unfold catG at h
  split at h
  · cases h
    show (if D.plains (xs.map f) && D.plains (ys.map f) && szOk ((xs.map f).length + (ys.map f).length) then some (D.tup (xs.map f ++ ys.map f)) else none) = _
    rw [pls_map, pls_map, List.length_map, List.length_map, ← List.map_append, if_pos (by show (true && szOk _) = true; unfold szOk; rw [decide_eq_true (by assumption)]; rfl)]; rfl
  · cases h
theorem o_catL0 (f : α → D) [Pl f] {a b : Bool} {xs ys zs : List α} (h : catG xs ys = some zs) : opD (.bin .Add) [.lst a (xs.map f), .lst b (ys.map f)] = some (eL f zs) := by
  unfold catG at h
  split at h
  · cases h
    show (if D.plains (xs.map f) && D.plains (ys.map f) && szOk ((xs.map f).length + (ys.map f).length) then some (D.lst true (xs.map f ++ ys.map f)) else none) = _
    rw [pls_map, pls_map, List.length_map, List.length_map, ← List.map_append, if_pos (by show (true && szOk _) = true; unfold szOk; rw [decide_eq_true (by assumption)]; rfl)]; rfl
  · cases h
theorem o_catL (f : α → D) [Pl f] {xs ys zs : List α} (h : catG xs ys = some zs) : opD (.bin .Add) [eL f xs, eL f ys] = some (eL f zs) := o_catL0 f h
def repG (xs : List α) (k : Int) : Option (List α) := if (decide (k < 2 ^ 62) && decide (-(2 ^ 62) ≤ k) && szOk (xs.length * k.toNat)) = true then some (List.replicate k.toNat xs).flatten else none
theorem repG_of {x : α} {k : Int} (h0 : -1000000 ≤ k) (h : k ≤ 1000000) : repG [x] k = some (List.replicate k.toNat x) := by
  unfold repG
  rw [if_pos]
  · congr 1
    generalize k.toNat = n
    induction n with
    | zero => rfl
    | succ n ih => rw [List.replicate_succ, List.replicate_succ, List.flatten_cons, ih]; rfl
  · unfold szOk
    have : sizeLine = 16777216 := rfl
    rw [decide_eq_true (by omega), decide_eq_true (by omega), decide_eq_true (by simp; omega)]; rfl
theorem flat_map (f : α → D) (xs : List α) (n : Nat) : (List.replicate n (xs.map f)).flatten = (List.replicate n xs).flatten.map f := by
  induction n with
  | zero => rfl
  | succ n ih => rw [List.replicate_succ, List.replicate_succ, List.flatten_cons, List.flatten_cons, ih, List.map_append]
theorem o_repL (f : α → D) [Pl f] {xs zs : List α} {k : Int} (h : repG xs k = some zs) : opD (.bin .Mult) [eL f xs, .int k] = some (eL f zs) := by
  unfold repG at h
  split at h
  · rename_i hc
    cases h
    show (if D.plains (xs.map f) && decide (k < 2 ^ 62) && decide (-(2 ^ 62) ≤ k) && szOk ((xs.map f).length * k.toNat) then some (D.lst true (List.replicate k.toNat (xs.map f)).flatten) else none) = _
    rw [pls_map, List.length_map, flat_map, Bool.true_and, if_pos hc]; rfl
  · cases h
/-! items -/
theorem at_map {f : α → D} {xs : List α} {i : Int} {x : α} (h : L2.atI xs i = some x) : L2.atI (xs.map f) i = some (f x) := by
  unfold L2.atI at h ⊢
  rw [List.length_map]
  obtain ⟨j, hj, h⟩ := bnd h
  rw [hj]
  show (xs.map f)[j]? = _
  rw [List.getElem?_map, h]; rfl
theorem s_T {f : α → D} {xs : List α} {i : Int} {x : α} (h : L2.atI xs i = some x) : subD (eT f xs) (.int i) = some (f x) := at_map h
theorem s_L {f : α → D} {xs : List α} {i : Int} {x : α} (h : L2.atI xs i = some x) : subD (eL f xs) (.int i) = some (f x) := at_map h
theorem s_F {f : α → D} {xs : List α} {i : Int} {x : α} (h : L2.atI xs i = some x) : subD (eF f xs) (.int i) = some (f x) := at_map h
def PV.at (v : PV) (i : Int) : Option PV := v.asQ.bind fun vs => L2.atI vs i
theorem s_V {v : PV} {i : Int} {x : PV} (h : v.at i = some x) : subD (PV.enc v) (.int i) = some (PV.enc x) := by
  obtain ⟨vs, h1, h⟩ := bnd h
  cases v <;> first | (cases h1; done) | (injection h1 with h1; subst h1; show L2.atI (PV.encs _) i = _; rw [encs_map]; exact at_map h)
theorem at_in {xs : List α} {i : Nat} (h : i < xs.length) : L2.atI xs (i : Int) = some xs[i] := L2.atI_nat (List.getElem?_eq_getElem h)
/-! parts of rows -/
def cutL (xs : List α) (lo hi : Option Int) : List α := (xs.drop (HT.sIx xs.length 0 lo)).take (HT.sIx xs.length xs.length hi - HT.sIx xs.length 0 lo)
theorem cut_map {f : α → D} {xs : List α} {l h : Option Int} : cutD (xs.map f) l h = (cutL xs l h).map f := by
  unfold cutD cutL
  rw [List.length_map, List.map_take, List.map_drop]
theorem k_T (f : α → D) [Pl f] {xs : List α} {l h : Option Int} : cutO (eT f xs) l h = some (eT f (cutL xs l h)) := by
  show (if D.plains (xs.map f) then some (D.tup (cutD (xs.map f) l h)) else none) = _
  rw [pls_map, cut_map]; rfl
theorem k_L (f : α → D) [Pl f] {xs : List α} {l h : Option Int} : cutO (eL f xs) l h = some (eL f (cutL xs l h)) := by
  show (if D.plains (xs.map f) then some (D.lst true (cutD (xs.map f) l h)) else none) = _
  rw [pls_map, cut_map]; rfl
theorem k_F (f : α → D) [Pl f] {xs : List α} {l h : Option Int} : cutO (eF f xs) l h = some (eL f (cutL xs l h)) := by
  show (if D.plains (xs.map f) then some (D.lst true (cutD (xs.map f) l h)) else none) = _
  rw [pls_map, cut_map]; rfl
/-! stores -/
def setG (xs : List α) (i : Int) (x : α) : Option (List α) := (L2.ixN xs.length i).bind fun j => some (xs.set j x)
theorem setG_of {xs : List α} {i : Nat} {x : α} (h : i < xs.length) : setG xs (i : Int) x = some (xs.set i x) := by
  unfold setG L2.ixN
  rw [if_pos (by omega), if_pos (by omega)]
  show some (xs.set (i : Int).toNat x) = _
  rw [Int.toNat_natCast]
theorem set_L {f : α → D} {xs ys : List α} {i : Int} {x : α} (h : setG xs i x = some ys) : setD (eL f xs) (.int i) (f x) = some (eL f ys) := by
  obtain ⟨j, h1, h⟩ := bnd h
  cases h
  show ((L2.ixN (xs.map f).length i).map fun j => D.lst true ((xs.map f).set j (f x))) = _
  rw [List.length_map, h1]
  show some (D.lst true ((xs.map f).set j (f x))) = _
  rw [← List.map_set]; rfl
def appG (xs : List α) (x : α) : Option (List α) := if xs.length < sizeLine then some (xs ++ [x]) else none
theorem appG_of {xs : List α} {x : α} (h : xs.length ≤ 1000000) : appG xs x = some (xs ++ [x]) := if_pos (Nat.lt_of_le_of_lt h (by decide))
theorem app_L {f : α → D} {xs ys : List α} {x : α} (h : appG xs x = some ys) : appD (f x) (eL f xs) = some (eL f ys) := by
  unfold appG at h
  split at h
  · cases h
    show (if (xs.map f).length < sizeLine then some (D.lst true (xs.map f ++ [f x])) else none) = _
    rw [List.length_map, if_pos (by assumption), eL, List.map_append]; rfl
  · cases h
theorem ext_L {f : α → D} [Pl f] {o : Bool} {xs ys zs : List α} (h : catG xs ys = some zs) : extD (.lst o (ys.map f)) (eL f xs) = some (eL f zs) := by
  unfold catG at h
  split at h
  · cases h
    show (if D.plains (ys.map f) && szOk ((xs.map f).length + (ys.map f).length) then some (D.lst true (xs.map f ++ ys.map f)) else none) = _
    rw [pls_map, List.length_map, List.length_map, if_pos (by show (true && szOk _) = true; unfold szOk; rw [decide_eq_true (by assumption)]; rfl), eL, List.map_append]
  · cases h
theorem rem_L {xs ys : List Int} {x : Int} (h : remL x xs = some ys) : remD (.int x) (eL D.int xs) = some (eL D.int ys) := by
  show ((ints? (xs.map D.int)).bind fun ns => (remL x ns).map fun l => D.lst true (l.map .int)) = _
  rw [ints_m]
  show (remL x xs).map _ = _
  rw [h]; rfl
theorem up0 (f : D → Option D) (d : D) : updD f d [] = f d := by cases d <;> rfl
end
end TL
end

section
/-! TL4: statements, loops, defs: the goal goes with the rest of a block. -/
namespace TL
open DL
open PySem (Str Operator CmpOp sizeLine PyData)
section
variable {α β γ δ σ ρ : Type} {P : Ctx} {env env1 env2 env3 : EnvD} {G : Option (Fl × EnvD) → Prop}
theorem s_asg {t : Tg} {e : E} {d : D} (h : AX P false env e (.tmp d) env1) (hb : bindT t d env1 = some env2) : SX P env (.asg t e) .nx env2 := by
  show (((evA P false e env).bind fun x => mat false x.1 x.2).bind _) = _
  rw [h]
  show ((bindT t d env1).map _) = _
  rw [hb]; rfl
theorem s_par {is : List Nat} {es : List E} {ds : List D} (h : MX P false env es ds env1) (hb : bindN is ds env1 = some env2) : SX P env (.par is es) .nx env2 := by
  show ((evMs P false es env).bind _) = _
  rw [h]
  show ((bindN is ds env1).map _) = _
  rw [hb]; rfl
theorem s_rtv {e : E} {d : D} (h : AX P false env e (.tmp d) env1) : SX P env (.ret e) (.rt d) env1 := by
  show (((evA P false e env).bind fun x => mat false x.1 x.2).map _) = _
  rw [h]; rfl
theorem s_retN : SX P env .retN (.rt .non) env := rfl
theorem s_ex {e : E} {a : A} (h : AX P false env e a env1) : SX P env (.ex e) .nx env1 := by
  show ((evA P false e env).map _) = _
  rw [h]; rfl
theorem s_pass : SX P env .pass .nx env := rfl
theorem s_aug {i : Nat} {o : Operator} {e : E} {x d r : D} {a : A} (g : getE env i = some x) (h : AX P false env e a env1) (g2 : a.get env1 = some d) (ho : augD o x d = some r) (hi : decide (i < env.length) = true) (he : env1.set i (some r) = env2) : SX P env (.aug i o e) .nx env2 := by
  show ((getE env i).bind _) = _
  rw [g]
  show ((evA P false e env).bind _) = _
  rw [h]
  show ((a.get env1).bind _) = _
  rw [g2]
  show ((augD o x d).bind _) = _
  rw [ho]
  show (if i < env.length then some (Fl.nx, env1.set i (some r)) else none) = _
  rw [if_pos (of_decide_eq_true hi), he]
theorem s_sto {i : Nat} {k e : E} {d kd c c' : D} (h : AX P false env e (.tmp d) env1) (hk : AX P true env1 k (.tmp kd) env2) (g1 : getE env1 i = some c) (g : getE env2 i = some c) (hs : setD c kd d = some c') (he : env2.set i (some c') = env3) : SX P env (.sto i [] k e) .nx env3 := by
  show (((evA P false e env).bind fun x => mat false x.1 x.2).bind _) = _
  rw [h]
  show ((getE env1 i).bind _) = _
  rw [g1]
  show (((evA P true k env1).bind _).bind _) = _
  rw [hk]
  show (((getE env2 i).bind fun d' => (updD (fun c => setD c kd d) d' []).map _).map _) = _
  rw [g]
  show (((updD (fun c => setD c kd d) c []).map _).map _) = _
  rw [up0, hs, ← he]; rfl
theorem s_augS {i : Nat} {k e : E} {o : Operator} {a : A} {d kd c c' old new : D} (g : getE env i = some c) (hk : AX P true env k (.tmp kd) env) (ho : subD c kd = some old) (h : AX P true env e a env) (g2 : a.get env = some d) (hn : augD o old d = some new) (hs : setD c kd new = some c') (he : env.set i (some c') = env3) : SX P env (.augS i [] k o e) .nx env3 := by
  show ((getE env i).bind _) = _
  rw [g]
  show (((evA P true k env).bind _).bind _) = _
  rw [hk]
  show ((getE env i).bind _) = _
  rw [g]
  show ((getP c [kd]).bind _) = _
  rw [getP1, ho]
  show ((evA P true e env).bind _) = _
  rw [h]
  show ((a.get env).bind _) = _
  rw [g2]
  show ((augD o old d).bind _) = _
  rw [hn]
  show (((getE env i).bind fun d' => (updD (fun c => setD c kd new) d' []).map _).map _) = _
  rw [g]
  show (((updD (fun c => setD c kd new) c []).map _).map _) = _
  rw [up0, hs, ← he]; rfl
theorem s_app {i : Nat} {e : E} {o : Bool} {ds : List D} {x c c' : D} (g : getE env i = some (.lst o ds)) (h : AX P false env e (.tmp x) env1) (g1 : getE env1 i = some c) (ha : appD x c = some c') (he : env1.set i (some c') = env2) : SX P env (.app i [] e) .nx env2 := by
  show (((getE env i).bind D.lst?).bind _) = _
  rw [g]
  show (((evA P false e env).bind fun x => mat false x.1 x.2).bind _) = _
  rw [h]
  show (((getE env1 i).bind fun d' => (updD (appD x) d' []).map _).map _) = _
  rw [g1]
  show (((updD (appD x) c []).map _).map _) = _
  rw [up0, ha, ← he]; rfl
theorem s_ext {i : Nat} {e : E} {o : Bool} {ds : List D} {a : A} {x c c' : D} (g : getE env i = some (.lst o ds)) (h : AX P false env e a env1) (g2 : a.get env1 = some x) (g1 : getE env1 i = some c) (ha : extD x c = some c') (he : env1.set i (some c') = env2) : SX P env (.ext i [] e) .nx env2 := by
  show (((getE env i).bind D.lst?).bind _) = _
  rw [g]
  show ((evA P false e env).bind _) = _
  rw [h]
  show ((a.get env1).bind _) = _
  rw [g2]
  show (((getE env1 i).bind fun d' => (updD (extD x) d' []).map _).map _) = _
  rw [g1]
  show (((updD (extD x) c []).map _).map _) = _
  rw [up0, ha, ← he]; rfl
theorem s_rem {i : Nat} {e : E} {o : Bool} {ds : List D} {a : A} {x c c' : D} (g : getE env i = some (.lst o ds)) (h : AX P false env e a env1) (g2 : a.get env1 = some x) (g1 : getE env1 i = some c) (ha : remD x c = some c') (he : env1.set i (some c') = env2) : SX P env (.rem i [] e) .nx env2 := by
  show (((getE env i).bind D.lst?).bind _) = _
  rw [g]
  show ((evA P false e env).bind _) = _
  rw [h]
  show ((a.get env1).bind _) = _
  rw [g2]
  show (((getE env1 i).bind fun d' => (updD (remD x) d' []).map _).map _) = _
  rw [g1]
  show (((updD (remD x) c []).map _).map _) = _
  rw [up0, ha, ← he]; rfl
theorem evSs_app : ∀ (a r : List S) (env : EnvD), evSs P (a ++ r) env = (evSs P a env).bind fun x => match x.1 with
    | .nx => evSs P r x.2
    | f => some (f, x.2)
  | [], r, env => by
    show evSs P r env = (evSs P [] env).bind _
    rw [evSs]; rfl
  | s :: a, r, env => by
    rw [List.cons_append, evSs, evSs]
    cases evS P s env with
    | none => rfl
    | some x =>
      obtain ⟨fl, e⟩ := x
      cases fl with
      | nx => exact evSs_app a r e
      | bk => rfl
      | ct => rfl
      | rt d => rfl
theorem ite_app {c : T} {a b r : List S} {t : Bool} (h : TX P false env c t env1) : evSs P (.ite c a b :: r) env = evSs P ((if t = true then a else b) ++ r) env1 := by
  rw [evSs, evS, h, evSs_app]
  cases t <;> rfl
/-! the rest of a block -/
theorem g_nx {s : S} {r : List S} {e : EnvD} (h : SX P env s .nx e) (k : G (evSs P r e)) : G (evSs P (s :: r) env) := by rw [ss_nx h]; exact k
theorem g_rt {s : S} {r : List S} {d : D} {e : EnvD} (h : SX P env s (.rt d) e) (k : G (some (.rt d, e))) : G (evSs P (s :: r) env) := by rw [ss_rt h]; exact k
theorem g_bk {r : List S} (k : G (some (.bk, env))) : G (evSs P (.brk :: r) env) := by
  have : evSs P (.brk :: r) env = some (.bk, env) := by rw [evSs, evS]; rfl
  rw [this]; exact k
theorem g_ct {r : List S} (k : G (some (.ct, env))) : G (evSs P (.cnt :: r) env) := by
  have : evSs P (.cnt :: r) env = some (.ct, env) := by rw [evSs, evS]; rfl
  rw [this]; exact k
theorem g_end (k : G (some (.nx, env))) : G (evSs P [] env) := by
  have : evSs P [] env = some (.nx, env) := by rw [evSs]
  rw [this]; exact k
theorem g_iteT {c : T} {a b r : List S} {t : Bool} (h : TX P false env c t env1) (ht : t = true) (k : G (evSs P (a ++ r) env1)) : G (evSs P (.ite c a b :: r) env) := by
  rw [ite_app h, ht]; exact k
theorem g_iteF {c : T} {a b r : List S} {t : Bool} (h : TX P false env c t env1) (ht : t = false) (k : G (evSs P (b ++ r) env1)) : G (evSs P (.ite c a b :: r) env) := by
  rw [ite_app h, ht]; exact k
/-- both ways of an if come to one -/
theorem g_join {c : T} {a b r : List S} {t : Bool} {e : EnvD} (h : TX P false env c t env1) (ha : t = true → (fun o => o = some (Fl.nx, e)) (evSs P a env1)) (hb : t = false → (fun o => o = some (Fl.nx, e)) (evSs P b env1)) (k : G (evSs P r e)) : G (evSs P (.ite c a b :: r) env) := by
  rw [ite_app h, evSs_app]
  cases t
  · have := hb rfl
    simp only [] at this
    rw [if_neg (by decide), this]; exact k
  · have := ha rfl
    simp only [] at this
    rw [if_pos rfl, this]; exact k
def NxE (e : EnvD) (o : Option (Fl × EnvD)) : Prop := o = some (.nx, e)
theorem g_joinE {c : T} {a b r : List S} {t : Bool} {e : EnvD} (h : TX P false env c t env1) (ha : t = true → NxE e (evSs P a env1)) (hb : t = false → NxE e (evSs P b env1)) (k : G (evSs P r e)) : G (evSs P (.ite c a b :: r) env) := g_join h ha hb k
/-- .. but for slots that are dead behind it -/
def NxI (I : EnvD → Prop) (o : Option (Fl × EnvD)) : Prop := ∃ e, o = some (.nx, e) ∧ I e
theorem g_joinI {c : T} {a b r : List S} {t : Bool} {I : EnvD → Prop} (h : TX P false env c t env1) (ha : t = true → NxI I (evSs P a env1)) (hb : t = false → NxI I (evSs P b env1)) (k : ∀ e, I e → G (evSs P r e)) : G (evSs P (.ite c a b :: r) env) := by
  rw [ite_app h, evSs_app]
  cases t
  · obtain ⟨e, h1, h2⟩ := hb rfl
    rw [if_neg (by decide), h1]; exact k e h2
  · obtain ⟨e, h1, h2⟩ := ha rfl
    rw [if_pos rfl, h1]; exact k e h2
theorem g_bind {t : Tg} {d : D} {b : List S} {e1 : EnvD} (hb : bindT t d env = some e1) (k : G (evSs P b e1)) : G ((bindT t d env).bind (evSs P b)) := by rw [hb]; exact k
/-! what is walked -/
def ForOk (P : Ctx) (env : EnvD) (k : SrcK) (src : List E) (its : List D) (env2 : EnvD) (lent : Option (Nat × D)) : Prop :=
  ∃ as env1 m, evAs P false src env = some (as, env1) ∧ forC k as env1 = some ⟨its, m, env2, lent⟩
theorem fo_rng1 {src : List E} {n : Int} {xs : List Int} (h : QX P false env src [.tmp (.int n)] env1) (hr : rngG 0 n = some xs) : ForOk P env .rng src (xs.map D.int) env1 none := by
  refine ⟨_, _, false, h, ?_⟩
  unfold rngG at hr
  split at hr
  · rename_i hc
    cases hr
    rw [Bool.and_eq_true] at hc
    show (Option.map _ (if rngOk n then some (rngL 0 n) else none)) = _
    rw [hc.2, rg_D]; rfl
  · cases hr
theorem fo_rng2 {src : List E} {l n : Int} {xs : List Int} (h : QX P false env src [.tmp (.int l), .tmp (.int n)] env1) (hr : rngG l n = some xs) : ForOk P env .rng src (xs.map D.int) env1 none := by
  refine ⟨_, _, false, h, ?_⟩
  unfold rngG at hr
  split at hr
  · rename_i hc
    cases hr
    show (Option.map _ (if rngOk l && rngOk n then some (rngL l n) else none)) = _
    rw [hc, rg_D]; rfl
  · cases hr
theorem fo_it {lend : Bool} {src : List E} {d : D} {f : α → D} [Pl f] {xs : List α} (h : QX P false env src [.tmp d] env1) (hi : d.items = some (xs.map f)) : ForOk P env (.it lend) src (xs.map f) env1 none := by
  refine ⟨_, _, false, h, ?_⟩
  show ((D.items d).bind fun its => if D.plains its then _ else none) = _
  rw [hi]
  show (if D.plains (xs.map f) then _ else none) = _
  rw [pls_map]; rfl
theorem fo_lend {i : Nat} {d : D} {src : List E} {f : α → D} [Pl f] {xs : List α} (h : QX P false env src [.ref i] env1) (g : getE env1 i = some d) (hi : d.items = some (xs.map f)) (he : env1.set i none = env2) : ForOk P env (.it true) src (xs.map f) env2 (some (i, d)) := by
  refine ⟨_, _, false, h, ?_⟩
  show ((getE env1 i).bind _) = _
  rw [g]
  show ((D.items d).bind fun its => if D.plains its then _ else none) = _
  rw [hi]
  show (if D.plains (xs.map f) then _ else none) = _
  rw [pls_map, ← he]; rfl
theorem fo_frz {i : Nat} {d d' : D} {src : List E} {f : α → D} {its : List D} {xs : List α} (h : QX P false env src [.ref i] env1) (g : getE env1 i = some d) (hi : d.items = some its) (hz : D.freezes its = xs.map f) (hd : d.freeze = d') (he : env1.set i (some d') = env2) : ForOk P env (.it false) src (xs.map f) env2 none := by
  refine ⟨_, _, false, h, ?_⟩
  show ((getE env1 i).bind _) = _
  rw [g]
  show ((D.items d).bind _) = _
  rw [hi, ← hz, ← he, ← hd]; rfl
theorem fo_zip {src : List E} {f : α → D} {g : β → D} [Pl f] [Pl g] {xs : List α} {ys : List β} (h : QX P false env src [.tmp (eT f xs), .tmp (eT g ys)] env1) : ForOk P env .zip src ((xs.zip ys).map (eP f g)) env1 none := by
  refine ⟨_, _, false, h, ?_⟩
  show (Option.map _ (if D.plains (xs.map f) && D.plains (ys.map g) then some (((xs.map f).zip (ys.map g)).map fun p => D.tup [p.1, p.2]) else none)) = _
  rw [pls_map, pls_map, List.zip_map, List.map_map]; rfl
theorem so_rng1 {m : Bool} {src : List E} {n : Int} {xs : List Int} (h : QX P m env src [.tmp (.int n)] env1) (hr : rngG 0 n = some xs) : SrcOk P m env .rng src (xs.map D.int) m env1 env1 none := by
  refine ⟨_, h, ?_⟩
  unfold rngG at hr
  split at hr
  · rename_i hc
    cases hr
    rw [Bool.and_eq_true] at hc
    show (Option.map _ (if rngOk n then some (rngL 0 n) else none)) = _
    rw [hc.2, rg_D]; rfl
  · cases hr
theorem so_rng2 {m : Bool} {src : List E} {l n : Int} {xs : List Int} (h : QX P m env src [.tmp (.int l), .tmp (.int n)] env1) (hr : rngG l n = some xs) : SrcOk P m env .rng src (xs.map D.int) m env1 env1 none := by
  refine ⟨_, h, ?_⟩
  unfold rngG at hr
  split at hr
  · rename_i hc
    cases hr
    show (Option.map _ (if rngOk l && rngOk n then some (rngL l n) else none)) = _
    rw [hc, rg_D]; rfl
  · cases hr
theorem so_it {m lend : Bool} {src : List E} {d : D} {f : α → D} [Pl f] {xs : List α} (h : QX P m env src [.tmp d] env1) (hi : d.items = some (xs.map f)) : SrcOk P m env (.it lend) src (xs.map f) m env1 env1 none := by
  refine ⟨_, h, ?_⟩
  show ((D.items d).bind fun its => if D.plains its then srcI lend m (.tmp d) env1 d its else none) = _
  rw [hi]
  show (if D.plains (xs.map f) then _ else none) = _
  rw [pls_map]
  cases lend <;> cases m <;> rfl
theorem so_lend {i : Nat} {d : D} {src : List E} {f : α → D} [Pl f] {xs : List α} (h : QX P false env src [.ref i] env1) (g : getE env1 i = some d) (hi : d.items = some (xs.map f)) (he : env1.set i none = env2) : SrcOk P false env (.it true) src (xs.map f) false env1 env2 (some (i, d)) := by
  refine ⟨_, h, ?_⟩
  show ((getE env1 i).bind _) = _
  rw [g]
  show ((D.items d).bind fun its => if D.plains its then srcI true false (.ref i) env1 d its else none) = _
  rw [hi]
  show (if D.plains (xs.map f) then _ else none) = _
  rw [pls_map, ← he]; rfl
/-- over a list that is not lent: what is reckoned for an item changes nothing -/
theorem so_ref {m : Bool} {i : Nat} {d : D} {src : List E} {f : α → D} [Pl f] {xs : List α} (h : QX P m env src [.ref i] env1) (g : getE env1 i = some d) (hi : d.items = some (xs.map f)) : SrcOk P m env (.it false) src (xs.map f) true env1 env1 none := by
  refine ⟨_, h, ?_⟩
  show ((getE env1 i).bind _) = _
  rw [g]
  show ((D.items d).bind fun its => if D.plains its then srcI false m (.ref i) env1 d its else none) = _
  rw [hi]
  show (if D.plains (xs.map f) then _ else none) = _
  rw [pls_map]
  cases m <;> rfl
theorem it_T {f : α → D} {xs : List α} : (eT f xs).items = some (xs.map f) := rfl
theorem it_L {f : α → D} {xs : List α} : (eL f xs).items = some (xs.map f) := rfl
theorem it_F {f : α → D} {xs : List α} : (eF f xs).items = some (xs.map f) := rfl
/-! for -/
inductive Ct (ρ σ : Type) where
  | nx (s : σ)
  | bk (s : σ)
  | rt (r : ρ)
def foldO (step : α → σ → Option σ) : List α → σ → Option σ
  | [], s => some s
  | x :: xs, s => (step x s).bind fun s => foldO step xs s
def loopO (step : α → σ → Option (Ct ρ σ)) : List α → σ → Option (ρ ⊕ σ)
  | [], s => some (.inr s)
  | x :: xs, s => (step x s).bind fun c => match c with
    | .nx s => loopO step xs s
    | .bk s => some (.inr s)
    | .rt r => some (.inl r)
def NXG (I : σ → EnvD → Prop) (s : σ) (o : Option (Fl × EnvD)) : Prop := ∃ fl e, o = some (fl, e) ∧ (fl = .nx ∨ fl = .ct) ∧ I s e
def CTG (I : σ → EnvD → Prop) (R : ρ → D → EnvD → Prop) (c : Ct ρ σ) (o : Option (Fl × EnvD)) : Prop := match c with
  | .nx s => NXG I s o
  | .bk s => ∃ e, o = some (.bk, e) ∧ I s e
  | .rt r => ∃ d e, o = some (.rt d, e) ∧ R r d e
theorem fold_sim {stepD : D → EnvD → Option (Fl × EnvD)} {f : α → D} {I : σ → EnvD → Prop} {step : α → σ → Option σ} (hs : ∀ x s s' e, I s e → step x s = some s' → NXG I s' (stepD (f x) e)) :
    ∀ xs s s' e, I s e → foldO step xs s = some s' → ∃ e', loopF stepD (xs.map f) e = some (.nx, e') ∧ I s' e'
  | [], s, s', e, h, hF => by cases hF; exact ⟨e, rfl, h⟩
  | x :: xs, s, s', e, h, hF => by
    obtain ⟨s1, h1, hF⟩ := bnd hF
    obtain ⟨fl, e1, h2, h3, h4⟩ := hs x s s1 e h h1
    obtain ⟨e2, h5, h6⟩ := fold_sim hs xs s1 s' e1 h4 hF
    refine ⟨e2, ?_, h6⟩
    show (stepD (f x) e).bind _ = _
    rw [h2]
    rcases h3 with rfl | rfl <;> exact h5
theorem g_forF {tg : Tg} {k : SrcK} {src : List E} {b r : List S} {f : α → D} {xs : List α} {step : α → σ → Option σ} {s0 s' : σ} {lent : Option (Nat × D)} (I : σ → EnvD → Prop) (h1 : ForOk P env k src (xs.map f) env2 lent) (h0 : I s0 env2) (hF : foldO step xs s0 = some s')
    (hs : ∀ x s s' e, I s e → step x s = some s' → NXG I s' ((bindT tg (f x) e).bind (evSs P b))) (hk : ∀ e, I s' e → G (evSs P r (unlend lent e))) : G (evSs P (.for_ tg k src b :: r) env) := by
  obtain ⟨as, env1, m, h1, h2⟩ := h1
  obtain ⟨e', h3, h4⟩ := fold_sim (stepD := fun d e => (bindT tg d e).bind (evSs P b)) hs xs s0 s' env2 h0 hF
  exact g_nx (s_for h1 h2 h3) (hk e' h4)
theorem loop_sim {stepD : D → EnvD → Option (Fl × EnvD)} {f : α → D} {I : σ → EnvD → Prop} {R : ρ → D → EnvD → Prop} {step : α → σ → Option (Ct ρ σ)} (hs : ∀ x s c e, I s e → step x s = some c → CTG I R c (stepD (f x) e)) :
    ∀ xs s z e, I s e → loopO step xs s = some z → (∃ s' e', z = .inr s' ∧ loopF stepD (xs.map f) e = some (.nx, e') ∧ I s' e') ∨ (∃ r d e', z = .inl r ∧ loopF stepD (xs.map f) e = some (.rt d, e') ∧ R r d e')
  | [], s, z, e, h, hF => by cases hF; exact .inl ⟨s, e, rfl, rfl, h⟩
  | x :: xs, s, z, e, h, hF => by
    obtain ⟨c, h1, hF⟩ := bnd hF
    have h2 := hs x s c e h h1
    cases c with
    | nx s1 =>
      obtain ⟨fl, e1, h2, h3, h4⟩ := h2
      have key : loopF stepD ((x :: xs).map f) e = loopF stepD (xs.map f) e1 := by
        show (stepD (f x) e).bind _ = _
        rw [h2]
        rcases h3 with rfl | rfl <;> rfl
      rw [key]
      exact loop_sim hs xs s1 z e1 h4 hF
    | bk s1 =>
      obtain ⟨e1, h2, h4⟩ := h2
      cases hF
      refine .inl ⟨s1, e1, rfl, ?_, h4⟩
      show (stepD (f x) e).bind _ = _
      rw [h2]; rfl
    | rt r =>
      obtain ⟨d, e1, h2, h4⟩ := h2
      cases hF
      refine .inr ⟨r, d, e1, rfl, ?_, h4⟩
      show (stepD (f x) e).bind _ = _
      rw [h2]; rfl
theorem g_forC {tg : Tg} {k : SrcK} {src : List E} {b r : List S} {f : α → D} {xs : List α} {step : α → σ → Option (Ct ρ σ)} {s0 : σ} {z : ρ ⊕ σ} {lent : Option (Nat × D)} (I : σ → EnvD → Prop) (R : ρ → D → EnvD → Prop) (h1 : ForOk P env k src (xs.map f) env2 lent) (h0 : I s0 env2) (hF : loopO step xs s0 = some z)
    (hs : ∀ x s c e, I s e → step x s = some c → CTG I R c ((bindT tg (f x) e).bind (evSs P b))) (hk : ∀ s' e, z = .inr s' → I s' e → G (evSs P r (unlend lent e))) (hr : ∀ q d e, z = .inl q → R q d e → G (some (.rt d, unlend lent e))) : G (evSs P (.for_ tg k src b :: r) env) := by
  obtain ⟨as, env1, m, h1, h2⟩ := h1
  rcases loop_sim (stepD := fun d e => (bindT tg d e).bind (evSs P b)) hs xs s0 z env2 h0 hF with ⟨s', e', hz, h3, h4⟩ | ⟨q, d, e', hz, h3, h4⟩
  · exact g_nx (s_for h1 h2 h3) (hk s' e' hz h4)
  · exact g_rt (s_for h1 h2 h3) (hr q d e' hz h4)
/-! while -/
def whileS (c : σ → Option Bool) (b : σ → Option σ) (s : σ) : Option σ :=
  match c s with
  | none => none
  | some false => some s
  | some true => match b s with
    | none => none
    | some s' => whileS c b s'
partial_fixpoint
def whileO (c : σ → Option Bool) (b : σ → Option (Ct ρ σ)) (s : σ) : Option (ρ ⊕ σ) :=
  match c s with
  | none => none
  | some false => some (.inr s)
  | some true => match b s with
    | none => none
    | some (.nx s') => whileO c b s'
    | some (.bk s') => some (.inr s')
    | some (.rt r) => some (.inl r)
partial_fixpoint
theorem whileS_sim {cD : EnvD → Option (Bool × EnvD)} {bD : EnvD → Option (Fl × EnvD)} {I : σ → EnvD → Prop} {c : σ → Option Bool} {b : σ → Option σ} (hc : ∀ s t e, I s e → c s = some t → cD e = some (t, e)) (hb : ∀ s s' e, I s e → c s = some true → b s = some s' → NXG I s' (bD e)) (s s' : σ) (h : whileS c b s = some s') : ∀ e, I s e → ∃ e', whileF cD bD e = some (.nx, e') ∧ I s' e' := by
  revert h
  refine whileS.partial_correctness c b (fun s s' => ∀ e, I s e → ∃ e', whileF cD bD e = some (.nx, e') ∧ I s' e') ?_ s s'
  intro W ih s s' h e hI
  split at h
  · cases h
  · rename_i hcs
    cases h
    exact ⟨e, while_stop (hc s false e hI hcs), hI⟩
  · rename_i hcs
    split at h
    · cases h
    · rename_i s1 hbs
      obtain ⟨fl, e1, h2, h3, h4⟩ := hb s s1 e hI hcs hbs
      obtain ⟨e2, h5, h6⟩ := ih s1 s' h e1 h4
      refine ⟨e2, ?_, h6⟩
      rw [whileF, hc s true e hI hcs]
      simp only [h2]
      rcases h3 with rfl | rfl <;> exact h5
theorem g_whlS {c : T} {b r : List S} {cS : σ → Option Bool} {bS : σ → Option σ} {s0 s' : σ} (I : σ → EnvD → Prop) (h0 : I s0 env) (hW : whileS cS bS s0 = some s') (hc : ∀ s t e, I s e → cS s = some t → TX P false e c t e) (hb : ∀ s s' e, I s e → cS s = some true → bS s = some s' → NXG I s' (evSs P b e)) (hk : ∀ e, I s' e → G (evSs P r e)) : G (evSs P (.whl c b :: r) env) := by
  obtain ⟨e', h3, h4⟩ := whileS_sim (cD := evT P false c) (bD := evSs P b) hc hb s0 s' hW env h0
  exact g_nx (by show evS P (.whl c b) env = _; rw [evS]; exact h3) (hk e' h4)
theorem whileO_sim {cD : EnvD → Option (Bool × EnvD)} {bD : EnvD → Option (Fl × EnvD)} {I : σ → EnvD → Prop} {R : ρ → D → EnvD → Prop} {c : σ → Option Bool} {b : σ → Option (Ct ρ σ)} (hc : ∀ s t e, I s e → c s = some t → cD e = some (t, e)) (hb : ∀ s s' e, I s e → c s = some true → b s = some s' → CTG I R s' (bD e)) (s : σ) (z : ρ ⊕ σ) (h : whileO c b s = some z) : ∀ e, I s e → (∃ s' e', z = .inr s' ∧ whileF cD bD e = some (.nx, e') ∧ I s' e') ∨ (∃ r d e', z = .inl r ∧ whileF cD bD e = some (.rt d, e') ∧ R r d e') := by
  revert h
  refine whileO.partial_correctness c b (fun s z => ∀ e, I s e → (∃ s' e', z = .inr s' ∧ whileF cD bD e = some (.nx, e') ∧ I s' e') ∨ (∃ r d e', z = .inl r ∧ whileF cD bD e = some (.rt d, e') ∧ R r d e')) ?_ s z
  intro W ih s z h e hI
  split at h
  · cases h
  · rename_i hcs
    cases h
    exact .inl ⟨s, e, rfl, while_stop (hc s false e hI hcs), hI⟩
  · rename_i hcs
    have hcc := hc s true e hI hcs
    split at h
    · cases h
    · rename_i s1 hbs
      obtain ⟨fl, e1, h2, h3, h4⟩ := hb s _ e hI hcs hbs
      have key : whileF cD bD e = whileF cD bD e1 := by
        rw [whileF, hcc]
        simp only [h2]
        rcases h3 with rfl | rfl <;> rfl
      rw [key]
      exact ih s1 z h e1 h4
    · rename_i s1 hbs
      obtain ⟨e1, h2, h4⟩ := hb s _ e hI hcs hbs
      cases h
      refine .inl ⟨s1, e1, rfl, ?_, h4⟩
      rw [whileF, hcc]
      simp only [h2]
    · rename_i q hbs
      obtain ⟨d, e1, h2, h4⟩ := hb s _ e hI hcs hbs
      cases h
      refine .inr ⟨q, d, e1, rfl, ?_, h4⟩
      rw [whileF, hcc]
      simp only [h2]
theorem g_whlO {c : T} {b r : List S} {cS : σ → Option Bool} {bS : σ → Option (Ct ρ σ)} {s0 : σ} {z : ρ ⊕ σ} (I : σ → EnvD → Prop) (R : ρ → D → EnvD → Prop) (h0 : I s0 env) (hW : whileO cS bS s0 = some z) (hc : ∀ s t e, I s e → cS s = some t → TX P false e c t e) (hb : ∀ s s' e, I s e → cS s = some true → bS s = some s' → CTG I R s' (evSs P b e)) (hk : ∀ s' e, z = .inr s' → I s' e → G (evSs P r e)) (hr : ∀ q d e, z = .inl q → R q d e → G (some (.rt d, e))) : G (evSs P (.whl c b :: r) env) := by
  rcases whileO_sim (cD := evT P false c) (bD := evSs P b) hc hb s0 z hW env h0 with ⟨s', e', hz, h3, h4⟩ | ⟨q, d, e', hz, h3, h4⟩
  · exact g_nx (by show evS P (.whl c b) env = _; rw [evS]; exact h3) (hk s' e' hz h4)
  · exact g_rt (by show evS P (.whl c b) env = _; rw [evS]; exact h3) (hr q d e' hz h4)
/-! defs -/
def RetG (re : List Nat) (ds : List D) (r : D) (ds' : List D) (o : Option (Fl × EnvD)) : Prop := ∃ fl e, o = some (fl, e) ∧ (fl = .rt r ∨ (fl = .nx ∧ r = .non)) ∧ backP re 0 ds e = some ds'
theorem run_G {f : FD} {ds ds' : List D} {r : D} (hl : ds.length = f.np) (h : RetG f.re ds r ds' (evSs P f.body (ds.map some ++ List.replicate (f.ns - f.np) none))) : runF P f ds = some (r, ds') := by
  obtain ⟨fl, e, h1, h2, h3⟩ := h
  unfold runF
  rw [if_pos hl, h1]
  rcases h2 with rfl | ⟨rfl, rfl⟩
  · show (backP f.re 0 ds e).map _ = _
    rw [h3]; rfl
  · show (backP f.re 0 ds e).map _ = _
    rw [h3]; rfl
theorem evF_of {T : List FD} {k i : Nat} {f : FD} {ds : List D} {x : D × List D} (hT : T[i]? = some f) (h : runF ⟨evF T k⟩ f ds = some x) : evF T (k + 1) i ds = some x := by
  show ((T[i]?).bind fun fd => runF ⟨evF T k⟩ fd ds) = _
  rw [hT]; exact h
theorem bk_nil {re : List Nat} {i : Nat} {e : EnvD} : backP re i [] e = some [] := rfl
theorem bk_p {re : List Nat} {i : Nat} {d : D} {ds xs : List D} {e : EnvD} (h : d.plain = true) (k : backP re (i + 1) ds e = some xs) : backP re i (d :: ds) e = some (d :: xs) := by
  show ((if d.plain then some d else _).bind _) = _
  rw [h]
  show ((backP re (i + 1) ds e).map _) = _
  rw [k]; rfl
theorem bk_r {re : List Nat} {i : Nat} {d d' : D} {ds xs : List D} {e : EnvD} (h : d.plain = false) (hr : re.contains i = false) (g : getE e i = some d') (k : backP re (i + 1) ds e = some xs) : backP re i (d :: ds) e = some (d' :: xs) := by
  show ((if d.plain then some d else if re.contains i then none else getE e i).bind _) = _
  rw [h, hr, g]
  show ((backP re (i + 1) ds e).map _) = _
  rw [k]; rfl
end
end TL
end

section
/-! K1: fractions in lowest terms. -/
namespace K31
open DL
/-- a over b in lowest terms, the lower part above 0 -/
def nfN (a b : Int) : Int := a * b.sign / (Int.gcd a b : Int)
def nfD (a b : Int) : Int := (b.natAbs : Int) / (Int.gcd a b : Int)
theorem gcd_pos {a b : Int} (h : b ≠ 0) : 0 < Int.gcd a b := Int.gcd_pos_of_ne_zero_right a h
theorem nf_scale {a b k : Int} (hk : 0 < k) (hb : b ≠ 0) : nfN (k * a) (k * b) = nfN a b ∧ nfD (k * a) (k * b) = nfD a b := by
  have g : (Int.gcd (k * a) (k * b) : Int) = k * (Int.gcd a b : Int) := by
    rw [Int.gcd_mul_left, Int.natCast_mul, Int.natAbs_of_nonneg (by omega)]
  have gp : (0 : Int) < Int.gcd a b := by have := gcd_pos (a := a) hb; omega
  unfold nfN nfD
  rw [g, Int.natAbs_mul, Int.natCast_mul, Int.natAbs_of_nonneg (show 0 ≤ k by omega), Int.sign_mul, Int.sign_eq_one_of_pos hk, Int.one_mul]
  refine ⟨?_, Int.mul_ediv_mul_of_pos _ _ hk⟩
  rw [Int.mul_assoc]
  exact Int.mul_ediv_mul_of_pos _ _ hk
theorem nfD_pos {a b : Int} (hb : b ≠ 0) : 0 < nfD a b := by
  unfold nfD
  have gp := gcd_pos (a := a) hb
  have hd : (Int.gcd a b : Int) ∣ (b.natAbs : Int) := Int.natCast_dvd_natCast.mpr (Int.gcd_dvd_natAbs_right a b)
  have hn : (0 : Int) < b.natAbs := by omega
  exact Int.ediv_pos_of_pos_of_dvd hn (by omega) hd
/-- for b above 0: a = g * n, b = g * d -/
theorem nf_of {a b : Int} (hb : 0 < b) : ∃ g : Int, 0 < g ∧ g = Int.gcd a b ∧ a = g * nfN a b ∧ b = g * nfD a b := by
  refine ⟨Int.gcd a b, ?_, rfl, ?_, ?_⟩
  · have := gcd_pos (a := a) (b := b) (by omega); omega
  · unfold nfN
    rw [Int.sign_eq_one_of_pos hb, Int.mul_one, Int.mul_ediv_cancel' (Int.gcd_dvd_left ..)]
  · unfold nfD
    rw [Int.natAbs_of_nonneg (by omega), Int.mul_ediv_cancel' (Int.gcd_dvd_right ..)]
theorem nf_cop {a b : Int} (hb : 0 < b) : Int.gcd (nfN a b) (nfD a b) = 1 := by
  obtain ⟨g, hg, e, h1, h2⟩ := nf_of (a := a) hb
  have h3 : Int.gcd a b = g.natAbs * Int.gcd (nfN a b) (nfD a b) := by
    have h := Int.gcd_mul_left g (nfN a b) (nfD a b)
    rw [← h1, ← h2] at h
    exact h
  have h4 : g.natAbs = Int.gcd a b := by rw [e]; simp
  rw [← h4] at h3
  have : 0 < g.natAbs := by omega
  have h5 : g.natAbs * 1 = g.natAbs * Int.gcd (nfN a b) (nfD a b) := by rw [Nat.mul_one]; exact h3
  exact (Nat.eq_of_mul_eq_mul_left this h5).symm
theorem nf_neg (a b : Int) : nfN (-a) (-b) = nfN a b ∧ nfD (-a) (-b) = nfD a b := by
  unfold nfN nfD
  rw [Int.gcd_neg, Int.neg_gcd, Int.natAbs_neg, Int.sign_neg, Int.neg_mul_neg]
  exact ⟨rfl, rfl⟩
/-- a/b + c/d, from the parts in lowest terms -/
theorem nf_add {a b c d : Int} (hb : 0 < b) (hd : 0 < d) : nfN (nfN a b * nfD c d + nfN c d * nfD a b) (nfD a b * nfD c d) = nfN (a * d + c * b) (b * d) ∧
    nfD (nfN a b * nfD c d + nfN c d * nfD a b) (nfD a b * nfD c d) = nfD (a * d + c * b) (b * d) := by
  obtain ⟨g, hg, _, h1, h2⟩ := nf_of (a := a) hb
  obtain ⟨k, hk, _, h3, h4⟩ := nf_of (a := c) hd
  have e1 : a * d + c * b = (g * k) * (nfN a b * nfD c d + nfN c d * nfD a b) := by
    have x1 : a * d = (g * k) * (nfN a b * nfD c d) := by
      conv => lhs; rw [h1, h4]
      simp only [Int.mul_assoc, Int.mul_left_comm, Int.mul_comm]
    have x2 : c * b = (g * k) * (nfN c d * nfD a b) := by
      conv => lhs; rw [h3, h2]
      simp only [Int.mul_assoc, Int.mul_left_comm, Int.mul_comm]
    rw [x1, x2, ← Int.mul_add]
  have e2 : b * d = (g * k) * (nfD a b * nfD c d) := by
    conv => lhs; rw [h2, h4]
    simp only [Int.mul_assoc, Int.mul_left_comm, Int.mul_comm]
  have p1 := nfD_pos (a := a) (b := b) (by omega)
  have p2 := nfD_pos (a := c) (b := d) (by omega)
  have := nf_scale (a := nfN a b * nfD c d + nfN c d * nfD a b) (b := nfD a b * nfD c d) (k := g * k) (Int.mul_pos hg hk) (by have := Int.mul_pos p1 p2; omega)
  rw [e1, e2]
  exact ⟨this.1.symm, this.2.symm⟩
theorem nf_one {a b : Int} (hb : 0 < b) (h : Int.gcd a b = 1) : nfN a b = a ∧ nfD a b = b := by
  unfold nfN nfD
  rw [h, Int.sign_eq_one_of_pos hb, Int.natAbs_of_nonneg (by omega)]
  simp

/-! ### sizes -/
def Bd (n : Nat) (x : Int) : Prop := x.natAbs < 2 ^ n
theorem Bd.mono {n m : Nat} {x : Int} (h : Bd n x) (hm : n ≤ m) : Bd m x := Nat.lt_of_lt_of_le h (Nat.pow_le_pow_right (by decide) hm)
theorem Bd.mul {n m : Nat} {x y : Int} (h : Bd n x) (k : Bd m y) : Bd (n + m) (x * y) := by
  unfold Bd at *
  rw [Int.natAbs_mul, Nat.pow_add]
  by_cases hz : y.natAbs = 0
  · rw [hz, Nat.mul_zero]; exact Nat.mul_pos (Nat.two_pow_pos _) (Nat.two_pow_pos _)
  · exact Nat.lt_of_lt_of_le (Nat.mul_lt_mul_of_pos_right h (by omega)) (Nat.mul_le_mul_left _ (by omega))
theorem Bd.add {n : Nat} {x y : Int} (h : Bd n x) (k : Bd n y) : Bd (n + 1) (x + y) := by
  unfold Bd at *
  rw [Nat.pow_succ]
  have := Int.natAbs_add_le x y
  omega
theorem Bd.neg {n : Nat} {x : Int} (h : Bd n x) : Bd n (-x) := by unfold Bd at *; rw [Int.natAbs_neg]; exact h
theorem Bd.sub {n : Nat} {x y : Int} (h : Bd n x) (k : Bd n y) : Bd (n + 1) (x - y) := by rw [Int.sub_eq_add_neg]; exact h.add k.neg
theorem Bd.le {n : Nat} {x y : Int} (h : Bd n x) (k : y.natAbs ≤ x.natAbs) : Bd n y := Nat.lt_of_le_of_lt k h
theorem log_lt {n : Nat} {x : Nat} (h : x < 2 ^ n) (hn : 0 < n) : x.log2 < n := by
  by_cases hx : x = 0
  · subst hx; simpa using hn
  · exact (Nat.log2_lt hx).mpr h
theorem mul_of {n m : Nat} {x y : Int} (h : Bd n x) (k : Bd m y) (hn : 0 < n) (hm : 0 < m) (hs : n + m ≤ 1000000) : mulOk x y = true := by
  unfold mulOk
  have := log_lt h hn
  have := log_lt k hm
  exact decide_eq_true (by omega)
theorem div_of {n : Nat} {y : Int} (k : Bd n y) (h0 : y ≠ 0) (hn : 0 < n) (hs : n ≤ 9000) : divOk y = true := by
  unfold divOk
  rw [Bool.and_eq_true]
  have := log_lt k hn
  exact ⟨decide_eq_true h0, decide_eq_true (by omega)⟩
theorem nfN_le {a b : Int} (hb : b ≠ 0) : (nfN a b).natAbs ≤ a.natAbs := by
  unfold nfN
  refine Nat.le_trans (Int.natAbs_ediv_le_natAbs _ _) ?_
  rw [Int.natAbs_mul, Int.natAbs_sign_of_ne_zero hb, Nat.mul_one]
  exact Nat.le_refl _
theorem nfD_le {a b : Int} : (nfD a b).natAbs ≤ b.natAbs := by
  unfold nfD
  refine Nat.le_trans (Int.natAbs_ediv_le_natAbs _ _) ?_
  simp
end K31
end

section
/-! TL5: _law_draws, _law_next, _law_pick. -/
namespace K31
open DL L2
open PySem (Str Operator CmpOp)
theorem app_ints {L : List Int} {x : Int} (h : L.length < 16777216) : appD (.int x) (.lst true (L.map .int)) = some (.lst true ((L ++ [x]).map .int)) := by
  show (if (L.map D.int).length < PySem.sizeLine then _ else _) = _
  rw [if_pos (by rw [List.length_map]; exact h), List.map_append]; rfl
theorem lst_ok {o : Bool} {ds : List D} : D.lst? (.lst o ds) = some () := rfl
theorem o_pow18 : opD (.bin .Pow) [.int 10, .int 18] = some (.int 1000000000000000000) := rfl
theorem mul_s {x c : Int} (h0 : 0 ≤ x) (h : x < 65537) (hc : c.natAbs < 2 ^ 20) : mulOk x c = true := mul_of (n := 20) (m := 20) (by unfold Bd; omega) hc (by decide) (by decide) (by decide)
theorem bt {i : Nat} {d : D} {env : EnvD} (h : i < env.length) : bindT (.nm i) d env = some (env.set i (some d)) := if_pos h
def body7 : List S := [.ite (.val (.op (.cmp .Gt) [.var 6, .int 0])) [.app 2 [] (.op (.bin .Mod) [.op .toInt [.var 6], .int 997]), .asg (.nm 6) (.op (.bin .FloorDiv) [.var 6, .int 997])] []]
theorem loop7 (P : DL.Ctx) (a b x3 x4 x5 : Option D) : ∀ (its : List D) (L : List Int) (r : Int) (t : Option D), L.length + its.length < 16777216 → ∃ (L' : List Int) (r' : Int) (t' : Option D), L'.length ≤ L.length + its.length ∧
    loopF (fun d e => (bindT (.nm 7) d e).bind (evSs P body7)) its [a, b, some (.lst true (L.map .int)), x3, x4, x5, some (.int r), t] = some (.nx, [a, b, some (.lst true (L'.map .int)), x3, x4, x5, some (.int r'), t'])
  | [], L, r, t, _ => ⟨L, r, t, by simp, rfl⟩
  | d :: its, L, r, t, h => by
    simp only [List.length_cons] at h
    have h997 : divOk 997 = true := by decide
    by_cases hr : 0 < r
    · obtain ⟨L', r', t', hl, hx⟩ := loop7 P a b x3 x4 x5 its (L ++ [modD r 997]) (divD r 997) (some d) (by simp; omega)
      refine ⟨L', r', t', by simp at hl ⊢; omega, ?_⟩
      rw [loop_next (e := [a, b, some (.lst true ((L ++ [modD r 997]).map .int)), x3, x4, x5, some (.int (divD r 997)), some d]) ?_]
      · exact hx
      · rw [bt (by simp)]
        show evSs P body7 _ = _
        simp only [body7, evSs, evS, evM, evA, evAs, evMs, evAnd, evOr, evI, evT, evTand, evTor, evKey, evPath, A.gets, A.get, A.tmp?, A.isTmp, A.isPk, A.bl?, A.int?, mat, lendA, backA, bindT, bindTs, bindN, updE, upd_nil, getP1, backP, getE0, getES, pl_int, pl_bl, pl_non, pl_str, pl_scr, pl_tup, pl_lst, pl_dK, pls_nil, pls_cons, fr_int, fr_lst, mk_t, o_add, o_sub, o_neg, o_abs, o_toInt, o_lt, o_le, o_gt, o_ge, o_eq, o_ne, o_lenL, o_lenT, o_lenS, tr_bl, a_add, a_sub, sz0, sz1, sz2, sz3, sz4, sz5, sz6, sz7, sz8, sz9, sz10, sz11, List.length_cons, List.length_nil, Nat.reduceAdd, at2_0, at2_1, sub_T, mk_int, mk_lst, Option.bind_some, Option.map_some, List.set_cons_zero, List.set_cons_succ, List.all_cons, List.all_nil, List.cons_append, List.nil_append, if_true, Bool.and_true, Bool.true_and, Bool.and_self, Bool.not_true, Bool.not_false, Bool.false_and, Bool.or_false, Bool.false_or, Bool.or_true, Bool.true_or, Bool.false_eq_true, if_false, List.isEmpty_nil, hr, decide_true, lst_ok, o_mod (show (997 : Int) ≠ 0 by decide), o_div h997, app_ints (show L.length < 16777216 by omega)]
        simp
    · obtain ⟨L', r', t', hl, hx⟩ := loop7 P a b x3 x4 x5 its L r (some d) (by omega)
      refine ⟨L', r', t', by simp at hl ⊢; omega, ?_⟩
      rw [loop_next (e := [a, b, some (.lst true (L.map .int)), x3, x4, x5, some (.int r), some d]) ?_]
      · exact hx
      · rw [bt (by simp)]
        show evSs P body7 _ = _
        simp only [body7, evSs, evS, evM, evA, evAs, evMs, evAnd, evOr, evI, evT, evTand, evTor, evKey, evPath, A.gets, A.get, A.tmp?, A.isTmp, A.isPk, A.bl?, A.int?, mat, lendA, backA, bindT, bindTs, bindN, updE, upd_nil, getP1, backP, getE0, getES, pl_int, pl_bl, pl_non, pl_str, pl_scr, pl_tup, pl_lst, pl_dK, pls_nil, pls_cons, fr_int, fr_lst, mk_t, o_add, o_sub, o_neg, o_abs, o_toInt, o_lt, o_le, o_gt, o_ge, o_eq, o_ne, o_lenL, o_lenT, o_lenS, tr_bl, a_add, a_sub, sz0, sz1, sz2, sz3, sz4, sz5, sz6, sz7, sz8, sz9, sz10, sz11, List.length_cons, List.length_nil, Nat.reduceAdd, at2_0, at2_1, sub_T, mk_int, mk_lst, Option.bind_some, Option.map_some, List.set_cons_zero, List.set_cons_succ, List.all_cons, List.all_nil, List.cons_append, List.nil_append, if_true, Bool.and_true, Bool.true_and, Bool.and_self, Bool.not_true, Bool.not_false, Bool.false_and, Bool.or_false, Bool.false_or, Bool.or_true, Bool.true_or, Bool.false_eq_true, if_false, List.isEmpty_nil, hr, decide_false]
def body4 : List S := [.asg (.nm 5) (.op .abs [.op .toInt [.sub (.var 0) (.var 4)]]), .asg (.nm 3) (.op (.bin .Mod) [.op .toInt [.op (.bin .Add) [.op (.bin .Add) [.op (.bin .Mult) [.var 3, .int 48271], .op (.bin .Mod) [.var 5, .int 1000003]], .var 4]], .int 65537]), .asg (.nm 6) (.int 0),
  .ite (.val (.op (.cmp .GtE) [.var 5, .op (.bin .Pow) [.int 10, .int 18]])) [.asg (.nm 6) (.var 5)] [.app 2 [] (.op (.bin .Mod) [.op .toInt [.var 5], .int 997]), .app 2 [] (.op (.bin .Mod) [.op (.bin .Mod) [.op .toInt [.op (.bin .Add) [.op (.bin .Mult) [.var 3, .int 69621], .int 5]], .int 65521], .int 997])],
  .for_ (.nm 7) .rng [.int 60] body7]
theorem turn4 (P : DL.Ctx) (ns : List Int) (b x4 x5 x6 x7 : Option D) (L : List Int) (mix : Int) (i : Nat) (hi : i < ns.length) (h0 : 0 ≤ mix) (h1 : mix < 65537) (hl : L.length < 8000000) : ∃ (L' : List Int) (mix' : Int) (y4 y5 y6 y7 : Option D), L'.length ≤ L.length + 62 ∧ 0 ≤ mix' ∧ mix' < 65537 ∧
    (bindT (.nm 4) (.int i) [some (.scr ns), b, some (.lst true (L.map .int)), some (.int mix), x4, x5, x6, x7]).bind (evSs P body4) = some (.nx, [some (.scr ns), b, some (.lst true (L'.map .int)), some (.int mix'), y4, y5, y6, y7]) := by
  have ha : atI ns (i : Int) = some ns[i] := at_nat (List.getElem?_eq_getElem hi)
  generalize hz : ns[i] = z at ha
  generalize hm : (mix * 48271 + modD (z.natAbs : Int) 1000003 + (i : Int)) = mm
  have hm0 : 0 ≤ modD mm 65537 := by rw [modD_pos (by decide)]; exact Int.emod_nonneg _ (by decide)
  have hm1 : modD mm 65537 < 65537 := by rw [modD_pos (by decide)]; exact Int.emod_lt_of_pos _ (by decide)
  rw [bt (by simp)]
  have s1 : evS P (.asg (.nm 5) (.op .abs [.op .toInt [.sub (.var 0) (.var 4)]])) [some (.scr ns), b, some (.lst true (L.map .int)), some (.int mix), some (.int i), x5, x6, x7] = some (.nx, [some (.scr ns), b, some (.lst true (L.map .int)), some (.int mix), some (.int i), some (.int z.natAbs), x6, x7]) := by
    simp only [evSs, evS, evM, evA, evAs, evMs, evAnd, evOr, evI, evT, evTand, evTor, evKey, evPath, A.gets, A.get, A.tmp?, A.isTmp, A.isPk, A.bl?, A.int?, mat, lendA, backA, bindT, bindTs, bindN, updE, upd_nil, getP1, backP, getE0, getES, pl_int, pl_bl, pl_non, pl_str, pl_scr, pl_tup, pl_lst, pl_dK, pls_nil, pls_cons, fr_int, fr_lst, mk_t, o_add, o_sub, o_neg, o_abs, o_toInt, o_lt, o_le, o_gt, o_ge, o_eq, o_ne, o_lenL, o_lenT, o_lenS, tr_bl, a_add, a_sub, sz0, sz1, sz2, sz3, sz4, sz5, sz6, sz7, sz8, sz9, sz10, sz11, List.length_cons, List.length_nil, Nat.reduceAdd, at2_0, at2_1, sub_T, mk_int, mk_lst, Option.bind_some, Option.map_some, List.set_cons_zero, List.set_cons_succ, List.all_cons, List.all_nil, List.cons_append, List.nil_append, if_true, Bool.and_true, Bool.true_and, Bool.and_self, Bool.not_true, Bool.not_false, Bool.false_and, Bool.or_false, Bool.false_or, Bool.or_true, Bool.true_or, Bool.false_eq_true, if_false, List.isEmpty_nil, sub_S, ha, abs_nat, bt]
    simp [bt, List.set]
  have s2 : evS P (.asg (.nm 3) (.op (.bin .Mod) [.op .toInt [.op (.bin .Add) [.op (.bin .Add) [.op (.bin .Mult) [.var 3, .int 48271], .op (.bin .Mod) [.var 5, .int 1000003]], .var 4]], .int 65537])) [some (.scr ns), b, some (.lst true (L.map .int)), some (.int mix), some (.int i), some (.int z.natAbs), x6, x7] = some (.nx, [some (.scr ns), b, some (.lst true (L.map .int)), some (.int (modD mm 65537)), some (.int i), some (.int z.natAbs), x6, x7]) := by
    simp only [evSs, evS, evM, evA, evAs, evMs, evAnd, evOr, evI, evT, evTand, evTor, evKey, evPath, A.gets, A.get, A.tmp?, A.isTmp, A.isPk, A.bl?, A.int?, mat, lendA, backA, bindT, bindTs, bindN, updE, upd_nil, getP1, backP, getE0, getES, pl_int, pl_bl, pl_non, pl_str, pl_scr, pl_tup, pl_lst, pl_dK, pls_nil, pls_cons, fr_int, fr_lst, mk_t, o_add, o_sub, o_neg, o_abs, o_toInt, o_lt, o_le, o_gt, o_ge, o_eq, o_ne, o_lenL, o_lenT, o_lenS, tr_bl, a_add, a_sub, sz0, sz1, sz2, sz3, sz4, sz5, sz6, sz7, sz8, sz9, sz10, sz11, List.length_cons, List.length_nil, Nat.reduceAdd, at2_0, at2_1, sub_T, mk_int, mk_lst, Option.bind_some, Option.map_some, List.set_cons_zero, List.set_cons_succ, List.all_cons, List.all_nil, List.cons_append, List.nil_append, if_true, Bool.and_true, Bool.true_and, Bool.and_self, Bool.not_true, Bool.not_false, Bool.false_and, Bool.or_false, Bool.false_or, Bool.or_true, Bool.true_or, Bool.false_eq_true, if_false, List.isEmpty_nil, o_mul (mul_s h0 h1 (show (48271 : Int).natAbs < 2 ^ 20 by decide)), o_mod (show (1000003 : Int) ≠ 0 by decide), o_mod (show (65537 : Int) ≠ 0 by decide), hm]
    simp
  have s3 : evS P (.asg (.nm 6) (.int 0)) [some (.scr ns), b, some (.lst true (L.map .int)), some (.int (modD mm 65537)), some (.int i), some (.int z.natAbs), x6, x7] = some (.nx, [some (.scr ns), b, some (.lst true (L.map .int)), some (.int (modD mm 65537)), some (.int i), some (.int z.natAbs), some (.int 0), x7]) := rfl
  show ∃ _ _ _ _ _ _, _ ∧ _ ∧ _ ∧ evSs P body4 [some (.scr ns), b, some (.lst true (L.map .int)), some (.int mix), some (.int i), x5, x6, x7] = _
  unfold body4
  rw [ss_nx s1, ss_nx s2, ss_nx s3]
  by_cases hc : 1000000000000000000 ≤ (z.natAbs : Int)
  · obtain ⟨L', r', t', hl', hx⟩ := loop7 P (some (.scr ns)) b (some (.int (modD mm 65537))) (some (.int i)) (some (.int z.natAbs)) (rngL 0 60) L z.natAbs x7 (by rw [rng_len]; simp; omega)
    rw [rng_len] at hl'
    refine ⟨L', modD mm 65537, some (.int i), some (.int z.natAbs), some (.int r'), t', by simp at hl'; omega, hm0, hm1, ?_⟩
    rw [ss_nx (e := [some (.scr ns), b, some (.lst true (L.map .int)), some (.int (modD mm 65537)), some (.int i), some (.int z.natAbs), some (.int z.natAbs), x7]) ?_]
    · rw [ss_nx (s_rng (n := 60) rfl rfl hx)]
      rfl
    · simp only [evSs, evS, evM, evA, evAs, evMs, evAnd, evOr, evI, evT, evTand, evTor, evKey, evPath, A.gets, A.get, A.tmp?, A.isTmp, A.isPk, A.bl?, A.int?, mat, lendA, backA, bindT, bindTs, bindN, updE, upd_nil, getP1, backP, getE0, getES, pl_int, pl_bl, pl_non, pl_str, pl_scr, pl_tup, pl_lst, pl_dK, pls_nil, pls_cons, fr_int, fr_lst, mk_t, o_add, o_sub, o_neg, o_abs, o_toInt, o_lt, o_le, o_gt, o_ge, o_eq, o_ne, o_lenL, o_lenT, o_lenS, tr_bl, a_add, a_sub, sz0, sz1, sz2, sz3, sz4, sz5, sz6, sz7, sz8, sz9, sz10, sz11, List.length_cons, List.length_nil, Nat.reduceAdd, at2_0, at2_1, sub_T, mk_int, mk_lst, Option.bind_some, Option.map_some, List.set_cons_zero, List.set_cons_succ, List.all_cons, List.all_nil, List.cons_append, List.nil_append, if_true, Bool.and_true, Bool.true_and, Bool.and_self, Bool.not_true, Bool.not_false, Bool.false_and, Bool.or_false, Bool.false_or, Bool.or_true, Bool.true_or, Bool.false_eq_true, if_false, List.isEmpty_nil, o_pow18, hc, decide_true]
      simp
  · generalize hq : modD (modD (modD mm 65537 * 69621 + 5) 65521) 997 = q
    obtain ⟨L', r', t', hl', hx⟩ := loop7 P (some (.scr ns)) b (some (.int (modD mm 65537))) (some (.int i)) (some (.int z.natAbs)) (rngL 0 60) ((L ++ [modD z.natAbs 997]) ++ [q]) 0 x7 (by rw [rng_len]; simp; omega)
    rw [rng_len] at hl'
    refine ⟨L', modD mm 65537, some (.int i), some (.int z.natAbs), some (.int r'), t', by simp at hl'; omega, hm0, hm1, ?_⟩
    rw [ss_nx (e := [some (.scr ns), b, some (.lst true (((L ++ [modD z.natAbs 997]) ++ [q]).map .int)), some (.int (modD mm 65537)), some (.int i), some (.int z.natAbs), some (.int 0), x7]) ?_]
    · rw [ss_nx (s_rng (n := 60) rfl rfl hx)]
      rfl
    · simp only [evSs, evS, evM, evA, evAs, evMs, evAnd, evOr, evI, evT, evTand, evTor, evKey, evPath, A.gets, A.get, A.tmp?, A.isTmp, A.isPk, A.bl?, A.int?, mat, lendA, backA, bindT, bindTs, bindN, updE, upd_nil, getP1, backP, getE0, getES, pl_int, pl_bl, pl_non, pl_str, pl_scr, pl_tup, pl_lst, pl_dK, pls_nil, pls_cons, fr_int, fr_lst, mk_t, o_add, o_sub, o_neg, o_abs, o_toInt, o_lt, o_le, o_gt, o_ge, o_eq, o_ne, o_lenL, o_lenT, o_lenS, tr_bl, a_add, a_sub, sz0, sz1, sz2, sz3, sz4, sz5, sz6, sz7, sz8, sz9, sz10, sz11, List.length_cons, List.length_nil, Nat.reduceAdd, at2_0, at2_1, sub_T, mk_int, mk_lst, Option.bind_some, Option.map_some, List.set_cons_zero, List.set_cons_succ, List.all_cons, List.all_nil, List.cons_append, List.nil_append, if_true, Bool.and_true, Bool.true_and, Bool.and_self, Bool.not_true, Bool.not_false, Bool.false_and, Bool.or_false, Bool.false_or, Bool.or_true, Bool.true_or, Bool.false_eq_true, if_false, List.isEmpty_nil, o_pow18, hc, decide_false, lst_ok, o_mod (show (997 : Int) ≠ 0 by decide), o_mod (show (65521 : Int) ≠ 0 by decide), o_mul (mul_s hm0 hm1 (show (69621 : Int).natAbs < 2 ^ 20 by decide)), hq, app_ints (show L.length < 16777216 by omega), app_ints (show (L ++ [modD (z.natAbs : Int) 997]).length < 16777216 by simp; omega)]
def body4' : List S := [.asg (.nm 3) (.op (.bin .Mod) [.op .toInt [.op (.bin .Add) [.op (.bin .Add) [.op (.bin .Mult) [.var 3, .int 16807], .var 4], .int 1]], .int 65537]), .app 2 [] (.op (.bin .Mod) [.op .toInt [.var 3], .int 997])]
theorem turn4' (P : DL.Ctx) (a b x4 x5 x6 x7 : Option D) (L : List Int) (mix i : Int) (h0 : 0 ≤ mix) (h1 : mix < 65537) (hl : L.length < 8000000) : ∃ (L' : List Int) (mix' : Int) (y4 : Option D), L'.length ≤ L.length + 1 ∧ 0 ≤ mix' ∧ mix' < 65537 ∧
    (bindT (.nm 4) (.int i) [a, b, some (.lst true (L.map .int)), some (.int mix), x4, x5, x6, x7]).bind (evSs P body4') = some (.nx, [a, b, some (.lst true (L'.map .int)), some (.int mix'), y4, x5, x6, x7]) := by
  generalize hm : (mix * 16807 + i + 1) = mm
  have hm0 : 0 ≤ modD mm 65537 := by rw [modD_pos (by decide)]; exact Int.emod_nonneg _ (by decide)
  have hm1 : modD mm 65537 < 65537 := by rw [modD_pos (by decide)]; exact Int.emod_lt_of_pos _ (by decide)
  rw [bt (by simp)]
  refine ⟨L ++ [modD (modD mm 65537) 997], modD mm 65537, some (.int i), by simp, hm0, hm1, ?_⟩
  show evSs P body4' [a, b, some (.lst true (L.map .int)), some (.int mix), some (.int i), x5, x6, x7] = _
  unfold body4'
  simp only [evSs, evS, evM, evA, evAs, evMs, evAnd, evOr, evI, evT, evTand, evTor, evKey, evPath, A.gets, A.get, A.tmp?, A.isTmp, A.isPk, A.bl?, A.int?, mat, lendA, backA, bindT, bindTs, bindN, updE, upd_nil, getP1, backP, getE0, getES, pl_int, pl_bl, pl_non, pl_str, pl_scr, pl_tup, pl_lst, pl_dK, pls_nil, pls_cons, fr_int, fr_lst, mk_t, o_add, o_sub, o_neg, o_abs, o_toInt, o_lt, o_le, o_gt, o_ge, o_eq, o_ne, o_lenL, o_lenT, o_lenS, tr_bl, a_add, a_sub, sz0, sz1, sz2, sz3, sz4, sz5, sz6, sz7, sz8, sz9, sz10, sz11, List.length_cons, List.length_nil, Nat.reduceAdd, at2_0, at2_1, sub_T, mk_int, mk_lst, Option.bind_some, Option.map_some, List.set_cons_zero, List.set_cons_succ, List.all_cons, List.all_nil, List.cons_append, List.nil_append, if_true, Bool.and_true, Bool.true_and, Bool.and_self, Bool.not_true, Bool.not_false, Bool.false_and, Bool.or_false, Bool.false_or, Bool.or_true, Bool.true_or, Bool.false_eq_true, if_false, List.isEmpty_nil, o_mul (mul_s h0 h1 (show (16807 : Int).natAbs < 2 ^ 20 by decide)), o_mod (show (65537 : Int) ≠ 0 by decide), hm, lst_ok, o_mod (show (997 : Int) ≠ 0 by decide)]
  simp [app_ints (show L.length < 16777216 by omega), evSs, evS, evM, evA, evAs, evMs, evAnd, evOr, evI, evT, evTand, evTor, evKey, evPath, A.gets, A.get, A.tmp?, A.isTmp, A.isPk, A.bl?, A.int?, mat, lendA, backA, bindT, bindTs, bindN, updE, upd_nil, getP1, backP, getE0, getES, pl_int, pl_bl, pl_non, pl_str, pl_scr, pl_tup, pl_lst, pl_dK, pls_nil, pls_cons, fr_int, fr_lst, mk_t, o_add, o_sub, o_neg, o_abs, o_toInt, o_lt, o_le, o_gt, o_ge, o_eq, o_ne, o_lenL, o_lenT, o_lenS, tr_bl, a_add, a_sub, sz0, sz1, sz2, sz3, sz4, sz5, sz6, sz7, sz8, sz9, sz10, sz11, List.length_cons, List.length_nil, Nat.reduceAdd, at2_0, at2_1, sub_T, mk_int, mk_lst, Option.bind_some, Option.map_some, List.set_cons_zero, List.set_cons_succ, List.all_cons, List.all_nil, List.cons_append, List.nil_append, if_true, Bool.and_true, Bool.true_and, Bool.and_self, Bool.not_true, Bool.not_false, Bool.false_and, Bool.or_false, Bool.false_or, Bool.or_true, Bool.true_or, Bool.false_eq_true, if_false, List.isEmpty_nil, lst_ok, o_mod (show (997 : Int) ≠ 0 by decide)]
theorem cut_ints (L : List Int) (lo hi : Option Int) : cutD (L.map .int) lo hi = (((L.drop (HT.sIx L.length 0 lo)).take (HT.sIx L.length L.length hi - HT.sIx L.length 0 lo))).map .int := by
  unfold cutD
  rw [List.length_map, ← List.map_drop, ← List.map_take]
def fdDraws : FD := ⟨2, 8, [], [
    .asg (.nm 2) (.lst []),
    .asg (.nm 3) (.int 7),
    .for_ (.nm 4) .rng [(.op .len [(.var 0)])] [.asg (.nm 5) (.op .abs [(.op .toInt [(.sub (.var 0) (.var 4))])]), .asg (.nm 3) (.op (.bin .Mod) [(.op .toInt [(.op (.bin .Add) [(.op (.bin .Add) [(.op (.bin .Mult) [(.var 3), (.int 48271)]), (.op (.bin .Mod) [(.var 5), (.int 1000003)])]), (.var 4)])]), (.int 65537)]), .asg (.nm 6) (.int 0), .ite (.val (.op (.cmp .GtE) [(.var 5), (.op (.bin .Pow) [(.int 10), (.int 18)])])) [.asg (.nm 6) (.var 5)] [.app 2 [] (.op (.bin .Mod) [(.op .toInt [(.var 5)]), (.int 997)]), .app 2 [] (.op (.bin .Mod) [(.op (.bin .Mod) [(.op .toInt [(.op (.bin .Add) [(.op (.bin .Mult) [(.var 3), (.int 69621)]), (.int 5)])]), (.int 65521)]), (.int 997)])], .for_ (.nm 7) .rng [(.int 60)] [.ite (.val (.op (.cmp .Gt) [(.var 6), (.int 0)])) [.app 2 [] (.op (.bin .Mod) [(.op .toInt [(.var 6)]), (.int 997)]), .asg (.nm 6) (.op (.bin .FloorDiv) [(.var 6), (.int 997)])] []]],
    .for_ (.nm 4) .rng [(.var 1)] [.asg (.nm 3) (.op (.bin .Mod) [(.op .toInt [(.op (.bin .Add) [(.op (.bin .Add) [(.op (.bin .Mult) [(.var 3), (.int 16807)]), (.var 4)]), (.int 1)])]), (.int 65537)]), .app 2 [] (.op (.bin .Mod) [(.op .toInt [(.var 3)]), (.int 997)])],
    .ret (.sli (.var 2) [] [(.var 1)])]⟩
theorem draws_runs (P : DL.Ctx) (ns : List Int) (m : Int) (hn : ns.length ≤ 63) (hm : 0 ≤ m) (hm2 : m ≤ 5000) : ∃ L : List Int, runF P fdDraws [.scr ns, .int m] = some (.lst true (L.map .int), [.scr ns, .int m]) := by
  have b1 : fdDraws.body = [.asg (.nm 2) (.lst []), .asg (.nm 3) (.int 7), .for_ (.nm 4) .rng [.op .len [.var 0]] body4, .for_ (.nm 4) .rng [.var 1] body4', .ret (.sli (.var 2) [] [.var 1])] := rfl
  obtain ⟨e1, h1, L1, mix1, x4, x5, x6, x7, hL1, g0, g1, rfl⟩ := loop_ix (env := [some (.scr ns), some (.int m), some (.lst true (([] : List Int).map .int)), some (.int 7), none, none, none, none]) (step := fun d e => (bindT (.nm 4) d e).bind (evSs P body4)) (rngL 0 ns.length)
    (fun i e => ∃ (L : List Int) (mix : Int) (x4 x5 x6 x7 : Option D), L.length ≤ 62 * i ∧ 0 ≤ mix ∧ mix < 65537 ∧ e = [some (.scr ns), some (.int m), some (.lst true (L.map .int)), some (.int mix), x4, x5, x6, x7]) (fun i d e hd ⟨L, mix, x4, x5, x6, x7, hL, g0, g1, he⟩ => by
      obtain ⟨rfl, hlt⟩ := rng_at hd
      obtain ⟨L', mix', y4, y5, y6, y7, a1, a2, a3, a4⟩ := turn4 P ns (some (.int m)) x4 x5 x6 x7 L mix i (by omega) g0 g1 (by omega)
      exact ⟨_, by rw [he]; exact a4, L', mix', y4, y5, y6, y7, by omega, a2, a3, rfl⟩) ⟨[], 7, none, none, none, none, by simp, by decide, by decide, rfl⟩
  rw [rng_len] at hL1
  obtain ⟨e2, h2, L2, mix2, y4, hL2, k0, k1, rfl⟩ := loop_ix (env := [some (.scr ns), some (.int m), some (.lst true (L1.map .int)), some (.int mix1), x4, x5, x6, x7]) (step := fun d e => (bindT (.nm 4) d e).bind (evSs P body4')) (rngL 0 m)
    (fun i e => ∃ (L : List Int) (mix : Int) (x4 : Option D), L.length ≤ 62 * ns.length + i ∧ 0 ≤ mix ∧ mix < 65537 ∧ e = [some (.scr ns), some (.int m), some (.lst true (L.map .int)), some (.int mix), x4, x5, x6, x7]) (fun i d e hd ⟨L, mix, x4, hL, g0, g1, he⟩ => by
      obtain ⟨rfl, hlt⟩ := rng_at hd
      obtain ⟨L', mix', y4, a1, a2, a3, a4⟩ := turn4' P (some (.scr ns)) (some (.int m)) x4 x5 x6 x7 L mix i g0 g1 (by omega)
      exact ⟨_, by rw [he]; exact a4, L', mix', y4, by omega, a2, a3, rfl⟩) ⟨L1, mix1, x4, by simpa using hL1, g0, g1, rfl⟩
  have rk : rngOk m = true := by
    unfold rngOk
    rw [Bool.and_eq_true]
    exact ⟨decide_eq_true (by omega), decide_eq_true (by omega)⟩
  have rn : rngOk (ns.length : Int) = true := by
    unfold rngOk
    rw [Bool.and_eq_true]
    exact ⟨decide_eq_true (by omega), decide_eq_true (by omega)⟩
  refine ⟨((L2.drop (HT.sIx L2.length 0 none)).take (HT.sIx L2.length L2.length (some m) - HT.sIx L2.length 0 none)), run_of (f := fdDraws) (e := [some (.scr ns), some (.int m), some (.lst true (L2.map .int)), some (.int mix2), y4, x5, x6, x7]) rfl ?_ rfl⟩
  rw [b1]
  refine (ss_nx (e := [some (.scr ns), some (.int m), some (.lst true (([] : List Int).map .int)), none, none, none, none, none]) rfl).trans ((ss_nx (e := [some (.scr ns), some (.int m), some (.lst true (([] : List Int).map .int)), some (.int 7), none, none, none, none]) rfl).trans ?_)
  rw [ss_nx (s_rng (n := (ns.length : Int)) rfl rn h1), ss_nx (s_rng (n := m) rfl rk h2)]
  refine ss_rt ?_
  simp only [evSs, evS, evM, evA, evAs, evMs, evAnd, evOr, evI, evT, evTand, evTor, evKey, evPath, A.gets, A.get, A.tmp?, A.isTmp, A.isPk, A.bl?, A.int?, mat, lendA, backA, bindT, bindTs, bindN, updE, upd_nil, getP1, backP, getE0, getES, pl_int, pl_bl, pl_non, pl_str, pl_scr, pl_tup, pl_lst, pl_dK, pls_nil, pls_cons, fr_int, fr_lst, mk_t, o_add, o_sub, o_neg, o_abs, o_toInt, o_lt, o_le, o_gt, o_ge, o_eq, o_ne, o_lenL, o_lenT, o_lenS, tr_bl, a_add, a_sub, sz0, sz1, sz2, sz3, sz4, sz5, sz6, sz7, sz8, sz9, sz10, sz11, List.length_cons, List.length_nil, Nat.reduceAdd, at2_0, at2_1, sub_T, mk_int, mk_lst, Option.bind_some, Option.map_some, List.set_cons_zero, List.set_cons_succ, List.all_cons, List.all_nil, List.cons_append, List.nil_append, if_true, Bool.and_true, Bool.true_and, Bool.and_self, Bool.not_true, Bool.not_false, Bool.false_and, Bool.or_false, Bool.false_or, Bool.or_true, Bool.true_or, Bool.false_eq_true, if_false, List.isEmpty_nil, cutO, pls_ints, cut_ints]
end K31

namespace TL
open DL K31
open PySem (Str Operator CmpOp sizeLine)
structure W where
  ds : List Int
  at_ : Nat
def eW (w : W) : D := .dK true [.inr "draws", .inr "at"] [eL D.int w.ds, .int (w.at_ : Int)]
def fdNext : FD := ⟨2, 2, [], [
    .augS 0 [] (.str "at") .Add (.int 1),
    .ite (.val (.op (.cmp .Gt) [(.sub (.var 0) (.str "at")), (.op .len [(.sub (.var 0) (.str "draws"))])])) [.ret (.int 0)] [],
    .ret (.op (.bin .Mod) [(.op .toInt [(.sub (.sub (.var 0) (.str "draws")) (.op (.bin .Sub) [(.sub (.var 0) (.str "at")), (.int 1)]))]), (.var 1)])]⟩
def fdPickF (j : Nat) : FD := ⟨2, 2, [], [.ret (.sub (.fz 1) (.call j [.var 0, .op .len [.var 1]]))]⟩
def fdPick (j : Nat) : FD := ⟨2, 2, [], [.ret (.sub (.var 1) (.call j [.var 0, .op .len [.var 1]]))]⟩
def nextW (w : W) (n : Int) : Option (Int × W) := if (w.ds.length : Int) < (w.at_ : Int) + 1 then some (0, ⟨w.ds, w.at_ + 1⟩) else if n = 0 then none else (w.ds[w.at_]?).bind fun x => some (modD x n, ⟨w.ds, w.at_ + 1⟩)
theorem eW_at (w : W) : subD (eW w) (.str "at") = some (.int (w.at_ : Int)) := rfl
theorem eW_dr (w : W) : subD (eW w) (.str "draws") = some (eL D.int w.ds) := rfl
theorem eW_set (w : W) : setD (eW w) (.str "at") (.int ((w.at_ : Int) + 1)) = some (eW ⟨w.ds, w.at_ + 1⟩) := rfl
theorem eW_pl (w : W) : D.plain (eW w) = false := rfl
theorem nextW_runs (P : DL.Ctx) (w : W) (n : Int) (r : Int × W) (h : nextW w n = some r) : runF P fdNext [eW w, .int n] = some (.int r.1, [eW r.2, .int n]) := by
  have e1 : evS P (.augS 0 [] (.str "at") .Add (.int 1)) [some (eW w), some (.int n)] = some (.nx, [some (eW ⟨w.ds, w.at_ + 1⟩), some (.int n)]) := s_augS (c := eW w) rfl x_str (eW_at w) x_int rfl a_add (eW_set w) rfl
  have t1 : TX P false [some (eW ⟨w.ds, w.at_ + 1⟩), some (.int n)] (.val (.op (.cmp .Gt) [.sub (.var 0) (.str "at"), .op .len [.sub (.var 0) (.str "draws")]])) (decide ((w.ds.length : Int) < (w.at_ : Int) + 1)) [some (eW ⟨w.ds, w.at_ + 1⟩), some (.int n)] :=
    t_bl (x_op2 (x_sub (x_ref rfl rfl) x_str rfl rfl (eW_at _) mk_int) (x_op1 (x_sub (x_ref rfl rfl) x_str rfl rfl (eW_dr _) mk_lst) rfl o_lnL) rfl rfl o_gt)
  unfold nextW at h
  refine run_G rfl ?_
  show RetG _ _ _ _ (evSs P _ [some (eW w), some (.int n)])
  refine g_nx e1 ?_
  by_cases hc : (w.ds.length : Int) < (w.at_ : Int) + 1
  · rw [if_pos hc] at h
    cases h
    refine g_iteT t1 (decide_eq_true hc) (g_rt (s_rtv x_int) ⟨_, _, rfl, .inl rfl, rfl⟩)
  · rw [if_neg hc] at h
    by_cases hn : n = 0
    · rw [if_pos hn] at h; cases h
    · rw [if_neg hn] at h
      obtain ⟨x, hx, h⟩ := bnd h
      cases h
      have ha : L2.atI w.ds (((w.at_ + 1 : Nat) : Int) - 1) = some x := by
        rw [show (((w.at_ + 1 : Nat) : Int) - 1) = (w.at_ : Int) by omega]
        exact L2.atI_nat hx
      refine g_iteF t1 (decide_eq_false hc) (g_rt (s_rtv (x_op2 (x_op1 (x_sub (x_sub (x_ref rfl rfl) x_str rfl rfl (eW_dr _) mk_lst) (x_op2 (x_sub (x_ref rfl rfl) x_str rfl rfl (eW_at _) mk_int) x_int rfl rfl o_sub) rfl rfl (s_L ha) mk_int) rfl o_toInt) (x_var D.int rfl) rfl rfl (o_mod hn))) ⟨_, _, rfl, .inl rfl, rfl⟩)
theorem nextW_ok (w : W) {n : Int} (h : 0 < n) : ∃ r w', nextW w n = some (r, w') ∧ 0 ≤ r ∧ r < n := by
  unfold nextW
  by_cases hc : (w.ds.length : Int) < (w.at_ : Int) + 1
  · rw [if_pos hc]
    exact ⟨0, _, rfl, by omega, h⟩
  · rw [if_neg hc, if_neg (by omega), List.getElem?_eq_getElem (by omega)]
    refine ⟨_, _, rfl, ?_, ?_⟩
    · rw [modD_pos h]; exact Int.emod_nonneg _ (by omega)
    · rw [modD_pos h]; exact Int.emod_lt_of_pos _ h
def pickW {α : Type} (w : W) (xs : List α) : Option (α × W) := (nextW w (xs.length : Int)).bind fun p => (L2.atI xs p.1).bind fun x => some (x, p.2)
theorem pickW_ok {α : Type} (w : W) {xs : List α} (h : xs ≠ []) : ∃ x w', pickW w xs = some (x, w') ∧ x ∈ xs := by
  obtain ⟨r, w', h1, h2, h3⟩ := nextW_ok w (n := (xs.length : Int)) (by have := List.length_pos_iff.mpr h; omega)
  obtain ⟨k, rfl⟩ : ∃ k : Nat, r = k := ⟨r.toNat, by omega⟩
  have hk : k < xs.length := by omega
  refine ⟨xs[k], w', ?_, List.getElem_mem hk⟩
  unfold pickW
  rw [h1]
  show (L2.atI xs (k : Int)).bind _ = _
  rw [at_in hk]; rfl
def S_next (P : DL.Ctx) (j : Nat) : Prop := ∀ w n r, nextW w n = some r → P.call j [eW w, .int n] = some (.int r.1, [eW r.2, .int n])
theorem pickF_runs {α : Type} (P : DL.Ctx) (j : Nat) (hN : S_next P j) (f : α → D) (g : D) (w : W) (xs : List α) (x : α) (w' : W) (h : pickW w xs = some (x, w')) (hg : (f x).freeze = g) : runF P (fdPickF j) [eW w, eL f xs] = some (g, [eW w', .lst false (D.freezes (xs.map f))]) := by
  obtain ⟨p, h1, h⟩ := bnd h
  obtain ⟨y, h2, h⟩ := bnd h
  obtain ⟨i, w1⟩ := p
  cases h
  have h1 := hN _ _ _ h1
  have hz : ∀ ds : List D, D.freezes ds = ds.map D.freeze := fun ds => by
    induction ds with
    | nil => rfl
    | cons d ds ih => show d.freeze :: D.freezes ds = _; rw [ih]; rfl
  have ha : L2.atI (D.freezes (xs.map f)) i = some g := by rw [hz, List.map_map, ← hg]; exact at_map (f := D.freeze ∘ f) h2
  have hl : opD .len [.lst false (D.freezes (xs.map f))] = some (.int (xs.length : Int)) := by show some (D.int ((D.freezes (xs.map f)).length : Int)) = _; rw [hz, List.length_map, List.length_map]
  refine run_G rfl ?_
  show RetG _ _ _ _ (evSs P _ [some (eW w), some (eL f xs)])
  refine g_rt (s_rtv (x_sub (x_fz rfl rfl) (x_call (q_cons (x_ref rfl rfl) (q_cons (x_op1 (x_varp rfl rfl) rfl hl) q_nil)) rfl rfl h1 rfl) rfl rfl ha mk_t)) ⟨_, _, rfl, .inl rfl, rfl⟩
theorem pick_runs {α : Type} (P : DL.Ctx) (j : Nat) (hN : S_next P j) (f : α → D) [Pl f] (w : W) (xs : List α) (x : α) (w' : W) (h : pickW w xs = some (x, w')) : runF P (fdPick j) [eW w, eL f xs] = some (f x, [eW w', eL f xs]) := by
  obtain ⟨p, h1, h⟩ := bnd h
  obtain ⟨y, h2, h⟩ := bnd h
  obtain ⟨i, w1⟩ := p
  cases h
  have h1 := hN _ _ _ h1
  refine run_G rfl ?_
  show RetG _ _ _ _ (evSs P _ [some (eW w), some (eL f xs)])
  refine g_rt (s_rtv (x_sub (x_ref rfl rfl) (x_call (q_cons (x_ref rfl rfl) (q_cons (x_op1 (x_ref rfl rfl) rfl o_lnL) q_nil)) rfl rfl h1 rfl) rfl rfl (s_L h2) (mk_p f _ _))) ⟨_, _, rfl, .inl rfl, rfl⟩
theorem pick_runsT {α : Type} (P : DL.Ctx) (j : Nat) (hN : S_next P j) (f : α → D) [Pl f] (w : W) (xs : List α) (x : α) (w' : W) (h : pickW w xs = some (x, w')) : runF P (fdPick j) [eW w, eT f xs] = some (f x, [eW w', eT f xs]) := by
  obtain ⟨p, h1, h⟩ := bnd h
  obtain ⟨y, h2, h⟩ := bnd h
  obtain ⟨i, w1⟩ := p
  cases h
  have h1 := hN _ _ _ h1
  refine run_G rfl ?_
  show RetG _ _ _ _ (evSs P _ [some (eW w), some (eT f xs)])
  refine g_rt (s_rtv (x_sub (x_var (eT f) rfl) (x_call (q_cons (x_ref rfl rfl) (q_cons (x_op1 (x_var (eT f) rfl) rfl o_lnT) q_nil)) rfl rfl h1 rfl) rfl rfl (s_T h2) (mk_p f _ _))) ⟨_, _, rfl, .inl rfl, ?_⟩
  exact bk_r rfl rfl rfl (bk_p (Pl.pl (f := eT f) xs) bk_nil)
end TL
end

section
/-! TL6: words that the printer of typed texts uses. -/
namespace TL
open DL
open PySem (Str Operator CmpOp sizeLine PyData)
section
variable {α β γ δ σ ρ : Type} {P : Ctx} {m : Bool} {env env1 env2 env3 : EnvD}
theorem x_lstL (f : α → D) (xs : List α) {es : List E} (h : MX P m env es (xs.map f) env1) (hs : decide ((xs.map f).length ≤ 64) = true) : AX P m env (.lst es) (.tmp (eL f xs)) env1 := x_lst h hs
theorem x_tupT (f : α → D) (xs : List α) {es : List E} (h : MX P m env es (xs.map f) env1) (hs : decide ((xs.map f).length ≤ 64) = true) : AX P m env (.tup es) (.tmp (eT f xs)) env1 := x_tup h hs
theorem x_tupP (f : α → D) (g : β → D) (a : α) (b : β) {es : List E} (h : MX P m env es [f a, g b] env1) : AX P m env (.tup es) (.tmp (eP f g (a, b))) env1 := x_tup h rfl
theorem x_tup3 (f : α → D) (g : β → D) (k : γ → D) (a : α) (b : β) (c : γ) {es : List E} (h : MX P m env es [f a, g b, k c] env1) : AX P m env (.tup es) (.tmp (e3 f g k (a, b, c))) env1 := x_tup h rfl
theorem x_tup4 (f : α → D) (g : β → D) (k : γ → D) (l : δ → D) (a : α) (b : β) (c : γ) (d : δ) {es : List E} (h : MX P m env es [f a, g b, k c, l d] env1) : AX P m env (.tup es) (.tmp (e4 f g k l (a, b, c, d))) env1 := x_tup h rfl
theorem c_VT (xs : List PV) : eT PV.enc xs = PV.enc (.tup xs) := by show D.tup _ = D.tup _; rw [encs_map]
theorem c_VF (xs : List PV) : eF PV.enc xs = PV.enc (.lst xs) := by show D.lst false _ = D.lst false _; rw [encs_map]
theorem c_LUV (xs : List PV) : eL PV.enc xs = eU (true, .lst xs) := by show D.lst true _ = D.lst true _; rw [encs_map]
theorem c_PT {a b : D} {f : α → D} {g : β → D} {h : γ → D} {p : α × β} {x y : γ} (h1 : f p.1 = h x) (h2 : g p.2 = h y) : eP f g p = eT h [x, y] := by show D.tup [_, _] = D.tup [_, _]; rw [h1, h2]
theorem c_3T {f : α → D} {g : β → D} {k : δ → D} {h : γ → D} {p : α × β × δ} {x y z : γ} (h1 : f p.1 = h x) (h2 : g p.2.1 = h y) (h3 : k p.2.2 = h z) : e3 f g k p = eT h [x, y, z] := by show D.tup [_, _, _] = D.tup [_, _, _]; rw [h1, h2, h3]
theorem c_1T {f : α → D} {h : γ → D} {a : α} {x : γ} (h1 : f a = h x) : D.tup [f a] = eT h [x] := by show D.tup [_] = D.tup [_]; rw [h1]
theorem c_OO (f : α → D) (g : β → D) (t : α → β) (h : ∀ a, f a = g (t a)) (x : Option α) : eO f x = eO g (x.map t) := by
  cases x with
  | none => rfl
  | some a => exact h a
/-- a row as a pair, a triple -/
def as2 : List α → Option (α × α)
  | [a, b] => some (a, b)
  | _ => none
def as3 : List α → Option (α × α × α)
  | [a, b, c] => some (a, b, c)
  | _ => none
theorem as2_T {f : α → D} {xs : List α} {p : α × α} (h : as2 xs = some p) : eT f xs = eP f f p := by
  unfold as2 at h
  split at h
  · cases h; rfl
  · cases h
theorem as3_T {f : α → D} {xs : List α} {p : α × α × α} (h : as3 xs = some p) : eT f xs = e3 f f f p := by
  unfold as3 at h
  split at h
  · cases h; rfl
  · cases h
end
end TL
end

section
/-! TL7: words that the printer of typed texts uses. -/
namespace TL
open DL
open PySem (Str Operator CmpOp sizeLine PyData)
def sumO {ρ σ τ : Type} (z : ρ ⊕ σ) (f : ρ → Option τ) (g : σ → Option τ) : Option τ := match z with
  | .inl r => f r
  | .inr s => g s
theorem sumO_l {ρ σ τ : Type} {q : ρ} {f : ρ → Option τ} {g : σ → Option τ} {r : Option τ} (h : sumO (.inl q) f g = r) : f q = r := h
theorem sumO_r {ρ σ τ : Type} {q : σ} {f : ρ → Option τ} {g : σ → Option τ} {r : Option τ} (h : sumO (.inr q) f g = r) : g q = r := h
theorem bnde {α : Type} {x : Option α} {r : α} (h : x = some r) : ∃ a, x = some a ∧ some a = some r := ⟨r, h, rfl⟩
def S_pick (P : DL.Ctx) (j : Nat) : Prop := ∀ {α : Type} (f : α → D) [Pl f] (w : W) (xs : List α) (x : α) (w' : W), pickW w xs = some (x, w') → P.call j [eW w, eL f xs] = some (f x, [eW w', eL f xs])
def S_pickT (P : DL.Ctx) (j : Nat) : Prop := ∀ {α : Type} (f : α → D) [Pl f] (w : W) (xs : List α) (x : α) (w' : W), pickW w xs = some (x, w') → P.call j [eW w, eT f xs] = some (f x, [eW w', eT f xs])
def S_pickF (P : DL.Ctx) (j : Nat) : Prop := ∀ {α : Type} (f : α → D) (g : D) (w : W) (xs : List α) (x : α) (w' : W), pickW w xs = some (x, w') → (f x).freeze = g → P.call j [eW w, eL f xs] = some (g, [eW w', .lst false (D.freezes (xs.map f))])
theorem c_4T {α β γ δ ε : Type} {f : α → D} {g : β → D} {k : γ → D} {l : δ → D} {h : ε → D} {p : α × β × γ × δ} {x y z w : ε} (h1 : f p.1 = h x) (h2 : g p.2.1 = h y) (h3 : k p.2.2.1 = h z) (h4 : l p.2.2.2 = h w) : e4 f g k l p = eT h [x, y, z, w] := by show D.tup [_, _, _, _] = D.tup [_, _, _, _]; rw [h1, h2, h3, h4]
theorem S_of {T : List FD} {k k' i : Nat} {f : FD} {ds : List D} {x : D × List D} (hk : k' = k + 1) (hT : T[i]? = some f) (h : runF ⟨evF T k⟩ f ds = some x) : (Ctx.mk (evF T k')).call i ds = some x := by subst hk; exact evF_of hT h
/-! a plain value as a thing of a type -/
def dnT {α : Type} (f : PV → Option α) (v : PV) : Option (List α) := v.asT.bind fun vs => mapO f vs
def dnP {α β : Type} (f : PV → Option α) (g : PV → Option β) (v : PV) : Option (α × β) := v.as2.bind fun p => (f p.1).bind fun a => (g p.2).bind fun b => some (a, b)
def dn3 {α β γ : Type} (f : PV → Option α) (g : PV → Option β) (h : PV → Option γ) (v : PV) : Option (α × β × γ) := v.as3.bind fun p => (f p.1).bind fun a => (g p.2.1).bind fun b => (h p.2.2).bind fun c => some (a, b, c)
theorem mapO_enc {α : Type} {f : PV → Option α} {e : α → D} (h : ∀ v a, f v = some a → PV.enc v = e a) : ∀ {vs : List PV} {xs : List α}, mapO f vs = some xs → vs.map PV.enc = xs.map e
  | [], xs, q => by cases q; rfl
  | v :: vs, xs, q => by
    obtain ⟨a, h1, q⟩ := bnd q
    obtain ⟨ys, h2, q⟩ := bnd q
    cases q
    rw [List.map_cons, List.map_cons, h v a h1, mapO_enc h h2]
theorem dnT_enc {α : Type} {f : PV → Option α} {e : α → D} (h : ∀ v a, f v = some a → PV.enc v = e a) (v : PV) (xs : List α) (q : dnT f v = some xs) : PV.enc v = eT e xs := by
  obtain ⟨vs, h1, q⟩ := bnd q
  rw [asT_enc h1]
  exact congrArg D.tup (mapO_enc h q)
theorem dnTT_enc {α : Type} {f : PV → Option α} {e : α → D} (h : ∀ v a, f v = some a → PV.enc v = e a) (vs : List PV) (xs : List α) (q : mapO f vs = some xs) : eT PV.enc vs = eT e xs := congrArg D.tup (mapO_enc h q)
theorem dnP_enc {α β : Type} {f : PV → Option α} {g : PV → Option β} {e : α → D} {k : β → D} (hf : ∀ v a, f v = some a → PV.enc v = e a) (hg : ∀ v a, g v = some a → PV.enc v = k a) (v : PV) (p : α × β) (q : dnP f g v = some p) : PV.enc v = eP e k p := by
  obtain ⟨x, h1, q⟩ := bnd q
  obtain ⟨a, h2, q⟩ := bnd q
  obtain ⟨b, h3, q⟩ := bnd q
  cases q
  rw [as2_enc h1]
  show D.tup [_, _] = D.tup [_, _]
  rw [hf _ _ h2, hg _ _ h3]
theorem dn3_enc {α β γ : Type} {f : PV → Option α} {g : PV → Option β} {i : PV → Option γ} {e : α → D} {k : β → D} {l : γ → D} (hf : ∀ v a, f v = some a → PV.enc v = e a) (hg : ∀ v a, g v = some a → PV.enc v = k a) (hi : ∀ v a, i v = some a → PV.enc v = l a) (v : PV) (p : α × β × γ) (q : dn3 f g i v = some p) : PV.enc v = e3 e k l p := by
  obtain ⟨x, h1, q⟩ := bnd q
  obtain ⟨a, h2, q⟩ := bnd q
  obtain ⟨b, h3, q⟩ := bnd q
  obtain ⟨c, h4, q⟩ := bnd q
  cases q
  rw [as3_enc h1]
  show D.tup [_, _, _] = D.tup [_, _, _]
  rw [hf _ _ h2, hg _ _ h3, hi _ _ h4]
theorem dnI_enc (v : PV) (i : Int) (h : PV.asI v = some i) : PV.enc v = D.int i := asI_enc h
theorem dnB_enc (v : PV) (i : Bool) (h : PV.asB v = some i) : PV.enc v = D.bl i := asB_enc h
theorem dnV_enc (v : PV) (i : PV) (h : some v = some i) : PV.enc v = PV.enc i := by cases h; rfl
end TL
end

section
/-! U1: plain lemmas about the words of typed texts. -/
namespace TL
open DL K31
section
variable {α β γ σ ρ : Type}
theorem foldO_eq (g : σ → α → σ) (I : σ → Prop) {step : α → σ → Option σ} : ∀ {xs : List α} {s : σ}, (∀ x ∈ xs, ∀ s, I s → step x s = some (g s x) ∧ I (g s x)) → I s → foldO step xs s = some (xs.foldl g s) ∧ I (xs.foldl g s)
  | [], s, _, h => ⟨rfl, h⟩
  | x :: xs, s, hs, h => by
    obtain ⟨h1, h2⟩ := hs x List.mem_cons_self s h
    show ((step x s).bind _ = _) ∧ _
    rw [h1]
    exact foldO_eq g I (fun y hy => hs y (List.mem_cons_of_mem _ hy)) h2
/-- a loop by what holds between its turns; the turn's number, the part that was walked -/
theorem foldO_inv {step : α → σ → Option σ} {xs : List α} (I : Nat → σ → Prop) (hs : ∀ i (h : i < xs.length) s, I i s → ∃ s', step xs[i] s = some s' ∧ I (i + 1) s') {s : σ} (h0 : I 0 s) : ∃ s', foldO step xs s = some s' ∧ I xs.length s' := by
  have key : ∀ n i s, xs.length - i = n → i ≤ xs.length → I i s → ∃ s', foldO step (xs.drop i) s = some s' ∧ I xs.length s' := by
    intro n
    induction n with
    | zero =>
      intro i s hn hi h
      have : i = xs.length := by omega
      subst this
      rw [List.drop_length]
      exact ⟨s, rfl, h⟩
    | succ n ih =>
      intro i s hn hi h
      have hlt : i < xs.length := by omega
      obtain ⟨s1, h1, h2⟩ := hs i hlt s h
      obtain ⟨s2, h3, h4⟩ := ih (i + 1) s1 (by omega) (by omega) h2
      refine ⟨s2, ?_, h4⟩
      rw [List.drop_eq_getElem_cons hlt]
      show (step _ s).bind _ = _
      rw [h1]; exact h3
  have := key xs.length 0 s rfl (Nat.zero_le _) h0
  rwa [List.drop_zero] at this
/-- .. where only membership counts -/
theorem foldO_mem {step : α → σ → Option σ} (I : σ → Prop) : ∀ {xs : List α} {s : σ}, (∀ x ∈ xs, ∀ s, I s → ∃ s', step x s = some s' ∧ I s') → I s → ∃ s', foldO step xs s = some s' ∧ I s'
  | [], s, _, h => ⟨s, rfl, h⟩
  | x :: xs, s, hs, h => by
    obtain ⟨s1, h1, h2⟩ := hs x List.mem_cons_self s h
    obtain ⟨s2, h3, h4⟩ := foldO_mem I (fun y hy => hs y (List.mem_cons_of_mem _ hy)) h2
    exact ⟨s2, by show (step x s).bind _ = _; rw [h1]; exact h3, h4⟩
theorem loopO_mem {step : α → σ → Option (Ct ρ σ)} (I : σ → Prop) : ∀ {xs : List α} {s : σ}, (∀ x ∈ xs, ∀ s, I s → ∃ s', step x s = some (.nx s') ∧ I s') → I s → ∃ s', loopO step xs s = some (.inr s') ∧ I s'
  | [], s, _, h => ⟨s, rfl, h⟩
  | x :: xs, s, hs, h => by
    obtain ⟨s1, h1, h2⟩ := hs x List.mem_cons_self s h
    obtain ⟨s2, h3, h4⟩ := loopO_mem I (fun y hy => hs y (List.mem_cons_of_mem _ hy)) h2
    exact ⟨s2, by show (step x s).bind _ = _; rw [h1]; exact h3, h4⟩
/-- a loop that only looks: no turn returns -/
theorem loopO_none {step : α → Unit → Option (Ct ρ Unit)} {xs : List α} (h : ∀ x ∈ xs, step x () = some (.nx ())) : loopO step xs () = some (.inr ()) := by
  obtain ⟨s, h1, _⟩ := loopO_mem (step := step) (xs := xs) (s := ()) (fun _ => True) (fun x hx s _ => ⟨(), h x hx, trivial⟩) trivial
  exact h1
/-- a search: it returns v at the first item that has p -/
theorem loopO_any {step : α → Unit → Option (Ct ρ Unit)} {xs : List α} (p : α → Bool) (v : ρ) (h : ∀ x ∈ xs, step x () = some (if p x = true then .rt v else .nx ())) : loopO step xs () = some (if xs.any p = true then .inl v else .inr ()) := by
  induction xs with
  | nil => rfl
  | cons x xs ih =>
    show (step x ()).bind _ = _
    rw [h x List.mem_cons_self, List.any_cons]
    cases hp : p x with
    | true => rfl
    | false =>
      rw [Bool.false_or]
      exact ih fun y hy => h y (List.mem_cons_of_mem _ hy)
theorem mapS_mem {F : α → σ → Option (β × σ)} (Q : β → Prop) : ∀ {xs : List α} {s : σ}, (∀ x ∈ xs, ∀ s, ∃ y s', F x s = some (y, s') ∧ Q y) → ∃ ys s', mapS F xs s = some (ys, s') ∧ ys.length = xs.length ∧ ∀ y ∈ ys, Q y
  | [], s, _ => ⟨[], s, rfl, rfl, fun y h => by cases h⟩
  | x :: xs, s, h => by
    obtain ⟨y, s1, h1, h2⟩ := h x List.mem_cons_self s
    obtain ⟨ys, s2, h3, h4, h5⟩ := mapS_mem Q (s := s1) fun z hz => h z (List.mem_cons_of_mem _ hz)
    refine ⟨y :: ys, s2, ?_, by simp [h4], fun z hz => ?_⟩
    · show (F x s).bind _ = _
      rw [h1]
      show (mapS F xs s1).bind _ = _
      rw [h3]; rfl
    · rcases List.mem_cons.mp hz with rfl | hz
      · exact h2
      · exact h5 z hz
theorem mapO_mem {F : α → Option β} (Q : α → β → Prop) : ∀ {xs : List α}, (∀ x ∈ xs, ∃ y, F x = some y ∧ Q x y) → ∃ ys, mapO F xs = some ys ∧ ys.length = xs.length ∧ ∀ y ∈ ys, ∃ x ∈ xs, Q x y
  | [], _ => ⟨[], rfl, rfl, fun y h => by cases h⟩
  | x :: xs, h => by
    obtain ⟨y, h1, h2⟩ := h x List.mem_cons_self
    obtain ⟨ys, h3, h4, h5⟩ := mapO_mem Q fun z hz => h z (List.mem_cons_of_mem _ hz)
    refine ⟨y :: ys, ?_, by simp [h4], fun z hz => ?_⟩
    · show (F x).bind _ = _
      rw [h1]
      show (mapO F xs).bind _ = _
      rw [h3]; rfl
    · rcases List.mem_cons.mp hz with rfl | hz
      · exact ⟨x, List.mem_cons_self, h2⟩
      · obtain ⟨w, hw, q⟩ := h5 z hz
        exact ⟨w, List.mem_cons_of_mem _ hw, q⟩
theorem all_id (G : α → Bool) (xs : List α) : (xs.map G).all id = xs.all G := by rw [List.all_map]; rfl
theorem any_id (G : α → Bool) (xs : List α) : (xs.map G).any id = xs.any G := by rw [List.any_map]; rfl
theorem whileS_stop {c : σ → Option Bool} {b : σ → Option σ} {s : σ} (h : c s = some false) : whileS c b s = some s := by rw [whileS, h]
theorem whileS_next {c : σ → Option Bool} {b : σ → Option σ} {s s' : σ} (h : c s = some true) (h2 : b s = some s') : whileS c b s = whileS c b s' := by
  rw [whileS, h]
  simp only [h2]
/-- a while by an invariant and a number that falls -/
theorem whileS_inv {c : σ → Option Bool} {b : σ → Option σ} (I : σ → Prop) (m : σ → Nat) (hc : ∀ s, I s → ∃ t, c s = some t ∧ (t = true → ∃ s', b s = some s' ∧ I s' ∧ m s' < m s)) : ∀ (n : Nat) (s : σ), m s = n → I s → ∃ s', whileS c b s = some s' ∧ I s' ∧ c s' = some false := by
  intro n
  induction n using Nat.strongRecOn with
  | ind n ih =>
    intro s hn h
    obtain ⟨t, h1, h2⟩ := hc s h
    cases t with
    | false => exact ⟨s, whileS_stop h1, h, h1⟩
    | true =>
      obtain ⟨s1, h3, h4, h5⟩ := h2 rfl
      obtain ⟨s2, h6, h7, h8⟩ := ih (m s1) (by omega) s1 rfl h4
      exact ⟨s2, (whileS_next h1 h3).trans h6, h7, h8⟩
theorem modG_pos {i j : Int} (h : 0 < j) : modG i j = some (i % j) := by
  unfold modG
  rw [if_neg (by omega), modD_pos h]
theorem divG_of {i j : Int} (h : divOk j = true) : divG i j = some (divD i j) := if_pos h
/-! rows by their places -/
theorem rg_map_get {n : Nat} (f : Int → α) : (rg 0 (n : Int)).map f = (List.range n).map fun (k : Nat) => f (k : Int) := by
  unfold rg
  rw [List.map_map, show ((n : Int) - 0).toNat = n by omega]
  refine List.map_congr_left fun k _ => ?_
  show f (0 + (k : Int)) = f k
  rw [Int.zero_add]
theorem rg_getElem {n : Nat} {i : Nat} (h : i < (rg 0 (n : Int)).length) : (rg 0 (n : Int))[i] = (i : Int) := by
  simp [rg]
theorem mem_rg0 {n : Nat} {k : Int} (h : k ∈ rg 0 (n : Int)) : ∃ i : Nat, i < n ∧ k = i := by
  obtain ⟨h1, h2⟩ := mem_rg.mp h
  exact ⟨k.toNat, by omega, by omega⟩
theorem ints_enc (xs : List Int) : (PV.tup (xs.map fun a => PV.int a)).enc = eT D.int xs := by
  show D.tup (PV.encs _) = D.tup _
  rw [encs_map, List.map_map]; rfl
end
/-! fractions -/
theorem gcd_emod' (a b : Int) : Int.gcd b (a % b) = Int.gcd a b := by
  rw [Int.emod_def, Int.gcd_sub_mul_left_right, Int.gcd_comm]
theorem euclidS : ∀ (y x : Nat), whileS (fun (s3 : (Int × Int)) => some (decide (0 < s3.2))) (fun (s3 : (Int × Int)) => (modG s3.1 s3.2).bind fun x4 => some (s3.2, x4)) ((x : Int), (y : Int)) = some ((Nat.gcd x y : Int), 0) := by
  intro y
  induction y using Nat.strongRecOn with
  | ind y ih =>
    intro x
    by_cases hy : y = 0
    · subst hy
      rw [whileS_stop (by simp)]
      simp
    · rw [whileS_next (s' := ((y : Int), ((x % y : Nat) : Int))) (by simp; omega) (by simp only [modG_pos (show (0 : Int) < (y : Int) by omega)]; rfl), ih (x % y) (Nat.mod_lt _ (by omega)) y]
      rw [Nat.gcd_comm x y, Nat.gcd_rec y x, Nat.gcd_comm (x % y) y]
theorem lowStep : ∀ (k : Nat) (xs : List Int) (x y : Nat), y < 2 ^ k → 2 * k ≤ xs.length → loopO (fun i4 (s2 : (Int × Int)) => (if (decide (s2.2 = 0)) = true then some (Ct.bk (s2.1, s2.2)) else (modG s2.1 s2.2).bind fun x5 => some (Ct.nx (s2.2, x5)) : Option (Ct Unit (Int × Int)))) xs ((x : Int), (y : Int)) = some (.inr ((Nat.gcd x y : Int), 0)) := by
  have zero : ∀ (xs : List Int) (x : Nat), loopO (fun i4 (s2 : (Int × Int)) => (if (decide (s2.2 = 0)) = true then some (Ct.bk (s2.1, s2.2)) else (modG s2.1 s2.2).bind fun x5 => some (Ct.nx (s2.2, x5)) : Option (Ct Unit (Int × Int)))) xs ((x : Int), ((0 : Nat) : Int)) = some (.inr ((x : Int), 0)) := by
    intro xs x
    cases xs <;> rfl
  have next : ∀ (d : Int) (xs : List Int) (x y : Nat), y ≠ 0 → loopO (fun i4 (s2 : (Int × Int)) => (if (decide (s2.2 = 0)) = true then some (Ct.bk (s2.1, s2.2)) else (modG s2.1 s2.2).bind fun x5 => some (Ct.nx (s2.2, x5)) : Option (Ct Unit (Int × Int)))) (d :: xs) ((x : Int), (y : Int)) = loopO (fun i4 (s2 : (Int × Int)) => (if (decide (s2.2 = 0)) = true then some (Ct.bk (s2.1, s2.2)) else (modG s2.1 s2.2).bind fun x5 => some (Ct.nx (s2.2, x5)) : Option (Ct Unit (Int × Int)))) xs ((y : Int), ((x % y : Nat) : Int)) := by
    intro d xs x y hy
    rw [loopO]
    have h1 : ¬ (y : Int) = 0 := by omega
    simp only [h1, decide_false, Bool.false_eq_true, if_false, modG_pos (show (0 : Int) < (y : Int) by omega), Option.bind_some]
    rfl
  intro k
  induction k with
  | zero =>
    intro xs x y hy _
    have : y = 0 := by simpa using hy
    subst this
    rw [Nat.gcd_zero_right]; exact zero xs x
  | succ k ih =>
    intro xs x y hy hl
    by_cases h0 : y = 0
    · subst h0
      rw [Nat.gcd_zero_right]; exact zero xs x
    · rcases xs with _ | ⟨d1, _ | ⟨d2, r⟩⟩
      · simp at hl
      · simp at hl; omega
      · simp at hl
        have hr : x % y < y := Nat.mod_lt _ (by omega)
        by_cases h1 : x % y = 0
        · rw [next d1 _ x y h0, h1, zero, Nat.gcd_comm x y, Nat.gcd_rec y x, h1, Nat.gcd_zero_left]
        · have hs : y % (x % y) < 2 ^ k := by
            have h2 : y % (x % y) < x % y := Nat.mod_lt _ (by omega)
            have h3 : y = (x % y) * (y / (x % y)) + y % (x % y) := (Nat.div_add_mod y (x % y)).symm
            have h4 : 1 ≤ y / (x % y) := (Nat.one_le_div_iff (by omega)).mpr (by omega)
            have h5 : x % y ≤ (x % y) * (y / (x % y)) := Nat.le_mul_of_pos_right _ h4
            rw [Nat.pow_succ] at hy
            omega
          rw [next d1 _ x y h0, next d2 _ y (x % y) h1, ih r (x % y) (y % (x % y)) hs (by omega)]
          rw [Nat.gcd_comm x y, Nat.gcd_rec y x, Nat.gcd_comm (x % y) (y % (x % y)), ← Nat.gcd_rec]
theorem lowAll (a b : Int) (hb : 0 < b) (hs : Bd 4999 b) : loopO (fun i4 (s2 : (Int × Int)) => (if (decide (s2.2 = 0)) = true then some (Ct.bk (s2.1, s2.2)) else (modG s2.1 s2.2).bind fun x5 => some (Ct.nx (s2.2, x5)) : Option (Ct Unit (Int × Int)))) (rg 0 9999) (a, b) = some (.inr ((Int.gcd a b : Int), 0)) := by
  have hl := rg_len 0 9999
  rcases hx : rg 0 9999 with _ | ⟨d, r⟩
  · rw [hx] at hl; cases hl
  · rw [hx] at hl
    have hr : r.length = 9998 := by simp at hl; omega
    have hm0 : 0 ≤ a % b := Int.emod_nonneg _ (by omega)
    have hm1 : a % b < b := Int.emod_lt_of_pos _ (by omega)
    have h0 : ¬ b = 0 := by omega
    have h1 := lowStep 4999 r b.toNat (a % b).toNat (by unfold Bd at hs; omega) (by omega)
    rw [loopO]
    simp only [h0, decide_false, Bool.false_eq_true, if_false, modG_pos hb, Option.bind_some]
    rw [show ((b.toNat : Nat) : Int) = b by omega, show (((a % b).toNat : Nat) : Int) = a % b by omega] at h1
    rw [h1]
    have hg : Nat.gcd b.toNat (a % b).toNat = Int.gcd a b := by
      rw [← gcd_emod' a b]
      show _ = Nat.gcd _ _
      rw [show b.natAbs = b.toNat by omega, show (a % b).natAbs = (a % b).toNat by omega]
    rw [hg]
theorem ediv_neg_of' {a g : Int} (hg : 0 < g) (h : g ∣ a) : a.fdiv (-g) = -(a / g) := by
  obtain ⟨k, rfl⟩ := h
  have e : g * k = (-g) * (-k) := by rw [Int.neg_mul_neg]
  have h0 : -g ≠ 0 := by omega
  rw [Int.mul_ediv_cancel_left _ (by omega : g ≠ 0)]
  conv => lhs; rw [e]
  rw [Int.mul_fdiv_cancel_left _ h0]
theorem gcd_bd {a b : Int} {n : Nat} (hb : b ≠ 0) (hs : Bd n b) : Bd n (Int.gcd a b : Int) := by
  have gl : Int.gcd a b ≤ b.natAbs := Nat.le_of_dvd (by omega) (Int.gcd_dvd_natAbs_right a b)
  unfold Bd at *; simp only [Int.natAbs_natCast]; omega
theorem low_divs {a b : Int} (hb : 0 < b) (hs : Bd 4999 b) : divG a (Int.gcd a b : Int) = some (nfN a b) ∧ divG b (Int.gcd a b : Int) = some (nfD a b) := by
  have gp := gcd_pos (a := a) (b := b) (by omega)
  have d1 : divOk (Int.gcd a b : Int) = true := div_of (gcd_bd (a := a) (by omega) hs) (by omega) (by decide) (by decide)
  rw [divG_of d1, divG_of d1, divD_pos (by omega), divD_pos (by omega)]
  unfold nfN nfD
  rw [Int.sign_eq_one_of_pos hb, Int.mul_one, show (b.natAbs : Int) = b by omega]
  exact ⟨rfl, rfl⟩
theorem lowest_divs {a b : Int} (hb : b ≠ 0) (hs : Bd 4999 b) : divG a (if b < 0 then -(Int.gcd a b : Int) else (Int.gcd a b : Int)) = some (nfN a b) ∧ divG b (if b < 0 then -(Int.gcd a b : Int) else (Int.gcd a b : Int)) = some (nfD a b) := by
  by_cases hn : b < 0
  · have gp := gcd_pos (a := a) (b := b) hb
    have hg := gcd_bd (a := a) hb hs
    have d2 : divOk (-(Int.gcd a b : Int)) = true := div_of hg.neg (by omega) (by decide) (by decide)
    have e1 : (Int.gcd a b : Int) ∣ a := Int.gcd_dvd_left ..
    have e2 : (Int.gcd a b : Int) ∣ b := Int.gcd_dvd_right ..
    have gpos : (0 : Int) < Int.gcd a b := by omega
    have q : ∀ x : Int, (Int.gcd a b : Int) ∣ x → divD x (-(Int.gcd a b : Int)) = -(x / (Int.gcd a b : Int)) := fun x hx => by
      unfold divD
      rw [if_neg (by omega), ediv_neg_of' gpos hx]
    rw [if_pos hn, divG_of d2, divG_of d2, q a e1, q b e2]
    constructor
    · unfold nfN
      rw [Int.sign_eq_neg_one_of_neg hn, Int.mul_neg, Int.mul_one, Int.neg_ediv_of_dvd e1]
    · unfold nfD
      rw [show (b.natAbs : Int) = -b by omega, Int.neg_ediv_of_dvd e2]
  · rw [if_neg hn]
    exact low_divs (by omega) hs
end TL
end

section
/-! U2: plain values: what may be compared; loops by places. -/
namespace TL
open DL K31
open PySem (PyData)
section
variable {α β γ σ ρ : Type}
/-- a value that may be compared (it is not nested too deep, its texts are no longer than texts are) -/
def PV.okN (n : Nat) (v : PV) : Prop := v.enc.py.canLay0 = true ∧ v.enc.py.depth ≤ n
theorem okN_mono {n m : Nat} {v : PV} (h : v.okN n) (hm : n ≤ m) : v.okN m := ⟨h.1, Nat.le_trans h.2 hm⟩
theorem okN_int {i : Int} : (PV.int i).okN 1 := ⟨rfl, by show PyData.depth (.int i) ≤ 1; rw [PyData.depth]; omega⟩
theorem okN_bl {b : Bool} : (PV.bl b).okN 1 := ⟨rfl, by show PyData.depth (.bool b) ≤ 1; rw [PyData.depth]; omega⟩
theorem okN_non : (PV.non).okN 1 := ⟨rfl, by show PyData.depth .none ≤ 1; rw [PyData.depth]; omega⟩
theorem pys_encs (vs : List PV) : D.pys (PV.encs vs) = vs.map fun v => v.enc.py := by
  rw [encs_map, pys_map]
theorem lay_all {n : Nat} : ∀ {vs : List PV}, (∀ v ∈ vs, v.okN n) → PyData.canLayAll0 (vs.map fun v => v.enc.py) = true ∧ PyData.depthAll (vs.map fun v => v.enc.py) ≤ n
  | [], _ => ⟨rfl, by rw [List.map_nil, PyData.depthAll]; omega⟩
  | v :: vs, h => by
    obtain ⟨h1, h2⟩ := h v List.mem_cons_self
    obtain ⟨h3, h4⟩ := lay_all (vs := vs) fun w hw => h w (List.mem_cons_of_mem _ hw)
    refine ⟨?_, ?_⟩
    · show (PyData.canLay0 v.enc.py && _) = true
      rw [h1, h3]; rfl
    · rw [List.map_cons, PyData.depthAll]; omega
theorem okN_tup {n : Nat} {vs : List PV} (h : ∀ v ∈ vs, v.okN n) : (PV.tup vs).okN (n + 1) := by
  obtain ⟨h1, h2⟩ := lay_all h
  refine ⟨?_, ?_⟩
  · show PyData.canLayAll0 (D.pys (PV.encs vs)) = true
    rw [pys_encs]; exact h1
  · show PyData.depth (.tuple (D.pys (PV.encs vs))) ≤ n + 1
    rw [PyData.depth, pys_encs]; omega
theorem okN_lst {n : Nat} {vs : List PV} (h : ∀ v ∈ vs, v.okN n) : (PV.lst vs).okN (n + 1) := by
  obtain ⟨h1, h2⟩ := lay_all h
  refine ⟨?_, ?_⟩
  · show PyData.canLayAll0 (D.pys (PV.encs vs)) = true
    rw [pys_encs]; exact h1
  · show PyData.depth (.list (D.pys (PV.encs vs))) ≤ n + 1
    rw [PyData.depth, pys_encs]; omega
theorem shp_of {n : Nat} {v : PV} (h : v.okN n) (hn : n ≤ 64) : v.enc.shp = true := by
  show (v.enc.py.canLay0 && decide (v.enc.py.depth ≤ 64)) = true
  rw [h.1, decide_eq_true (Nat.le_trans h.2 hn)]; rfl
theorem shp_eL {n : Nat} {vs : List PV} (h : ∀ v ∈ vs, v.okN n) (hn : n ≤ 63) : (eL PV.enc vs).shp = true := by
  have := shp_of (okN_lst h) (show n + 1 ≤ 64 by omega)
  unfold D.shp at *
  show PySem.SeqAt.shaped (.list (D.pys (vs.map PV.enc))) = true
  rw [← encs_map]; exact this
theorem shp_eT {n : Nat} {vs : List PV} (h : ∀ v ∈ vs, v.okN n) (hn : n ≤ 63) : (eT PV.enc vs).shp = true := by
  have := shp_of (okN_tup h) (show n + 1 ≤ 64 by omega)
  unfold D.shp at *
  show PySem.SeqAt.shaped (.tuple (D.pys (vs.map PV.enc))) = true
  rw [← encs_map]; exact this
/-- a list of values against the empty one -/
theorem eqG_nilL {n : Nat} {vs : List PV} (h : ∀ v ∈ vs, v.okN n) (hn : n ≤ 63) : eqG (eL PV.enc vs) (eL PV.enc []) = some vs.isEmpty := by
  unfold eqG
  rw [shp_eL h hn, shp_eL (vs := []) (fun v hv => by cases hv) hn, if_pos (by rfl)]
  cases vs <;> rfl
theorem eqG_C (f : α → D) {n : Nat} [DecidableEq α] [h : EqC f n] (hn : n ≤ 64) (a b : α) : eqG (f a) (f b) = some (decide (a = b)) := by
  unfold eqG
  rw [EqC.shp hn a, EqC.shp hn b, h.eqv, if_pos (by rfl)]
/-! loops over places as loops over things -/
theorem rg_succ (lo hi : Int) (h : lo < hi) : rg lo hi = lo :: rg (lo + 1) hi := by
  unfold rg
  obtain ⟨n, hn⟩ : ∃ n : Nat, (hi - lo).toNat = n + 1 := ⟨(hi - lo).toNat - 1, by omega⟩
  rw [hn, show (hi - (lo + 1)).toNat = n by omega, List.range_succ_eq_map, List.map_cons, List.map_map]
  congr 1
  · simp
  · refine List.map_congr_left fun k _ => ?_
    simp only [Function.comp]
    omega
theorem rg_nil {lo hi : Int} (h : hi ≤ lo) : rg lo hi = [] := by
  unfold rg
  rw [show (hi - lo).toNat = 0 by omega]; rfl
theorem foldO_zip_aux (F : α → β → σ → Option σ) (xs0 : List α) (ys0 : List β) : ∀ (xs : List α) (ys : List β) (k : Nat) (s : σ), xs0.drop k = xs → ys0.drop k = ys → xs.length ≤ ys.length →
    foldO (fun (i : Int) s => (L2.atI xs0 i).bind fun x => (L2.atI ys0 i).bind fun y => F x y s) (rg (k : Int) (xs0.length : Int)) s = foldO (fun p s => F p.1 p.2 s) (xs.zip ys) s
  | [], ys, k, s, h1, _, _ => by
    have : xs0.length ≤ k := by have := congrArg List.length h1; simp at this; omega
    rw [rg_nil (by omega)]; rfl
  | x :: xs, [], k, s, _, _, hl => by simp at hl
  | x :: xs, y :: ys, k, s, h1, h2, hl => by
    have l1 : k < xs0.length := by have := congrArg List.length h1; simp at this; omega
    have l2 : k < ys0.length := by have := congrArg List.length h2; simp at this; omega
    have e1 : xs0[k] = x ∧ xs0.drop (k + 1) = xs := by
      rw [List.drop_eq_getElem_cons l1] at h1
      exact List.cons.inj h1
    have e2 : ys0[k] = y ∧ ys0.drop (k + 1) = ys := by
      rw [List.drop_eq_getElem_cons l2] at h2
      exact List.cons.inj h2
    rw [rg_succ _ _ (by omega), foldO, at_in l1, at_in l2, List.zip_cons_cons, foldO, e1.1, e2.1]
    simp only [Option.bind_some]
    cases F x y s with
    | none => rfl
    | some s' =>
      have := foldO_zip_aux F xs0 ys0 xs ys (k + 1) s' e1.2 e2.2 (by simpa using hl)
      rw [show (((k + 1 : Nat)) : Int) = (k : Int) + 1 by omega] at this
      exact this
/-- for i in range(len(xs)) over xs[i], ys[i] -/
theorem foldO_zip (F : α → β → σ → Option σ) (xs : List α) (ys : List β) (s : σ) (h : xs.length ≤ ys.length) : foldO (fun (i : Int) s => (L2.atI xs i).bind fun x => (L2.atI ys i).bind fun y => F x y s) (rg 0 (xs.length : Int)) s = foldO (fun p s => F p.1 p.2 s) (xs.zip ys) s :=
  foldO_zip_aux F xs ys xs ys 0 s rfl rfl h
theorem foldO_map (h : α → β) (step : β → σ → Option σ) : ∀ (xs : List α) (s : σ), foldO step (xs.map h) s = foldO (fun x s => step (h x) s) xs s
  | [], s => rfl
  | x :: xs, s => by
    rw [List.map_cons, foldO, foldO]
    cases step (h x) s with
    | none => rfl
    | some s' => exact foldO_map h step xs s'
theorem foldO_congr {f g : α → σ → Option σ} {xs : List α} {s : σ} (h : ∀ x ∈ xs, ∀ s, f x s = g x s) : foldO f xs s = foldO g xs s := by
  induction xs generalizing s with
  | nil => rfl
  | cons x xs ih =>
    rw [foldO, foldO, h x List.mem_cons_self]
    cases g x s with
    | none => rfl
    | some s' => exact ih fun y hy => h y (List.mem_cons_of_mem _ hy)
theorem at_toNat {xs : List α} {i : Int} (h0 : 0 ≤ i) (h : i < xs.length) : L2.atI xs i = some (xs[i.toNat]'(by omega)) := by
  have := at_in (xs := xs) (i := i.toNat) (by omega)
  rw [show ((i.toNat : Nat) : Int) = i by omega] at this
  exact this
theorem compM_filter {F : α → Option (Option α)} {c : α → Bool} {xs : List α} (h : ∀ x ∈ xs, F x = some (if c x = true then some x else none)) : compM F xs = some (xs.filter c) := by
  rw [compM_fm (G := fun x => if c x = true then some x else none) h, fm_if c (fun x => x), List.map_id']
theorem filter_nil {c : α → Bool} {xs : List α} : (xs.filter c).isEmpty = xs.all fun x => !c x := by
  induction xs with
  | nil => rfl
  | cons x xs ih =>
    rw [List.all_cons, ← ih, List.filter_cons]
    cases c x <;> rfl
theorem filter_dec [DecidableEq α] {c : α → Bool} {xs : List α} : decide (xs.filter c = []) = xs.all fun x => !c x := by
  rw [← filter_nil]
  cases xs.filter c <;> rfl
end
end TL
namespace TL
open DL K31
section
variable {α β γ σ ρ : Type}
theorem mem_cutL {xs : List α} {l h : Option Int} {x : α} (hx : x ∈ cutL xs l h) : x ∈ xs := List.mem_of_mem_drop (List.mem_of_mem_take hx)
theorem len_cutL {xs : List α} {l h : Option Int} : (cutL xs l h).length ≤ xs.length := by
  unfold cutL
  rw [List.length_take, List.length_drop]; omega
theorem cut_to {xs : List α} {k : Nat} (h : k ≤ xs.length) : cutL xs none (some (k : Int)) = xs.take k := by
  unfold cutL
  rw [HT.sIx_none, HT.sIx_nat, List.drop_zero, Nat.sub_zero, Nat.min_eq_left h]
theorem cut_from {xs : List α} {k : Nat} (h : k ≤ xs.length) : cutL xs (some (k : Int)) none = xs.drop k := by
  unfold cutL
  rw [HT.sIx_none, HT.sIx_nat, Nat.min_eq_left h, List.take_of_length_le (by rw [List.length_drop]; omega)]
theorem at_last {xs : List α} (h : xs ≠ []) : L2.atI xs (-1) = some (xs.getLast h) := by
  have hl := List.length_pos_iff.mpr h
  unfold L2.atI L2.ixN
  rw [if_neg (by omega), if_pos (by omega)]
  show xs[((-1 : Int) + (xs.length : Int)).toNat]? = _
  rw [List.getLast_eq_getElem, show ((-1 : Int) + (xs.length : Int)).toNat = xs.length - 1 by omega, List.getElem?_eq_getElem (by omega)]
end
theorem Bd_of {n : Nat} {i m : Int} (h : -m ≤ i ∧ i ≤ m) (hm : m.toNat < 2 ^ n) : Bd n i := by unfold Bd; omega
end TL
end

section
namespace Pg
open DL TL
/-- _law_draws: 0=script 1=many 2=draws 3=mixed 4=k 5=cell 6=rest 7=turn -/
abbrev f0 : FD := K31.fdDraws
/-- _law_next: 0=w 1=many -/
abbrev f1 : FD := fdNext
/-- _law_pick: 0=w 1=rows -/
abbrev f2 : FD := (fdPick 1)
/-- _law_rows: 0=w 1=most 2=columns 3=found 4=turn 5=row 6=k 7=a 8=b -/
def f3 : FD := ⟨3, 9, [], [
    .asg (.nm 3) (.lst []),
    .for_ (.nm 4) .rng [(.op (.bin .Add) [(.int 1), (.call 1 [(.var 0), (.var 1)])])] [.asg (.nm 5) (.comp (.nm 6) [6] .rng [(.var 2)] [] (.call 2 [(.var 0), (.lst [(.int 0), (.int 1), (.op .neg [(.int 1)]), (.int 2), (.op .neg [(.int 3)]), (.int 1), (.int 0), (.op (.bin .Sub) [(.call 1 [(.var 0), (.int 19)]), (.int 9)])])])), .ite (.and [(.val (.op (.cmp .Gt) [(.op .len [(.var 3)]), (.int 1)])), (.val (.op (.cmp .Eq) [(.call 1 [(.var 0), (.int 3)]), (.int 0)]))]) [.asg (.tp [(.nm 7), (.nm 8)]) (.tup [(.op (.bin .Sub) [(.call 1 [(.var 0), (.int 5)]), (.int 2)]), (.op (.bin .Sub) [(.call 1 [(.var 0), (.int 5)]), (.int 2)])]), .asg (.nm 5) (.comp (.nm 6) [6] .rng [(.var 2)] [] (.op (.bin .Add) [(.op (.bin .Mult) [(.var 7), (.sub (.sub (.var 3) (.int 0)) (.var 6))]), (.op (.bin .Mult) [(.var 8), (.sub (.sub (.var 3) (.op .neg [(.int 1)])) (.var 6))])]))] [], .app 3 [] (.op .tuple [(.var 5)])],
    .ret (.op .tuple [(.var 3)])]⟩
/-- _law_whole: 0=w 1=columns 2=k -/
def f4 : FD := ⟨2, 3, [], [
    .ret (.op .tuple [(.comp (.nm 2) [2] .rng [(.var 1)] [] (.call 2 [(.var 0), (.lst [(.int 0), (.int 1), (.op .neg [(.int 1)]), (.int 2), (.op (.bin .Sub) [(.call 1 [(.var 0), (.int 13)]), (.int 6)])])]))])]⟩
/-- _law_sums: 0=rows 1=x 2=row 3=k -/
def f5 : FD := ⟨2, 4, [], [
    .ret (.op .tuple [(.comp (.nm 2) [2] (.it false) [(.var 0)] [] (.op .sum [(.comp (.nm 3) [3] .rng [(.op .len [(.var 1)])] [] (.op (.bin .Mult) [(.sub (.var 2) (.var 3)), (.sub (.var 1) (.var 3))]))]))])]⟩
/-- _law_low: 0=a 1=b 2=turn 3=one 4=other -/
def f6 : FD := ⟨2, 5, [], [
    .par [3, 4] [(.var 0), (.var 1)],
    .for_ (.nm 2) .rng [(.int 9999)] [.ite (.val (.op (.cmp .Eq) [(.var 4), (.int 0)])) [.brk] [], .par [3, 4] [(.var 4), (.op (.bin .Mod) [(.op .toInt [(.var 3)]), (.var 4)])]],
    .ret (.tup [(.op (.bin .FloorDiv) [(.var 0), (.var 3)]), (.op (.bin .FloorDiv) [(.var 1), (.var 3)])])]⟩
/-- _law_parted: 0=w 1=rows 2=x 3=columns 4=d 5=row 6=total 7=n -/
def f7 : FD := ⟨1, 8, [], [
    .asg (.tp [(.nm 3), (.nm 4)]) (.tup [(.op (.bin .Add) [(.int 1), (.call 1 [(.var 0), (.int 3)])]), (.call 2 [(.var 0), (.lst [(.int 1), (.int 2), (.int 3), (.int 6)])])]),
    .asg (.nm 1) (.op .tuple [(.comp (.nm 5) [5] (.it false) [(.call 3 [(.var 0), (.int 3), (.var 3)])] [] (.op .tuple [(.comp (.nm 7) [7] (.it false) [(.var 5)] [] (.op (.bin .Mult) [(.var 7), (.var 4)]))]))]),
    .asg (.nm 2) (.call 4 [(.var 0), (.var 3)]),
    .ret (.tup [(.var 1), (.op .tuple [(.comp (.nm 6) [6] (.it false) [(.call 5 [(.var 1), (.var 2)])] [] (.op (.bin .FloorDiv) [(.op .toInt [(.var 6)]), (.var 4)]))]), (.op .tuple [(.comp (.nm 7) [7] (.it false) [(.var 2)] [] (.call 6 [(.var 7), (.var 4)]))])])]⟩
/-- _law_pick: 0=w 1=rows -/
abbrev f8 : FD := (fdPickF 1)
/-- _law_bent: 0=w 1=row 2=at 3=one 4=more -/
def f9 : FD := ⟨2, 5, [], [
    .asg (.nm 2) (.call 1 [(.var 0), (.op .len [(.var 1)])]),
    .asg (.nm 3) (.sub (.var 1) (.var 2)),
    .ite (.val (.op (.isi .tuple) [(.var 3)])) [.asg (.nm 4) (.call 2 [(.var 0), (.lst [(.tup [(.op (.bin .Add) [(.sub (.var 3) (.int 0)), (.int 1)]), (.sub (.var 3) (.int 1))]), (.tup [(.op (.bin .Mult) [(.sub (.var 3) (.int 0)), (.int 2)]), (.op (.bin .Mult) [(.sub (.var 3) (.int 1)), (.int 2)])]), (.tup [(.sub (.var 3) (.int 0)), (.op (.bin .Sub) [(.int 0), (.sub (.var 3) (.int 1))])]), (.sub (.var 3) (.int 0)), (.tup [(.sub (.var 3) (.int 0)), (.int 0)]), (.tup [(.int 0), (.int 1)]), (.bl true)])])] [.asg (.nm 4) (.call 2 [(.var 0), (.lst [(.op (.bin .Add) [(.var 3), (.int 1)]), (.tup [(.var 3), (.int 1)]), (.bl true), .non, (.int 0), (.op (.bin .Sub) [(.var 3), (.int 2)])])])],
    .ret (.call 8 [(.var 0), (.lst [(.op (.bin .Add) [(.op (.bin .Add) [(.sli (.var 1) [] [(.var 2)]), (.tup [(.var 4)])]), (.sli (.var 1) [(.op (.bin .Add) [(.var 2), (.int 1)])] [])]), (.op (.bin .Add) [(.sli (.var 1) [] [(.var 2)]), (.sli (.var 1) [(.op (.bin .Add) [(.var 2), (.int 1)])] [])]), (.op (.bin .Add) [(.var 1), (.sli (.var 1) [] [(.int 1)])]), (.op .list [(.var 1)]), (.op (.bin .Add) [(.op (.bin .Add) [(.sli (.var 1) [] [(.var 2)]), (.tup [(.var 4)])]), (.sli (.var 1) [(.op (.bin .Add) [(.var 2), (.int 1)])] [])])])])]⟩
/-- width_of: 0=rows -/
def f10 : FD := ⟨1, 1, [], [
    .ret (.ite (.val (.op (.cmp .NotEq) [(.var 0), (.tup [])])) (.op .len [(.sub (.var 0) (.int 0))]) (.int 0))]⟩
/-- divisor: 0=a 1=b -/
def f11 : FD := ⟨2, 2, [0, 1], [
    .par [0, 1] [(.op .abs [(.var 0)]), (.op .abs [(.var 1)])],
    .whl (.val (.op (.cmp .Gt) [(.var 1), (.int 0)])) [.par [0, 1] [(.var 1), (.op (.bin .Mod) [(.var 0), (.var 1)])]],
    .ret (.var 0)]⟩
/-- is_fraction: 0=thing 1=number -/
def f12 : FD := ⟨1, 2, [], [
    .ite (.or [(.not (.val (.op (.isi .tuple) [(.var 0)]))), (.val (.op (.cmp .NotEq) [(.op .len [(.var 0)]), (.int 2)]))]) [.ret (.bl false)] [],
    .for_ (.nm 1) (.it false) [(.var 0)] [.ite (.or [(.val (.op (.isi .bool) [(.var 1)])), (.not (.val (.op (.isi .int) [(.var 1)])))]) [.ret (.bl false)] []],
    .ret (.and [(.op (.cmp .Gt) [(.sub (.var 0) (.int 1)), (.int 0)]), (.op (.cmp .Eq) [(.call 11 [(.sub (.var 0) (.int 0)), (.sub (.var 0) (.int 1))]), (.int 1)])])]⟩
/-- are_fractions: 0=thing 1=many 2=one -/
def f13 : FD := ⟨2, 3, [], [
    .ret (.and [(.op (.isi .tuple) [(.var 0)]), (.op (.cmp .Eq) [(.op .len [(.var 0)]), (.var 1)]), (.op .all [(.comp (.nm 2) [2] (.it false) [(.var 0)] [] (.call 12 [(.var 2)]))])])]⟩
/-- whole: 0=n -/
def f14 : FD := ⟨1, 1, [], [
    .ret (.tup [(.var 0), (.int 1)])]⟩
/-- wholes: 0=numbers 1=number -/
def f15 : FD := ⟨1, 2, [], [
    .ret (.op .tuple [(.comp (.nm 1) [1] (.it false) [(.var 0)] [] (.call 14 [(.var 1)]))])]⟩
/-- lowest: 0=a 1=b 2=by -/
def f16 : FD := ⟨2, 3, [], [
    .asg (.nm 2) (.call 11 [(.var 0), (.var 1)]),
    .ite (.val (.op (.cmp .Lt) [(.var 1), (.int 0)])) [.asg (.nm 2) (.op .neg [(.var 2)])] [],
    .ret (.tup [(.op (.bin .FloorDiv) [(.var 0), (.var 2)]), (.op (.bin .FloorDiv) [(.var 1), (.var 2)])])]⟩
/-- times: 0=a 1=b -/
def f17 : FD := ⟨2, 2, [], [
    .ret (.call 16 [(.op (.bin .Mult) [(.sub (.var 0) (.int 0)), (.sub (.var 1) (.int 0))]), (.op (.bin .Mult) [(.sub (.var 0) (.int 1)), (.sub (.var 1) (.int 1))])])]⟩
/-- plus: 0=a 1=b -/
def f18 : FD := ⟨2, 2, [], [
    .ret (.call 16 [(.op (.bin .Add) [(.op (.bin .Mult) [(.sub (.var 0) (.int 0)), (.sub (.var 1) (.int 1))]), (.op (.bin .Mult) [(.sub (.var 1) (.int 0)), (.sub (.var 0) (.int 1))])]), (.op (.bin .Mult) [(.sub (.var 0) (.int 1)), (.sub (.var 1) (.int 1))])])]⟩
/-- dot: 0=rows 1=xs 2=found 3=a 4=b -/
def f19 : FD := ⟨2, 5, [], [
    .asg (.nm 2) (.tup [(.int 0), (.int 1)]),
    .for_ (.tp [(.nm 3), (.nm 4)]) .zip [(.var 0), (.var 1)] [.asg (.nm 2) (.call 18 [(.var 2), (.call 17 [(.var 3), (.var 4)])])],
    .ret (.var 2)]⟩
/-- is_solution: 0=rows 1=sums 2=x 3=k -/
def f20 : FD := ⟨3, 4, [], [
    .ite (.not (.val (.call 13 [(.var 2), (.call 10 [(.var 0)])]))) [.ret (.bl false)] [],
    .ret (.op .all [(.comp (.nm 3) [3] .rng [(.op .len [(.var 0)])] [] (.op (.cmp .Eq) [(.call 19 [(.call 15 [(.sub (.var 0) (.var 3))]), (.var 2)]), (.call 14 [(.sub (.var 1) (.var 3))])]))])]⟩
/-- _law_is_number: 0=thing -/
def f21 : FD := ⟨1, 1, [], [
    .ret (.and [(.op (.isi .int) [(.var 0)]), (.not (.op (.isi .bool) [(.var 0)]))])]⟩
/-- _law_is_fraction: 0=thing -/
def f22 : FD := ⟨1, 1, [], [
    .ite (.or [(.not (.val (.op (.isi .tuple) [(.var 0)]))), (.val (.op (.cmp .NotEq) [(.op .len [(.var 0)]), (.int 2)])), (.not (.val (.call 21 [(.sub (.var 0) (.int 0))]))), (.not (.val (.call 21 [(.sub (.var 0) (.int 1))]))), (.val (.op (.cmp .LtE) [(.sub (.var 0) (.int 1)), (.int 0)]))]) [.ret (.bl false)] [],
    .ret (.op (.cmp .Eq) [(.call 6 [(.op .abs [(.sub (.var 0) (.int 0))]), (.sub (.var 0) (.int 1))]), (.tup [(.op .abs [(.sub (.var 0) (.int 0))]), (.sub (.var 0) (.int 1))])])]⟩
/-- _law_is_fractions: 0=thing 1=many 2=one -/
def f23 : FD := ⟨2, 3, [], [
    .ret (.and [(.op (.isi .tuple) [(.var 0)]), (.op (.cmp .Eq) [(.op .len [(.var 0)]), (.var 1)]), (.op (.cmp .Eq) [(.comp (.nm 2) [2] (.it false) [(.var 0)] [(.not (.val (.call 22 [(.var 2)])))] (.var 2)), (.lst [])])])]⟩
/-- _law_mul: 0=x 1=y -/
def f24 : FD := ⟨2, 2, [], [
    .ret (.call 6 [(.op (.bin .Mult) [(.sub (.var 0) (.int 0)), (.sub (.var 1) (.int 0))]), (.op (.bin .Mult) [(.sub (.var 0) (.int 1)), (.sub (.var 1) (.int 1))])])]⟩
/-- _law_add: 0=x 1=y -/
def f25 : FD := ⟨2, 2, [], [
    .ret (.call 6 [(.op (.bin .Add) [(.op (.bin .Mult) [(.sub (.var 0) (.int 0)), (.sub (.var 1) (.int 1))]), (.op (.bin .Mult) [(.sub (.var 1) (.int 0)), (.sub (.var 0) (.int 1))])]), (.op (.bin .Mult) [(.sub (.var 0) (.int 1)), (.sub (.var 1) (.int 1))])])]⟩
/-- _law_dot: 0=row 1=xs 2=total 3=k -/
def f26 : FD := ⟨2, 4, [], [
    .asg (.nm 2) (.tup [(.int 0), (.int 1)]),
    .for_ (.nm 3) .rng [(.op .len [(.var 0)])] [.asg (.nm 2) (.call 25 [(.var 2), (.call 24 [(.tup [(.sub (.var 0) (.var 3)), (.int 1)]), (.sub (.var 1) (.var 3))])])],
    .ret (.var 2)]⟩
/-- _law_is_solution: 0=rows 1=sums 2=x 3=k -/
def f27 : FD := ⟨3, 4, [], [
    .ite (.not (.val (.call 23 [(.var 2), (.op .len [(.sub (.var 0) (.int 0))])]))) [.ret (.bl false)] [],
    .ret (.op (.cmp .Eq) [(.comp (.nm 3) [3] .rng [(.op .len [(.var 0)])] [(.val (.op (.cmp .NotEq) [(.call 26 [(.sub (.var 0) (.var 3)), (.var 2)]), (.tup [(.sub (.var 1) (.var 3)), (.int 1)])]))] (.var 3)), (.lst [])])]⟩
/-- _law_same: 0=told 1=due -/
def f28 : FD := ⟨2, 2, [], [
    .ret (.ite (.val (.var 1)) (.op (.isB true) [(.var 0)]) (.op (.isB false) [(.var 0)]))]⟩
/-- _law_more: 0=w 1=rows 2=sums 3=row 4=y 5=i 6=j 7=a 8=b 9=k -/
def f29 : FD := ⟨3, 10, [], [
    .asg (.tp [(.nm 5), (.nm 6)]) (.tup [(.call 1 [(.var 0), (.op .len [(.var 1)])]), (.call 1 [(.var 0), (.op .len [(.var 1)])])]),
    .asg (.tp [(.nm 7), (.nm 8)]) (.tup [(.op (.bin .Sub) [(.call 1 [(.var 0), (.int 7)]), (.int 3)]), (.op (.bin .Sub) [(.call 1 [(.var 0), (.int 7)]), (.int 3)])]),
    .asg (.nm 3) (.op .tuple [(.comp (.nm 9) [9] .rng [(.op .len [(.sub (.var 1) (.int 0))])] [] (.op (.bin .Add) [(.op (.bin .Mult) [(.var 7), (.sub (.sub (.var 1) (.var 5)) (.var 9))]), (.op (.bin .Mult) [(.var 8), (.sub (.sub (.var 1) (.var 6)) (.var 9))])]))]),
    .asg (.nm 4) (.op (.bin .Mult) [(.lst [(.int 0)]), (.op .len [(.var 1)])]),
    .augS 4 [] (.var 5) .Add (.var 7),
    .augS 4 [] (.var 6) .Add (.var 8),
    .ret (.tup [(.op (.bin .Add) [(.var 1), (.tup [(.var 3)])]), (.op (.bin .Add) [(.var 2), (.tup [(.op (.bin .Add) [(.op (.bin .Add) [(.op (.bin .Mult) [(.var 7), (.sub (.var 2) (.var 5))]), (.op (.bin .Mult) [(.var 8), (.sub (.var 2) (.var 6))])]), (.call 2 [(.var 0), (.lst [(.int 0), (.int 0), (.int 1), (.op .neg [(.int 2)])])])])])]), (.op (.bin .Add) [(.op .tuple [(.var 4)]), (.tup [(.op .neg [(.int 1)])])])])]⟩
/-- is_number: 0=thing -/
def f30 : FD := ⟨1, 1, [], [
    .ret (.and [(.op (.isi .int) [(.var 0)]), (.not (.op (.isi .bool) [(.var 0)]))])]⟩
/-- is_numbers: 0=thing 1=many 2=one -/
def f31 : FD := ⟨2, 3, [], [
    .ret (.and [(.op (.isi .tuple) [(.var 0)]), (.op (.cmp .Eq) [(.op .len [(.var 0)]), (.var 1)]), (.op .all [(.comp (.nm 2) [2] (.it false) [(.var 0)] [] (.call 30 [(.var 2)]))])])]⟩
/-- wholes: 0=numbers 1=number -/
def f32 : FD := ⟨1, 2, [], [
    .ret (.op .tuple [(.comp (.nm 1) [1] (.it true) [(.var 0)] [] (.call 14 [(.var 1)]))])]⟩
/-- summed: 0=rows 1=ys 2=width 3=k 4=row -/
def f33 : FD := ⟨2, 5, [], [
    .asg (.nm 2) (.ite (.val (.op (.cmp .NotEq) [(.var 0), (.tup [])])) (.op .len [(.sub (.var 0) (.int 0))]) (.int 0)),
    .ret (.op .tuple [(.comp (.nm 3) [3] .rng [(.var 2)] [] (.call 19 [(.call 32 [(.comp (.nm 4) [4] (.it false) [(.var 0)] [] (.sub (.var 4) (.var 3)))]), (.var 1)]))])]⟩
/-- is_no_solution: 0=rows 1=sums 2=y 3=ys 4=one -/
def f34 : FD := ⟨3, 5, [], [
    .ite (.not (.val (.call 31 [(.var 2), (.op .len [(.var 0)])]))) [.ret (.bl false)] [],
    .asg (.nm 3) (.call 15 [(.var 2)]),
    .ret (.and [(.op .all [(.comp (.nm 4) [4] (.it false) [(.call 33 [(.var 0), (.var 3)])] [] (.op (.cmp .Eq) [(.sub (.var 4) (.int 0)), (.int 0)]))]), (.op (.cmp .NotEq) [(.sub (.call 19 [(.call 15 [(.var 1)]), (.var 3)]) (.int 0)), (.int 0)])])]⟩
/-- _law_is_numbers: 0=thing 1=one -/
def f35 : FD := ⟨1, 2, [], [
    .ret (.and [(.op (.isi .tuple) [(.var 0)]), (.op (.cmp .Eq) [(.comp (.nm 1) [1] (.it false) [(.var 0)] [(.not (.val (.call 21 [(.var 1)])))] (.var 1)), (.lst [])])])]⟩
/-- _law_wholes: 0=xs 1=n -/
def f36 : FD := ⟨1, 2, [], [
    .ret (.op .tuple [(.comp (.nm 1) [1] (.it false) [(.var 0)] [] (.tup [(.var 1), (.int 1)]))])]⟩
/-- _law_column: 0=rows 1=k 2=row -/
def f37 : FD := ⟨2, 3, [], [
    .ret (.comp (.nm 2) [2] (.it false) [(.var 0)] [] (.sub (.var 2) (.var 1)))]⟩
/-- _law_is_no_solution: 0=rows 1=sums 2=y 3=ys 4=k -/
def f38 : FD := ⟨3, 5, [], [
    .ite (.or [(.not (.val (.call 35 [(.var 2)]))), (.val (.op (.cmp .NotEq) [(.op .len [(.var 2)]), (.op .len [(.var 0)])]))]) [.ret (.bl false)] [],
    .asg (.nm 3) (.call 36 [(.var 2)]),
    .ite (.val (.op (.cmp .NotEq) [(.comp (.nm 4) [4] .rng [(.op .len [(.sub (.var 0) (.int 0))])] [(.val (.op (.cmp .NotEq) [(.call 26 [(.call 37 [(.var 0), (.var 4)]), (.var 3)]), (.tup [(.int 0), (.int 1)])]))] (.var 4)), (.lst [])])) [.ret (.bl false)] [],
    .ret (.op (.cmp .NotEq) [(.call 26 [(.var 1), (.var 3)]), (.tup [(.int 0), (.int 1)])])]⟩
/-- _law_times: 0=w 1=rows 2=sums 3=y 4=k 5=d 6=n -/
def f39 : FD := ⟨3, 7, [], [
    .asg (.tp [(.nm 4), (.nm 5)]) (.tup [(.call 1 [(.var 0), (.op .len [(.var 1)])]), (.call 2 [(.var 0), (.lst [(.int 2), (.int 3), (.int 4), (.int 6), (.op .neg [(.int 2)])])])]),
    .asg (.nm 3) (.op (.bin .Mult) [(.lst [(.tup [(.int 0), (.int 1)])]), (.op .len [(.var 1)])]),
    .sto 3 [] (.var 4) (.ite (.val (.op (.cmp .Gt) [(.var 5), (.int 0)])) (.call 6 [(.int 1), (.var 5)]) (.call 6 [(.op .neg [(.int 1)]), (.op (.bin .Sub) [(.int 0), (.var 5)])])),
    .ret (.tup [(.op (.bin .Add) [(.op (.bin .Add) [(.sli (.var 1) [] [(.var 4)]), (.tup [(.op .tuple [(.comp (.nm 6) [6] (.it false) [(.sub (.var 1) (.var 4))] [] (.op (.bin .Mult) [(.var 6), (.var 5)]))])])]), (.sli (.var 1) [(.op (.bin .Add) [(.var 4), (.int 1)])] [])]), (.op (.bin .Add) [(.op (.bin .Add) [(.sli (.var 2) [] [(.var 4)]), (.tup [(.op (.bin .Sub) [(.call 1 [(.var 0), (.int 19)]), (.int 9)])])]), (.sli (.var 2) [(.op (.bin .Add) [(.var 4), (.int 1)])] [])]), (.op .tuple [(.var 3)])])]⟩
/-- is_no_whole: 0=rows 1=sums 2=y 3=one -/
def f40 : FD := ⟨3, 4, [], [
    .ite (.not (.val (.call 13 [(.var 2), (.op .len [(.var 0)])]))) [.ret (.bl false)] [],
    .ret (.and [(.op .all [(.comp (.nm 3) [3] (.it false) [(.call 33 [(.var 0), (.var 2)])] [] (.op (.cmp .Eq) [(.sub (.var 3) (.int 1)), (.int 1)]))]), (.op (.cmp .NotEq) [(.sub (.call 19 [(.call 15 [(.var 1)]), (.var 2)]) (.int 1)), (.int 1)])])]⟩
/-- _law_is_no_whole: 0=rows 1=sums 2=y 3=k -/
def f41 : FD := ⟨3, 4, [], [
    .ite (.not (.val (.call 23 [(.var 2), (.op .len [(.var 0)])]))) [.ret (.bl false)] [],
    .ite (.val (.op (.cmp .NotEq) [(.comp (.nm 3) [3] .rng [(.op .len [(.sub (.var 0) (.int 0))])] [(.val (.op (.cmp .NotEq) [(.sub (.call 26 [(.call 37 [(.var 0), (.var 3)]), (.var 2)]) (.int 1)), (.int 1)]))] (.var 3)), (.lst [])])) [.ret (.bl false)] [],
    .ret (.op (.cmp .NotEq) [(.sub (.call 26 [(.var 1), (.var 2)]) (.int 1)), (.int 1)])]⟩
/-- law: 0=script 1=w 2=turn 3=one 4=rows 5=sums 6=x 7=wide 8=more 9=y 10=often 11=others 12=n 13=d -/
def f42 : FD := ⟨1, 14, [], [
    .asg (.nm 1) (.dK [(.str "draws"), (.call 0 [(.var 0), (.int 600)]), (.str "at"), (.int 0)]),
    .for_ (.nm 2) .rng [(.int 3)] [.asg (.tp [(.nm 4), (.nm 5), (.nm 6)]) (.call 7 [(.var 1)]), .for_ (.nm 3) (.it false) [(.tup [(.var 6), (.call 9 [(.var 1), (.var 6)]), (.call 9 [(.var 1), (.var 6)])])] [.ite (.not (.val (.call 28 [(.call 20 [(.var 4), (.var 5), (.var 3)]), (.call 27 [(.var 4), (.var 5), (.var 3)])]))) [.ret (.bl false)] []], .asg (.tp [(.nm 7), (.nm 8), (.nm 9)]) (.call 29 [(.var 1), (.var 4), (.var 5)]), .for_ (.nm 3) (.it false) [(.tup [(.var 9), (.call 9 [(.var 1), (.var 9)]), (.call 9 [(.var 1), (.var 9)]), (.op .tuple [(.comp (.nm 12) [12] (.it false) [(.var 9)] [] (.op (.bin .Sub) [(.int 0), (.var 12)]))]), (.op .tuple [(.comp (.nm 12) [12] (.it false) [(.var 9)] [] (.int 0))])])] [.ite (.not (.val (.call 28 [(.call 34 [(.var 7), (.var 8), (.var 3)]), (.call 38 [(.var 7), (.var 8), (.var 3)])]))) [.ret (.bl false)] []], .asg (.tp [(.nm 10), (.nm 11), (.nm 9)]) (.call 39 [(.var 1), (.var 4), (.var 5)]), .for_ (.nm 3) (.it false) [(.tup [(.var 9), (.call 9 [(.var 1), (.var 9)]), (.call 9 [(.var 1), (.var 9)]), (.op .tuple [(.comp (.tp [(.nm 12), (.nm 13)]) [12, 13] (.it false) [(.var 9)] [] (.call 6 [(.var 12), (.int 2)]))])])] [.ite (.not (.val (.call 28 [(.call 40 [(.var 10), (.var 11), (.var 3)]), (.call 41 [(.var 10), (.var 11), (.var 3)])]))) [.ret (.bl false)] []]],
    .ret (.bl true)]⟩
def T : List FD := [f0, f1, f2, f3, f4, f5, f6, f7, f8, f9, f10, f11, f12, f13, f14, f15, f16, f17, f18, f19, f20, f21, f22, f23, f24, f25, f26, f27, f28, f29, f30, f31, f32, f33, f34, f35, f36, f37, f38, f39, f40, f41, f42]
end Pg
end

section
namespace Sh
open DL TL
/-- _law_rows -/
def _law_rows (w : W) (most : Int) (columns : Int) : Option ((List (List Int)) × W) :=
  (some (([] : List (List Int)))).bind fun found1 => (nextW w most).bind fun p2 => (rngG 0 (1 + p2.1)).bind fun r3 => (foldO (fun i9 (s4 : (W × (List (List Int)))) => (rngG 0 columns).bind fun r10 => (szG r10).bind fun u11 => (mapS (fun a12 w => (nextW w 19).bind fun p15 => (pickW p15.2 ([0, 1, (-1), 2, (-3), 1, 0, (p15.1 - 9)] : List Int)).bind fun p16 => some (p16.1, p16.2)) r10 s4.1).bind fun y17 => (if (decide (1 < ((s4.2).length : Int))) = true then (nextW y17.2 3).bind fun p18 => some ((decide (p18.1 = 0)), p18.2) else some (false, y17.2)).bind fun t19 => ((if t19.1 = true then (nextW t19.2 5).bind fun p35 => (nextW p35.2 5).bind fun p36 => (rngG 0 columns).bind fun r37 => (szG r37).bind fun u38 => (mapO (fun a39 => (L2.atI s4.2 0).bind fun x40 => (L2.atI x40 a39).bind fun x41 => (mulG (p35.1 - 2) x41).bind fun x42 => (L2.atI s4.2 (-1)).bind fun x43 => (L2.atI x43 a39).bind fun x44 => (mulG (p36.1 - 2) x44).bind fun x45 => some (x42 + x45)) r37).bind fun y46 => some (p36.2, y46) else some (t19.2, y17.1) : Option (W × (List Int)))).bind fun s32 => (appG s4.2 s32.2).bind fun l47 => some (s32.1, l47)) r3 (p2.2, found1)).bind fun s52 => some (s52.2, s52.1)

/-- _law_whole -/
def _law_whole (w : W) (columns : Int) : Option ((List Int) × W) :=
  (rngG 0 columns).bind fun r1 => (szG r1).bind fun u2 => (mapS (fun a3 w => (nextW w 13).bind fun p6 => (pickW p6.2 ([0, 1, (-1), 2, (p6.1 - 6)] : List Int)).bind fun p7 => some (p7.1, p7.2)) r1 w).bind fun y8 => some (y8.1, y8.2)

/-- _law_sums -/
def _law_sums (rows : (List (List Int))) (x : (List Int)) : Option (List Int) :=
  (szG rows).bind fun u1 => mapO (fun a2 => (rngG 0 ((x).length : Int)).bind fun r3 => (szG r3).bind fun u4 => (mapO (fun a5 => (L2.atI a2 a5).bind fun x6 => (L2.atI x a5).bind fun x7 => mulG x6 x7) r3).bind fun y9 => some (y9.sum)) rows

/-- _law_low -/
def _law_low (a : Int) (b : Int) : Option (Int × Int) :=
  (rngG 0 9999).bind fun r1 => (loopO (fun i4 (s2 : (Int × Int)) => (if (decide (s2.2 = 0)) = true then some (Ct.bk (s2.1, s2.2)) else (modG s2.1 s2.2).bind fun x5 => some (Ct.nx (s2.2, x5)) : Option (Ct Unit (Int × Int)))) r1 (a, b)).bind fun z8 => sumO z8 (fun _ => none) (fun s7 => (divG a s7.1).bind fun x9 => (divG b s7.1).bind fun x10 => some (x9, x10))

/-- _law_parted -/
def _law_parted (w : W) : Option (((List (List Int)) × (List Int) × (List (Int × Int))) × W) :=
  (nextW w 3).bind fun p1 => (pickW p1.2 ([1, 2, 3, 6] : List Int)).bind fun p2 => (_law_rows p2.2 3 (1 + p1.1)).bind fun x3 => (szG x3.1).bind fun u4 => (mapO (fun a5 => (szG a5).bind fun u6 => mapO (fun a7 => mulG a7 p2.1) a5) x3.1).bind fun y10 => (_law_whole x3.2 (1 + p1.1)).bind fun x11 => (_law_sums y10 x11.1).bind fun x12 => (szG x12).bind fun u13 => (mapO (fun a14 => divG a14 p2.1) x12).bind fun y16 => (szG x11.1).bind fun u17 => (mapO (fun a18 => _law_low a18 p2.1) x11.1).bind fun y20 => some ((y10, y16, y20), x11.2)

/-- _law_bent -/
def _law_bent (w : W) (row : (List PV)) : Option (PV × W) :=
  (nextW w ((row).length : Int)).bind fun p1 => (L2.atI row p1.1).bind fun x2 => ((if (x2).isT = true then ((x2).at 0).bind fun x22 => ((x22).asI).bind fun x23 => ((x2).at 1).bind fun x24 => ((x2).at 0).bind fun x25 => ((x25).asI).bind fun x26 => (mulG x26 2).bind fun x27 => ((x2).at 1).bind fun x28 => ((x28).asI).bind fun x29 => (mulG x29 2).bind fun x30 => ((x2).at 0).bind fun x31 => ((x2).at 1).bind fun x32 => ((x32).asI).bind fun x33 => ((x2).at 0).bind fun x34 => ((x2).at 0).bind fun x35 => (pickW p1.2 ([(PV.tup [(PV.int (x23 + 1)), x24]), (PV.tup [(PV.int x27), (PV.int x30)]), (PV.tup [x31, (PV.int (0 - x33))]), x34, (PV.tup [x35, (PV.int 0)]), (PV.tup [(PV.int 0), (PV.int 1)]), (PV.bl true)] : List PV)).bind fun p36 => some (p36.2, p36.1) else ((x2).asI).bind fun x37 => ((x2).asI).bind fun x38 => (pickW p1.2 ([(PV.int (x37 + 1)), (PV.tup [x2, (PV.int 1)]), (PV.bl true), PV.non, (PV.int 0), (PV.int (x38 - 2))] : List PV)).bind fun p39 => some (p39.2, p39.1) : Option (W × PV))).bind fun s21 => (catG (cutL row none (some p1.1)) ([s21.2] : List PV)).bind fun x40 => (catG x40 (cutL row (some (p1.1 + 1)) none)).bind fun x41 => (catG (cutL row none (some p1.1)) (cutL row (some (p1.1 + 1)) none)).bind fun x42 => (catG row (cutL row none (some 1))).bind fun x43 => (catG (cutL row none (some p1.1)) ([s21.2] : List PV)).bind fun x44 => (catG x44 (cutL row (some (p1.1 + 1)) none)).bind fun x45 => (pickW s21.1 ([(false, (PV.tup x41)), (false, (PV.tup x42)), (false, (PV.tup x43)), (true, PV.lst row), (false, (PV.tup x45))] : List (Bool × PV))).bind fun p46 => some (p46.1.2, p46.2)

/-- width_of -/
def width_of (rows : (List (List Int))) : Option Int :=
  if (!decide (rows = [])) = true then (L2.atI rows 0).bind fun x1 => some ((x1).length : Int) else some 0

/-- divisor -/
def divisor (a : Int) (b : Int) : Option Int :=
  (some ((((a).natAbs : Nat) : Int))).bind fun a1 => (some ((((b).natAbs : Nat) : Int))).bind fun b2 => (whileS (fun (s3 : (Int × Int)) => some (decide (0 < s3.2))) (fun (s3 : (Int × Int)) => (modG s3.1 s3.2).bind fun x4 => some (s3.2, x4)) (a1, b2)).bind fun s5 => some s5.1

/-- is_fraction -/
def is_fraction (thing : PV) : Option Bool :=
  (if (!(thing).isT) = true then some true else ((thing).len).bind fun x1 => some (!decide (x1 = 2))).bind fun t2 => if t2 = true then some false else ((thing).asQ).bind fun q3 => (loopO (fun i6 (s4 : Unit) => (if ((i6).isB || (!(i6).isI)) = true then some (Ct.rt false) else some (Ct.nx ()) : Option (Ct Bool Unit))) q3 ()).bind fun z10 => sumO z10 (fun q => some q) (fun s9 => ((thing).at 1).bind fun x11 => ((x11).asI).bind fun x12 => if (decide (0 < x12)) = true then ((thing).at 0).bind fun x13 => ((thing).at 1).bind fun x14 => ((x13).asI).bind fun x15 => ((x14).asI).bind fun x16 => (divisor x15 x16).bind fun x17 => some (decide (x17 = 1)) else some false)

/-- are_fractions -/
def are_fractions (thing : PV) (many : Int) : Option Bool :=
  if (thing).isT = true then ((thing).len).bind fun x1 => if (decide (x1 = many)) = true then ((thing).asQ).bind fun q2 => (szG q2).bind fun u3 => (mapO (fun a4 => is_fraction a4) q2).bind fun y6 => some (y6.all id) else some false else some false

/-- whole -/
def whole (n : Int) : Option (Int × Int) :=
  some (n, 1)

/-- wholes -/
def wholes (numbers : (List Int)) : Option (List (Int × Int)) :=
  (szG numbers).bind fun u1 => mapO (fun a2 => whole a2) numbers

/-- lowest -/
def lowest (a : Int) (b : Int) : Option (Int × Int) :=
  (divisor a b).bind fun x1 => ((if (decide (b < 0)) = true then some (-x1) else some x1 : Option (Int))).bind fun s2 => (divG a s2).bind fun x3 => (divG b s2).bind fun x4 => some (x3, x4)

/-- times -/
def times (a : (Int × Int)) (b : (Int × Int)) : Option (Int × Int) :=
  (mulG a.1 b.1).bind fun x1 => (mulG a.2 b.2).bind fun x2 => lowest x1 x2

/-- plus -/
def plus (a : (Int × Int)) (b : (Int × Int)) : Option (Int × Int) :=
  (mulG a.1 b.2).bind fun x1 => (mulG b.1 a.2).bind fun x2 => (mulG a.2 b.2).bind fun x3 => lowest (x1 + x2) x3

/-- dot -/
def dot (rows : (List (Int × Int))) (xs : (List (Int × Int))) : Option (Int × Int) :=
  (foldO (fun i4 (s1 : ((Int × Int))) => (times i4.1 i4.2).bind fun x5 => plus s1 x5) (rows.zip xs) (0, 1))

/-- is_solution -/
def is_solution (rows : (List (List Int))) (sums : (List Int)) (x : PV) : Option Bool :=
  (width_of rows).bind fun x1 => (are_fractions x x1).bind fun x2 => if (!x2) = true then some false else (rngG 0 ((rows).length : Int)).bind fun r3 => (szG r3).bind fun u4 => (mapO (fun a5 => (L2.atI rows a5).bind fun x6 => (wholes x6).bind fun x7 => ((dnT (dnP PV.asI PV.asI)) x).bind fun x8 => (dot x7 x8).bind fun x9 => (L2.atI sums a5).bind fun x10 => (whole x10).bind fun x11 => some (decide (x9 = x11))) r3).bind fun y12 => some (y12.all id)

/-- _law_is_number -/
def _law_is_number (thing : PV) : Option Bool :=
  some ((thing).isI && (!(thing).isB))

/-- _law_is_fraction -/
def _law_is_fraction (thing : PV) : Option Bool :=
  (if (!(thing).isT) = true then some true else ((thing).len).bind fun x1 => if (!decide (x1 = 2)) = true then some true else ((thing).at 0).bind fun x2 => (_law_is_number x2).bind fun x3 => if (!x3) = true then some true else ((thing).at 1).bind fun x4 => (_law_is_number x4).bind fun x5 => if (!x5) = true then some true else ((thing).at 1).bind fun x6 => ((x6).asI).bind fun x7 => some (decide (x7 ≤ 0))).bind fun t8 => if t8 = true then some false else ((thing).at 0).bind fun x9 => ((x9).asI).bind fun x10 => ((thing).at 1).bind fun x11 => ((x11).asI).bind fun x12 => (_law_low (((x10).natAbs : Nat) : Int) x12).bind fun x13 => ((thing).at 0).bind fun x14 => ((x14).asI).bind fun x15 => ((thing).at 1).bind fun x16 => eqG ((eP D.int D.int) x13) ((eP D.int PV.enc) ((((x15).natAbs : Nat) : Int), x16))

/-- _law_is_fractions -/
def _law_is_fractions (thing : PV) (many : Int) : Option Bool :=
  if (thing).isT = true then ((thing).len).bind fun x1 => if (decide (x1 = many)) = true then ((thing).asQ).bind fun q2 => (szG q2).bind fun u3 => (compM (fun a4 => (_law_is_fraction a4).bind fun x5 => if (!x5) = true then some (some a4) else some none) q2).bind fun y6 => eqG ((eL PV.enc) y6) ((eL PV.enc) ([] : List PV)) else some false else some false

/-- _law_mul -/
def _law_mul (x : (Int × Int)) (y : (Int × Int)) : Option (Int × Int) :=
  (mulG x.1 y.1).bind fun x1 => (mulG x.2 y.2).bind fun x2 => _law_low x1 x2

/-- _law_add -/
def _law_add (x : (Int × Int)) (y : (Int × Int)) : Option (Int × Int) :=
  (mulG x.1 y.2).bind fun x1 => (mulG y.1 x.2).bind fun x2 => (mulG x.2 y.2).bind fun x3 => _law_low (x1 + x2) x3

/-- _law_dot -/
def _law_dot (row : (List Int)) (xs : (List (Int × Int))) : Option (Int × Int) :=
  (rngG 0 ((row).length : Int)).bind fun r1 => (foldO (fun i4 (s2 : ((Int × Int))) => (L2.atI row i4).bind fun x5 => (L2.atI xs i4).bind fun x6 => (_law_mul (x5, 1) x6).bind fun x7 => _law_add s2 x7) r1 (0, 1))

/-- _law_is_solution -/
def _law_is_solution (rows : (List (List Int))) (sums : (List Int)) (x : PV) : Option Bool :=
  (L2.atI rows 0).bind fun x1 => (_law_is_fractions x ((x1).length : Int)).bind fun x2 => if (!x2) = true then some false else (rngG 0 ((rows).length : Int)).bind fun r3 => (szG r3).bind fun u4 => (compM (fun a5 => (L2.atI rows a5).bind fun x6 => ((dnT (dnP PV.asI PV.asI)) x).bind fun x7 => (_law_dot x6 x7).bind fun x8 => (L2.atI sums a5).bind fun x9 => if (!decide (x8 = (x9, 1))) = true then some (some a5) else some none) r3).bind fun y10 => some (decide (y10 = []))

/-- _law_same -/
def _law_same (told : Bool) (due : Bool) : Option Bool :=
  if due = true then some (decide (told = true)) else some (decide (told = false))

/-- _law_more -/
def _law_more (w : W) (rows : (List (List Int))) (sums : (List Int)) : Option (((List (List Int)) × (List Int) × (List Int)) × W) :=
  (nextW w ((rows).length : Int)).bind fun p1 => (nextW p1.2 ((rows).length : Int)).bind fun p2 => (nextW p2.2 7).bind fun p3 => (nextW p3.2 7).bind fun p4 => (L2.atI rows 0).bind fun x5 => (rngG 0 ((x5).length : Int)).bind fun r6 => (szG r6).bind fun u7 => (mapO (fun a8 => (L2.atI rows p1.1).bind fun x9 => (L2.atI x9 a8).bind fun x10 => (mulG (p3.1 - 3) x10).bind fun x11 => (L2.atI rows p2.1).bind fun x12 => (L2.atI x12 a8).bind fun x13 => (mulG (p4.1 - 3) x13).bind fun x14 => some (x11 + x14)) r6).bind fun y15 => (repG ([0] : List Int) ((rows).length : Int)).bind fun x16 => (L2.atI x16 p1.1).bind fun x17 => (setG x16 p1.1 (x17 + (p3.1 - 3))).bind fun l18 => (L2.atI l18 p2.1).bind fun x19 => (setG l18 p2.1 (x19 + (p4.1 - 3))).bind fun l20 => (catG rows ([y15] : List (List Int))).bind fun x21 => (L2.atI sums p1.1).bind fun x22 => (mulG (p3.1 - 3) x22).bind fun x23 => (L2.atI sums p2.1).bind fun x24 => (mulG (p4.1 - 3) x24).bind fun x25 => (pickW p4.2 ([0, 0, 1, (-2)] : List Int)).bind fun p26 => (catG sums ([((x23 + x25) + p26.1)] : List Int)).bind fun x27 => (catG l20 ([(-1)] : List Int)).bind fun x28 => some ((x21, x27, x28), p26.2)

/-- is_number -/
def is_number (thing : PV) : Option Bool :=
  some ((thing).isI && (!(thing).isB))

/-- is_numbers -/
def is_numbers (thing : PV) (many : Int) : Option Bool :=
  if (thing).isT = true then ((thing).len).bind fun x1 => if (decide (x1 = many)) = true then ((thing).asQ).bind fun q2 => (szG q2).bind fun u3 => (mapO (fun a4 => is_number a4) q2).bind fun y6 => some (y6.all id) else some false else some false

/-- summed -/
def summed (rows : (List (List Int))) (ys : (List (Int × Int))) : Option (List (Int × Int)) :=
  (if (!decide (rows = [])) = true then (L2.atI rows 0).bind fun x1 => some ((x1).length : Int) else some 0).bind fun v2 => (rngG 0 v2).bind fun r3 => (szG r3).bind fun u4 => mapO (fun a5 => (szG rows).bind fun u6 => (mapO (fun a7 => L2.atI a7 a5) rows).bind fun y9 => (wholes y9).bind fun x10 => dot x10 ys) r3

/-- is_no_solution -/
def is_no_solution (rows : (List (List Int))) (sums : (List Int)) (y : PV) : Option Bool :=
  (is_numbers y ((rows).length : Int)).bind fun x1 => if (!x1) = true then some false else ((dnT PV.asI) y).bind fun x2 => (wholes x2).bind fun x3 => (summed rows x3).bind fun x4 => (szG x4).bind fun u5 => if ((x4.map fun a6 => (decide (a6.1 = 0))).all id) = true then (wholes sums).bind fun x7 => (dot x7 x3).bind fun x8 => some (!decide (x8.1 = 0)) else some false

/-- _law_is_numbers -/
def _law_is_numbers (thing : PV) : Option Bool :=
  if (thing).isT = true then ((thing).asQ).bind fun q1 => (szG q1).bind fun u2 => (compM (fun a3 => (_law_is_number a3).bind fun x4 => if (!x4) = true then some (some a3) else some none) q1).bind fun y5 => eqG ((eL PV.enc) y5) ((eL PV.enc) ([] : List PV)) else some false

/-- _law_wholes -/
def _law_wholes (xs : (List Int)) : Option (List (Int × Int)) :=
  (szG xs).bind fun u1 => some (xs.map fun a2 => (a2, 1))

/-- _law_column -/
def _law_column (rows : (List (List Int))) (k : Int) : Option (List Int) :=
  (szG rows).bind fun u1 => mapO (fun a2 => L2.atI a2 k) rows

/-- _law_is_no_solution -/
def _law_is_no_solution (rows : (List (List Int))) (sums : (List Int)) (y : PV) : Option Bool :=
  (_law_is_numbers y).bind fun x1 => (if (!x1) = true then some true else ((y).len).bind fun x2 => some (!decide (x2 = ((rows).length : Int)))).bind fun t3 => if t3 = true then some false else ((dnT PV.asI) y).bind fun x4 => (_law_wholes x4).bind fun x5 => (L2.atI rows 0).bind fun x6 => (rngG 0 ((x6).length : Int)).bind fun r7 => (szG r7).bind fun u8 => (compM (fun a9 => (_law_column rows a9).bind fun x10 => (_law_dot x10 x5).bind fun x11 => if (!decide (x11 = (0, 1))) = true then some (some a9) else some none) r7).bind fun y12 => if (!decide (y12 = [])) = true then some false else (_law_dot sums x5).bind fun x13 => some (!decide (x13 = (0, 1)))

/-- _law_times -/
def _law_times (w : W) (rows : (List (List Int))) (sums : (List Int)) : Option (((List (List Int)) × (List Int) × (List (Int × Int))) × W) :=
  (nextW w ((rows).length : Int)).bind fun p1 => (pickW p1.2 ([2, 3, 4, 6, (-2)] : List Int)).bind fun p2 => (repG ([(0, 1)] : List (Int × Int)) ((rows).length : Int)).bind fun x3 => (if (decide (0 < p2.1)) = true then _law_low 1 p2.1 else _law_low (-1) (0 - p2.1)).bind fun v6 => (setG x3 p1.1 v6).bind fun l7 => (L2.atI rows p1.1).bind fun x8 => (szG x8).bind fun u9 => (mapO (fun a10 => mulG a10 p2.1) x8).bind fun y12 => (catG (cutL rows none (some p1.1)) ([y12] : List (List Int))).bind fun x13 => (catG x13 (cutL rows (some (p1.1 + 1)) none)).bind fun x14 => (nextW p2.2 19).bind fun p15 => (catG (cutL sums none (some p1.1)) ([(p15.1 - 9)] : List Int)).bind fun x16 => (catG x16 (cutL sums (some (p1.1 + 1)) none)).bind fun x17 => some ((x14, x17, l7), p15.2)

/-- is_no_whole -/
def is_no_whole (rows : (List (List Int))) (sums : (List Int)) (y : PV) : Option Bool :=
  (are_fractions y ((rows).length : Int)).bind fun x1 => if (!x1) = true then some false else ((dnT (dnP PV.asI PV.asI)) y).bind fun x2 => (summed rows x2).bind fun x3 => (szG x3).bind fun u4 => if ((x3.map fun a5 => (decide (a5.2 = 1))).all id) = true then (wholes sums).bind fun x6 => ((dnT (dnP PV.asI PV.asI)) y).bind fun x7 => (dot x6 x7).bind fun x8 => some (!decide (x8.2 = 1)) else some false

/-- _law_is_no_whole -/
def _law_is_no_whole (rows : (List (List Int))) (sums : (List Int)) (y : PV) : Option Bool :=
  (_law_is_fractions y ((rows).length : Int)).bind fun x1 => if (!x1) = true then some false else (L2.atI rows 0).bind fun x2 => (rngG 0 ((x2).length : Int)).bind fun r3 => (szG r3).bind fun u4 => (compM (fun a5 => (_law_column rows a5).bind fun x6 => ((dnT (dnP PV.asI PV.asI)) y).bind fun x7 => (_law_dot x6 x7).bind fun x8 => if (!decide (x8.2 = 1)) = true then some (some a5) else some none) r3).bind fun y9 => if (!decide (y9 = [])) = true then some false else ((dnT (dnP PV.asI PV.asI)) y).bind fun x10 => (_law_dot sums x10).bind fun x11 => some (!decide (x11.2 = 1))

/-- law -/
def law (L : List Int) : Option Bool :=
  (rngG 0 3).bind fun r1 => (loopO (fun i13 (s2 : (W)) => ((_law_parted s2).bind fun x27 => (_law_bent x27.2 (x27.1.2.2.map fun a => (PV.tup [(PV.int a.1), (PV.int a.2)]))).bind fun x28 => (_law_bent x28.2 (x27.1.2.2.map fun a => (PV.tup [(PV.int a.1), (PV.int a.2)]))).bind fun x29 => (loopO (fun i32 (s30 : Unit) => ((is_solution x27.1.1 x27.1.2.1 i32).bind fun x46 => (_law_is_solution x27.1.1 x27.1.2.1 i32).bind fun x47 => (_law_same x46 x47).bind fun x48 => if (!x48) = true then some (Ct.rt false) else some (Ct.nx ()) : Option (Ct Bool Unit))) ([(PV.tup (x27.1.2.2.map fun a => (PV.tup [(PV.int a.1), (PV.int a.2)]))), x28.1, x29.1]) ()).bind fun z51 => sumO z51 (fun q => some (Ct.rt q)) (fun s50 => (_law_more x29.2 x27.1.1 x27.1.2.1).bind fun x52 => (_law_bent x52.2 (x52.1.2.2.map fun a => (PV.int a))).bind fun x53 => (_law_bent x53.2 (x52.1.2.2.map fun a => (PV.int a))).bind fun x54 => (szG x52.1.2.2).bind fun u55 => (szG x52.1.2.2).bind fun u57 => (loopO (fun i61 (s59 : Unit) => ((is_no_solution x52.1.1 x52.1.2.1 i61).bind fun x75 => (_law_is_no_solution x52.1.1 x52.1.2.1 i61).bind fun x76 => (_law_same x75 x76).bind fun x77 => if (!x77) = true then some (Ct.rt false) else some (Ct.nx ()) : Option (Ct Bool Unit))) ([(PV.tup (x52.1.2.2.map fun a => (PV.int a))), x53.1, x54.1, (PV.tup ((x52.1.2.2.map fun a56 => (0 - a56)).map fun a => (PV.int a))), (PV.tup ((x52.1.2.2.map fun a58 => 0).map fun a => (PV.int a)))] : List PV) ()).bind fun z80 => sumO z80 (fun q => some (Ct.rt q)) (fun s79 => (_law_times x54.2 x27.1.1 x27.1.2.1).bind fun x81 => (_law_bent x81.2 (x81.1.2.2.map fun a => (PV.tup [(PV.int a.1), (PV.int a.2)]))).bind fun x82 => (_law_bent x82.2 (x81.1.2.2.map fun a => (PV.tup [(PV.int a.1), (PV.int a.2)]))).bind fun x83 => (szG x81.1.2.2).bind fun u84 => (mapO (fun a85 => _law_low a85.1 2) x81.1.2.2).bind fun y87 => (loopO (fun i90 (s88 : Unit) => ((is_no_whole x81.1.1 x81.1.2.1 i90).bind fun x104 => (_law_is_no_whole x81.1.1 x81.1.2.1 i90).bind fun x105 => (_law_same x104 x105).bind fun x106 => if (!x106) = true then some (Ct.rt false) else some (Ct.nx ()) : Option (Ct Bool Unit))) ([(PV.tup (x81.1.2.2.map fun a => (PV.tup [(PV.int a.1), (PV.int a.2)]))), x82.1, x83.1, (PV.tup (y87.map fun a => (PV.tup [(PV.int a.1), (PV.int a.2)])))]) ()).bind fun z109 => sumO z109 (fun q => some (Ct.rt q)) (fun s108 => some (Ct.nx x83.2)))) : Option (Ct Bool (W)))) r1 (W.mk L 0)).bind fun z121 => sumO z121 (fun q => some q) (fun s120 => some true)

end Sh
end

section
namespace Sh
open DL TL
def S__law_rows (P : Ctx) : Prop := ∀ (w : W) (most : Int) (columns : Int) (r : ((List (List Int)) × W)), _law_rows w most columns = some r → P.call 3 [eW w, D.int most, D.int columns] = some ((eT (eT D.int)) r.1, [eW r.2, D.int most, D.int columns])

def S__law_whole (P : Ctx) : Prop := ∀ (w : W) (columns : Int) (r : ((List Int) × W)), _law_whole w columns = some r → P.call 4 [eW w, D.int columns] = some ((eT D.int) r.1, [eW r.2, D.int columns])

def S__law_sums (P : Ctx) : Prop := ∀ (rows : (List (List Int))) (x : (List Int)) (r : (List Int)), _law_sums rows x = some r → P.call 5 [(eT (eT D.int)) rows, (eT D.int) x] = some ((eT D.int) r, [(eT (eT D.int)) rows, (eT D.int) x])

def S__law_low (P : Ctx) : Prop := ∀ (a : Int) (b : Int) (r : (Int × Int)), _law_low a b = some r → P.call 6 [D.int a, D.int b] = some ((eP D.int D.int) r, [D.int a, D.int b])

def S__law_parted (P : Ctx) : Prop := ∀ (w : W) (r : (((List (List Int)) × (List Int) × (List (Int × Int))) × W)), _law_parted w = some r → P.call 7 [eW w] = some ((e3 (eT (eT D.int)) (eT D.int) (eT (eP D.int D.int))) r.1, [eW r.2])

def S__law_bent (P : Ctx) : Prop := ∀ (w : W) (row : (List PV)) (r : (PV × W)), _law_bent w row = some r → P.call 9 [eW w, (eT PV.enc) row] = some (PV.enc r.1, [eW r.2, (eT PV.enc) row])

def S_width_of (P : Ctx) : Prop := ∀ (rows : (List (List Int))) (r : Int), width_of rows = some r → P.call 10 [(eT (eT D.int)) rows] = some (D.int r, [(eT (eT D.int)) rows])

def S_divisor (P : Ctx) : Prop := ∀ (a : Int) (b : Int) (r : Int), divisor a b = some r → P.call 11 [D.int a, D.int b] = some (D.int r, [D.int a, D.int b])

def S_is_fraction (P : Ctx) : Prop := ∀ (thing : PV) (r : Bool), is_fraction thing = some r → P.call 12 [PV.enc thing] = some (D.bl r, [PV.enc thing])

def S_are_fractions (P : Ctx) : Prop := ∀ (thing : PV) (many : Int) (r : Bool), are_fractions thing many = some r → P.call 13 [PV.enc thing, D.int many] = some (D.bl r, [PV.enc thing, D.int many])

def S_whole (P : Ctx) : Prop := ∀ (n : Int) (r : (Int × Int)), whole n = some r → P.call 14 [D.int n] = some ((eP D.int D.int) r, [D.int n])

def S_wholes (P : Ctx) : Prop := ∀ (numbers : (List Int)) (r : (List (Int × Int))), wholes numbers = some r → P.call 15 [(eT D.int) numbers] = some ((eT (eP D.int D.int)) r, [(eT D.int) numbers])

def S_lowest (P : Ctx) : Prop := ∀ (a : Int) (b : Int) (r : (Int × Int)), lowest a b = some r → P.call 16 [D.int a, D.int b] = some ((eP D.int D.int) r, [D.int a, D.int b])

def S_times (P : Ctx) : Prop := ∀ (a : (Int × Int)) (b : (Int × Int)) (r : (Int × Int)), times a b = some r → P.call 17 [(eP D.int D.int) a, (eP D.int D.int) b] = some ((eP D.int D.int) r, [(eP D.int D.int) a, (eP D.int D.int) b])

def S_plus (P : Ctx) : Prop := ∀ (a : (Int × Int)) (b : (Int × Int)) (r : (Int × Int)), plus a b = some r → P.call 18 [(eP D.int D.int) a, (eP D.int D.int) b] = some ((eP D.int D.int) r, [(eP D.int D.int) a, (eP D.int D.int) b])

def S_dot (P : Ctx) : Prop := ∀ (rows : (List (Int × Int))) (xs : (List (Int × Int))) (r : (Int × Int)), dot rows xs = some r → P.call 19 [(eT (eP D.int D.int)) rows, (eT (eP D.int D.int)) xs] = some ((eP D.int D.int) r, [(eT (eP D.int D.int)) rows, (eT (eP D.int D.int)) xs])

def S_is_solution (P : Ctx) : Prop := ∀ (rows : (List (List Int))) (sums : (List Int)) (x : PV) (r : Bool), is_solution rows sums x = some r → P.call 20 [(eT (eT D.int)) rows, (eT D.int) sums, PV.enc x] = some (D.bl r, [(eT (eT D.int)) rows, (eT D.int) sums, PV.enc x])

def S__law_is_number (P : Ctx) : Prop := ∀ (thing : PV) (r : Bool), _law_is_number thing = some r → P.call 21 [PV.enc thing] = some (D.bl r, [PV.enc thing])

def S__law_is_fraction (P : Ctx) : Prop := ∀ (thing : PV) (r : Bool), _law_is_fraction thing = some r → P.call 22 [PV.enc thing] = some (D.bl r, [PV.enc thing])

def S__law_is_fractions (P : Ctx) : Prop := ∀ (thing : PV) (many : Int) (r : Bool), _law_is_fractions thing many = some r → P.call 23 [PV.enc thing, D.int many] = some (D.bl r, [PV.enc thing, D.int many])

def S__law_mul (P : Ctx) : Prop := ∀ (x : (Int × Int)) (y : (Int × Int)) (r : (Int × Int)), _law_mul x y = some r → P.call 24 [(eP D.int D.int) x, (eP D.int D.int) y] = some ((eP D.int D.int) r, [(eP D.int D.int) x, (eP D.int D.int) y])

def S__law_add (P : Ctx) : Prop := ∀ (x : (Int × Int)) (y : (Int × Int)) (r : (Int × Int)), _law_add x y = some r → P.call 25 [(eP D.int D.int) x, (eP D.int D.int) y] = some ((eP D.int D.int) r, [(eP D.int D.int) x, (eP D.int D.int) y])

def S__law_dot (P : Ctx) : Prop := ∀ (row : (List Int)) (xs : (List (Int × Int))) (r : (Int × Int)), _law_dot row xs = some r → P.call 26 [(eT D.int) row, (eT (eP D.int D.int)) xs] = some ((eP D.int D.int) r, [(eT D.int) row, (eT (eP D.int D.int)) xs])

def S__law_is_solution (P : Ctx) : Prop := ∀ (rows : (List (List Int))) (sums : (List Int)) (x : PV) (r : Bool), _law_is_solution rows sums x = some r → P.call 27 [(eT (eT D.int)) rows, (eT D.int) sums, PV.enc x] = some (D.bl r, [(eT (eT D.int)) rows, (eT D.int) sums, PV.enc x])

def S__law_same (P : Ctx) : Prop := ∀ (told : Bool) (due : Bool) (r : Bool), _law_same told due = some r → P.call 28 [D.bl told, D.bl due] = some (D.bl r, [D.bl told, D.bl due])

def S__law_more (P : Ctx) : Prop := ∀ (w : W) (rows : (List (List Int))) (sums : (List Int)) (r : (((List (List Int)) × (List Int) × (List Int)) × W)), _law_more w rows sums = some r → P.call 29 [eW w, (eT (eT D.int)) rows, (eT D.int) sums] = some ((e3 (eT (eT D.int)) (eT D.int) (eT D.int)) r.1, [eW r.2, (eT (eT D.int)) rows, (eT D.int) sums])

def S_is_number (P : Ctx) : Prop := ∀ (thing : PV) (r : Bool), is_number thing = some r → P.call 30 [PV.enc thing] = some (D.bl r, [PV.enc thing])

def S_is_numbers (P : Ctx) : Prop := ∀ (thing : PV) (many : Int) (r : Bool), is_numbers thing many = some r → P.call 31 [PV.enc thing, D.int many] = some (D.bl r, [PV.enc thing, D.int many])

def S_wholes_q (P : Ctx) : Prop := ∀ (numbers : (List Int)) (r : (List (Int × Int))), wholes numbers = some r → P.call 32 [(eL D.int) numbers] = some ((eT (eP D.int D.int)) r, [(eL D.int) numbers])

def S_summed (P : Ctx) : Prop := ∀ (rows : (List (List Int))) (ys : (List (Int × Int))) (r : (List (Int × Int))), summed rows ys = some r → P.call 33 [(eT (eT D.int)) rows, (eT (eP D.int D.int)) ys] = some ((eT (eP D.int D.int)) r, [(eT (eT D.int)) rows, (eT (eP D.int D.int)) ys])

def S_is_no_solution (P : Ctx) : Prop := ∀ (rows : (List (List Int))) (sums : (List Int)) (y : PV) (r : Bool), is_no_solution rows sums y = some r → P.call 34 [(eT (eT D.int)) rows, (eT D.int) sums, PV.enc y] = some (D.bl r, [(eT (eT D.int)) rows, (eT D.int) sums, PV.enc y])

def S__law_is_numbers (P : Ctx) : Prop := ∀ (thing : PV) (r : Bool), _law_is_numbers thing = some r → P.call 35 [PV.enc thing] = some (D.bl r, [PV.enc thing])

def S__law_wholes (P : Ctx) : Prop := ∀ (xs : (List Int)) (r : (List (Int × Int))), _law_wholes xs = some r → P.call 36 [(eT D.int) xs] = some ((eT (eP D.int D.int)) r, [(eT D.int) xs])

def S__law_column (P : Ctx) : Prop := ∀ (rows : (List (List Int))) (k : Int) (r : (List Int)), _law_column rows k = some r → P.call 37 [(eT (eT D.int)) rows, D.int k] = some ((eL D.int) r, [(eT (eT D.int)) rows, D.int k])

def S__law_dot_q (P : Ctx) : Prop := ∀ (row : (List Int)) (xs : (List (Int × Int))) (r : (Int × Int)), _law_dot row xs = some r → P.call 26 [(eL D.int) row, (eT (eP D.int D.int)) xs] = some ((eP D.int D.int) r, [(eL D.int) row, (eT (eP D.int D.int)) xs])

def S__law_is_no_solution (P : Ctx) : Prop := ∀ (rows : (List (List Int))) (sums : (List Int)) (y : PV) (r : Bool), _law_is_no_solution rows sums y = some r → P.call 38 [(eT (eT D.int)) rows, (eT D.int) sums, PV.enc y] = some (D.bl r, [(eT (eT D.int)) rows, (eT D.int) sums, PV.enc y])

def S__law_times (P : Ctx) : Prop := ∀ (w : W) (rows : (List (List Int))) (sums : (List Int)) (r : (((List (List Int)) × (List Int) × (List (Int × Int))) × W)), _law_times w rows sums = some r → P.call 39 [eW w, (eT (eT D.int)) rows, (eT D.int) sums] = some ((e3 (eT (eT D.int)) (eT D.int) (eT (eP D.int D.int))) r.1, [eW r.2, (eT (eT D.int)) rows, (eT D.int) sums])

def S_is_no_whole (P : Ctx) : Prop := ∀ (rows : (List (List Int))) (sums : (List Int)) (y : PV) (r : Bool), is_no_whole rows sums y = some r → P.call 40 [(eT (eT D.int)) rows, (eT D.int) sums, PV.enc y] = some (D.bl r, [(eT (eT D.int)) rows, (eT D.int) sums, PV.enc y])

def S__law_is_no_whole (P : Ctx) : Prop := ∀ (rows : (List (List Int))) (sums : (List Int)) (y : PV) (r : Bool), _law_is_no_whole rows sums y = some r → P.call 41 [(eT (eT D.int)) rows, (eT D.int) sums, PV.enc y] = some (D.bl r, [(eT (eT D.int)) rows, (eT D.int) sums, PV.enc y])

theorem b__law_rows (P : Ctx) (hS_next : S_next P 1) (hS_pick : S_pick P 2) (w : W) (most : Int) (columns : Int) (r : ((List (List Int)) × W)) (h : _law_rows w most columns = some r) : runF P Pg.f3 [eW w, D.int most, D.int columns] = some ((eT (eT D.int)) r.1, [eW r.2, D.int most, D.int columns]) := by
  unfold _law_rows at h
  refine run_G rfl ?_
  show RetG _ _ _ _ (evSs P _ [some (eW w), some (D.int most), some (D.int columns), none, none, none, none, none, none])
  obtain ⟨found1, h_found1, h⟩ := bnd h
  refine g_nx (e := [some (eW w), some (D.int most), some (D.int columns), some ((eL (eT D.int)) found1), none, none, none, none, none]) (s_asg (x_cast (d' := (eL (eT D.int)) found1) (x_lstL (eT D.int) ([] : List (List Int)) m_nil rfl) (congrArg (eL (eT D.int)) (sj h_found1))) rfl) ?_
  obtain ⟨p2, h_p2, h⟩ := bnd h
  obtain ⟨r3, h_r3, h⟩ := bnd h
  obtain ⟨s52, h_s52, h⟩ := bnd h
  refine g_forF (f := D.int) (fun (s4 : (W × (List (List Int)))) e => ∃ (d5 d6 d7 d8 : Option D), e = [some (eW s4.1), some (D.int most), some (D.int columns), some ((eL (eT D.int)) s4.2), d5, d6, none, d7, d8]) (fo_rng1 (q_cons (x_op2 x_int (x_call (q_cons (x_ref rfl rfl) (q_cons (x_var D.int (a := most) rfl) q_nil)) rfl rfl (hS_next _ _ _ h_p2) rfl) rfl rfl o_add) q_nil) h_r3) ⟨_, _, _, _, rfl⟩ h_s52 (fun i9 s4 s' e he h => by (obtain ⟨d5, d6, d7, d8, rfl⟩ := he; refine g_bind (e1 := [some (eW s4.1), some (D.int most), some (D.int columns), some ((eL (eT D.int)) s4.2), some (D.int i9), d6, none, d7, d8]) rfl ?_; obtain ⟨r10, h_r10, h⟩ := bnd h; obtain ⟨u11, h_u11, h⟩ := bnd h; obtain ⟨y17, h_y17, h⟩ := bnd h; refine g_nx (e := [some (eW y17.2), some (D.int most), some (D.int columns), some ((eL (eT D.int)) s4.2), some (D.int i9), some ((eL D.int) y17.1), none, d7, d8]) (s_asg (x_mapS (f := D.int) (g := D.int) (E0 := fun (w : W) => [some (eW w), some (D.int most), some (D.int columns), some ((eL (eT D.int)) s4.2), some (D.int i9), d6, none, d7, d8]) (so_rng1 (q_cons (x_var D.int (a := columns) rfl) q_nil) h_r10) rfl rfl (szG_le h_u11) h_y17 (fun a12 w y h => by (obtain ⟨p15, h_p15, h⟩ := bnd h; obtain ⟨p16, h_p16, h⟩ := bnd h; have h := sj h; subst h; exact ⟨[some (eW w), some (D.int most), some (D.int columns), some ((eL (eT D.int)) s4.2), some (D.int i9), d6, some (D.int a12), d7, d8], _, rfl, (x_call (q_cons (x_ref rfl rfl) (q_cons (x_lstL D.int ([0, 1, (-1), 2, (-3), 1, 0, (p15.1 - 9)] : List Int) (m_cons x_int (m_cons x_int (m_cons (x_op1 x_int rfl o_neg) (m_cons x_int (m_cons (x_op1 x_int rfl o_neg) (m_cons x_int (m_cons x_int (m_cons (x_op2 (x_call (q_cons (x_ref rfl rfl) (q_cons x_int q_nil)) rfl rfl (hS_next _ _ _ h_p15) rfl) x_int rfl rfl o_sub) m_nil)))))))) rfl) q_nil)) rfl rfl (hS_pick D.int _ _ _ _ h_p16) rfl), rfl⟩)) rfl) rfl) ?_; obtain ⟨t19, h_t19, h⟩ := bnd h; obtain ⟨s32, h_s32, h⟩ := bnd h; refine g_joinI (I := fun e => ∃ (d33 d34 : Option D), e = [some (eW s32.1), some (D.int most), some (D.int columns), some ((eL (eT D.int)) s4.2), some (D.int i9), some ((eL D.int) s32.2), none, d33, d34]) (show TX P false _ (.and [(.val (.op (.cmp .Gt) [(.op .len [(.var 3)]), (.int 1)])), (.val (.op (.cmp .Eq) [(.call 1 [(.var 0), (.int 3)]), (.int 0)]))]) t19.1 [some (eW t19.2), some (D.int most), some (D.int columns), some ((eL (eT D.int)) s4.2), some (D.int i9), some ((eL D.int) y17.1), none, d7, d8] from (t_and (t_andC (t_bl (x_op2 (x_op1 (x_ref rfl rfl) rfl o_lnL) x_int rfl rfl o_gt)) (fun hc => by (have h := itT hc h_t19; obtain ⟨p18, h_p18, h⟩ := bnd h; have h := sj h; subst h; exact (t_and1 (t_bl (x_op2 (x_call (q_cons (x_ref rfl rfl) (q_cons x_int q_nil)) rfl rfl (hS_next _ _ _ h_p18) rfl) x_int rfl rfl o_eq))))) (fun hc => by (have h := itF hc h_t19; cases h; exact ⟨rfl, rfl⟩))))) (fun hc => by (have h := itT hc h_s32; obtain ⟨p35, h_p35, h⟩ := bnd h; obtain ⟨p36, h_p36, h⟩ := bnd h; refine g_nx (e := [some (eW p36.2), some (D.int most), some (D.int columns), some ((eL (eT D.int)) s4.2), some (D.int i9), some ((eL D.int) y17.1), none, some (D.int (p35.1 - 2)), some (D.int (p36.1 - 2))]) (s_asg (x_tupP D.int D.int (p35.1 - 2) (p36.1 - 2) (m_cons (x_op2 (x_call (q_cons (x_ref rfl rfl) (q_cons x_int q_nil)) rfl rfl (hS_next _ _ _ h_p35) rfl) x_int rfl rfl o_sub) (m_cons (x_op2 (x_call (q_cons (x_ref rfl rfl) (q_cons x_int q_nil)) rfl rfl (hS_next _ _ _ h_p36) rfl) x_int rfl rfl o_sub) m_nil))) rfl) ?_; obtain ⟨r37, h_r37, h⟩ := bnd h; obtain ⟨u38, h_u38, h⟩ := bnd h; obtain ⟨y46, h_y46, h⟩ := bnd h; refine g_nx (e := [some (eW p36.2), some (D.int most), some (D.int columns), some ((eL (eT D.int)) s4.2), some (D.int i9), some ((eL D.int) y46), none, some (D.int (p35.1 - 2)), some (D.int (p36.1 - 2))]) (s_asg (x_mapO (f := D.int) (g := D.int) (E0 := [some (eW p36.2), some (D.int most), some (D.int columns), some ((eL (eT D.int)) s4.2), some (D.int i9), some ((eL D.int) y17.1), none, some (D.int (p35.1 - 2)), some (D.int (p36.1 - 2))]) (so_rng1 (q_cons (x_var D.int (a := columns) rfl) q_nil) h_r37) rfl rfl (szG_le h_u38) h_y46 (fun a39 y h => by (obtain ⟨x40, h_x40, h⟩ := bnd h; obtain ⟨x41, h_x41, h⟩ := bnd h; obtain ⟨x42, h_x42, h⟩ := bnd h; obtain ⟨x43, h_x43, h⟩ := bnd h; obtain ⟨x44, h_x44, h⟩ := bnd h; obtain ⟨x45, h_x45, h⟩ := bnd h; have h := sj h; subst h; exact ⟨[some (eW p36.2), some (D.int most), some (D.int columns), some ((eL (eT D.int)) s4.2), some (D.int i9), some ((eL D.int) y17.1), some (D.int a39), some (D.int (p35.1 - 2)), some (D.int (p36.1 - 2))], _, rfl, (x_op2 (x_op2 (x_var D.int (a := (p35.1 - 2)) rfl) (x_sub (x_sub (x_ref rfl rfl) x_int rfl rfl (s_L h_x40) (mk_p (eT D.int) _ _)) (x_var D.int (a := a39) rfl) rfl rfl (s_T h_x41) (mk_p D.int _ _)) rfl rfl (o_mulG h_x42)) (x_op2 (x_var D.int (a := (p36.1 - 2)) rfl) (x_sub (x_sub (x_ref rfl rfl) (x_op1 x_int rfl o_neg) rfl rfl (s_L h_x43) (mk_p (eT D.int) _ _)) (x_var D.int (a := a39) rfl) rfl rfl (s_T h_x44) (mk_p D.int _ _)) rfl rfl (o_mulG h_x45)) rfl rfl o_add), rfl⟩)) rfl) rfl) ?_; have h := sj h; subst h; exact g_end ⟨_, rfl, _, _, rfl⟩)) (fun hc => by (have h := itF hc h_s32; have h := sj h; subst h; exact g_end ⟨_, rfl, _, _, rfl⟩)) ?_; intro e hI; obtain ⟨d33, d34, rfl⟩ := hI; obtain ⟨l47, h_l47, h⟩ := bnd h; refine g_nx (e := [some (eW s32.1), some (D.int most), some (D.int columns), some ((eL (eT D.int)) l47), some (D.int i9), some ((eL D.int) s32.2), none, d33, d34]) (s_app rfl (x_op1 (x_ref rfl rfl) rfl (o_tupL D.int)) rfl (app_L (f := (eT D.int)) h_l47) rfl) ?_; have h := sj h; subst h; exact g_end ⟨_, _, rfl, .inl rfl, ⟨_, _, _, _, rfl⟩⟩)) ?_
  intro e hI; obtain ⟨d48, d49, d50, d51, rfl⟩ := hI
  have h := sj h
  subst h
  exact g_rt (s_rtv (x_op1 (x_ref rfl rfl) rfl (o_tupL (eT D.int)))) ⟨_, _, rfl, .inl rfl, (bk_r rfl rfl rfl (bk_p (Pl.pl (f := D.int) _) (bk_p (Pl.pl (f := D.int) _) bk_nil)))⟩

theorem b__law_whole (P : Ctx) (hS_next : S_next P 1) (hS_pick : S_pick P 2) (w : W) (columns : Int) (r : ((List Int) × W)) (h : _law_whole w columns = some r) : runF P Pg.f4 [eW w, D.int columns] = some ((eT D.int) r.1, [eW r.2, D.int columns]) := by
  unfold _law_whole at h
  refine run_G rfl ?_
  show RetG _ _ _ _ (evSs P _ [some (eW w), some (D.int columns), none])
  obtain ⟨r1, h_r1, h⟩ := bnd h
  obtain ⟨u2, h_u2, h⟩ := bnd h
  obtain ⟨y8, h_y8, h⟩ := bnd h
  have h := sj h
  subst h
  exact g_rt (s_rtv (x_op1 (x_mapS (f := D.int) (g := D.int) (E0 := fun (w : W) => [some (eW w), some (D.int columns), none]) (so_rng1 (q_cons (x_var D.int (a := columns) rfl) q_nil) h_r1) rfl rfl (szG_le h_u2) h_y8 (fun a3 w y h => by (obtain ⟨p6, h_p6, h⟩ := bnd h; obtain ⟨p7, h_p7, h⟩ := bnd h; have h := sj h; subst h; exact ⟨[some (eW w), some (D.int columns), some (D.int a3)], _, rfl, (x_call (q_cons (x_ref rfl rfl) (q_cons (x_lstL D.int ([0, 1, (-1), 2, (p6.1 - 6)] : List Int) (m_cons x_int (m_cons x_int (m_cons (x_op1 x_int rfl o_neg) (m_cons x_int (m_cons (x_op2 (x_call (q_cons (x_ref rfl rfl) (q_cons x_int q_nil)) rfl rfl (hS_next _ _ _ h_p6) rfl) x_int rfl rfl o_sub) m_nil))))) rfl) q_nil)) rfl rfl (hS_pick D.int _ _ _ _ h_p7) rfl), rfl⟩)) rfl) rfl (o_tupL D.int))) ⟨_, _, rfl, .inl rfl, (bk_r rfl rfl rfl (bk_p (Pl.pl (f := D.int) _) bk_nil))⟩

theorem b__law_sums (P : Ctx)  (rows : (List (List Int))) (x : (List Int)) (r : (List Int)) (h : _law_sums rows x = some r) : runF P Pg.f5 [(eT (eT D.int)) rows, (eT D.int) x] = some ((eT D.int) r, [(eT (eT D.int)) rows, (eT D.int) x]) := by
  unfold _law_sums at h
  refine run_G rfl ?_
  show RetG _ _ _ _ (evSs P _ [some ((eT (eT D.int)) rows), some ((eT D.int) x), none, none])
  obtain ⟨u1, h_u1, h⟩ := bnd h
  obtain ⟨y10, h_y10, h⟩ := bnde h
  have h := sj h
  subst h
  exact g_rt (s_rtv (x_op1 (x_mapO (f := (eT D.int)) (g := D.int) (E0 := [some ((eT (eT D.int)) rows), some ((eT D.int) x), none, none]) (so_it (f := (eT D.int)) (xs := rows) (q_cons (x_var (eT (eT D.int)) (a := rows) rfl) q_nil) it_T) rfl rfl (szG_le h_u1) h_y10 (fun a2 y h => by (obtain ⟨r3, h_r3, h⟩ := bnd h; obtain ⟨u4, h_u4, h⟩ := bnd h; obtain ⟨y9, h_y9, h⟩ := bnd h; have h := sj h; subst h; exact ⟨[some ((eT (eT D.int)) rows), some ((eT D.int) x), some ((eT D.int) a2), none], _, rfl, (x_op1 (x_mapO (f := D.int) (g := D.int) (E0 := [some ((eT (eT D.int)) rows), some ((eT D.int) x), some ((eT D.int) a2), none]) (so_rng1 (q_cons (x_op1 (x_var (eT D.int) (a := x) rfl) rfl o_lnT) q_nil) h_r3) rfl rfl (szG_le h_u4) h_y9 (fun a5 y h => by (obtain ⟨x6, h_x6, h⟩ := bnd h; obtain ⟨x7, h_x7, h⟩ := bnd h; obtain ⟨x8, h_x8, h⟩ := bnde h; have h := sj h; subst h; exact ⟨[some ((eT (eT D.int)) rows), some ((eT D.int) x), some ((eT D.int) a2), some (D.int a5)], _, rfl, (x_op2 (x_sub (x_var (eT D.int) (a := a2) rfl) (x_var D.int (a := a5) rfl) rfl rfl (s_T h_x6) (mk_p D.int _ _)) (x_sub (x_var (eT D.int) (a := x) rfl) (x_var D.int (a := a5) rfl) rfl rfl (s_T h_x7) (mk_p D.int _ _)) rfl rfl (o_mulG h_x8)), rfl⟩)) rfl) rfl o_sumL), rfl⟩)) rfl) rfl (o_tupL D.int))) ⟨_, _, rfl, .inl rfl, (bk_p (Pl.pl (f := (eT (eT D.int))) _) (bk_p (Pl.pl (f := (eT D.int)) _) bk_nil))⟩

theorem b__law_low (P : Ctx)  (a : Int) (b : Int) (r : (Int × Int)) (h : _law_low a b = some r) : runF P Pg.f6 [D.int a, D.int b] = some ((eP D.int D.int) r, [D.int a, D.int b]) := by
  unfold _law_low at h
  refine run_G rfl ?_
  show RetG _ _ _ _ (evSs P _ [some (D.int a), some (D.int b), none, none, none])
  refine g_nx (e := [some (D.int a), some (D.int b), none, some (D.int a), some (D.int b)]) (s_par (m_cons (x_var D.int (a := a) rfl) (m_cons (x_var D.int (a := b) rfl) m_nil)) rfl) ?_
  obtain ⟨r1, h_r1, h⟩ := bnd h
  obtain ⟨z8, h_z8, h⟩ := bnd h
  refine g_forC (f := D.int) (fun (s2 : (Int × Int)) e => ∃ (d3 : Option D), e = [some (D.int a), some (D.int b), d3, some (D.int s2.1), some (D.int s2.2)]) (fun _ _ _ => False) (fo_rng1 (q_cons x_int q_nil) h_r1) ⟨_, rfl⟩ h_z8 (fun i4 s2 c e he h => by (obtain ⟨d3, rfl⟩ := he; refine g_bind (e1 := [some (D.int a), some (D.int b), some (D.int i4), some (D.int s2.1), some (D.int s2.2)]) rfl ?_; rcases iteo h with ⟨hc, h⟩ | ⟨hc, h⟩; (refine g_iteT (t_bl (x_op2 (x_var D.int (a := s2.2) rfl) x_int rfl rfl o_eq)) hc ?_; have h := sj h; subst h; exact g_bk ⟨_, rfl, ⟨_, rfl⟩⟩); (refine g_iteF (t_bl (x_op2 (x_var D.int (a := s2.2) rfl) x_int rfl rfl o_eq)) hc ?_; obtain ⟨x5, h_x5, h⟩ := bnd h; refine g_nx (e := [some (D.int a), some (D.int b), some (D.int i4), some (D.int s2.2), some (D.int x5)]) (s_par (m_cons (x_var D.int (a := s2.2) rfl) (m_cons (x_op2 (x_op1 (x_var D.int (a := s2.1) rfl) rfl o_toInt) (x_var D.int (a := s2.2) rfl) rfl rfl (o_modG h_x5)) m_nil)) rfl) ?_; have h := sj h; subst h; exact g_end ⟨_, _, rfl, .inl rfl, ⟨_, rfl⟩⟩))) ?_ ?_
  (intro s7 e hz hI; subst hz; obtain ⟨d6, rfl⟩ := hI; replace h := sumO_r h; obtain ⟨x9, h_x9, h⟩ := bnd h; obtain ⟨x10, h_x10, h⟩ := bnd h; have h := sj h; subst h; exact g_rt (s_rtv (x_tupP D.int D.int x9 x10 (m_cons (x_op2 (x_var D.int (a := a) rfl) (x_var D.int (a := s7.1) rfl) rfl rfl (o_divG h_x9)) (m_cons (x_op2 (x_var D.int (a := b) rfl) (x_var D.int (a := s7.1) rfl) rfl rfl (o_divG h_x10)) m_nil)))) ⟨_, _, rfl, .inl rfl, (bk_p (Pl.pl (f := D.int) _) (bk_p (Pl.pl (f := D.int) _) bk_nil))⟩)
  (intro q d e hz hR; exact hR.elim)

theorem b__law_parted (P : Ctx) (hS_next : S_next P 1) (hS_pick : S_pick P 2) (hS__law_rows : S__law_rows P) (hS__law_whole : S__law_whole P) (hS__law_sums : S__law_sums P) (hS__law_low : S__law_low P) (w : W) (r : (((List (List Int)) × (List Int) × (List (Int × Int))) × W)) (h : _law_parted w = some r) : runF P Pg.f7 [eW w] = some ((e3 (eT (eT D.int)) (eT D.int) (eT (eP D.int D.int))) r.1, [eW r.2]) := by
  unfold _law_parted at h
  refine run_G rfl ?_
  show RetG _ _ _ _ (evSs P _ [some (eW w), none, none, none, none, none, none, none])
  obtain ⟨p1, h_p1, h⟩ := bnd h
  obtain ⟨p2, h_p2, h⟩ := bnd h
  refine g_nx (e := [some (eW p2.2), none, none, some (D.int (1 + p1.1)), some (D.int p2.1), none, none, none]) (s_asg (x_tupP D.int D.int (1 + p1.1) p2.1 (m_cons (x_op2 x_int (x_call (q_cons (x_ref rfl rfl) (q_cons x_int q_nil)) rfl rfl (hS_next _ _ _ h_p1) rfl) rfl rfl o_add) (m_cons (x_call (q_cons (x_ref rfl rfl) (q_cons (x_lstL D.int ([1, 2, 3, 6] : List Int) (m_cons x_int (m_cons x_int (m_cons x_int (m_cons x_int m_nil)))) rfl) q_nil)) rfl rfl (hS_pick D.int _ _ _ _ h_p2) rfl) m_nil))) rfl) ?_
  obtain ⟨x3, h_x3, h⟩ := bnd h
  obtain ⟨u4, h_u4, h⟩ := bnd h
  obtain ⟨y10, h_y10, h⟩ := bnd h
  refine g_nx (e := [some (eW x3.2), some ((eT (eT D.int)) y10), none, some (D.int (1 + p1.1)), some (D.int p2.1), none, none, none]) (s_asg (x_op1 (x_mapO (f := (eT D.int)) (g := (eT D.int)) (E0 := [some (eW x3.2), none, none, some (D.int (1 + p1.1)), some (D.int p2.1), none, none, none]) (so_it (f := (eT D.int)) (xs := x3.1) (q_cons (x_call (q_cons (x_ref rfl rfl) (q_cons x_int (q_cons (x_var D.int (a := (1 + p1.1)) rfl) q_nil))) rfl rfl (hS__law_rows _ _ _ _ h_x3) rfl) q_nil) it_T) rfl rfl (szG_le h_u4) h_y10 (fun a5 y h => by (obtain ⟨u6, h_u6, h⟩ := bnd h; obtain ⟨y9, h_y9, h⟩ := bnde h; have h := sj h; subst h; exact ⟨[some (eW x3.2), none, none, some (D.int (1 + p1.1)), some (D.int p2.1), some ((eT D.int) a5), none, none], _, rfl, (x_op1 (x_mapO (f := D.int) (g := D.int) (E0 := [some (eW x3.2), none, none, some (D.int (1 + p1.1)), some (D.int p2.1), some ((eT D.int) a5), none, none]) (so_it (f := D.int) (xs := a5) (q_cons (x_var (eT D.int) (a := a5) rfl) q_nil) it_T) rfl rfl (szG_le h_u6) h_y9 (fun a7 y h => by (obtain ⟨x8, h_x8, h⟩ := bnde h; have h := sj h; subst h; exact ⟨[some (eW x3.2), none, none, some (D.int (1 + p1.1)), some (D.int p2.1), some ((eT D.int) a5), none, some (D.int a7)], _, rfl, (x_op2 (x_var D.int (a := a7) rfl) (x_var D.int (a := p2.1) rfl) rfl rfl (o_mulG h_x8)), rfl⟩)) rfl) rfl (o_tupL D.int)), rfl⟩)) rfl) rfl (o_tupL (eT D.int))) rfl) ?_
  obtain ⟨x11, h_x11, h⟩ := bnd h
  refine g_nx (e := [some (eW x11.2), some ((eT (eT D.int)) y10), some ((eT D.int) x11.1), some (D.int (1 + p1.1)), some (D.int p2.1), none, none, none]) (s_asg (x_call (q_cons (x_ref rfl rfl) (q_cons (x_var D.int (a := (1 + p1.1)) rfl) q_nil)) rfl rfl (hS__law_whole _ _ _ h_x11) rfl) rfl) ?_
  obtain ⟨x12, h_x12, h⟩ := bnd h
  obtain ⟨u13, h_u13, h⟩ := bnd h
  obtain ⟨y16, h_y16, h⟩ := bnd h
  obtain ⟨u17, h_u17, h⟩ := bnd h
  obtain ⟨y20, h_y20, h⟩ := bnd h
  have h := sj h
  subst h
  exact g_rt (s_rtv (x_tup3 (eT (eT D.int)) (eT D.int) (eT (eP D.int D.int)) y10 y16 y20 (m_cons (x_var (eT (eT D.int)) (a := y10) rfl) (m_cons (x_op1 (x_mapO (f := D.int) (g := D.int) (E0 := [some (eW x11.2), some ((eT (eT D.int)) y10), some ((eT D.int) x11.1), some (D.int (1 + p1.1)), some (D.int p2.1), none, none, none]) (so_it (f := D.int) (xs := x12) (q_cons (x_call (q_cons (x_var (eT (eT D.int)) (a := y10) rfl) (q_cons (x_var (eT D.int) (a := x11.1) rfl) q_nil)) rfl rfl (hS__law_sums _ _ _ h_x12) rfl) q_nil) it_T) rfl rfl (szG_le h_u13) h_y16 (fun a14 y h => by (obtain ⟨x15, h_x15, h⟩ := bnde h; have h := sj h; subst h; exact ⟨[some (eW x11.2), some ((eT (eT D.int)) y10), some ((eT D.int) x11.1), some (D.int (1 + p1.1)), some (D.int p2.1), none, some (D.int a14), none], _, rfl, (x_op2 (x_op1 (x_var D.int (a := a14) rfl) rfl o_toInt) (x_var D.int (a := p2.1) rfl) rfl rfl (o_divG h_x15)), rfl⟩)) rfl) rfl (o_tupL D.int)) (m_cons (x_op1 (x_mapO (f := D.int) (g := (eP D.int D.int)) (E0 := [some (eW x11.2), some ((eT (eT D.int)) y10), some ((eT D.int) x11.1), some (D.int (1 + p1.1)), some (D.int p2.1), none, none, none]) (so_it (f := D.int) (xs := x11.1) (q_cons (x_var (eT D.int) (a := x11.1) rfl) q_nil) it_T) rfl rfl (szG_le h_u17) h_y20 (fun a18 y h => by (obtain ⟨x19, h_x19, h⟩ := bnde h; have h := sj h; subst h; exact ⟨[some (eW x11.2), some ((eT (eT D.int)) y10), some ((eT D.int) x11.1), some (D.int (1 + p1.1)), some (D.int p2.1), none, none, some (D.int a18)], _, rfl, (x_call (q_cons (x_var D.int (a := a18) rfl) (q_cons (x_var D.int (a := p2.1) rfl) q_nil)) rfl rfl (hS__law_low _ _ _ h_x19) rfl), rfl⟩)) rfl) rfl (o_tupL (eP D.int D.int))) m_nil))))) ⟨_, _, rfl, .inl rfl, (bk_r rfl rfl rfl bk_nil)⟩

theorem b__law_bent (P : Ctx) (hS_next : S_next P 1) (hS_pick : S_pick P 2) (hS_pickF : S_pickF P 8) (w : W) (row : (List PV)) (r : (PV × W)) (h : _law_bent w row = some r) : runF P Pg.f9 [eW w, (eT PV.enc) row] = some (PV.enc r.1, [eW r.2, (eT PV.enc) row]) := by
  unfold _law_bent at h
  refine run_G rfl ?_
  show RetG _ _ _ _ (evSs P _ [some (eW w), some ((eT PV.enc) row), none, none, none])
  obtain ⟨p1, h_p1, h⟩ := bnd h
  refine g_nx (e := [some (eW p1.2), some ((eT PV.enc) row), some (D.int p1.1), none, none]) (s_asg (x_call (q_cons (x_ref rfl rfl) (q_cons (x_op1 (x_var (eT PV.enc) (a := row) rfl) rfl o_lnT) q_nil)) rfl rfl (hS_next _ _ _ h_p1) rfl) rfl) ?_
  obtain ⟨x2, h_x2, h⟩ := bnd h
  refine g_nx (e := [some (eW p1.2), some ((eT PV.enc) row), some (D.int p1.1), some (PV.enc x2), none]) (s_asg (x_sub (x_var (eT PV.enc) (a := row) rfl) (x_var D.int (a := p1.1) rfl) rfl rfl (s_T h_x2) (mk_p PV.enc _ _)) rfl) ?_
  obtain ⟨s21, h_s21, h⟩ := bnd h
  refine g_joinI (I := fun e => e = [some (eW s21.1), some ((eT PV.enc) row), some (D.int p1.1), some (PV.enc x2), some (PV.enc s21.2)]) (t_bl (x_op1 (x_var PV.enc (a := x2) rfl) rfl o_isiT)) (fun hc => by (have h := itT hc h_s21; obtain ⟨x22, h_x22, h⟩ := bnd h; obtain ⟨x23, h_x23, h⟩ := bnd h; obtain ⟨x24, h_x24, h⟩ := bnd h; obtain ⟨x25, h_x25, h⟩ := bnd h; obtain ⟨x26, h_x26, h⟩ := bnd h; obtain ⟨x27, h_x27, h⟩ := bnd h; obtain ⟨x28, h_x28, h⟩ := bnd h; obtain ⟨x29, h_x29, h⟩ := bnd h; obtain ⟨x30, h_x30, h⟩ := bnd h; obtain ⟨x31, h_x31, h⟩ := bnd h; obtain ⟨x32, h_x32, h⟩ := bnd h; obtain ⟨x33, h_x33, h⟩ := bnd h; obtain ⟨x34, h_x34, h⟩ := bnd h; obtain ⟨x35, h_x35, h⟩ := bnd h; obtain ⟨p36, h_p36, h⟩ := bnd h; refine g_nx (e := [some (eW p36.2), some ((eT PV.enc) row), some (D.int p1.1), some (PV.enc x2), some (PV.enc p36.1)]) (s_asg (x_call (q_cons (x_ref rfl rfl) (q_cons (x_lstL PV.enc ([(PV.tup [(PV.int (x23 + 1)), x24]), (PV.tup [(PV.int x27), (PV.int x30)]), (PV.tup [x31, (PV.int (0 - x33))]), x34, (PV.tup [x35, (PV.int 0)]), (PV.tup [(PV.int 0), (PV.int 1)]), (PV.bl true)] : List PV) (m_cons (x_cast (d' := PV.enc (PV.tup [(PV.int (x23 + 1)), x24])) (x_tupP D.int PV.enc (x23 + 1) x24 (m_cons (x_op2 (x_cast (d' := D.int x23) (x_sub (x_var PV.enc (a := x2) rfl) x_int rfl rfl (s_V h_x22) (mk_p PV.enc _ _)) (asI_enc h_x23)) x_int rfl rfl o_add) (m_cons (x_sub (x_var PV.enc (a := x2) rfl) x_int rfl rfl (s_V h_x24) (mk_p PV.enc _ _)) m_nil))) (c_P D.int PV.enc (fun a => (PV.int a)) (fun a => a) (fun a => rfl) (fun a => rfl) ((x23 + 1), x24))) (m_cons (x_cast (d' := PV.enc (PV.tup [(PV.int x27), (PV.int x30)])) (x_tupP D.int D.int x27 x30 (m_cons (x_op2 (x_cast (d' := D.int x26) (x_sub (x_var PV.enc (a := x2) rfl) x_int rfl rfl (s_V h_x25) (mk_p PV.enc _ _)) (asI_enc h_x26)) x_int rfl rfl (o_mulG h_x27)) (m_cons (x_op2 (x_cast (d' := D.int x29) (x_sub (x_var PV.enc (a := x2) rfl) x_int rfl rfl (s_V h_x28) (mk_p PV.enc _ _)) (asI_enc h_x29)) x_int rfl rfl (o_mulG h_x30)) m_nil))) (c_P D.int D.int (fun a => (PV.int a)) (fun a => (PV.int a)) (fun a => rfl) (fun a => rfl) (x27, x30))) (m_cons (x_cast (d' := PV.enc (PV.tup [x31, (PV.int (0 - x33))])) (x_tupP PV.enc D.int x31 (0 - x33) (m_cons (x_sub (x_var PV.enc (a := x2) rfl) x_int rfl rfl (s_V h_x31) (mk_p PV.enc _ _)) (m_cons (x_op2 x_int (x_cast (d' := D.int x33) (x_sub (x_var PV.enc (a := x2) rfl) x_int rfl rfl (s_V h_x32) (mk_p PV.enc _ _)) (asI_enc h_x33)) rfl rfl o_sub) m_nil))) (c_P PV.enc D.int (fun a => a) (fun a => (PV.int a)) (fun a => rfl) (fun a => rfl) (x31, (0 - x33)))) (m_cons (x_sub (x_var PV.enc (a := x2) rfl) x_int rfl rfl (s_V h_x34) (mk_p PV.enc _ _)) (m_cons (x_cast (d' := PV.enc (PV.tup [x35, (PV.int 0)])) (x_tupP PV.enc D.int x35 0 (m_cons (x_sub (x_var PV.enc (a := x2) rfl) x_int rfl rfl (s_V h_x35) (mk_p PV.enc _ _)) (m_cons x_int m_nil))) (c_P PV.enc D.int (fun a => a) (fun a => (PV.int a)) (fun a => rfl) (fun a => rfl) (x35, 0))) (m_cons (x_cast (d' := PV.enc (PV.tup [(PV.int 0), (PV.int 1)])) (x_tupP D.int D.int 0 1 (m_cons x_int (m_cons x_int m_nil))) (c_P D.int D.int (fun a => (PV.int a)) (fun a => (PV.int a)) (fun a => rfl) (fun a => rfl) (0, 1))) (m_cons (x_cast (d' := PV.enc (PV.bl true)) x_bl rfl) m_nil))))))) rfl) q_nil)) rfl rfl (hS_pick PV.enc _ _ _ _ h_p36) rfl) rfl) ?_; have h := sj h; subst h; exact g_end ⟨_, rfl, rfl⟩)) (fun hc => by (have h := itF hc h_s21; obtain ⟨x37, h_x37, h⟩ := bnd h; obtain ⟨x38, h_x38, h⟩ := bnd h; obtain ⟨p39, h_p39, h⟩ := bnd h; refine g_nx (e := [some (eW p39.2), some ((eT PV.enc) row), some (D.int p1.1), some (PV.enc x2), some (PV.enc p39.1)]) (s_asg (x_call (q_cons (x_ref rfl rfl) (q_cons (x_lstL PV.enc ([(PV.int (x37 + 1)), (PV.tup [x2, (PV.int 1)]), (PV.bl true), PV.non, (PV.int 0), (PV.int (x38 - 2))] : List PV) (m_cons (x_cast (d' := PV.enc (PV.int (x37 + 1))) (x_op2 (x_cast (d' := D.int x37) (x_var PV.enc (a := x2) rfl) (asI_enc h_x37)) x_int rfl rfl o_add) rfl) (m_cons (x_cast (d' := PV.enc (PV.tup [x2, (PV.int 1)])) (x_tupP PV.enc D.int x2 1 (m_cons (x_var PV.enc (a := x2) rfl) (m_cons x_int m_nil))) (c_P PV.enc D.int (fun a => a) (fun a => (PV.int a)) (fun a => rfl) (fun a => rfl) (x2, 1))) (m_cons (x_cast (d' := PV.enc (PV.bl true)) x_bl rfl) (m_cons (x_cast (d' := PV.enc PV.non) x_non rfl) (m_cons (x_cast (d' := PV.enc (PV.int 0)) x_int rfl) (m_cons (x_cast (d' := PV.enc (PV.int (x38 - 2))) (x_op2 (x_cast (d' := D.int x38) (x_var PV.enc (a := x2) rfl) (asI_enc h_x38)) x_int rfl rfl o_sub) rfl) m_nil)))))) rfl) q_nil)) rfl rfl (hS_pick PV.enc _ _ _ _ h_p39) rfl) rfl) ?_; have h := sj h; subst h; exact g_end ⟨_, rfl, rfl⟩)) ?_
  intro e hI; subst hI
  obtain ⟨x40, h_x40, h⟩ := bnd h
  obtain ⟨x41, h_x41, h⟩ := bnd h
  obtain ⟨x42, h_x42, h⟩ := bnd h
  obtain ⟨x43, h_x43, h⟩ := bnd h
  obtain ⟨x44, h_x44, h⟩ := bnd h
  obtain ⟨x45, h_x45, h⟩ := bnd h
  obtain ⟨p46, h_p46, h⟩ := bnd h
  have h := sj h
  subst h
  exact g_rt (s_rtv (x_call (q_cons (x_ref rfl rfl) (q_cons (x_lstL eU ([(false, (PV.tup x41)), (false, (PV.tup x42)), (false, (PV.tup x43)), (true, PV.lst row), (false, (PV.tup x45))] : List (Bool × PV)) (m_cons (x_cast (d' := eU (false, (PV.tup x41))) (x_op2 (x_op2 (x_sli (x_var (eT PV.enc) (a := row) rfl) i_none (i_some (x_var D.int (a := p1.1) rfl)) rfl (k_T PV.enc)) (x_tupT PV.enc ([s21.2] : List PV) (m_cons (x_var PV.enc (a := s21.2) rfl) m_nil) rfl) rfl rfl (o_catT PV.enc h_x40)) (x_sli (x_var (eT PV.enc) (a := row) rfl) (i_some (x_op2 (x_var D.int (a := p1.1) rfl) x_int rfl rfl o_add)) i_none rfl (k_T PV.enc)) rfl rfl (o_catT PV.enc h_x41)) ((c_VT x41).trans (c_VU (PV.tup x41)))) (m_cons (x_cast (d' := eU (false, (PV.tup x42))) (x_op2 (x_sli (x_var (eT PV.enc) (a := row) rfl) i_none (i_some (x_var D.int (a := p1.1) rfl)) rfl (k_T PV.enc)) (x_sli (x_var (eT PV.enc) (a := row) rfl) (i_some (x_op2 (x_var D.int (a := p1.1) rfl) x_int rfl rfl o_add)) i_none rfl (k_T PV.enc)) rfl rfl (o_catT PV.enc h_x42)) ((c_VT x42).trans (c_VU (PV.tup x42)))) (m_cons (x_cast (d' := eU (false, (PV.tup x43))) (x_op2 (x_var (eT PV.enc) (a := row) rfl) (x_sli (x_var (eT PV.enc) (a := row) rfl) i_none (i_some x_int) rfl (k_T PV.enc)) rfl rfl (o_catT PV.enc h_x43)) ((c_VT x43).trans (c_VU (PV.tup x43)))) (m_cons (x_cast (d' := eU (true, PV.lst row)) (x_op1 (x_var (eT PV.enc) (a := row) rfl) rfl (o_lstT PV.enc)) (c_LUV row)) (m_cons (x_cast (d' := eU (false, (PV.tup x45))) (x_op2 (x_op2 (x_sli (x_var (eT PV.enc) (a := row) rfl) i_none (i_some (x_var D.int (a := p1.1) rfl)) rfl (k_T PV.enc)) (x_tupT PV.enc ([s21.2] : List PV) (m_cons (x_var PV.enc (a := s21.2) rfl) m_nil) rfl) rfl rfl (o_catT PV.enc h_x44)) (x_sli (x_var (eT PV.enc) (a := row) rfl) (i_some (x_op2 (x_var D.int (a := p1.1) rfl) x_int rfl rfl o_add)) i_none rfl (k_T PV.enc)) rfl rfl (o_catT PV.enc h_x45)) ((c_VT x45).trans (c_VU (PV.tup x45)))) m_nil))))) rfl) q_nil)) rfl rfl (hS_pickF eU _ _ _ _ _ h_p46 (fz_U p46.1)) rfl)) ⟨_, _, rfl, .inl rfl, (bk_r rfl rfl rfl (bk_p (Pl.pl (f := (eT PV.enc)) _) bk_nil))⟩

theorem b_width_of (P : Ctx)  (rows : (List (List Int))) (r : Int) (h : width_of rows = some r) : runF P Pg.f10 [(eT (eT D.int)) rows] = some (D.int r, [(eT (eT D.int)) rows]) := by
  unfold width_of at h
  refine run_G rfl ?_
  show RetG _ _ _ _ (evSs P _ [some ((eT (eT D.int)) rows)])
  obtain ⟨v2, h_v2, h⟩ := bnde h
  have h := sj h
  subst h
  exact g_rt (s_rtv (show AX P false _ (.ite (.val (.op (.cmp .NotEq) [(.var 0), (.tup [])])) (.op .len [(.sub (.var 0) (.int 0))]) (.int 0)) (.tmp (D.int v2)) _ from (x_ite (t_bl (x_op2 (x_var (eT (eT D.int)) (a := rows) rfl) (x_cast (d' := (eT (eT D.int)) []) (x_tupT PV.enc [] m_nil rfl) rfl) rfl rfl (o_neC (eT (eT D.int)) rfl _ _))) (fun hc => by (have h := itT hc h_v2; obtain ⟨x1, h_x1, h⟩ := bnd h; have h := sj h; subst h; exact (x_op1 (x_sub (x_var (eT (eT D.int)) (a := rows) rfl) x_int rfl rfl (s_T h_x1) (mk_p (eT D.int) _ _)) rfl o_lnT))) (fun hc => by (have h := itF hc h_v2; have h := sj h; subst h; exact x_int))))) ⟨_, _, rfl, .inl rfl, (bk_p (Pl.pl (f := (eT (eT D.int))) _) bk_nil)⟩

theorem b_divisor (P : Ctx)  (a : Int) (b : Int) (r : Int) (h : divisor a b = some r) : runF P Pg.f11 [D.int a, D.int b] = some (D.int r, [D.int a, D.int b]) := by
  unfold divisor at h
  refine run_G rfl ?_
  show RetG _ _ _ _ (evSs P _ [some (D.int a), some (D.int b)])
  obtain ⟨a1, h_a1, h⟩ := bnd h
  obtain ⟨b2, h_b2, h⟩ := bnd h
  refine g_nx (e := [some (D.int a1), some (D.int b2)]) (s_par (m_cons (x_cast (d' := D.int a1) (x_op1 (x_var D.int (a := a) rfl) rfl o_absN) (congrArg D.int (sj h_a1))) (m_cons (x_cast (d' := D.int b2) (x_op1 (x_var D.int (a := b) rfl) rfl o_absN) (congrArg D.int (sj h_b2))) m_nil)) rfl) ?_
  obtain ⟨s5, h_s5, h⟩ := bnd h
  refine g_whlS (fun (s3 : (Int × Int)) e => e = [some (D.int s3.1), some (D.int s3.2)]) rfl h_s5 (fun s3 t e he h => by (subst he; have h := sj h; subst h; exact (t_bl (x_op2 (x_var D.int (a := s3.2) rfl) x_int rfl rfl o_gt)))) (fun s3 s' e he _ h => by (subst he; obtain ⟨x4, h_x4, h⟩ := bnd h; refine g_nx (e := [some (D.int s3.2), some (D.int x4)]) (s_par (m_cons (x_var D.int (a := s3.2) rfl) (m_cons (x_op2 (x_var D.int (a := s3.1) rfl) (x_var D.int (a := s3.2) rfl) rfl rfl (o_modG h_x4)) m_nil)) rfl) ?_; have h := sj h; subst h; exact g_end ⟨_, _, rfl, .inl rfl, rfl⟩)) ?_
  intro e hI; subst hI
  have h := sj h
  subst h
  exact g_rt (s_rtv (x_var D.int (a := s5.1) rfl)) ⟨_, _, rfl, .inl rfl, (bk_p (Pl.pl (f := D.int) _) (bk_p (Pl.pl (f := D.int) _) bk_nil))⟩

theorem b_is_fraction (P : Ctx) (hS_divisor : S_divisor P) (thing : PV) (r : Bool) (h : is_fraction thing = some r) : runF P Pg.f12 [PV.enc thing] = some (D.bl r, [PV.enc thing]) := by
  unfold is_fraction at h
  refine run_G rfl ?_
  show RetG _ _ _ _ (evSs P _ [some (PV.enc thing), none])
  obtain ⟨t2, h_t2, h⟩ := bnd h
  rcases iteo h with ⟨hc, h⟩ | ⟨hc, h⟩
  (refine g_iteT (t_or (t_orC (t_not (t_bl (x_op1 (x_var PV.enc (a := thing) rfl) rfl o_isiT))) (fun hc => by (have h := itF hc h_t2; obtain ⟨x1, h_x1, h⟩ := bnd h; have h := sj h; subst h; exact (t_or1 (t_bl (x_op2 (x_op1 (x_var PV.enc (a := thing) rfl) rfl (o_lnV h_x1)) x_int rfl rfl o_ne))))) (fun hc => by (have h := itT hc h_t2; cases h; exact ⟨rfl, rfl⟩)))) hc ?_; have h := sj h; subst h; exact g_rt (s_rtv x_bl) ⟨_, _, rfl, .inl rfl, (bk_p (Pl.pl (f := PV.enc) _) bk_nil)⟩)
  (refine g_iteF (t_or (t_orC (t_not (t_bl (x_op1 (x_var PV.enc (a := thing) rfl) rfl o_isiT))) (fun hc => by (have h := itF hc h_t2; obtain ⟨x1, h_x1, h⟩ := bnd h; have h := sj h; subst h; exact (t_or1 (t_bl (x_op2 (x_op1 (x_var PV.enc (a := thing) rfl) rfl (o_lnV h_x1)) x_int rfl rfl o_ne))))) (fun hc => by (have h := itT hc h_t2; cases h; exact ⟨rfl, rfl⟩)))) hc ?_; obtain ⟨q3, h_q3, h⟩ := bnd h; obtain ⟨z10, h_z10, h⟩ := bnd h; refine g_forC (f := PV.enc) (fun (s4 : Unit) e => ∃ (d5 : Option D), e = [some (PV.enc thing), d5]) (fun (q : Bool) d e => d = D.bl q ∧ ∃ (d7 : Option D), e = [some (PV.enc thing), d7]) (fo_it (f := PV.enc) (q_cons (x_var PV.enc (a := thing) rfl) q_nil) (asQ_items h_q3)) ⟨_, rfl⟩ h_z10 (fun i6 s4 c e he h => by (obtain ⟨d5, rfl⟩ := he; refine g_bind (e1 := [some (PV.enc thing), some (PV.enc i6)]) rfl ?_; rcases iteo h with ⟨hc, h⟩ | ⟨hc, h⟩; (refine g_iteT (t_or (t_orT (t_bl (x_op1 (x_var PV.enc (a := i6) rfl) rfl o_isiB)) (t_or1 (t_not (t_bl (x_op1 (x_var PV.enc (a := i6) rfl) rfl o_isiI)))))) hc ?_; have h := sj h; subst h; exact g_rt (s_rtv x_bl) ⟨_, _, rfl, rfl, _, rfl⟩); (refine g_iteF (t_or (t_orT (t_bl (x_op1 (x_var PV.enc (a := i6) rfl) rfl o_isiB)) (t_or1 (t_not (t_bl (x_op1 (x_var PV.enc (a := i6) rfl) rfl o_isiI)))))) hc ?_; have h := sj h; subst h; exact g_end ⟨_, _, rfl, .inl rfl, ⟨_, rfl⟩⟩))) ?_ ?_; (intro s9 e hz hI; subst hz; obtain ⟨d8, rfl⟩ := hI; replace h := sumO_r h; obtain ⟨x11, h_x11, h⟩ := bnd h; obtain ⟨x12, h_x12, h⟩ := bnd h; obtain ⟨t18, h_t18, h⟩ := bnde h; have h := sj h; subst h; exact g_rt (s_rtv (x_and (x_andC (x_op2 (x_cast (d' := D.int x12) (x_sub (x_var PV.enc (a := thing) rfl) x_int rfl rfl (s_V h_x11) (mk_p PV.enc _ _)) (asI_enc h_x12)) x_int rfl rfl o_gt) (fun hc => by (have h := itT hc h_t18; obtain ⟨x13, h_x13, h⟩ := bnd h; obtain ⟨x14, h_x14, h⟩ := bnd h; obtain ⟨x15, h_x15, h⟩ := bnd h; obtain ⟨x16, h_x16, h⟩ := bnd h; obtain ⟨x17, h_x17, h⟩ := bnd h; have h := sj h; subst h; exact (x_and1 (x_op2 (x_call (q_cons (x_cast (d' := D.int x15) (x_sub (x_var PV.enc (a := thing) rfl) x_int rfl rfl (s_V h_x13) (mk_p PV.enc _ _)) (asI_enc h_x15)) (q_cons (x_cast (d' := D.int x16) (x_sub (x_var PV.enc (a := thing) rfl) x_int rfl rfl (s_V h_x14) (mk_p PV.enc _ _)) (asI_enc h_x16)) q_nil)) rfl rfl (hS_divisor _ _ _ h_x17) rfl) x_int rfl rfl o_eq)))) (fun hc => by (have h := itF hc h_t18; cases h; exact ⟨rfl, rfl⟩))))) ⟨_, _, rfl, .inl rfl, (bk_p (Pl.pl (f := PV.enc) _) bk_nil)⟩); (intro q d e hz hR; subst hz; obtain ⟨rfl, d7, rfl⟩ := hR; replace h := sumO_l h; have h := sj h; subst h; exact ⟨_, _, rfl, .inl rfl, (bk_p (Pl.pl (f := PV.enc) _) bk_nil)⟩))

theorem b_are_fractions (P : Ctx) (hS_is_fraction : S_is_fraction P) (thing : PV) (many : Int) (r : Bool) (h : are_fractions thing many = some r) : runF P Pg.f13 [PV.enc thing, D.int many] = some (D.bl r, [PV.enc thing, D.int many]) := by
  unfold are_fractions at h
  refine run_G rfl ?_
  show RetG _ _ _ _ (evSs P _ [some (PV.enc thing), some (D.int many), none])
  obtain ⟨t7, h_t7, h⟩ := bnde h
  have h := sj h
  subst h
  exact g_rt (s_rtv (x_and (x_andC (x_op1 (x_var PV.enc (a := thing) rfl) rfl o_isiT) (fun hc => by (have h := itT hc h_t7; obtain ⟨x1, h_x1, h⟩ := bnd h; exact (x_andC (x_op2 (x_op1 (x_var PV.enc (a := thing) rfl) rfl (o_lnV h_x1)) (x_var D.int (a := many) rfl) rfl rfl o_eq) (fun hc => by (have h := itT hc h; obtain ⟨q2, h_q2, h⟩ := bnd h; obtain ⟨u3, h_u3, h⟩ := bnd h; obtain ⟨y6, h_y6, h⟩ := bnd h; have h := sj h; subst h; exact (x_and1 (x_op1 (x_mapO (f := PV.enc) (g := D.bl) (E0 := [some (PV.enc thing), some (D.int many), none]) (so_it (f := PV.enc) (q_cons (x_var PV.enc (a := thing) rfl) q_nil) (asQ_items h_q2)) rfl rfl (szG_le h_u3) h_y6 (fun a4 y h => by (obtain ⟨x5, h_x5, h⟩ := bnde h; have h := sj h; subst h; exact ⟨[some (PV.enc thing), some (D.int many), some (PV.enc a4)], _, rfl, (x_call (q_cons (x_var PV.enc (a := a4) rfl) q_nil) rfl rfl (hS_is_fraction _ _ h_x5) rfl), rfl⟩)) rfl) rfl o_allL)))) (fun hc => by (have h := itF hc h; cases h; exact ⟨rfl, rfl⟩))))) (fun hc => by (have h := itF hc h_t7; cases h; exact ⟨rfl, rfl⟩))))) ⟨_, _, rfl, .inl rfl, (bk_p (Pl.pl (f := PV.enc) _) (bk_p (Pl.pl (f := D.int) _) bk_nil))⟩

theorem b_whole (P : Ctx)  (n : Int) (r : (Int × Int)) (h : whole n = some r) : runF P Pg.f14 [D.int n] = some ((eP D.int D.int) r, [D.int n]) := by
  unfold whole at h
  refine run_G rfl ?_
  show RetG _ _ _ _ (evSs P _ [some (D.int n)])
  have h := sj h
  subst h
  exact g_rt (s_rtv (x_tupP D.int D.int n 1 (m_cons (x_var D.int (a := n) rfl) (m_cons x_int m_nil)))) ⟨_, _, rfl, .inl rfl, (bk_p (Pl.pl (f := D.int) _) bk_nil)⟩

theorem b_wholes (P : Ctx) (hS_whole : S_whole P) (numbers : (List Int)) (r : (List (Int × Int))) (h : wholes numbers = some r) : runF P Pg.f15 [(eT D.int) numbers] = some ((eT (eP D.int D.int)) r, [(eT D.int) numbers]) := by
  unfold wholes at h
  refine run_G rfl ?_
  show RetG _ _ _ _ (evSs P _ [some ((eT D.int) numbers), none])
  obtain ⟨u1, h_u1, h⟩ := bnd h
  obtain ⟨y4, h_y4, h⟩ := bnde h
  have h := sj h
  subst h
  exact g_rt (s_rtv (x_op1 (x_mapO (f := D.int) (g := (eP D.int D.int)) (E0 := [some ((eT D.int) numbers), none]) (so_it (f := D.int) (xs := numbers) (q_cons (x_var (eT D.int) (a := numbers) rfl) q_nil) it_T) rfl rfl (szG_le h_u1) h_y4 (fun a2 y h => by (obtain ⟨x3, h_x3, h⟩ := bnde h; have h := sj h; subst h; exact ⟨[some ((eT D.int) numbers), some (D.int a2)], _, rfl, (x_call (q_cons (x_var D.int (a := a2) rfl) q_nil) rfl rfl (hS_whole _ _ h_x3) rfl), rfl⟩)) rfl) rfl (o_tupL (eP D.int D.int)))) ⟨_, _, rfl, .inl rfl, (bk_p (Pl.pl (f := (eT D.int)) _) bk_nil)⟩

theorem b_lowest (P : Ctx) (hS_divisor : S_divisor P) (a : Int) (b : Int) (r : (Int × Int)) (h : lowest a b = some r) : runF P Pg.f16 [D.int a, D.int b] = some ((eP D.int D.int) r, [D.int a, D.int b]) := by
  unfold lowest at h
  refine run_G rfl ?_
  show RetG _ _ _ _ (evSs P _ [some (D.int a), some (D.int b), none])
  obtain ⟨x1, h_x1, h⟩ := bnd h
  refine g_nx (e := [some (D.int a), some (D.int b), some (D.int x1)]) (s_asg (x_call (q_cons (x_var D.int (a := a) rfl) (q_cons (x_var D.int (a := b) rfl) q_nil)) rfl rfl (hS_divisor _ _ _ h_x1) rfl) rfl) ?_
  obtain ⟨s2, h_s2, h⟩ := bnd h
  refine g_joinI (I := fun e => e = [some (D.int a), some (D.int b), some (D.int s2)]) (t_bl (x_op2 (x_var D.int (a := b) rfl) x_int rfl rfl o_lt)) (fun hc => by (have h := itT hc h_s2; refine g_nx (e := [some (D.int a), some (D.int b), some (D.int (-x1))]) (s_asg (x_op1 (x_var D.int (a := x1) rfl) rfl o_neg) rfl) ?_; have h := sj h; subst h; exact g_end ⟨_, rfl, rfl⟩)) (fun hc => by (have h := itF hc h_s2; have h := sj h; subst h; exact g_end ⟨_, rfl, rfl⟩)) ?_
  intro e hI; subst hI
  obtain ⟨x3, h_x3, h⟩ := bnd h
  obtain ⟨x4, h_x4, h⟩ := bnd h
  have h := sj h
  subst h
  exact g_rt (s_rtv (x_tupP D.int D.int x3 x4 (m_cons (x_op2 (x_var D.int (a := a) rfl) (x_var D.int (a := s2) rfl) rfl rfl (o_divG h_x3)) (m_cons (x_op2 (x_var D.int (a := b) rfl) (x_var D.int (a := s2) rfl) rfl rfl (o_divG h_x4)) m_nil)))) ⟨_, _, rfl, .inl rfl, (bk_p (Pl.pl (f := D.int) _) (bk_p (Pl.pl (f := D.int) _) bk_nil))⟩

theorem b_times (P : Ctx) (hS_lowest : S_lowest P) (a : (Int × Int)) (b : (Int × Int)) (r : (Int × Int)) (h : times a b = some r) : runF P Pg.f17 [(eP D.int D.int) a, (eP D.int D.int) b] = some ((eP D.int D.int) r, [(eP D.int D.int) a, (eP D.int D.int) b]) := by
  unfold times at h
  refine run_G rfl ?_
  show RetG _ _ _ _ (evSs P _ [some ((eP D.int D.int) a), some ((eP D.int D.int) b)])
  obtain ⟨x1, h_x1, h⟩ := bnd h
  obtain ⟨x2, h_x2, h⟩ := bnd h
  obtain ⟨x3, h_x3, h⟩ := bnde h
  have h := sj h
  subst h
  exact g_rt (s_rtv (x_call (q_cons (x_op2 (x_sub (x_var (eP D.int D.int) (a := a) rfl) x_int rfl rfl rfl (mk_p D.int _ _)) (x_sub (x_var (eP D.int D.int) (a := b) rfl) x_int rfl rfl rfl (mk_p D.int _ _)) rfl rfl (o_mulG h_x1)) (q_cons (x_op2 (x_sub (x_var (eP D.int D.int) (a := a) rfl) x_int rfl rfl rfl (mk_p D.int _ _)) (x_sub (x_var (eP D.int D.int) (a := b) rfl) x_int rfl rfl rfl (mk_p D.int _ _)) rfl rfl (o_mulG h_x2)) q_nil)) rfl rfl (hS_lowest _ _ _ h_x3) rfl)) ⟨_, _, rfl, .inl rfl, (bk_p (Pl.pl (f := (eP D.int D.int)) _) (bk_p (Pl.pl (f := (eP D.int D.int)) _) bk_nil))⟩

theorem b_plus (P : Ctx) (hS_lowest : S_lowest P) (a : (Int × Int)) (b : (Int × Int)) (r : (Int × Int)) (h : plus a b = some r) : runF P Pg.f18 [(eP D.int D.int) a, (eP D.int D.int) b] = some ((eP D.int D.int) r, [(eP D.int D.int) a, (eP D.int D.int) b]) := by
  unfold plus at h
  refine run_G rfl ?_
  show RetG _ _ _ _ (evSs P _ [some ((eP D.int D.int) a), some ((eP D.int D.int) b)])
  obtain ⟨x1, h_x1, h⟩ := bnd h
  obtain ⟨x2, h_x2, h⟩ := bnd h
  obtain ⟨x3, h_x3, h⟩ := bnd h
  obtain ⟨x4, h_x4, h⟩ := bnde h
  have h := sj h
  subst h
  exact g_rt (s_rtv (x_call (q_cons (x_op2 (x_op2 (x_sub (x_var (eP D.int D.int) (a := a) rfl) x_int rfl rfl rfl (mk_p D.int _ _)) (x_sub (x_var (eP D.int D.int) (a := b) rfl) x_int rfl rfl rfl (mk_p D.int _ _)) rfl rfl (o_mulG h_x1)) (x_op2 (x_sub (x_var (eP D.int D.int) (a := b) rfl) x_int rfl rfl rfl (mk_p D.int _ _)) (x_sub (x_var (eP D.int D.int) (a := a) rfl) x_int rfl rfl rfl (mk_p D.int _ _)) rfl rfl (o_mulG h_x2)) rfl rfl o_add) (q_cons (x_op2 (x_sub (x_var (eP D.int D.int) (a := a) rfl) x_int rfl rfl rfl (mk_p D.int _ _)) (x_sub (x_var (eP D.int D.int) (a := b) rfl) x_int rfl rfl rfl (mk_p D.int _ _)) rfl rfl (o_mulG h_x3)) q_nil)) rfl rfl (hS_lowest _ _ _ h_x4) rfl)) ⟨_, _, rfl, .inl rfl, (bk_p (Pl.pl (f := (eP D.int D.int)) _) (bk_p (Pl.pl (f := (eP D.int D.int)) _) bk_nil))⟩

theorem b_dot (P : Ctx) (hS_times : S_times P) (hS_plus : S_plus P) (rows : (List (Int × Int))) (xs : (List (Int × Int))) (r : (Int × Int)) (h : dot rows xs = some r) : runF P Pg.f19 [(eT (eP D.int D.int)) rows, (eT (eP D.int D.int)) xs] = some ((eP D.int D.int) r, [(eT (eP D.int D.int)) rows, (eT (eP D.int D.int)) xs]) := by
  unfold dot at h
  refine run_G rfl ?_
  show RetG _ _ _ _ (evSs P _ [some ((eT (eP D.int D.int)) rows), some ((eT (eP D.int D.int)) xs), none, none, none])
  refine g_nx (e := [some ((eT (eP D.int D.int)) rows), some ((eT (eP D.int D.int)) xs), some ((eP D.int D.int) (0, 1)), none, none]) (s_asg (x_tupP D.int D.int 0 1 (m_cons x_int (m_cons x_int m_nil))) rfl) ?_
  obtain ⟨s9, h_s9, h⟩ := bnde h
  refine g_forF (f := (eP (eP D.int D.int) (eP D.int D.int))) (fun (s1 : ((Int × Int))) e => ∃ (d2 d3 : Option D), e = [some ((eT (eP D.int D.int)) rows), some ((eT (eP D.int D.int)) xs), some ((eP D.int D.int) s1), d2, d3]) (fo_zip (f := (eP D.int D.int)) (g := (eP D.int D.int)) (q_cons (x_var (eT (eP D.int D.int)) (a := rows) rfl) (q_cons (x_var (eT (eP D.int D.int)) (a := xs) rfl) q_nil))) ⟨_, _, rfl⟩ h_s9 (fun i4 s1 s' e he h => by (obtain ⟨d2, d3, rfl⟩ := he; refine g_bind (e1 := [some ((eT (eP D.int D.int)) rows), some ((eT (eP D.int D.int)) xs), some ((eP D.int D.int) s1), some ((eP D.int D.int) i4.1), some ((eP D.int D.int) i4.2)]) rfl ?_; obtain ⟨x5, h_x5, h⟩ := bnd h; obtain ⟨x6, h_x6, h⟩ := bnde h; refine g_nx (e := [some ((eT (eP D.int D.int)) rows), some ((eT (eP D.int D.int)) xs), some ((eP D.int D.int) x6), some ((eP D.int D.int) i4.1), some ((eP D.int D.int) i4.2)]) (s_asg (x_call (q_cons (x_var (eP D.int D.int) (a := s1) rfl) (q_cons (x_call (q_cons (x_var (eP D.int D.int) (a := i4.1) rfl) (q_cons (x_var (eP D.int D.int) (a := i4.2) rfl) q_nil)) rfl rfl (hS_times _ _ _ h_x5) rfl) q_nil)) rfl rfl (hS_plus _ _ _ h_x6) rfl) rfl) ?_; have h := sj h; subst h; exact g_end ⟨_, _, rfl, .inl rfl, ⟨_, _, rfl⟩⟩)) ?_
  intro e hI; obtain ⟨d7, d8, rfl⟩ := hI
  have h := sj h
  subst h
  exact g_rt (s_rtv (x_var (eP D.int D.int) (a := s9) rfl)) ⟨_, _, rfl, .inl rfl, (bk_p (Pl.pl (f := (eT (eP D.int D.int))) _) (bk_p (Pl.pl (f := (eT (eP D.int D.int))) _) bk_nil))⟩

theorem b_is_solution (P : Ctx) (hS_width_of : S_width_of P) (hS_are_fractions : S_are_fractions P) (hS_wholes : S_wholes P) (hS_dot : S_dot P) (hS_whole : S_whole P) (rows : (List (List Int))) (sums : (List Int)) (x : PV) (r : Bool) (h : is_solution rows sums x = some r) : runF P Pg.f20 [(eT (eT D.int)) rows, (eT D.int) sums, PV.enc x] = some (D.bl r, [(eT (eT D.int)) rows, (eT D.int) sums, PV.enc x]) := by
  unfold is_solution at h
  refine run_G rfl ?_
  show RetG _ _ _ _ (evSs P _ [some ((eT (eT D.int)) rows), some ((eT D.int) sums), some (PV.enc x), none])
  obtain ⟨x1, h_x1, h⟩ := bnd h
  obtain ⟨x2, h_x2, h⟩ := bnd h
  rcases iteo h with ⟨hc, h⟩ | ⟨hc, h⟩
  (refine g_iteT (t_not (t_bl (x_call (q_cons (x_var PV.enc (a := x) rfl) (q_cons (x_call (q_cons (x_var (eT (eT D.int)) (a := rows) rfl) q_nil) rfl rfl (hS_width_of _ _ h_x1) rfl) q_nil)) rfl rfl (hS_are_fractions _ _ _ h_x2) rfl))) hc ?_; have h := sj h; subst h; exact g_rt (s_rtv x_bl) ⟨_, _, rfl, .inl rfl, (bk_p (Pl.pl (f := (eT (eT D.int))) _) (bk_p (Pl.pl (f := (eT D.int)) _) (bk_p (Pl.pl (f := PV.enc) _) bk_nil)))⟩)
  (refine g_iteF (t_not (t_bl (x_call (q_cons (x_var PV.enc (a := x) rfl) (q_cons (x_call (q_cons (x_var (eT (eT D.int)) (a := rows) rfl) q_nil) rfl rfl (hS_width_of _ _ h_x1) rfl) q_nil)) rfl rfl (hS_are_fractions _ _ _ h_x2) rfl))) hc ?_; obtain ⟨r3, h_r3, h⟩ := bnd h; obtain ⟨u4, h_u4, h⟩ := bnd h; obtain ⟨y12, h_y12, h⟩ := bnd h; have h := sj h; subst h; exact g_rt (s_rtv (x_op1 (x_mapO (f := D.int) (g := D.bl) (E0 := [some ((eT (eT D.int)) rows), some ((eT D.int) sums), some (PV.enc x), none]) (so_rng1 (q_cons (x_op1 (x_var (eT (eT D.int)) (a := rows) rfl) rfl o_lnT) q_nil) h_r3) rfl rfl (szG_le h_u4) h_y12 (fun a5 y h => by (obtain ⟨x6, h_x6, h⟩ := bnd h; obtain ⟨x7, h_x7, h⟩ := bnd h; obtain ⟨x8, h_x8, h⟩ := bnd h; obtain ⟨x9, h_x9, h⟩ := bnd h; obtain ⟨x10, h_x10, h⟩ := bnd h; obtain ⟨x11, h_x11, h⟩ := bnd h; have h := sj h; subst h; exact ⟨[some ((eT (eT D.int)) rows), some ((eT D.int) sums), some (PV.enc x), some (D.int a5)], _, rfl, (x_op2 (x_call (q_cons (x_call (q_cons (x_sub (x_var (eT (eT D.int)) (a := rows) rfl) (x_var D.int (a := a5) rfl) rfl rfl (s_T h_x6) (mk_p (eT D.int) _ _)) q_nil) rfl rfl (hS_wholes _ _ h_x7) rfl) (q_cons (x_cast (d' := (eT (eP D.int D.int)) x8) (x_var PV.enc (a := x) rfl) ((dnT_enc (dnP_enc dnI_enc dnI_enc)) _ _ h_x8)) q_nil)) rfl rfl (hS_dot _ _ _ h_x9) rfl) (x_call (q_cons (x_sub (x_var (eT D.int) (a := sums) rfl) (x_var D.int (a := a5) rfl) rfl rfl (s_T h_x10) (mk_p D.int _ _)) q_nil) rfl rfl (hS_whole _ _ h_x11) rfl) rfl rfl (o_eqC (eP D.int D.int) rfl _ _)), rfl⟩)) rfl) rfl o_allL)) ⟨_, _, rfl, .inl rfl, (bk_p (Pl.pl (f := (eT (eT D.int))) _) (bk_p (Pl.pl (f := (eT D.int)) _) (bk_p (Pl.pl (f := PV.enc) _) bk_nil)))⟩)

theorem b__law_is_number (P : Ctx)  (thing : PV) (r : Bool) (h : _law_is_number thing = some r) : runF P Pg.f21 [PV.enc thing] = some (D.bl r, [PV.enc thing]) := by
  unfold _law_is_number at h
  refine run_G rfl ?_
  show RetG _ _ _ _ (evSs P _ [some (PV.enc thing)])
  have h := sj h
  subst h
  exact g_rt (s_rtv (x_and (x_andT (x_op1 (x_var PV.enc (a := thing) rfl) rfl o_isiI) (x_and1 (x_not (x_op1 (x_var PV.enc (a := thing) rfl) rfl o_isiB) rfl rfl))))) ⟨_, _, rfl, .inl rfl, (bk_p (Pl.pl (f := PV.enc) _) bk_nil)⟩

theorem b__law_is_fraction (P : Ctx) (hS__law_is_number : S__law_is_number P) (hS__law_low : S__law_low P) (thing : PV) (r : Bool) (h : _law_is_fraction thing = some r) : runF P Pg.f22 [PV.enc thing] = some (D.bl r, [PV.enc thing]) := by
  unfold _law_is_fraction at h
  refine run_G rfl ?_
  show RetG _ _ _ _ (evSs P _ [some (PV.enc thing)])
  obtain ⟨t8, h_t8, h⟩ := bnd h
  rcases iteo h with ⟨hc, h⟩ | ⟨hc, h⟩
  (refine g_iteT (t_or (t_orC (t_not (t_bl (x_op1 (x_var PV.enc (a := thing) rfl) rfl o_isiT))) (fun hc => by (have h := itF hc h_t8; obtain ⟨x1, h_x1, h⟩ := bnd h; exact (t_orC (t_bl (x_op2 (x_op1 (x_var PV.enc (a := thing) rfl) rfl (o_lnV h_x1)) x_int rfl rfl o_ne)) (fun hc => by (have h := itF hc h; obtain ⟨x2, h_x2, h⟩ := bnd h; obtain ⟨x3, h_x3, h⟩ := bnd h; exact (t_orC (t_not (t_bl (x_call (q_cons (x_sub (x_var PV.enc (a := thing) rfl) x_int rfl rfl (s_V h_x2) (mk_p PV.enc _ _)) q_nil) rfl rfl (hS__law_is_number _ _ h_x3) rfl))) (fun hc => by (have h := itF hc h; obtain ⟨x4, h_x4, h⟩ := bnd h; obtain ⟨x5, h_x5, h⟩ := bnd h; exact (t_orC (t_not (t_bl (x_call (q_cons (x_sub (x_var PV.enc (a := thing) rfl) x_int rfl rfl (s_V h_x4) (mk_p PV.enc _ _)) q_nil) rfl rfl (hS__law_is_number _ _ h_x5) rfl))) (fun hc => by (have h := itF hc h; obtain ⟨x6, h_x6, h⟩ := bnd h; obtain ⟨x7, h_x7, h⟩ := bnd h; have h := sj h; subst h; exact (t_or1 (t_bl (x_op2 (x_cast (d' := D.int x7) (x_sub (x_var PV.enc (a := thing) rfl) x_int rfl rfl (s_V h_x6) (mk_p PV.enc _ _)) (asI_enc h_x7)) x_int rfl rfl o_le))))) (fun hc => by (have h := itT hc h; cases h; exact ⟨rfl, rfl⟩))))) (fun hc => by (have h := itT hc h; cases h; exact ⟨rfl, rfl⟩))))) (fun hc => by (have h := itT hc h; cases h; exact ⟨rfl, rfl⟩))))) (fun hc => by (have h := itT hc h_t8; cases h; exact ⟨rfl, rfl⟩)))) hc ?_; have h := sj h; subst h; exact g_rt (s_rtv x_bl) ⟨_, _, rfl, .inl rfl, (bk_p (Pl.pl (f := PV.enc) _) bk_nil)⟩)
  (refine g_iteF (t_or (t_orC (t_not (t_bl (x_op1 (x_var PV.enc (a := thing) rfl) rfl o_isiT))) (fun hc => by (have h := itF hc h_t8; obtain ⟨x1, h_x1, h⟩ := bnd h; exact (t_orC (t_bl (x_op2 (x_op1 (x_var PV.enc (a := thing) rfl) rfl (o_lnV h_x1)) x_int rfl rfl o_ne)) (fun hc => by (have h := itF hc h; obtain ⟨x2, h_x2, h⟩ := bnd h; obtain ⟨x3, h_x3, h⟩ := bnd h; exact (t_orC (t_not (t_bl (x_call (q_cons (x_sub (x_var PV.enc (a := thing) rfl) x_int rfl rfl (s_V h_x2) (mk_p PV.enc _ _)) q_nil) rfl rfl (hS__law_is_number _ _ h_x3) rfl))) (fun hc => by (have h := itF hc h; obtain ⟨x4, h_x4, h⟩ := bnd h; obtain ⟨x5, h_x5, h⟩ := bnd h; exact (t_orC (t_not (t_bl (x_call (q_cons (x_sub (x_var PV.enc (a := thing) rfl) x_int rfl rfl (s_V h_x4) (mk_p PV.enc _ _)) q_nil) rfl rfl (hS__law_is_number _ _ h_x5) rfl))) (fun hc => by (have h := itF hc h; obtain ⟨x6, h_x6, h⟩ := bnd h; obtain ⟨x7, h_x7, h⟩ := bnd h; have h := sj h; subst h; exact (t_or1 (t_bl (x_op2 (x_cast (d' := D.int x7) (x_sub (x_var PV.enc (a := thing) rfl) x_int rfl rfl (s_V h_x6) (mk_p PV.enc _ _)) (asI_enc h_x7)) x_int rfl rfl o_le))))) (fun hc => by (have h := itT hc h; cases h; exact ⟨rfl, rfl⟩))))) (fun hc => by (have h := itT hc h; cases h; exact ⟨rfl, rfl⟩))))) (fun hc => by (have h := itT hc h; cases h; exact ⟨rfl, rfl⟩))))) (fun hc => by (have h := itT hc h_t8; cases h; exact ⟨rfl, rfl⟩)))) hc ?_; obtain ⟨x9, h_x9, h⟩ := bnd h; obtain ⟨x10, h_x10, h⟩ := bnd h; obtain ⟨x11, h_x11, h⟩ := bnd h; obtain ⟨x12, h_x12, h⟩ := bnd h; obtain ⟨x13, h_x13, h⟩ := bnd h; obtain ⟨x14, h_x14, h⟩ := bnd h; obtain ⟨x15, h_x15, h⟩ := bnd h; obtain ⟨x16, h_x16, h⟩ := bnd h; obtain ⟨x17, h_x17, h⟩ := bnde h; have h := sj h; subst h; exact g_rt (s_rtv (x_op2 (x_call (q_cons (x_op1 (x_cast (d' := D.int x10) (x_sub (x_var PV.enc (a := thing) rfl) x_int rfl rfl (s_V h_x9) (mk_p PV.enc _ _)) (asI_enc h_x10)) rfl o_absN) (q_cons (x_cast (d' := D.int x12) (x_sub (x_var PV.enc (a := thing) rfl) x_int rfl rfl (s_V h_x11) (mk_p PV.enc _ _)) (asI_enc h_x12)) q_nil)) rfl rfl (hS__law_low _ _ _ h_x13) rfl) (x_tupP D.int PV.enc (((x15).natAbs : Nat) : Int) x16 (m_cons (x_op1 (x_cast (d' := D.int x15) (x_sub (x_var PV.enc (a := thing) rfl) x_int rfl rfl (s_V h_x14) (mk_p PV.enc _ _)) (asI_enc h_x15)) rfl o_absN) (m_cons (x_sub (x_var PV.enc (a := thing) rfl) x_int rfl rfl (s_V h_x16) (mk_p PV.enc _ _)) m_nil))) rfl rfl (o_eqG h_x17))) ⟨_, _, rfl, .inl rfl, (bk_p (Pl.pl (f := PV.enc) _) bk_nil)⟩)

theorem b__law_is_fractions (P : Ctx) (hS__law_is_fraction : S__law_is_fraction P) (thing : PV) (many : Int) (r : Bool) (h : _law_is_fractions thing many = some r) : runF P Pg.f23 [PV.enc thing, D.int many] = some (D.bl r, [PV.enc thing, D.int many]) := by
  unfold _law_is_fractions at h
  refine run_G rfl ?_
  show RetG _ _ _ _ (evSs P _ [some (PV.enc thing), some (D.int many), none])
  obtain ⟨t8, h_t8, h⟩ := bnde h
  have h := sj h
  subst h
  exact g_rt (s_rtv (x_and (x_andC (x_op1 (x_var PV.enc (a := thing) rfl) rfl o_isiT) (fun hc => by (have h := itT hc h_t8; obtain ⟨x1, h_x1, h⟩ := bnd h; exact (x_andC (x_op2 (x_op1 (x_var PV.enc (a := thing) rfl) rfl (o_lnV h_x1)) (x_var D.int (a := many) rfl) rfl rfl o_eq) (fun hc => by (have h := itT hc h; obtain ⟨q2, h_q2, h⟩ := bnd h; obtain ⟨u3, h_u3, h⟩ := bnd h; obtain ⟨y6, h_y6, h⟩ := bnd h; obtain ⟨x7, h_x7, h⟩ := bnde h; have h := sj h; subst h; exact (x_and1 (x_op2 (x_compM (f := PV.enc) (g := PV.enc) (E0 := [some (PV.enc thing), some (D.int many), none]) (so_it (f := PV.enc) (q_cons (x_var PV.enc (a := thing) rfl) q_nil) (asQ_items h_q2)) rfl rfl (szG_le h_u3) h_y6 (fun a4 y h => by (obtain ⟨x5, h_x5, h⟩ := bnd h; rcases iteo h with ⟨hc, h⟩ | ⟨hc, h⟩; (have h := sj h; subst h; have ht : TX P false [some (PV.enc thing), some (D.int many), some (PV.enc a4)] (.not (.val (.call 22 [(.var 2)]))) _ _ := (t_not (t_bl (x_call (q_cons (x_var PV.enc (a := a4) rfl) q_nil) rfl rfl (hS__law_is_fraction _ _ h_x5) rfl))); rw [hc] at ht; exact stepC_y (e1 := [some (PV.enc thing), some (D.int many), some (PV.enc a4)]) rfl (t_and1 ht) (x_var PV.enc (a := a4) rfl) rfl); (have h := sj h; subst h; have ht : TX P false [some (PV.enc thing), some (D.int many), some (PV.enc a4)] (.not (.val (.call 22 [(.var 2)]))) _ _ := (t_not (t_bl (x_call (q_cons (x_var PV.enc (a := a4) rfl) q_nil) rfl rfl (hS__law_is_fraction _ _ h_x5) rfl))); rw [hc] at ht; exact stepC_n (e1 := [some (PV.enc thing), some (D.int many), some (PV.enc a4)]) rfl (t_and1 ht) rfl))) rfl) (x_lstL PV.enc ([] : List PV) m_nil rfl) rfl rfl (o_eqG h_x7))))) (fun hc => by (have h := itF hc h; cases h; exact ⟨rfl, rfl⟩))))) (fun hc => by (have h := itF hc h_t8; cases h; exact ⟨rfl, rfl⟩))))) ⟨_, _, rfl, .inl rfl, (bk_p (Pl.pl (f := PV.enc) _) (bk_p (Pl.pl (f := D.int) _) bk_nil))⟩

theorem b__law_mul (P : Ctx) (hS__law_low : S__law_low P) (x : (Int × Int)) (y : (Int × Int)) (r : (Int × Int)) (h : _law_mul x y = some r) : runF P Pg.f24 [(eP D.int D.int) x, (eP D.int D.int) y] = some ((eP D.int D.int) r, [(eP D.int D.int) x, (eP D.int D.int) y]) := by
  unfold _law_mul at h
  refine run_G rfl ?_
  show RetG _ _ _ _ (evSs P _ [some ((eP D.int D.int) x), some ((eP D.int D.int) y)])
  obtain ⟨x1, h_x1, h⟩ := bnd h
  obtain ⟨x2, h_x2, h⟩ := bnd h
  obtain ⟨x3, h_x3, h⟩ := bnde h
  have h := sj h
  subst h
  exact g_rt (s_rtv (x_call (q_cons (x_op2 (x_sub (x_var (eP D.int D.int) (a := x) rfl) x_int rfl rfl rfl (mk_p D.int _ _)) (x_sub (x_var (eP D.int D.int) (a := y) rfl) x_int rfl rfl rfl (mk_p D.int _ _)) rfl rfl (o_mulG h_x1)) (q_cons (x_op2 (x_sub (x_var (eP D.int D.int) (a := x) rfl) x_int rfl rfl rfl (mk_p D.int _ _)) (x_sub (x_var (eP D.int D.int) (a := y) rfl) x_int rfl rfl rfl (mk_p D.int _ _)) rfl rfl (o_mulG h_x2)) q_nil)) rfl rfl (hS__law_low _ _ _ h_x3) rfl)) ⟨_, _, rfl, .inl rfl, (bk_p (Pl.pl (f := (eP D.int D.int)) _) (bk_p (Pl.pl (f := (eP D.int D.int)) _) bk_nil))⟩

theorem b__law_add (P : Ctx) (hS__law_low : S__law_low P) (x : (Int × Int)) (y : (Int × Int)) (r : (Int × Int)) (h : _law_add x y = some r) : runF P Pg.f25 [(eP D.int D.int) x, (eP D.int D.int) y] = some ((eP D.int D.int) r, [(eP D.int D.int) x, (eP D.int D.int) y]) := by
  unfold _law_add at h
  refine run_G rfl ?_
  show RetG _ _ _ _ (evSs P _ [some ((eP D.int D.int) x), some ((eP D.int D.int) y)])
  obtain ⟨x1, h_x1, h⟩ := bnd h
  obtain ⟨x2, h_x2, h⟩ := bnd h
  obtain ⟨x3, h_x3, h⟩ := bnd h
  obtain ⟨x4, h_x4, h⟩ := bnde h
  have h := sj h
  subst h
  exact g_rt (s_rtv (x_call (q_cons (x_op2 (x_op2 (x_sub (x_var (eP D.int D.int) (a := x) rfl) x_int rfl rfl rfl (mk_p D.int _ _)) (x_sub (x_var (eP D.int D.int) (a := y) rfl) x_int rfl rfl rfl (mk_p D.int _ _)) rfl rfl (o_mulG h_x1)) (x_op2 (x_sub (x_var (eP D.int D.int) (a := y) rfl) x_int rfl rfl rfl (mk_p D.int _ _)) (x_sub (x_var (eP D.int D.int) (a := x) rfl) x_int rfl rfl rfl (mk_p D.int _ _)) rfl rfl (o_mulG h_x2)) rfl rfl o_add) (q_cons (x_op2 (x_sub (x_var (eP D.int D.int) (a := x) rfl) x_int rfl rfl rfl (mk_p D.int _ _)) (x_sub (x_var (eP D.int D.int) (a := y) rfl) x_int rfl rfl rfl (mk_p D.int _ _)) rfl rfl (o_mulG h_x3)) q_nil)) rfl rfl (hS__law_low _ _ _ h_x4) rfl)) ⟨_, _, rfl, .inl rfl, (bk_p (Pl.pl (f := (eP D.int D.int)) _) (bk_p (Pl.pl (f := (eP D.int D.int)) _) bk_nil))⟩

theorem b__law_dot (P : Ctx) (hS__law_mul : S__law_mul P) (hS__law_add : S__law_add P) (row : (List Int)) (xs : (List (Int × Int))) (r : (Int × Int)) (h : _law_dot row xs = some r) : runF P Pg.f26 [(eT D.int) row, (eT (eP D.int D.int)) xs] = some ((eP D.int D.int) r, [(eT D.int) row, (eT (eP D.int D.int)) xs]) := by
  unfold _law_dot at h
  refine run_G rfl ?_
  show RetG _ _ _ _ (evSs P _ [some ((eT D.int) row), some ((eT (eP D.int D.int)) xs), none, none])
  refine g_nx (e := [some ((eT D.int) row), some ((eT (eP D.int D.int)) xs), some ((eP D.int D.int) (0, 1)), none]) (s_asg (x_tupP D.int D.int 0 1 (m_cons x_int (m_cons x_int m_nil))) rfl) ?_
  obtain ⟨r1, h_r1, h⟩ := bnd h
  obtain ⟨s10, h_s10, h⟩ := bnde h
  refine g_forF (f := D.int) (fun (s2 : ((Int × Int))) e => ∃ (d3 : Option D), e = [some ((eT D.int) row), some ((eT (eP D.int D.int)) xs), some ((eP D.int D.int) s2), d3]) (fo_rng1 (q_cons (x_op1 (x_var (eT D.int) (a := row) rfl) rfl o_lnT) q_nil) h_r1) ⟨_, rfl⟩ h_s10 (fun i4 s2 s' e he h => by (obtain ⟨d3, rfl⟩ := he; refine g_bind (e1 := [some ((eT D.int) row), some ((eT (eP D.int D.int)) xs), some ((eP D.int D.int) s2), some (D.int i4)]) rfl ?_; obtain ⟨x5, h_x5, h⟩ := bnd h; obtain ⟨x6, h_x6, h⟩ := bnd h; obtain ⟨x7, h_x7, h⟩ := bnd h; obtain ⟨x8, h_x8, h⟩ := bnde h; refine g_nx (e := [some ((eT D.int) row), some ((eT (eP D.int D.int)) xs), some ((eP D.int D.int) x8), some (D.int i4)]) (s_asg (x_call (q_cons (x_var (eP D.int D.int) (a := s2) rfl) (q_cons (x_call (q_cons (x_tupP D.int D.int x5 1 (m_cons (x_sub (x_var (eT D.int) (a := row) rfl) (x_var D.int (a := i4) rfl) rfl rfl (s_T h_x5) (mk_p D.int _ _)) (m_cons x_int m_nil))) (q_cons (x_sub (x_var (eT (eP D.int D.int)) (a := xs) rfl) (x_var D.int (a := i4) rfl) rfl rfl (s_T h_x6) (mk_p (eP D.int D.int) _ _)) q_nil)) rfl rfl (hS__law_mul _ _ _ h_x7) rfl) q_nil)) rfl rfl (hS__law_add _ _ _ h_x8) rfl) rfl) ?_; have h := sj h; subst h; exact g_end ⟨_, _, rfl, .inl rfl, ⟨_, rfl⟩⟩)) ?_
  intro e hI; obtain ⟨d9, rfl⟩ := hI
  have h := sj h
  subst h
  exact g_rt (s_rtv (x_var (eP D.int D.int) (a := s10) rfl)) ⟨_, _, rfl, .inl rfl, (bk_p (Pl.pl (f := (eT D.int)) _) (bk_p (Pl.pl (f := (eT (eP D.int D.int))) _) bk_nil))⟩

theorem b__law_is_solution (P : Ctx) (hS__law_is_fractions : S__law_is_fractions P) (hS__law_dot : S__law_dot P) (rows : (List (List Int))) (sums : (List Int)) (x : PV) (r : Bool) (h : _law_is_solution rows sums x = some r) : runF P Pg.f27 [(eT (eT D.int)) rows, (eT D.int) sums, PV.enc x] = some (D.bl r, [(eT (eT D.int)) rows, (eT D.int) sums, PV.enc x]) := by
  unfold _law_is_solution at h
  refine run_G rfl ?_
  show RetG _ _ _ _ (evSs P _ [some ((eT (eT D.int)) rows), some ((eT D.int) sums), some (PV.enc x), none])
  obtain ⟨x1, h_x1, h⟩ := bnd h
  obtain ⟨x2, h_x2, h⟩ := bnd h
  rcases iteo h with ⟨hc, h⟩ | ⟨hc, h⟩
  (refine g_iteT (t_not (t_bl (x_call (q_cons (x_var PV.enc (a := x) rfl) (q_cons (x_op1 (x_sub (x_var (eT (eT D.int)) (a := rows) rfl) x_int rfl rfl (s_T h_x1) (mk_p (eT D.int) _ _)) rfl o_lnT) q_nil)) rfl rfl (hS__law_is_fractions _ _ _ h_x2) rfl))) hc ?_; have h := sj h; subst h; exact g_rt (s_rtv x_bl) ⟨_, _, rfl, .inl rfl, (bk_p (Pl.pl (f := (eT (eT D.int))) _) (bk_p (Pl.pl (f := (eT D.int)) _) (bk_p (Pl.pl (f := PV.enc) _) bk_nil)))⟩)
  (refine g_iteF (t_not (t_bl (x_call (q_cons (x_var PV.enc (a := x) rfl) (q_cons (x_op1 (x_sub (x_var (eT (eT D.int)) (a := rows) rfl) x_int rfl rfl (s_T h_x1) (mk_p (eT D.int) _ _)) rfl o_lnT) q_nil)) rfl rfl (hS__law_is_fractions _ _ _ h_x2) rfl))) hc ?_; obtain ⟨r3, h_r3, h⟩ := bnd h; obtain ⟨u4, h_u4, h⟩ := bnd h; obtain ⟨y10, h_y10, h⟩ := bnd h; have h := sj h; subst h; exact g_rt (s_rtv (x_op2 (x_compM (f := D.int) (g := D.int) (E0 := [some ((eT (eT D.int)) rows), some ((eT D.int) sums), some (PV.enc x), none]) (so_rng1 (q_cons (x_op1 (x_var (eT (eT D.int)) (a := rows) rfl) rfl o_lnT) q_nil) h_r3) rfl rfl (szG_le h_u4) h_y10 (fun a5 y h => by (obtain ⟨x6, h_x6, h⟩ := bnd h; obtain ⟨x7, h_x7, h⟩ := bnd h; obtain ⟨x8, h_x8, h⟩ := bnd h; obtain ⟨x9, h_x9, h⟩ := bnd h; rcases iteo h with ⟨hc, h⟩ | ⟨hc, h⟩; (have h := sj h; subst h; have ht : TX P false [some ((eT (eT D.int)) rows), some ((eT D.int) sums), some (PV.enc x), some (D.int a5)] (.val (.op (.cmp .NotEq) [(.call 26 [(.sub (.var 0) (.var 3)), (.var 2)]), (.tup [(.sub (.var 1) (.var 3)), (.int 1)])])) _ _ := (t_bl (x_op2 (x_call (q_cons (x_sub (x_var (eT (eT D.int)) (a := rows) rfl) (x_var D.int (a := a5) rfl) rfl rfl (s_T h_x6) (mk_p (eT D.int) _ _)) (q_cons (x_cast (d' := (eT (eP D.int D.int)) x7) (x_var PV.enc (a := x) rfl) ((dnT_enc (dnP_enc dnI_enc dnI_enc)) _ _ h_x7)) q_nil)) rfl rfl (hS__law_dot _ _ _ h_x8) rfl) (x_tupP D.int D.int x9 1 (m_cons (x_sub (x_var (eT D.int) (a := sums) rfl) (x_var D.int (a := a5) rfl) rfl rfl (s_T h_x9) (mk_p D.int _ _)) (m_cons x_int m_nil))) rfl rfl (o_neC (eP D.int D.int) rfl _ _))); rw [hc] at ht; exact stepC_y (e1 := [some ((eT (eT D.int)) rows), some ((eT D.int) sums), some (PV.enc x), some (D.int a5)]) rfl (t_and1 ht) (x_var D.int (a := a5) rfl) rfl); (have h := sj h; subst h; have ht : TX P false [some ((eT (eT D.int)) rows), some ((eT D.int) sums), some (PV.enc x), some (D.int a5)] (.val (.op (.cmp .NotEq) [(.call 26 [(.sub (.var 0) (.var 3)), (.var 2)]), (.tup [(.sub (.var 1) (.var 3)), (.int 1)])])) _ _ := (t_bl (x_op2 (x_call (q_cons (x_sub (x_var (eT (eT D.int)) (a := rows) rfl) (x_var D.int (a := a5) rfl) rfl rfl (s_T h_x6) (mk_p (eT D.int) _ _)) (q_cons (x_cast (d' := (eT (eP D.int D.int)) x7) (x_var PV.enc (a := x) rfl) ((dnT_enc (dnP_enc dnI_enc dnI_enc)) _ _ h_x7)) q_nil)) rfl rfl (hS__law_dot _ _ _ h_x8) rfl) (x_tupP D.int D.int x9 1 (m_cons (x_sub (x_var (eT D.int) (a := sums) rfl) (x_var D.int (a := a5) rfl) rfl rfl (s_T h_x9) (mk_p D.int _ _)) (m_cons x_int m_nil))) rfl rfl (o_neC (eP D.int D.int) rfl _ _))); rw [hc] at ht; exact stepC_n (e1 := [some ((eT (eT D.int)) rows), some ((eT D.int) sums), some (PV.enc x), some (D.int a5)]) rfl (t_and1 ht) rfl))) rfl) (x_cast (d' := (eL D.int) []) (x_lstL PV.enc ([] : List PV) m_nil rfl) rfl) rfl rfl (o_eqC (eL D.int) rfl _ _))) ⟨_, _, rfl, .inl rfl, (bk_p (Pl.pl (f := (eT (eT D.int))) _) (bk_p (Pl.pl (f := (eT D.int)) _) (bk_p (Pl.pl (f := PV.enc) _) bk_nil)))⟩)

theorem b__law_same (P : Ctx)  (told : Bool) (due : Bool) (r : Bool) (h : _law_same told due = some r) : runF P Pg.f28 [D.bl told, D.bl due] = some (D.bl r, [D.bl told, D.bl due]) := by
  unfold _law_same at h
  refine run_G rfl ?_
  show RetG _ _ _ _ (evSs P _ [some (D.bl told), some (D.bl due)])
  obtain ⟨v1, h_v1, h⟩ := bnde h
  have h := sj h
  subst h
  exact g_rt (s_rtv (show AX P false _ (.ite (.val (.var 1)) (.op (.isB true) [(.var 0)]) (.op (.isB false) [(.var 0)])) (.tmp (D.bl v1)) _ from (x_ite (t_bl (x_var D.bl (a := due) rfl)) (fun hc => by (have h := itT hc h_v1; have h := sj h; subst h; exact (x_op1 (x_var D.bl (a := told) rfl) rfl o_isB))) (fun hc => by (have h := itF hc h_v1; have h := sj h; subst h; exact (x_op1 (x_var D.bl (a := told) rfl) rfl o_isB)))))) ⟨_, _, rfl, .inl rfl, (bk_p (Pl.pl (f := D.bl) _) (bk_p (Pl.pl (f := D.bl) _) bk_nil))⟩

theorem b__law_more (P : Ctx) (hS_next : S_next P 1) (hS_pick : S_pick P 2) (w : W) (rows : (List (List Int))) (sums : (List Int)) (r : (((List (List Int)) × (List Int) × (List Int)) × W)) (h : _law_more w rows sums = some r) : runF P Pg.f29 [eW w, (eT (eT D.int)) rows, (eT D.int) sums] = some ((e3 (eT (eT D.int)) (eT D.int) (eT D.int)) r.1, [eW r.2, (eT (eT D.int)) rows, (eT D.int) sums]) := by
  unfold _law_more at h
  refine run_G rfl ?_
  show RetG _ _ _ _ (evSs P _ [some (eW w), some ((eT (eT D.int)) rows), some ((eT D.int) sums), none, none, none, none, none, none, none])
  obtain ⟨p1, h_p1, h⟩ := bnd h
  obtain ⟨p2, h_p2, h⟩ := bnd h
  refine g_nx (e := [some (eW p2.2), some ((eT (eT D.int)) rows), some ((eT D.int) sums), none, none, some (D.int p1.1), some (D.int p2.1), none, none, none]) (s_asg (x_tupP D.int D.int p1.1 p2.1 (m_cons (x_call (q_cons (x_ref rfl rfl) (q_cons (x_op1 (x_var (eT (eT D.int)) (a := rows) rfl) rfl o_lnT) q_nil)) rfl rfl (hS_next _ _ _ h_p1) rfl) (m_cons (x_call (q_cons (x_ref rfl rfl) (q_cons (x_op1 (x_var (eT (eT D.int)) (a := rows) rfl) rfl o_lnT) q_nil)) rfl rfl (hS_next _ _ _ h_p2) rfl) m_nil))) rfl) ?_
  obtain ⟨p3, h_p3, h⟩ := bnd h
  obtain ⟨p4, h_p4, h⟩ := bnd h
  refine g_nx (e := [some (eW p4.2), some ((eT (eT D.int)) rows), some ((eT D.int) sums), none, none, some (D.int p1.1), some (D.int p2.1), some (D.int (p3.1 - 3)), some (D.int (p4.1 - 3)), none]) (s_asg (x_tupP D.int D.int (p3.1 - 3) (p4.1 - 3) (m_cons (x_op2 (x_call (q_cons (x_ref rfl rfl) (q_cons x_int q_nil)) rfl rfl (hS_next _ _ _ h_p3) rfl) x_int rfl rfl o_sub) (m_cons (x_op2 (x_call (q_cons (x_ref rfl rfl) (q_cons x_int q_nil)) rfl rfl (hS_next _ _ _ h_p4) rfl) x_int rfl rfl o_sub) m_nil))) rfl) ?_
  obtain ⟨x5, h_x5, h⟩ := bnd h
  obtain ⟨r6, h_r6, h⟩ := bnd h
  obtain ⟨u7, h_u7, h⟩ := bnd h
  obtain ⟨y15, h_y15, h⟩ := bnd h
  refine g_nx (e := [some (eW p4.2), some ((eT (eT D.int)) rows), some ((eT D.int) sums), some ((eT D.int) y15), none, some (D.int p1.1), some (D.int p2.1), some (D.int (p3.1 - 3)), some (D.int (p4.1 - 3)), none]) (s_asg (x_op1 (x_mapO (f := D.int) (g := D.int) (E0 := [some (eW p4.2), some ((eT (eT D.int)) rows), some ((eT D.int) sums), none, none, some (D.int p1.1), some (D.int p2.1), some (D.int (p3.1 - 3)), some (D.int (p4.1 - 3)), none]) (so_rng1 (q_cons (x_op1 (x_sub (x_var (eT (eT D.int)) (a := rows) rfl) x_int rfl rfl (s_T h_x5) (mk_p (eT D.int) _ _)) rfl o_lnT) q_nil) h_r6) rfl rfl (szG_le h_u7) h_y15 (fun a8 y h => by (obtain ⟨x9, h_x9, h⟩ := bnd h; obtain ⟨x10, h_x10, h⟩ := bnd h; obtain ⟨x11, h_x11, h⟩ := bnd h; obtain ⟨x12, h_x12, h⟩ := bnd h; obtain ⟨x13, h_x13, h⟩ := bnd h; obtain ⟨x14, h_x14, h⟩ := bnd h; have h := sj h; subst h; exact ⟨[some (eW p4.2), some ((eT (eT D.int)) rows), some ((eT D.int) sums), none, none, some (D.int p1.1), some (D.int p2.1), some (D.int (p3.1 - 3)), some (D.int (p4.1 - 3)), some (D.int a8)], _, rfl, (x_op2 (x_op2 (x_var D.int (a := (p3.1 - 3)) rfl) (x_sub (x_sub (x_var (eT (eT D.int)) (a := rows) rfl) (x_var D.int (a := p1.1) rfl) rfl rfl (s_T h_x9) (mk_p (eT D.int) _ _)) (x_var D.int (a := a8) rfl) rfl rfl (s_T h_x10) (mk_p D.int _ _)) rfl rfl (o_mulG h_x11)) (x_op2 (x_var D.int (a := (p4.1 - 3)) rfl) (x_sub (x_sub (x_var (eT (eT D.int)) (a := rows) rfl) (x_var D.int (a := p2.1) rfl) rfl rfl (s_T h_x12) (mk_p (eT D.int) _ _)) (x_var D.int (a := a8) rfl) rfl rfl (s_T h_x13) (mk_p D.int _ _)) rfl rfl (o_mulG h_x14)) rfl rfl o_add), rfl⟩)) rfl) rfl (o_tupL D.int)) rfl) ?_
  obtain ⟨x16, h_x16, h⟩ := bnd h
  refine g_nx (e := [some (eW p4.2), some ((eT (eT D.int)) rows), some ((eT D.int) sums), some ((eT D.int) y15), some ((eL D.int) x16), some (D.int p1.1), some (D.int p2.1), some (D.int (p3.1 - 3)), some (D.int (p4.1 - 3)), none]) (s_asg (x_op2 (x_lstL D.int ([0] : List Int) (m_cons x_int m_nil) rfl) (x_op1 (x_var (eT (eT D.int)) (a := rows) rfl) rfl o_lnT) rfl rfl (o_repL D.int h_x16)) rfl) ?_
  obtain ⟨x17, h_x17, h⟩ := bnd h
  obtain ⟨l18, h_l18, h⟩ := bnd h
  refine g_nx (e := [some (eW p4.2), some ((eT (eT D.int)) rows), some ((eT D.int) sums), some ((eT D.int) y15), some ((eL D.int) l18), some (D.int p1.1), some (D.int p2.1), some (D.int (p3.1 - 3)), some (D.int (p4.1 - 3)), none]) (s_augS (c := eL D.int x16) rfl (x_var D.int (a := p1.1) rfl) (s_L h_x17) (x_var D.int (a := (p3.1 - 3)) rfl) rfl a_add (set_L (f := D.int) h_l18) rfl) ?_
  obtain ⟨x19, h_x19, h⟩ := bnd h
  obtain ⟨l20, h_l20, h⟩ := bnd h
  refine g_nx (e := [some (eW p4.2), some ((eT (eT D.int)) rows), some ((eT D.int) sums), some ((eT D.int) y15), some ((eL D.int) l20), some (D.int p1.1), some (D.int p2.1), some (D.int (p3.1 - 3)), some (D.int (p4.1 - 3)), none]) (s_augS (c := eL D.int l18) rfl (x_var D.int (a := p2.1) rfl) (s_L h_x19) (x_var D.int (a := (p4.1 - 3)) rfl) rfl a_add (set_L (f := D.int) h_l20) rfl) ?_
  obtain ⟨x21, h_x21, h⟩ := bnd h
  obtain ⟨x22, h_x22, h⟩ := bnd h
  obtain ⟨x23, h_x23, h⟩ := bnd h
  obtain ⟨x24, h_x24, h⟩ := bnd h
  obtain ⟨x25, h_x25, h⟩ := bnd h
  obtain ⟨p26, h_p26, h⟩ := bnd h
  obtain ⟨x27, h_x27, h⟩ := bnd h
  obtain ⟨x28, h_x28, h⟩ := bnd h
  have h := sj h
  subst h
  exact g_rt (s_rtv (x_tup3 (eT (eT D.int)) (eT D.int) (eT D.int) x21 x27 x28 (m_cons (x_op2 (x_var (eT (eT D.int)) (a := rows) rfl) (x_tupT (eT D.int) ([y15] : List (List Int)) (m_cons (x_var (eT D.int) (a := y15) rfl) m_nil) rfl) rfl rfl (o_catT (eT D.int) h_x21)) (m_cons (x_op2 (x_var (eT D.int) (a := sums) rfl) (x_tupT D.int ([((x23 + x25) + p26.1)] : List Int) (m_cons (x_op2 (x_op2 (x_op2 (x_var D.int (a := (p3.1 - 3)) rfl) (x_sub (x_var (eT D.int) (a := sums) rfl) (x_var D.int (a := p1.1) rfl) rfl rfl (s_T h_x22) (mk_p D.int _ _)) rfl rfl (o_mulG h_x23)) (x_op2 (x_var D.int (a := (p4.1 - 3)) rfl) (x_sub (x_var (eT D.int) (a := sums) rfl) (x_var D.int (a := p2.1) rfl) rfl rfl (s_T h_x24) (mk_p D.int _ _)) rfl rfl (o_mulG h_x25)) rfl rfl o_add) (x_call (q_cons (x_ref rfl rfl) (q_cons (x_lstL D.int ([0, 0, 1, (-2)] : List Int) (m_cons x_int (m_cons x_int (m_cons x_int (m_cons (x_op1 x_int rfl o_neg) m_nil)))) rfl) q_nil)) rfl rfl (hS_pick D.int _ _ _ _ h_p26) rfl) rfl rfl o_add) m_nil) rfl) rfl rfl (o_catT D.int h_x27)) (m_cons (x_op2 (x_op1 (x_ref rfl rfl) rfl (o_tupL D.int)) (x_tupT D.int ([(-1)] : List Int) (m_cons (x_op1 x_int rfl o_neg) m_nil) rfl) rfl rfl (o_catT D.int h_x28)) m_nil))))) ⟨_, _, rfl, .inl rfl, (bk_r rfl rfl rfl (bk_p (Pl.pl (f := (eT (eT D.int))) _) (bk_p (Pl.pl (f := (eT D.int)) _) bk_nil)))⟩

theorem b_is_number (P : Ctx)  (thing : PV) (r : Bool) (h : is_number thing = some r) : runF P Pg.f30 [PV.enc thing] = some (D.bl r, [PV.enc thing]) := by
  unfold is_number at h
  refine run_G rfl ?_
  show RetG _ _ _ _ (evSs P _ [some (PV.enc thing)])
  have h := sj h
  subst h
  exact g_rt (s_rtv (x_and (x_andT (x_op1 (x_var PV.enc (a := thing) rfl) rfl o_isiI) (x_and1 (x_not (x_op1 (x_var PV.enc (a := thing) rfl) rfl o_isiB) rfl rfl))))) ⟨_, _, rfl, .inl rfl, (bk_p (Pl.pl (f := PV.enc) _) bk_nil)⟩

theorem b_is_numbers (P : Ctx) (hS_is_number : S_is_number P) (thing : PV) (many : Int) (r : Bool) (h : is_numbers thing many = some r) : runF P Pg.f31 [PV.enc thing, D.int many] = some (D.bl r, [PV.enc thing, D.int many]) := by
  unfold is_numbers at h
  refine run_G rfl ?_
  show RetG _ _ _ _ (evSs P _ [some (PV.enc thing), some (D.int many), none])
  obtain ⟨t7, h_t7, h⟩ := bnde h
  have h := sj h
  subst h
  exact g_rt (s_rtv (x_and (x_andC (x_op1 (x_var PV.enc (a := thing) rfl) rfl o_isiT) (fun hc => by (have h := itT hc h_t7; obtain ⟨x1, h_x1, h⟩ := bnd h; exact (x_andC (x_op2 (x_op1 (x_var PV.enc (a := thing) rfl) rfl (o_lnV h_x1)) (x_var D.int (a := many) rfl) rfl rfl o_eq) (fun hc => by (have h := itT hc h; obtain ⟨q2, h_q2, h⟩ := bnd h; obtain ⟨u3, h_u3, h⟩ := bnd h; obtain ⟨y6, h_y6, h⟩ := bnd h; have h := sj h; subst h; exact (x_and1 (x_op1 (x_mapO (f := PV.enc) (g := D.bl) (E0 := [some (PV.enc thing), some (D.int many), none]) (so_it (f := PV.enc) (q_cons (x_var PV.enc (a := thing) rfl) q_nil) (asQ_items h_q2)) rfl rfl (szG_le h_u3) h_y6 (fun a4 y h => by (obtain ⟨x5, h_x5, h⟩ := bnde h; have h := sj h; subst h; exact ⟨[some (PV.enc thing), some (D.int many), some (PV.enc a4)], _, rfl, (x_call (q_cons (x_var PV.enc (a := a4) rfl) q_nil) rfl rfl (hS_is_number _ _ h_x5) rfl), rfl⟩)) rfl) rfl o_allL)))) (fun hc => by (have h := itF hc h; cases h; exact ⟨rfl, rfl⟩))))) (fun hc => by (have h := itF hc h_t7; cases h; exact ⟨rfl, rfl⟩))))) ⟨_, _, rfl, .inl rfl, (bk_p (Pl.pl (f := PV.enc) _) (bk_p (Pl.pl (f := D.int) _) bk_nil))⟩

theorem b_wholes_q (P : Ctx) (hS_whole : S_whole P) (numbers : (List Int)) (r : (List (Int × Int))) (h : wholes numbers = some r) : runF P Pg.f32 [(eL D.int) numbers] = some ((eT (eP D.int D.int)) r, [(eL D.int) numbers]) := by
  unfold wholes at h
  refine run_G rfl ?_
  show RetG _ _ _ _ (evSs P _ [some ((eL D.int) numbers), none])
  obtain ⟨u1, h_u1, h⟩ := bnd h
  obtain ⟨y4, h_y4, h⟩ := bnde h
  have h := sj h
  subst h
  exact g_rt (s_rtv (x_op1 (x_mapO (f := D.int) (g := (eP D.int D.int)) (E0 := [none, none]) (so_lend (f := D.int) (q_cons (x_ref rfl rfl) q_nil) rfl it_L rfl) rfl rfl (szG_le h_u1) h_y4 (fun a2 y h => by (obtain ⟨x3, h_x3, h⟩ := bnde h; have h := sj h; subst h; exact ⟨[none, some (D.int a2)], _, rfl, (x_call (q_cons (x_var D.int (a := a2) rfl) q_nil) rfl rfl (hS_whole _ _ h_x3) rfl), rfl⟩)) rfl) rfl (o_tupL (eP D.int D.int)))) ⟨_, _, rfl, .inl rfl, (bk_r rfl rfl rfl bk_nil)⟩

theorem b_summed (P : Ctx) (hS_wholes_q : S_wholes_q P) (hS_dot : S_dot P) (rows : (List (List Int))) (ys : (List (Int × Int))) (r : (List (Int × Int))) (h : summed rows ys = some r) : runF P Pg.f33 [(eT (eT D.int)) rows, (eT (eP D.int D.int)) ys] = some ((eT (eP D.int D.int)) r, [(eT (eT D.int)) rows, (eT (eP D.int D.int)) ys]) := by
  unfold summed at h
  refine run_G rfl ?_
  show RetG _ _ _ _ (evSs P _ [some ((eT (eT D.int)) rows), some ((eT (eP D.int D.int)) ys), none, none, none])
  obtain ⟨v2, h_v2, h⟩ := bnd h
  refine g_nx (e := [some ((eT (eT D.int)) rows), some ((eT (eP D.int D.int)) ys), some (D.int v2), none, none]) (s_asg (show AX P false _ (.ite (.val (.op (.cmp .NotEq) [(.var 0), (.tup [])])) (.op .len [(.sub (.var 0) (.int 0))]) (.int 0)) (.tmp (D.int v2)) _ from (x_ite (t_bl (x_op2 (x_var (eT (eT D.int)) (a := rows) rfl) (x_cast (d' := (eT (eT D.int)) []) (x_tupT PV.enc [] m_nil rfl) rfl) rfl rfl (o_neC (eT (eT D.int)) rfl _ _))) (fun hc => by (have h := itT hc h_v2; obtain ⟨x1, h_x1, h⟩ := bnd h; have h := sj h; subst h; exact (x_op1 (x_sub (x_var (eT (eT D.int)) (a := rows) rfl) x_int rfl rfl (s_T h_x1) (mk_p (eT D.int) _ _)) rfl o_lnT))) (fun hc => by (have h := itF hc h_v2; have h := sj h; subst h; exact x_int)))) rfl) ?_
  obtain ⟨r3, h_r3, h⟩ := bnd h
  obtain ⟨u4, h_u4, h⟩ := bnd h
  obtain ⟨y12, h_y12, h⟩ := bnde h
  have h := sj h
  subst h
  exact g_rt (s_rtv (x_op1 (x_mapO (f := D.int) (g := (eP D.int D.int)) (E0 := [some ((eT (eT D.int)) rows), some ((eT (eP D.int D.int)) ys), some (D.int v2), none, none]) (so_rng1 (q_cons (x_var D.int (a := v2) rfl) q_nil) h_r3) rfl rfl (szG_le h_u4) h_y12 (fun a5 y h => by (obtain ⟨u6, h_u6, h⟩ := bnd h; obtain ⟨y9, h_y9, h⟩ := bnd h; obtain ⟨x10, h_x10, h⟩ := bnd h; obtain ⟨x11, h_x11, h⟩ := bnde h; have h := sj h; subst h; exact ⟨[some ((eT (eT D.int)) rows), some ((eT (eP D.int D.int)) ys), some (D.int v2), some (D.int a5), none], _, rfl, (x_call (q_cons (x_call (q_cons (x_mapO (f := (eT D.int)) (g := D.int) (E0 := [some ((eT (eT D.int)) rows), some ((eT (eP D.int D.int)) ys), some (D.int v2), some (D.int a5), none]) (so_it (f := (eT D.int)) (xs := rows) (q_cons (x_var (eT (eT D.int)) (a := rows) rfl) q_nil) it_T) rfl rfl (szG_le h_u6) h_y9 (fun a7 y h => by (obtain ⟨x8, h_x8, h⟩ := bnde h; have h := sj h; subst h; exact ⟨[some ((eT (eT D.int)) rows), some ((eT (eP D.int D.int)) ys), some (D.int v2), some (D.int a5), some ((eT D.int) a7)], _, rfl, (x_sub (x_var (eT D.int) (a := a7) rfl) (x_var D.int (a := a5) rfl) rfl rfl (s_T h_x8) (mk_p D.int _ _)), rfl⟩)) rfl) q_nil) rfl rfl (hS_wholes_q _ _ h_x10) rfl) (q_cons (x_var (eT (eP D.int D.int)) (a := ys) rfl) q_nil)) rfl rfl (hS_dot _ _ _ h_x11) rfl), rfl⟩)) rfl) rfl (o_tupL (eP D.int D.int)))) ⟨_, _, rfl, .inl rfl, (bk_p (Pl.pl (f := (eT (eT D.int))) _) (bk_p (Pl.pl (f := (eT (eP D.int D.int))) _) bk_nil))⟩

theorem b_is_no_solution (P : Ctx) (hS_is_numbers : S_is_numbers P) (hS_wholes : S_wholes P) (hS_summed : S_summed P) (hS_dot : S_dot P) (rows : (List (List Int))) (sums : (List Int)) (y : PV) (r : Bool) (h : is_no_solution rows sums y = some r) : runF P Pg.f34 [(eT (eT D.int)) rows, (eT D.int) sums, PV.enc y] = some (D.bl r, [(eT (eT D.int)) rows, (eT D.int) sums, PV.enc y]) := by
  unfold is_no_solution at h
  refine run_G rfl ?_
  show RetG _ _ _ _ (evSs P _ [some ((eT (eT D.int)) rows), some ((eT D.int) sums), some (PV.enc y), none, none])
  obtain ⟨x1, h_x1, h⟩ := bnd h
  rcases iteo h with ⟨hc, h⟩ | ⟨hc, h⟩
  (refine g_iteT (t_not (t_bl (x_call (q_cons (x_var PV.enc (a := y) rfl) (q_cons (x_op1 (x_var (eT (eT D.int)) (a := rows) rfl) rfl o_lnT) q_nil)) rfl rfl (hS_is_numbers _ _ _ h_x1) rfl))) hc ?_; have h := sj h; subst h; exact g_rt (s_rtv x_bl) ⟨_, _, rfl, .inl rfl, (bk_p (Pl.pl (f := (eT (eT D.int))) _) (bk_p (Pl.pl (f := (eT D.int)) _) (bk_p (Pl.pl (f := PV.enc) _) bk_nil)))⟩)
  (refine g_iteF (t_not (t_bl (x_call (q_cons (x_var PV.enc (a := y) rfl) (q_cons (x_op1 (x_var (eT (eT D.int)) (a := rows) rfl) rfl o_lnT) q_nil)) rfl rfl (hS_is_numbers _ _ _ h_x1) rfl))) hc ?_; obtain ⟨x2, h_x2, h⟩ := bnd h; obtain ⟨x3, h_x3, h⟩ := bnd h; refine g_nx (e := [some ((eT (eT D.int)) rows), some ((eT D.int) sums), some (PV.enc y), some ((eT (eP D.int D.int)) x3), none]) (s_asg (x_call (q_cons (x_cast (d' := (eT D.int) x2) (x_var PV.enc (a := y) rfl) ((dnT_enc dnI_enc) _ _ h_x2)) q_nil) rfl rfl (hS_wholes _ _ h_x3) rfl) rfl) ?_; obtain ⟨x4, h_x4, h⟩ := bnd h; obtain ⟨u5, h_u5, h⟩ := bnd h; obtain ⟨t9, h_t9, h⟩ := bnde h; have h := sj h; subst h; exact g_rt (s_rtv (x_and (x_andC (x_op1 (x_map (f := (eP D.int D.int)) (g := D.bl) (F := fun a6 => (decide (a6.1 = 0))) (E0 := [some ((eT (eT D.int)) rows), some ((eT D.int) sums), some (PV.enc y), some ((eT (eP D.int D.int)) x3), none]) (so_it (f := (eP D.int D.int)) (xs := x4) (q_cons (x_call (q_cons (x_var (eT (eT D.int)) (a := rows) rfl) (q_cons (x_var (eT (eP D.int D.int)) (a := x3) rfl) q_nil)) rfl rfl (hS_summed _ _ _ h_x4) rfl) q_nil) it_T) rfl rfl (szG_le h_u5) (fun a6 => ⟨[some ((eT (eT D.int)) rows), some ((eT D.int) sums), some (PV.enc y), some ((eT (eP D.int D.int)) x3), some ((eP D.int D.int) a6)], _, rfl, (x_op2 (x_sub (x_var (eP D.int D.int) (a := a6) rfl) x_int rfl rfl rfl (mk_p D.int _ _)) x_int rfl rfl o_eq), rfl⟩) rfl) rfl o_allL) (fun hc => by (have h := itT hc h_t9; obtain ⟨x7, h_x7, h⟩ := bnd h; obtain ⟨x8, h_x8, h⟩ := bnd h; have h := sj h; subst h; exact (x_and1 (x_op2 (x_sub (x_call (q_cons (x_call (q_cons (x_var (eT D.int) (a := sums) rfl) q_nil) rfl rfl (hS_wholes _ _ h_x7) rfl) (q_cons (x_var (eT (eP D.int D.int)) (a := x3) rfl) q_nil)) rfl rfl (hS_dot _ _ _ h_x8) rfl) x_int rfl rfl rfl (mk_p D.int _ _)) x_int rfl rfl o_ne)))) (fun hc => by (have h := itF hc h_t9; cases h; exact ⟨rfl, rfl⟩))))) ⟨_, _, rfl, .inl rfl, (bk_p (Pl.pl (f := (eT (eT D.int))) _) (bk_p (Pl.pl (f := (eT D.int)) _) (bk_p (Pl.pl (f := PV.enc) _) bk_nil)))⟩)

theorem b__law_is_numbers (P : Ctx) (hS__law_is_number : S__law_is_number P) (thing : PV) (r : Bool) (h : _law_is_numbers thing = some r) : runF P Pg.f35 [PV.enc thing] = some (D.bl r, [PV.enc thing]) := by
  unfold _law_is_numbers at h
  refine run_G rfl ?_
  show RetG _ _ _ _ (evSs P _ [some (PV.enc thing), none])
  obtain ⟨t7, h_t7, h⟩ := bnde h
  have h := sj h
  subst h
  exact g_rt (s_rtv (x_and (x_andC (x_op1 (x_var PV.enc (a := thing) rfl) rfl o_isiT) (fun hc => by (have h := itT hc h_t7; obtain ⟨q1, h_q1, h⟩ := bnd h; obtain ⟨u2, h_u2, h⟩ := bnd h; obtain ⟨y5, h_y5, h⟩ := bnd h; obtain ⟨x6, h_x6, h⟩ := bnde h; have h := sj h; subst h; exact (x_and1 (x_op2 (x_compM (f := PV.enc) (g := PV.enc) (E0 := [some (PV.enc thing), none]) (so_it (f := PV.enc) (q_cons (x_var PV.enc (a := thing) rfl) q_nil) (asQ_items h_q1)) rfl rfl (szG_le h_u2) h_y5 (fun a3 y h => by (obtain ⟨x4, h_x4, h⟩ := bnd h; rcases iteo h with ⟨hc, h⟩ | ⟨hc, h⟩; (have h := sj h; subst h; have ht : TX P false [some (PV.enc thing), some (PV.enc a3)] (.not (.val (.call 21 [(.var 1)]))) _ _ := (t_not (t_bl (x_call (q_cons (x_var PV.enc (a := a3) rfl) q_nil) rfl rfl (hS__law_is_number _ _ h_x4) rfl))); rw [hc] at ht; exact stepC_y (e1 := [some (PV.enc thing), some (PV.enc a3)]) rfl (t_and1 ht) (x_var PV.enc (a := a3) rfl) rfl); (have h := sj h; subst h; have ht : TX P false [some (PV.enc thing), some (PV.enc a3)] (.not (.val (.call 21 [(.var 1)]))) _ _ := (t_not (t_bl (x_call (q_cons (x_var PV.enc (a := a3) rfl) q_nil) rfl rfl (hS__law_is_number _ _ h_x4) rfl))); rw [hc] at ht; exact stepC_n (e1 := [some (PV.enc thing), some (PV.enc a3)]) rfl (t_and1 ht) rfl))) rfl) (x_lstL PV.enc ([] : List PV) m_nil rfl) rfl rfl (o_eqG h_x6))))) (fun hc => by (have h := itF hc h_t7; cases h; exact ⟨rfl, rfl⟩))))) ⟨_, _, rfl, .inl rfl, (bk_p (Pl.pl (f := PV.enc) _) bk_nil)⟩

theorem b__law_wholes (P : Ctx)  (xs : (List Int)) (r : (List (Int × Int))) (h : _law_wholes xs = some r) : runF P Pg.f36 [(eT D.int) xs] = some ((eT (eP D.int D.int)) r, [(eT D.int) xs]) := by
  unfold _law_wholes at h
  refine run_G rfl ?_
  show RetG _ _ _ _ (evSs P _ [some ((eT D.int) xs), none])
  obtain ⟨u1, h_u1, h⟩ := bnd h
  have h := sj h
  subst h
  exact g_rt (s_rtv (x_op1 (x_map (f := D.int) (g := (eP D.int D.int)) (F := fun a2 => (a2, 1)) (E0 := [some ((eT D.int) xs), none]) (so_it (f := D.int) (xs := xs) (q_cons (x_var (eT D.int) (a := xs) rfl) q_nil) it_T) rfl rfl (szG_le h_u1) (fun a2 => ⟨[some ((eT D.int) xs), some (D.int a2)], _, rfl, (x_tupP D.int D.int a2 1 (m_cons (x_var D.int (a := a2) rfl) (m_cons x_int m_nil))), rfl⟩) rfl) rfl (o_tupL (eP D.int D.int)))) ⟨_, _, rfl, .inl rfl, (bk_p (Pl.pl (f := (eT D.int)) _) bk_nil)⟩

theorem b__law_column (P : Ctx)  (rows : (List (List Int))) (k : Int) (r : (List Int)) (h : _law_column rows k = some r) : runF P Pg.f37 [(eT (eT D.int)) rows, D.int k] = some ((eL D.int) r, [(eT (eT D.int)) rows, D.int k]) := by
  unfold _law_column at h
  refine run_G rfl ?_
  show RetG _ _ _ _ (evSs P _ [some ((eT (eT D.int)) rows), some (D.int k), none])
  obtain ⟨u1, h_u1, h⟩ := bnd h
  obtain ⟨y4, h_y4, h⟩ := bnde h
  have h := sj h
  subst h
  exact g_rt (s_rtv (x_mapO (f := (eT D.int)) (g := D.int) (E0 := [some ((eT (eT D.int)) rows), some (D.int k), none]) (so_it (f := (eT D.int)) (xs := rows) (q_cons (x_var (eT (eT D.int)) (a := rows) rfl) q_nil) it_T) rfl rfl (szG_le h_u1) h_y4 (fun a2 y h => by (obtain ⟨x3, h_x3, h⟩ := bnde h; have h := sj h; subst h; exact ⟨[some ((eT (eT D.int)) rows), some (D.int k), some ((eT D.int) a2)], _, rfl, (x_sub (x_var (eT D.int) (a := a2) rfl) (x_var D.int (a := k) rfl) rfl rfl (s_T h_x3) (mk_p D.int _ _)), rfl⟩)) rfl)) ⟨_, _, rfl, .inl rfl, (bk_p (Pl.pl (f := (eT (eT D.int))) _) (bk_p (Pl.pl (f := D.int) _) bk_nil))⟩

theorem b__law_dot_q (P : Ctx) (hS__law_mul : S__law_mul P) (hS__law_add : S__law_add P) (row : (List Int)) (xs : (List (Int × Int))) (r : (Int × Int)) (h : _law_dot row xs = some r) : runF P Pg.f26 [(eL D.int) row, (eT (eP D.int D.int)) xs] = some ((eP D.int D.int) r, [(eL D.int) row, (eT (eP D.int D.int)) xs]) := by
  unfold _law_dot at h
  refine run_G rfl ?_
  show RetG _ _ _ _ (evSs P _ [some ((eL D.int) row), some ((eT (eP D.int D.int)) xs), none, none])
  refine g_nx (e := [some ((eL D.int) row), some ((eT (eP D.int D.int)) xs), some ((eP D.int D.int) (0, 1)), none]) (s_asg (x_tupP D.int D.int 0 1 (m_cons x_int (m_cons x_int m_nil))) rfl) ?_
  obtain ⟨r1, h_r1, h⟩ := bnd h
  obtain ⟨s10, h_s10, h⟩ := bnde h
  refine g_forF (f := D.int) (fun (s2 : ((Int × Int))) e => ∃ (d3 : Option D), e = [some ((eL D.int) row), some ((eT (eP D.int D.int)) xs), some ((eP D.int D.int) s2), d3]) (fo_rng1 (q_cons (x_op1 (x_ref rfl rfl) rfl o_lnL) q_nil) h_r1) ⟨_, rfl⟩ h_s10 (fun i4 s2 s' e he h => by (obtain ⟨d3, rfl⟩ := he; refine g_bind (e1 := [some ((eL D.int) row), some ((eT (eP D.int D.int)) xs), some ((eP D.int D.int) s2), some (D.int i4)]) rfl ?_; obtain ⟨x5, h_x5, h⟩ := bnd h; obtain ⟨x6, h_x6, h⟩ := bnd h; obtain ⟨x7, h_x7, h⟩ := bnd h; obtain ⟨x8, h_x8, h⟩ := bnde h; refine g_nx (e := [some ((eL D.int) row), some ((eT (eP D.int D.int)) xs), some ((eP D.int D.int) x8), some (D.int i4)]) (s_asg (x_call (q_cons (x_var (eP D.int D.int) (a := s2) rfl) (q_cons (x_call (q_cons (x_tupP D.int D.int x5 1 (m_cons (x_sub (x_ref rfl rfl) (x_var D.int (a := i4) rfl) rfl rfl (s_L h_x5) (mk_p D.int _ _)) (m_cons x_int m_nil))) (q_cons (x_sub (x_var (eT (eP D.int D.int)) (a := xs) rfl) (x_var D.int (a := i4) rfl) rfl rfl (s_T h_x6) (mk_p (eP D.int D.int) _ _)) q_nil)) rfl rfl (hS__law_mul _ _ _ h_x7) rfl) q_nil)) rfl rfl (hS__law_add _ _ _ h_x8) rfl) rfl) ?_; have h := sj h; subst h; exact g_end ⟨_, _, rfl, .inl rfl, ⟨_, rfl⟩⟩)) ?_
  intro e hI; obtain ⟨d9, rfl⟩ := hI
  have h := sj h
  subst h
  exact g_rt (s_rtv (x_var (eP D.int D.int) (a := s10) rfl)) ⟨_, _, rfl, .inl rfl, (bk_r rfl rfl rfl (bk_p (Pl.pl (f := (eT (eP D.int D.int))) _) bk_nil))⟩

theorem b__law_is_no_solution (P : Ctx) (hS__law_is_numbers : S__law_is_numbers P) (hS__law_wholes : S__law_wholes P) (hS__law_column : S__law_column P) (hS__law_dot_q : S__law_dot_q P) (hS__law_dot : S__law_dot P) (rows : (List (List Int))) (sums : (List Int)) (y : PV) (r : Bool) (h : _law_is_no_solution rows sums y = some r) : runF P Pg.f38 [(eT (eT D.int)) rows, (eT D.int) sums, PV.enc y] = some (D.bl r, [(eT (eT D.int)) rows, (eT D.int) sums, PV.enc y]) := by
  unfold _law_is_no_solution at h
  refine run_G rfl ?_
  show RetG _ _ _ _ (evSs P _ [some ((eT (eT D.int)) rows), some ((eT D.int) sums), some (PV.enc y), none, none])
  obtain ⟨x1, h_x1, h⟩ := bnd h
  obtain ⟨t3, h_t3, h⟩ := bnd h
  rcases iteo h with ⟨hc, h⟩ | ⟨hc, h⟩
  (refine g_iteT (t_or (t_orC (t_not (t_bl (x_call (q_cons (x_var PV.enc (a := y) rfl) q_nil) rfl rfl (hS__law_is_numbers _ _ h_x1) rfl))) (fun hc => by (have h := itF hc h_t3; obtain ⟨x2, h_x2, h⟩ := bnd h; have h := sj h; subst h; exact (t_or1 (t_bl (x_op2 (x_op1 (x_var PV.enc (a := y) rfl) rfl (o_lnV h_x2)) (x_op1 (x_var (eT (eT D.int)) (a := rows) rfl) rfl o_lnT) rfl rfl o_ne))))) (fun hc => by (have h := itT hc h_t3; cases h; exact ⟨rfl, rfl⟩)))) hc ?_; have h := sj h; subst h; exact g_rt (s_rtv x_bl) ⟨_, _, rfl, .inl rfl, (bk_p (Pl.pl (f := (eT (eT D.int))) _) (bk_p (Pl.pl (f := (eT D.int)) _) (bk_p (Pl.pl (f := PV.enc) _) bk_nil)))⟩)
  (refine g_iteF (t_or (t_orC (t_not (t_bl (x_call (q_cons (x_var PV.enc (a := y) rfl) q_nil) rfl rfl (hS__law_is_numbers _ _ h_x1) rfl))) (fun hc => by (have h := itF hc h_t3; obtain ⟨x2, h_x2, h⟩ := bnd h; have h := sj h; subst h; exact (t_or1 (t_bl (x_op2 (x_op1 (x_var PV.enc (a := y) rfl) rfl (o_lnV h_x2)) (x_op1 (x_var (eT (eT D.int)) (a := rows) rfl) rfl o_lnT) rfl rfl o_ne))))) (fun hc => by (have h := itT hc h_t3; cases h; exact ⟨rfl, rfl⟩)))) hc ?_; obtain ⟨x4, h_x4, h⟩ := bnd h; obtain ⟨x5, h_x5, h⟩ := bnd h; refine g_nx (e := [some ((eT (eT D.int)) rows), some ((eT D.int) sums), some (PV.enc y), some ((eT (eP D.int D.int)) x5), none]) (s_asg (x_call (q_cons (x_cast (d' := (eT D.int) x4) (x_var PV.enc (a := y) rfl) ((dnT_enc dnI_enc) _ _ h_x4)) q_nil) rfl rfl (hS__law_wholes _ _ h_x5) rfl) rfl) ?_; obtain ⟨x6, h_x6, h⟩ := bnd h; obtain ⟨r7, h_r7, h⟩ := bnd h; obtain ⟨u8, h_u8, h⟩ := bnd h; obtain ⟨y12, h_y12, h⟩ := bnd h; rcases iteo h with ⟨hc, h⟩ | ⟨hc, h⟩; (refine g_iteT (t_bl (x_op2 (x_compM (f := D.int) (g := D.int) (E0 := [some ((eT (eT D.int)) rows), some ((eT D.int) sums), some (PV.enc y), some ((eT (eP D.int D.int)) x5), none]) (so_rng1 (q_cons (x_op1 (x_sub (x_var (eT (eT D.int)) (a := rows) rfl) x_int rfl rfl (s_T h_x6) (mk_p (eT D.int) _ _)) rfl o_lnT) q_nil) h_r7) rfl rfl (szG_le h_u8) h_y12 (fun a9 y h => by (obtain ⟨x10, h_x10, h⟩ := bnd h; obtain ⟨x11, h_x11, h⟩ := bnd h; rcases iteo h with ⟨hc, h⟩ | ⟨hc, h⟩; (have h := sj h; subst h; have ht : TX P false [some ((eT (eT D.int)) rows), some ((eT D.int) sums), some (PV.enc y), some ((eT (eP D.int D.int)) x5), some (D.int a9)] (.val (.op (.cmp .NotEq) [(.call 26 [(.call 37 [(.var 0), (.var 4)]), (.var 3)]), (.tup [(.int 0), (.int 1)])])) _ _ := (t_bl (x_op2 (x_call (q_cons (x_call (q_cons (x_var (eT (eT D.int)) (a := rows) rfl) (q_cons (x_var D.int (a := a9) rfl) q_nil)) rfl rfl (hS__law_column _ _ _ h_x10) rfl) (q_cons (x_var (eT (eP D.int D.int)) (a := x5) rfl) q_nil)) rfl rfl (hS__law_dot_q _ _ _ h_x11) rfl) (x_tupP D.int D.int 0 1 (m_cons x_int (m_cons x_int m_nil))) rfl rfl (o_neC (eP D.int D.int) rfl _ _))); rw [hc] at ht; exact stepC_y (e1 := [some ((eT (eT D.int)) rows), some ((eT D.int) sums), some (PV.enc y), some ((eT (eP D.int D.int)) x5), some (D.int a9)]) rfl (t_and1 ht) (x_var D.int (a := a9) rfl) rfl); (have h := sj h; subst h; have ht : TX P false [some ((eT (eT D.int)) rows), some ((eT D.int) sums), some (PV.enc y), some ((eT (eP D.int D.int)) x5), some (D.int a9)] (.val (.op (.cmp .NotEq) [(.call 26 [(.call 37 [(.var 0), (.var 4)]), (.var 3)]), (.tup [(.int 0), (.int 1)])])) _ _ := (t_bl (x_op2 (x_call (q_cons (x_call (q_cons (x_var (eT (eT D.int)) (a := rows) rfl) (q_cons (x_var D.int (a := a9) rfl) q_nil)) rfl rfl (hS__law_column _ _ _ h_x10) rfl) (q_cons (x_var (eT (eP D.int D.int)) (a := x5) rfl) q_nil)) rfl rfl (hS__law_dot_q _ _ _ h_x11) rfl) (x_tupP D.int D.int 0 1 (m_cons x_int (m_cons x_int m_nil))) rfl rfl (o_neC (eP D.int D.int) rfl _ _))); rw [hc] at ht; exact stepC_n (e1 := [some ((eT (eT D.int)) rows), some ((eT D.int) sums), some (PV.enc y), some ((eT (eP D.int D.int)) x5), some (D.int a9)]) rfl (t_and1 ht) rfl))) rfl) (x_cast (d' := (eL D.int) []) (x_lstL PV.enc ([] : List PV) m_nil rfl) rfl) rfl rfl (o_neC (eL D.int) rfl _ _))) hc ?_; have h := sj h; subst h; exact g_rt (s_rtv x_bl) ⟨_, _, rfl, .inl rfl, (bk_p (Pl.pl (f := (eT (eT D.int))) _) (bk_p (Pl.pl (f := (eT D.int)) _) (bk_p (Pl.pl (f := PV.enc) _) bk_nil)))⟩); (refine g_iteF (t_bl (x_op2 (x_compM (f := D.int) (g := D.int) (E0 := [some ((eT (eT D.int)) rows), some ((eT D.int) sums), some (PV.enc y), some ((eT (eP D.int D.int)) x5), none]) (so_rng1 (q_cons (x_op1 (x_sub (x_var (eT (eT D.int)) (a := rows) rfl) x_int rfl rfl (s_T h_x6) (mk_p (eT D.int) _ _)) rfl o_lnT) q_nil) h_r7) rfl rfl (szG_le h_u8) h_y12 (fun a9 y h => by (obtain ⟨x10, h_x10, h⟩ := bnd h; obtain ⟨x11, h_x11, h⟩ := bnd h; rcases iteo h with ⟨hc, h⟩ | ⟨hc, h⟩; (have h := sj h; subst h; have ht : TX P false [some ((eT (eT D.int)) rows), some ((eT D.int) sums), some (PV.enc y), some ((eT (eP D.int D.int)) x5), some (D.int a9)] (.val (.op (.cmp .NotEq) [(.call 26 [(.call 37 [(.var 0), (.var 4)]), (.var 3)]), (.tup [(.int 0), (.int 1)])])) _ _ := (t_bl (x_op2 (x_call (q_cons (x_call (q_cons (x_var (eT (eT D.int)) (a := rows) rfl) (q_cons (x_var D.int (a := a9) rfl) q_nil)) rfl rfl (hS__law_column _ _ _ h_x10) rfl) (q_cons (x_var (eT (eP D.int D.int)) (a := x5) rfl) q_nil)) rfl rfl (hS__law_dot_q _ _ _ h_x11) rfl) (x_tupP D.int D.int 0 1 (m_cons x_int (m_cons x_int m_nil))) rfl rfl (o_neC (eP D.int D.int) rfl _ _))); rw [hc] at ht; exact stepC_y (e1 := [some ((eT (eT D.int)) rows), some ((eT D.int) sums), some (PV.enc y), some ((eT (eP D.int D.int)) x5), some (D.int a9)]) rfl (t_and1 ht) (x_var D.int (a := a9) rfl) rfl); (have h := sj h; subst h; have ht : TX P false [some ((eT (eT D.int)) rows), some ((eT D.int) sums), some (PV.enc y), some ((eT (eP D.int D.int)) x5), some (D.int a9)] (.val (.op (.cmp .NotEq) [(.call 26 [(.call 37 [(.var 0), (.var 4)]), (.var 3)]), (.tup [(.int 0), (.int 1)])])) _ _ := (t_bl (x_op2 (x_call (q_cons (x_call (q_cons (x_var (eT (eT D.int)) (a := rows) rfl) (q_cons (x_var D.int (a := a9) rfl) q_nil)) rfl rfl (hS__law_column _ _ _ h_x10) rfl) (q_cons (x_var (eT (eP D.int D.int)) (a := x5) rfl) q_nil)) rfl rfl (hS__law_dot_q _ _ _ h_x11) rfl) (x_tupP D.int D.int 0 1 (m_cons x_int (m_cons x_int m_nil))) rfl rfl (o_neC (eP D.int D.int) rfl _ _))); rw [hc] at ht; exact stepC_n (e1 := [some ((eT (eT D.int)) rows), some ((eT D.int) sums), some (PV.enc y), some ((eT (eP D.int D.int)) x5), some (D.int a9)]) rfl (t_and1 ht) rfl))) rfl) (x_cast (d' := (eL D.int) []) (x_lstL PV.enc ([] : List PV) m_nil rfl) rfl) rfl rfl (o_neC (eL D.int) rfl _ _))) hc ?_; obtain ⟨x13, h_x13, h⟩ := bnd h; have h := sj h; subst h; exact g_rt (s_rtv (x_op2 (x_call (q_cons (x_var (eT D.int) (a := sums) rfl) (q_cons (x_var (eT (eP D.int D.int)) (a := x5) rfl) q_nil)) rfl rfl (hS__law_dot _ _ _ h_x13) rfl) (x_tupP D.int D.int 0 1 (m_cons x_int (m_cons x_int m_nil))) rfl rfl (o_neC (eP D.int D.int) rfl _ _))) ⟨_, _, rfl, .inl rfl, (bk_p (Pl.pl (f := (eT (eT D.int))) _) (bk_p (Pl.pl (f := (eT D.int)) _) (bk_p (Pl.pl (f := PV.enc) _) bk_nil)))⟩))

theorem b__law_times (P : Ctx) (hS_next : S_next P 1) (hS_pick : S_pick P 2) (hS__law_low : S__law_low P) (w : W) (rows : (List (List Int))) (sums : (List Int)) (r : (((List (List Int)) × (List Int) × (List (Int × Int))) × W)) (h : _law_times w rows sums = some r) : runF P Pg.f39 [eW w, (eT (eT D.int)) rows, (eT D.int) sums] = some ((e3 (eT (eT D.int)) (eT D.int) (eT (eP D.int D.int))) r.1, [eW r.2, (eT (eT D.int)) rows, (eT D.int) sums]) := by
  unfold _law_times at h
  refine run_G rfl ?_
  show RetG _ _ _ _ (evSs P _ [some (eW w), some ((eT (eT D.int)) rows), some ((eT D.int) sums), none, none, none, none])
  obtain ⟨p1, h_p1, h⟩ := bnd h
  obtain ⟨p2, h_p2, h⟩ := bnd h
  refine g_nx (e := [some (eW p2.2), some ((eT (eT D.int)) rows), some ((eT D.int) sums), none, some (D.int p1.1), some (D.int p2.1), none]) (s_asg (x_tupP D.int D.int p1.1 p2.1 (m_cons (x_call (q_cons (x_ref rfl rfl) (q_cons (x_op1 (x_var (eT (eT D.int)) (a := rows) rfl) rfl o_lnT) q_nil)) rfl rfl (hS_next _ _ _ h_p1) rfl) (m_cons (x_call (q_cons (x_ref rfl rfl) (q_cons (x_lstL D.int ([2, 3, 4, 6, (-2)] : List Int) (m_cons x_int (m_cons x_int (m_cons x_int (m_cons x_int (m_cons (x_op1 x_int rfl o_neg) m_nil))))) rfl) q_nil)) rfl rfl (hS_pick D.int _ _ _ _ h_p2) rfl) m_nil))) rfl) ?_
  obtain ⟨x3, h_x3, h⟩ := bnd h
  refine g_nx (e := [some (eW p2.2), some ((eT (eT D.int)) rows), some ((eT D.int) sums), some ((eL (eP D.int D.int)) x3), some (D.int p1.1), some (D.int p2.1), none]) (s_asg (x_op2 (x_lstL (eP D.int D.int) ([(0, 1)] : List (Int × Int)) (m_cons (x_tupP D.int D.int 0 1 (m_cons x_int (m_cons x_int m_nil))) m_nil) rfl) (x_op1 (x_var (eT (eT D.int)) (a := rows) rfl) rfl o_lnT) rfl rfl (o_repL (eP D.int D.int) h_x3)) rfl) ?_
  obtain ⟨v6, h_v6, h⟩ := bnd h
  obtain ⟨l7, h_l7, h⟩ := bnd h
  refine g_nx (e := [some (eW p2.2), some ((eT (eT D.int)) rows), some ((eT D.int) sums), some ((eL (eP D.int D.int)) l7), some (D.int p1.1), some (D.int p2.1), none]) (s_sto (show AX P false _ (.ite (.val (.op (.cmp .Gt) [(.var 5), (.int 0)])) (.call 6 [(.int 1), (.var 5)]) (.call 6 [(.op .neg [(.int 1)]), (.op (.bin .Sub) [(.int 0), (.var 5)])])) (.tmp ((eP D.int D.int) v6)) _ from (x_ite (t_bl (x_op2 (x_var D.int (a := p2.1) rfl) x_int rfl rfl o_gt)) (fun hc => by (have h := itT hc h_v6; obtain ⟨x4, h_x4, h⟩ := bnde h; have h := sj h; subst h; exact (x_call (q_cons x_int (q_cons (x_var D.int (a := p2.1) rfl) q_nil)) rfl rfl (hS__law_low _ _ _ h_x4) rfl))) (fun hc => by (have h := itF hc h_v6; obtain ⟨x5, h_x5, h⟩ := bnde h; have h := sj h; subst h; exact (x_call (q_cons (x_op1 x_int rfl o_neg) (q_cons (x_op2 x_int (x_var D.int (a := p2.1) rfl) rfl rfl o_sub) q_nil)) rfl rfl (hS__law_low _ _ _ h_x5) rfl))))) (x_var D.int (a := p1.1) rfl) rfl rfl (set_L (f := (eP D.int D.int)) h_l7) rfl) ?_
  obtain ⟨x8, h_x8, h⟩ := bnd h
  obtain ⟨u9, h_u9, h⟩ := bnd h
  obtain ⟨y12, h_y12, h⟩ := bnd h
  obtain ⟨x13, h_x13, h⟩ := bnd h
  obtain ⟨x14, h_x14, h⟩ := bnd h
  obtain ⟨p15, h_p15, h⟩ := bnd h
  obtain ⟨x16, h_x16, h⟩ := bnd h
  obtain ⟨x17, h_x17, h⟩ := bnd h
  have h := sj h
  subst h
  exact g_rt (s_rtv (x_tup3 (eT (eT D.int)) (eT D.int) (eT (eP D.int D.int)) x14 x17 l7 (m_cons (x_op2 (x_op2 (x_sli (x_var (eT (eT D.int)) (a := rows) rfl) i_none (i_some (x_var D.int (a := p1.1) rfl)) rfl (k_T (eT D.int))) (x_tupT (eT D.int) ([y12] : List (List Int)) (m_cons (x_op1 (x_mapO (f := D.int) (g := D.int) (E0 := [some (eW p2.2), some ((eT (eT D.int)) rows), some ((eT D.int) sums), some ((eL (eP D.int D.int)) l7), some (D.int p1.1), some (D.int p2.1), none]) (so_it (f := D.int) (xs := x8) (q_cons (x_sub (x_var (eT (eT D.int)) (a := rows) rfl) (x_var D.int (a := p1.1) rfl) rfl rfl (s_T h_x8) (mk_p (eT D.int) _ _)) q_nil) it_T) rfl rfl (szG_le h_u9) h_y12 (fun a10 y h => by (obtain ⟨x11, h_x11, h⟩ := bnde h; have h := sj h; subst h; exact ⟨[some (eW p2.2), some ((eT (eT D.int)) rows), some ((eT D.int) sums), some ((eL (eP D.int D.int)) l7), some (D.int p1.1), some (D.int p2.1), some (D.int a10)], _, rfl, (x_op2 (x_var D.int (a := a10) rfl) (x_var D.int (a := p2.1) rfl) rfl rfl (o_mulG h_x11)), rfl⟩)) rfl) rfl (o_tupL D.int)) m_nil) rfl) rfl rfl (o_catT (eT D.int) h_x13)) (x_sli (x_var (eT (eT D.int)) (a := rows) rfl) (i_some (x_op2 (x_var D.int (a := p1.1) rfl) x_int rfl rfl o_add)) i_none rfl (k_T (eT D.int))) rfl rfl (o_catT (eT D.int) h_x14)) (m_cons (x_op2 (x_op2 (x_sli (x_var (eT D.int) (a := sums) rfl) i_none (i_some (x_var D.int (a := p1.1) rfl)) rfl (k_T D.int)) (x_tupT D.int ([(p15.1 - 9)] : List Int) (m_cons (x_op2 (x_call (q_cons (x_ref rfl rfl) (q_cons x_int q_nil)) rfl rfl (hS_next _ _ _ h_p15) rfl) x_int rfl rfl o_sub) m_nil) rfl) rfl rfl (o_catT D.int h_x16)) (x_sli (x_var (eT D.int) (a := sums) rfl) (i_some (x_op2 (x_var D.int (a := p1.1) rfl) x_int rfl rfl o_add)) i_none rfl (k_T D.int)) rfl rfl (o_catT D.int h_x17)) (m_cons (x_op1 (x_ref rfl rfl) rfl (o_tupL (eP D.int D.int))) m_nil))))) ⟨_, _, rfl, .inl rfl, (bk_r rfl rfl rfl (bk_p (Pl.pl (f := (eT (eT D.int))) _) (bk_p (Pl.pl (f := (eT D.int)) _) bk_nil)))⟩

theorem b_is_no_whole (P : Ctx) (hS_are_fractions : S_are_fractions P) (hS_summed : S_summed P) (hS_wholes : S_wholes P) (hS_dot : S_dot P) (rows : (List (List Int))) (sums : (List Int)) (y : PV) (r : Bool) (h : is_no_whole rows sums y = some r) : runF P Pg.f40 [(eT (eT D.int)) rows, (eT D.int) sums, PV.enc y] = some (D.bl r, [(eT (eT D.int)) rows, (eT D.int) sums, PV.enc y]) := by
  unfold is_no_whole at h
  refine run_G rfl ?_
  show RetG _ _ _ _ (evSs P _ [some ((eT (eT D.int)) rows), some ((eT D.int) sums), some (PV.enc y), none])
  obtain ⟨x1, h_x1, h⟩ := bnd h
  rcases iteo h with ⟨hc, h⟩ | ⟨hc, h⟩
  (refine g_iteT (t_not (t_bl (x_call (q_cons (x_var PV.enc (a := y) rfl) (q_cons (x_op1 (x_var (eT (eT D.int)) (a := rows) rfl) rfl o_lnT) q_nil)) rfl rfl (hS_are_fractions _ _ _ h_x1) rfl))) hc ?_; have h := sj h; subst h; exact g_rt (s_rtv x_bl) ⟨_, _, rfl, .inl rfl, (bk_p (Pl.pl (f := (eT (eT D.int))) _) (bk_p (Pl.pl (f := (eT D.int)) _) (bk_p (Pl.pl (f := PV.enc) _) bk_nil)))⟩)
  (refine g_iteF (t_not (t_bl (x_call (q_cons (x_var PV.enc (a := y) rfl) (q_cons (x_op1 (x_var (eT (eT D.int)) (a := rows) rfl) rfl o_lnT) q_nil)) rfl rfl (hS_are_fractions _ _ _ h_x1) rfl))) hc ?_; obtain ⟨x2, h_x2, h⟩ := bnd h; obtain ⟨x3, h_x3, h⟩ := bnd h; obtain ⟨u4, h_u4, h⟩ := bnd h; obtain ⟨t9, h_t9, h⟩ := bnde h; have h := sj h; subst h; exact g_rt (s_rtv (x_and (x_andC (x_op1 (x_map (f := (eP D.int D.int)) (g := D.bl) (F := fun a5 => (decide (a5.2 = 1))) (E0 := [some ((eT (eT D.int)) rows), some ((eT D.int) sums), some (PV.enc y), none]) (so_it (f := (eP D.int D.int)) (xs := x3) (q_cons (x_call (q_cons (x_var (eT (eT D.int)) (a := rows) rfl) (q_cons (x_cast (d' := (eT (eP D.int D.int)) x2) (x_var PV.enc (a := y) rfl) ((dnT_enc (dnP_enc dnI_enc dnI_enc)) _ _ h_x2)) q_nil)) rfl rfl (hS_summed _ _ _ h_x3) rfl) q_nil) it_T) rfl rfl (szG_le h_u4) (fun a5 => ⟨[some ((eT (eT D.int)) rows), some ((eT D.int) sums), some (PV.enc y), some ((eP D.int D.int) a5)], _, rfl, (x_op2 (x_sub (x_var (eP D.int D.int) (a := a5) rfl) x_int rfl rfl rfl (mk_p D.int _ _)) x_int rfl rfl o_eq), rfl⟩) rfl) rfl o_allL) (fun hc => by (have h := itT hc h_t9; obtain ⟨x6, h_x6, h⟩ := bnd h; obtain ⟨x7, h_x7, h⟩ := bnd h; obtain ⟨x8, h_x8, h⟩ := bnd h; have h := sj h; subst h; exact (x_and1 (x_op2 (x_sub (x_call (q_cons (x_call (q_cons (x_var (eT D.int) (a := sums) rfl) q_nil) rfl rfl (hS_wholes _ _ h_x6) rfl) (q_cons (x_cast (d' := (eT (eP D.int D.int)) x7) (x_var PV.enc (a := y) rfl) ((dnT_enc (dnP_enc dnI_enc dnI_enc)) _ _ h_x7)) q_nil)) rfl rfl (hS_dot _ _ _ h_x8) rfl) x_int rfl rfl rfl (mk_p D.int _ _)) x_int rfl rfl o_ne)))) (fun hc => by (have h := itF hc h_t9; cases h; exact ⟨rfl, rfl⟩))))) ⟨_, _, rfl, .inl rfl, (bk_p (Pl.pl (f := (eT (eT D.int))) _) (bk_p (Pl.pl (f := (eT D.int)) _) (bk_p (Pl.pl (f := PV.enc) _) bk_nil)))⟩)

theorem b__law_is_no_whole (P : Ctx) (hS__law_is_fractions : S__law_is_fractions P) (hS__law_column : S__law_column P) (hS__law_dot_q : S__law_dot_q P) (hS__law_dot : S__law_dot P) (rows : (List (List Int))) (sums : (List Int)) (y : PV) (r : Bool) (h : _law_is_no_whole rows sums y = some r) : runF P Pg.f41 [(eT (eT D.int)) rows, (eT D.int) sums, PV.enc y] = some (D.bl r, [(eT (eT D.int)) rows, (eT D.int) sums, PV.enc y]) := by
  unfold _law_is_no_whole at h
  refine run_G rfl ?_
  show RetG _ _ _ _ (evSs P _ [some ((eT (eT D.int)) rows), some ((eT D.int) sums), some (PV.enc y), none])
  obtain ⟨x1, h_x1, h⟩ := bnd h
  rcases iteo h with ⟨hc, h⟩ | ⟨hc, h⟩
  (refine g_iteT (t_not (t_bl (x_call (q_cons (x_var PV.enc (a := y) rfl) (q_cons (x_op1 (x_var (eT (eT D.int)) (a := rows) rfl) rfl o_lnT) q_nil)) rfl rfl (hS__law_is_fractions _ _ _ h_x1) rfl))) hc ?_; have h := sj h; subst h; exact g_rt (s_rtv x_bl) ⟨_, _, rfl, .inl rfl, (bk_p (Pl.pl (f := (eT (eT D.int))) _) (bk_p (Pl.pl (f := (eT D.int)) _) (bk_p (Pl.pl (f := PV.enc) _) bk_nil)))⟩)
  (refine g_iteF (t_not (t_bl (x_call (q_cons (x_var PV.enc (a := y) rfl) (q_cons (x_op1 (x_var (eT (eT D.int)) (a := rows) rfl) rfl o_lnT) q_nil)) rfl rfl (hS__law_is_fractions _ _ _ h_x1) rfl))) hc ?_; obtain ⟨x2, h_x2, h⟩ := bnd h; obtain ⟨r3, h_r3, h⟩ := bnd h; obtain ⟨u4, h_u4, h⟩ := bnd h; obtain ⟨y9, h_y9, h⟩ := bnd h; rcases iteo h with ⟨hc, h⟩ | ⟨hc, h⟩; (refine g_iteT (t_bl (x_op2 (x_compM (f := D.int) (g := D.int) (E0 := [some ((eT (eT D.int)) rows), some ((eT D.int) sums), some (PV.enc y), none]) (so_rng1 (q_cons (x_op1 (x_sub (x_var (eT (eT D.int)) (a := rows) rfl) x_int rfl rfl (s_T h_x2) (mk_p (eT D.int) _ _)) rfl o_lnT) q_nil) h_r3) rfl rfl (szG_le h_u4) h_y9 (fun a5 y h => by (obtain ⟨x6, h_x6, h⟩ := bnd h; obtain ⟨x7, h_x7, h⟩ := bnd h; obtain ⟨x8, h_x8, h⟩ := bnd h; rcases iteo h with ⟨hc, h⟩ | ⟨hc, h⟩; (have h := sj h; subst h; have ht : TX P false [some ((eT (eT D.int)) rows), some ((eT D.int) sums), some (PV.enc y), some (D.int a5)] (.val (.op (.cmp .NotEq) [(.sub (.call 26 [(.call 37 [(.var 0), (.var 3)]), (.var 2)]) (.int 1)), (.int 1)])) _ _ := (t_bl (x_op2 (x_sub (x_call (q_cons (x_call (q_cons (x_var (eT (eT D.int)) (a := rows) rfl) (q_cons (x_var D.int (a := a5) rfl) q_nil)) rfl rfl (hS__law_column _ _ _ h_x6) rfl) (q_cons (x_cast (d' := (eT (eP D.int D.int)) x7) (x_var PV.enc (a := y) rfl) ((dnT_enc (dnP_enc dnI_enc dnI_enc)) _ _ h_x7)) q_nil)) rfl rfl (hS__law_dot_q _ _ _ h_x8) rfl) x_int rfl rfl rfl (mk_p D.int _ _)) x_int rfl rfl o_ne)); rw [hc] at ht; exact stepC_y (e1 := [some ((eT (eT D.int)) rows), some ((eT D.int) sums), some (PV.enc y), some (D.int a5)]) rfl (t_and1 ht) (x_var D.int (a := a5) rfl) rfl); (have h := sj h; subst h; have ht : TX P false [some ((eT (eT D.int)) rows), some ((eT D.int) sums), some (PV.enc y), some (D.int a5)] (.val (.op (.cmp .NotEq) [(.sub (.call 26 [(.call 37 [(.var 0), (.var 3)]), (.var 2)]) (.int 1)), (.int 1)])) _ _ := (t_bl (x_op2 (x_sub (x_call (q_cons (x_call (q_cons (x_var (eT (eT D.int)) (a := rows) rfl) (q_cons (x_var D.int (a := a5) rfl) q_nil)) rfl rfl (hS__law_column _ _ _ h_x6) rfl) (q_cons (x_cast (d' := (eT (eP D.int D.int)) x7) (x_var PV.enc (a := y) rfl) ((dnT_enc (dnP_enc dnI_enc dnI_enc)) _ _ h_x7)) q_nil)) rfl rfl (hS__law_dot_q _ _ _ h_x8) rfl) x_int rfl rfl rfl (mk_p D.int _ _)) x_int rfl rfl o_ne)); rw [hc] at ht; exact stepC_n (e1 := [some ((eT (eT D.int)) rows), some ((eT D.int) sums), some (PV.enc y), some (D.int a5)]) rfl (t_and1 ht) rfl))) rfl) (x_cast (d' := (eL D.int) []) (x_lstL PV.enc ([] : List PV) m_nil rfl) rfl) rfl rfl (o_neC (eL D.int) rfl _ _))) hc ?_; have h := sj h; subst h; exact g_rt (s_rtv x_bl) ⟨_, _, rfl, .inl rfl, (bk_p (Pl.pl (f := (eT (eT D.int))) _) (bk_p (Pl.pl (f := (eT D.int)) _) (bk_p (Pl.pl (f := PV.enc) _) bk_nil)))⟩); (refine g_iteF (t_bl (x_op2 (x_compM (f := D.int) (g := D.int) (E0 := [some ((eT (eT D.int)) rows), some ((eT D.int) sums), some (PV.enc y), none]) (so_rng1 (q_cons (x_op1 (x_sub (x_var (eT (eT D.int)) (a := rows) rfl) x_int rfl rfl (s_T h_x2) (mk_p (eT D.int) _ _)) rfl o_lnT) q_nil) h_r3) rfl rfl (szG_le h_u4) h_y9 (fun a5 y h => by (obtain ⟨x6, h_x6, h⟩ := bnd h; obtain ⟨x7, h_x7, h⟩ := bnd h; obtain ⟨x8, h_x8, h⟩ := bnd h; rcases iteo h with ⟨hc, h⟩ | ⟨hc, h⟩; (have h := sj h; subst h; have ht : TX P false [some ((eT (eT D.int)) rows), some ((eT D.int) sums), some (PV.enc y), some (D.int a5)] (.val (.op (.cmp .NotEq) [(.sub (.call 26 [(.call 37 [(.var 0), (.var 3)]), (.var 2)]) (.int 1)), (.int 1)])) _ _ := (t_bl (x_op2 (x_sub (x_call (q_cons (x_call (q_cons (x_var (eT (eT D.int)) (a := rows) rfl) (q_cons (x_var D.int (a := a5) rfl) q_nil)) rfl rfl (hS__law_column _ _ _ h_x6) rfl) (q_cons (x_cast (d' := (eT (eP D.int D.int)) x7) (x_var PV.enc (a := y) rfl) ((dnT_enc (dnP_enc dnI_enc dnI_enc)) _ _ h_x7)) q_nil)) rfl rfl (hS__law_dot_q _ _ _ h_x8) rfl) x_int rfl rfl rfl (mk_p D.int _ _)) x_int rfl rfl o_ne)); rw [hc] at ht; exact stepC_y (e1 := [some ((eT (eT D.int)) rows), some ((eT D.int) sums), some (PV.enc y), some (D.int a5)]) rfl (t_and1 ht) (x_var D.int (a := a5) rfl) rfl); (have h := sj h; subst h; have ht : TX P false [some ((eT (eT D.int)) rows), some ((eT D.int) sums), some (PV.enc y), some (D.int a5)] (.val (.op (.cmp .NotEq) [(.sub (.call 26 [(.call 37 [(.var 0), (.var 3)]), (.var 2)]) (.int 1)), (.int 1)])) _ _ := (t_bl (x_op2 (x_sub (x_call (q_cons (x_call (q_cons (x_var (eT (eT D.int)) (a := rows) rfl) (q_cons (x_var D.int (a := a5) rfl) q_nil)) rfl rfl (hS__law_column _ _ _ h_x6) rfl) (q_cons (x_cast (d' := (eT (eP D.int D.int)) x7) (x_var PV.enc (a := y) rfl) ((dnT_enc (dnP_enc dnI_enc dnI_enc)) _ _ h_x7)) q_nil)) rfl rfl (hS__law_dot_q _ _ _ h_x8) rfl) x_int rfl rfl rfl (mk_p D.int _ _)) x_int rfl rfl o_ne)); rw [hc] at ht; exact stepC_n (e1 := [some ((eT (eT D.int)) rows), some ((eT D.int) sums), some (PV.enc y), some (D.int a5)]) rfl (t_and1 ht) rfl))) rfl) (x_cast (d' := (eL D.int) []) (x_lstL PV.enc ([] : List PV) m_nil rfl) rfl) rfl rfl (o_neC (eL D.int) rfl _ _))) hc ?_; obtain ⟨x10, h_x10, h⟩ := bnd h; obtain ⟨x11, h_x11, h⟩ := bnd h; have h := sj h; subst h; exact g_rt (s_rtv (x_op2 (x_sub (x_call (q_cons (x_var (eT D.int) (a := sums) rfl) (q_cons (x_cast (d' := (eT (eP D.int D.int)) x10) (x_var PV.enc (a := y) rfl) ((dnT_enc (dnP_enc dnI_enc dnI_enc)) _ _ h_x10)) q_nil)) rfl rfl (hS__law_dot _ _ _ h_x11) rfl) x_int rfl rfl rfl (mk_p D.int _ _)) x_int rfl rfl o_ne)) ⟨_, _, rfl, .inl rfl, (bk_p (Pl.pl (f := (eT (eT D.int))) _) (bk_p (Pl.pl (f := (eT D.int)) _) (bk_p (Pl.pl (f := PV.enc) _) bk_nil)))⟩))

theorem b_law (P : Ctx) (hS__law_parted : S__law_parted P) (hS__law_bent : S__law_bent P) (hS_is_solution : S_is_solution P) (hS__law_is_solution : S__law_is_solution P) (hS__law_same : S__law_same P) (hS__law_more : S__law_more P) (hS_is_no_solution : S_is_no_solution P) (hS__law_is_no_solution : S__law_is_no_solution P) (hS__law_times : S__law_times P) (hS__law_low : S__law_low P) (hS_is_no_whole : S_is_no_whole P) (hS__law_is_no_whole : S__law_is_no_whole P) (L ns : List Int) (hD : P.call 0 [.scr ns, .int 600] = some (eL D.int L, [.scr ns, .int 600])) (r : Bool) (h : law L = some r) : runF P Pg.f42 [.scr ns] = some (D.bl r, [.scr ns]) := by
  unfold law at h
  refine run_G rfl ?_
  show RetG _ _ _ _ (evSs P _ [some (D.scr ns), none, none, none, none, none, none, none, none, none, none, none, none, none])
  refine g_nx (e := [some (D.scr ns), some (eW (W.mk L 0)), none, none, none, none, none, none, none, none, none, none, none, none]) (s_asg (x_dict (d := eW (W.mk L 0)) (m_cons x_str (m_cons (x_call (q_cons (x_varp rfl rfl) (q_cons x_int q_nil)) rfl rfl hD rfl) (m_cons x_str (m_cons x_int m_nil)))) rfl) rfl) ?_
  obtain ⟨r1, h_r1, h⟩ := bnd h
  obtain ⟨z121, h_z121, h⟩ := bnd h
  refine g_forC (f := D.int) (fun (s2 : (W)) e => ∃ (d3 d4 d5 d6 d7 d8 d9 d10 d11 d12 : Option D), e = [some (D.scr ns), some (eW s2), d3, d4, d5, d6, d7, d8, d9, d10, d11, d12, none, none]) (fun (q : Bool) d e => d = D.bl q ∧ ∃ (d14 d15 d16 d17 d18 d19 d20 d21 d22 d23 d24 d25 d26 : Option D), e = [some (D.scr ns), d14, d15, d16, d17, d18, d19, d20, d21, d22, d23, d24, d25, d26]) (fo_rng1 (q_cons x_int q_nil) h_r1) ⟨_, _, _, _, _, _, _, _, _, _, rfl⟩ h_z121 (fun i13 s2 c e he h => by (obtain ⟨d3, d4, d5, d6, d7, d8, d9, d10, d11, d12, rfl⟩ := he; refine g_bind (e1 := [some (D.scr ns), some (eW s2), some (D.int i13), d4, d5, d6, d7, d8, d9, d10, d11, d12, none, none]) rfl ?_; obtain ⟨x27, h_x27, h⟩ := bnd h; refine g_nx (e := [some (D.scr ns), some (eW x27.2), some (D.int i13), d4, some ((eT (eT D.int)) x27.1.1), some ((eT D.int) x27.1.2.1), some ((eT (eP D.int D.int)) x27.1.2.2), d8, d9, d10, d11, d12, none, none]) (s_asg (x_call (q_cons (x_ref rfl rfl) q_nil) rfl rfl (hS__law_parted _ _ h_x27) rfl) rfl) ?_; obtain ⟨x28, h_x28, h⟩ := bnd h; obtain ⟨x29, h_x29, h⟩ := bnd h; obtain ⟨z51, h_z51, h⟩ := bnd h; refine g_forC (f := PV.enc) (fun (s30 : Unit) e => ∃ (d31 : Option D), e = [some (D.scr ns), some (eW x29.2), some (D.int i13), d31, some ((eT (eT D.int)) x27.1.1), some ((eT D.int) x27.1.2.1), some ((eT (eP D.int D.int)) x27.1.2.2), d8, d9, d10, d11, d12, none, none]) (fun (q : Bool) d e => d = D.bl q ∧ ∃ (d33 d34 d35 d36 d37 d38 d39 d40 d41 d42 d43 d44 d45 : Option D), e = [some (D.scr ns), d33, d34, d35, d36, d37, d38, d39, d40, d41, d42, d43, d44, d45]) (fo_it (f := PV.enc) (xs := [(PV.tup (x27.1.2.2.map fun a => (PV.tup [(PV.int a.1), (PV.int a.2)]))), x28.1, x29.1]) (q_cons (x_cast (d' := (eT PV.enc) ([(PV.tup (x27.1.2.2.map fun a => (PV.tup [(PV.int a.1), (PV.int a.2)]))), x28.1, x29.1])) (x_tup3 (eT (eP D.int D.int)) PV.enc PV.enc x27.1.2.2 x28.1 x29.1 (m_cons (x_var (eT (eP D.int D.int)) (a := x27.1.2.2) rfl) (m_cons (x_call (q_cons (x_ref rfl rfl) (q_cons (x_cast (d' := (eT PV.enc) (x27.1.2.2.map fun a => (PV.tup [(PV.int a.1), (PV.int a.2)]))) (x_var (eT (eP D.int D.int)) (a := x27.1.2.2) rfl) (c_T (eP D.int D.int) PV.enc (fun a => (PV.tup [(PV.int a.1), (PV.int a.2)])) (fun a => (c_P D.int D.int (fun a => (PV.int a)) (fun a => (PV.int a)) (fun a => rfl) (fun a => rfl) a)) x27.1.2.2)) q_nil)) rfl rfl (hS__law_bent _ _ _ h_x28) rfl) (m_cons (x_call (q_cons (x_ref rfl rfl) (q_cons (x_cast (d' := (eT PV.enc) (x27.1.2.2.map fun a => (PV.tup [(PV.int a.1), (PV.int a.2)]))) (x_var (eT (eP D.int D.int)) (a := x27.1.2.2) rfl) (c_T (eP D.int D.int) PV.enc (fun a => (PV.tup [(PV.int a.1), (PV.int a.2)])) (fun a => (c_P D.int D.int (fun a => (PV.int a)) (fun a => (PV.int a)) (fun a => rfl) (fun a => rfl) a)) x27.1.2.2)) q_nil)) rfl rfl (hS__law_bent _ _ _ h_x29) rfl) m_nil)))) (c_3T (p := (x27.1.2.2, x28.1, x29.1)) (c_V (eP D.int D.int) (fun a => (PV.tup [(PV.int a.1), (PV.int a.2)])) (fun a => (c_P D.int D.int (fun a => (PV.int a)) (fun a => (PV.int a)) (fun a => rfl) (fun a => rfl) a)) x27.1.2.2) rfl rfl)) q_nil) it_T) ⟨_, rfl⟩ h_z51 (fun i32 s30 c e he h => by (obtain ⟨d31, rfl⟩ := he; refine g_bind (e1 := [some (D.scr ns), some (eW x29.2), some (D.int i13), some (PV.enc i32), some ((eT (eT D.int)) x27.1.1), some ((eT D.int) x27.1.2.1), some ((eT (eP D.int D.int)) x27.1.2.2), d8, d9, d10, d11, d12, none, none]) rfl ?_; obtain ⟨x46, h_x46, h⟩ := bnd h; obtain ⟨x47, h_x47, h⟩ := bnd h; obtain ⟨x48, h_x48, h⟩ := bnd h; rcases iteo h with ⟨hc, h⟩ | ⟨hc, h⟩; (refine g_iteT (t_not (t_bl (x_call (q_cons (x_call (q_cons (x_var (eT (eT D.int)) (a := x27.1.1) rfl) (q_cons (x_var (eT D.int) (a := x27.1.2.1) rfl) (q_cons (x_var PV.enc (a := i32) rfl) q_nil))) rfl rfl (hS_is_solution _ _ _ _ h_x46) rfl) (q_cons (x_call (q_cons (x_var (eT (eT D.int)) (a := x27.1.1) rfl) (q_cons (x_var (eT D.int) (a := x27.1.2.1) rfl) (q_cons (x_var PV.enc (a := i32) rfl) q_nil))) rfl rfl (hS__law_is_solution _ _ _ _ h_x47) rfl) q_nil)) rfl rfl (hS__law_same _ _ _ h_x48) rfl))) hc ?_; have h := sj h; subst h; exact g_rt (s_rtv x_bl) ⟨_, _, rfl, rfl, _, _, _, _, _, _, _, _, _, _, _, _, _, rfl⟩); (refine g_iteF (t_not (t_bl (x_call (q_cons (x_call (q_cons (x_var (eT (eT D.int)) (a := x27.1.1) rfl) (q_cons (x_var (eT D.int) (a := x27.1.2.1) rfl) (q_cons (x_var PV.enc (a := i32) rfl) q_nil))) rfl rfl (hS_is_solution _ _ _ _ h_x46) rfl) (q_cons (x_call (q_cons (x_var (eT (eT D.int)) (a := x27.1.1) rfl) (q_cons (x_var (eT D.int) (a := x27.1.2.1) rfl) (q_cons (x_var PV.enc (a := i32) rfl) q_nil))) rfl rfl (hS__law_is_solution _ _ _ _ h_x47) rfl) q_nil)) rfl rfl (hS__law_same _ _ _ h_x48) rfl))) hc ?_; have h := sj h; subst h; exact g_end ⟨_, _, rfl, .inl rfl, ⟨_, rfl⟩⟩))) ?_ ?_; (intro s50 e hz hI; subst hz; obtain ⟨d49, rfl⟩ := hI; replace h := sumO_r h; obtain ⟨x52, h_x52, h⟩ := bnd h; refine g_nx (e := [some (D.scr ns), some (eW x52.2), some (D.int i13), d49, some ((eT (eT D.int)) x27.1.1), some ((eT D.int) x27.1.2.1), some ((eT (eP D.int D.int)) x27.1.2.2), some ((eT (eT D.int)) x52.1.1), some ((eT D.int) x52.1.2.1), some ((eT D.int) x52.1.2.2), d11, d12, none, none]) (s_asg (x_call (q_cons (x_ref rfl rfl) (q_cons (x_var (eT (eT D.int)) (a := x27.1.1) rfl) (q_cons (x_var (eT D.int) (a := x27.1.2.1) rfl) q_nil))) rfl rfl (hS__law_more _ _ _ _ h_x52) rfl) rfl) ?_; obtain ⟨x53, h_x53, h⟩ := bnd h; obtain ⟨x54, h_x54, h⟩ := bnd h; obtain ⟨u55, h_u55, h⟩ := bnd h; obtain ⟨u57, h_u57, h⟩ := bnd h; obtain ⟨z80, h_z80, h⟩ := bnd h; refine g_forC (f := PV.enc) (fun (s59 : Unit) e => ∃ (d60 : Option D), e = [some (D.scr ns), some (eW x54.2), some (D.int i13), d60, some ((eT (eT D.int)) x27.1.1), some ((eT D.int) x27.1.2.1), some ((eT (eP D.int D.int)) x27.1.2.2), some ((eT (eT D.int)) x52.1.1), some ((eT D.int) x52.1.2.1), some ((eT D.int) x52.1.2.2), d11, d12, none, none]) (fun (q : Bool) d e => d = D.bl q ∧ ∃ (d62 d63 d64 d65 d66 d67 d68 d69 d70 d71 d72 d73 d74 : Option D), e = [some (D.scr ns), d62, d63, d64, d65, d66, d67, d68, d69, d70, d71, d72, d73, d74]) (fo_it (f := PV.enc) (xs := ([(PV.tup (x52.1.2.2.map fun a => (PV.int a))), x53.1, x54.1, (PV.tup ((x52.1.2.2.map fun a56 => (0 - a56)).map fun a => (PV.int a))), (PV.tup ((x52.1.2.2.map fun a58 => 0).map fun a => (PV.int a)))] : List PV)) (q_cons (x_tupT PV.enc ([(PV.tup (x52.1.2.2.map fun a => (PV.int a))), x53.1, x54.1, (PV.tup ((x52.1.2.2.map fun a56 => (0 - a56)).map fun a => (PV.int a))), (PV.tup ((x52.1.2.2.map fun a58 => 0).map fun a => (PV.int a)))] : List PV) (m_cons (x_cast (d' := PV.enc (PV.tup (x52.1.2.2.map fun a => (PV.int a)))) (x_var (eT D.int) (a := x52.1.2.2) rfl) (c_V D.int (fun a => (PV.int a)) (fun a => rfl) x52.1.2.2)) (m_cons (x_call (q_cons (x_ref rfl rfl) (q_cons (x_cast (d' := (eT PV.enc) (x52.1.2.2.map fun a => (PV.int a))) (x_var (eT D.int) (a := x52.1.2.2) rfl) (c_T D.int PV.enc (fun a => (PV.int a)) (fun a => rfl) x52.1.2.2)) q_nil)) rfl rfl (hS__law_bent _ _ _ h_x53) rfl) (m_cons (x_call (q_cons (x_ref rfl rfl) (q_cons (x_cast (d' := (eT PV.enc) (x52.1.2.2.map fun a => (PV.int a))) (x_var (eT D.int) (a := x52.1.2.2) rfl) (c_T D.int PV.enc (fun a => (PV.int a)) (fun a => rfl) x52.1.2.2)) q_nil)) rfl rfl (hS__law_bent _ _ _ h_x54) rfl) (m_cons (x_cast (d' := PV.enc (PV.tup ((x52.1.2.2.map fun a56 => (0 - a56)).map fun a => (PV.int a)))) (x_op1 (x_map (f := D.int) (g := D.int) (F := fun a56 => (0 - a56)) (E0 := [some (D.scr ns), some (eW x54.2), some (D.int i13), d49, some ((eT (eT D.int)) x27.1.1), some ((eT D.int) x27.1.2.1), some ((eT (eP D.int D.int)) x27.1.2.2), some ((eT (eT D.int)) x52.1.1), some ((eT D.int) x52.1.2.1), some ((eT D.int) x52.1.2.2), d11, d12, none, none]) (so_it (f := D.int) (xs := x52.1.2.2) (q_cons (x_var (eT D.int) (a := x52.1.2.2) rfl) q_nil) it_T) rfl rfl (szG_le h_u55) (fun a56 => ⟨[some (D.scr ns), some (eW x54.2), some (D.int i13), d49, some ((eT (eT D.int)) x27.1.1), some ((eT D.int) x27.1.2.1), some ((eT (eP D.int D.int)) x27.1.2.2), some ((eT (eT D.int)) x52.1.1), some ((eT D.int) x52.1.2.1), some ((eT D.int) x52.1.2.2), d11, d12, some (D.int a56), none], _, rfl, (x_op2 x_int (x_var D.int (a := a56) rfl) rfl rfl o_sub), rfl⟩) rfl) rfl (o_tupL D.int)) (c_V D.int (fun a => (PV.int a)) (fun a => rfl) (x52.1.2.2.map fun a56 => (0 - a56)))) (m_cons (x_cast (d' := PV.enc (PV.tup ((x52.1.2.2.map fun a58 => 0).map fun a => (PV.int a)))) (x_op1 (x_map (f := D.int) (g := D.int) (F := fun a58 => 0) (E0 := [some (D.scr ns), some (eW x54.2), some (D.int i13), d49, some ((eT (eT D.int)) x27.1.1), some ((eT D.int) x27.1.2.1), some ((eT (eP D.int D.int)) x27.1.2.2), some ((eT (eT D.int)) x52.1.1), some ((eT D.int) x52.1.2.1), some ((eT D.int) x52.1.2.2), d11, d12, none, none]) (so_it (f := D.int) (xs := x52.1.2.2) (q_cons (x_var (eT D.int) (a := x52.1.2.2) rfl) q_nil) it_T) rfl rfl (szG_le h_u57) (fun a58 => ⟨[some (D.scr ns), some (eW x54.2), some (D.int i13), d49, some ((eT (eT D.int)) x27.1.1), some ((eT D.int) x27.1.2.1), some ((eT (eP D.int D.int)) x27.1.2.2), some ((eT (eT D.int)) x52.1.1), some ((eT D.int) x52.1.2.1), some ((eT D.int) x52.1.2.2), d11, d12, some (D.int a58), none], _, rfl, x_int, rfl⟩) rfl) rfl (o_tupL D.int)) (c_V D.int (fun a => (PV.int a)) (fun a => rfl) (x52.1.2.2.map fun a58 => 0))) m_nil))))) rfl) q_nil) it_T) ⟨_, rfl⟩ h_z80 (fun i61 s59 c e he h => by (obtain ⟨d60, rfl⟩ := he; refine g_bind (e1 := [some (D.scr ns), some (eW x54.2), some (D.int i13), some (PV.enc i61), some ((eT (eT D.int)) x27.1.1), some ((eT D.int) x27.1.2.1), some ((eT (eP D.int D.int)) x27.1.2.2), some ((eT (eT D.int)) x52.1.1), some ((eT D.int) x52.1.2.1), some ((eT D.int) x52.1.2.2), d11, d12, none, none]) rfl ?_; obtain ⟨x75, h_x75, h⟩ := bnd h; obtain ⟨x76, h_x76, h⟩ := bnd h; obtain ⟨x77, h_x77, h⟩ := bnd h; rcases iteo h with ⟨hc, h⟩ | ⟨hc, h⟩; (refine g_iteT (t_not (t_bl (x_call (q_cons (x_call (q_cons (x_var (eT (eT D.int)) (a := x52.1.1) rfl) (q_cons (x_var (eT D.int) (a := x52.1.2.1) rfl) (q_cons (x_var PV.enc (a := i61) rfl) q_nil))) rfl rfl (hS_is_no_solution _ _ _ _ h_x75) rfl) (q_cons (x_call (q_cons (x_var (eT (eT D.int)) (a := x52.1.1) rfl) (q_cons (x_var (eT D.int) (a := x52.1.2.1) rfl) (q_cons (x_var PV.enc (a := i61) rfl) q_nil))) rfl rfl (hS__law_is_no_solution _ _ _ _ h_x76) rfl) q_nil)) rfl rfl (hS__law_same _ _ _ h_x77) rfl))) hc ?_; have h := sj h; subst h; exact g_rt (s_rtv x_bl) ⟨_, _, rfl, rfl, _, _, _, _, _, _, _, _, _, _, _, _, _, rfl⟩); (refine g_iteF (t_not (t_bl (x_call (q_cons (x_call (q_cons (x_var (eT (eT D.int)) (a := x52.1.1) rfl) (q_cons (x_var (eT D.int) (a := x52.1.2.1) rfl) (q_cons (x_var PV.enc (a := i61) rfl) q_nil))) rfl rfl (hS_is_no_solution _ _ _ _ h_x75) rfl) (q_cons (x_call (q_cons (x_var (eT (eT D.int)) (a := x52.1.1) rfl) (q_cons (x_var (eT D.int) (a := x52.1.2.1) rfl) (q_cons (x_var PV.enc (a := i61) rfl) q_nil))) rfl rfl (hS__law_is_no_solution _ _ _ _ h_x76) rfl) q_nil)) rfl rfl (hS__law_same _ _ _ h_x77) rfl))) hc ?_; have h := sj h; subst h; exact g_end ⟨_, _, rfl, .inl rfl, ⟨_, rfl⟩⟩))) ?_ ?_; (intro s79 e hz hI; subst hz; obtain ⟨d78, rfl⟩ := hI; replace h := sumO_r h; obtain ⟨x81, h_x81, h⟩ := bnd h; refine g_nx (e := [some (D.scr ns), some (eW x81.2), some (D.int i13), d78, some ((eT (eT D.int)) x27.1.1), some ((eT D.int) x27.1.2.1), some ((eT (eP D.int D.int)) x27.1.2.2), some ((eT (eT D.int)) x52.1.1), some ((eT D.int) x52.1.2.1), some ((eT (eP D.int D.int)) x81.1.2.2), some ((eT (eT D.int)) x81.1.1), some ((eT D.int) x81.1.2.1), none, none]) (s_asg (x_call (q_cons (x_ref rfl rfl) (q_cons (x_var (eT (eT D.int)) (a := x27.1.1) rfl) (q_cons (x_var (eT D.int) (a := x27.1.2.1) rfl) q_nil))) rfl rfl (hS__law_times _ _ _ _ h_x81) rfl) rfl) ?_; obtain ⟨x82, h_x82, h⟩ := bnd h; obtain ⟨x83, h_x83, h⟩ := bnd h; obtain ⟨u84, h_u84, h⟩ := bnd h; obtain ⟨y87, h_y87, h⟩ := bnd h; obtain ⟨z109, h_z109, h⟩ := bnd h; refine g_forC (f := PV.enc) (fun (s88 : Unit) e => ∃ (d89 : Option D), e = [some (D.scr ns), some (eW x83.2), some (D.int i13), d89, some ((eT (eT D.int)) x27.1.1), some ((eT D.int) x27.1.2.1), some ((eT (eP D.int D.int)) x27.1.2.2), some ((eT (eT D.int)) x52.1.1), some ((eT D.int) x52.1.2.1), some ((eT (eP D.int D.int)) x81.1.2.2), some ((eT (eT D.int)) x81.1.1), some ((eT D.int) x81.1.2.1), none, none]) (fun (q : Bool) d e => d = D.bl q ∧ ∃ (d91 d92 d93 d94 d95 d96 d97 d98 d99 d100 d101 d102 d103 : Option D), e = [some (D.scr ns), d91, d92, d93, d94, d95, d96, d97, d98, d99, d100, d101, d102, d103]) (fo_it (f := PV.enc) (xs := [(PV.tup (x81.1.2.2.map fun a => (PV.tup [(PV.int a.1), (PV.int a.2)]))), x82.1, x83.1, (PV.tup (y87.map fun a => (PV.tup [(PV.int a.1), (PV.int a.2)])))]) (q_cons (x_cast (d' := (eT PV.enc) ([(PV.tup (x81.1.2.2.map fun a => (PV.tup [(PV.int a.1), (PV.int a.2)]))), x82.1, x83.1, (PV.tup (y87.map fun a => (PV.tup [(PV.int a.1), (PV.int a.2)])))])) (x_tup4 (eT (eP D.int D.int)) PV.enc PV.enc (eT (eP D.int D.int)) x81.1.2.2 x82.1 x83.1 y87 (m_cons (x_var (eT (eP D.int D.int)) (a := x81.1.2.2) rfl) (m_cons (x_call (q_cons (x_ref rfl rfl) (q_cons (x_cast (d' := (eT PV.enc) (x81.1.2.2.map fun a => (PV.tup [(PV.int a.1), (PV.int a.2)]))) (x_var (eT (eP D.int D.int)) (a := x81.1.2.2) rfl) (c_T (eP D.int D.int) PV.enc (fun a => (PV.tup [(PV.int a.1), (PV.int a.2)])) (fun a => (c_P D.int D.int (fun a => (PV.int a)) (fun a => (PV.int a)) (fun a => rfl) (fun a => rfl) a)) x81.1.2.2)) q_nil)) rfl rfl (hS__law_bent _ _ _ h_x82) rfl) (m_cons (x_call (q_cons (x_ref rfl rfl) (q_cons (x_cast (d' := (eT PV.enc) (x81.1.2.2.map fun a => (PV.tup [(PV.int a.1), (PV.int a.2)]))) (x_var (eT (eP D.int D.int)) (a := x81.1.2.2) rfl) (c_T (eP D.int D.int) PV.enc (fun a => (PV.tup [(PV.int a.1), (PV.int a.2)])) (fun a => (c_P D.int D.int (fun a => (PV.int a)) (fun a => (PV.int a)) (fun a => rfl) (fun a => rfl) a)) x81.1.2.2)) q_nil)) rfl rfl (hS__law_bent _ _ _ h_x83) rfl) (m_cons (x_op1 (x_mapO (f := (eP D.int D.int)) (g := (eP D.int D.int)) (E0 := [some (D.scr ns), some (eW x83.2), some (D.int i13), d78, some ((eT (eT D.int)) x27.1.1), some ((eT D.int) x27.1.2.1), some ((eT (eP D.int D.int)) x27.1.2.2), some ((eT (eT D.int)) x52.1.1), some ((eT D.int) x52.1.2.1), some ((eT (eP D.int D.int)) x81.1.2.2), some ((eT (eT D.int)) x81.1.1), some ((eT D.int) x81.1.2.1), none, none]) (so_it (f := (eP D.int D.int)) (xs := x81.1.2.2) (q_cons (x_var (eT (eP D.int D.int)) (a := x81.1.2.2) rfl) q_nil) it_T) rfl rfl (szG_le h_u84) h_y87 (fun a85 y h => by (obtain ⟨x86, h_x86, h⟩ := bnde h; have h := sj h; subst h; exact ⟨[some (D.scr ns), some (eW x83.2), some (D.int i13), d78, some ((eT (eT D.int)) x27.1.1), some ((eT D.int) x27.1.2.1), some ((eT (eP D.int D.int)) x27.1.2.2), some ((eT (eT D.int)) x52.1.1), some ((eT D.int) x52.1.2.1), some ((eT (eP D.int D.int)) x81.1.2.2), some ((eT (eT D.int)) x81.1.1), some ((eT D.int) x81.1.2.1), some (D.int a85.1), some (D.int a85.2)], _, rfl, (x_call (q_cons (x_var D.int (a := a85.1) rfl) (q_cons x_int q_nil)) rfl rfl (hS__law_low _ _ _ h_x86) rfl), rfl⟩)) rfl) rfl (o_tupL (eP D.int D.int))) m_nil))))) (c_4T (p := (x81.1.2.2, x82.1, x83.1, y87)) (c_V (eP D.int D.int) (fun a => (PV.tup [(PV.int a.1), (PV.int a.2)])) (fun a => (c_P D.int D.int (fun a => (PV.int a)) (fun a => (PV.int a)) (fun a => rfl) (fun a => rfl) a)) x81.1.2.2) rfl rfl (c_V (eP D.int D.int) (fun a => (PV.tup [(PV.int a.1), (PV.int a.2)])) (fun a => (c_P D.int D.int (fun a => (PV.int a)) (fun a => (PV.int a)) (fun a => rfl) (fun a => rfl) a)) y87))) q_nil) it_T) ⟨_, rfl⟩ h_z109 (fun i90 s88 c e he h => by (obtain ⟨d89, rfl⟩ := he; refine g_bind (e1 := [some (D.scr ns), some (eW x83.2), some (D.int i13), some (PV.enc i90), some ((eT (eT D.int)) x27.1.1), some ((eT D.int) x27.1.2.1), some ((eT (eP D.int D.int)) x27.1.2.2), some ((eT (eT D.int)) x52.1.1), some ((eT D.int) x52.1.2.1), some ((eT (eP D.int D.int)) x81.1.2.2), some ((eT (eT D.int)) x81.1.1), some ((eT D.int) x81.1.2.1), none, none]) rfl ?_; obtain ⟨x104, h_x104, h⟩ := bnd h; obtain ⟨x105, h_x105, h⟩ := bnd h; obtain ⟨x106, h_x106, h⟩ := bnd h; rcases iteo h with ⟨hc, h⟩ | ⟨hc, h⟩; (refine g_iteT (t_not (t_bl (x_call (q_cons (x_call (q_cons (x_var (eT (eT D.int)) (a := x81.1.1) rfl) (q_cons (x_var (eT D.int) (a := x81.1.2.1) rfl) (q_cons (x_var PV.enc (a := i90) rfl) q_nil))) rfl rfl (hS_is_no_whole _ _ _ _ h_x104) rfl) (q_cons (x_call (q_cons (x_var (eT (eT D.int)) (a := x81.1.1) rfl) (q_cons (x_var (eT D.int) (a := x81.1.2.1) rfl) (q_cons (x_var PV.enc (a := i90) rfl) q_nil))) rfl rfl (hS__law_is_no_whole _ _ _ _ h_x105) rfl) q_nil)) rfl rfl (hS__law_same _ _ _ h_x106) rfl))) hc ?_; have h := sj h; subst h; exact g_rt (s_rtv x_bl) ⟨_, _, rfl, rfl, _, _, _, _, _, _, _, _, _, _, _, _, _, rfl⟩); (refine g_iteF (t_not (t_bl (x_call (q_cons (x_call (q_cons (x_var (eT (eT D.int)) (a := x81.1.1) rfl) (q_cons (x_var (eT D.int) (a := x81.1.2.1) rfl) (q_cons (x_var PV.enc (a := i90) rfl) q_nil))) rfl rfl (hS_is_no_whole _ _ _ _ h_x104) rfl) (q_cons (x_call (q_cons (x_var (eT (eT D.int)) (a := x81.1.1) rfl) (q_cons (x_var (eT D.int) (a := x81.1.2.1) rfl) (q_cons (x_var PV.enc (a := i90) rfl) q_nil))) rfl rfl (hS__law_is_no_whole _ _ _ _ h_x105) rfl) q_nil)) rfl rfl (hS__law_same _ _ _ h_x106) rfl))) hc ?_; have h := sj h; subst h; exact g_end ⟨_, _, rfl, .inl rfl, ⟨_, rfl⟩⟩))) ?_ ?_; (intro s108 e hz hI; subst hz; obtain ⟨d107, rfl⟩ := hI; replace h := sumO_r h; have h := sj h; subst h; exact g_end ⟨_, _, rfl, .inl rfl, ⟨_, _, _, _, _, _, _, _, _, _, rfl⟩⟩); (intro q d e hz hR; subst hz; obtain ⟨rfl, d91, d92, d93, d94, d95, d96, d97, d98, d99, d100, d101, d102, d103, rfl⟩ := hR; replace h := sumO_l h; have h := sj h; subst h; exact ⟨_, _, rfl, rfl, _, _, _, _, _, _, _, _, _, _, _, _, _, rfl⟩)); (intro q d e hz hR; subst hz; obtain ⟨rfl, d62, d63, d64, d65, d66, d67, d68, d69, d70, d71, d72, d73, d74, rfl⟩ := hR; replace h := sumO_l h; have h := sj h; subst h; exact ⟨_, _, rfl, rfl, _, _, _, _, _, _, _, _, _, _, _, _, _, rfl⟩)); (intro q d e hz hR; subst hz; obtain ⟨rfl, d33, d34, d35, d36, d37, d38, d39, d40, d41, d42, d43, d44, d45, rfl⟩ := hR; replace h := sumO_l h; have h := sj h; subst h; exact ⟨_, _, rfl, rfl, _, _, _, _, _, _, _, _, _, _, _, _, _, rfl⟩))) ?_ ?_
  (intro s120 e hz hI; subst hz; obtain ⟨d110, d111, d112, d113, d114, d115, d116, d117, d118, d119, rfl⟩ := hI; replace h := sumO_r h; have h := sj h; subst h; exact g_rt (s_rtv x_bl) ⟨_, _, rfl, .inl rfl, (bk_p (Pl.pl (f := D.scr) _) bk_nil)⟩)
  (intro q d e hz hR; subst hz; obtain ⟨rfl, d14, d15, d16, d17, d18, d19, d20, d21, d22, d23, d24, d25, d26, rfl⟩ := hR; replace h := sumO_l h; have h := sj h; subst h; exact ⟨_, _, rfl, .inl rfl, (bk_p (Pl.pl (f := D.scr) _) bk_nil)⟩)

end Sh
end

section
namespace Sh
open DL TL
theorem l_next (k : Nat) : S_next ⟨evF Pg.T (k + 1)⟩ 1 := fun w n r h => S_of (k := k) rfl (f := Pg.f1) rfl (nextW_runs ⟨evF Pg.T k⟩ w n r h)

theorem l_pick (k : Nat) : S_pick ⟨evF Pg.T (k + 2)⟩ 2 := fun f _ w xs x w' h => S_of (k := k + 1) rfl (f := Pg.f2) rfl (pick_runs ⟨evF Pg.T (k + 1)⟩ 1 (l_next k) f w xs x w' h)

theorem l_pickT (k : Nat) : S_pickT ⟨evF Pg.T (k + 2)⟩ 2 := fun f _ w xs x w' h => S_of (k := k + 1) rfl (f := Pg.f2) rfl (pick_runsT ⟨evF Pg.T (k + 1)⟩ 1 (l_next k) f w xs x w' h)

theorem l_pickF (k : Nat) : S_pickF ⟨evF Pg.T (k + 2)⟩ 8 := fun f g w xs x w' h hg => S_of (k := k + 1) rfl (f := Pg.f8) rfl (pickF_runs ⟨evF Pg.T (k + 1)⟩ 1 (l_next k) f g w xs x w' h hg)

theorem l__law_rows (k : Nat) : S__law_rows ⟨evF Pg.T (k + 3)⟩ := by
  intro x0 x1 x2 r h
  exact S_of (k := k + 2) rfl (f := Pg.f3) rfl (b__law_rows ⟨evF Pg.T (k + 2)⟩ (l_next (k + 1)) (l_pick k) x0 x1 x2 r h)

theorem l__law_whole (k : Nat) : S__law_whole ⟨evF Pg.T (k + 3)⟩ := by
  intro x0 x1 r h
  exact S_of (k := k + 2) rfl (f := Pg.f4) rfl (b__law_whole ⟨evF Pg.T (k + 2)⟩ (l_next (k + 1)) (l_pick k) x0 x1 r h)

theorem l__law_sums (k : Nat) : S__law_sums ⟨evF Pg.T (k + 1)⟩ := by
  intro x0 x1 r h
  exact S_of (k := k + 0) rfl (f := Pg.f5) rfl (b__law_sums ⟨evF Pg.T (k + 0)⟩  x0 x1 r h)

theorem l__law_low (k : Nat) : S__law_low ⟨evF Pg.T (k + 1)⟩ := by
  intro x0 x1 r h
  exact S_of (k := k + 0) rfl (f := Pg.f6) rfl (b__law_low ⟨evF Pg.T (k + 0)⟩  x0 x1 r h)

theorem l__law_parted (k : Nat) : S__law_parted ⟨evF Pg.T (k + 4)⟩ := by
  intro x0 r h
  exact S_of (k := k + 3) rfl (f := Pg.f7) rfl (b__law_parted ⟨evF Pg.T (k + 3)⟩ (l_next (k + 2)) (l_pick (k + 1)) (l__law_rows k) (l__law_whole k) (l__law_sums (k + 2)) (l__law_low (k + 2)) x0 r h)

theorem l__law_bent (k : Nat) : S__law_bent ⟨evF Pg.T (k + 3)⟩ := by
  intro x0 x1 r h
  exact S_of (k := k + 2) rfl (f := Pg.f9) rfl (b__law_bent ⟨evF Pg.T (k + 2)⟩ (l_next (k + 1)) (l_pick k) (l_pickF k) x0 x1 r h)

theorem l_width_of (k : Nat) : S_width_of ⟨evF Pg.T (k + 1)⟩ := by
  intro x0 r h
  exact S_of (k := k + 0) rfl (f := Pg.f10) rfl (b_width_of ⟨evF Pg.T (k + 0)⟩  x0 r h)

theorem l_divisor (k : Nat) : S_divisor ⟨evF Pg.T (k + 1)⟩ := by
  intro x0 x1 r h
  exact S_of (k := k + 0) rfl (f := Pg.f11) rfl (b_divisor ⟨evF Pg.T (k + 0)⟩  x0 x1 r h)

theorem l_is_fraction (k : Nat) : S_is_fraction ⟨evF Pg.T (k + 2)⟩ := by
  intro x0 r h
  exact S_of (k := k + 1) rfl (f := Pg.f12) rfl (b_is_fraction ⟨evF Pg.T (k + 1)⟩ (l_divisor k) x0 r h)

theorem l_are_fractions (k : Nat) : S_are_fractions ⟨evF Pg.T (k + 3)⟩ := by
  intro x0 x1 r h
  exact S_of (k := k + 2) rfl (f := Pg.f13) rfl (b_are_fractions ⟨evF Pg.T (k + 2)⟩ (l_is_fraction k) x0 x1 r h)

theorem l_whole (k : Nat) : S_whole ⟨evF Pg.T (k + 1)⟩ := by
  intro x0 r h
  exact S_of (k := k + 0) rfl (f := Pg.f14) rfl (b_whole ⟨evF Pg.T (k + 0)⟩  x0 r h)

theorem l_wholes (k : Nat) : S_wholes ⟨evF Pg.T (k + 2)⟩ := by
  intro x0 r h
  exact S_of (k := k + 1) rfl (f := Pg.f15) rfl (b_wholes ⟨evF Pg.T (k + 1)⟩ (l_whole k) x0 r h)

theorem l_lowest (k : Nat) : S_lowest ⟨evF Pg.T (k + 2)⟩ := by
  intro x0 x1 r h
  exact S_of (k := k + 1) rfl (f := Pg.f16) rfl (b_lowest ⟨evF Pg.T (k + 1)⟩ (l_divisor k) x0 x1 r h)

theorem l_times (k : Nat) : S_times ⟨evF Pg.T (k + 3)⟩ := by
  intro x0 x1 r h
  exact S_of (k := k + 2) rfl (f := Pg.f17) rfl (b_times ⟨evF Pg.T (k + 2)⟩ (l_lowest k) x0 x1 r h)

theorem l_plus (k : Nat) : S_plus ⟨evF Pg.T (k + 3)⟩ := by
  intro x0 x1 r h
  exact S_of (k := k + 2) rfl (f := Pg.f18) rfl (b_plus ⟨evF Pg.T (k + 2)⟩ (l_lowest k) x0 x1 r h)

theorem l_dot (k : Nat) : S_dot ⟨evF Pg.T (k + 4)⟩ := by
  intro x0 x1 r h
  exact S_of (k := k + 3) rfl (f := Pg.f19) rfl (b_dot ⟨evF Pg.T (k + 3)⟩ (l_times k) (l_plus k) x0 x1 r h)

theorem l_is_solution (k : Nat) : S_is_solution ⟨evF Pg.T (k + 5)⟩ := by
  intro x0 x1 x2 r h
  exact S_of (k := k + 4) rfl (f := Pg.f20) rfl (b_is_solution ⟨evF Pg.T (k + 4)⟩ (l_width_of (k + 3)) (l_are_fractions (k + 1)) (l_wholes (k + 2)) (l_dot k) (l_whole (k + 3)) x0 x1 x2 r h)

theorem l__law_is_number (k : Nat) : S__law_is_number ⟨evF Pg.T (k + 1)⟩ := by
  intro x0 r h
  exact S_of (k := k + 0) rfl (f := Pg.f21) rfl (b__law_is_number ⟨evF Pg.T (k + 0)⟩  x0 r h)

theorem l__law_is_fraction (k : Nat) : S__law_is_fraction ⟨evF Pg.T (k + 2)⟩ := by
  intro x0 r h
  exact S_of (k := k + 1) rfl (f := Pg.f22) rfl (b__law_is_fraction ⟨evF Pg.T (k + 1)⟩ (l__law_is_number k) (l__law_low k) x0 r h)

theorem l__law_is_fractions (k : Nat) : S__law_is_fractions ⟨evF Pg.T (k + 3)⟩ := by
  intro x0 x1 r h
  exact S_of (k := k + 2) rfl (f := Pg.f23) rfl (b__law_is_fractions ⟨evF Pg.T (k + 2)⟩ (l__law_is_fraction k) x0 x1 r h)

theorem l__law_mul (k : Nat) : S__law_mul ⟨evF Pg.T (k + 2)⟩ := by
  intro x0 x1 r h
  exact S_of (k := k + 1) rfl (f := Pg.f24) rfl (b__law_mul ⟨evF Pg.T (k + 1)⟩ (l__law_low k) x0 x1 r h)

theorem l__law_add (k : Nat) : S__law_add ⟨evF Pg.T (k + 2)⟩ := by
  intro x0 x1 r h
  exact S_of (k := k + 1) rfl (f := Pg.f25) rfl (b__law_add ⟨evF Pg.T (k + 1)⟩ (l__law_low k) x0 x1 r h)

theorem l__law_dot (k : Nat) : S__law_dot ⟨evF Pg.T (k + 3)⟩ := by
  intro x0 x1 r h
  exact S_of (k := k + 2) rfl (f := Pg.f26) rfl (b__law_dot ⟨evF Pg.T (k + 2)⟩ (l__law_mul k) (l__law_add k) x0 x1 r h)

theorem l__law_is_solution (k : Nat) : S__law_is_solution ⟨evF Pg.T (k + 4)⟩ := by
  intro x0 x1 x2 r h
  exact S_of (k := k + 3) rfl (f := Pg.f27) rfl (b__law_is_solution ⟨evF Pg.T (k + 3)⟩ (l__law_is_fractions k) (l__law_dot k) x0 x1 x2 r h)

theorem l__law_same (k : Nat) : S__law_same ⟨evF Pg.T (k + 1)⟩ := by
  intro x0 x1 r h
  exact S_of (k := k + 0) rfl (f := Pg.f28) rfl (b__law_same ⟨evF Pg.T (k + 0)⟩  x0 x1 r h)

theorem l__law_more (k : Nat) : S__law_more ⟨evF Pg.T (k + 3)⟩ := by
  intro x0 x1 x2 r h
  exact S_of (k := k + 2) rfl (f := Pg.f29) rfl (b__law_more ⟨evF Pg.T (k + 2)⟩ (l_next (k + 1)) (l_pick k) x0 x1 x2 r h)

theorem l_is_number (k : Nat) : S_is_number ⟨evF Pg.T (k + 1)⟩ := by
  intro x0 r h
  exact S_of (k := k + 0) rfl (f := Pg.f30) rfl (b_is_number ⟨evF Pg.T (k + 0)⟩  x0 r h)

theorem l_is_numbers (k : Nat) : S_is_numbers ⟨evF Pg.T (k + 2)⟩ := by
  intro x0 x1 r h
  exact S_of (k := k + 1) rfl (f := Pg.f31) rfl (b_is_numbers ⟨evF Pg.T (k + 1)⟩ (l_is_number k) x0 x1 r h)

theorem l_wholes_q (k : Nat) : S_wholes_q ⟨evF Pg.T (k + 2)⟩ := by
  intro x0 r h
  exact S_of (k := k + 1) rfl (f := Pg.f32) rfl (b_wholes_q ⟨evF Pg.T (k + 1)⟩ (l_whole k) x0 r h)

theorem l_summed (k : Nat) : S_summed ⟨evF Pg.T (k + 5)⟩ := by
  intro x0 x1 r h
  exact S_of (k := k + 4) rfl (f := Pg.f33) rfl (b_summed ⟨evF Pg.T (k + 4)⟩ (l_wholes_q (k + 2)) (l_dot k) x0 x1 r h)

theorem l_is_no_solution (k : Nat) : S_is_no_solution ⟨evF Pg.T (k + 6)⟩ := by
  intro x0 x1 x2 r h
  exact S_of (k := k + 5) rfl (f := Pg.f34) rfl (b_is_no_solution ⟨evF Pg.T (k + 5)⟩ (l_is_numbers (k + 3)) (l_wholes (k + 3)) (l_summed k) (l_dot (k + 1)) x0 x1 x2 r h)

theorem l__law_is_numbers (k : Nat) : S__law_is_numbers ⟨evF Pg.T (k + 2)⟩ := by
  intro x0 r h
  exact S_of (k := k + 1) rfl (f := Pg.f35) rfl (b__law_is_numbers ⟨evF Pg.T (k + 1)⟩ (l__law_is_number k) x0 r h)

theorem l__law_wholes (k : Nat) : S__law_wholes ⟨evF Pg.T (k + 1)⟩ := by
  intro x0 r h
  exact S_of (k := k + 0) rfl (f := Pg.f36) rfl (b__law_wholes ⟨evF Pg.T (k + 0)⟩  x0 r h)

theorem l__law_column (k : Nat) : S__law_column ⟨evF Pg.T (k + 1)⟩ := by
  intro x0 x1 r h
  exact S_of (k := k + 0) rfl (f := Pg.f37) rfl (b__law_column ⟨evF Pg.T (k + 0)⟩  x0 x1 r h)

theorem l__law_dot_q (k : Nat) : S__law_dot_q ⟨evF Pg.T (k + 3)⟩ := by
  intro x0 x1 r h
  exact S_of (k := k + 2) rfl (f := Pg.f26) rfl (b__law_dot_q ⟨evF Pg.T (k + 2)⟩ (l__law_mul k) (l__law_add k) x0 x1 r h)

theorem l__law_is_no_solution (k : Nat) : S__law_is_no_solution ⟨evF Pg.T (k + 4)⟩ := by
  intro x0 x1 x2 r h
  exact S_of (k := k + 3) rfl (f := Pg.f38) rfl (b__law_is_no_solution ⟨evF Pg.T (k + 3)⟩ (l__law_is_numbers (k + 1)) (l__law_wholes (k + 2)) (l__law_column (k + 2)) (l__law_dot_q k) (l__law_dot k) x0 x1 x2 r h)

theorem l__law_times (k : Nat) : S__law_times ⟨evF Pg.T (k + 3)⟩ := by
  intro x0 x1 x2 r h
  exact S_of (k := k + 2) rfl (f := Pg.f39) rfl (b__law_times ⟨evF Pg.T (k + 2)⟩ (l_next (k + 1)) (l_pick k) (l__law_low (k + 1)) x0 x1 x2 r h)

theorem l_is_no_whole (k : Nat) : S_is_no_whole ⟨evF Pg.T (k + 6)⟩ := by
  intro x0 x1 x2 r h
  exact S_of (k := k + 5) rfl (f := Pg.f40) rfl (b_is_no_whole ⟨evF Pg.T (k + 5)⟩ (l_are_fractions (k + 2)) (l_summed k) (l_wholes (k + 3)) (l_dot (k + 1)) x0 x1 x2 r h)

theorem l__law_is_no_whole (k : Nat) : S__law_is_no_whole ⟨evF Pg.T (k + 4)⟩ := by
  intro x0 x1 x2 r h
  exact S_of (k := k + 3) rfl (f := Pg.f41) rfl (b__law_is_no_whole ⟨evF Pg.T (k + 3)⟩ (l__law_is_fractions k) (l__law_column (k + 2)) (l__law_dot_q k) (l__law_dot k) x0 x1 x2 r h)


theorem law_k (k k' : Nat) (hk : k' = k + 7) (H : ∀ L, law L = some true) (ns : List Int) (h : ns.length ≤ 63) : ∃ ds', evF Pg.T k' 42 [.scr ns] = some (.bl true, ds') := by
  show ∃ ds', (Ctx.mk (evF Pg.T k')).call 42 [.scr ns] = some (.bl true, ds')
  obtain ⟨L, hL⟩ := K31.draws_runs ⟨evF Pg.T (k + 5)⟩ ns 600 h (by decide) (by decide)
  exact ⟨_, S_of (k := k + 6) hk (f := Pg.f42) rfl (b_law ⟨evF Pg.T (k + 6)⟩ (l__law_parted (k + 2)) (l__law_bent (k + 3)) (l_is_solution (k + 1)) (l__law_is_solution (k + 2)) (l__law_same (k + 5)) (l__law_more (k + 3)) (l_is_no_solution k) (l__law_is_no_solution (k + 2)) (l__law_times (k + 3)) (l__law_low (k + 5)) (l_is_no_whole k) (l__law_is_no_whole (k + 2)) L ns (S_of (k := k + 5) rfl (f := Pg.f0) rfl hL) true (H L))⟩

theorem law_true (H : ∀ L, law L = some true) (ns : List Int) (h : ns.length ≤ 63) : ∃ ds', evF Pg.T 7 42 [.scr ns] = some (.bl true, ds') := law_k 0 7 rfl H ns h
end Sh
end

section
/-! k27 A1: fractions. -/
namespace Sh
open DL TL K31
theorem divisor_eq (a b : Int) : divisor a b = some (Int.gcd a b : Int) := by
  unfold divisor
  simp only [Option.bind_some]
  rw [euclidS]; rfl
theorem lowest_eq {a b : Int} (hb : b ≠ 0) (hs : Bd 4999 b) : lowest a b = some (nfN a b, nfD a b) := by
  unfold lowest
  obtain ⟨h1, h2⟩ := lowest_divs (a := a) hb hs
  rw [divisor_eq]
  simp only [Option.bind_some]
  by_cases hn : b < 0
  · rw [if_pos hn] at h1 h2
    simp only [hn, decide_true, if_true, Option.bind_some, h1, h2]
  · rw [if_neg hn] at h1 h2
    simp only [hn, decide_false, Bool.false_eq_true, if_false, Option.bind_some, h1, h2]
theorem low_eq {a b : Int} (hb : 0 < b) (hs : Bd 4999 b) : _law_low a b = some (nfN a b, nfD a b) := by
  unfold _law_low
  obtain ⟨h1, h2⟩ := low_divs (a := a) hb hs
  rw [rngG_of (by omega) (by omega), Option.bind_some, lowAll a b hb hs]
  simp only [Option.bind_some, sumO, h1, h2]
theorem bm' {x y : Int} (hx : Bd 2000 x) (hy : Bd 2000 y) : mulG x y = some (x * y) := mulG_of (mul_of hx hy (by decide) (by decide) (by decide))
theorem times_eq {a b : Int × Int} (h1 : a.2 ≠ 0) (h2 : b.2 ≠ 0) (k1 : Bd 2000 a.1) (k2 : Bd 2000 a.2) (k3 : Bd 2000 b.1) (k4 : Bd 2000 b.2) : times a b = some (nfN (a.1 * b.1) (a.2 * b.2), nfD (a.1 * b.1) (a.2 * b.2)) := by
  unfold times
  rw [bm' k1 k3, bm' k2 k4]
  simp only [Option.bind_some]
  rw [lowest_eq (Int.mul_ne_zero h1 h2) ((k2.mul k4).mono (by decide))]
theorem plus_eq {a b : Int × Int} (h1 : a.2 ≠ 0) (h2 : b.2 ≠ 0) (k1 : Bd 2000 a.1) (k2 : Bd 2000 a.2) (k3 : Bd 2000 b.1) (k4 : Bd 2000 b.2) : plus a b = some (nfN (a.1 * b.2 + b.1 * a.2) (a.2 * b.2), nfD (a.1 * b.2 + b.1 * a.2) (a.2 * b.2)) := by
  unfold plus
  rw [bm' k1 k4, bm' k3 k2, bm' k2 k4]
  simp only [Option.bind_some]
  rw [lowest_eq (Int.mul_ne_zero h1 h2) ((k2.mul k4).mono (by decide))]
theorem lmul_eq {a b : Int × Int} (h1 : 0 < a.2) (h2 : 0 < b.2) (k1 : Bd 2000 a.1) (k2 : Bd 2000 a.2) (k3 : Bd 2000 b.1) (k4 : Bd 2000 b.2) : _law_mul a b = some (nfN (a.1 * b.1) (a.2 * b.2), nfD (a.1 * b.1) (a.2 * b.2)) := by
  unfold _law_mul
  rw [bm' k1 k3, bm' k2 k4]
  simp only [Option.bind_some]
  rw [low_eq (Int.mul_pos h1 h2) ((k2.mul k4).mono (by decide))]
theorem ladd_eq {a b : Int × Int} (h1 : 0 < a.2) (h2 : 0 < b.2) (k1 : Bd 2000 a.1) (k2 : Bd 2000 a.2) (k3 : Bd 2000 b.1) (k4 : Bd 2000 b.2) : _law_add a b = some (nfN (a.1 * b.2 + b.1 * a.2) (a.2 * b.2), nfD (a.1 * b.2 + b.1 * a.2) (a.2 * b.2)) := by
  unfold _law_add
  rw [bm' k1 k4, bm' k3 k2, bm' k2 k4]
  simp only [Option.bind_some]
  rw [low_eq (Int.mul_pos h1 h2) ((k2.mul k4).mono (by decide))]
/-! the sum of products: both reckon the same, in lowest terms -/
def okP (p : Int × Int) : Prop := 0 < p.2 ∧ Bd 40 p.1 ∧ Bd 40 p.2
/-- the sum so far, not in lowest terms -/
def accP (s : Int × Int) (p : (Int × Int) × (Int × Int)) : Int × Int := (s.1 * (p.1.2 * p.2.2) + (p.1.1 * p.2.1) * s.2, s.2 * (p.1.2 * p.2.2))
def nfP (s : Int × Int) : Int × Int := (nfN s.1 s.2, nfD s.1 s.2)
theorem accP_ok {s : Int × Int} {p : (Int × Int) × (Int × Int)} {n : Nat} (h0 : 0 < s.2) (h1 : Bd n s.1) (h2 : Bd n s.2) (hp : okP p.1) (hq : okP p.2) : 0 < (accP s p).2 ∧ Bd (n + 81) (accP s p).1 ∧ Bd (n + 81) (accP s p).2 := by
  obtain ⟨a1, a2, a3⟩ := hp
  obtain ⟨b1, b2, b3⟩ := hq
  refine ⟨Int.mul_pos h0 (Int.mul_pos a1 b1), ?_, (h2.mul (a3.mul b3)).mono (by omega)⟩
  exact ((h1.mul (a3.mul b3)).add (((a2.mul b2).mul h2).mono (m := n + (40 + 40)) (by omega))).mono (by omega)
theorem nfP_step {s : Int × Int} {p : (Int × Int) × (Int × Int)} (h0 : 0 < s.2) (hp : okP p.1) (hq : okP p.2) :
    (nfN ((nfP s).1 * (nfP (p.1.1 * p.2.1, p.1.2 * p.2.2)).2 + (nfP (p.1.1 * p.2.1, p.1.2 * p.2.2)).1 * (nfP s).2) ((nfP s).2 * (nfP (p.1.1 * p.2.1, p.1.2 * p.2.2)).2),
     nfD ((nfP s).1 * (nfP (p.1.1 * p.2.1, p.1.2 * p.2.2)).2 + (nfP (p.1.1 * p.2.1, p.1.2 * p.2.2)).1 * (nfP s).2) ((nfP s).2 * (nfP (p.1.1 * p.2.1, p.1.2 * p.2.2)).2)) = nfP (accP s p) := by
  have := nf_add (a := s.1) (b := s.2) (c := p.1.1 * p.2.1) (d := p.1.2 * p.2.2) h0 (Int.mul_pos hp.1 hq.1)
  unfold nfP accP
  exact Prod.ext this.1 this.2
def accs (s : Int × Int) (ps : List ((Int × Int) × (Int × Int))) : Int × Int := ps.foldl accP s
def sumP (ps : List ((Int × Int) × (Int × Int))) : Int × Int := nfP (accs (0, 1) ps)
/-- what is kept of a sum in lowest terms, over n parts -/
theorem stepBd {s : Int × Int} {p : (Int × Int) × (Int × Int)} (h0 : 0 < s.2) (h1 : Bd 1500 s.1) (h2 : Bd 1500 s.2) (hp : okP p.1) (hq : okP p.2) :
    0 < (nfP s).2 ∧ Bd 2000 (nfP s).1 ∧ Bd 2000 (nfP s).2 ∧ 0 < (nfP (p.1.1 * p.2.1, p.1.2 * p.2.2)).2 ∧ Bd 2000 (nfP (p.1.1 * p.2.1, p.1.2 * p.2.2)).1 ∧ Bd 2000 (nfP (p.1.1 * p.2.1, p.1.2 * p.2.2)).2 := by
  have q0 := Int.mul_pos hp.1 hq.1
  refine ⟨nfD_pos (by omega), (h1.le (nfN_le (by omega))).mono (by omega), (h2.le nfD_le).mono (by omega), nfD_pos (by omega), ((hp.2.1.mul hq.2.1).le (nfN_le (by omega))).mono (by decide), ((hp.2.2.mul hq.2.2).le nfD_le).mono (by decide)⟩
theorem fold_dot (F : (Int × Int) → ((Int × Int) × (Int × Int)) → Option (Int × Int)) (hF : ∀ (s : Int × Int) p, 0 < s.2 → Bd 1500 s.1 → Bd 1500 s.2 → okP p.1 → okP p.2 → F (nfP s) p = some (nfP (accP s p))) :
    ∀ (ps : List ((Int × Int) × (Int × Int))) (s : Int × Int) (n : Nat), (∀ p ∈ ps, okP p.1 ∧ okP p.2) → 0 < s.2 → Bd n s.1 → Bd n s.2 → n + 81 * ps.length ≤ 1400 → foldO (fun p s => F s p) ps (nfP s) = some (nfP (accs s ps))
  | [], s, n, _, _, _, _, _ => rfl
  | p :: ps, s, n, hp, h0, h1, h2, hn => by
    rw [List.length_cons] at hn
    obtain ⟨q1, q2⟩ := hp p List.mem_cons_self
    obtain ⟨a1, a2, a3⟩ := accP_ok h0 h1 h2 q1 q2
    rw [foldO, hF s p h0 (h1.mono (by omega)) (h2.mono (by omega)) q1 q2]
    exact fold_dot F hF ps (accP s p) (n + 81) (fun r hr => hp r (List.mem_cons_of_mem _ hr)) a1 a2 a3 (by omega)
theorem nfP0 : nfP (0, 1) = (0, 1) := by decide
theorem dot_eq {rows xs : List (Int × Int)} (h : ∀ p ∈ rows.zip xs, okP p.1 ∧ okP p.2) (hl : (rows.zip xs).length ≤ 10) : dot rows xs = some (sumP (rows.zip xs)) := by
  unfold dot
  have := fold_dot (fun s p => (times p.1 p.2).bind fun x5 => plus s x5) (fun s p h0 h1 h2 hp hq => by
    obtain ⟨e1, e2, e3, e4, e5, e6⟩ := stepBd h0 h1 h2 hp hq
    rw [times_eq (by have := hp.1; omega) (by have := hq.1; omega) (hp.2.1.mono (by decide)) (hp.2.2.mono (by decide)) (hq.2.1.mono (by decide)) (hq.2.2.mono (by decide)), Option.bind_some]
    rw [show ((nfN (p.1.1 * p.2.1) (p.1.2 * p.2.2), nfD (p.1.1 * p.2.1) (p.1.2 * p.2.2)) : Int × Int) = nfP (p.1.1 * p.2.1, p.1.2 * p.2.2) from rfl]
    rw [plus_eq (by omega) (by omega) e2 e3 e5 e6, nfP_step h0 hp hq]) (rows.zip xs) (0, 1) 1 h (by decide) (by unfold Bd; decide) (by unfold Bd; decide) (by omega)
  rw [nfP0] at this
  rw [this]; rfl
end Sh
end

section
/-! k27 A2: what is a fraction, a number; rows of them. -/
namespace Sh
open DL TL K31
def Th : PV → Prop
  | .int i => Bd 40 i
  | .bl _ => True
  | .non => True
  | .tup [.int a, .int b] => Bd 40 a ∧ Bd 40 b
  | _ => False
theorem Th.cases {v : PV} (h : Th v) : (∃ i, v = .int i ∧ Bd 40 i) ∨ (∃ b, v = .bl b) ∨ v = .non ∨ ∃ a b, v = .tup [.int a, .int b] ∧ Bd 40 a ∧ Bd 40 b := by
  unfold Th at h
  split at h
  · exact .inl ⟨_, rfl, h⟩
  · exact .inr (.inl ⟨_, rfl⟩)
  · exact .inr (.inr (.inl rfl))
  · exact .inr (.inr (.inr ⟨_, _, rfl, h.1, h.2⟩))
  · exact h.elim
theorem Th.ok {v : PV} (h : Th v) : v.okN 2 := by
  rcases h.cases with ⟨i, rfl, _⟩ | ⟨b, rfl⟩ | rfl | ⟨a, b, rfl, _, _⟩
  · exact okN_mono okN_int (by decide)
  · exact okN_mono okN_bl (by decide)
  · exact okN_mono okN_non (by decide)
  · refine okN_tup (n := 1) fun v hv => ?_
    rcases List.mem_cons.mp hv with rfl | hv
    · exact okN_int
    · rcases List.mem_cons.mp hv with rfl | hv
      · exact okN_int
      · cases hv
def isFr : PV → Bool
  | .tup [.int a, .int b] => decide (0 < b) && decide (Int.gcd a b = 1)
  | _ => false
theorem is_fraction_eq {v : PV} (h : Th v) : is_fraction v = some (isFr v) := by
  rcases h.cases with ⟨i, rfl, _⟩ | ⟨b, rfl⟩ | rfl | ⟨a, b, rfl, _, _⟩
  · rfl
  · rfl
  · rfl
  · unfold is_fraction
    have e0 : (PV.tup [.int a, .int b]).at 0 = some (.int a) := rfl
    have e1 : (PV.tup [.int a, .int b]).at 1 = some (.int b) := rfl
    simp only [PV.isT, PV.len, PV.asQ, Option.bind_some, loopO, sumO, PV.isB, PV.isI, e0, e1, PV.asI, divisor_eq, List.length_cons, List.length_nil]
    simp
    by_cases hb : 0 < b
    · simp [hb, isFr, Int.natCast_inj]
      constructor <;> intro h <;> omega
    · simp [hb, isFr]
theorem lfrac_eq {v : PV} (h : Th v) : _law_is_fraction v = some (isFr v) := by
  rcases h.cases with ⟨i, rfl, _⟩ | ⟨b, rfl⟩ | rfl | ⟨a, b, rfl, h1, h2⟩
  · rfl
  · rfl
  · rfl
  · unfold _law_is_fraction
    have e0 : (PV.tup [.int a, .int b]).at 0 = some (.int a) := rfl
    have e1 : (PV.tup [.int a, .int b]).at 1 = some (.int b) := rfl
    by_cases hb : 0 < b
    · have hl := low_eq (a := ((a.natAbs : Nat) : Int)) hb (h2.mono (by decide))
      have g : Int.gcd (a.natAbs : Int) b = Int.gcd a b := by unfold Int.gcd; rw [Int.natAbs_natCast]
      have hiff : ((nfN ((a.natAbs : Nat) : Int) b, nfD ((a.natAbs : Nat) : Int) b) = (((a.natAbs : Nat) : Int), b)) ↔ Int.gcd a b = 1 := by
        constructor
        · intro h
          have h2 : nfD ((a.natAbs : Nat) : Int) b = b := congrArg Prod.snd h
          obtain ⟨k, hk, ek, _, e2⟩ := nf_of (a := ((a.natAbs : Nat) : Int)) hb
          rw [h2] at e2
          have : k * b = 1 * b := by omega
          have := Int.eq_of_mul_eq_mul_right (by omega) this
          rw [g] at ek; omega
        · intro h
          have := nf_one (a := ((a.natAbs : Nat) : Int)) hb (by rw [g]; exact h)
          rw [this.1, this.2]
      simp only [PV.isT, PV.len, Option.bind_some, e0, e1, PV.asI, _law_is_number, PV.isI, PV.isB, hl, List.length_cons, List.length_nil]
      simp [show ¬ b ≤ 0 by omega]
      rw [show isFr (.tup [.int a, .int b]) = decide (Int.gcd a b = 1) by simp [isFr, hb]]
      have := eqG_C (eP D.int D.int) (by decide) (nfN ((a.natAbs : Nat) : Int) b, nfD ((a.natAbs : Nat) : Int) b) (((a.natAbs : Nat) : Int), b)
      exact this.trans (congrArg some (decide_eq_decide.mpr hiff))
    · simp [PV.isT, PV.len, e0, e1, PV.asI, _law_is_number, PV.isI, PV.isB, show b ≤ 0 by omega, isFr, hb]
/-- a tuple or list of things -/
def Rw (vs : List PV) (d : PV) : Prop := (∀ v ∈ vs, Th v) ∧ vs.length ≤ 20 ∧ (d = .tup vs ∨ d = .lst vs)
def rowB (n : Nat) : PV → Bool
  | .tup vs => decide (vs.length = n) && vs.all isFr
  | _ => false
theorem are_fractions_eq {vs : List PV} {d : PV} (h : Rw vs d) (n : Nat) : are_fractions d (n : Int) = some (rowB n d) := by
  obtain ⟨h1, h2, rfl | rfl⟩ := h
  · unfold are_fractions
    simp only [PV.isT, PV.len, PV.asQ, Option.bind_some, if_true, szG_of (show vs.length ≤ 1000000 by omega)]
    rw [mapO_map (G := isFr) fun v hv => is_fraction_eq (h1 v hv)]
    simp only [Option.bind_some, all_id, rowB]
    by_cases hl : vs.length = n
    · simp [hl]
    · simp [hl, show ¬ ((vs.length : Int) = n) by omega]
  · rfl
theorem lfracs_eq {vs : List PV} {d : PV} (h : Rw vs d) (n : Nat) : _law_is_fractions d (n : Int) = some (rowB n d) := by
  obtain ⟨h1, h2, rfl | rfl⟩ := h
  · unfold _law_is_fractions
    simp only [PV.isT, PV.len, PV.asQ, Option.bind_some, if_true, szG_of (show vs.length ≤ 1000000 by omega)]
    rw [compM_filter (c := fun v => !isFr v) fun v hv => by rw [lfrac_eq (h1 v hv)]; simp only [Option.bind_some]; split <;> rfl]
    simp only [Option.bind_some]
    rw [eqG_nilL (n := 2) (fun v hv => (h1 v (List.mem_filter.mp hv).1).ok) (by decide), filter_nil]
    simp only [Option.bind_some, rowB, Bool.not_not]
    by_cases hl : vs.length = n
    · simp [hl]
    · simp [hl, show ¬ ((vs.length : Int) = n) by omega]
  · rfl
theorem fr_of {v : PV} (h : Th v) (hf : isFr v = true) : ∃ p : Int × Int, v = .tup [.int p.1, .int p.2] ∧ okP p ∧ Int.gcd p.1 p.2 = 1 := by
  rcases h.cases with ⟨i, rfl, _⟩ | ⟨b, rfl⟩ | rfl | ⟨a, b, rfl, h1, h2⟩
  · cases hf
  · cases hf
  · cases hf
  · simp [isFr] at hf
    exact ⟨(a, b), rfl, ⟨hf.1, h1, h2⟩, hf.2⟩
theorem frs_of {vs : List PV} (h : ∀ v ∈ vs, Th v) (hf : vs.all isFr = true) : ∃ fs : List (Int × Int), (∀ p ∈ fs, okP p) ∧ fs.length = vs.length ∧ mapO (dnP PV.asI PV.asI) vs = some fs := by
  induction vs with
  | nil => exact ⟨[], (fun p hp => by cases hp), rfl, rfl⟩
  | cons v vs ih =>
    rw [List.all_cons, Bool.and_eq_true] at hf
    obtain ⟨p, rfl, h1, _⟩ := fr_of (h v List.mem_cons_self) hf.1
    obtain ⟨fs, h2, h3, h4⟩ := ih (fun w hw => h w (List.mem_cons_of_mem _ hw)) hf.2
    refine ⟨p :: fs, fun q hq => ?_, by simp [h3], ?_⟩
    · rcases List.mem_cons.mp hq with rfl | hq
      · exact h1
      · exact h2 q hq
    · show (some (p.1, p.2)).bind _ = _
      rw [h4]; rfl
theorem rowB_of {vs : List PV} {d : PV} {n : Nat} (h : Rw vs d) (hb : rowB n d = true) : ∃ fs : List (Int × Int), (∀ p ∈ fs, okP p) ∧ fs.length = n ∧ dnT (dnP PV.asI PV.asI) d = some fs := by
  obtain ⟨h1, h2, rfl | rfl⟩ := h
  · simp only [rowB, Bool.and_eq_true, decide_eq_true_eq] at hb
    obtain ⟨fs, a, b, c⟩ := frs_of h1 hb.2
    exact ⟨fs, a, by omega, c⟩
  · cases hb
/-! numbers -/
def isNm : PV → Bool
  | .int _ => true
  | _ => false
theorem isnum_eq (v : PV) : (v.isI && !v.isB) = isNm v := by cases v <;> rfl
theorem is_number_eq (v : PV) : is_number v = some (isNm v) := by unfold is_number; rw [isnum_eq]
theorem lnumber_eq (v : PV) : _law_is_number v = some (isNm v) := by unfold _law_is_number; rw [isnum_eq]
def numB (n : Nat) : PV → Bool
  | .tup vs => decide (vs.length = n) && vs.all isNm
  | _ => false
theorem is_numbers_eq {vs : List PV} {d : PV} (h : Rw vs d) (n : Nat) : is_numbers d (n : Int) = some (numB n d) := by
  obtain ⟨h1, h2, rfl | rfl⟩ := h
  · unfold is_numbers
    simp only [PV.isT, PV.len, PV.asQ, Option.bind_some, if_true, szG_of (show vs.length ≤ 1000000 by omega)]
    rw [mapO_map (G := isNm) fun v hv => is_number_eq v]
    simp only [Option.bind_some, all_id, numB]
    by_cases hl : vs.length = n
    · simp [hl]
    · simp [hl, show ¬ ((vs.length : Int) = n) by omega]
  · rfl
theorem lnumbers_eq {vs : List PV} {d : PV} (h : Rw vs d) (n : Nat) : ((_law_is_numbers d).bind fun x1 => if (!x1) = true then some true else (d.len).bind fun x2 => some (!decide (x2 = (n : Int)))) = some (!numB n d) := by
  obtain ⟨h1, h2, rfl | rfl⟩ := h
  · unfold _law_is_numbers
    simp only [PV.isT, PV.len, PV.asQ, Option.bind_some, if_true, szG_of (show vs.length ≤ 1000000 by omega)]
    rw [compM_filter (c := fun v => !isNm v) fun v hv => by rw [lnumber_eq]; simp only [Option.bind_some]; split <;> rfl]
    simp only [Option.bind_some]
    rw [eqG_nilL (n := 2) (fun v hv => (h1 v (List.mem_filter.mp hv).1).ok) (by decide), filter_nil]
    simp only [Option.bind_some, numB, Bool.not_not]
    by_cases ha : vs.all isNm = true
    · by_cases hl : vs.length = n
      · simp [ha, hl]
      · simp [ha, hl, show ¬ ((vs.length : Int) = n) by omega]
    · simp [ha]
  · rfl
theorem nums_of {vs : List PV} (h : ∀ v ∈ vs, Th v) (hf : vs.all isNm = true) : ∃ ns : List Int, (∀ p ∈ ns, Bd 40 p) ∧ ns.length = vs.length ∧ mapO PV.asI vs = some ns := by
  induction vs with
  | nil => exact ⟨[], (fun p hp => by cases hp), rfl, rfl⟩
  | cons v vs ih =>
    rw [List.all_cons, Bool.and_eq_true] at hf
    obtain ⟨fs, h2, h3, h4⟩ := ih (fun w hw => h w (List.mem_cons_of_mem _ hw)) hf.2
    have hv := h v List.mem_cons_self
    rcases hv.cases with ⟨i, rfl, hi⟩ | ⟨b, rfl⟩ | rfl | ⟨a, b, rfl, _, _⟩
    · refine ⟨i :: fs, fun q hq => ?_, by simp [h3], ?_⟩
      · rcases List.mem_cons.mp hq with rfl | hq
        · exact hi
        · exact h2 q hq
      · show (some i).bind _ = _
        rw [h4]; rfl
    · cases hf.1
    · cases hf.1
    · cases hf.1
theorem numB_of {vs : List PV} {d : PV} {n : Nat} (h : Rw vs d) (hb : numB n d = true) : ∃ fs : List Int, (∀ p ∈ fs, Bd 40 p) ∧ fs.length = n ∧ dnT PV.asI d = some fs := by
  obtain ⟨h1, h2, rfl | rfl⟩ := h
  · simp only [numB, Bool.and_eq_true, decide_eq_true_eq] at hb
    obtain ⟨fs, a, b, c⟩ := nums_of h1 hb.2
    exact ⟨fs, a, by omega, c⟩
  · cases hb
end Sh
end

section
/-! k27 A3: the looks agree. -/
namespace Sh
open DL TL K31
structure Rws (R : List (List Int)) (c : Nat) : Prop where
  ne : 1 ≤ R.length
  le : R.length ≤ 8
  wd : ∀ r ∈ R, r.length = c
  c8 : c ≤ 8
  bd : ∀ r ∈ R, ∀ n ∈ r, Bd 40 n
def wsP (ns : List Int) : List (Int × Int) := ns.map fun n => (n, 1)
def dotv (ns : List Int) (fs : List (Int × Int)) : Int × Int := sumP ((wsP ns).zip fs)
def col (R : List (List Int)) (j : Nat) : List Int := R.map fun r => r.getD j 0
theorem ok1 {n : Int} (h : Bd 40 n) : okP (n, 1) := ⟨by show (0 : Int) < 1; decide, h, by show Bd 40 (1 : Int); unfold Bd; decide⟩
theorem zip_ok {ns : List Int} {fs : List (Int × Int)} (h : ∀ n ∈ ns, Bd 40 n) (hf : ∀ p ∈ fs, okP p) : ∀ p ∈ (wsP ns).zip fs, okP p.1 ∧ okP p.2 := fun p hp => by
  obtain ⟨h1, h2⟩ := List.of_mem_zip hp
  obtain ⟨n, hn, e⟩ := List.mem_map.mp h1
  exact ⟨by rw [← e]; exact ok1 (h n hn), hf _ h2⟩
theorem wholes_eq {ns : List Int} (h : ns.length ≤ 1000) : wholes ns = some (wsP ns) := by
  unfold wholes
  rw [szG_of (by omega)]
  simp only [Option.bind_some]
  rw [mapO_map (F := fun a2 => whole a2) (G := fun n => (n, 1)) fun n _ => rfl]; rfl
theorem dotw_eq {ns : List Int} {fs : List (Int × Int)} (h : ∀ n ∈ ns, Bd 40 n) (hf : ∀ p ∈ fs, okP p) (hl : ns.length ≤ 8) : dot (wsP ns) fs = some (dotv ns fs) :=
  dot_eq (zip_ok h hf) (by rw [List.length_zip, wsP, List.length_map]; omega)
theorem ldot_eq {ns : List Int} {fs : List (Int × Int)} (h : ∀ n ∈ ns, Bd 40 n) (hf : ∀ p ∈ fs, okP p) (hl : ns.length ≤ 8) (hle : ns.length ≤ fs.length) : _law_dot ns fs = some (dotv ns fs) := by
  unfold _law_dot
  rw [rngG_of (by omega) (by omega), Option.bind_some]
  have h1 := foldO_zip (fun (x : Int) (y : Int × Int) (s : Int × Int) => (_law_mul (x, 1) y).bind fun x7 => _law_add s x7) ns fs (0, 1) hle
  have h2 := fold_dot (fun s p => (_law_mul p.1 p.2).bind fun x7 => _law_add s x7) (fun s p h0 h1 h2 hp hq => by
    obtain ⟨e1, e2, e3, e4, e5, e6⟩ := stepBd h0 h1 h2 hp hq
    rw [lmul_eq hp.1 hq.1 (hp.2.1.mono (by decide)) (hp.2.2.mono (by decide)) (hq.2.1.mono (by decide)) (hq.2.2.mono (by decide)), Option.bind_some]
    rw [show ((nfN (p.1.1 * p.2.1) (p.1.2 * p.2.2), nfD (p.1.1 * p.2.1) (p.1.2 * p.2.2)) : Int × Int) = nfP (p.1.1 * p.2.1, p.1.2 * p.2.2) from rfl]
    rw [ladd_eq e1 e4 e2 e3 e5 e6, nfP_step h0 hp hq]) ((wsP ns).zip fs) (0, 1) 1 (zip_ok h hf) (by decide) (by unfold Bd; decide) (by unfold Bd; decide) (by rw [List.length_zip, wsP, List.length_map]; omega)
  rw [nfP0] at h2
  have h3 : (wsP ns).zip fs = (ns.zip fs).map fun p => ((p.1, 1), p.2) := by
    unfold wsP
    rw [List.zip_map_left]; rfl
  rw [h3, foldO_map] at h2
  have h4 : foldO (fun (i4 : Int) (s2 : Int × Int) => (L2.atI ns i4).bind fun x5 => (L2.atI fs i4).bind fun x6 => (_law_mul (x5, 1) x6).bind fun x7 => _law_add s2 x7) (rg 0 (ns.length : Int)) (0, 1) = some (nfP (accs (0, 1) ((ns.zip fs).map fun p => ((p.1, 1), p.2)))) := h1.trans h2
  rw [← h3] at h4
  exact h4
section
variable {R : List (List Int)} {c : Nat} (hR : Rws R c) {S : List Int} (hS : S.length = R.length) (hSb : ∀ n ∈ S, Bd 40 n)
include hR
theorem row0 : L2.atI R 0 = some (R[0]'(hR.ne)) := at_in (i := 0) hR.ne
theorem row0_len : (R[0]'(hR.ne)).length = c := hR.wd _ (List.getElem_mem _)
theorem width_eq : width_of R = some (c : Int) := by
  unfold width_of
  have : R ≠ [] := fun e => by have := hR.ne; rw [e] at this; cases this
  simp only [this, decide_false, Bool.not_false, if_true, row0 hR, Option.bind_some, row0_len hR]
theorem lcol_eq {j : Nat} (hj : j < c) : _law_column R (j : Int) = some (col R j) := by
  unfold _law_column
  rw [szG_of (by have := hR.le; omega)]
  simp only [Option.bind_some]
  rw [mapO_map (G := fun r => r.getD j 0) fun r hr => by
    rw [at_in (by rw [hR.wd r hr]; exact hj), List.getD_eq_getElem?_getD, List.getElem?_eq_getElem (by rw [hR.wd r hr]; exact hj)]; rfl]
  rfl
theorem col_len (j : Nat) : (col R j).length = R.length := by unfold col; rw [List.length_map]
theorem col_bd {j : Nat} (hj : j < c) : ∀ n ∈ col R j, Bd 40 n := fun n hn => by
  obtain ⟨r, hr, rfl⟩ := List.mem_map.mp hn
  rw [List.getD_eq_getElem?_getD, List.getElem?_eq_getElem (by rw [hR.wd r hr]; exact hj)]
  exact hR.bd r hr _ (List.getElem_mem _)
theorem t1 {fs : List (Int × Int)} (hf : ∀ p ∈ fs, okP p) : ∀ k ∈ rg 0 (c : Int), ((szG R).bind fun u6 => (mapO (fun a7 => L2.atI a7 k) R).bind fun y9 => (wholes y9).bind fun x10 => dot x10 fs) = some (dotv (col R k.toNat) fs) := by
  have h8 := hR.c8
  have h9 := hR.le
  intro j hj
  obtain ⟨i, hi, rfl⟩ := mem_rg0 hj
  have h1 := lcol_eq hR hi
  unfold _law_column at h1
  rw [szG_of (by omega), Option.bind_some] at h1 ⊢
  rw [h1, Option.bind_some, wholes_eq (by rw [col_len hR]; omega), Option.bind_some, dotw_eq (col_bd hR hi) hf (by rw [col_len hR]; omega), Int.toNat_natCast]
theorem t2 {fs : List (Int × Int)} (hf : ∀ p ∈ fs, okP p) : mapO (fun k => (szG R).bind fun u6 => (mapO (fun a7 => L2.atI a7 k) R).bind fun y9 => (wholes y9).bind fun x10 => dot x10 fs) (rg 0 (c : Int)) = some ((List.range c).map fun j => dotv (col R j) fs) := by
  rw [mapO_map (G := fun (k : Int) => dotv (col R k.toNat) fs) (t1 hR hf), rg_map_get]
  simp only [Int.toNat_natCast]

theorem q1 : decide (R = []) = false := decide_eq_false fun e => by have := hR.ne; rw [e] at this; cases this
theorem q2 : rngG 0 (c : Int) = some (rg 0 (c : Int)) := by
  have h8 := hR.c8
  exact rngG_of (by omega) (by omega)
theorem q3 : szG (rg 0 (c : Int)) = some () := by
  have h8 := hR.c8
  exact szG_of (by rw [rg_len]; omega)
theorem q4 : (if (!decide (R = [])) = true then (L2.atI R 0).bind fun x1 => some ((x1).length : Int) else some 0) = some (c : Int) := by
  simp only [q1 hR, Bool.not_false, if_true, row0 hR, Option.bind_some, row0_len hR]

theorem t3 {fs : List (Int × Int)} : summed R fs = (mapO (fun k => (szG R).bind fun u6 => (mapO (fun a7 => L2.atI a7 k) R).bind fun y9 => (wholes y9).bind fun x10 => dot x10 fs) (rg 0 (c : Int))) := by
  unfold summed
  rw [q4 hR, Option.bind_some, q2 hR, Option.bind_some, q3 hR, Option.bind_some]
theorem summed_eq {fs : List (Int × Int)} (hf : ∀ p ∈ fs, okP p) : summed R fs = some ((List.range c).map fun j => dotv (col R j) fs) := by
  rw [t3 hR]
  exact t2 hR hf
include hS hSb
theorem both_solution {vs : List PV} {d : PV} (h : Rw vs d) : ∃ b, is_solution R S d = some b ∧ _law_is_solution R S d = some b := by
  unfold is_solution _law_is_solution
  have h8 := hR.c8
  have h9 := hR.le
  rw [width_eq hR, row0 hR, Option.bind_some, Option.bind_some, row0_len hR, are_fractions_eq h, lfracs_eq h]
  simp only [Option.bind_some]
  cases hb : rowB c d with
  | false => exact ⟨false, rfl, rfl⟩
  | true =>
    obtain ⟨fs, hf, hl, hd⟩ := rowB_of h hb
    simp only [Bool.not_true, Bool.false_eq_true, if_false]
    rw [rngG_of (by omega) (by omega), Option.bind_some, Option.bind_some, szG_of (by rw [rg_len]; omega), Option.bind_some, Option.bind_some]
    have key : ∀ k ∈ rg 0 (R.length : Int), ∃ (r : List Int) (s : Int), L2.atI R k = some r ∧ L2.atI S k = some s ∧ r.length = c ∧ (∀ n ∈ r, Bd 40 n) ∧ r = R.getD k.toNat [] ∧ s = S.getD k.toNat 0 := fun k hk => by
      obtain ⟨i, hi, rfl⟩ := mem_rg0 hk
      refine ⟨R[i], S[i], at_in hi, at_in (by omega), hR.wd _ (List.getElem_mem _), hR.bd _ (List.getElem_mem _), ?_, ?_⟩
      · simp [hi]
      · simp [hS, hi]
    rw [mapO_map (G := fun k => decide (dotv (R.getD k.toNat []) fs = (S.getD k.toNat 0, 1))) fun k hk => by
      obtain ⟨r, s, e1, e2, e3, e4, e5, e6⟩ := key k hk
      rw [e1, Option.bind_some, wholes_eq (by omega), Option.bind_some, hd, Option.bind_some, dotw_eq e4 hf (by omega), Option.bind_some, e2, Option.bind_some, ← e5, ← e6]; rfl]
    rw [compM_filter (c := fun k => !decide (dotv (R.getD k.toNat []) fs = (S.getD k.toNat 0, 1))) fun k hk => by
      obtain ⟨r, s, e1, e2, e3, e4, e5, e6⟩ := key k hk
      rw [e1, Option.bind_some, hd, Option.bind_some, ldot_eq e4 hf (by omega) (by omega), Option.bind_some, e2, Option.bind_some, ← e5, ← e6]
      split <;> rfl]
    simp only [Option.bind_some, all_id, filter_dec, Bool.not_not]
    exact ⟨_, rfl, rfl⟩
omit hR hS hSb in
theorem accs_pos : ∀ (ps : List ((Int × Int) × (Int × Int))) (s : Int × Int), (∀ p ∈ ps, okP p.1 ∧ okP p.2) → 0 < s.2 → 0 < (accs s ps).2
  | [], s, _, h => h
  | p :: ps, s, hp, h => by
    obtain ⟨q1, q2⟩ := hp p List.mem_cons_self
    exact accs_pos ps (accP s p) (fun q hq => hp q (List.mem_cons_of_mem _ hq)) (Int.mul_pos h (Int.mul_pos q1.1 q2.1))
omit hR hS hSb in
theorem nf_zero' {s : Int × Int} (h0 : 0 < s.2) : (nfP s).1 = 0 ↔ nfP s = (0, 1) := by
  constructor
  · intro h
    have hc := nf_cop (a := s.1) (b := s.2) h0
    have hp := nfD_pos (a := s.1) (b := s.2) (by omega)
    have h' : nfN s.1 s.2 = 0 := h
    rw [h', Int.gcd_zero_left] at hc
    exact Prod.ext h' (by show nfD s.1 s.2 = 1; omega)
  · intro h; rw [h]
omit hR hS hSb in
theorem dotv_zero {ns : List Int} {fs : List (Int × Int)} (h : ∀ n ∈ ns, Bd 40 n) (hf : ∀ p ∈ fs, okP p) : decide ((dotv ns fs).1 = 0) = decide (dotv ns fs = (0, 1)) :=
  decide_eq_decide.mpr (nf_zero' (accs_pos _ _ (zip_ok h hf) (by decide)))
theorem both_no_solution {vs : List PV} {d : PV} (h : Rw vs d) : ∃ b, is_no_solution R S d = some b ∧ _law_is_no_solution R S d = some b := by
  unfold is_no_solution _law_is_no_solution
  have h8 := hR.c8
  have h9 := hR.le
  obtain ⟨x, hx, hn⟩ := bnd (lnumbers_eq h R.length)
  rw [is_numbers_eq h, hx, Option.bind_some, Option.bind_some, hn, Option.bind_some]
  cases hb : numB R.length d with
  | false => exact ⟨false, rfl, rfl⟩
  | true =>
    obtain ⟨ys, hf, hl, hd⟩ := numB_of h hb
    have hok : ∀ p ∈ wsP ys, okP p := fun p hp => by
      obtain ⟨n, hn, rfl⟩ := List.mem_map.mp hp
      exact ok1 (hf n hn)
    have hwl : (wsP ys).length = R.length := by rw [wsP, List.length_map, hl]
    simp only [Bool.not_true, Bool.false_eq_true, if_false]
    have hlw : _law_wholes ys = some (wsP ys) := by unfold _law_wholes; rw [szG_of (by omega)]; rfl
    have z2 : szG ((List.range c).map fun j => dotv (col R j) (wsP ys)) = some () := szG_of (by rw [List.length_map, List.length_range]; omega)
    rw [hd, Option.bind_some, Option.bind_some, wholes_eq (show ys.length ≤ 1000 by omega), Option.bind_some, summed_eq hR hok, Option.bind_some, z2, Option.bind_some, hlw, Option.bind_some, row0 hR, Option.bind_some, row0_len hR, q2 hR, Option.bind_some, q3 hR, Option.bind_some, wholes_eq (show S.length ≤ 1000 by omega), Option.bind_some, dotw_eq hSb hok (by omega), ldot_eq hSb hok (show S.length ≤ 8 by omega) (by omega)]
    rw [compM_filter (c := fun k => !decide (dotv (col R k.toNat) (wsP ys) = (0, 1))) fun k hk => by
      obtain ⟨i, hi, rfl⟩ := mem_rg0 hk
      rw [lcol_eq hR hi, Option.bind_some, ldot_eq (col_bd hR hi) hok (by rw [col_len hR]; omega) (by rw [col_len hR]; omega), Option.bind_some, Int.toNat_natCast]
      split <;> rfl]
    have e1 : (((List.range c).map fun j => dotv (col R j) (wsP ys)).map fun (a6 : Int × Int) => decide (a6.1 = 0)).all id = (rg 0 (c : Int)).all fun (k : Int) => decide (dotv (col R k.toNat) (wsP ys) = (0, 1)) := by
      have := rg_map_get (n := c) fun (k : Int) => decide (dotv (col R k.toNat) (wsP ys) = (0, 1))
      rw [← all_id (fun (k : Int) => decide (dotv (col R k.toNat) (wsP ys) = (0, 1))), this, List.map_map]
      congr 1
      refine List.map_congr_left fun i hi => ?_
      simp only [Function.comp, Int.toNat_natCast, dotv_zero (col_bd hR (List.mem_range.mp hi)) hok]
    simp only [e1, Option.bind_some, filter_dec, Bool.not_not, ← dotv_zero hSb hok]
    cases (rg 0 (c : Int)).all fun (k : Int) => decide (dotv (col R k.toNat) (wsP ys) = (0, 1)) with
    | true => exact ⟨_, rfl, rfl⟩
    | false => exact ⟨false, rfl, rfl⟩
theorem both_no_whole {vs : List PV} {d : PV} (h : Rw vs d) : ∃ b, is_no_whole R S d = some b ∧ _law_is_no_whole R S d = some b := by
  unfold is_no_whole _law_is_no_whole
  have h8 := hR.c8
  have h9 := hR.le
  rw [are_fractions_eq h, lfracs_eq h]
  simp only [Option.bind_some]
  cases hb : rowB R.length d with
  | false => exact ⟨false, rfl, rfl⟩
  | true =>
    obtain ⟨fs, hf, hl, hd⟩ := rowB_of h hb
    simp only [Bool.not_true, Bool.false_eq_true, if_false]
    have z2 : szG ((List.range c).map fun j => dotv (col R j) fs) = some () := szG_of (by rw [List.length_map, List.length_range]; omega)
    rw [hd, Option.bind_some, summed_eq hR hf, Option.bind_some, z2, Option.bind_some, row0 hR, Option.bind_some, row0_len hR, q2 hR, Option.bind_some, q3 hR, Option.bind_some, wholes_eq (show S.length ≤ 1000 by omega), Option.bind_some, Option.bind_some, dotw_eq hSb hf (by omega)]
    rw [compM_filter (c := fun k => !decide ((dotv (col R k.toNat) fs).2 = 1)) fun k hk => by
      obtain ⟨i, hi, rfl⟩ := mem_rg0 hk
      rw [lcol_eq hR hi, Option.bind_some, Option.bind_some, ldot_eq (col_bd hR hi) hf (by rw [col_len hR]; omega) (by rw [col_len hR]; omega), Option.bind_some, Int.toNat_natCast]
      split <;> rfl]
    have e1 : (((List.range c).map fun j => dotv (col R j) fs).map fun (a5 : Int × Int) => decide (a5.2 = 1)).all id = (rg 0 (c : Int)).all fun (k : Int) => decide ((dotv (col R k.toNat) fs).2 = 1) := by
      have := rg_map_get (n := c) fun (k : Int) => decide ((dotv (col R k.toNat) fs).2 = 1)
      rw [← all_id (fun (k : Int) => decide ((dotv (col R k.toNat) fs).2 = 1)), this, List.map_map]
      congr 1
    rw [Option.bind_some, Option.bind_some, Option.bind_some, ldot_eq hSb hf (show S.length ≤ 8 by omega) (by omega)]
    simp only [e1, Option.bind_some, filter_dec, Bool.not_not]
    cases (rg 0 (c : Int)).all fun (k : Int) => decide ((dotv (col R k.toNat) fs).2 = 1) with
    | true => exact ⟨_, rfl, rfl⟩
    | false => exact ⟨false, rfl, rfl⟩
end
end Sh
end

section
/-! k27 A4: what is drawn. -/
namespace Sh
open DL TL K31
theorem small_ok {n : Int} {r : Int} (h : r ∈ ([0, 1, (-1), 2, (-3), 1, 0, n] : List Int)) (hn : -9 ≤ n ∧ n ≤ 9) : -9 ≤ r ∧ r ≤ 9 := by
  simp only [List.mem_cons, List.not_mem_nil, or_false] at h
  omega
theorem rows_ok (w : W) {most : Int} (hm : 1 ≤ most ∧ most ≤ 5) {c : Nat} (hc : c ≤ 4) : ∃ R w', _law_rows w most (c : Int) = some (R, w') ∧ 1 ≤ R.length ∧ R.length ≤ 5 ∧ ∀ r ∈ R, r.length = c ∧ ∀ n ∈ r, Bd 14 n := by
  unfold _law_rows
  obtain ⟨p, w1, h1, p0, p1⟩ := nextW_ok w (show 0 < most by omega)
  rw [Option.bind_some, h1, Option.bind_some, rngG_of (by omega) (by omega), Option.bind_some]
  obtain ⟨s, hs, hI⟩ := foldO_inv (xs := rg 0 (1 + p)) (s := (w1, ([] : List (List Int)))) (fun i (s : W × List (List Int)) => s.2.length = i ∧ i ≤ 5 ∧ ∀ r ∈ s.2, r.length = c ∧ ∀ n ∈ r, Bd (4 + 2 * i) n) (step := fun i9 (s4 : (W × (List (List Int)))) => (rngG 0 (c : Int)).bind fun r10 => (szG r10).bind fun u11 => (mapS (fun a12 w => (nextW w 19).bind fun p15 => (pickW p15.2 ([0, 1, (-1), 2, (-3), 1, 0, (p15.1 - 9)] : List Int)).bind fun p16 => some (p16.1, p16.2)) r10 s4.1).bind fun y17 => (if (decide (1 < ((s4.2).length : Int))) = true then (nextW y17.2 3).bind fun p18 => some ((decide (p18.1 = 0)), p18.2) else some (false, y17.2)).bind fun t19 => ((if t19.1 = true then (nextW t19.2 5).bind fun p35 => (nextW p35.2 5).bind fun p36 => (rngG 0 (c : Int)).bind fun r37 => (szG r37).bind fun u38 => (mapO (fun a39 => (L2.atI s4.2 0).bind fun x40 => (L2.atI x40 a39).bind fun x41 => (mulG (p35.1 - 2) x41).bind fun x42 => (L2.atI s4.2 (-1)).bind fun x43 => (L2.atI x43 a39).bind fun x44 => (mulG (p36.1 - 2) x44).bind fun x45 => some (x42 + x45)) r37).bind fun y46 => some (p36.2, y46) else some (t19.2, y17.1) : Option (W × (List Int)))).bind fun s32 => (appG s4.2 s32.2).bind fun l47 => some (s32.1, l47)) (fun i hi s hs => by
    obtain ⟨w2, F⟩ := s
    obtain ⟨e1, e2, e3⟩ := hs
    rw [rg_len] at hi
    dsimp only at e1 e2 e3 ⊢
    rw [rngG_of (by omega) (by omega), Option.bind_some, szG_of (by rw [rg_len]; omega), Option.bind_some]
    obtain ⟨ys, w3, g1, g2, g3⟩ := mapS_mem (F := fun (a12 : Int) w => (nextW w 19).bind fun p15 => (pickW p15.2 ([0, 1, (-1), 2, (-3), 1, 0, (p15.1 - 9)] : List Int)).bind fun p16 => some (p16.1, p16.2)) (fun y => -9 ≤ y ∧ y ≤ 9) (xs := rg 0 (c : Int)) (s := w2) (fun x _ w => by
      obtain ⟨q, w4, k1, k2, k3⟩ := nextW_ok w (show (0 : Int) < 19 by decide)
      obtain ⟨z, w5, k4, k5⟩ := pickW_ok w4 (xs := ([0, 1, (-1), 2, (-3), 1, 0, (q - 9)] : List Int)) (by simp)
      refine ⟨z, w5, ?_, small_ok k5 (by omega)⟩
      rw [k1, Option.bind_some]
      dsimp only
      rw [k4]; rfl)
    rw [rg_len] at g2
    rw [g1, Option.bind_some]
    dsimp only
    have hys : ys.length = c ∧ ∀ n ∈ ys, Bd (4 + 2 * (i + 1)) n := ⟨by omega, fun n hn => (Bd_of (n := 4) (m := 9) (g3 n hn) (by decide)).mono (by omega)⟩
    have fin : ∀ (w6 : W) (row : List Int), (row.length = c ∧ ∀ n ∈ row, Bd (4 + 2 * (i + 1)) n) → ∃ s', ((appG F row).bind fun l47 => some (w6, l47)) = some s' ∧ s'.2.length = i + 1 ∧ i + 1 ≤ 5 ∧ ∀ r ∈ s'.2, r.length = c ∧ ∀ n ∈ r, Bd (4 + 2 * (i + 1)) n := fun w6 row hr => by
      rw [appG_of (by omega)]
      refine ⟨_, rfl, by simp [e1], by omega, fun r hm => ?_⟩
      rcases List.mem_append.mp hm with h | h
      · exact ⟨(e3 r h).1, fun n hn => ((e3 r h).2 n hn).mono (by omega)⟩
      · rw [List.mem_singleton.mp h]; exact hr
    by_cases hc1 : 1 < (F.length : Int)
    · have hF : F ≠ [] := fun e => by rw [e] at hc1; simp at hc1
      obtain ⟨q, w4, k1, k2, k3⟩ := nextW_ok w3 (show (0 : Int) < 3 by decide)
      rw [decide_eq_true hc1, if_pos rfl, k1, Option.bind_some, Option.bind_some]
      dsimp only
      by_cases hq : q = 0
      · obtain ⟨a, w5, m1, m2, m3⟩ := nextW_ok w4 (show (0 : Int) < 5 by decide)
        obtain ⟨b, w6, m4, m5, m6⟩ := nextW_ok w5 (show (0 : Int) < 5 by decide)
        rw [decide_eq_true hq, if_pos rfl, m1, Option.bind_some]
        dsimp only
        rw [m4, Option.bind_some, Option.bind_some, szG_of (by rw [rg_len]; omega), Option.bind_some]
        dsimp only
        obtain ⟨zs, z1, z2, z3⟩ := mapO_mem (F := fun a39 => (L2.atI F 0).bind fun x40 => (L2.atI x40 a39).bind fun x41 => (mulG (a - 2) x41).bind fun x42 => (L2.atI F (-1)).bind fun x43 => (L2.atI x43 a39).bind fun x44 => (mulG (b - 2) x44).bind fun x45 => some (x42 + x45)) (fun _ y => Bd (4 + 2 * (i + 1)) y) (xs := rg 0 (c : Int)) (fun x hx => by
          obtain ⟨j, hj, rfl⟩ := mem_rg0 hx
          have hF0 : 0 < F.length := List.length_pos_iff.mpr hF
          obtain ⟨l1, l2⟩ := e3 F[0] (List.getElem_mem hF0)
          obtain ⟨l3, l4⟩ := e3 (F.getLast hF) (List.getLast_mem hF)
          have b1 := l2 F[0][j] (List.getElem_mem (by omega))
          have b2 := l4 ((F.getLast hF)[j]'(by omega)) (List.getElem_mem _)
          have ba : Bd 2 (a - 2) := Bd_of (m := 2) (by omega) (by decide)
          have bb : Bd 2 (b - 2) := Bd_of (m := 2) (by omega) (by decide)
          refine ⟨(a - 2) * F[0][j] + (b - 2) * (F.getLast hF)[j], ?_, ?_⟩
          · rw [show L2.atI F 0 = some F[0] from at_in (i := 0) hF0, Option.bind_some, at_in (by omega), Option.bind_some, mulG_of (mul_of ba b1 (by decide) (by omega) (by omega)), Option.bind_some, at_last hF, Option.bind_some, at_in (by omega), Option.bind_some, mulG_of (mul_of bb b2 (by decide) (by omega) (by omega)), Option.bind_some]
            rfl
          · unfold Bd at *
            have t1 : ((a - 2) * F[0][j]).natAbs ≤ 2 * (F[0][j]).natAbs := by rw [Int.natAbs_mul]; exact Nat.mul_le_mul_right _ (by omega)
            have t2 : ((b - 2) * (F.getLast hF)[j]).natAbs ≤ 2 * ((F.getLast hF)[j]).natAbs := by rw [Int.natAbs_mul]; exact Nat.mul_le_mul_right _ (by omega)
            have t3 : 2 ^ (4 + 2 * (i + 1)) = 4 * 2 ^ (4 + 2 * i) := by rw [show 4 + 2 * (i + 1) = 4 + 2 * i + 2 by omega, Nat.pow_add]; omega
            have t4 := Int.natAbs_add_le ((a - 2) * F[0][j]) ((b - 2) * (F.getLast hF)[j])
            omega)
        rw [rg_len] at z2
        rw [z1, Option.bind_some, Option.bind_some]
        exact fin w6 zs ⟨by omega, fun n hn => by obtain ⟨_, _, h⟩ := z3 n hn; exact h⟩
      · rw [decide_eq_false hq, if_neg (by decide), Option.bind_some]
        exact fin w4 ys hys
    · rw [decide_eq_false hc1, if_neg (by simp), Option.bind_some, if_neg (by simp), Option.bind_some]
      exact fin w3 ys hys) ⟨rfl, by omega, fun r hr => by cases hr⟩
  obtain ⟨w2, F⟩ := s
  rw [rg_len] at hI
  obtain ⟨e1, e2, e3⟩ := hI
  dsimp only at e1 e2 e3 hs ⊢
  rw [hs, Option.bind_some]
  exact ⟨F, w2, rfl, by omega, by omega, fun r hr => ⟨(e3 r hr).1, fun n hn => ((e3 r hr).2 n hn).mono (by omega)⟩⟩
theorem whole_ok (w : W) {c : Nat} (hc : c ≤ 4) : ∃ x w', _law_whole w (c : Int) = some (x, w') ∧ x.length = c ∧ ∀ n ∈ x, Bd 4 n := by
  unfold _law_whole
  rw [rngG_of (by omega) (by omega), Option.bind_some, szG_of (by rw [rg_len]; omega), Option.bind_some]
  obtain ⟨ys, w3, g1, g2, g3⟩ := mapS_mem (F := fun (a3 : Int) w => (nextW w 13).bind fun p6 => (pickW p6.2 ([0, 1, (-1), 2, (p6.1 - 6)] : List Int)).bind fun p7 => some (p7.1, p7.2)) (fun y => -9 ≤ y ∧ y ≤ 9) (xs := rg 0 (c : Int)) (s := w) (fun x _ w => by
      obtain ⟨q, w4, k1, k2, k3⟩ := nextW_ok w (show (0 : Int) < 13 by decide)
      obtain ⟨z, w5, k4, k5⟩ := pickW_ok w4 (xs := ([0, 1, (-1), 2, (q - 6)] : List Int)) (by simp)
      refine ⟨z, w5, ?_, ?_⟩
      · rw [k1, Option.bind_some]
        dsimp only
        rw [k4]; rfl
      · simp only [List.mem_cons, List.not_mem_nil, or_false] at k5
        omega)
  rw [rg_len] at g2
  rw [g1]
  exact ⟨ys, w3, rfl, by omega, fun n hn => Bd_of (m := 9) (g3 n hn) (by decide)⟩
theorem take_drop_len {α : Type} {xs : List α} {k : Nat} {x : α} (h : k < xs.length) : (xs.take k ++ [x] ++ xs.drop (k + 1)).length = xs.length := by
  simp only [List.length_append, List.length_take, List.length_drop, List.length_cons, List.length_nil]; omega
/-- strong things: ints, and pairs of ints -/
def ThS (v : PV) : Prop := (∃ i, v = .int i ∧ Bd 36 i) ∨ ∃ a b, v = .tup [.int a, .int b] ∧ Bd 36 a ∧ Bd 36 b
theorem ThS.th {v : PV} (h : ThS v) : Th v := by
  rcases h with ⟨i, rfl, h⟩ | ⟨a, b, rfl, h, k⟩
  · exact h.mono (by decide)
  · exact ⟨h.mono (by decide), k.mono (by decide)⟩
theorem c40 {i : Int} (h : i.natAbs ≤ 100) : Bd 40 i := by unfold Bd; omega
theorem bent_ok (w : W) {row : List PV} (h0 : 1 ≤ row.length) (h9 : row.length ≤ 9) (h : ∀ v ∈ row, ThS v) : ∃ d w' vs, _law_bent w row = some (d, w') ∧ Rw vs d := by
  unfold _law_bent
  obtain ⟨p, w1, h1, p0, p1⟩ := nextW_ok w (show 0 < (row.length : Int) by omega)
  obtain ⟨k, rfl⟩ : ∃ k : Nat, p = k := ⟨p.toNat, by omega⟩
  have hk : k < row.length := by omega
  rw [h1, Option.bind_some]
  dsimp only
  rw [at_in hk, Option.bind_some]
  have hr := h row[k] (List.getElem_mem hk)
  generalize row[k] = x at hr
  have ht : ∀ v ∈ row, Th v := fun v hv => (h v hv).th
  obtain ⟨y, w2, hy, hty⟩ : ∃ (y : PV) (w2 : W), (if x.isT = true then ((x).at 0).bind fun x22 => ((x22).asI).bind fun x23 => ((x).at 1).bind fun x24 => ((x).at 0).bind fun x25 => ((x25).asI).bind fun x26 => (mulG x26 2).bind fun x27 => ((x).at 1).bind fun x28 => ((x28).asI).bind fun x29 => (mulG x29 2).bind fun x30 => ((x).at 0).bind fun x31 => ((x).at 1).bind fun x32 => ((x32).asI).bind fun x33 => ((x).at 0).bind fun x34 => ((x).at 0).bind fun x35 => (pickW w1 ([(PV.tup [(PV.int (x23 + 1)), x24]), (PV.tup [(PV.int x27), (PV.int x30)]), (PV.tup [x31, (PV.int (0 - x33))]), x34, (PV.tup [x35, (PV.int 0)]), (PV.tup [(PV.int 0), (PV.int 1)]), (PV.bl true)] : List PV)).bind fun p36 => some (p36.2, p36.1) else ((x).asI).bind fun x37 => ((x).asI).bind fun x38 => (pickW w1 ([(PV.int (x37 + 1)), (PV.tup [x, (PV.int 1)]), (PV.bl true), PV.non, (PV.int 0), (PV.int (x38 - 2))] : List PV)).bind fun p39 => some (p39.2, p39.1) : Option (W × PV)) = some (w2, y) ∧ Th y := by
    rcases hr with ⟨i, rfl, hi⟩ | ⟨a, b, rfl, ha, hb⟩
    · obtain ⟨z, w5, k4, k5⟩ := pickW_ok w1 (xs := ([(PV.int (i + 1)), (PV.tup [PV.int i, (PV.int 1)]), (PV.bl true), PV.non, (PV.int 0), (PV.int (i - 2))] : List PV)) (by simp)
      refine ⟨z, w5, ?_, ?_⟩
      · rw [if_neg (by simp [PV.isT])]
        simp only [PV.asI, Option.bind_some]
        rw [k4]; rfl
      · have hi' : i.natAbs < 2 ^ 36 := hi
        simp only [List.mem_cons, List.not_mem_nil, or_false] at k5
        rcases k5 with rfl | rfl | rfl | rfl | rfl | rfl
        · show Bd 40 _; unfold Bd; omega
        · exact ⟨hi.mono (by decide), c40 (by decide)⟩
        · trivial
        · trivial
        · exact c40 (by decide)
        · show Bd 40 _; unfold Bd; omega
    · have e0 : (PV.tup [.int a, .int b]).at 0 = some (.int a) := rfl
      have e1 : (PV.tup [.int a, .int b]).at 1 = some (.int b) := rfl
      have b2 : Bd 2 (2 : Int) := by unfold Bd; decide
      have m1 : mulG a 2 = some (a * 2) := mulG_of (mul_of ha b2 (by decide) (by decide) (by decide))
      have m2 : mulG b 2 = some (b * 2) := mulG_of (mul_of hb b2 (by decide) (by decide) (by decide))
      obtain ⟨z, w5, k4, k5⟩ := pickW_ok w1 (xs := ([(PV.tup [(PV.int (a + 1)), PV.int b]), (PV.tup [(PV.int (a * 2)), (PV.int (b * 2))]), (PV.tup [PV.int a, (PV.int (0 - b))]), PV.int a, (PV.tup [PV.int a, (PV.int 0)]), (PV.tup [(PV.int 0), (PV.int 1)]), (PV.bl true)] : List PV)) (by simp)
      refine ⟨z, w5, ?_, ?_⟩
      · rw [if_pos (by simp [PV.isT])]
        simp only [e0, e1, PV.asI, Option.bind_some, m1, m2]
        rw [k4]; rfl
      · have ha' : a.natAbs < 2 ^ 36 := ha
        have hb' : b.natAbs < 2 ^ 36 := hb
        simp only [List.mem_cons, List.not_mem_nil, or_false] at k5
        rcases k5 with rfl | rfl | rfl | rfl | rfl | rfl | rfl
        · exact ⟨by unfold Bd; omega, hb.mono (by decide)⟩
        · exact ⟨by unfold Bd; omega, by unfold Bd; omega⟩
        · exact ⟨ha.mono (by decide), by unfold Bd; omega⟩
        · exact ha.mono (by decide)
        · exact ⟨ha.mono (by decide), c40 (by decide)⟩
        · exact ⟨c40 (by decide), c40 (by decide)⟩
        · trivial
  rw [hy, Option.bind_some]
  dsimp only
  have c1 := cut_to (xs := row) (k := k) (by omega)
  have c2 := cut_from (xs := row) (k := k + 1) (by omega)
  have c3 := cut_to (xs := row) (k := 1) (by omega)
  rw [show (((k + 1 : Nat)) : Int) = (k : Int) + 1 by omega] at c2
  rw [show ((1 : Nat) : Int) = 1 from rfl] at c3
  rw [c1, c2, c3]
  rw [catG_of (by simp; omega), Option.bind_some, catG_of (by simp; omega), Option.bind_some, catG_of (by simp; omega), Option.bind_some, catG_of (by simp; omega), Option.bind_some, Option.bind_some, catG_of (by simp; omega), Option.bind_some]
  obtain ⟨z, w5, k4, k5⟩ := pickW_ok w2 (xs := ([(false, (PV.tup (row.take k ++ [y] ++ row.drop (k + 1)))), (false, (PV.tup (row.take k ++ row.drop (k + 1)))), (false, (PV.tup (row ++ row.take 1))), (true, PV.lst row), (false, (PV.tup (row.take k ++ [y] ++ row.drop (k + 1))))] : List (Bool × PV))) (by simp)
  rw [k4]
  have tA : ∀ v ∈ row.take k ++ [y] ++ row.drop (k + 1), Th v := fun v hv => by
    simp only [List.mem_append, List.mem_singleton] at hv
    rcases hv with (h | rfl) | h
    · exact ht v (List.mem_of_mem_take h)
    · exact hty
    · exact ht v (List.mem_of_mem_drop h)
  have tB : ∀ v ∈ row.take k ++ row.drop (k + 1), Th v := fun v hv => by
    simp only [List.mem_append] at hv
    rcases hv with h | h
    · exact ht v (List.mem_of_mem_take h)
    · exact ht v (List.mem_of_mem_drop h)
  have tC : ∀ v ∈ row ++ row.take 1, Th v := fun v hv => by
    simp only [List.mem_append] at hv
    rcases hv with h | h
    · exact ht v h
    · exact ht v (List.mem_of_mem_take h)
  simp only [List.mem_cons, List.not_mem_nil, or_false] at k5
  rcases k5 with rfl | rfl | rfl | rfl | rfl
  · exact ⟨_, w5, _, rfl, tA, by simp; omega, .inl rfl⟩
  · exact ⟨_, w5, _, rfl, tB, by simp; omega, .inl rfl⟩
  · exact ⟨_, w5, _, rfl, tC, by simp; omega, .inl rfl⟩
  · exact ⟨_, w5, _, rfl, ht, by omega, .inr rfl⟩
  · exact ⟨_, w5, _, rfl, tA, by simp; omega, .inl rfl⟩
end Sh
end

section
/-! k27 A5: the rest of what is drawn; the law. -/
namespace Sh
open DL TL K31
theorem sum_bd {M : Nat} : ∀ {xs : List Int}, (∀ x ∈ xs, x.natAbs ≤ M) → (xs.sum).natAbs ≤ xs.length * M
  | [], _ => by simp
  | x :: xs, h => by
    have h1 := h x List.mem_cons_self
    have h2 := sum_bd (xs := xs) fun y hy => h y (List.mem_cons_of_mem _ hy)
    have h3 := Int.natAbs_add_le x xs.sum
    rw [List.sum_cons, List.length_cons, Nat.succ_mul]
    omega
theorem sums_ok {R : List (List Int)} {x : List Int} {c : Nat} (hc : c ≤ 4) (hl : R.length ≤ 8) (hR : ∀ r ∈ R, r.length = c ∧ ∀ n ∈ r, Bd 17 n) (hx : x.length = c) (hb : ∀ n ∈ x, Bd 4 n) : ∃ S, _law_sums R x = some S ∧ S.length = R.length ∧ ∀ n ∈ S, Bd 24 n := by
  unfold _law_sums
  rw [szG_of (by omega), Option.bind_some]
  obtain ⟨S, h1, h2, h3⟩ := mapO_mem (F := fun (a2 : List Int) => (rngG 0 ((x).length : Int)).bind fun r3 => (szG r3).bind fun u4 => (mapO (fun a5 => (L2.atI a2 a5).bind fun x6 => (L2.atI x a5).bind fun x7 => mulG x6 x7) r3).bind fun y9 => some (y9.sum)) (fun _ y => Bd 24 y) (xs := R) (fun r hr => by
    obtain ⟨r1, r2⟩ := hR r hr
    rw [rngG_of (by omega) (by omega), Option.bind_some, szG_of (by rw [rg_len]; omega), Option.bind_some]
    obtain ⟨ys, g1, g2, g3⟩ := mapO_mem (F := fun (a5 : Int) => (L2.atI r a5).bind fun x6 => (L2.atI x a5).bind fun x7 => mulG x6 x7) (fun _ y => Bd 21 y) (xs := rg 0 (x.length : Int)) (fun k hk => by
      obtain ⟨i, hi, rfl⟩ := mem_rg0 hk
      have b1 := r2 (r[i]'(by omega)) (List.getElem_mem _)
      have b2 := hb x[i] (List.getElem_mem _)
      exact ⟨(r[i]'(by omega)) * x[i], by rw [at_in (by omega), Option.bind_some, at_in hi, Option.bind_some, mulG_of (mul_of b1 b2 (by decide) (by decide) (by decide))], b1.mul b2⟩)
    rw [rg_len] at g2
    refine ⟨ys.sum, by rw [g1]; rfl, ?_⟩
    have := sum_bd (M := 2 ^ 21) (xs := ys) (fun y hy => by obtain ⟨_, _, h⟩ := g3 y hy; unfold Bd at h; omega)
    have : ys.length * 2 ^ 21 ≤ 4 * 2 ^ 21 := Nat.mul_le_mul_right _ (by omega)
    unfold Bd
    omega)
  exact ⟨S, h1, h2, fun n hn => by obtain ⟨_, _, h⟩ := h3 n hn; exact h⟩
/-- rows and sums as they are drawn -/
structure Dr (R : List (List Int)) (S : List Int) (c : Nat) : Prop where
  ne : 1 ≤ R.length
  le : R.length ≤ 5
  c1 : 1 ≤ c
  c4 : c ≤ 4
  wd : ∀ r ∈ R, r.length = c
  bd : ∀ r ∈ R, ∀ n ∈ r, Bd 17 n
  sl : S.length = R.length
  sb : ∀ n ∈ S, Bd 24 n
theorem d_ok {d : Int} (h : d ∈ ([1, 2, 3, 6] : List Int)) : 0 < d ∧ Bd 3 d ∧ divOk d = true := by
  simp only [List.mem_cons, List.not_mem_nil, or_false] at h
  rcases h with rfl | rfl | rfl | rfl <;> exact ⟨by decide, by unfold Bd; decide, by decide⟩
theorem parted_ok (w : W) : ∃ R S X w' c, _law_parted w = some ((R, S, X), w') ∧ Dr R S c ∧ X.length = c ∧ ∀ p ∈ X, Bd 36 p.1 ∧ Bd 36 p.2 := by
  unfold _law_parted
  obtain ⟨p, w1, h1, p0, p1⟩ := nextW_ok w (show (0 : Int) < 3 by decide)
  obtain ⟨d, w2, h2, hd⟩ := pickW_ok w1 (xs := ([1, 2, 3, 6] : List Int)) (by simp)
  obtain ⟨d0, d1, d2⟩ := d_ok hd
  obtain ⟨c, hc⟩ : ∃ c : Nat, 1 + p = (c : Int) := ⟨(1 + p).toNat, by omega⟩
  obtain ⟨R, w3, h3, r1, r2, r3⟩ := rows_ok w2 (most := 3) (by omega) (c := c) (by omega)
  obtain ⟨x, w4, h4, x1, x2⟩ := whole_ok w3 (c := c) (by omega)
  obtain ⟨R2, h5, q1, q2⟩ := mapO_mem (F := fun (a5 : List Int) => (szG a5).bind fun u6 => mapO (fun a7 => mulG a7 d) a5) (fun _ y => y.length = c ∧ ∀ n ∈ y, Bd 17 n) (xs := R) (fun r hr => by
    obtain ⟨l1, l2⟩ := r3 r hr
    rw [szG_of (by omega), Option.bind_some]
    obtain ⟨ys, g1, g2, g3⟩ := mapO_mem (F := fun (a7 : Int) => mulG a7 d) (fun _ y => Bd 17 y) (xs := r) (fun n hn => ⟨n * d, mulG_of (mul_of (l2 n hn) d1 (by decide) (by decide) (by decide)), (l2 n hn).mul d1⟩)
    exact ⟨ys, g1, by omega, fun n hn => by obtain ⟨_, _, h⟩ := g3 n hn; exact h⟩)
  have q3 : ∀ r ∈ R2, r.length = c ∧ ∀ n ∈ r, Bd 17 n := fun r hr => by obtain ⟨_, _, h⟩ := q2 r hr; exact h
  obtain ⟨S, h6, s1, s2⟩ := sums_ok (c := c) (by omega) (by omega) q3 x1 x2
  obtain ⟨S2, h7, s3, s4⟩ := mapO_mem (F := fun (a14 : Int) => divG a14 d) (fun _ y => Bd 24 y) (xs := S) (fun n hn => ⟨divD n d, divG_of d2, by rw [divD_pos d0]; exact (s2 n hn).le (Int.natAbs_ediv_le_natAbs _ _)⟩)
  obtain ⟨X, h8, t1, t2⟩ := mapO_mem (F := fun (a18 : Int) => _law_low a18 d) (fun _ y => Bd 36 y.1 ∧ Bd 36 y.2) (xs := x) (fun n hn => ⟨_, low_eq d0 (d1.mono (by decide)), ((x2 n hn).le (nfN_le (by omega))).mono (by decide), (d1.le nfD_le).mono (by decide)⟩)
  rw [h1, Option.bind_some]
  dsimp only
  rw [h2, Option.bind_some]
  dsimp only
  rw [hc, h3, Option.bind_some]
  dsimp only
  rw [szG_of (by omega), Option.bind_some, h5, Option.bind_some, h4, Option.bind_some]
  dsimp only
  rw [h6, Option.bind_some, szG_of (by omega), Option.bind_some, h7, Option.bind_some, szG_of (by omega), Option.bind_some, h8, Option.bind_some]
  exact ⟨R2, S2, X, w4, c, rfl, ⟨by omega, by omega, by omega, by omega, fun r hr => (q3 r hr).1, fun r hr => (q3 r hr).2, by omega, fun n hn => by obtain ⟨_, _, h⟩ := s4 n hn; exact h⟩, by omega, fun y hy => by obtain ⟨_, _, h⟩ := t2 y hy; exact h⟩
theorem rep_int {x : Int} {n : Nat} (h : n ≤ 100) : repG [x] (n : Int) = some (List.replicate n x) := by rw [repG_of (by omega) (by omega), Int.toNat_natCast]
theorem Dr.rws {R : List (List Int)} {S : List Int} {c : Nat} (h : Dr R S c) : Rws R c := ⟨h.ne, by have := h.le; omega, h.wd, by have := h.c4; omega, fun r hr n hn => (h.bd r hr n hn).mono (by decide)⟩
theorem set_bd {xs : List Int} {i : Nat} {v : Int} {n : Nat} (h : ∀ x ∈ xs, Bd n x) (hv : Bd n v) : ∀ x ∈ xs.set i v, Bd n x := fun x hx => by
  rcases List.mem_or_eq_of_mem_set hx with h' | rfl
  · exact h x h'
  · exact hv
theorem b3_of {i : Int} (h : -3 ≤ i ∧ i ≤ 3) : Bd 2 i := Bd_of h (by decide)
theorem more_ok (w : W) {R : List (List Int)} {S : List Int} {c : Nat} (h : Dr R S c) : ∃ R2 S2 Y w', _law_more w R S = some ((R2, S2, Y), w') ∧ Rws R2 c ∧ S2.length = R2.length ∧ (∀ n ∈ S2, Bd 40 n) ∧ Y.length = R2.length ∧ ∀ n ∈ Y, Bd 36 n := by
  unfold _law_more
  have r1 := h.ne
  have r5 := h.le
  have c4 := h.c4
  have sl := h.sl
  obtain ⟨i, w1, h1, i0, i1⟩ := nextW_ok w (show (0 : Int) < (R.length : Int) by omega)
  obtain ⟨j, w2, h2, j0, j1⟩ := nextW_ok w1 (show (0 : Int) < (R.length : Int) by omega)
  obtain ⟨a, w3, h3, a0, a1⟩ := nextW_ok w2 (show (0 : Int) < 7 by decide)
  obtain ⟨b, w4, h4, b0, b1⟩ := nextW_ok w3 (show (0 : Int) < 7 by decide)
  obtain ⟨e, w5, h5, he⟩ := pickW_ok w4 (xs := ([0, 0, 1, (-2)] : List Int)) (by simp)
  obtain ⟨i, rfl⟩ : ∃ k : Nat, i = k := ⟨i.toNat, by omega⟩
  obtain ⟨j, rfl⟩ : ∃ k : Nat, j = k := ⟨j.toNat, by omega⟩
  have hi : i < R.length := by omega
  have hj : j < R.length := by omega
  have hA : Bd 2 (a - 3) := b3_of (by omega)
  have hB : Bd 2 (b - 3) := b3_of (by omega)
  obtain ⟨row, h6, q1, q2⟩ := mapO_mem (F := fun (a8 : Int) => (L2.atI R (i : Int)).bind fun x9 => (L2.atI x9 a8).bind fun x10 => (mulG (a - 3) x10).bind fun x11 => (L2.atI R (j : Int)).bind fun x12 => (L2.atI x12 a8).bind fun x13 => (mulG (b - 3) x13).bind fun x14 => some (x11 + x14)) (fun _ y => Bd 40 y) (xs := rg 0 (c : Int)) (fun k hk => by
    obtain ⟨k, hk, rfl⟩ := mem_rg0 hk
    have l1 := h.wd R[i] (List.getElem_mem _)
    have l2 := h.wd R[j] (List.getElem_mem _)
    have m1 := h.bd R[i] (List.getElem_mem _) (R[i][k]'(by omega)) (List.getElem_mem _)
    have m2 := h.bd R[j] (List.getElem_mem _) (R[j][k]'(by omega)) (List.getElem_mem _)
    refine ⟨_, ?_, ((hA.mul m1).add (hB.mul m2)).mono (by decide)⟩
    rw [at_in hi, Option.bind_some, at_in (by omega), Option.bind_some, mulG_of (mul_of hA m1 (by decide) (by decide) (by decide)), Option.bind_some, at_in hj, Option.bind_some, at_in (by omega), Option.bind_some, mulG_of (mul_of hB m2 (by decide) (by decide) (by decide))]
    rfl)
  rw [rg_len] at q1
  have n1 := h.sb (S[i]'(by omega)) (List.getElem_mem _)
  have n2 := h.sb (S[j]'(by omega)) (List.getElem_mem _)
  rw [h1, Option.bind_some]
  dsimp only
  rw [h2, Option.bind_some]
  dsimp only
  rw [h3, Option.bind_some]
  dsimp only
  rw [h4, Option.bind_some]
  dsimp only
  rw [row0 h.rws, Option.bind_some, row0_len h.rws, rngG_of (by omega) (by omega), Option.bind_some, szG_of (by rw [rg_len]; omega), Option.bind_some, h6, Option.bind_some, rep_int (by omega), Option.bind_some]
  rw [at_in (by rw [List.length_replicate]; omega), Option.bind_some, setG_of (by rw [List.length_replicate]; omega), Option.bind_some, at_in (by rw [List.length_set, List.length_replicate]; omega), Option.bind_some, setG_of (by rw [List.length_set, List.length_replicate]; omega), Option.bind_some]
  rw [catG_of (by simp; omega), Option.bind_some, at_in (by omega), Option.bind_some, mulG_of (mul_of hA n1 (by decide) (by decide) (by decide)), Option.bind_some, at_in (by omega), Option.bind_some, mulG_of (mul_of hB n2 (by decide) (by decide) (by decide)), Option.bind_some, h5, Option.bind_some]
  rw [catG_of (by simp; omega), Option.bind_some, catG_of (by simp; omega), Option.bind_some]
  have he2 : Bd 2 e := by
    simp only [List.mem_cons, List.not_mem_nil, or_false] at he
    exact b3_of (by omega)
  have hz : ∀ x ∈ List.replicate R.length (0 : Int), Bd 4 x := fun x hx => by
    rw [(List.mem_replicate.mp hx).2]; unfold Bd; decide
  have hY : ∀ (l : List Int) (v : Int) (t : Int) (k : Nat) (hk : k < l.length) (n : Nat), (∀ x ∈ l, Bd n x) → 2 ≤ n → Bd 2 t → ∀ x ∈ l.set k (l[k] + t), Bd (n + 1) x := fun l v t k hk n hl hn ht => set_bd (fun x hx => (hl x hx).mono (by omega)) ((hl _ (List.getElem_mem _)).add (ht.mono hn))
  refine ⟨_, _, _, w5, rfl, ⟨by simp, by simp; omega, fun r hr => ?_, by omega, fun r hr n hn => ?_⟩, by simp; omega, fun n hn => ?_, by simp, fun n hn => ?_⟩
  · rcases List.mem_append.mp hr with hr | hr
    · exact h.wd r hr
    · rw [List.mem_singleton.mp hr]; omega
  · rcases List.mem_append.mp hr with hr | hr
    · exact (h.bd r hr n hn).mono (by decide)
    · rw [List.mem_singleton.mp hr] at hn
      obtain ⟨_, _, h'⟩ := q2 n hn
      exact h'
  · rcases List.mem_append.mp hn with hn | hn
    · exact (h.sb n hn).mono (by decide)
    · rw [List.mem_singleton.mp hn]
      exact ((((hA.mul n1).add (hB.mul n2))).add (he2.mono (by decide))).mono (by decide)
  · rcases List.mem_append.mp hn with hn | hn
    · have t1 := hY (List.replicate R.length 0) 0 (a - 3) i (by rw [List.length_replicate]; omega) 4 hz (by decide) hA
      have t2 := hY _ 0 (b - 3) j (by rw [List.length_set, List.length_replicate]; omega) 5 t1 (by decide) hB
      exact (t2 n hn).mono (by decide)
    · rw [List.mem_singleton.mp hn]; unfold Bd; decide
theorem times_ok' (w : W) {R : List (List Int)} {S : List Int} {c : Nat} (h : Dr R S c) : ∃ R2 S2 Y w', _law_times w R S = some ((R2, S2, Y), w') ∧ Rws R2 c ∧ S2.length = R2.length ∧ (∀ n ∈ S2, Bd 40 n) ∧ Y.length = R2.length ∧ ∀ p ∈ Y, Bd 36 p.1 ∧ Bd 36 p.2 := by
  unfold _law_times
  have r1 := h.ne
  have r5 := h.le
  have c4 := h.c4
  have sl := h.sl
  obtain ⟨k, w1, h1, k0, k1⟩ := nextW_ok w (show (0 : Int) < (R.length : Int) by omega)
  obtain ⟨d, w2, h2, hd⟩ := pickW_ok w1 (xs := ([2, 3, 4, 6, (-2)] : List Int)) (by simp)
  obtain ⟨t, w3, h3, t0, t1⟩ := nextW_ok w2 (show (0 : Int) < 19 by decide)
  obtain ⟨k, rfl⟩ : ∃ n : Nat, k = n := ⟨k.toNat, by omega⟩
  have hk : k < R.length := by omega
  have hdb : Bd 3 d ∧ d ≠ 0 := by
    simp only [List.mem_cons, List.not_mem_nil, or_false] at hd
    rcases hd with rfl | rfl | rfl | rfl | rfl <;> exact ⟨by unfold Bd; decide, by decide⟩
  have o1 : Bd 1 (1 : Int) := by unfold Bd; decide
  obtain ⟨v, h4, v1, v2⟩ : ∃ v : Int × Int, (if (decide (0 < d)) = true then _law_low 1 d else _law_low (-1) (0 - d)) = some v ∧ Bd 36 v.1 ∧ Bd 36 v.2 := by
    by_cases h0 : 0 < d
    · exact ⟨(nfN 1 d, nfD 1 d), by rw [decide_eq_true h0, if_pos rfl, low_eq h0 (hdb.1.mono (by decide))], (o1.le (nfN_le (by omega))).mono (by decide), (hdb.1.le nfD_le).mono (by decide)⟩
    · have hn : Bd 3 (0 - d) := by rw [Int.zero_sub]; exact hdb.1.neg
      exact ⟨(nfN (-1) (0 - d), nfD (-1) (0 - d)), by rw [decide_eq_false h0, if_neg (by decide), low_eq (by omega) (hn.mono (by decide))], (o1.neg.le (nfN_le (by omega))).mono (by decide), (hn.le nfD_le).mono (by decide)⟩
  obtain ⟨row, h5, q1, q2⟩ := mapO_mem (F := fun (a10 : Int) => mulG a10 d) (fun _ y => Bd 40 y) (xs := R[k]) (fun n hn => ⟨n * d, mulG_of (mul_of (h.bd _ (List.getElem_mem _) n hn) hdb.1 (by decide) (by decide) (by decide)), ((h.bd _ (List.getElem_mem _) n hn).mul hdb.1).mono (by decide)⟩)
  have l1 := h.wd R[k] (List.getElem_mem _)
  have e1 := cut_to (xs := R) (k := k) (by omega)
  have e2 := cut_from (xs := R) (k := k + 1) (by omega)
  have e3 := cut_to (xs := S) (k := k) (by omega)
  have e4 := cut_from (xs := S) (k := k + 1) (by omega)
  rw [show (((k + 1 : Nat)) : Int) = (k : Int) + 1 by omega] at e2 e4
  have hrep : repG [((0, 1) : Int × Int)] (R.length : Int) = some (List.replicate R.length (0, 1)) := by rw [repG_of (by omega) (by omega), Int.toNat_natCast]
  rw [h1, Option.bind_some]
  dsimp only
  rw [h2, Option.bind_some]
  dsimp only
  rw [hrep, Option.bind_some, h4, Option.bind_some, setG_of (by rw [List.length_replicate]; omega), Option.bind_some, at_in hk, Option.bind_some, szG_of (by omega), Option.bind_some, h5, Option.bind_some, e1, e2, e3, e4]
  rw [catG_of (by simp; omega), Option.bind_some, catG_of (by simp; omega), Option.bind_some, h3, Option.bind_some]
  dsimp only
  rw [catG_of (by simp; omega), Option.bind_some, catG_of (by simp; omega), Option.bind_some]
  refine ⟨_, _, _, w3, rfl, ⟨by rw [take_drop_len hk]; omega, by rw [take_drop_len hk]; omega, fun r hr => ?_, by omega, fun r hr n hn => ?_⟩, by rw [take_drop_len hk, take_drop_len (by omega)]; omega, fun n hn => ?_, by rw [take_drop_len hk]; simp, fun p hp => ?_⟩
  · simp only [List.mem_append, List.mem_singleton] at hr
    rcases hr with (hr | rfl) | hr
    · exact h.wd r (List.mem_of_mem_take hr)
    · omega
    · exact h.wd r (List.mem_of_mem_drop hr)
  · simp only [List.mem_append, List.mem_singleton] at hr
    rcases hr with (hr | rfl) | hr
    · exact (h.bd r (List.mem_of_mem_take hr) n hn).mono (by decide)
    · obtain ⟨_, _, h'⟩ := q2 n hn
      exact h'
    · exact (h.bd r (List.mem_of_mem_drop hr) n hn).mono (by decide)
  · simp only [List.mem_append, List.mem_singleton] at hn
    rcases hn with (hn | rfl) | hn
    · exact (h.sb n (List.mem_of_mem_take hn)).mono (by decide)
    · exact Bd_of (m := 20) (by omega) (by decide)
    · exact (h.sb n (List.mem_of_mem_drop hn)).mono (by decide)
  · rcases List.mem_or_eq_of_mem_set hp with hp | rfl
    · rw [(List.mem_replicate.mp hp).2]
      exact ⟨by unfold Bd; decide, by unfold Bd; decide⟩
    · exact ⟨v1, v2⟩
theorem same_eq (b : Bool) : _law_same b b = some true := by cases b <;> rfl
theorem frs_th {X : List (Int × Int)} (h : ∀ p ∈ X, Bd 36 p.1 ∧ Bd 36 p.2) : ∀ v ∈ X.map (fun a => PV.tup [PV.int a.1, PV.int a.2]), ThS v := fun v hv => by
  obtain ⟨p, hp, rfl⟩ := List.mem_map.mp hv
  exact .inr ⟨p.1, p.2, rfl, h p hp⟩
theorem ints_th {X : List Int} (h : ∀ p ∈ X, Bd 36 p) : ∀ v ∈ X.map (fun a => PV.int a), ThS v := fun v hv => by
  obtain ⟨p, hp, rfl⟩ := List.mem_map.mp hv
  exact .inl ⟨p, rfl, h p hp⟩
theorem rw_of {vs : List PV} (h : ∀ v ∈ vs, ThS v) (hl : vs.length ≤ 20) : Rw vs (.tup vs) := ⟨fun v hv => (h v hv).th, hl, .inl rfl⟩
theorem look_loop {f g : PV → Option Bool} {ds : List PV} (h : ∀ d ∈ ds, ∃ b, f d = some b ∧ g d = some b) :
    loopO (fun i32 (s30 : Unit) => ((f i32).bind fun x46 => (g i32).bind fun x47 => (_law_same x46 x47).bind fun x48 => if (!x48) = true then some (Ct.rt false) else some (Ct.nx ()) : Option (Ct Bool Unit))) ds () = some (.inr ()) :=
  loopO_none fun d hd => by
    obtain ⟨b, h1, h2⟩ := h d hd
    rw [h1, Option.bind_some, h2, Option.bind_some, same_eq, Option.bind_some]; rfl
theorem law_holds : ∀ L, law L = some true := by
  intro L
  unfold law
  rw [rngG_of (by omega) (by omega), Option.bind_some]
  obtain ⟨s, hs, _⟩ := loopO_mem (ρ := Bool) (xs := rg 0 3) (s := W.mk L 0) (fun _ => True) (step := fun i13 (s2 : (W)) => ((_law_parted s2).bind fun x27 => (_law_bent x27.2 (x27.1.2.2.map fun a => (PV.tup [(PV.int a.1), (PV.int a.2)]))).bind fun x28 => (_law_bent x28.2 (x27.1.2.2.map fun a => (PV.tup [(PV.int a.1), (PV.int a.2)]))).bind fun x29 => (loopO (fun i32 (s30 : Unit) => ((is_solution x27.1.1 x27.1.2.1 i32).bind fun x46 => (_law_is_solution x27.1.1 x27.1.2.1 i32).bind fun x47 => (_law_same x46 x47).bind fun x48 => if (!x48) = true then some (Ct.rt false) else some (Ct.nx ()) : Option (Ct Bool Unit))) ([(PV.tup (x27.1.2.2.map fun a => (PV.tup [(PV.int a.1), (PV.int a.2)]))), x28.1, x29.1]) ()).bind fun z51 => sumO z51 (fun q => some (Ct.rt q)) (fun s50 => (_law_more x29.2 x27.1.1 x27.1.2.1).bind fun x52 => (_law_bent x52.2 (x52.1.2.2.map fun a => (PV.int a))).bind fun x53 => (_law_bent x53.2 (x52.1.2.2.map fun a => (PV.int a))).bind fun x54 => (szG x52.1.2.2).bind fun u55 => (szG x52.1.2.2).bind fun u57 => (loopO (fun i61 (s59 : Unit) => ((is_no_solution x52.1.1 x52.1.2.1 i61).bind fun x75 => (_law_is_no_solution x52.1.1 x52.1.2.1 i61).bind fun x76 => (_law_same x75 x76).bind fun x77 => if (!x77) = true then some (Ct.rt false) else some (Ct.nx ()) : Option (Ct Bool Unit))) ([(PV.tup (x52.1.2.2.map fun a => (PV.int a))), x53.1, x54.1, (PV.tup ((x52.1.2.2.map fun a56 => (0 - a56)).map fun a => (PV.int a))), (PV.tup ((x52.1.2.2.map fun a58 => 0).map fun a => (PV.int a)))] : List PV) ()).bind fun z80 => sumO z80 (fun q => some (Ct.rt q)) (fun s79 => (_law_times x54.2 x27.1.1 x27.1.2.1).bind fun x81 => (_law_bent x81.2 (x81.1.2.2.map fun a => (PV.tup [(PV.int a.1), (PV.int a.2)]))).bind fun x82 => (_law_bent x82.2 (x81.1.2.2.map fun a => (PV.tup [(PV.int a.1), (PV.int a.2)]))).bind fun x83 => (szG x81.1.2.2).bind fun u84 => (mapO (fun a85 => _law_low a85.1 2) x81.1.2.2).bind fun y87 => (loopO (fun i90 (s88 : Unit) => ((is_no_whole x81.1.1 x81.1.2.1 i90).bind fun x104 => (_law_is_no_whole x81.1.1 x81.1.2.1 i90).bind fun x105 => (_law_same x104 x105).bind fun x106 => if (!x106) = true then some (Ct.rt false) else some (Ct.nx ()) : Option (Ct Bool Unit))) ([(PV.tup (x81.1.2.2.map fun a => (PV.tup [(PV.int a.1), (PV.int a.2)]))), x82.1, x83.1, (PV.tup (y87.map fun a => (PV.tup [(PV.int a.1), (PV.int a.2)])))]) ()).bind fun z109 => sumO z109 (fun q => some (Ct.rt q)) (fun s108 => some (Ct.nx x83.2)))) : Option (Ct Bool (W)))) (fun t _ w _ => by
    obtain ⟨R, S, X, w1, c, h1, hD, x1, x2⟩ := parted_ok w
    have c1 := hD.c1
    have c4 := hD.c4
    have r5 := hD.le
    have r1 := hD.ne
    have hR := hD.rws
    have hSb : ∀ n ∈ S, Bd 40 n := fun n hn => (hD.sb n hn).mono (by decide)
    have tX := frs_th x2
    obtain ⟨d1, w2, v1, h2, g1⟩ := bent_ok w1 (row := X.map fun a => PV.tup [PV.int a.1, PV.int a.2]) (by rw [List.length_map]; omega) (by rw [List.length_map]; omega) tX
    obtain ⟨d2, w3, v2, h3, g2⟩ := bent_ok w2 (row := X.map fun a => PV.tup [PV.int a.1, PV.int a.2]) (by rw [List.length_map]; omega) (by rw [List.length_map]; omega) tX
    have k1 : loopO (fun i32 (s30 : Unit) => ((is_solution R S i32).bind fun x46 => (_law_is_solution R S i32).bind fun x47 => (_law_same x46 x47).bind fun x48 => if (!x48) = true then some (Ct.rt false) else some (Ct.nx ()) : Option (Ct Bool Unit))) ([(PV.tup (X.map fun a => (PV.tup [(PV.int a.1), (PV.int a.2)]))), d1, d2]) () = some (.inr ()) := look_loop fun d hd => by
      simp only [List.mem_cons, List.not_mem_nil, or_false] at hd
      rcases hd with rfl | rfl | rfl
      · exact both_solution hR hD.sl hSb (rw_of tX (by rw [List.length_map]; omega))
      · exact both_solution hR hD.sl hSb g1
      · exact both_solution hR hD.sl hSb g2
    obtain ⟨R2, S2, Y, w4, h4, hR2, s1, s2, y1, y2⟩ := more_ok w3 hD
    have l2 := hR2.ne
    have l3 := hR2.le
    have tY := ints_th y2
    obtain ⟨d3, w5, v3, h5, g3⟩ := bent_ok w4 (row := Y.map fun a => PV.int a) (by rw [List.length_map]; omega) (by rw [List.length_map]; omega) tY
    obtain ⟨d4, w6, v4, h6, g4⟩ := bent_ok w5 (row := Y.map fun a => PV.int a) (by rw [List.length_map]; omega) (by rw [List.length_map]; omega) tY
    have k2 : loopO (fun i61 (s59 : Unit) => ((is_no_solution R2 S2 i61).bind fun x75 => (_law_is_no_solution R2 S2 i61).bind fun x76 => (_law_same x75 x76).bind fun x77 => if (!x77) = true then some (Ct.rt false) else some (Ct.nx ()) : Option (Ct Bool Unit))) ([(PV.tup (Y.map fun a => (PV.int a))), d3, d4, (PV.tup ((Y.map fun a56 => (0 - a56)).map fun a => (PV.int a))), (PV.tup ((Y.map fun a58 => 0).map fun a => (PV.int a)))] : List PV) () = some (.inr ()) := look_loop fun d hd => by
      simp only [List.mem_cons, List.not_mem_nil, or_false] at hd
      rcases hd with rfl | rfl | rfl | rfl | rfl
      · exact both_no_solution hR2 s1 s2 (rw_of tY (by rw [List.length_map]; omega))
      · exact both_no_solution hR2 s1 s2 g3
      · exact both_no_solution hR2 s1 s2 g4
      · exact both_no_solution hR2 s1 s2 (rw_of (ints_th fun p hp => by
          obtain ⟨q, hq, rfl⟩ := List.mem_map.mp hp
          rw [Int.zero_sub]; exact (y2 q hq).neg) (by rw [List.length_map, List.length_map]; omega))
      · exact both_no_solution hR2 s1 s2 (rw_of (ints_th fun p hp => by
          obtain ⟨q, hq, rfl⟩ := List.mem_map.mp hp
          unfold Bd; decide) (by rw [List.length_map, List.length_map]; omega))
    obtain ⟨R3, S3, Z, w7, h7, hR3, s3, s4, z1, z2⟩ := times_ok' w6 hD
    have l4 := hR3.ne
    have l5 := hR3.le
    have tZ := frs_th z2
    obtain ⟨d5, w8, v5, h8, g5⟩ := bent_ok w7 (row := Z.map fun a => PV.tup [PV.int a.1, PV.int a.2]) (by rw [List.length_map]; omega) (by rw [List.length_map]; omega) tZ
    obtain ⟨d6, w9, v6, h9, g6⟩ := bent_ok w8 (row := Z.map fun a => PV.tup [PV.int a.1, PV.int a.2]) (by rw [List.length_map]; omega) (by rw [List.length_map]; omega) tZ
    obtain ⟨Q, h10, q1, q2⟩ := mapO_mem (F := fun (a85 : Int × Int) => _law_low a85.1 2) (fun _ y => Bd 36 y.1 ∧ Bd 36 y.2) (xs := Z) (fun n hn => ⟨_, low_eq (by decide) (by unfold Bd; exact Nat.lt_of_lt_of_le (show 2 < 2 ^ 2 by decide) (Nat.pow_le_pow_right (by decide) (by decide))), ((z2 n hn).1.le (nfN_le (by decide))), ((show Bd 36 (2 : Int) by unfold Bd; decide).le nfD_le)⟩)
    have q3 : ∀ p ∈ Q, Bd 36 p.1 ∧ Bd 36 p.2 := fun p hp => by obtain ⟨_, _, h⟩ := q2 p hp; exact h
    have k3 : loopO (fun i90 (s88 : Unit) => ((is_no_whole R3 S3 i90).bind fun x104 => (_law_is_no_whole R3 S3 i90).bind fun x105 => (_law_same x104 x105).bind fun x106 => if (!x106) = true then some (Ct.rt false) else some (Ct.nx ()) : Option (Ct Bool Unit))) ([(PV.tup (Z.map fun a => (PV.tup [(PV.int a.1), (PV.int a.2)]))), d5, d6, (PV.tup (Q.map fun a => (PV.tup [(PV.int a.1), (PV.int a.2)])))]) () = some (.inr ()) := look_loop fun d hd => by
      simp only [List.mem_cons, List.not_mem_nil, or_false] at hd
      rcases hd with rfl | rfl | rfl | rfl
      · exact both_no_whole hR3 s3 s4 (rw_of tZ (by rw [List.length_map]; omega))
      · exact both_no_whole hR3 s3 s4 g5
      · exact both_no_whole hR3 s3 s4 g6
      · exact both_no_whole hR3 s3 s4 (rw_of (frs_th q3) (by rw [List.length_map]; omega))
    refine ⟨w9, ?_, trivial⟩
    rw [h1, Option.bind_some]
    dsimp only
    rw [h2, Option.bind_some]
    dsimp only
    rw [h3, Option.bind_some]
    dsimp only
    rw [k1, Option.bind_some]
    dsimp only [sumO]
    rw [h4, Option.bind_some]
    dsimp only
    rw [h5, Option.bind_some]
    dsimp only
    rw [h6, Option.bind_some, szG_of (by omega), Option.bind_some, Option.bind_some]
    dsimp only
    rw [k2, Option.bind_some]
    dsimp only [sumO]
    rw [h7, Option.bind_some]
    dsimp only
    rw [h8, Option.bind_some]
    dsimp only
    rw [h9, Option.bind_some, szG_of (by omega), Option.bind_some, h10, Option.bind_some]
    dsimp only
    rw [k3, Option.bind_some]) trivial
  rw [hs]; rfl
end Sh
end

section

end

section
namespace Pg
open DL PySem PySem.Spec L2
def topS (i : Nat) : Stmt := PySem.Challenge.pw_everybest_k27_looks_at_sums.main.body.getD i (.Pass ⟨0, 0, 0, 0⟩)
def fn : List (Str × Nat) := [(("_law_draws" : Str), 2), (("_law_next" : Str), 2), (("_law_pick" : Str), 2), (("_law_rows" : Str), 3), (("_law_whole" : Str), 2), (("_law_sums" : Str), 2), (("_law_low" : Str), 2), (("_law_parted" : Str), 1), (("_law_pick" : Str), 2), (("_law_bent" : Str), 2), (("width_of" : Str), 1), (("divisor" : Str), 2), (("is_fraction" : Str), 1), (("are_fractions" : Str), 2), (("whole" : Str), 1), (("wholes" : Str), 1), (("lowest" : Str), 2), (("times" : Str), 2), (("plus" : Str), 2), (("dot" : Str), 2), (("is_solution" : Str), 3), (("_law_is_number" : Str), 1), (("_law_is_fraction" : Str), 1), (("_law_is_fractions" : Str), 2), (("_law_mul" : Str), 2), (("_law_add" : Str), 2), (("_law_dot" : Str), 2), (("_law_is_solution" : Str), 3), (("_law_same" : Str), 2), (("_law_more" : Str), 3), (("is_number" : Str), 1), (("is_numbers" : Str), 2), (("wholes" : Str), 1), (("summed" : Str), 2), (("is_no_solution" : Str), 3), (("_law_is_numbers" : Str), 1), (("_law_wholes" : Str), 1), (("_law_column" : Str), 2), (("_law_is_no_solution" : Str), 3), (("_law_times" : Str), 3), (("is_no_whole" : Str), 3), (("_law_is_no_whole" : Str), 3), (("law" : Str), 1)]
def bl : List Str := ["abs", "all", "bool", "int", "isinstance", "len", "list", "range", "sum", "tuple", "zip"]
def N0 : List Str := ["script", "many", "draws", "mixed", "k", "cell", "rest", "turn"]
theorem sc0 : FnScope N0 ["script", "many"] (L2.defScope (topS 21)) := ⟨rfl, rfl, rfl, by decide +kernel, rfl, by decide +kernel, by decide +kernel⟩
theorem ck0 : chkSs fn bl N0 (L2.defScope (topS 21)) (fxOf 2 (f0).re) (f0).body (L2.defBody (topS 21)) = true := by decide +kernel
def N1 : List Str := ["w", "many"]
theorem sc1 : FnScope N1 ["w", "many"] (L2.defScope (topS 22)) := ⟨rfl, rfl, rfl, by decide +kernel, rfl, by decide +kernel, by decide +kernel⟩
theorem ck1 : chkSs fn bl N1 (L2.defScope (topS 22)) (fxOf 2 (f1).re) (f1).body (L2.defBody (topS 22)) = true := by decide +kernel
def N2 : List Str := ["w", "rows"]
theorem sc2 : FnScope N2 ["w", "rows"] (L2.defScope (topS 23)) := ⟨rfl, rfl, rfl, by decide +kernel, rfl, by decide +kernel, by decide +kernel⟩
theorem ck2 : chkSs fn bl N2 (L2.defScope (topS 23)) (fxOf 2 (f2).re) (f2).body (L2.defBody (topS 23)) = true := by decide +kernel
def N3 : List Str := ["w", "most", "columns", "found", "turn", "row", "k", "a", "b"]
theorem sc3 : FnScope N3 ["w", "most", "columns"] (L2.defScope (topS 34)) := ⟨rfl, rfl, rfl, by decide +kernel, rfl, by decide +kernel, by decide +kernel⟩
theorem ck3 : chkSs fn bl N3 (L2.defScope (topS 34)) (fxOf 3 (f3).re) (f3).body (L2.defBody (topS 34)) = true := by decide +kernel
def N4 : List Str := ["w", "columns", "k"]
theorem sc4 : FnScope N4 ["w", "columns"] (L2.defScope (topS 36)) := ⟨rfl, rfl, rfl, by decide +kernel, rfl, by decide +kernel, by decide +kernel⟩
theorem ck4 : chkSs fn bl N4 (L2.defScope (topS 36)) (fxOf 2 (f4).re) (f4).body (L2.defBody (topS 36)) = true := by decide +kernel
def N5 : List Str := ["rows", "x", "row", "k"]
theorem sc5 : FnScope N5 ["rows", "x"] (L2.defScope (topS 35)) := ⟨rfl, rfl, rfl, by decide +kernel, rfl, by decide +kernel, by decide +kernel⟩
theorem ck5 : chkSs fn bl N5 (L2.defScope (topS 35)) (fxOf 2 (f5).re) (f5).body (L2.defBody (topS 35)) = true := by decide +kernel
def N6 : List Str := ["a", "b", "turn", "one", "other"]
theorem sc6 : FnScope N6 ["a", "b"] (L2.defScope (topS 27)) := ⟨rfl, rfl, rfl, by decide +kernel, rfl, by decide +kernel, by decide +kernel⟩
theorem ck6 : chkSs fn bl N6 (L2.defScope (topS 27)) (fxOf 2 (f6).re) (f6).body (L2.defBody (topS 27)) = true := by decide +kernel
def N7 : List Str := ["w", "rows", "x", "columns", "d", "row", "total", "n"]
theorem sc7 : FnScope N7 ["w"] (L2.defScope (topS 42)) := ⟨rfl, rfl, rfl, by decide +kernel, rfl, by decide +kernel, by decide +kernel⟩
theorem ck7 : chkSs fn bl N7 (L2.defScope (topS 42)) (fxOf 1 (f7).re) (f7).body (L2.defBody (topS 42)) = true := by decide +kernel
def N8 : List Str := ["w", "rows"]
theorem sc8 : FnScope N8 ["w", "rows"] (L2.defScope (topS 23)) := ⟨rfl, rfl, rfl, by decide +kernel, rfl, by decide +kernel, by decide +kernel⟩
theorem ck8 : chkSs fn bl N8 (L2.defScope (topS 23)) (fxOf 2 (f8).re) (f8).body (L2.defBody (topS 23)) = true := by decide +kernel
def N9 : List Str := ["w", "row", "at", "one", "more"]
theorem sc9 : FnScope N9 ["w", "row"] (L2.defScope (topS 41)) := ⟨rfl, rfl, rfl, by decide +kernel, rfl, by decide +kernel, by decide +kernel⟩
theorem ck9 : chkSs fn bl N9 (L2.defScope (topS 41)) (fxOf 2 (f9).re) (f9).body (L2.defBody (topS 41)) = true := by decide +kernel
def N10 : List Str := ["rows"]
theorem sc10 : FnScope N10 ["rows"] (L2.defScope (topS 15)) := ⟨rfl, rfl, rfl, by decide +kernel, rfl, by decide +kernel, by decide +kernel⟩
theorem ck10 : chkSs fn bl N10 (L2.defScope (topS 15)) (fxOf 1 (f10).re) (f10).body (L2.defBody (topS 15)) = true := by decide +kernel
def N11 : List Str := ["a", "b"]
theorem sc11 : FnScope N11 ["a", "b"] (L2.defScope (topS 1)) := ⟨rfl, rfl, rfl, by decide +kernel, rfl, by decide +kernel, by decide +kernel⟩
theorem ck11 : chkSs fn bl N11 (L2.defScope (topS 1)) (fxOf 2 (f11).re) (f11).body (L2.defBody (topS 1)) = true := by decide +kernel
def N12 : List Str := ["thing", "number"]
theorem sc12 : FnScope N12 ["thing"] (L2.defScope (topS 7)) := ⟨rfl, rfl, rfl, by decide +kernel, rfl, by decide +kernel, by decide +kernel⟩
theorem ck12 : chkSs fn bl N12 (L2.defScope (topS 7)) (fxOf 1 (f12).re) (f12).body (L2.defBody (topS 7)) = true := by decide +kernel
def N13 : List Str := ["thing", "many", "one"]
theorem sc13 : FnScope N13 ["thing", "many"] (L2.defScope (topS 8)) := ⟨rfl, rfl, rfl, by decide +kernel, rfl, by decide +kernel, by decide +kernel⟩
theorem ck13 : chkSs fn bl N13 (L2.defScope (topS 8)) (fxOf 2 (f13).re) (f13).body (L2.defBody (topS 8)) = true := by decide +kernel
def N14 : List Str := ["n"]
theorem sc14 : FnScope N14 ["n"] (L2.defScope (topS 3)) := ⟨rfl, rfl, rfl, by decide +kernel, rfl, by decide +kernel, by decide +kernel⟩
theorem ck14 : chkSs fn bl N14 (L2.defScope (topS 3)) (fxOf 1 (f14).re) (f14).body (L2.defBody (topS 3)) = true := by decide +kernel
def N15 : List Str := ["numbers", "number"]
theorem sc15 : FnScope N15 ["numbers"] (L2.defScope (topS 9)) := ⟨rfl, rfl, rfl, by decide +kernel, rfl, by decide +kernel, by decide +kernel⟩
theorem ck15 : chkSs fn bl N15 (L2.defScope (topS 9)) (fxOf 1 (f15).re) (f15).body (L2.defBody (topS 9)) = true := by decide +kernel
def N16 : List Str := ["a", "b", "by"]
theorem sc16 : FnScope N16 ["a", "b"] (L2.defScope (topS 2)) := ⟨rfl, rfl, rfl, by decide +kernel, rfl, by decide +kernel, by decide +kernel⟩
theorem ck16 : chkSs fn bl N16 (L2.defScope (topS 2)) (fxOf 2 (f16).re) (f16).body (L2.defBody (topS 2)) = true := by decide +kernel
def N17 : List Str := ["a", "b"]
theorem sc17 : FnScope N17 ["a", "b"] (L2.defScope (topS 5)) := ⟨rfl, rfl, rfl, by decide +kernel, rfl, by decide +kernel, by decide +kernel⟩
theorem ck17 : chkSs fn bl N17 (L2.defScope (topS 5)) (fxOf 2 (f17).re) (f17).body (L2.defBody (topS 5)) = true := by decide +kernel
def N18 : List Str := ["a", "b"]
theorem sc18 : FnScope N18 ["a", "b"] (L2.defScope (topS 4)) := ⟨rfl, rfl, rfl, by decide +kernel, rfl, by decide +kernel, by decide +kernel⟩
theorem ck18 : chkSs fn bl N18 (L2.defScope (topS 4)) (fxOf 2 (f18).re) (f18).body (L2.defBody (topS 4)) = true := by decide +kernel
def N19 : List Str := ["rows", "xs", "found", "a", "b"]
theorem sc19 : FnScope N19 ["rows", "xs"] (L2.defScope (topS 6)) := ⟨rfl, rfl, rfl, by decide +kernel, rfl, by decide +kernel, by decide +kernel⟩
theorem ck19 : chkSs fn bl N19 (L2.defScope (topS 6)) (fxOf 2 (f19).re) (f19).body (L2.defBody (topS 6)) = true := by decide +kernel
def N20 : List Str := ["rows", "sums", "x", "k"]
theorem sc20 : FnScope N20 ["rows", "sums", "x"] (L2.defScope (topS 16)) := ⟨rfl, rfl, rfl, by decide +kernel, rfl, by decide +kernel, by decide +kernel⟩
theorem ck20 : chkSs fn bl N20 (L2.defScope (topS 16)) (fxOf 3 (f20).re) (f20).body (L2.defBody (topS 16)) = true := by decide +kernel
def N21 : List Str := ["thing"]
theorem sc21 : FnScope N21 ["thing"] (L2.defScope (topS 24)) := ⟨rfl, rfl, rfl, by decide +kernel, rfl, by decide +kernel, by decide +kernel⟩
theorem ck21 : chkSs fn bl N21 (L2.defScope (topS 24)) (fxOf 1 (f21).re) (f21).body (L2.defBody (topS 24)) = true := by decide +kernel
def N22 : List Str := ["thing"]
theorem sc22 : FnScope N22 ["thing"] (L2.defScope (topS 30)) := ⟨rfl, rfl, rfl, by decide +kernel, rfl, by decide +kernel, by decide +kernel⟩
theorem ck22 : chkSs fn bl N22 (L2.defScope (topS 30)) (fxOf 1 (f22).re) (f22).body (L2.defBody (topS 30)) = true := by decide +kernel
def N23 : List Str := ["thing", "many", "one"]
theorem sc23 : FnScope N23 ["thing", "many"] (L2.defScope (topS 31)) := ⟨rfl, rfl, rfl, by decide +kernel, rfl, by decide +kernel, by decide +kernel⟩
theorem ck23 : chkSs fn bl N23 (L2.defScope (topS 31)) (fxOf 2 (f23).re) (f23).body (L2.defBody (topS 31)) = true := by decide +kernel
def N24 : List Str := ["x", "y"]
theorem sc24 : FnScope N24 ["x", "y"] (L2.defScope (topS 29)) := ⟨rfl, rfl, rfl, by decide +kernel, rfl, by decide +kernel, by decide +kernel⟩
theorem ck24 : chkSs fn bl N24 (L2.defScope (topS 29)) (fxOf 2 (f24).re) (f24).body (L2.defBody (topS 29)) = true := by decide +kernel
def N25 : List Str := ["x", "y"]
theorem sc25 : FnScope N25 ["x", "y"] (L2.defScope (topS 28)) := ⟨rfl, rfl, rfl, by decide +kernel, rfl, by decide +kernel, by decide +kernel⟩
theorem ck25 : chkSs fn bl N25 (L2.defScope (topS 28)) (fxOf 2 (f25).re) (f25).body (L2.defBody (topS 28)) = true := by decide +kernel
def N26 : List Str := ["row", "xs", "total", "k"]
theorem sc26 : FnScope N26 ["row", "xs"] (L2.defScope (topS 32)) := ⟨rfl, rfl, rfl, by decide +kernel, rfl, by decide +kernel, by decide +kernel⟩
theorem ck26 : chkSs fn bl N26 (L2.defScope (topS 32)) (fxOf 2 (f26).re) (f26).body (L2.defBody (topS 32)) = true := by decide +kernel
def N27 : List Str := ["rows", "sums", "x", "k"]
theorem sc27 : FnScope N27 ["rows", "sums", "x"] (L2.defScope (topS 38)) := ⟨rfl, rfl, rfl, by decide +kernel, rfl, by decide +kernel, by decide +kernel⟩
theorem ck27 : chkSs fn bl N27 (L2.defScope (topS 38)) (fxOf 3 (f27).re) (f27).body (L2.defBody (topS 38)) = true := by decide +kernel
def N28 : List Str := ["told", "due"]
theorem sc28 : FnScope N28 ["told", "due"] (L2.defScope (topS 26)) := ⟨rfl, rfl, rfl, by decide +kernel, rfl, by decide +kernel, by decide +kernel⟩
theorem ck28 : chkSs fn bl N28 (L2.defScope (topS 26)) (fxOf 2 (f28).re) (f28).body (L2.defBody (topS 26)) = true := by decide +kernel
def N29 : List Str := ["w", "rows", "sums", "row", "y", "i", "j", "a", "b", "k"]
theorem sc29 : FnScope N29 ["w", "rows", "sums"] (L2.defScope (topS 43)) := ⟨rfl, rfl, rfl, by decide +kernel, rfl, by decide +kernel, by decide +kernel⟩
theorem ck29 : chkSs fn bl N29 (L2.defScope (topS 43)) (fxOf 3 (f29).re) (f29).body (L2.defBody (topS 43)) = true := by decide +kernel
def N30 : List Str := ["thing"]
theorem sc30 : FnScope N30 ["thing"] (L2.defScope (topS 12)) := ⟨rfl, rfl, rfl, by decide +kernel, rfl, by decide +kernel, by decide +kernel⟩
theorem ck30 : chkSs fn bl N30 (L2.defScope (topS 12)) (fxOf 1 (f30).re) (f30).body (L2.defBody (topS 12)) = true := by decide +kernel
def N31 : List Str := ["thing", "many", "one"]
theorem sc31 : FnScope N31 ["thing", "many"] (L2.defScope (topS 13)) := ⟨rfl, rfl, rfl, by decide +kernel, rfl, by decide +kernel, by decide +kernel⟩
theorem ck31 : chkSs fn bl N31 (L2.defScope (topS 13)) (fxOf 2 (f31).re) (f31).body (L2.defBody (topS 13)) = true := by decide +kernel
def N32 : List Str := ["numbers", "number"]
theorem sc32 : FnScope N32 ["numbers"] (L2.defScope (topS 9)) := ⟨rfl, rfl, rfl, by decide +kernel, rfl, by decide +kernel, by decide +kernel⟩
theorem ck32 : chkSs fn bl N32 (L2.defScope (topS 9)) (fxOf 1 (f32).re) (f32).body (L2.defBody (topS 9)) = true := by decide +kernel
def N33 : List Str := ["rows", "ys", "width", "k", "row"]
theorem sc33 : FnScope N33 ["rows", "ys"] (L2.defScope (topS 10)) := ⟨rfl, rfl, rfl, by decide +kernel, rfl, by decide +kernel, by decide +kernel⟩
theorem ck33 : chkSs fn bl N33 (L2.defScope (topS 10)) (fxOf 2 (f33).re) (f33).body (L2.defBody (topS 10)) = true := by decide +kernel
def N34 : List Str := ["rows", "sums", "y", "ys", "one"]
theorem sc34 : FnScope N34 ["rows", "sums", "y"] (L2.defScope (topS 17)) := ⟨rfl, rfl, rfl, by decide +kernel, rfl, by decide +kernel, by decide +kernel⟩
theorem ck34 : chkSs fn bl N34 (L2.defScope (topS 17)) (fxOf 3 (f34).re) (f34).body (L2.defBody (topS 17)) = true := by decide +kernel
def N35 : List Str := ["thing", "one"]
theorem sc35 : FnScope N35 ["thing"] (L2.defScope (topS 25)) := ⟨rfl, rfl, rfl, by decide +kernel, rfl, by decide +kernel, by decide +kernel⟩
theorem ck35 : chkSs fn bl N35 (L2.defScope (topS 25)) (fxOf 1 (f35).re) (f35).body (L2.defBody (topS 25)) = true := by decide +kernel
def N36 : List Str := ["xs", "n"]
theorem sc36 : FnScope N36 ["xs"] (L2.defScope (topS 37)) := ⟨rfl, rfl, rfl, by decide +kernel, rfl, by decide +kernel, by decide +kernel⟩
theorem ck36 : chkSs fn bl N36 (L2.defScope (topS 37)) (fxOf 1 (f36).re) (f36).body (L2.defBody (topS 37)) = true := by decide +kernel
def N37 : List Str := ["rows", "k", "row"]
theorem sc37 : FnScope N37 ["rows", "k"] (L2.defScope (topS 33)) := ⟨rfl, rfl, rfl, by decide +kernel, rfl, by decide +kernel, by decide +kernel⟩
theorem ck37 : chkSs fn bl N37 (L2.defScope (topS 33)) (fxOf 2 (f37).re) (f37).body (L2.defBody (topS 33)) = true := by decide +kernel
def N38 : List Str := ["rows", "sums", "y", "ys", "k"]
theorem sc38 : FnScope N38 ["rows", "sums", "y"] (L2.defScope (topS 39)) := ⟨rfl, rfl, rfl, by decide +kernel, rfl, by decide +kernel, by decide +kernel⟩
theorem ck38 : chkSs fn bl N38 (L2.defScope (topS 39)) (fxOf 3 (f38).re) (f38).body (L2.defBody (topS 39)) = true := by decide +kernel
def N39 : List Str := ["w", "rows", "sums", "y", "k", "d", "n"]
theorem sc39 : FnScope N39 ["w", "rows", "sums"] (L2.defScope (topS 44)) := ⟨rfl, rfl, rfl, by decide +kernel, rfl, by decide +kernel, by decide +kernel⟩
theorem ck39 : chkSs fn bl N39 (L2.defScope (topS 44)) (fxOf 3 (f39).re) (f39).body (L2.defBody (topS 44)) = true := by decide +kernel
def N40 : List Str := ["rows", "sums", "y", "one"]
theorem sc40 : FnScope N40 ["rows", "sums", "y"] (L2.defScope (topS 19)) := ⟨rfl, rfl, rfl, by decide +kernel, rfl, by decide +kernel, by decide +kernel⟩
theorem ck40 : chkSs fn bl N40 (L2.defScope (topS 19)) (fxOf 3 (f40).re) (f40).body (L2.defBody (topS 19)) = true := by decide +kernel
def N41 : List Str := ["rows", "sums", "y", "k"]
theorem sc41 : FnScope N41 ["rows", "sums", "y"] (L2.defScope (topS 40)) := ⟨rfl, rfl, rfl, by decide +kernel, rfl, by decide +kernel, by decide +kernel⟩
theorem ck41 : chkSs fn bl N41 (L2.defScope (topS 40)) (fxOf 3 (f41).re) (f41).body (L2.defBody (topS 40)) = true := by decide +kernel
def N42 : List Str := ["script", "w", "turn", "one", "rows", "sums", "x", "wide", "more", "y", "often", "others", "n", "d"]
theorem sc42 : FnScope N42 ["script"] (L2.defScope (topS 45)) := ⟨rfl, rfl, rfl, by decide +kernel, rfl, by decide +kernel, by decide +kernel⟩
theorem ck42 : chkSs fn bl N42 (L2.defScope (topS 45)) (fxOf 1 (f42).re) (f42).body (L2.defBody (topS 45)) = true := by decide +kernel
section
variable {K : PySem.W.Frag} {h : Heap} {mg : Str → Option Value} {f : Addr} {oc : Value} {od an : Option Addr} {osl : Array (Option Value)} {kV doc pm cdv ct : Value}
theorem at0 (X : K.In h) (G : h.Ns mainGlobals mg) (a : PySem.W.nsIn K mainGlobals "_law_draws" = some (some (.ref f)))
    (l : K.lookup f = some ⟨oc, od, .func (PySem.W.fnOf "_law_draws" "_law_draws" (L2.defArgs (topS 21)) (L2.defBody (topS 21)) (L2.defScope (topS 21)) .none kV doc pm an cdv ct), osl⟩) (c : PySem.W.codeIn K cdv "_law_draws" = true) (k : PySem.W.keepIn K (.ref f) = true) : FnAt fn bl K mg "_law_draws" 2 f0 :=
  fnAt_mk X G sc0 (fun _ _ _ _ _ _ us hl => match us, hl with | [_, _], _ => rfl) rfl rfl rfl (by decide) ck0 a l c k
theorem at1 (X : K.In h) (G : h.Ns mainGlobals mg) (a : PySem.W.nsIn K mainGlobals "_law_next" = some (some (.ref f)))
    (l : K.lookup f = some ⟨oc, od, .func (PySem.W.fnOf "_law_next" "_law_next" (L2.defArgs (topS 22)) (L2.defBody (topS 22)) (L2.defScope (topS 22)) .none kV doc pm an cdv ct), osl⟩) (c : PySem.W.codeIn K cdv "_law_next" = true) (k : PySem.W.keepIn K (.ref f) = true) : FnAt fn bl K mg "_law_next" 2 f1 :=
  fnAt_mk X G sc1 (fun _ _ _ _ _ _ us hl => match us, hl with | [_, _], _ => rfl) rfl rfl rfl (by decide) ck1 a l c k
theorem at2 (X : K.In h) (G : h.Ns mainGlobals mg) (a : PySem.W.nsIn K mainGlobals "_law_pick" = some (some (.ref f)))
    (l : K.lookup f = some ⟨oc, od, .func (PySem.W.fnOf "_law_pick" "_law_pick" (L2.defArgs (topS 23)) (L2.defBody (topS 23)) (L2.defScope (topS 23)) .none kV doc pm an cdv ct), osl⟩) (c : PySem.W.codeIn K cdv "_law_pick" = true) (k : PySem.W.keepIn K (.ref f) = true) : FnAt fn bl K mg "_law_pick" 2 f2 :=
  fnAt_mk X G sc2 (fun _ _ _ _ _ _ us hl => match us, hl with | [_, _], _ => rfl) rfl rfl rfl (by decide) ck2 a l c k
theorem at3 (X : K.In h) (G : h.Ns mainGlobals mg) (a : PySem.W.nsIn K mainGlobals "_law_rows" = some (some (.ref f)))
    (l : K.lookup f = some ⟨oc, od, .func (PySem.W.fnOf "_law_rows" "_law_rows" (L2.defArgs (topS 34)) (L2.defBody (topS 34)) (L2.defScope (topS 34)) .none kV doc pm an cdv ct), osl⟩) (c : PySem.W.codeIn K cdv "_law_rows" = true) (k : PySem.W.keepIn K (.ref f) = true) : FnAt fn bl K mg "_law_rows" 3 f3 :=
  fnAt_mk X G sc3 (fun _ _ _ _ _ _ us hl => match us, hl with | [_, _, _], _ => rfl) rfl rfl rfl (by decide) ck3 a l c k
theorem at4 (X : K.In h) (G : h.Ns mainGlobals mg) (a : PySem.W.nsIn K mainGlobals "_law_whole" = some (some (.ref f)))
    (l : K.lookup f = some ⟨oc, od, .func (PySem.W.fnOf "_law_whole" "_law_whole" (L2.defArgs (topS 36)) (L2.defBody (topS 36)) (L2.defScope (topS 36)) .none kV doc pm an cdv ct), osl⟩) (c : PySem.W.codeIn K cdv "_law_whole" = true) (k : PySem.W.keepIn K (.ref f) = true) : FnAt fn bl K mg "_law_whole" 2 f4 :=
  fnAt_mk X G sc4 (fun _ _ _ _ _ _ us hl => match us, hl with | [_, _], _ => rfl) rfl rfl rfl (by decide) ck4 a l c k
theorem at5 (X : K.In h) (G : h.Ns mainGlobals mg) (a : PySem.W.nsIn K mainGlobals "_law_sums" = some (some (.ref f)))
    (l : K.lookup f = some ⟨oc, od, .func (PySem.W.fnOf "_law_sums" "_law_sums" (L2.defArgs (topS 35)) (L2.defBody (topS 35)) (L2.defScope (topS 35)) .none kV doc pm an cdv ct), osl⟩) (c : PySem.W.codeIn K cdv "_law_sums" = true) (k : PySem.W.keepIn K (.ref f) = true) : FnAt fn bl K mg "_law_sums" 2 f5 :=
  fnAt_mk X G sc5 (fun _ _ _ _ _ _ us hl => match us, hl with | [_, _], _ => rfl) rfl rfl rfl (by decide) ck5 a l c k
theorem at6 (X : K.In h) (G : h.Ns mainGlobals mg) (a : PySem.W.nsIn K mainGlobals "_law_low" = some (some (.ref f)))
    (l : K.lookup f = some ⟨oc, od, .func (PySem.W.fnOf "_law_low" "_law_low" (L2.defArgs (topS 27)) (L2.defBody (topS 27)) (L2.defScope (topS 27)) .none kV doc pm an cdv ct), osl⟩) (c : PySem.W.codeIn K cdv "_law_low" = true) (k : PySem.W.keepIn K (.ref f) = true) : FnAt fn bl K mg "_law_low" 2 f6 :=
  fnAt_mk X G sc6 (fun _ _ _ _ _ _ us hl => match us, hl with | [_, _], _ => rfl) rfl rfl rfl (by decide) ck6 a l c k
theorem at7 (X : K.In h) (G : h.Ns mainGlobals mg) (a : PySem.W.nsIn K mainGlobals "_law_parted" = some (some (.ref f)))
    (l : K.lookup f = some ⟨oc, od, .func (PySem.W.fnOf "_law_parted" "_law_parted" (L2.defArgs (topS 42)) (L2.defBody (topS 42)) (L2.defScope (topS 42)) .none kV doc pm an cdv ct), osl⟩) (c : PySem.W.codeIn K cdv "_law_parted" = true) (k : PySem.W.keepIn K (.ref f) = true) : FnAt fn bl K mg "_law_parted" 1 f7 :=
  fnAt_mk X G sc7 (fun _ _ _ _ _ _ us hl => match us, hl with | [_], _ => rfl) rfl rfl rfl (by decide) ck7 a l c k
theorem at8 (X : K.In h) (G : h.Ns mainGlobals mg) (a : PySem.W.nsIn K mainGlobals "_law_pick" = some (some (.ref f)))
    (l : K.lookup f = some ⟨oc, od, .func (PySem.W.fnOf "_law_pick" "_law_pick" (L2.defArgs (topS 23)) (L2.defBody (topS 23)) (L2.defScope (topS 23)) .none kV doc pm an cdv ct), osl⟩) (c : PySem.W.codeIn K cdv "_law_pick" = true) (k : PySem.W.keepIn K (.ref f) = true) : FnAt fn bl K mg "_law_pick" 2 f8 :=
  fnAt_mk X G sc8 (fun _ _ _ _ _ _ us hl => match us, hl with | [_, _], _ => rfl) rfl rfl rfl (by decide) ck8 a l c k
theorem at9 (X : K.In h) (G : h.Ns mainGlobals mg) (a : PySem.W.nsIn K mainGlobals "_law_bent" = some (some (.ref f)))
    (l : K.lookup f = some ⟨oc, od, .func (PySem.W.fnOf "_law_bent" "_law_bent" (L2.defArgs (topS 41)) (L2.defBody (topS 41)) (L2.defScope (topS 41)) .none kV doc pm an cdv ct), osl⟩) (c : PySem.W.codeIn K cdv "_law_bent" = true) (k : PySem.W.keepIn K (.ref f) = true) : FnAt fn bl K mg "_law_bent" 2 f9 :=
  fnAt_mk X G sc9 (fun _ _ _ _ _ _ us hl => match us, hl with | [_, _], _ => rfl) rfl rfl rfl (by decide) ck9 a l c k
theorem at10 (X : K.In h) (G : h.Ns mainGlobals mg) (a : PySem.W.nsIn K mainGlobals "width_of" = some (some (.ref f)))
    (l : K.lookup f = some ⟨oc, od, .func (PySem.W.fnOf "width_of" "width_of" (L2.defArgs (topS 15)) (L2.defBody (topS 15)) (L2.defScope (topS 15)) .none kV doc pm an cdv ct), osl⟩) (c : PySem.W.codeIn K cdv "width_of" = true) (k : PySem.W.keepIn K (.ref f) = true) : FnAt fn bl K mg "width_of" 1 f10 :=
  fnAt_mk X G sc10 (fun _ _ _ _ _ _ us hl => match us, hl with | [_], _ => rfl) rfl rfl rfl (by decide) ck10 a l c k
theorem at11 (X : K.In h) (G : h.Ns mainGlobals mg) (a : PySem.W.nsIn K mainGlobals "divisor" = some (some (.ref f)))
    (l : K.lookup f = some ⟨oc, od, .func (PySem.W.fnOf "divisor" "divisor" (L2.defArgs (topS 1)) (L2.defBody (topS 1)) (L2.defScope (topS 1)) .none kV doc pm an cdv ct), osl⟩) (c : PySem.W.codeIn K cdv "divisor" = true) (k : PySem.W.keepIn K (.ref f) = true) : FnAt fn bl K mg "divisor" 2 f11 :=
  fnAt_mk X G sc11 (fun _ _ _ _ _ _ us hl => match us, hl with | [_, _], _ => rfl) rfl rfl rfl (by decide) ck11 a l c k
theorem at12 (X : K.In h) (G : h.Ns mainGlobals mg) (a : PySem.W.nsIn K mainGlobals "is_fraction" = some (some (.ref f)))
    (l : K.lookup f = some ⟨oc, od, .func (PySem.W.fnOf "is_fraction" "is_fraction" (L2.defArgs (topS 7)) (L2.defBody (topS 7)) (L2.defScope (topS 7)) .none kV doc pm an cdv ct), osl⟩) (c : PySem.W.codeIn K cdv "is_fraction" = true) (k : PySem.W.keepIn K (.ref f) = true) : FnAt fn bl K mg "is_fraction" 1 f12 :=
  fnAt_mk X G sc12 (fun _ _ _ _ _ _ us hl => match us, hl with | [_], _ => rfl) rfl rfl rfl (by decide) ck12 a l c k
theorem at13 (X : K.In h) (G : h.Ns mainGlobals mg) (a : PySem.W.nsIn K mainGlobals "are_fractions" = some (some (.ref f)))
    (l : K.lookup f = some ⟨oc, od, .func (PySem.W.fnOf "are_fractions" "are_fractions" (L2.defArgs (topS 8)) (L2.defBody (topS 8)) (L2.defScope (topS 8)) .none kV doc pm an cdv ct), osl⟩) (c : PySem.W.codeIn K cdv "are_fractions" = true) (k : PySem.W.keepIn K (.ref f) = true) : FnAt fn bl K mg "are_fractions" 2 f13 :=
  fnAt_mk X G sc13 (fun _ _ _ _ _ _ us hl => match us, hl with | [_, _], _ => rfl) rfl rfl rfl (by decide) ck13 a l c k
theorem at14 (X : K.In h) (G : h.Ns mainGlobals mg) (a : PySem.W.nsIn K mainGlobals "whole" = some (some (.ref f)))
    (l : K.lookup f = some ⟨oc, od, .func (PySem.W.fnOf "whole" "whole" (L2.defArgs (topS 3)) (L2.defBody (topS 3)) (L2.defScope (topS 3)) .none kV doc pm an cdv ct), osl⟩) (c : PySem.W.codeIn K cdv "whole" = true) (k : PySem.W.keepIn K (.ref f) = true) : FnAt fn bl K mg "whole" 1 f14 :=
  fnAt_mk X G sc14 (fun _ _ _ _ _ _ us hl => match us, hl with | [_], _ => rfl) rfl rfl rfl (by decide) ck14 a l c k
theorem at15 (X : K.In h) (G : h.Ns mainGlobals mg) (a : PySem.W.nsIn K mainGlobals "wholes" = some (some (.ref f)))
    (l : K.lookup f = some ⟨oc, od, .func (PySem.W.fnOf "wholes" "wholes" (L2.defArgs (topS 9)) (L2.defBody (topS 9)) (L2.defScope (topS 9)) .none kV doc pm an cdv ct), osl⟩) (c : PySem.W.codeIn K cdv "wholes" = true) (k : PySem.W.keepIn K (.ref f) = true) : FnAt fn bl K mg "wholes" 1 f15 :=
  fnAt_mk X G sc15 (fun _ _ _ _ _ _ us hl => match us, hl with | [_], _ => rfl) rfl rfl rfl (by decide) ck15 a l c k
theorem at16 (X : K.In h) (G : h.Ns mainGlobals mg) (a : PySem.W.nsIn K mainGlobals "lowest" = some (some (.ref f)))
    (l : K.lookup f = some ⟨oc, od, .func (PySem.W.fnOf "lowest" "lowest" (L2.defArgs (topS 2)) (L2.defBody (topS 2)) (L2.defScope (topS 2)) .none kV doc pm an cdv ct), osl⟩) (c : PySem.W.codeIn K cdv "lowest" = true) (k : PySem.W.keepIn K (.ref f) = true) : FnAt fn bl K mg "lowest" 2 f16 :=
  fnAt_mk X G sc16 (fun _ _ _ _ _ _ us hl => match us, hl with | [_, _], _ => rfl) rfl rfl rfl (by decide) ck16 a l c k
theorem at17 (X : K.In h) (G : h.Ns mainGlobals mg) (a : PySem.W.nsIn K mainGlobals "times" = some (some (.ref f)))
    (l : K.lookup f = some ⟨oc, od, .func (PySem.W.fnOf "times" "times" (L2.defArgs (topS 5)) (L2.defBody (topS 5)) (L2.defScope (topS 5)) .none kV doc pm an cdv ct), osl⟩) (c : PySem.W.codeIn K cdv "times" = true) (k : PySem.W.keepIn K (.ref f) = true) : FnAt fn bl K mg "times" 2 f17 :=
  fnAt_mk X G sc17 (fun _ _ _ _ _ _ us hl => match us, hl with | [_, _], _ => rfl) rfl rfl rfl (by decide) ck17 a l c k
theorem at18 (X : K.In h) (G : h.Ns mainGlobals mg) (a : PySem.W.nsIn K mainGlobals "plus" = some (some (.ref f)))
    (l : K.lookup f = some ⟨oc, od, .func (PySem.W.fnOf "plus" "plus" (L2.defArgs (topS 4)) (L2.defBody (topS 4)) (L2.defScope (topS 4)) .none kV doc pm an cdv ct), osl⟩) (c : PySem.W.codeIn K cdv "plus" = true) (k : PySem.W.keepIn K (.ref f) = true) : FnAt fn bl K mg "plus" 2 f18 :=
  fnAt_mk X G sc18 (fun _ _ _ _ _ _ us hl => match us, hl with | [_, _], _ => rfl) rfl rfl rfl (by decide) ck18 a l c k
theorem at19 (X : K.In h) (G : h.Ns mainGlobals mg) (a : PySem.W.nsIn K mainGlobals "dot" = some (some (.ref f)))
    (l : K.lookup f = some ⟨oc, od, .func (PySem.W.fnOf "dot" "dot" (L2.defArgs (topS 6)) (L2.defBody (topS 6)) (L2.defScope (topS 6)) .none kV doc pm an cdv ct), osl⟩) (c : PySem.W.codeIn K cdv "dot" = true) (k : PySem.W.keepIn K (.ref f) = true) : FnAt fn bl K mg "dot" 2 f19 :=
  fnAt_mk X G sc19 (fun _ _ _ _ _ _ us hl => match us, hl with | [_, _], _ => rfl) rfl rfl rfl (by decide) ck19 a l c k
theorem at20 (X : K.In h) (G : h.Ns mainGlobals mg) (a : PySem.W.nsIn K mainGlobals "is_solution" = some (some (.ref f)))
    (l : K.lookup f = some ⟨oc, od, .func (PySem.W.fnOf "is_solution" "is_solution" (L2.defArgs (topS 16)) (L2.defBody (topS 16)) (L2.defScope (topS 16)) .none kV doc pm an cdv ct), osl⟩) (c : PySem.W.codeIn K cdv "is_solution" = true) (k : PySem.W.keepIn K (.ref f) = true) : FnAt fn bl K mg "is_solution" 3 f20 :=
  fnAt_mk X G sc20 (fun _ _ _ _ _ _ us hl => match us, hl with | [_, _, _], _ => rfl) rfl rfl rfl (by decide) ck20 a l c k
theorem at21 (X : K.In h) (G : h.Ns mainGlobals mg) (a : PySem.W.nsIn K mainGlobals "_law_is_number" = some (some (.ref f)))
    (l : K.lookup f = some ⟨oc, od, .func (PySem.W.fnOf "_law_is_number" "_law_is_number" (L2.defArgs (topS 24)) (L2.defBody (topS 24)) (L2.defScope (topS 24)) .none kV doc pm an cdv ct), osl⟩) (c : PySem.W.codeIn K cdv "_law_is_number" = true) (k : PySem.W.keepIn K (.ref f) = true) : FnAt fn bl K mg "_law_is_number" 1 f21 :=
  fnAt_mk X G sc21 (fun _ _ _ _ _ _ us hl => match us, hl with | [_], _ => rfl) rfl rfl rfl (by decide) ck21 a l c k
theorem at22 (X : K.In h) (G : h.Ns mainGlobals mg) (a : PySem.W.nsIn K mainGlobals "_law_is_fraction" = some (some (.ref f)))
    (l : K.lookup f = some ⟨oc, od, .func (PySem.W.fnOf "_law_is_fraction" "_law_is_fraction" (L2.defArgs (topS 30)) (L2.defBody (topS 30)) (L2.defScope (topS 30)) .none kV doc pm an cdv ct), osl⟩) (c : PySem.W.codeIn K cdv "_law_is_fraction" = true) (k : PySem.W.keepIn K (.ref f) = true) : FnAt fn bl K mg "_law_is_fraction" 1 f22 :=
  fnAt_mk X G sc22 (fun _ _ _ _ _ _ us hl => match us, hl with | [_], _ => rfl) rfl rfl rfl (by decide) ck22 a l c k
theorem at23 (X : K.In h) (G : h.Ns mainGlobals mg) (a : PySem.W.nsIn K mainGlobals "_law_is_fractions" = some (some (.ref f)))
    (l : K.lookup f = some ⟨oc, od, .func (PySem.W.fnOf "_law_is_fractions" "_law_is_fractions" (L2.defArgs (topS 31)) (L2.defBody (topS 31)) (L2.defScope (topS 31)) .none kV doc pm an cdv ct), osl⟩) (c : PySem.W.codeIn K cdv "_law_is_fractions" = true) (k : PySem.W.keepIn K (.ref f) = true) : FnAt fn bl K mg "_law_is_fractions" 2 f23 :=
  fnAt_mk X G sc23 (fun _ _ _ _ _ _ us hl => match us, hl with | [_, _], _ => rfl) rfl rfl rfl (by decide) ck23 a l c k
theorem at24 (X : K.In h) (G : h.Ns mainGlobals mg) (a : PySem.W.nsIn K mainGlobals "_law_mul" = some (some (.ref f)))
    (l : K.lookup f = some ⟨oc, od, .func (PySem.W.fnOf "_law_mul" "_law_mul" (L2.defArgs (topS 29)) (L2.defBody (topS 29)) (L2.defScope (topS 29)) .none kV doc pm an cdv ct), osl⟩) (c : PySem.W.codeIn K cdv "_law_mul" = true) (k : PySem.W.keepIn K (.ref f) = true) : FnAt fn bl K mg "_law_mul" 2 f24 :=
  fnAt_mk X G sc24 (fun _ _ _ _ _ _ us hl => match us, hl with | [_, _], _ => rfl) rfl rfl rfl (by decide) ck24 a l c k
theorem at25 (X : K.In h) (G : h.Ns mainGlobals mg) (a : PySem.W.nsIn K mainGlobals "_law_add" = some (some (.ref f)))
    (l : K.lookup f = some ⟨oc, od, .func (PySem.W.fnOf "_law_add" "_law_add" (L2.defArgs (topS 28)) (L2.defBody (topS 28)) (L2.defScope (topS 28)) .none kV doc pm an cdv ct), osl⟩) (c : PySem.W.codeIn K cdv "_law_add" = true) (k : PySem.W.keepIn K (.ref f) = true) : FnAt fn bl K mg "_law_add" 2 f25 :=
  fnAt_mk X G sc25 (fun _ _ _ _ _ _ us hl => match us, hl with | [_, _], _ => rfl) rfl rfl rfl (by decide) ck25 a l c k
theorem at26 (X : K.In h) (G : h.Ns mainGlobals mg) (a : PySem.W.nsIn K mainGlobals "_law_dot" = some (some (.ref f)))
    (l : K.lookup f = some ⟨oc, od, .func (PySem.W.fnOf "_law_dot" "_law_dot" (L2.defArgs (topS 32)) (L2.defBody (topS 32)) (L2.defScope (topS 32)) .none kV doc pm an cdv ct), osl⟩) (c : PySem.W.codeIn K cdv "_law_dot" = true) (k : PySem.W.keepIn K (.ref f) = true) : FnAt fn bl K mg "_law_dot" 2 f26 :=
  fnAt_mk X G sc26 (fun _ _ _ _ _ _ us hl => match us, hl with | [_, _], _ => rfl) rfl rfl rfl (by decide) ck26 a l c k
theorem at27 (X : K.In h) (G : h.Ns mainGlobals mg) (a : PySem.W.nsIn K mainGlobals "_law_is_solution" = some (some (.ref f)))
    (l : K.lookup f = some ⟨oc, od, .func (PySem.W.fnOf "_law_is_solution" "_law_is_solution" (L2.defArgs (topS 38)) (L2.defBody (topS 38)) (L2.defScope (topS 38)) .none kV doc pm an cdv ct), osl⟩) (c : PySem.W.codeIn K cdv "_law_is_solution" = true) (k : PySem.W.keepIn K (.ref f) = true) : FnAt fn bl K mg "_law_is_solution" 3 f27 :=
  fnAt_mk X G sc27 (fun _ _ _ _ _ _ us hl => match us, hl with | [_, _, _], _ => rfl) rfl rfl rfl (by decide) ck27 a l c k
theorem at28 (X : K.In h) (G : h.Ns mainGlobals mg) (a : PySem.W.nsIn K mainGlobals "_law_same" = some (some (.ref f)))
    (l : K.lookup f = some ⟨oc, od, .func (PySem.W.fnOf "_law_same" "_law_same" (L2.defArgs (topS 26)) (L2.defBody (topS 26)) (L2.defScope (topS 26)) .none kV doc pm an cdv ct), osl⟩) (c : PySem.W.codeIn K cdv "_law_same" = true) (k : PySem.W.keepIn K (.ref f) = true) : FnAt fn bl K mg "_law_same" 2 f28 :=
  fnAt_mk X G sc28 (fun _ _ _ _ _ _ us hl => match us, hl with | [_, _], _ => rfl) rfl rfl rfl (by decide) ck28 a l c k
theorem at29 (X : K.In h) (G : h.Ns mainGlobals mg) (a : PySem.W.nsIn K mainGlobals "_law_more" = some (some (.ref f)))
    (l : K.lookup f = some ⟨oc, od, .func (PySem.W.fnOf "_law_more" "_law_more" (L2.defArgs (topS 43)) (L2.defBody (topS 43)) (L2.defScope (topS 43)) .none kV doc pm an cdv ct), osl⟩) (c : PySem.W.codeIn K cdv "_law_more" = true) (k : PySem.W.keepIn K (.ref f) = true) : FnAt fn bl K mg "_law_more" 3 f29 :=
  fnAt_mk X G sc29 (fun _ _ _ _ _ _ us hl => match us, hl with | [_, _, _], _ => rfl) rfl rfl rfl (by decide) ck29 a l c k
theorem at30 (X : K.In h) (G : h.Ns mainGlobals mg) (a : PySem.W.nsIn K mainGlobals "is_number" = some (some (.ref f)))
    (l : K.lookup f = some ⟨oc, od, .func (PySem.W.fnOf "is_number" "is_number" (L2.defArgs (topS 12)) (L2.defBody (topS 12)) (L2.defScope (topS 12)) .none kV doc pm an cdv ct), osl⟩) (c : PySem.W.codeIn K cdv "is_number" = true) (k : PySem.W.keepIn K (.ref f) = true) : FnAt fn bl K mg "is_number" 1 f30 :=
  fnAt_mk X G sc30 (fun _ _ _ _ _ _ us hl => match us, hl with | [_], _ => rfl) rfl rfl rfl (by decide) ck30 a l c k
theorem at31 (X : K.In h) (G : h.Ns mainGlobals mg) (a : PySem.W.nsIn K mainGlobals "is_numbers" = some (some (.ref f)))
    (l : K.lookup f = some ⟨oc, od, .func (PySem.W.fnOf "is_numbers" "is_numbers" (L2.defArgs (topS 13)) (L2.defBody (topS 13)) (L2.defScope (topS 13)) .none kV doc pm an cdv ct), osl⟩) (c : PySem.W.codeIn K cdv "is_numbers" = true) (k : PySem.W.keepIn K (.ref f) = true) : FnAt fn bl K mg "is_numbers" 2 f31 :=
  fnAt_mk X G sc31 (fun _ _ _ _ _ _ us hl => match us, hl with | [_, _], _ => rfl) rfl rfl rfl (by decide) ck31 a l c k
theorem at32 (X : K.In h) (G : h.Ns mainGlobals mg) (a : PySem.W.nsIn K mainGlobals "wholes" = some (some (.ref f)))
    (l : K.lookup f = some ⟨oc, od, .func (PySem.W.fnOf "wholes" "wholes" (L2.defArgs (topS 9)) (L2.defBody (topS 9)) (L2.defScope (topS 9)) .none kV doc pm an cdv ct), osl⟩) (c : PySem.W.codeIn K cdv "wholes" = true) (k : PySem.W.keepIn K (.ref f) = true) : FnAt fn bl K mg "wholes" 1 f32 :=
  fnAt_mk X G sc32 (fun _ _ _ _ _ _ us hl => match us, hl with | [_], _ => rfl) rfl rfl rfl (by decide) ck32 a l c k
theorem at33 (X : K.In h) (G : h.Ns mainGlobals mg) (a : PySem.W.nsIn K mainGlobals "summed" = some (some (.ref f)))
    (l : K.lookup f = some ⟨oc, od, .func (PySem.W.fnOf "summed" "summed" (L2.defArgs (topS 10)) (L2.defBody (topS 10)) (L2.defScope (topS 10)) .none kV doc pm an cdv ct), osl⟩) (c : PySem.W.codeIn K cdv "summed" = true) (k : PySem.W.keepIn K (.ref f) = true) : FnAt fn bl K mg "summed" 2 f33 :=
  fnAt_mk X G sc33 (fun _ _ _ _ _ _ us hl => match us, hl with | [_, _], _ => rfl) rfl rfl rfl (by decide) ck33 a l c k
theorem at34 (X : K.In h) (G : h.Ns mainGlobals mg) (a : PySem.W.nsIn K mainGlobals "is_no_solution" = some (some (.ref f)))
    (l : K.lookup f = some ⟨oc, od, .func (PySem.W.fnOf "is_no_solution" "is_no_solution" (L2.defArgs (topS 17)) (L2.defBody (topS 17)) (L2.defScope (topS 17)) .none kV doc pm an cdv ct), osl⟩) (c : PySem.W.codeIn K cdv "is_no_solution" = true) (k : PySem.W.keepIn K (.ref f) = true) : FnAt fn bl K mg "is_no_solution" 3 f34 :=
  fnAt_mk X G sc34 (fun _ _ _ _ _ _ us hl => match us, hl with | [_, _, _], _ => rfl) rfl rfl rfl (by decide) ck34 a l c k
theorem at35 (X : K.In h) (G : h.Ns mainGlobals mg) (a : PySem.W.nsIn K mainGlobals "_law_is_numbers" = some (some (.ref f)))
    (l : K.lookup f = some ⟨oc, od, .func (PySem.W.fnOf "_law_is_numbers" "_law_is_numbers" (L2.defArgs (topS 25)) (L2.defBody (topS 25)) (L2.defScope (topS 25)) .none kV doc pm an cdv ct), osl⟩) (c : PySem.W.codeIn K cdv "_law_is_numbers" = true) (k : PySem.W.keepIn K (.ref f) = true) : FnAt fn bl K mg "_law_is_numbers" 1 f35 :=
  fnAt_mk X G sc35 (fun _ _ _ _ _ _ us hl => match us, hl with | [_], _ => rfl) rfl rfl rfl (by decide) ck35 a l c k
theorem at36 (X : K.In h) (G : h.Ns mainGlobals mg) (a : PySem.W.nsIn K mainGlobals "_law_wholes" = some (some (.ref f)))
    (l : K.lookup f = some ⟨oc, od, .func (PySem.W.fnOf "_law_wholes" "_law_wholes" (L2.defArgs (topS 37)) (L2.defBody (topS 37)) (L2.defScope (topS 37)) .none kV doc pm an cdv ct), osl⟩) (c : PySem.W.codeIn K cdv "_law_wholes" = true) (k : PySem.W.keepIn K (.ref f) = true) : FnAt fn bl K mg "_law_wholes" 1 f36 :=
  fnAt_mk X G sc36 (fun _ _ _ _ _ _ us hl => match us, hl with | [_], _ => rfl) rfl rfl rfl (by decide) ck36 a l c k
theorem at37 (X : K.In h) (G : h.Ns mainGlobals mg) (a : PySem.W.nsIn K mainGlobals "_law_column" = some (some (.ref f)))
    (l : K.lookup f = some ⟨oc, od, .func (PySem.W.fnOf "_law_column" "_law_column" (L2.defArgs (topS 33)) (L2.defBody (topS 33)) (L2.defScope (topS 33)) .none kV doc pm an cdv ct), osl⟩) (c : PySem.W.codeIn K cdv "_law_column" = true) (k : PySem.W.keepIn K (.ref f) = true) : FnAt fn bl K mg "_law_column" 2 f37 :=
  fnAt_mk X G sc37 (fun _ _ _ _ _ _ us hl => match us, hl with | [_, _], _ => rfl) rfl rfl rfl (by decide) ck37 a l c k
theorem at38 (X : K.In h) (G : h.Ns mainGlobals mg) (a : PySem.W.nsIn K mainGlobals "_law_is_no_solution" = some (some (.ref f)))
    (l : K.lookup f = some ⟨oc, od, .func (PySem.W.fnOf "_law_is_no_solution" "_law_is_no_solution" (L2.defArgs (topS 39)) (L2.defBody (topS 39)) (L2.defScope (topS 39)) .none kV doc pm an cdv ct), osl⟩) (c : PySem.W.codeIn K cdv "_law_is_no_solution" = true) (k : PySem.W.keepIn K (.ref f) = true) : FnAt fn bl K mg "_law_is_no_solution" 3 f38 :=
  fnAt_mk X G sc38 (fun _ _ _ _ _ _ us hl => match us, hl with | [_, _, _], _ => rfl) rfl rfl rfl (by decide) ck38 a l c k
theorem at39 (X : K.In h) (G : h.Ns mainGlobals mg) (a : PySem.W.nsIn K mainGlobals "_law_times" = some (some (.ref f)))
    (l : K.lookup f = some ⟨oc, od, .func (PySem.W.fnOf "_law_times" "_law_times" (L2.defArgs (topS 44)) (L2.defBody (topS 44)) (L2.defScope (topS 44)) .none kV doc pm an cdv ct), osl⟩) (c : PySem.W.codeIn K cdv "_law_times" = true) (k : PySem.W.keepIn K (.ref f) = true) : FnAt fn bl K mg "_law_times" 3 f39 :=
  fnAt_mk X G sc39 (fun _ _ _ _ _ _ us hl => match us, hl with | [_, _, _], _ => rfl) rfl rfl rfl (by decide) ck39 a l c k
theorem at40 (X : K.In h) (G : h.Ns mainGlobals mg) (a : PySem.W.nsIn K mainGlobals "is_no_whole" = some (some (.ref f)))
    (l : K.lookup f = some ⟨oc, od, .func (PySem.W.fnOf "is_no_whole" "is_no_whole" (L2.defArgs (topS 19)) (L2.defBody (topS 19)) (L2.defScope (topS 19)) .none kV doc pm an cdv ct), osl⟩) (c : PySem.W.codeIn K cdv "is_no_whole" = true) (k : PySem.W.keepIn K (.ref f) = true) : FnAt fn bl K mg "is_no_whole" 3 f40 :=
  fnAt_mk X G sc40 (fun _ _ _ _ _ _ us hl => match us, hl with | [_, _, _], _ => rfl) rfl rfl rfl (by decide) ck40 a l c k
theorem at41 (X : K.In h) (G : h.Ns mainGlobals mg) (a : PySem.W.nsIn K mainGlobals "_law_is_no_whole" = some (some (.ref f)))
    (l : K.lookup f = some ⟨oc, od, .func (PySem.W.fnOf "_law_is_no_whole" "_law_is_no_whole" (L2.defArgs (topS 40)) (L2.defBody (topS 40)) (L2.defScope (topS 40)) .none kV doc pm an cdv ct), osl⟩) (c : PySem.W.codeIn K cdv "_law_is_no_whole" = true) (k : PySem.W.keepIn K (.ref f) = true) : FnAt fn bl K mg "_law_is_no_whole" 3 f41 :=
  fnAt_mk X G sc41 (fun _ _ _ _ _ _ us hl => match us, hl with | [_, _, _], _ => rfl) rfl rfl rfl (by decide) ck41 a l c k
theorem bd42 : ∀ (kV doc pm : Value) (an : Option Addr) (cdv ct : Value) (us : List Value), us.length = 1 → bindArgs (PySem.W.fnOf "law" "law" (L2.defArgs (topS 45)) (L2.defBody (topS 45)) (L2.defScope (topS 45)) .none kV doc pm an cdv ct) ⟨us, []⟩ = pure ((["script"] : List Str).zip us) := fun _ _ _ _ _ _ us hl => match us, hl with | [_], _ => rfl
theorem at42 (X : K.In h) (G : h.Ns mainGlobals mg) (a : PySem.W.nsIn K mainGlobals "law" = some (some (.ref f)))
    (l : K.lookup f = some ⟨oc, od, .func (PySem.W.fnOf "law" "law" (L2.defArgs (topS 45)) (L2.defBody (topS 45)) (L2.defScope (topS 45)) .none kV doc pm an cdv ct), osl⟩) (c : PySem.W.codeIn K cdv "law" = true) (k : PySem.W.keepIn K (.ref f) = true) : FnAt fn bl K mg "law" 1 f42 :=
  fnAt_mk X G sc42 (fun _ _ _ _ _ _ us hl => match us, hl with | [_], _ => rfl) rfl rfl rfl (by decide) ck42 a l c k
end
theorem all_mk {w : World} {K : PySem.W.Frag} {h : Heap} {mg : Str → Option Value} {fa : Addr} (X : K.In h) (G : h.Ns mainGlobals mg) (hfa : mg "law" = some (.ref fa))
    {fa0 : Addr} {oc0 kV0 dc0 pm0 cd0 ct0 : Value} {od0 an0 : Option Addr} {sl0 : Array (Option Value)} (a0 : PySem.W.nsIn K mainGlobals "_law_draws" = some (some (.ref fa0)))
    (l0 : K.lookup fa0 = some ⟨oc0, od0, .func (PySem.W.fnOf "_law_draws" "_law_draws" (L2.defArgs (topS 21)) (L2.defBody (topS 21)) (L2.defScope (topS 21)) .none kV0 dc0 pm0 an0 cd0 ct0), sl0⟩) (c0 : PySem.W.codeIn K cd0 "_law_draws" = true) (k0 : PySem.W.keepIn K (.ref fa0) = true)
    {fa1 : Addr} {oc1 kV1 dc1 pm1 cd1 ct1 : Value} {od1 an1 : Option Addr} {sl1 : Array (Option Value)} (a1 : PySem.W.nsIn K mainGlobals "_law_next" = some (some (.ref fa1)))
    (l1 : K.lookup fa1 = some ⟨oc1, od1, .func (PySem.W.fnOf "_law_next" "_law_next" (L2.defArgs (topS 22)) (L2.defBody (topS 22)) (L2.defScope (topS 22)) .none kV1 dc1 pm1 an1 cd1 ct1), sl1⟩) (c1 : PySem.W.codeIn K cd1 "_law_next" = true) (k1 : PySem.W.keepIn K (.ref fa1) = true)
    {fa2 : Addr} {oc2 kV2 dc2 pm2 cd2 ct2 : Value} {od2 an2 : Option Addr} {sl2 : Array (Option Value)} (a2 : PySem.W.nsIn K mainGlobals "_law_pick" = some (some (.ref fa2)))
    (l2 : K.lookup fa2 = some ⟨oc2, od2, .func (PySem.W.fnOf "_law_pick" "_law_pick" (L2.defArgs (topS 23)) (L2.defBody (topS 23)) (L2.defScope (topS 23)) .none kV2 dc2 pm2 an2 cd2 ct2), sl2⟩) (c2 : PySem.W.codeIn K cd2 "_law_pick" = true) (k2 : PySem.W.keepIn K (.ref fa2) = true)
    {fa3 : Addr} {oc3 kV3 dc3 pm3 cd3 ct3 : Value} {od3 an3 : Option Addr} {sl3 : Array (Option Value)} (a3 : PySem.W.nsIn K mainGlobals "_law_rows" = some (some (.ref fa3)))
    (l3 : K.lookup fa3 = some ⟨oc3, od3, .func (PySem.W.fnOf "_law_rows" "_law_rows" (L2.defArgs (topS 34)) (L2.defBody (topS 34)) (L2.defScope (topS 34)) .none kV3 dc3 pm3 an3 cd3 ct3), sl3⟩) (c3 : PySem.W.codeIn K cd3 "_law_rows" = true) (k3 : PySem.W.keepIn K (.ref fa3) = true)
    {fa4 : Addr} {oc4 kV4 dc4 pm4 cd4 ct4 : Value} {od4 an4 : Option Addr} {sl4 : Array (Option Value)} (a4 : PySem.W.nsIn K mainGlobals "_law_whole" = some (some (.ref fa4)))
    (l4 : K.lookup fa4 = some ⟨oc4, od4, .func (PySem.W.fnOf "_law_whole" "_law_whole" (L2.defArgs (topS 36)) (L2.defBody (topS 36)) (L2.defScope (topS 36)) .none kV4 dc4 pm4 an4 cd4 ct4), sl4⟩) (c4 : PySem.W.codeIn K cd4 "_law_whole" = true) (k4 : PySem.W.keepIn K (.ref fa4) = true)
    {fa5 : Addr} {oc5 kV5 dc5 pm5 cd5 ct5 : Value} {od5 an5 : Option Addr} {sl5 : Array (Option Value)} (a5 : PySem.W.nsIn K mainGlobals "_law_sums" = some (some (.ref fa5)))
    (l5 : K.lookup fa5 = some ⟨oc5, od5, .func (PySem.W.fnOf "_law_sums" "_law_sums" (L2.defArgs (topS 35)) (L2.defBody (topS 35)) (L2.defScope (topS 35)) .none kV5 dc5 pm5 an5 cd5 ct5), sl5⟩) (c5 : PySem.W.codeIn K cd5 "_law_sums" = true) (k5 : PySem.W.keepIn K (.ref fa5) = true)
    {fa6 : Addr} {oc6 kV6 dc6 pm6 cd6 ct6 : Value} {od6 an6 : Option Addr} {sl6 : Array (Option Value)} (a6 : PySem.W.nsIn K mainGlobals "_law_low" = some (some (.ref fa6)))
    (l6 : K.lookup fa6 = some ⟨oc6, od6, .func (PySem.W.fnOf "_law_low" "_law_low" (L2.defArgs (topS 27)) (L2.defBody (topS 27)) (L2.defScope (topS 27)) .none kV6 dc6 pm6 an6 cd6 ct6), sl6⟩) (c6 : PySem.W.codeIn K cd6 "_law_low" = true) (k6 : PySem.W.keepIn K (.ref fa6) = true)
    {fa7 : Addr} {oc7 kV7 dc7 pm7 cd7 ct7 : Value} {od7 an7 : Option Addr} {sl7 : Array (Option Value)} (a7 : PySem.W.nsIn K mainGlobals "_law_parted" = some (some (.ref fa7)))
    (l7 : K.lookup fa7 = some ⟨oc7, od7, .func (PySem.W.fnOf "_law_parted" "_law_parted" (L2.defArgs (topS 42)) (L2.defBody (topS 42)) (L2.defScope (topS 42)) .none kV7 dc7 pm7 an7 cd7 ct7), sl7⟩) (c7 : PySem.W.codeIn K cd7 "_law_parted" = true) (k7 : PySem.W.keepIn K (.ref fa7) = true)
    {fa8 : Addr} {oc8 kV8 dc8 pm8 cd8 ct8 : Value} {od8 an8 : Option Addr} {sl8 : Array (Option Value)} (a8 : PySem.W.nsIn K mainGlobals "_law_pick" = some (some (.ref fa8)))
    (l8 : K.lookup fa8 = some ⟨oc8, od8, .func (PySem.W.fnOf "_law_pick" "_law_pick" (L2.defArgs (topS 23)) (L2.defBody (topS 23)) (L2.defScope (topS 23)) .none kV8 dc8 pm8 an8 cd8 ct8), sl8⟩) (c8 : PySem.W.codeIn K cd8 "_law_pick" = true) (k8 : PySem.W.keepIn K (.ref fa8) = true)
    {fa9 : Addr} {oc9 kV9 dc9 pm9 cd9 ct9 : Value} {od9 an9 : Option Addr} {sl9 : Array (Option Value)} (a9 : PySem.W.nsIn K mainGlobals "_law_bent" = some (some (.ref fa9)))
    (l9 : K.lookup fa9 = some ⟨oc9, od9, .func (PySem.W.fnOf "_law_bent" "_law_bent" (L2.defArgs (topS 41)) (L2.defBody (topS 41)) (L2.defScope (topS 41)) .none kV9 dc9 pm9 an9 cd9 ct9), sl9⟩) (c9 : PySem.W.codeIn K cd9 "_law_bent" = true) (k9 : PySem.W.keepIn K (.ref fa9) = true)
    {fa10 : Addr} {oc10 kV10 dc10 pm10 cd10 ct10 : Value} {od10 an10 : Option Addr} {sl10 : Array (Option Value)} (a10 : PySem.W.nsIn K mainGlobals "width_of" = some (some (.ref fa10)))
    (l10 : K.lookup fa10 = some ⟨oc10, od10, .func (PySem.W.fnOf "width_of" "width_of" (L2.defArgs (topS 15)) (L2.defBody (topS 15)) (L2.defScope (topS 15)) .none kV10 dc10 pm10 an10 cd10 ct10), sl10⟩) (c10 : PySem.W.codeIn K cd10 "width_of" = true) (k10 : PySem.W.keepIn K (.ref fa10) = true)
    {fa11 : Addr} {oc11 kV11 dc11 pm11 cd11 ct11 : Value} {od11 an11 : Option Addr} {sl11 : Array (Option Value)} (a11 : PySem.W.nsIn K mainGlobals "divisor" = some (some (.ref fa11)))
    (l11 : K.lookup fa11 = some ⟨oc11, od11, .func (PySem.W.fnOf "divisor" "divisor" (L2.defArgs (topS 1)) (L2.defBody (topS 1)) (L2.defScope (topS 1)) .none kV11 dc11 pm11 an11 cd11 ct11), sl11⟩) (c11 : PySem.W.codeIn K cd11 "divisor" = true) (k11 : PySem.W.keepIn K (.ref fa11) = true)
    {fa12 : Addr} {oc12 kV12 dc12 pm12 cd12 ct12 : Value} {od12 an12 : Option Addr} {sl12 : Array (Option Value)} (a12 : PySem.W.nsIn K mainGlobals "is_fraction" = some (some (.ref fa12)))
    (l12 : K.lookup fa12 = some ⟨oc12, od12, .func (PySem.W.fnOf "is_fraction" "is_fraction" (L2.defArgs (topS 7)) (L2.defBody (topS 7)) (L2.defScope (topS 7)) .none kV12 dc12 pm12 an12 cd12 ct12), sl12⟩) (c12 : PySem.W.codeIn K cd12 "is_fraction" = true) (k12 : PySem.W.keepIn K (.ref fa12) = true)
    {fa13 : Addr} {oc13 kV13 dc13 pm13 cd13 ct13 : Value} {od13 an13 : Option Addr} {sl13 : Array (Option Value)} (a13 : PySem.W.nsIn K mainGlobals "are_fractions" = some (some (.ref fa13)))
    (l13 : K.lookup fa13 = some ⟨oc13, od13, .func (PySem.W.fnOf "are_fractions" "are_fractions" (L2.defArgs (topS 8)) (L2.defBody (topS 8)) (L2.defScope (topS 8)) .none kV13 dc13 pm13 an13 cd13 ct13), sl13⟩) (c13 : PySem.W.codeIn K cd13 "are_fractions" = true) (k13 : PySem.W.keepIn K (.ref fa13) = true)
    {fa14 : Addr} {oc14 kV14 dc14 pm14 cd14 ct14 : Value} {od14 an14 : Option Addr} {sl14 : Array (Option Value)} (a14 : PySem.W.nsIn K mainGlobals "whole" = some (some (.ref fa14)))
    (l14 : K.lookup fa14 = some ⟨oc14, od14, .func (PySem.W.fnOf "whole" "whole" (L2.defArgs (topS 3)) (L2.defBody (topS 3)) (L2.defScope (topS 3)) .none kV14 dc14 pm14 an14 cd14 ct14), sl14⟩) (c14 : PySem.W.codeIn K cd14 "whole" = true) (k14 : PySem.W.keepIn K (.ref fa14) = true)
    {fa15 : Addr} {oc15 kV15 dc15 pm15 cd15 ct15 : Value} {od15 an15 : Option Addr} {sl15 : Array (Option Value)} (a15 : PySem.W.nsIn K mainGlobals "wholes" = some (some (.ref fa15)))
    (l15 : K.lookup fa15 = some ⟨oc15, od15, .func (PySem.W.fnOf "wholes" "wholes" (L2.defArgs (topS 9)) (L2.defBody (topS 9)) (L2.defScope (topS 9)) .none kV15 dc15 pm15 an15 cd15 ct15), sl15⟩) (c15 : PySem.W.codeIn K cd15 "wholes" = true) (k15 : PySem.W.keepIn K (.ref fa15) = true)
    {fa16 : Addr} {oc16 kV16 dc16 pm16 cd16 ct16 : Value} {od16 an16 : Option Addr} {sl16 : Array (Option Value)} (a16 : PySem.W.nsIn K mainGlobals "lowest" = some (some (.ref fa16)))
    (l16 : K.lookup fa16 = some ⟨oc16, od16, .func (PySem.W.fnOf "lowest" "lowest" (L2.defArgs (topS 2)) (L2.defBody (topS 2)) (L2.defScope (topS 2)) .none kV16 dc16 pm16 an16 cd16 ct16), sl16⟩) (c16 : PySem.W.codeIn K cd16 "lowest" = true) (k16 : PySem.W.keepIn K (.ref fa16) = true)
    {fa17 : Addr} {oc17 kV17 dc17 pm17 cd17 ct17 : Value} {od17 an17 : Option Addr} {sl17 : Array (Option Value)} (a17 : PySem.W.nsIn K mainGlobals "times" = some (some (.ref fa17)))
    (l17 : K.lookup fa17 = some ⟨oc17, od17, .func (PySem.W.fnOf "times" "times" (L2.defArgs (topS 5)) (L2.defBody (topS 5)) (L2.defScope (topS 5)) .none kV17 dc17 pm17 an17 cd17 ct17), sl17⟩) (c17 : PySem.W.codeIn K cd17 "times" = true) (k17 : PySem.W.keepIn K (.ref fa17) = true)
    {fa18 : Addr} {oc18 kV18 dc18 pm18 cd18 ct18 : Value} {od18 an18 : Option Addr} {sl18 : Array (Option Value)} (a18 : PySem.W.nsIn K mainGlobals "plus" = some (some (.ref fa18)))
    (l18 : K.lookup fa18 = some ⟨oc18, od18, .func (PySem.W.fnOf "plus" "plus" (L2.defArgs (topS 4)) (L2.defBody (topS 4)) (L2.defScope (topS 4)) .none kV18 dc18 pm18 an18 cd18 ct18), sl18⟩) (c18 : PySem.W.codeIn K cd18 "plus" = true) (k18 : PySem.W.keepIn K (.ref fa18) = true)
    {fa19 : Addr} {oc19 kV19 dc19 pm19 cd19 ct19 : Value} {od19 an19 : Option Addr} {sl19 : Array (Option Value)} (a19 : PySem.W.nsIn K mainGlobals "dot" = some (some (.ref fa19)))
    (l19 : K.lookup fa19 = some ⟨oc19, od19, .func (PySem.W.fnOf "dot" "dot" (L2.defArgs (topS 6)) (L2.defBody (topS 6)) (L2.defScope (topS 6)) .none kV19 dc19 pm19 an19 cd19 ct19), sl19⟩) (c19 : PySem.W.codeIn K cd19 "dot" = true) (k19 : PySem.W.keepIn K (.ref fa19) = true)
    {fa20 : Addr} {oc20 kV20 dc20 pm20 cd20 ct20 : Value} {od20 an20 : Option Addr} {sl20 : Array (Option Value)} (a20 : PySem.W.nsIn K mainGlobals "is_solution" = some (some (.ref fa20)))
    (l20 : K.lookup fa20 = some ⟨oc20, od20, .func (PySem.W.fnOf "is_solution" "is_solution" (L2.defArgs (topS 16)) (L2.defBody (topS 16)) (L2.defScope (topS 16)) .none kV20 dc20 pm20 an20 cd20 ct20), sl20⟩) (c20 : PySem.W.codeIn K cd20 "is_solution" = true) (k20 : PySem.W.keepIn K (.ref fa20) = true)
    {fa21 : Addr} {oc21 kV21 dc21 pm21 cd21 ct21 : Value} {od21 an21 : Option Addr} {sl21 : Array (Option Value)} (a21 : PySem.W.nsIn K mainGlobals "_law_is_number" = some (some (.ref fa21)))
    (l21 : K.lookup fa21 = some ⟨oc21, od21, .func (PySem.W.fnOf "_law_is_number" "_law_is_number" (L2.defArgs (topS 24)) (L2.defBody (topS 24)) (L2.defScope (topS 24)) .none kV21 dc21 pm21 an21 cd21 ct21), sl21⟩) (c21 : PySem.W.codeIn K cd21 "_law_is_number" = true) (k21 : PySem.W.keepIn K (.ref fa21) = true)
    {fa22 : Addr} {oc22 kV22 dc22 pm22 cd22 ct22 : Value} {od22 an22 : Option Addr} {sl22 : Array (Option Value)} (a22 : PySem.W.nsIn K mainGlobals "_law_is_fraction" = some (some (.ref fa22)))
    (l22 : K.lookup fa22 = some ⟨oc22, od22, .func (PySem.W.fnOf "_law_is_fraction" "_law_is_fraction" (L2.defArgs (topS 30)) (L2.defBody (topS 30)) (L2.defScope (topS 30)) .none kV22 dc22 pm22 an22 cd22 ct22), sl22⟩) (c22 : PySem.W.codeIn K cd22 "_law_is_fraction" = true) (k22 : PySem.W.keepIn K (.ref fa22) = true)
    {fa23 : Addr} {oc23 kV23 dc23 pm23 cd23 ct23 : Value} {od23 an23 : Option Addr} {sl23 : Array (Option Value)} (a23 : PySem.W.nsIn K mainGlobals "_law_is_fractions" = some (some (.ref fa23)))
    (l23 : K.lookup fa23 = some ⟨oc23, od23, .func (PySem.W.fnOf "_law_is_fractions" "_law_is_fractions" (L2.defArgs (topS 31)) (L2.defBody (topS 31)) (L2.defScope (topS 31)) .none kV23 dc23 pm23 an23 cd23 ct23), sl23⟩) (c23 : PySem.W.codeIn K cd23 "_law_is_fractions" = true) (k23 : PySem.W.keepIn K (.ref fa23) = true)
    {fa24 : Addr} {oc24 kV24 dc24 pm24 cd24 ct24 : Value} {od24 an24 : Option Addr} {sl24 : Array (Option Value)} (a24 : PySem.W.nsIn K mainGlobals "_law_mul" = some (some (.ref fa24)))
    (l24 : K.lookup fa24 = some ⟨oc24, od24, .func (PySem.W.fnOf "_law_mul" "_law_mul" (L2.defArgs (topS 29)) (L2.defBody (topS 29)) (L2.defScope (topS 29)) .none kV24 dc24 pm24 an24 cd24 ct24), sl24⟩) (c24 : PySem.W.codeIn K cd24 "_law_mul" = true) (k24 : PySem.W.keepIn K (.ref fa24) = true)
    {fa25 : Addr} {oc25 kV25 dc25 pm25 cd25 ct25 : Value} {od25 an25 : Option Addr} {sl25 : Array (Option Value)} (a25 : PySem.W.nsIn K mainGlobals "_law_add" = some (some (.ref fa25)))
    (l25 : K.lookup fa25 = some ⟨oc25, od25, .func (PySem.W.fnOf "_law_add" "_law_add" (L2.defArgs (topS 28)) (L2.defBody (topS 28)) (L2.defScope (topS 28)) .none kV25 dc25 pm25 an25 cd25 ct25), sl25⟩) (c25 : PySem.W.codeIn K cd25 "_law_add" = true) (k25 : PySem.W.keepIn K (.ref fa25) = true)
    {fa26 : Addr} {oc26 kV26 dc26 pm26 cd26 ct26 : Value} {od26 an26 : Option Addr} {sl26 : Array (Option Value)} (a26 : PySem.W.nsIn K mainGlobals "_law_dot" = some (some (.ref fa26)))
    (l26 : K.lookup fa26 = some ⟨oc26, od26, .func (PySem.W.fnOf "_law_dot" "_law_dot" (L2.defArgs (topS 32)) (L2.defBody (topS 32)) (L2.defScope (topS 32)) .none kV26 dc26 pm26 an26 cd26 ct26), sl26⟩) (c26 : PySem.W.codeIn K cd26 "_law_dot" = true) (k26 : PySem.W.keepIn K (.ref fa26) = true)
    {fa27 : Addr} {oc27 kV27 dc27 pm27 cd27 ct27 : Value} {od27 an27 : Option Addr} {sl27 : Array (Option Value)} (a27 : PySem.W.nsIn K mainGlobals "_law_is_solution" = some (some (.ref fa27)))
    (l27 : K.lookup fa27 = some ⟨oc27, od27, .func (PySem.W.fnOf "_law_is_solution" "_law_is_solution" (L2.defArgs (topS 38)) (L2.defBody (topS 38)) (L2.defScope (topS 38)) .none kV27 dc27 pm27 an27 cd27 ct27), sl27⟩) (c27 : PySem.W.codeIn K cd27 "_law_is_solution" = true) (k27 : PySem.W.keepIn K (.ref fa27) = true)
    {fa28 : Addr} {oc28 kV28 dc28 pm28 cd28 ct28 : Value} {od28 an28 : Option Addr} {sl28 : Array (Option Value)} (a28 : PySem.W.nsIn K mainGlobals "_law_same" = some (some (.ref fa28)))
    (l28 : K.lookup fa28 = some ⟨oc28, od28, .func (PySem.W.fnOf "_law_same" "_law_same" (L2.defArgs (topS 26)) (L2.defBody (topS 26)) (L2.defScope (topS 26)) .none kV28 dc28 pm28 an28 cd28 ct28), sl28⟩) (c28 : PySem.W.codeIn K cd28 "_law_same" = true) (k28 : PySem.W.keepIn K (.ref fa28) = true)
    {fa29 : Addr} {oc29 kV29 dc29 pm29 cd29 ct29 : Value} {od29 an29 : Option Addr} {sl29 : Array (Option Value)} (a29 : PySem.W.nsIn K mainGlobals "_law_more" = some (some (.ref fa29)))
    (l29 : K.lookup fa29 = some ⟨oc29, od29, .func (PySem.W.fnOf "_law_more" "_law_more" (L2.defArgs (topS 43)) (L2.defBody (topS 43)) (L2.defScope (topS 43)) .none kV29 dc29 pm29 an29 cd29 ct29), sl29⟩) (c29 : PySem.W.codeIn K cd29 "_law_more" = true) (k29 : PySem.W.keepIn K (.ref fa29) = true)
    {fa30 : Addr} {oc30 kV30 dc30 pm30 cd30 ct30 : Value} {od30 an30 : Option Addr} {sl30 : Array (Option Value)} (a30 : PySem.W.nsIn K mainGlobals "is_number" = some (some (.ref fa30)))
    (l30 : K.lookup fa30 = some ⟨oc30, od30, .func (PySem.W.fnOf "is_number" "is_number" (L2.defArgs (topS 12)) (L2.defBody (topS 12)) (L2.defScope (topS 12)) .none kV30 dc30 pm30 an30 cd30 ct30), sl30⟩) (c30 : PySem.W.codeIn K cd30 "is_number" = true) (k30 : PySem.W.keepIn K (.ref fa30) = true)
    {fa31 : Addr} {oc31 kV31 dc31 pm31 cd31 ct31 : Value} {od31 an31 : Option Addr} {sl31 : Array (Option Value)} (a31 : PySem.W.nsIn K mainGlobals "is_numbers" = some (some (.ref fa31)))
    (l31 : K.lookup fa31 = some ⟨oc31, od31, .func (PySem.W.fnOf "is_numbers" "is_numbers" (L2.defArgs (topS 13)) (L2.defBody (topS 13)) (L2.defScope (topS 13)) .none kV31 dc31 pm31 an31 cd31 ct31), sl31⟩) (c31 : PySem.W.codeIn K cd31 "is_numbers" = true) (k31 : PySem.W.keepIn K (.ref fa31) = true)
    {fa32 : Addr} {oc32 kV32 dc32 pm32 cd32 ct32 : Value} {od32 an32 : Option Addr} {sl32 : Array (Option Value)} (a32 : PySem.W.nsIn K mainGlobals "wholes" = some (some (.ref fa32)))
    (l32 : K.lookup fa32 = some ⟨oc32, od32, .func (PySem.W.fnOf "wholes" "wholes" (L2.defArgs (topS 9)) (L2.defBody (topS 9)) (L2.defScope (topS 9)) .none kV32 dc32 pm32 an32 cd32 ct32), sl32⟩) (c32 : PySem.W.codeIn K cd32 "wholes" = true) (k32 : PySem.W.keepIn K (.ref fa32) = true)
    {fa33 : Addr} {oc33 kV33 dc33 pm33 cd33 ct33 : Value} {od33 an33 : Option Addr} {sl33 : Array (Option Value)} (a33 : PySem.W.nsIn K mainGlobals "summed" = some (some (.ref fa33)))
    (l33 : K.lookup fa33 = some ⟨oc33, od33, .func (PySem.W.fnOf "summed" "summed" (L2.defArgs (topS 10)) (L2.defBody (topS 10)) (L2.defScope (topS 10)) .none kV33 dc33 pm33 an33 cd33 ct33), sl33⟩) (c33 : PySem.W.codeIn K cd33 "summed" = true) (k33 : PySem.W.keepIn K (.ref fa33) = true)
    {fa34 : Addr} {oc34 kV34 dc34 pm34 cd34 ct34 : Value} {od34 an34 : Option Addr} {sl34 : Array (Option Value)} (a34 : PySem.W.nsIn K mainGlobals "is_no_solution" = some (some (.ref fa34)))
    (l34 : K.lookup fa34 = some ⟨oc34, od34, .func (PySem.W.fnOf "is_no_solution" "is_no_solution" (L2.defArgs (topS 17)) (L2.defBody (topS 17)) (L2.defScope (topS 17)) .none kV34 dc34 pm34 an34 cd34 ct34), sl34⟩) (c34 : PySem.W.codeIn K cd34 "is_no_solution" = true) (k34 : PySem.W.keepIn K (.ref fa34) = true)
    {fa35 : Addr} {oc35 kV35 dc35 pm35 cd35 ct35 : Value} {od35 an35 : Option Addr} {sl35 : Array (Option Value)} (a35 : PySem.W.nsIn K mainGlobals "_law_is_numbers" = some (some (.ref fa35)))
    (l35 : K.lookup fa35 = some ⟨oc35, od35, .func (PySem.W.fnOf "_law_is_numbers" "_law_is_numbers" (L2.defArgs (topS 25)) (L2.defBody (topS 25)) (L2.defScope (topS 25)) .none kV35 dc35 pm35 an35 cd35 ct35), sl35⟩) (c35 : PySem.W.codeIn K cd35 "_law_is_numbers" = true) (k35 : PySem.W.keepIn K (.ref fa35) = true)
    {fa36 : Addr} {oc36 kV36 dc36 pm36 cd36 ct36 : Value} {od36 an36 : Option Addr} {sl36 : Array (Option Value)} (a36 : PySem.W.nsIn K mainGlobals "_law_wholes" = some (some (.ref fa36)))
    (l36 : K.lookup fa36 = some ⟨oc36, od36, .func (PySem.W.fnOf "_law_wholes" "_law_wholes" (L2.defArgs (topS 37)) (L2.defBody (topS 37)) (L2.defScope (topS 37)) .none kV36 dc36 pm36 an36 cd36 ct36), sl36⟩) (c36 : PySem.W.codeIn K cd36 "_law_wholes" = true) (k36 : PySem.W.keepIn K (.ref fa36) = true)
    {fa37 : Addr} {oc37 kV37 dc37 pm37 cd37 ct37 : Value} {od37 an37 : Option Addr} {sl37 : Array (Option Value)} (a37 : PySem.W.nsIn K mainGlobals "_law_column" = some (some (.ref fa37)))
    (l37 : K.lookup fa37 = some ⟨oc37, od37, .func (PySem.W.fnOf "_law_column" "_law_column" (L2.defArgs (topS 33)) (L2.defBody (topS 33)) (L2.defScope (topS 33)) .none kV37 dc37 pm37 an37 cd37 ct37), sl37⟩) (c37 : PySem.W.codeIn K cd37 "_law_column" = true) (k37 : PySem.W.keepIn K (.ref fa37) = true)
    {fa38 : Addr} {oc38 kV38 dc38 pm38 cd38 ct38 : Value} {od38 an38 : Option Addr} {sl38 : Array (Option Value)} (a38 : PySem.W.nsIn K mainGlobals "_law_is_no_solution" = some (some (.ref fa38)))
    (l38 : K.lookup fa38 = some ⟨oc38, od38, .func (PySem.W.fnOf "_law_is_no_solution" "_law_is_no_solution" (L2.defArgs (topS 39)) (L2.defBody (topS 39)) (L2.defScope (topS 39)) .none kV38 dc38 pm38 an38 cd38 ct38), sl38⟩) (c38 : PySem.W.codeIn K cd38 "_law_is_no_solution" = true) (k38 : PySem.W.keepIn K (.ref fa38) = true)
    {fa39 : Addr} {oc39 kV39 dc39 pm39 cd39 ct39 : Value} {od39 an39 : Option Addr} {sl39 : Array (Option Value)} (a39 : PySem.W.nsIn K mainGlobals "_law_times" = some (some (.ref fa39)))
    (l39 : K.lookup fa39 = some ⟨oc39, od39, .func (PySem.W.fnOf "_law_times" "_law_times" (L2.defArgs (topS 44)) (L2.defBody (topS 44)) (L2.defScope (topS 44)) .none kV39 dc39 pm39 an39 cd39 ct39), sl39⟩) (c39 : PySem.W.codeIn K cd39 "_law_times" = true) (k39 : PySem.W.keepIn K (.ref fa39) = true)
    {fa40 : Addr} {oc40 kV40 dc40 pm40 cd40 ct40 : Value} {od40 an40 : Option Addr} {sl40 : Array (Option Value)} (a40 : PySem.W.nsIn K mainGlobals "is_no_whole" = some (some (.ref fa40)))
    (l40 : K.lookup fa40 = some ⟨oc40, od40, .func (PySem.W.fnOf "is_no_whole" "is_no_whole" (L2.defArgs (topS 19)) (L2.defBody (topS 19)) (L2.defScope (topS 19)) .none kV40 dc40 pm40 an40 cd40 ct40), sl40⟩) (c40 : PySem.W.codeIn K cd40 "is_no_whole" = true) (k40 : PySem.W.keepIn K (.ref fa40) = true)
    {fa41 : Addr} {oc41 kV41 dc41 pm41 cd41 ct41 : Value} {od41 an41 : Option Addr} {sl41 : Array (Option Value)} (a41 : PySem.W.nsIn K mainGlobals "_law_is_no_whole" = some (some (.ref fa41)))
    (l41 : K.lookup fa41 = some ⟨oc41, od41, .func (PySem.W.fnOf "_law_is_no_whole" "_law_is_no_whole" (L2.defArgs (topS 40)) (L2.defBody (topS 40)) (L2.defScope (topS 40)) .none kV41 dc41 pm41 an41 cd41 ct41), sl41⟩) (c41 : PySem.W.codeIn K cd41 "_law_is_no_whole" = true) (k41 : PySem.W.keepIn K (.ref fa41) = true)
    {fa42 : Addr} {oc42 kV42 dc42 pm42 cd42 ct42 : Value} {od42 an42 : Option Addr} {sl42 : Array (Option Value)} (a42 : PySem.W.nsIn K mainGlobals "law" = some (some (.ref fa42)))
    (l42 : K.lookup fa42 = some ⟨oc42, od42, .func (PySem.W.fnOf "law" "law" (L2.defArgs (topS 45)) (L2.defBody (topS 45)) (L2.defScope (topS 45)) .none kV42 dc42 pm42 an42 cd42 ct42), sl42⟩) (c42 : PySem.W.codeIn K cd42 "law" = true) (k42 : PySem.W.keepIn K (.ref fa42) = true)
    (z0 : PySem.W.nsIn K mainGlobals "abs" = some none)
    (z1 : PySem.W.nsIn K mainGlobals "all" = some none)
    (z2 : PySem.W.nsIn K mainGlobals "bool" = some none)
    (z3 : PySem.W.nsIn K mainGlobals "int" = some none)
    (z4 : PySem.W.nsIn K mainGlobals "isinstance" = some none)
    (z5 : PySem.W.nsIn K mainGlobals "len" = some none)
    (z6 : PySem.W.nsIn K mainGlobals "list" = some none)
    (z7 : PySem.W.nsIn K mainGlobals "range" = some none)
    (z8 : PySem.W.nsIn K mainGlobals "sum" = some none)
    (z9 : PySem.W.nsIn K mainGlobals "tuple" = some none)
    (z10 : PySem.W.nsIn K mainGlobals "zip" = some none)
    : ∃ fd : FuncData, (∀ (s : Shared) (u : Value), BindsTo s fd ⟨[u], []⟩ [("script", u)]) ∧ ∀ base : Heap, K.In base → base.Ns mainGlobals mg → FnOk PySem.Challenge.rw_everybest_k27_looks_at_sums.prog w K mg base L2.CX0 7 fa fd ["script"] (spD K 1 (evF T 7 42)) := by
  have hb : ∀ x : PySem.Str, bl.contains x = true → mg x = none := by
    intro x hx
    have hx : x ∈ bl := by simpa using hx
    simp only [bl, List.mem_cons, List.not_mem_nil, or_false] at hx
    rcases hx with rfl | rfl | rfl | rfl | rfl | rfl | rfl | rfl | rfl | rfl | rfl
    · exact PySem.W.mg_none_of X G z0
    · exact PySem.W.mg_none_of X G z1
    · exact PySem.W.mg_none_of X G z2
    · exact PySem.W.mg_none_of X G z3
    · exact PySem.W.mg_none_of X G z4
    · exact PySem.W.mg_none_of X G z5
    · exact PySem.W.mg_none_of X G z6
    · exact PySem.W.mg_none_of X G z7
    · exact PySem.W.mg_none_of X G z8
    · exact PySem.W.mg_none_of X G z9
    · exact PySem.W.mg_none_of X G z10
  exact law_F X G (.cons (at0 X G a0 l0 c0 k0) (.cons (at1 X G a1 l1 c1 k1) (.cons (at2 X G a2 l2 c2 k2) (.cons (at3 X G a3 l3 c3 k3) (.cons (at4 X G a4 l4 c4 k4) (.cons (at5 X G a5 l5 c5 k5) (.cons (at6 X G a6 l6 c6 k6) (.cons (at7 X G a7 l7 c7 k7) (.cons (at8 X G a8 l8 c8 k8) (.cons (at9 X G a9 l9 c9 k9) (.cons (at10 X G a10 l10 c10 k10) (.cons (at11 X G a11 l11 c11 k11) (.cons (at12 X G a12 l12 c12 k12) (.cons (at13 X G a13 l13 c13 k13) (.cons (at14 X G a14 l14 c14 k14) (.cons (at15 X G a15 l15 c15 k15) (.cons (at16 X G a16 l16 c16 k16) (.cons (at17 X G a17 l17 c17 k17) (.cons (at18 X G a18 l18 c18 k18) (.cons (at19 X G a19 l19 c19 k19) (.cons (at20 X G a20 l20 c20 k20) (.cons (at21 X G a21 l21 c21 k21) (.cons (at22 X G a22 l22 c22 k22) (.cons (at23 X G a23 l23 c23 k23) (.cons (at24 X G a24 l24 c24 k24) (.cons (at25 X G a25 l25 c25 k25) (.cons (at26 X G a26 l26 c26 k26) (.cons (at27 X G a27 l27 c27 k27) (.cons (at28 X G a28 l28 c28 k28) (.cons (at29 X G a29 l29 c29 k29) (.cons (at30 X G a30 l30 c30 k30) (.cons (at31 X G a31 l31 c31 k31) (.cons (at32 X G a32 l32 c32 k32) (.cons (at33 X G a33 l33 c33 k33) (.cons (at34 X G a34 l34 c34 k34) (.cons (at35 X G a35 l35 c35 k35) (.cons (at36 X G a36 l36 c36 k36) (.cons (at37 X G a37 l37 c37 k37) (.cons (at38 X G a38 l38 c38 k38) (.cons (at39 X G a39 l39 c39 k39) (.cons (at40 X G a40 l40 c40 k40) (.cons (at41 X G a41 l41 c41 k41) (.cons (at42 X G a42 l42 c42 k42) .nil))))))))))))))))))))))))))))))))))))))))))) hb hfa sc42 bd42 rfl rfl rfl (by decide) ck42 a42 l42 c42 k42
end Pg
end

section
open PySem PySem.W PyProof.Rows
set_option maxHeartbeats 0 in
theorem PySem.Challenge.cw_everybest_k27_looks_at_sums_holds : PySem.Challenge.rw_everybest_k27_looks_at_sums.Holds := by
  w_on; o_law; k_head; (case hw => w_witness2)
  k_fill
  refine L2.walk_ofK (l := PySem.Challenge.rw_everybest_k27_looks_at_sums) (n := 63) (k := 7) (x := "script") (CX := L2.CX0) (sp := fun K => DL.spD K 1 (DL.evF Pg.T 7 42)) rfl (by decide) rfl ⟨rfl, by decide, by decide⟩ (fun w h Y => PySem.W.kIn_of Y) ?F (fun _ _ a ns hl hO hS => DL.law_says hO hS (Sh.law_true Sh.law_holds ns hl)) (fun _ _ _ _ h => h)
  case F =>
    intro w mg fa h KX G hmg
    refine' Pg.all_mk KX G hmg ?a0 ?l0 ?c0 ?k0 ?a1 ?l1 ?c1 ?k1 ?a2 ?l2 ?c2 ?k2 ?a3 ?l3 ?c3 ?k3 ?a4 ?l4 ?c4 ?k4 ?a5 ?l5 ?c5 ?k5 ?a6 ?l6 ?c6 ?k6 ?a7 ?l7 ?c7 ?k7 ?a8 ?l8 ?c8 ?k8 ?a9 ?l9 ?c9 ?k9 ?a10 ?l10 ?c10 ?k10 ?a11 ?l11 ?c11 ?k11 ?a12 ?l12 ?c12 ?k12 ?a13 ?l13 ?c13 ?k13 ?a14 ?l14 ?c14 ?k14 ?a15 ?l15 ?c15 ?k15 ?a16 ?l16 ?c16 ?k16 ?a17 ?l17 ?c17 ?k17 ?a18 ?l18 ?c18 ?k18 ?a19 ?l19 ?c19 ?k19 ?a20 ?l20 ?c20 ?k20 ?a21 ?l21 ?c21 ?k21 ?a22 ?l22 ?c22 ?k22 ?a23 ?l23 ?c23 ?k23 ?a24 ?l24 ?c24 ?k24 ?a25 ?l25 ?c25 ?k25 ?a26 ?l26 ?c26 ?k26 ?a27 ?l27 ?c27 ?k27 ?a28 ?l28 ?c28 ?k28 ?a29 ?l29 ?c29 ?k29 ?a30 ?l30 ?c30 ?k30 ?a31 ?l31 ?c31 ?k31 ?a32 ?l32 ?c32 ?k32 ?a33 ?l33 ?c33 ?k33 ?a34 ?l34 ?c34 ?k34 ?a35 ?l35 ?c35 ?k35 ?a36 ?l36 ?c36 ?k36 ?a37 ?l37 ?c37 ?k37 ?a38 ?l38 ?c38 ?k38 ?a39 ?l39 ?c39 ?k39 ?a40 ?l40 ?c40 ?k40 ?a41 ?l41 ?c41 ?k41 ?a42 ?l42 ?c42 ?k42 ?z0 ?z1 ?z2 ?z3 ?z4 ?z5 ?z6 ?z7 ?z8 ?z9 ?z10
    (case a0 => k_is); (case l0 => k_is); (case c0 => k_is); (case k0 => k_is)
    (case a1 => k_is); (case l1 => k_is); (case c1 => k_is); (case k1 => k_is)
    (case a2 => k_is); (case l2 => k_is); (case c2 => k_is); (case k2 => k_is)
    (case a3 => k_is); (case l3 => k_is); (case c3 => k_is); (case k3 => k_is)
    (case a4 => k_is); (case l4 => k_is); (case c4 => k_is); (case k4 => k_is)
    (case a5 => k_is); (case l5 => k_is); (case c5 => k_is); (case k5 => k_is)
    (case a6 => k_is); (case l6 => k_is); (case c6 => k_is); (case k6 => k_is)
    (case a7 => k_is); (case l7 => k_is); (case c7 => k_is); (case k7 => k_is)
    (case a8 => k_is); (case l8 => k_is); (case c8 => k_is); (case k8 => k_is)
    (case a9 => k_is); (case l9 => k_is); (case c9 => k_is); (case k9 => k_is)
    (case a10 => k_is); (case l10 => k_is); (case c10 => k_is); (case k10 => k_is)
    (case a11 => k_is); (case l11 => k_is); (case c11 => k_is); (case k11 => k_is)
    (case a12 => k_is); (case l12 => k_is); (case c12 => k_is); (case k12 => k_is)
    (case a13 => k_is); (case l13 => k_is); (case c13 => k_is); (case k13 => k_is)
    (case a14 => k_is); (case l14 => k_is); (case c14 => k_is); (case k14 => k_is)
    (case a15 => k_is); (case l15 => k_is); (case c15 => k_is); (case k15 => k_is)
    (case a16 => k_is); (case l16 => k_is); (case c16 => k_is); (case k16 => k_is)
    (case a17 => k_is); (case l17 => k_is); (case c17 => k_is); (case k17 => k_is)
    (case a18 => k_is); (case l18 => k_is); (case c18 => k_is); (case k18 => k_is)
    (case a19 => k_is); (case l19 => k_is); (case c19 => k_is); (case k19 => k_is)
    (case a20 => k_is); (case l20 => k_is); (case c20 => k_is); (case k20 => k_is)
    (case a21 => k_is); (case l21 => k_is); (case c21 => k_is); (case k21 => k_is)
    (case a22 => k_is); (case l22 => k_is); (case c22 => k_is); (case k22 => k_is)
    (case a23 => k_is); (case l23 => k_is); (case c23 => k_is); (case k23 => k_is)
    (case a24 => k_is); (case l24 => k_is); (case c24 => k_is); (case k24 => k_is)
    (case a25 => k_is); (case l25 => k_is); (case c25 => k_is); (case k25 => k_is)
    (case a26 => k_is); (case l26 => k_is); (case c26 => k_is); (case k26 => k_is)
    (case a27 => k_is); (case l27 => k_is); (case c27 => k_is); (case k27 => k_is)
    (case a28 => k_is); (case l28 => k_is); (case c28 => k_is); (case k28 => k_is)
    (case a29 => k_is); (case l29 => k_is); (case c29 => k_is); (case k29 => k_is)
    (case a30 => k_is); (case l30 => k_is); (case c30 => k_is); (case k30 => k_is)
    (case a31 => k_is); (case l31 => k_is); (case c31 => k_is); (case k31 => k_is)
    (case a32 => k_is); (case l32 => k_is); (case c32 => k_is); (case k32 => k_is)
    (case a33 => k_is); (case l33 => k_is); (case c33 => k_is); (case k33 => k_is)
    (case a34 => k_is); (case l34 => k_is); (case c34 => k_is); (case k34 => k_is)
    (case a35 => k_is); (case l35 => k_is); (case c35 => k_is); (case k35 => k_is)
    (case a36 => k_is); (case l36 => k_is); (case c36 => k_is); (case k36 => k_is)
    (case a37 => k_is); (case l37 => k_is); (case c37 => k_is); (case k37 => k_is)
    (case a38 => k_is); (case l38 => k_is); (case c38 => k_is); (case k38 => k_is)
    (case a39 => k_is); (case l39 => k_is); (case c39 => k_is); (case k39 => k_is)
    (case a40 => k_is); (case l40 => k_is); (case c40 => k_is); (case k40 => k_is)
    (case a41 => k_is); (case l41 => k_is); (case c41 => k_is); (case k41 => k_is)
    (case a42 => k_is); (case l42 => k_is); (case c42 => k_is); (case k42 => k_is)
    (case z0 => k_is)
    (case z1 => k_is)
    (case z2 => k_is)
    (case z3 => k_is)
    (case z4 => k_is)
    (case z5 => k_is)
    (case z6 => k_is)
    (case z7 => k_is)
    (case z8 => k_is)
    (case z9 => k_is)
    (case z10 => k_is)
end
