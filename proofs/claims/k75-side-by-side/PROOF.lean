import PyProof.Rows.All
import Wide.All
import OpenK.AllK
import Wide.FinOn
import PySem.Challenge.RW_everybest_k75_works_side_by_side
import HandS.ForMost
import HandS.IsInst
import HandS.Style
import HandS.Conv
import HandS.SortInts
import HandS.TupAny
import HandS.Flow
import HandS.Zip
import HandS.SetFor
import HandS.Set
import HandS.SortRule
import KE.DataMinMax
import HandS.TupMul
import HandS.Small
import HandS.Ends
set_option Elab.async false
set_option linter.all false
set_option maxRecDepth 100000
set_option maxHeartbeats 4000001

section
/-! DL1: data values, what they denote on the abstract heap, who owns what. -/
namespace DL
open PySem PySem.Spec L2

inductive D where
  | non
  | bl (b : Bool)
  | int (i : Int)
  | str (s : Str)
  | tup (ds : List D)
  | lst (o : Bool) (ds : List D)
  | dK (o : Bool) (ks : List Key) (ds : List D)
  | dT (o : Bool) (ks : List (List Key)) (ds : List D)
  | scr (ns : List Int)

mutual
def D.plain : D → Bool
  | .tup ds => D.plains ds
  | .lst o _ => !o
  | .dK o _ _ => !o
  | .dT o _ _ => !o
  | _ => true
def D.plains : List D → Bool
  | [] => true
  | d :: ds => D.plain d && D.plains ds
end
mutual
def D.freeze : D → D
  | .tup ds => .tup (D.freezes ds)
  | .lst _ ds => .lst false (D.freezes ds)
  | .dK _ ks ds => .dK false ks (D.freezes ds)
  | .dT _ ks ds => .dT false ks (D.freezes ds)
  | d => d
def D.freezes : List D → List D
  | [] => []
  | d :: ds => D.freeze d :: D.freezes ds
end

abbrev Cnt := Addr → Nat
def zc : Cnt := fun _ => 0
def one (a : Addr) : Cnt := fun b => if b = a then 1 else 0
def add (c d : Cnt) : Cnt := fun a => c a + d a
theorem add_at (c d : Cnt) (a : Addr) : add c d a = c a + d a := rfl
theorem zc_at (a : Addr) : zc a = 0 := rfl
theorem one_self (a : Addr) : one a a = 1 := if_pos rfl
theorem one_ne {a b : Addr} (h : b ≠ a) : one a b = 0 := if_neg h
theorem add_zc (c : Cnt) : add c zc = c := by funext a; simp [add, zc]
theorem zc_add (c : Cnt) : add zc c = c := by funext a; simp [add, zc]
theorem add_comm (c d : Cnt) : add c d = add d c := by funext a; simp only [add]; omega
theorem add_assoc (c d e : Cnt) : add (add c d) e = add c (add d e) := by funext a; simp only [add]; omega

/-- objects that may change -/
def isMut : HO → Bool
  | .lst _ => true
  | .dK _ => true
  | .dT _ => true
  | .set _ _ => true
  | .ins _ _ _ => true
  | _ => false
def MutA (H : Hp) (a : Addr) : Prop := ∃ o, H a = some o ∧ isMut o = true

def ScrL (K : PySem.W.Frag) (H : Hp) (a : Addr) (xs : List V) : Prop :=
  (∃ o, H a = some (.frz o (.lst xs))) ∨
    ∃ (o : Obj) (its : Array Value) (n : Nat), K.lookup a = some o ∧ o.cls = .type "list" ∧ o.dict = none ∧ o.data = .seq its n ∧ its.size ≤ sizeLine ∧ Vals xs its.toList
theorem ScrL.seq {K : PySem.W.Frag} {H : Hp} {a : Addr} {xs : List V} (h : ScrL K H a xs) : SqL K H a xs := by
  rcases h with h | h
  · exact .inl (.inr h)
  · exact .inr h

section
variable (K : PySem.W.Frag) (Z : Addr → Prop) (H : Hp)
mutual
/-- the value v denotes d; c: the addresses that it owns -/
def Den : D → V → Cnt → Prop
  | .non, v, c => v = .non ∧ c = zc
  | .bl b, v, c => v = .bl b ∧ c = zc
  | .int i, v, c => v = .int i ∧ c = zc
  | .str s, v, c => v = .str s ∧ c = zc
  | .tup ds, v, c => ∃ a vs, v = .ref a ∧ SqT K H a vs ∧ Dens ds vs c
  | .lst true ds, v, c => ∃ a vs c', v = .ref a ∧ H a = some (.lst vs) ∧ Dens ds vs c' ∧ c = add (one a) c'
  | .lst false ds, v, c => ∃ a vs, v = .ref a ∧ H a = some (.lst vs) ∧ Z a ∧ Dens ds vs zc ∧ c = zc
  | .dK true ks ds, v, c => ∃ a kvs c', v = .ref a ∧ H a = some (.dK kvs) ∧ (kvs.map (·.1) = ks ∧ ks.Nodup) ∧ Dens ds (kvs.map (·.2)) c' ∧ c = add (one a) c'
  | .dK false ks ds, v, c => ∃ a kvs, v = .ref a ∧ H a = some (.dK kvs) ∧ (kvs.map (·.1) = ks ∧ ks.Nodup) ∧ Z a ∧ Dens ds (kvs.map (·.2)) zc ∧ c = zc
  | .dT true ks ds, v, c => ∃ a kvs c', v = .ref a ∧ H a = some (.dT kvs) ∧ (kvs.map (·.1) = ks ∧ ks.Nodup) ∧ Dens ds (kvs.map (·.2)) c' ∧ c = add (one a) c'
  | .dT false ks ds, v, c => ∃ a kvs, v = .ref a ∧ H a = some (.dT kvs) ∧ (kvs.map (·.1) = ks ∧ ks.Nodup) ∧ Z a ∧ Dens ds (kvs.map (·.2)) zc ∧ c = zc
  | .scr ns, v, c => ∃ a, v = .ref a ∧ ScrL K H a (ns.map V.int) ∧ c = zc
def Dens : List D → List V → Cnt → Prop
  | [], vs, c => vs = [] ∧ c = zc
  | d :: ds, vs, c => ∃ v r c1 c2, vs = v :: r ∧ Den d v c1 ∧ Dens ds r c2 ∧ c = add c1 c2
end
end

section
variable {K : PySem.W.Frag} {Z Z' : Addr → Prop} {H H' : Hp}

theorem SqT.loc {a : Addr} {xs : List V} (h : ∀ a o, H a = some o → isMut o = false → H' a = some o) (q : SqT K H a xs) : SqT K H' a xs := by
  rcases q with (q | ⟨o, q⟩) | q
  · exact .inl (.inl (h _ _ q rfl))
  · exact .inl (.inr ⟨o, h _ _ q rfl⟩)
  · exact .inr q
theorem ScrL.loc {a : Addr} {xs : List V} (h : ∀ a o, H a = some o → isMut o = false → H' a = some o) (q : ScrL K H a xs) : ScrL K H' a xs := by
  rcases q with ⟨o, q⟩ | q
  · exact .inl ⟨o, h _ _ q rfl⟩
  · exact .inr q

mutual
theorem Den.loc (hz : ∀ a, Z a → Z' a) : ∀ {d : D} {v : V} {c : Cnt}, (∀ a o, H a = some o → (isMut o = false ∨ Z a ∨ c a ≠ 0) → H' a = some o) → Den K Z H d v c → Den K Z' H' d v c
  | .non, _, _, _, q => q
  | .bl _, _, _, _, q => q
  | .int _, _, _, _, q => q
  | .str _, _, _, _, q => q
  | .tup ds, _, _, h, q => by
    obtain ⟨a, vs, e, s, q⟩ := q
    exact ⟨a, vs, e, SqT.loc (fun a o e m => h a o e (.inl m)) s, Dens.loc hz h q⟩
  | .lst true ds, _, c, h, q => by
    obtain ⟨a, vs, c', e, s, q, rfl⟩ := q
    refine ⟨a, vs, c', e, h a _ s (.inr (.inr ?_)), Dens.loc hz (fun b o e m => h b o e ?_) q, rfl⟩
    · rw [add_at, one_self]; omega
    · rcases m with m | m | m
      · exact .inl m
      · exact .inr (.inl m)
      · exact .inr (.inr (by rw [add_at]; omega))
  | .lst false ds, _, c, h, q => by
    obtain ⟨a, vs, e, s, z, q, rfl⟩ := q
    exact ⟨a, vs, e, h a _ s (.inr (.inl z)), hz a z, Dens.loc hz h q, rfl⟩
  | .dK true ks ds, _, c, h, q => by
    obtain ⟨a, vs, c', e, s, ek, q, rfl⟩ := q
    refine ⟨a, vs, c', e, h a _ s (.inr (.inr ?_)), ek, Dens.loc hz (fun b o e m => h b o e ?_) q, rfl⟩
    · rw [add_at, one_self]; omega
    · rcases m with m | m | m
      · exact .inl m
      · exact .inr (.inl m)
      · exact .inr (.inr (by rw [add_at]; omega))
  | .dK false ks ds, _, c, h, q => by
    obtain ⟨a, vs, e, s, ek, z, q, rfl⟩ := q
    exact ⟨a, vs, e, h a _ s (.inr (.inl z)), ek, hz a z, Dens.loc hz h q, rfl⟩
  | .dT true ks ds, _, c, h, q => by
    obtain ⟨a, vs, c', e, s, ek, q, rfl⟩ := q
    refine ⟨a, vs, c', e, h a _ s (.inr (.inr ?_)), ek, Dens.loc hz (fun b o e m => h b o e ?_) q, rfl⟩
    · rw [add_at, one_self]; omega
    · rcases m with m | m | m
      · exact .inl m
      · exact .inr (.inl m)
      · exact .inr (.inr (by rw [add_at]; omega))
  | .dT false ks ds, _, c, h, q => by
    obtain ⟨a, vs, e, s, ek, z, q, rfl⟩ := q
    exact ⟨a, vs, e, h a _ s (.inr (.inl z)), ek, hz a z, Dens.loc hz h q, rfl⟩
  | .scr ns, _, _, h, q => by
    obtain ⟨a, e, s, q⟩ := q
    exact ⟨a, e, ScrL.loc (fun a o e m => h a o e (.inl m)) s, q⟩
theorem Dens.loc (hz : ∀ a, Z a → Z' a) : ∀ {ds : List D} {vs : List V} {c : Cnt}, (∀ a o, H a = some o → (isMut o = false ∨ Z a ∨ c a ≠ 0) → H' a = some o) → Dens K Z H ds vs c → Dens K Z' H' ds vs c
  | [], _, _, _, q => q
  | d :: ds, _, _, h, q => by
    obtain ⟨v, r, c1, c2, e, q1, q2, rfl⟩ := q
    refine ⟨v, r, c1, c2, e, Den.loc hz (fun b o e m => h b o e ?_) q1, Dens.loc hz (fun b o e m => h b o e ?_) q2, rfl⟩
    · rcases m with m | m | m
      · exact .inl m
      · exact .inr (.inl m)
      · exact .inr (.inr (by rw [add_at]; omega))
    · rcases m with m | m | m
      · exact .inl m
      · exact .inr (.inl m)
      · exact .inr (.inr (by rw [add_at]; omega))
end

mutual
theorem Den.mut : ∀ {d : D} {v : V} {c : Cnt}, Den K Z H d v c → ∀ a, c a ≠ 0 → MutA H a
  | .non, _, _, q => by obtain ⟨_, rfl⟩ := q; intro a h; exact absurd rfl h
  | .bl _, _, _, q => by obtain ⟨_, rfl⟩ := q; intro a h; exact absurd rfl h
  | .int _, _, _, q => by obtain ⟨_, rfl⟩ := q; intro a h; exact absurd rfl h
  | .str _, _, _, q => by obtain ⟨_, rfl⟩ := q; intro a h; exact absurd rfl h
  | .tup ds, _, _, q => by obtain ⟨a, vs, e, s, q⟩ := q; exact Dens.mut q
  | .lst true ds, _, _, q => by
    obtain ⟨a, vs, c', e, s, q, rfl⟩ := q
    intro b h
    by_cases hb : b = a
    · subst hb; exact ⟨_, s, rfl⟩
    · rw [add_at, one_ne hb] at h; exact Dens.mut q b (by omega)
  | .lst false ds, _, _, q => by obtain ⟨a, vs, e, s, z, q, rfl⟩ := q; intro a h; exact absurd rfl h
  | .dK true ks ds, _, _, q => by
    obtain ⟨a, vs, c', e, s, ek, q, rfl⟩ := q
    intro b h
    by_cases hb : b = a
    · subst hb; exact ⟨_, s, rfl⟩
    · rw [add_at, one_ne hb] at h; exact Dens.mut q b (by omega)
  | .dK false ks ds, _, _, q => by obtain ⟨a, vs, e, s, ek, z, q, rfl⟩ := q; intro a h; exact absurd rfl h
  | .dT true ks ds, _, _, q => by
    obtain ⟨a, vs, c', e, s, ek, q, rfl⟩ := q
    intro b h
    by_cases hb : b = a
    · subst hb; exact ⟨_, s, rfl⟩
    · rw [add_at, one_ne hb] at h; exact Dens.mut q b (by omega)
  | .dT false ks ds, _, _, q => by obtain ⟨a, vs, e, s, ek, z, q, rfl⟩ := q; intro a h; exact absurd rfl h
  | .scr ns, _, _, q => by obtain ⟨a, e, s, rfl⟩ := q; intro a h; exact absurd rfl h
theorem Dens.mut : ∀ {ds : List D} {vs : List V} {c : Cnt}, Dens K Z H ds vs c → ∀ a, c a ≠ 0 → MutA H a
  | [], _, _, q => by obtain ⟨_, rfl⟩ := q; intro a h; exact absurd rfl h
  | d :: ds, _, _, q => by
    obtain ⟨v, r, c1, c2, e, q1, q2, rfl⟩ := q
    intro a h
    rw [add_at] at h
    by_cases h1 : c1 a = 0
    · exact Dens.mut q2 a (by omega)
    · exact Den.mut q1 a h1
end

mutual
theorem Den.pl : ∀ {d : D} {v : V} {c : Cnt}, d.plain = true → Den K Z H d v c → c = zc
  | .non, _, _, _, q => q.2
  | .bl _, _, _, _, q => q.2
  | .int _, _, _, _, q => q.2
  | .str _, _, _, _, q => q.2
  | .tup ds, _, _, p, q => by obtain ⟨a, vs, e, s, q⟩ := q; exact Dens.pl p q
  | .lst true ds, _, _, p, q => by cases p
  | .lst false ds, _, _, p, q => by obtain ⟨a, vs, e, s, z, q, rfl⟩ := q; rfl
  | .dK true ks ds, _, _, p, q => by cases p
  | .dK false ks ds, _, _, p, q => by obtain ⟨a, vs, e, s, ek, z, q, rfl⟩ := q; rfl
  | .dT true ks ds, _, _, p, q => by cases p
  | .dT false ks ds, _, _, p, q => by obtain ⟨a, vs, e, s, ek, z, q, rfl⟩ := q; rfl
  | .scr ns, _, _, _, q => by obtain ⟨a, e, s, rfl⟩ := q; rfl
theorem Dens.pl : ∀ {ds : List D} {vs : List V} {c : Cnt}, D.plains ds = true → Dens K Z H ds vs c → c = zc
  | [], _, _, _, q => q.2
  | d :: ds, _, _, p, q => by
    obtain ⟨v, r, c1, c2, e, q1, q2, rfl⟩ := q
    have p : (D.plain d && D.plains ds) = true := p
    rw [Bool.and_eq_true] at p
    rw [Den.pl p.1 q1, Dens.pl p.2 q2, add_zc]
end

mutual
theorem Den.frz {W : Addr → Prop} (hz : ∀ a, Z a → W a) : ∀ {d : D} {v : V} {c : Cnt}, (∀ a, c a ≠ 0 → W a) → Den K Z H d v c → Den K W H d.freeze v zc
  | .non, _, _, _, q => ⟨q.1, rfl⟩
  | .bl _, _, _, _, q => ⟨q.1, rfl⟩
  | .int _, _, _, _, q => ⟨q.1, rfl⟩
  | .str _, _, _, _, q => ⟨q.1, rfl⟩
  | .tup ds, _, _, h, q => by obtain ⟨a, vs, e, s, q⟩ := q; exact ⟨a, vs, e, s, Dens.frz hz h q⟩
  | .lst true ds, _, _, h, q => by
    obtain ⟨a, vs, c', e, s, q, rfl⟩ := q
    exact ⟨a, vs, e, s, h a (by rw [add_at, one_self]; omega), Dens.frz hz (fun b x => h b (by rw [add_at]; omega)) q, rfl⟩
  | .lst false ds, _, _, h, q => by obtain ⟨a, vs, e, s, z, q, rfl⟩ := q; exact ⟨a, vs, e, s, hz a z, Dens.frz hz h q, rfl⟩
  | .dK true ks ds, _, _, h, q => by
    obtain ⟨a, vs, c', e, s, ek, q, rfl⟩ := q
    exact ⟨a, vs, e, s, ek, h a (by rw [add_at, one_self]; omega), Dens.frz hz (fun b x => h b (by rw [add_at]; omega)) q, rfl⟩
  | .dK false ks ds, _, _, h, q => by obtain ⟨a, vs, e, s, ek, z, q, rfl⟩ := q; exact ⟨a, vs, e, s, ek, hz a z, Dens.frz hz h q, rfl⟩
  | .dT true ks ds, _, _, h, q => by
    obtain ⟨a, vs, c', e, s, ek, q, rfl⟩ := q
    exact ⟨a, vs, e, s, ek, h a (by rw [add_at, one_self]; omega), Dens.frz hz (fun b x => h b (by rw [add_at]; omega)) q, rfl⟩
  | .dT false ks ds, _, _, h, q => by obtain ⟨a, vs, e, s, ek, z, q, rfl⟩ := q; exact ⟨a, vs, e, s, ek, hz a z, Dens.frz hz h q, rfl⟩
  | .scr ns, _, _, _, q => by obtain ⟨a, e, s, rfl⟩ := q; exact ⟨a, e, s, rfl⟩
theorem Dens.frz {W : Addr → Prop} (hz : ∀ a, Z a → W a) : ∀ {ds : List D} {vs : List V} {c : Cnt}, (∀ a, c a ≠ 0 → W a) → Dens K Z H ds vs c → Dens K W H (D.freezes ds) vs zc
  | [], _, _, _, q => ⟨q.1, rfl⟩
  | d :: ds, _, _, h, q => by
    obtain ⟨v, r, c1, c2, e, q1, q2, rfl⟩ := q
    exact ⟨v, r, zc, zc, e, Den.frz hz (fun b x => h b (by rw [add_at]; omega)) q1, Dens.frz hz (fun b x => h b (by rw [add_at]; omega)) q2, (add_zc _).symm⟩
end

theorem Dens.length : ∀ {ds : List D} {vs : List V} {c : Cnt}, Dens K Z H ds vs c → vs.length = ds.length
  | [], _, _, q => by obtain ⟨rfl, _⟩ := q; rfl
  | d :: ds, _, _, q => by
    obtain ⟨v, r, c1, c2, rfl, q1, q2, rfl⟩ := q
    simp [Dens.length q2]
theorem Dens.app : ∀ {ds es : List D} {vs ws : List V} {c d : Cnt}, Dens K Z H ds vs c → Dens K Z H es ws d → Dens K Z H (ds ++ es) (vs ++ ws) (add c d)
  | [], _, _, _, _, _, q, p => by obtain ⟨rfl, rfl⟩ := q; rw [zc_add]; exact p
  | d :: ds, _, _, _, _, _, q, p => by
    obtain ⟨v, r, c1, c2, rfl, q1, q2, rfl⟩ := q
    exact ⟨v, _, c1, _, rfl, q1, Dens.app q2 p, add_assoc _ _ _⟩
/-- the item at a place, with the rest -/
theorem Dens.at : ∀ {ds : List D} {vs : List V} {c : Cnt} {i : Nat} {d : D}, Dens K Z H ds vs c → ds[i]? = some d → ∃ v c1 c2, vs[i]? = some v ∧ Den K Z H d v c1 ∧ c = add c1 c2 ∧
    ∀ {Z' : Addr → Prop} {H' : Hp} {e : D} {u : V} {c' : Cnt}, (∀ a, Z a → Z' a) → (∀ a o, H a = some o → (isMut o = false ∨ Z a ∨ c2 a ≠ 0) → H' a = some o) → Den K Z' H' e u c' → Dens K Z' H' (ds.set i e) (vs.set i u) (add c' c2)
  | [], _, _, _, _, _, h => by simp at h
  | d :: ds, _, _, 0, _, q, h => by
    obtain ⟨v, r, c1, c2, rfl, q1, q2, rfl⟩ := q
    simp at h; subst h
    exact ⟨v, c1, c2, rfl, q1, rfl, fun hz hl p => ⟨_, _, _, _, rfl, p, Dens.loc hz hl q2, rfl⟩⟩
  | d :: ds, _, _, i + 1, _, q, h => by
    obtain ⟨v, r, c1, c2, rfl, q1, q2, rfl⟩ := q
    obtain ⟨w, k1, k2, e1, p1, rfl, f⟩ := Dens.at (i := i) q2 (by simpa using h)
    refine ⟨w, k1, add c1 k2, by simpa using e1, p1, ?_, fun hz hl p => ?_⟩
    · funext a; simp only [add]; omega
    · refine ⟨v, _, c1, _, rfl, Den.loc hz (fun a o e m => hl a o e ?_) q1, f hz (fun a o e m => hl a o e ?_) p, ?_⟩
      · rcases m with m | m | m
        · exact .inl m
        · exact .inr (.inl m)
        · exact .inr (.inr (by simp only [add]; omega))
      · rcases m with m | m | m
        · exact .inl m
        · exact .inr (.inl m)
        · exact .inr (.inr (by simp only [add]; omega))
      · funext a; simp only [add]; omega
theorem Dens.getV : ∀ {ds : List D} {vs : List V} {c : Cnt} {i : Nat} {v : V}, Dens K Z H ds vs c → vs[i]? = some v → ∃ d c1 c2, ds[i]? = some d ∧ Den K Z H d v c1 ∧ c = add c1 c2
  | [], _, _, _, _, q, h => by obtain ⟨rfl, _⟩ := q; simp at h
  | d :: ds, _, _, 0, _, q, h => by
    obtain ⟨v, r, c1, c2, rfl, q1, q2, rfl⟩ := q
    simp at h; subst h
    exact ⟨d, c1, c2, rfl, q1, rfl⟩
  | d :: ds, _, _, i + 1, _, q, h => by
    obtain ⟨v, r, c1, c2, rfl, q1, q2, rfl⟩ := q
    obtain ⟨w, k1, k2, e1, p1, rfl⟩ := Dens.getV (i := i) q2 (by simpa using h)
    refine ⟨w, k1, add c1 k2, by simpa using e1, p1, ?_⟩
    funext a; simp only [add]; omega
end

/-! ### the frame's slots -/
abbrev EnvD := List (Option D)
section
variable (K : PySem.W.Frag) (Z : Addr → Prop) (H : Hp)
def ED : EnvD → St → Cnt → Prop
  | [], s, c => s = [] ∧ c = zc
  | none :: e, s, c => ∃ x r, s = x :: r ∧ ED e r c
  | some d :: e, s, c => ∃ v r c1 c2, s = some v :: r ∧ Den K Z H d v c1 ∧ ED e r c2 ∧ c = add c1 c2
end
section
variable {K : PySem.W.Frag} {Z Z' : Addr → Prop} {H H' : Hp}
theorem ED.len : ∀ {e : EnvD} {s : St} {c : Cnt}, ED K Z H e s c → s.length = e.length
  | [], _, _, q => by obtain ⟨rfl, _⟩ := q; rfl
  | none :: e, _, _, q => by obtain ⟨x, r, rfl, q⟩ := q; simp [ED.len q]
  | some d :: e, _, _, q => by obtain ⟨v, r, c1, c2, rfl, q1, q, rfl⟩ := q; simp [ED.len q]
theorem ED.loc (hz : ∀ a, Z a → Z' a) : ∀ {e : EnvD} {s : St} {c : Cnt}, (∀ a o, H a = some o → (isMut o = false ∨ Z a ∨ c a ≠ 0) → H' a = some o) → ED K Z H e s c → ED K Z' H' e s c
  | [], _, _, _, q => q
  | none :: e, _, _, h, q => by obtain ⟨x, r, rfl, q⟩ := q; exact ⟨x, r, rfl, ED.loc hz h q⟩
  | some d :: e, _, _, h, q => by
    obtain ⟨v, r, c1, c2, rfl, q1, q2, rfl⟩ := q
    refine ⟨v, r, c1, c2, rfl, Den.loc hz (fun b o e m => h b o e ?_) q1, ED.loc hz (fun b o e m => h b o e ?_) q2, rfl⟩
    · rcases m with m | m | m
      · exact .inl m
      · exact .inr (.inl m)
      · exact .inr (.inr (by rw [add_at]; omega))
    · rcases m with m | m | m
      · exact .inl m
      · exact .inr (.inl m)
      · exact .inr (.inr (by rw [add_at]; omega))
theorem ED.mut : ∀ {e : EnvD} {s : St} {c : Cnt}, ED K Z H e s c → ∀ a, c a ≠ 0 → MutA H a
  | [], _, _, q => by obtain ⟨_, rfl⟩ := q; intro a h; exact absurd rfl h
  | none :: e, _, _, q => by obtain ⟨x, r, rfl, q⟩ := q; exact ED.mut q
  | some d :: e, _, _, q => by
    obtain ⟨v, r, c1, c2, rfl, q1, q2, rfl⟩ := q
    intro a h
    rw [add_at] at h
    by_cases h1 : c1 a = 0
    · exact ED.mut q2 a (by omega)
    · exact Den.mut q1 a h1
/-- a slot taken out -/
theorem ED.take : ∀ {e : EnvD} {s : St} {c : Cnt} {i : Nat} {d : D}, ED K Z H e s c → e[i]? = some (some d) → ∃ v c1 c2, s[i]? = some (some v) ∧ Den K Z H d v c1 ∧ ED K Z H (e.set i none) s c2 ∧ c = add c1 c2
  | [], _, _, _, _, _, h => by simp at h
  | some d :: e, _, _, 0, _, q, h => by
    obtain ⟨v, r, c1, c2, rfl, q1, q2, rfl⟩ := q
    simp at h; subst h
    exact ⟨v, c1, c2, rfl, q1, ⟨_, _, rfl, q2⟩, rfl⟩
  | none :: e, _, _, 0, _, q, h => by simp at h
  | none :: e, _, _, i + 1, _, q, h => by
    obtain ⟨x, r, rfl, q⟩ := q
    obtain ⟨v, c1, c2, e1, q1, q2, rfl⟩ := ED.take (i := i) q (by simpa using h)
    exact ⟨v, c1, c2, by simpa using e1, q1, ⟨_, _, rfl, q2⟩, rfl⟩
  | some d :: e, _, _, i + 1, _, q, h => by
    obtain ⟨v, r, c1, c2, rfl, q1, q2, rfl⟩ := q
    obtain ⟨w, k1, k2, e1, p1, p2, rfl⟩ := ED.take (i := i) q2 (by simpa using h)
    refine ⟨w, k1, add c1 k2, by simpa using e1, p1, ⟨v, r, c1, k2, rfl, q1, p2, rfl⟩, ?_⟩
    funext a; simp only [add]; omega
/-- a slot given a value; its value on the frame may be another -/
theorem ED.put : ∀ {e : EnvD} {s : St} {c c1 : Cnt} {i : Nat} {d : D} {v : V}, ED K Z H (e.set i none) s c → i < e.length → Den K Z H d v c1 → ED K Z H (e.set i (some d)) (s.set i (some v)) (add c1 c)
  | [], _, _, _, _, _, _, _, h, _ => by simp at h
  | x :: e, _, _, _, 0, _, _, q, h, p => by
    obtain ⟨y, r, rfl, q⟩ := q
    exact ⟨_, _, _, _, rfl, p, q, rfl⟩
  | none :: e, _, _, _, i + 1, _, _, q, h, p => by
    obtain ⟨y, r, rfl, q⟩ := q
    exact ⟨_, _, rfl, ED.put (i := i) q (by simpa using h) p⟩
  | some d :: e, _, _, _, i + 1, _, _, q, h, p => by
    obtain ⟨v, r, c1, c2, rfl, q1, q2, rfl⟩ := q
    refine ⟨v, _, c1, _, rfl, q1, ED.put (i := i) q2 (by simpa using h) p, ?_⟩
    funext a; simp only [add]; omega
theorem set_self {s : St} {i : Nat} {v : V} (h : s[i]? = some (some v)) : s.set i (some v) = s := by
  apply List.ext_getElem?
  intro j
  by_cases hj : i = j
  · subst hj
    rw [List.getElem?_set_self (List.getElem?_eq_some_iff.mp h).1, h]
  · rw [List.getElem?_set_ne hj]
/-- a slot forgotten -/
theorem ED.drop : ∀ {e : EnvD} {s : St} {c : Cnt} (i : Nat), ED K Z H e s c → ∃ c2 c1, ED K Z H (e.set i none) s c2 ∧ c = add c1 c2
  | e, s, c, i, q => by
    cases h : e[i]? with
    | none =>
      have hi : e.length ≤ i := List.getElem?_eq_none_iff.mp h
      rw [List.set_eq_of_length_le hi]
      exact ⟨c, zc, q, (zc_add c).symm⟩
    | some x =>
      cases x with
      | none =>
        refine ⟨c, zc, ?_, (zc_add c).symm⟩
        have : e.set i none = e := by
          apply List.ext_getElem?
          intro j
          by_cases hj : i = j
          · subst hj
            rw [List.getElem?_set_self (List.getElem?_eq_some_iff.mp h).1, h]
          · rw [List.getElem?_set_ne hj]
        rw [this]; exact q
      | some d =>
        obtain ⟨v, c1, c2, _, _, q2, e⟩ := q.take h
        exact ⟨c2, c1, q2, e⟩
end

/-! ### who owns what; what a step keeps -/
def Gd (Z : Addr → Prop) (H : Hp) (c : Cnt) : Prop := ∀ a, c a ≤ 1 ∧ (c a ≠ 0 → MutA H a) ∧ (Z a → c a = 0 ∧ H a ≠ none)
def Fr (m : Bool) (Z : Addr → Prop) (H : Hp) (c : Cnt) (Z' : Addr → Prop) (H' : Hp) (c' : Cnt) : Prop :=
  ∀ a, (Z a → Z' a) ∧ (H a ≠ none → H' a ≠ none) ∧ (H a ≠ none → m = true ∨ c a = 0 → H' a = H a) ∧ (H a ≠ none → c a = 0 → c' a = 0 ∧ (Z' a → Z a))
section
variable {Z Z' Z1 : Addr → Prop} {H H' H1 : Hp} {c c' c1 e : Cnt} {m : Bool}
theorem MutA.ne {a : Addr} (h : MutA H a) : H a ≠ none := by obtain ⟨o, h, _⟩ := h; rw [h]; simp
theorem Gd.non0 (g : Gd Z H c) {a : Addr} (h : H a = none) : c a = 0 := by
  by_cases h1 : c a = 0
  · exact h1
  · exact absurd h ((g a).2.1 h1).ne
theorem Gd.nm (g : Gd Z H c) {a : Addr} {o : HO} (h : H a = some o) (m : isMut o = false) : c a = 0 := by
  by_cases h1 : c a = 0
  · exact h1
  · obtain ⟨u, hu, mu⟩ := (g a).2.1 h1
    rw [h] at hu; cases hu; rw [m] at mu; cases mu
theorem Gd.le (g : Gd Z H c) (h : ∀ a, c' a ≤ c a) : Gd Z H c' := fun a => by
  obtain ⟨g1, g2, g3⟩ := g a
  have := h a
  exact ⟨by omega, fun x => g2 (by omega), fun z => ⟨by have := (g3 z).1; omega, (g3 z).2⟩⟩
theorem Fr.refl : Fr m Z H c Z H c := fun a => ⟨fun z => z, fun h => h, fun _ _ => rfl, fun _ h => ⟨h, fun z => z⟩⟩
theorem Fr.lessL (f : Fr m Z H c Z' H' c') (h : ∀ a, c a ≤ e a) : Fr m Z H e Z' H' c' := fun a => by
  obtain ⟨f1, f2, f3, f4⟩ := f a
  have := h a
  exact ⟨f1, f2, fun n x => f3 n (x.elim .inl fun y => .inr (by omega)), fun n x => f4 n (by omega)⟩
theorem Fr.lessR (f : Fr m Z H c Z' H' c') (h : ∀ a, e a ≤ c' a) : Fr m Z H c Z' H' e := fun a => by
  obtain ⟨f1, f2, f3, f4⟩ := f a
  have := h a
  exact ⟨f1, f2, f3, fun n x => ⟨by have := (f4 n x).1; omega, (f4 n x).2⟩⟩
theorem Fr.trans (f : Fr m Z H c Z1 H1 c1) (g : Fr m Z1 H1 c1 Z' H' c') : Fr m Z H c Z' H' c' := fun a => by
  obtain ⟨f1, f2, f3, f4⟩ := f a
  obtain ⟨g1, g2, g3, g4⟩ := g a
  refine ⟨fun z => g1 (f1 z), fun n => g2 (f2 n), fun n x => ?_, fun n x => ?_⟩
  · rw [g3 (f2 n) (x.elim .inl fun y => .inr (f4 n y).1), f3 n x]
  · exact ⟨(g4 (f2 n) (f4 n x).1).1, fun z => (f4 n x).2 ((g4 (f2 n) (f4 n x).1).2 z)⟩
theorem Fr.weak (f : Fr m Z H c Z' H' c') : Fr false Z H c Z' H' c' := fun a => by
  obtain ⟨f1, f2, f3, f4⟩ := f a
  exact ⟨f1, f2, fun n x => f3 n (x.elim (fun z => nomatch z) .inr), f4⟩
/-- what others own stays -/
theorem Fr.ext (f : Fr m Z H c Z' H' c') (g : Gd Z H (add c e)) (g' : Gd Z' H' c') : Gd Z' H' (add c' e) ∧ Fr m Z H (add c e) Z' H' (add c' e) := by
  have key : ∀ a, (e a ≠ 0 → H a ≠ none ∧ c a = 0) := fun a h => by
    obtain ⟨g1, g2, g3⟩ := g a
    simp only [add] at g1 g2
    exact ⟨(g2 (by omega)).ne, by omega⟩
  refine ⟨fun a => ?_, fun a => ?_⟩
  · obtain ⟨f1, f2, f3, f4⟩ := f a
    obtain ⟨g1, g2, g3⟩ := g a
    obtain ⟨k1, k2, k3⟩ := g' a
    simp only [add] at *
    by_cases he : e a = 0
    · rw [he] at *
      exact ⟨by omega, fun x => k2 (by omega), fun z => ⟨by have := (k3 z).1; omega, (k3 z).2⟩⟩
    · obtain ⟨hn, hc⟩ := key a he
      have hc' := (f4 hn hc).1
      refine ⟨by omega, fun x => ?_, fun z => ?_⟩
      · obtain ⟨o, ho, mo⟩ := g2 (by omega)
        exact ⟨o, by rw [f3 hn (.inr hc)]; exact ho, mo⟩
      · exact absurd (g3 ((f4 hn hc).2 z)).1 (by omega)
  · obtain ⟨f1, f2, f3, f4⟩ := f a
    simp only [add]
    exact ⟨f1, f2, fun n x => f3 n (x.elim .inl fun y => .inr (by omega)), fun n x => ⟨by have := (f4 n (by omega)).1; omega, (f4 n (by omega)).2⟩⟩
/-- .. as locality asks -/
theorem Fr.keep (f : Fr m Z H c Z' H' c') (g : Gd Z H (add c e)) : ∀ a o, H a = some o → (isMut o = false ∨ Z a ∨ e a ≠ 0) → H' a = some o := fun a o h x => by
  have hc : c a = 0 := by
    have ga := g a
    simp only [add] at ga
    rcases x with x | x | x
    · have := g.nm h x; simp only [add] at this; omega
    · have := (ga.2.2 x).1; omega
    · omega
  rw [(f a).2.2.1 (by rw [h]; simp) (.inr hc)]; exact h
theorem Fr.zz (f : Fr m Z H c Z' H' c') : ∀ a, Z a → Z' a := fun a => (f a).1
/-- in a pure step all stays -/
theorem Fr.pure (f : Fr true Z H c Z' H' c') : ∀ a o, H a = some o → H' a = some o := fun a o h => by
  rw [(f a).2.2.1 (by rw [h]; simp) (.inl rfl)]; exact h
/-- a new object -/
theorem Gd.new {p : Addr} {o : HO} (g : Gd Z H c) (hp : H p = none) (mo : isMut o = true) : Gd Z (upd H p o) (add (one p) c) := fun a => by
  obtain ⟨g1, g2, g3⟩ := g a
  by_cases h : a = p
  · subst h
    have := g.non0 hp
    refine ⟨by simp only [add, one_self]; omega, fun _ => ⟨o, upd_same, mo⟩, fun z => absurd hp (g3 z).2⟩
  · simp only [add, one_ne h, MutA, upd_ne h]
    exact ⟨by omega, fun x => g2 (by omega), fun z => ⟨by have := (g3 z).1; omega, (g3 z).2⟩⟩
theorem Gd.newT {p : Addr} {o : HO} (g : Gd Z H c) (hp : H p = none) : Gd Z (upd H p o) c := fun a => by
  obtain ⟨g1, g2, g3⟩ := g a
  by_cases h : a = p
  · subst h
    have := g.non0 hp
    exact ⟨g1, fun x => absurd this x, fun z => absurd hp (g3 z).2⟩
  · simp only [MutA, upd_ne h]
    exact ⟨g1, g2, g3⟩
theorem Fr.new {p : Addr} {o : HO} (hp : H p = none) : Fr m Z H c Z (upd H p o) (add (one p) c) := fun a => by
  by_cases h : a = p
  · subst h
    exact ⟨fun z => z, fun n => absurd hp n, fun n => absurd hp n, fun n => absurd hp n⟩
  · simp only [add, one_ne h, upd_ne h]
    exact ⟨fun z => z, fun n => n, fun _ _ => trivial, fun _ x => ⟨by omega, fun z => z⟩⟩
theorem Fr.newT {p : Addr} {o : HO} (hp : H p = none) : Fr m Z H c Z (upd H p o) c := fun a => by
  by_cases h : a = p
  · subst h
    exact ⟨fun z => z, fun n => absurd hp n, fun n => absurd hp n, fun n => absurd hp n⟩
  · simp only [upd_ne h]
    exact ⟨fun z => z, fun n => n, fun _ _ => trivial, fun _ x => ⟨by omega, fun z => z⟩⟩
theorem keep_new {p : Addr} {o : HO} (hp : H p = none) : ∀ a u, H a = some u → upd H p o a = some u := fun a u h => by
  rw [upd_ne (ne_of_none h hp)]; exact h
end
end DL
end

section
/-! DL2: the compact text and its evaluator over data alone. -/
namespace DL
open PySem PySem.Spec L2

inductive Ty where | int | bool | tuple | str | list
  deriving DecidableEq
inductive Op where
  | bin (o : Operator)
  | cmp (o : CmpOp)
  | neg
  | isN | notN | isB (b : Bool) | nisB (b : Bool)
  | len | tuple | list | sorted | sum | sumT | all | any | min | max | abs | toInt | toStr | dict
  | min2 | max2
  | setLen | setSorted
  | lrange | trange
  | isi (t : Ty)
  | rev
  | index | count | get2
  deriving DecidableEq

inductive Tg where
  | nm (i : Nat)
  | tp (ts : List Tg)

inductive SrcK where
  | rng | it (lend : Bool) | zip

inductive MT where | l | d
  deriving DecidableEq

mutual
inductive E where
  | var (i : Nat) | mv (i : Nat) | fz (i : Nat)
  | int (n : Int) | bl (b : Bool) | non | str (s : Str)
  | op (o : Op) (es : List E)
  | sub (a i : E)
  | tup (es : List E) | lst (es : List E)
  | dK (kvs : List E)
  | dT
  | sli (a : E) (lo hi : List E)
  | ite (c : T) (a b : E)
  | and (es : List E) | or (es : List E) | not (e : E)
  | cmp2 (o1 o2 : CmpOp) (a b c : E)
  | cmp3 (o1 o2 o3 : CmpOp) (a b c d : E)
  | call (f : Nat) (es : List E)
  | pop (i : Nat) (path : List E)
  | popAt (i : Nat) (path : List E) (k : E)
  | comp (tg : Tg) (own : List Nat) (k : SrcK) (src : List E) (ifs : List T) (elt : E)
  | frz (e : E)
  | glb (x : Str) (ns : List Int)
  | mth (t : MT) (o : Op) (a : E) (es : List E)
inductive T where
  | val (e : E)
  | and (ts : List T) | or (ts : List T) | not (t : T)
  | ite (c a b : T)
end

inductive LV where
  | nm (i : Nat)
  | sb (i : Nat) (path : List E) (k : E)

inductive S where
  | asg (t : Tg) (e : E)
  | par (is : List Nat) (es : List E)
  | sto (i : Nat) (path : List E) (k : E) (e : E)
  | stoT (ts : List LV) (e : E)
  | aug (i : Nat) (o : Operator) (e : E)
  | augS (i : Nat) (path : List E) (k : E) (o : Operator) (e : E)
  | app (i : Nat) (path : List E) (e : E)
  | ext (i : Nat) (path : List E) (e : E)
  | rem (i : Nat) (path : List E) (e : E)
  | ex (e : E)
  | ite (c : T) (a b : List S)
  | whl (c : T) (b : List S)
  | for_ (tg : Tg) (k : SrcK) (src : List E) (b : List S)
  | ret (e : E) | retN | brk | cnt | pass

/-! ### data -/
mutual
def D.py : D → PyData
  | .non => .none
  | .bl b => .bool b
  | .int i => .int i
  | .str s => .str s
  | .tup ds => .tuple (D.pys ds)
  | .lst _ ds => .list (D.pys ds)
  | .dK _ _ _ => .dict []
  | .dT _ _ _ => .dict []
  | .scr _ => .dict []
def D.pys : List D → List PyData
  | [] => []
  | d :: ds => D.py d :: D.pys ds
end
def D.shp (d : D) : Bool := SeqAt.shaped d.py
def D.eqv (d e : D) : Bool := PyData.eqv d.py e.py
def D.isNon : D → Bool
  | .non => true
  | _ => false
def D.flat : D → Bool
  | .non => true
  | .bl _ => true
  | .int _ => true
  | .str _ => true
  | _ => false
def D.truthy : D → Option Bool
  | .non => some false
  | .bl b => some b
  | .int i => some (i != 0)
  | .str s => if s.length ≤ sizeLine then some (s.length != 0) else none
  | .tup ds => some (!ds.isEmpty)
  | .lst _ ds => some (!ds.isEmpty)
  | .dK _ ks _ => some (!ks.isEmpty)
  | .dT _ _ _ => none
  | .scr _ => none
/-- the items that a loop walks -/
def D.items : D → Option (List D)
  | .tup ds => some ds
  | .lst _ ds => some ds
  | _ => none
def D.key? : D → Option Key
  | .int i => some (.inl i)
  | .str s => some (.inr s)
  | _ => none
def D.keys? : List D → Option (List Key)
  | [] => some []
  | d :: ds => (D.key? d).bind fun k => (D.keys? ds).map fun ks => k :: ks
def D.tkey? : D → Option (List Key)
  | .tup ds => D.keys? ds
  | _ => none
def kD : Key → D
  | .inl i => .int i
  | .inr x => .str x
def find {κ : Type} [DecidableEq κ] (k : κ) : List κ → Nat → Option Nat
  | [], _ => none
  | x :: r, n => if x = k then some n else find k r (n + 1)
def ints? : List D → Option (List Int)
  | [] => some []
  | .int i :: ds => (ints? ds).map fun r => i :: r
  | _ :: _ => none
def bls? : List D → Option (List Bool)
  | [] => some []
  | .bl i :: ds => (bls? ds).map fun r => i :: r
  | _ :: _ => none
/-- d[k] -/
def subD : D → D → Option D
  | .tup ds, .int i => atI ds i
  | .lst _ ds, .int i => atI ds i
  | .scr ns, .int i => (atI ns i).map .int
  | .dK _ ks ds, k => (D.key? k).bind fun k => (find k ks 0).bind fun j => ds[j]?
  | _, _ => none
def putD (k : Key) (v : D) (ks : List Key) (ds : List D) : List Key × List D := match find k ks 0 with
  | some j => (ks, ds.set j v)
  | none => (ks ++ [k], ds ++ [v])
def D.lst? : D → Option Unit
  | .lst _ _ => some ()
  | _ => none
def setD : D → D → D → Option D
  | .lst true ds, .int i, d => (ixN ds.length i).map fun j => .lst true (ds.set j d)
  | .dK true ks ds, k, d => (D.key? k).bind fun k => if ks.length < sizeLine then some (.dK true (putD k d ks ds).1 (putD k d ks ds).2) else none
  | _, _, _ => none
/-- d with what stands at a path changed -/
def updD (f : D → Option D) : D → List D → Option D
  | d, [] => f d
  | .lst true ds, .int k :: p => (ixN ds.length k).bind fun j => (ds[j]?).bind fun x => (updD f x p).map fun y => .lst true (ds.set j y)
  | .tup ds, .int k :: p => (ixN ds.length k).bind fun j => (ds[j]?).bind fun x => (updD f x p).map fun y => .tup (ds.set j y)
  | .dK true ks ds, k :: p => (D.key? k).bind fun k => (find k ks 0).bind fun j => (ds[j]?).bind fun x => (updD f x p).map fun y => .dK true ks (ds.set j y)
  | _, _ => none
def getP : D → List D → Option D
  | d, [] => some d
  | d, k :: p => (subD d k).bind fun x => getP x p

def mulOk (i j : Int) : Bool := decide (i.natAbs.log2 + j.natAbs.log2 < 1000000)
def divOk (j : Int) : Bool := decide (j ≠ 0) && decide (j.natAbs.log2 < 9000)
def divD (i j : Int) : Int := if 0 < j then i / j else i.fdiv j
def modD (i j : Int) : Int := if 0 < j then i % j else i.fmod j
def szOk (n : Nat) : Bool := decide (n ≤ sizeLine)
def rngOk (i : Int) : Bool := decide (-(2 ^ 62) ≤ i) && decide (i < 2 ^ 62)
def rngL (lo hi : Int) : List D := (List.range (hi - lo).toNat).map fun (k : Nat) => .int (lo + (k : Int))
def sortI (ns : List Int) : List Int := ns.mergeSort fun a b => decide (a ≤ b)
/-- pairs of ints -/
def prs? : List D → Option (List (Int × Int))
  | [] => some []
  | .tup [.int a, .int b] :: ds => (prs? ds).map fun r => (a, b) :: r
  | _ :: _ => none
def leD (p q : Int × Int) : Bool := decide (p.1 < q.1) || (decide (p.1 = q.1) && decide (p.2 ≤ q.2))
def sortPs (ps : List (Int × Int)) : List (Int × Int) := ps.mergeSort leD
def dedup (ns : List Int) : List Int := ns.foldr (fun a r => if a ∈ r then r else a :: r) []
def cutD (ds : List D) (lo hi : Option Int) : List D := (ds.drop (HT.sIx ds.length 0 lo)).take (HT.sIx ds.length ds.length hi - HT.sIx ds.length 0 lo)

def cutO : D → Option Int → Option Int → Option D
  | .tup ds, lo, hi => if D.plains ds then some (.tup (cutD ds lo hi)) else none
  | .lst _ ds, lo, hi => if D.plains ds then some (.lst true (cutD ds lo hi)) else none
  | _, _, _ => none
/-- k1, v1, k2, v2 .. -/
def pairsD : List D → Option (List (Key × D))
  | [] => some []
  | k :: v :: r => (D.key? k).bind fun k => (pairsD r).map fun ps => (k, v) :: ps
  | _ => none
def mergeD (ps : List (Key × D)) : List Key × List D := ps.foldl (fun x p => putD p.1 p.2 x.1 x.2) ([], [])
def dispD (xs : List D) : Option D := (pairsD xs).bind fun ps => if ps.length ≤ 15 then some (.dK true (mergeD ps).1 (mergeD ps).2) else none
def minI : List Int → Option Int
  | [] => none
  | x :: r => some (r.foldl (fun a b => if b < a then b else a) x)
def maxI : List Int → Option Int
  | [] => none
  | x :: r => some (r.foldl (fun a b => if b > a then b else a) x)

def binD : Operator → D → D → Option D
  | .Add, .int i, .int j => some (.int (i + j))
  | .Add, .tup xs, .tup ys => if D.plains xs && D.plains ys && szOk (xs.length + ys.length) then some (.tup (xs ++ ys)) else none
  | .Add, .lst _ xs, .lst _ ys => if D.plains xs && D.plains ys && szOk (xs.length + ys.length) then some (.lst true (xs ++ ys)) else none
  | .Sub, .int i, .int j => some (.int (i - j))
  | .Mult, .int i, .int j => if mulOk i j then some (.int (i * j)) else none
  | .Mult, .lst _ xs, .int k => if D.plains xs && decide (k < 2 ^ 62) && decide (-(2 ^ 62) ≤ k) && szOk (xs.length * k.toNat) then some (.lst true (List.replicate k.toNat xs).flatten) else none
  | .Mult, .tup xs, .int k => if D.plains xs && !xs.isEmpty && decide (k ≤ 1000) && decide (-(2 ^ 62) ≤ k) && decide (xs.length ≤ 1000) then some (.tup (List.replicate k.toNat xs).flatten) else none
  | .FloorDiv, .int i, .int j => if divOk j then some (.int (divD i j)) else none
  | .Mod, .int i, .int j => if decide (j ≠ 0) then some (.int (modD i j)) else none
  | .Pow, .int i, .int j => if decide (0 ≤ j) && decide (j ≤ 1000000) && decide (i.natAbs < 2 ^ 64) then some (.int (i ^ j.toNat)) else none
  | _, _, _ => none
def inD (x : D) (ys : List D) : Bool := ys.any fun y => D.eqv y x
def cmpD : CmpOp → D → D → Option D
  | .Eq, a, b => if a.shp && b.shp then some (.bl (a.eqv b)) else none
  | .NotEq, a, b => if a.shp && b.shp then some (.bl (!a.eqv b)) else none
  | .Lt, .int i, .int j => some (.bl (decide (i < j)))
  | .LtE, .int i, .int j => some (.bl (decide (i ≤ j)))
  | .Gt, .int i, .int j => some (.bl (decide (j < i)))
  | .GtE, .int i, .int j => some (.bl (decide (j ≤ i)))
  | .In, a, .tup ys => if a.flat && ys.all D.flat then some (.bl (inD a ys)) else none
  | .In, a, .lst _ ys => if a.flat && ys.all D.flat then some (.bl (inD a ys)) else none
  | .In, a, .dK _ ks _ => (D.key? a).map fun k => .bl (find k ks 0).isSome
  | .NotIn, a, .tup ys => if a.flat && ys.all D.flat then some (.bl (!inD a ys)) else none
  | .NotIn, a, .lst _ ys => if a.flat && ys.all D.flat then some (.bl (!inD a ys)) else none
  | .NotIn, a, .dK _ ks _ => (D.key? a).map fun k => .bl (!(find k ks 0).isSome)
  | _, _, _ => none
def isiD : Ty → D → Bool
  | .int, .int _ => true
  | .int, .bl _ => true
  | .bool, .bl _ => true
  | .tuple, .tup _ => true
  | .str, .str _ => true
  | .list, .lst _ _ => true
  | _, _ => false
def kints? : List Key → Option (List Int)
  | [] => some []
  | .inl i :: r => (kints? r).map fun ns => i :: ns
  | _ :: _ => none
/-- pairs of a key and a plain value -/
def prK? : List D → Option (List (Key × D))
  | [] => some []
  | .tup [k, v] :: r => if v.plain then (D.key? k).bind fun k => (prK? r).map fun ps => (k, v) :: ps else none
  | _ :: _ => none
def getKD (ks : List Key) (ds : List D) (k : Key) (x : D) : Option D := match find k ks 0 with
  | some j => ds[j]?
  | none => some x
def opD : Op → List D → Option D
  | .bin o, [a, b] => binD o a b
  | .cmp o, [a, b] => cmpD o a b
  | .neg, [.int i] => some (.int (-i))
  | .isN, [a] => some (.bl a.isNon)
  | .notN, [a] => some (.bl (!a.isNon))
  | .isB b, [.bl k] => some (.bl (decide (k = b)))
  | .nisB b, [.bl k] => some (.bl (!decide (k = b)))
  | .len, [.tup ds] => some (.int ds.length)
  | .len, [.lst _ ds] => some (.int ds.length)
  | .len, [.scr ns] => some (.int ns.length)
  | .len, [.dK _ ks _] => some (.int ks.length)
  | .tuple, [.tup ds] => if D.plains ds then some (.tup ds) else none
  | .tuple, [.lst _ ds] => if D.plains ds then some (.tup ds) else none
  | .list, [.tup ds] => if D.plains ds then some (.lst true ds) else none
  | .list, [.lst _ ds] => if D.plains ds then some (.lst true ds) else none
  | .sorted, [.tup ds] => (ints? ds).map fun ns => .lst true ((sortI ns).map .int)
  | .sorted, [.lst _ ds] => match ints? ds with
    | some ns => some (.lst true ((sortI ns).map .int))
    | none => (prs? ds).map fun ps => .lst true ((sortPs ps).map fun p => .tup [.int p.1, .int p.2])
  | .sum, [.lst _ ds] => (ints? ds).map fun ns => .int ns.sum
  | .sum, [.tup ds] => (ints? ds).map fun ns => .int ns.sum
  | .all, [.lst _ ds] => (bls? ds).map fun bs => .bl (bs.all id)
  | .any, [.lst _ ds] => (bls? ds).map fun bs => .bl (bs.any id)
  | .min, [.lst _ ds] => (ints? ds).bind fun ns => (minI ns).map .int
  | .min, [.tup ds] => (ints? ds).bind fun ns => (minI ns).map .int
  | .max, [.lst _ ds] => (ints? ds).bind fun ns => (maxI ns).map .int
  | .max, [.tup ds] => (ints? ds).bind fun ns => (maxI ns).map .int
  | .abs, [.int i] => some (.int (if i < 0 then -i else i))
  | .toInt, [.int i] => some (.int i)
  | .toInt, [.bl b] => some (.int (if b then 1 else 0))
  | .min2, [.int i, .int j] => some (.int (if j < i then j else i))
  | .max2, [.int i, .int j] => some (.int (if j > i then j else i))
  | .lrange, [.int j] => if rngOk j && szOk j.toNat then some (.lst true (rngL 0 j)) else none
  | .trange, [.int j] => if rngOk j && szOk j.toNat then some (.tup (rngL 0 j)) else none
  | .isi t, [.scr _] => none
  | .isi t, [a] => some (.bl (isiD t a))
  | .setLen, [.tup ds] => (ints? ds).bind fun ns => if ns.length ≤ 3000 then some (.int (dedup ns).length) else none
  | .setLen, [.lst _ ds] => (ints? ds).bind fun ns => if ns.length ≤ 3000 then some (.int (dedup ns).length) else none
  | .setSorted, [.tup ds] => (ints? ds).bind fun ns => if ns.length ≤ 3000 then (if (dedup ns).length < 64 then some (.lst true ((sortI (dedup ns)).map .int)) else none) else none
  | .rev, [.tup ds] => if D.plains ds then some (.tup ds.reverse) else none
  | .rev, [.lst _ ds] => if D.plains ds then some (.lst true ds.reverse) else none
  | .sorted, [.dK _ ks _] => (kints? ks).bind fun ns => if ns.length < 64 then some (.lst true ((sortI ns).map .int)) else none
  | .list, [.dK _ ks _] => some (.lst true (ks.map kD))
  | .dict, [.lst _ ds] => (prK? ds).map fun ps => .dK true (mergeD ps).1 (mergeD ps).2
  | .index, [.lst _ ds, .int k] => (ints? ds).bind fun ns => (find k ns 0).map fun (j : Nat) => .int (Int.ofNat j)
  | .count, [.lst _ ds, .int k] => (ints? ds).map fun ns => .int (ns.count k : Nat)
  | .get2, [.dK _ ks ds, k, x] => (D.key? k).bind fun k => (getKD ks ds k x).bind fun d => if d.plain then some d else none
  | _, _ => none

/-! ### the evaluator -/
/-- what an operand is: a value of its own, a slot's own thing, or a look into one -/
inductive A where
  | tmp (d : D) | ref (i : Nat) | pk (d : D)
def A.isPk : A → Bool
  | .pk _ => true
  | _ => false
def getE (env : EnvD) (i : Nat) : Option D := (env[i]?).join
def A.get (env : EnvD) : A → Option D
  | .tmp d => some d
  | .pk d => some d
  | .ref i => getE env i
def A.gets (env : EnvD) : List A → Option (List D)
  | [] => some []
  | a :: r => (A.get env a).bind fun d => (A.gets env r).map fun ds => d :: ds
/-- an operand kept: a slot's own thing is frozen -/
def mat (m : Bool) : A → EnvD → Option (D × EnvD)
  | .tmp d, env => some (d, env)
  | .pk _, _ => none
  | .ref i, env => if m then none else (getE env i).map fun d => (d.freeze, env.set i (some d.freeze))
def lendA : List A → EnvD → Option (List D × EnvD)
  | [], env => some ([], env)
  | .tmp d :: r, env => (lendA r env).map fun x => (d :: x.1, x.2)
  | .ref i :: r, env => (getE env i).bind fun d => (lendA r (env.set i none)).map fun x => (d :: x.1, x.2)
  | .pk _ :: _, _ => none
def backA : List A → List D → EnvD → EnvD
  | .ref i :: r, d :: ds, env => backA r ds (env.set i (some d))
  | .tmp _ :: r, _ :: ds, env => backA r ds env
  | _, _, env => env
def MT.has : MT → D → Option Unit
  | .l, .lst _ _ => some ()
  | .d, .dK _ _ _ => some ()
  | _, _ => none
def A.isTmp : A → Bool
  | .tmp _ => true
  | _ => false

def A.tmp? : A → Option D
  | .tmp d => some d
  | _ => none
def A.bl? : A → Option Bool
  | .tmp (.bl b) => some b
  | _ => none
def A.int? : A → Option Int
  | .tmp (.int i) => some i
  | _ => none
def D.bl? : D → Option Bool
  | .bl b => some b
  | _ => none
def mkA (t : Bool) (d : D) : A := if d.plain || t then .tmp d else .pk d

mutual
def bindT : Tg → D → EnvD → Option EnvD
  | .nm i, d, env => if i < env.length then some (env.set i (some d)) else none
  | .tp ts, .tup ds, env => bindTs ts ds env
  | .tp _, _, _ => none
def bindTs : List Tg → List D → EnvD → Option EnvD
  | [], [], env => some env
  | t :: ts, d :: ds, env => (bindT t d env).bind fun e => bindTs ts ds e
  | _, _, _ => none
end
def wipeE : List Nat → EnvD → EnvD
  | [], env => env
  | i :: r, env => (wipeE r env).set i none
/-- a thing of a slot that owns nothing -/
def plE : Option D → Option D
  | some d => if d.plain then some d else none
  | none => none
def restE : List Nat → EnvD → EnvD → EnvD
  | [], _, env => env
  | i :: r, env0, env => (restE r env0 env).set i (plE (getE env0 i))

inductive Fl where
  | nx | bk | ct | rt (d : D)

/-- a comprehension's loop: acc is what is made so far -/
def compF (step : D → EnvD → Option (Option D × EnvD)) : List D → List D → EnvD → Option (List D × EnvD)
  | [], acc, env => some (acc, env)
  | x :: r, acc, env => (step x env).bind fun p => match p.1 with
    | none => compF step r acc p.2
    | some d => if acc.length < sizeLine then compF step r (acc ++ [d]) p.2 else none
def loopF (step : D → EnvD → Option (Fl × EnvD)) : List D → EnvD → Option (Fl × EnvD)
  | [], env => some (.nx, env)
  | x :: r, env => (step x env).bind fun p => match p.1 with
    | .nx => loopF step r p.2
    | .ct => loopF step r p.2
    | .bk => some (.nx, p.2)
    | .rt d => some (.rt d, p.2)
def whileF (c : EnvD → Option (Bool × EnvD)) (b : EnvD → Option (Fl × EnvD)) (env : EnvD) : Option (Fl × EnvD) :=
  match c env with
  | none => none
  | some (false, e) => some (.nx, e)
  | some (true, e) => match b e with
    | none => none
    | some (.nx, e') => whileF c b e'
    | some (.ct, e') => whileF c b e'
    | some (.bk, e') => some (.nx, e')
    | some (.rt d, e') => some (.rt d, e')
partial_fixpoint

structure Ctx where
  call : Nat → List D → Option (D × List D)

def rngItems : List D → Option (List D)
  | [.int j] => if rngOk j then some (rngL 0 j) else none
  | [.int i, .int j] => if rngOk i && rngOk j then some (rngL i j) else none
  | _ => none

def unlend (l : Option (Nat × D)) (env : EnvD) : EnvD := match l with
  | none => env
  | some (i, d) => env.set i (some d)

/-- what a comprehension or a for walks -/
structure Src where
  its : List D
  m : Bool
  env : EnvD
  lent : Option (Nat × D)
def A.one? : List A → Option A
  | [a] => some a
  | _ => none
def A.ref? : A → Option Nat
  | .ref i => some i
  | _ => none
def srcI (lend m : Bool) (a : A) (env : EnvD) (d : D) (its : List D) : Option Src := match lend, a.ref? with
  | true, some i => if m then none else some ⟨its, m, env.set i none, some (i, d)⟩
  | _, _ => some ⟨its, m || !a.isTmp, env, none⟩
def srcC : SrcK → Bool → List A → EnvD → Option Src
  | .rng, m, as, env => ((A.gets env as).bind rngItems).map fun its => ⟨its, m, env, none⟩
  | .it lend, m, as, env => (A.one? as).bind fun a => (a.get env).bind fun d => (d.items).bind fun its => if D.plains its then srcI lend m a env d its else none
  | .zip, _, _, _ => none
/-- .. a for: a thing that is neither a temp nor lent is frozen -/
def forI (lend : Bool) (a : A) (env : EnvD) (d : D) (its : List D) : Option Src := match a with
  | .tmp _ => if D.plains its then some ⟨its, false, env, none⟩ else none
  | .ref i => if lend then (if D.plains its then some ⟨its, false, env.set i none, some (i, d)⟩ else none) else some ⟨D.freezes its, false, env.set i (some d.freeze), none⟩
  | .pk _ => none
def zipItems : List D → Option (List D)
  | [.tup xs, .tup ys] => if D.plains xs && D.plains ys then some ((xs.zip ys).map fun p => .tup [p.1, p.2]) else none
  | _ => none
def forC : SrcK → List A → EnvD → Option Src
  | .rng, as, env => ((A.gets env as).bind rngItems).map fun its => ⟨its, false, env, none⟩
  | .it lend, as, env => (A.one? as).bind fun a => (a.get env).bind fun d => (d.items).bind fun its => forI lend a env d its
  | .zip, as, env => ((A.gets env as).bind zipItems).map fun its => ⟨its, false, env, none⟩

/-- an item taken out of a list -/
def popD (k : Nat → Option Nat) : D → Option (D × D)
  | .lst true ds => (k ds.length).bind fun j => (ds[j]?).bind fun x => if x.plain then some (x, .lst true (ds.eraseIdx j)) else none
  | _ => none
def cmpI (o : CmpOp) (i j : Int) : Option Bool := (cmpD o (.int i) (.int j)).bind D.bl?
section
variable (P : Ctx)
mutual
def evA (m : Bool) : E → EnvD → Option (A × EnvD)
  | .var i, env => (getE env i).map fun d => (if d.plain then .tmp d else .ref i, env)
  | .mv i, env => if m then none else (getE env i).map fun d => (.tmp d, env.set i none)
  | .fz i, env => if m then none else (getE env i).map fun d => (.tmp d.freeze, env.set i (some d.freeze))
  | .int n, env => some (.tmp (.int n), env)
  | .bl b, env => some (.tmp (.bl b), env)
  | .non, env => some (.tmp .non, env)
  | .str s, env => some (.tmp (.str s), env)
  | .glb _ ns, env => some (.tmp (.tup (ns.map D.int)), env)
  | .op o es, env => (evAs m es env).bind fun x => (A.gets x.2 x.1).bind fun ds => (opD o ds).map fun d => (.tmp d, x.2)
  | .sub a i, env => (evA m a env).bind fun x => (evA (m || x.1.isPk) i x.2).bind fun y =>
      (x.1.get y.2).bind fun b => (y.1.get y.2).bind fun k => (subD b k).map fun d => (mkA x.1.isTmp d, y.2)
  | .tup es, env => (evMs m es env).bind fun x => if szOk x.1.length then some (.tmp (.tup x.1), x.2) else none
  | .lst es, env => (evMs m es env).bind fun x => if szOk x.1.length then some (.tmp (.lst true x.1), x.2) else none
  | .dK kvs, env => (evMs m kvs env).bind fun x => (dispD x.1).map fun d => (.tmp d, x.2)
  | .dT, env => some (.tmp (.dT true [] []), env)
  | .ite c a b, env => (evT m c env).bind fun x => if x.1 then evA m a x.2 else evA m b x.2
  | .and es, env => evAnd m es env
  | .or es, env => evOr m es env
  | .not e, env => (evA m e env).bind fun x => (x.1.get x.2).bind fun d => (d.truthy).map fun t => (.tmp (.bl (!t)), x.2)
  | .cmp2 o1 o2 a b c, env => (evA m a env).bind fun x => (evA (m || x.1.isPk) b x.2).bind fun y => (x.1.tmp?).bind fun dx => (y.1.tmp?).bind fun dy =>
      ((cmpD o1 dx dy).bind D.bl?).bind fun t => if t then (evA m c y.2).bind fun z => (z.1.tmp?).bind fun dz => (cmpD o2 dy dz).map fun d => (.tmp d, z.2) else some (.tmp (.bl false), y.2)
  | .cmp3 o1 o2 o3 a b c d, env => (evA m a env).bind fun x => (x.1.int?).bind fun i => (evA m b x.2).bind fun y => (y.1.int?).bind fun j => (cmpI o1 i j).bind fun t1 => if t1 then
      (evA m c y.2).bind fun z => (z.1.int?).bind fun k => (cmpI o2 j k).bind fun t2 => if t2 then (evA m d z.2).bind fun w => (w.1.int?).bind fun l => (cmpI o3 k l).map fun t3 => (.tmp (.bl t3), w.2) else some (.tmp (.bl false), z.2) else some (.tmp (.bl false), y.2)
  | .sli a lo hi, env => (evA m a env).bind fun x => (evI (m || x.1.isPk) lo x.2).bind fun l => (evI (m || x.1.isPk) hi l.2).bind fun h =>
      (x.1.get h.2).bind fun d => (cutO d l.1 h.1).map fun r => (.tmp r, h.2)
  | .call f es, env => (evAs m es env).bind fun x => if m && !x.1.all A.isTmp then none else
      (lendA x.1 x.2).bind fun y => (P.call f y.1).map fun z => (.tmp z.1, backA x.1 z.2 y.2)
  | .pop i path, env => if m || !path.isEmpty then none else (getE env i).bind fun d => (popD (fun n => some (n - 1)) d).map fun r => (.tmp r.1, env.set i (some r.2))
  | .popAt i path k, env => if m || !path.isEmpty then none else ((getE env i).bind D.lst?).bind fun _ => (evA false k env).bind fun y => (y.1.int?).bind fun j => (getE y.2 i).bind fun d =>
      (popD (fun n => if n ≤ sizeLine then L2.ixN n j else none) d).map fun r => (.tmp r.1, y.2.set i (some r.2))
  | .comp tg own k src ifs elt, env => (evAs m src env).bind fun x => (srcC k m x.1 x.2).bind fun s =>
      (compF (fun d e => (bindT tg d e).bind fun e1 => (evTand s.m ifs e1).bind fun t => if t.1 then ((evA s.m elt t.2).bind fun x => mat s.m x.1 x.2).map fun r => (some r.1, wipeE own r.2) else some (none, wipeE own t.2))
        s.its [] (wipeE own s.env)).map fun r => (.tmp (.lst true r.1), unlend s.lent (restE own x.2 r.2))
  | .frz e, env => (evA m e env).bind fun x => (x.1.tmp?).map fun d => (.tmp d.freeze, x.2)
  | .mth t o a es, env => (evA m a env).bind fun x => ((x.1.get x.2).bind t.has).bind fun _ => (evAs (m || x.1.isPk) es x.2).bind fun y => (A.gets y.2 (x.1 :: y.1)).bind fun ds => (opD o ds).map fun d => (.tmp d, y.2)
def evI (m : Bool) : List E → EnvD → Option (Option Int × EnvD)
  | [], env => some (none, env)
  | [e], env => (evA m e env).bind fun x => (x.1.int?).map fun i => (some i, x.2)
  | _, _ => none
def evAs (m : Bool) : List E → EnvD → Option (List A × EnvD)
  | [], env => some ([], env)
  | e :: es, env => (evA m e env).bind fun x => (evAs (m || x.1.isPk) es x.2).map fun y => (x.1 :: y.1, y.2)
def evMs (m : Bool) : List E → EnvD → Option (List D × EnvD)
  | [], env => some ([], env)
  | e :: es, env => ((evA m e env).bind fun x => mat m x.1 x.2).bind fun x => (evMs m es x.2).map fun y => (x.1 :: y.1, y.2)
def evAnd (m : Bool) : List E → EnvD → Option (A × EnvD)
  | [], _ => none
  | [e], env => evA m e env
  | e :: es, env => (evA m e env).bind fun x => (x.1.bl?).bind fun t => if t then evAnd m es x.2 else some (.tmp (.bl false), x.2)
def evOr (m : Bool) : List E → EnvD → Option (A × EnvD)
  | [], _ => none
  | [e], env => evA m e env
  | e :: es, env => (evA m e env).bind fun x => (x.1.bl?).bind fun t => if t then some (.tmp (.bl true), x.2) else evOr m es x.2
def evT (m : Bool) : T → EnvD → Option (Bool × EnvD)
  | .val e, env => (evA m e env).bind fun x => (x.1.get x.2).bind fun d => (d.truthy).map fun t => (t, x.2)
  | .and es, env => evTand m es env
  | .or es, env => evTor m es env
  | .not e, env => (evT m e env).map fun x => (!x.1, x.2)
  | .ite c a b, env => (evT m c env).bind fun x => if x.1 then evT m a x.2 else evT m b x.2
def evTand (m : Bool) : List T → EnvD → Option (Bool × EnvD)
  | [], env => some (true, env)
  | e :: es, env => (evT m e env).bind fun x => if x.1 then evTand m es x.2 else some (false, x.2)
def evTor (m : Bool) : List T → EnvD → Option (Bool × EnvD)
  | [], env => some (false, env)
  | e :: es, env => (evT m e env).bind fun x => if x.1 then some (true, x.2) else evTor m es x.2
end

/-! ### statements -/
def evPath (path : List E) (env : EnvD) : Option (List D × EnvD) := (evAs P true path env).bind fun x => if x.1.all A.isTmp then (A.gets x.2 x.1).map fun ds => (ds, x.2) else none
def evKey (k : E) (env : EnvD) : Option (D × EnvD) := (evA P true k env).bind fun x => (x.1.tmp?).map fun d => (d, x.2)
def evM (m : Bool) (e : E) (env : EnvD) : Option (D × EnvD) := (evA P m e env).bind fun x => mat m x.1 x.2
def updE (i : Nat) (ks : List D) (f : D → Option D) (env : EnvD) : Option EnvD := (getE env i).bind fun d => (updD f d ks).map fun d' => env.set i (some d')
def appD (x : D) : D → Option D
  | .lst true ds => if ds.length < sizeLine then some (.lst true (ds ++ [x])) else none
  | _ => none
def extD (x : D) : D → Option D
  | .lst true ds => match x with
    | .lst _ es => if D.plains es && szOk (ds.length + es.length) then some (.lst true (ds ++ es)) else none
    | _ => none
  | _ => none
def remL (n : Int) : List Int → Option (List Int)
  | [] => none
  | x :: r => if x = n then some r else (remL n r).map fun l => x :: l
def remD (x : D) : D → Option D
  | .lst true ds => match x with
    | .int n => (ints? ds).bind fun ns => (remL n ns).map fun l => .lst true (l.map .int)
    | _ => none
  | _ => none
def augD : Operator → D → D → Option D
  | .Add, .int i, .int j => some (.int (i + j))
  | .Sub, .int i, .int j => some (.int (i - j))
  | .Mult, .int i, .int j => if mulOk i j then some (.int (i * j)) else none
  | _, _, _ => none
def bindN : List Nat → List D → EnvD → Option EnvD
  | [], [], env => some env
  | i :: is, d :: ds, env => if i < env.length then bindN is ds (env.set i (some d)) else none
  | _, _, _ => none
def storeLV : LV → D → EnvD → Option EnvD
  | .nm i, d, env => if i < env.length then some (env.set i (some d)) else none
  | .sb i path k, d, env => (evPath P path env).bind fun x => (getE x.2 i).bind fun _ => (evKey P k x.2).bind fun y => updE i x.1 (fun c => setD c y.1 d) y.2
def storeLVs : List LV → List D → EnvD → Option EnvD
  | [], [], env => some env
  | l :: ls, d :: ds, env => (storeLV P l d env).bind fun e => storeLVs ls ds e
  | _, _, _ => none
mutual
def evS : S → EnvD → Option (Fl × EnvD)
  | .asg t e, env => (evM P false e env).bind fun x => (bindT t x.1 x.2).map fun e' => (.nx, e')
  | .par is es, env => (evMs P false es env).bind fun x => (bindN is x.1 x.2).map fun e' => (.nx, e')
  | .sto i path k e, env => (evM P false e env).bind fun x => (evPath P path x.2).bind fun y => (getE y.2 i).bind fun _ => (evKey P k y.2).bind fun z =>
      (updE i y.1 (fun c => setD c z.1 x.1) z.2).map fun e' => (.nx, e')
  | .stoT ts e, env => (evM P false e env).bind fun x => match x.1 with
    | .tup ds => (storeLVs P ts ds x.2).map fun e' => (.nx, e')
    | _ => none
  | .aug i o e, env => (getE env i).bind fun x => (evA P false e env).bind fun y => (y.1.get y.2).bind fun d => (augD o x d).bind fun r =>
      if i < env.length then some (.nx, y.2.set i (some r)) else none
  | .augS i path k o e, env => (evPath P path env).bind fun y => (getE y.2 i).bind fun _ => (evKey P k y.2).bind fun z => (getE z.2 i).bind fun r => (getP r (y.1 ++ [z.1])).bind fun old =>
      (evA P true e z.2).bind fun x => (x.1.get x.2).bind fun d => (augD o old d).bind fun new => (updE i y.1 (fun c => setD c z.1 new) x.2).map fun e' => (.nx, e')
  | .app i path e, env => (evPath P path env).bind fun y => ((getE y.2 i).bind D.lst?).bind fun _ => (evM P (!path.isEmpty) e y.2).bind fun x => (updE i y.1 (appD x.1) x.2).map fun e' => (.nx, e')
  | .ext i path e, env => (evPath P path env).bind fun y => ((getE y.2 i).bind D.lst?).bind fun _ => (evA P (!path.isEmpty) e y.2).bind fun x => (x.1.get x.2).bind fun d => (updE i y.1 (extD d) x.2).map fun e' => (.nx, e')
  | .rem i path e, env => (evPath P path env).bind fun y => ((getE y.2 i).bind D.lst?).bind fun _ => (evA P (!path.isEmpty) e y.2).bind fun x => (x.1.get x.2).bind fun d => (updE i y.1 (remD d) x.2).map fun e' => (.nx, e')
  | .ex e, env => (evA P false e env).map fun x => (.nx, x.2)
  | .ite c a b, env => (evT P false c env).bind fun x => if x.1 then evSs a x.2 else evSs b x.2
  | .whl c b, env => whileF (evT P false c) (evSs b) env
  | .for_ tg k src b, env => (evAs P false src env).bind fun x => (forC k x.1 x.2).bind fun s => (loopF (fun d e => (bindT tg d e).bind (evSs b)) s.its s.env).map fun r => (r.1, unlend s.lent r.2)
  | .ret e, env => (evM P false e env).map fun x => (.rt x.1, x.2)
  | .retN, env => some (.rt .non, env)
  | .brk, env => some (.bk, env)
  | .cnt, env => some (.ct, env)
  | .pass, env => some (.nx, env)
def evSs : List S → EnvD → Option (Fl × EnvD)
  | [], env => some (.nx, env)
  | s :: r, env => (evS s env).bind fun x => match x.1 with
    | .nx => evSs r x.2
    | f => some (f, x.2)
end
end

/-- a def: its parameters, its slots, the parameters that are bound anew within -/
structure FD where
  np : Nat
  ns : Nat
  re : List Nat
  body : List S
/-- what stands at the parameters behind a call -/
def backP (re : List Nat) : Nat → List D → EnvD → Option (List D)
  | _, [], _ => some []
  | i, d :: ds, env => (if d.plain then some d else if re.contains i then none else getE env i).bind fun x => (backP re (i + 1) ds env).map fun xs => x :: xs
def runF (P : Ctx) (f : FD) (ds : List D) : Option (D × List D) :=
  if ds.length = f.np then
    (evSs P f.body (ds.map some ++ List.replicate (f.ns - f.np) none)).bind fun x => match x.1 with
      | .rt r => (backP f.re 0 ds x.2).map fun ds' => (r, ds')
      | .nx => (backP f.re 0 ds x.2).map fun ds' => (.non, ds')
      | _ => none
  else none
def evF (T : List FD) : Nat → Nat → List D → Option (D × List D)
  | 0, _, _ => none
  | k + 1, f, ds => (T[f]?).bind fun fd => runF ⟨evF T k⟩ fd ds
end DL
end

section
/-! DL3: readings by the evaluator; how operands follow one another. -/
namespace DL
open PySem PySem.Spec L2

section
variable (K : PySem.W.Frag)
def AD (Z : Addr → Prop) (H : Hp) (σ : L2.St) : A → V → Cnt → Prop
  | .tmp d, v, c => Den K Z H d v c
  | .ref i, v, c => σ[i]? = some (some v) ∧ c = zc
  | .pk d, v, c => (∃ c1, Den K Z H d v c1) ∧ c = zc
def ADs (Z : Addr → Prop) (H : Hp) (σ : L2.St) : List A → List V → Cnt → Prop
  | [], vs, c => vs = [] ∧ c = zc
  | a :: as, vs, c => ∃ v r c1 c2, vs = v :: r ∧ AD K Z H σ a v c1 ∧ ADs Z H σ as r c2 ∧ c = add c1 c2
/-- a value is looked at -/
def DenB (Z : Addr → Prop) (H : Hp) : List D → List V → Prop
  | [], vs => vs = []
  | d :: ds, vs => ∃ v r c, vs = v :: r ∧ Den K Z H d v c ∧ DenB Z H ds r

/-- what follows an operand -/
def Aft (m : Bool) (Z : Addr → Prop) (H : Hp) (c : Cnt) (σ : L2.St) (env' : EnvD) (R : Addr → Prop) (Z' : Addr → Prop) (H' : Hp) (c' ca : Cnt) : Prop :=
  ED K Z' H' env' σ c' ∧ Gd Z' H' (add c' ca) ∧ Fr m Z H c Z' H' (add c' ca) ∧ (m = true → ∀ b, H b ≠ none → ca b = 0)

variable (P : Ctx)
def tE (e : E) : TE := fun σ H Q => ∃ m Z c env a env', ED K Z H env σ c ∧ Gd Z H c ∧ evA P m e env = some (a, env') ∧
  ∀ v H' Z' c' ca, ED K Z' H' env' σ c' → AD K Z' H' σ a v ca → Gd Z' H' (add c' ca) → Fr m Z H c Z' H' (add c' ca) → (m = true → ∀ b, H b ≠ none → ca b = 0) → Q v H'
def tT (e : T) : TT := fun σ H Q => ∃ m Z c env b env', ED K Z H env σ c ∧ Gd Z H c ∧ evT P m e env = some (b, env') ∧
  ∀ H' Z' c', ED K Z' H' env' σ c' → Gd Z' H' c' → Fr m Z H c Z' H' c' → Q b H'
def tEs (es : List E) : TA := fun σ H Q => ∃ m Z c env as env', ED K Z H env σ c ∧ Gd Z H c ∧ evAs P m es env = some (as, env') ∧
  ∀ vs H' Z' c' ca, ED K Z' H' env' σ c' → ADs K Z' H' σ as vs ca → Gd Z' H' (add c' ca) → Fr m Z H c Z' H' (add c' ca) → (m = true → ∀ b, H b ≠ none → ca b = 0) → Q vs H'
def tMs (es : List E) : TA := fun σ H Q => ∃ m Z c env ds env', ED K Z H env σ c ∧ Gd Z H c ∧ evMs P m es env = some (ds, env') ∧
  ∀ vs H' Z' c' ca, ED K Z' H' env' σ c' → Dens K Z' H' ds vs ca → Gd Z' H' (add c' ca) → Fr m Z H c Z' H' (add c' ca) → (m = true → ∀ b, H b ≠ none → ca b = 0) → Q vs H'
/-- readings one after another -/
def tL : List TE → TA
  | [] => tNil
  | t :: ts => tCons t (tL ts)
end

section
variable {X : Cx} {p : PySem.Expr}
theorem PE.imp {t t' : TE} (h : PE X p t) (f : ∀ σ H Q, t' σ H Q → t σ H Q) : PE X p t' := ⟨fun pins s σ H Q I q => h.run pins s σ H Q I (f σ H Q q)⟩
theorem PT.imp {t t' : TT} (h : PT X p t) (f : ∀ σ H Q, t' σ H Q → t σ H Q) : PT X p t' := ⟨fun pins s σ H Q I q => h.run pins s σ H Q I (f σ H Q q)⟩
theorem PA.imp {ps : List PySem.Expr} {t t' : TA} (h : PA X ps t) (f : ∀ σ H Q, t' σ H Q → t σ H Q) : PA X ps t' := ⟨fun pos pins s σ H Q I q => h.run pos pins s σ H Q I (f σ H Q q)⟩
theorem PS.imp {st : Stmt} {t t' : TS} (h : PS X st t) (f : ∀ D σ H, t' D σ H → t D σ H) : PS X st t' := ⟨fun pins s σ H D I q => h.run pins s σ H D I (f D σ H q)⟩
theorem PSs.imp {st : List Stmt} {t t' : TS} (h : PSs X st t) (f : ∀ D σ H, t' D σ H → t D σ H) : PSs X st t' := ⟨fun pins s σ H D I q => h.run pins s σ H D I (f D σ H q)⟩
end

section
variable {K : PySem.W.Frag} {Z Z' : Addr → Prop} {H H' : Hp} {σ : L2.St} {c c' ca e : Cnt} {m m' : Bool} {env env' : EnvD}
theorem AD.loc {a : A} {v : V} (hz : ∀ a, Z a → Z' a) (h : ∀ b o, H b = some o → (isMut o = false ∨ Z b ∨ ca b ≠ 0) → H' b = some o) (hp : ∀ d, a = .pk d → ∀ b o, H b = some o → H' b = some o) (q : AD K Z H σ a v ca) : AD K Z' H' σ a v ca := by
  cases a with
  | tmp d => exact Den.loc hz h q
  | ref i => exact q
  | pk d =>
    obtain ⟨⟨c1, q⟩, e⟩ := q
    exact ⟨⟨c1, Den.loc hz (fun b o x _ => hp d rfl b o x) q⟩, e⟩
theorem DenB.len : ∀ {ds : List D} {vs : List V}, DenB K Z H ds vs → vs.length = ds.length
  | [], vs, q => by
    have q : vs = [] := q
    subst q; rfl
  | d :: ds, _, q => by obtain ⟨v, r, c, rfl, _, q⟩ := q; simp [DenB.len q]
/-- the operands, looked at -/
theorem ADs.look : ∀ {as : List A} {vs : List V} {ca : Cnt} {ds : List D}, ED K Z H env σ c → ADs K Z H σ as vs ca → A.gets env as = some ds → DenB K Z H ds vs
  | [], _, _, _, _, q, g => by
    obtain ⟨rfl, _⟩ := q
    have e : some [] = some _ := g
    cases e; rfl
  | a :: as, _, _, ds, E, q, g => by
    obtain ⟨v, r, c1, c2, rfl, q1, q2, rfl⟩ := q
    have g : ((A.get env a).bind fun d => (A.gets env as).map fun ds => d :: ds) = some ds := g
    cases h1 : A.get env a with
    | none => rw [h1] at g; cases g
    | some d =>
      rw [h1] at g
      cases h2 : A.gets env as with
      | none => rw [h2] at g; cases g
      | some ds' =>
        rw [h2] at g
        cases g
        refine ⟨v, r, ?_⟩
        have rest := ADs.look E q2 h2
        cases a with
        | tmp d' => cases h1; exact ⟨_, rfl, q1, rest⟩
        | pk d' => cases h1; obtain ⟨⟨c3, q1⟩, _⟩ := q1; exact ⟨_, rfl, q1, rest⟩
        | ref i =>
          have h1 : (env[i]?).join = some d := h1
          have h3 : env[i]? = some (some d) := by
            cases h : env[i]? with
            | none => rw [h] at h1; cases h1
            | some x => rw [h] at h1; rw [show x = some d from h1]
          obtain ⟨w, k1, k2, e1, q3, _, _⟩ := E.take h3
          rw [q1.1] at e1; cases e1
          exact ⟨_, rfl, q3, rest⟩
theorem getE_some {i : Nat} {d : D} (h : getE env i = some d) : env[i]? = some (some d) := by
  have h : (env[i]?).join = some d := h
  cases g : env[i]? with
  | none => rw [g] at h; cases h
  | some x => rw [g] at h; rw [show x = some d from h]
/-- an operand is kept -/
theorem mat_ok {a : A} {v : V} {d : D} (E : ED K Z H env σ c) (q : AD K Z H σ a v ca) (G : Gd Z H (add c ca)) (e : mat m a env = some (d, env')) :
    ∃ Z' c' cd, ED K Z' H env' σ c' ∧ Den K Z' H d v cd ∧ Gd Z' H (add c' cd) ∧ Fr m Z H (add c ca) Z' H (add c' cd) ∧ (∀ b, cd b ≤ ca b) := by
  cases a with
  | tmp d' => cases e; exact ⟨Z, c, ca, E, q, G, Fr.refl, fun _ => Nat.le_refl _⟩
  | pk d' => cases e
  | ref i =>
    cases m with
    | true => cases e
    | false =>
      have e : (getE env i).map (fun d => (d.freeze, env.set i (some d.freeze))) = some (d, env') := e
      cases g : getE env i with
      | none => rw [g] at e; cases e
      | some x =>
        rw [g] at e; cases e
        obtain ⟨hv, rfl⟩ := q
        have hg := getE_some g
        obtain ⟨w, c1, c2, e1, q1, q2, rfl⟩ := E.take hg
        rw [hv] at e1; cases e1
        have gd : ∀ a, c1 a ≠ 0 → MutA H a := fun a x => (G a).2.1 (by simp only [add]; omega)
        refine ⟨fun a => Z a ∨ c1 a ≠ 0, c2, zc, ?_, Den.frz (fun _ => .inl) (fun _ => .inr) q1, ?_, ?_, fun _ => Nat.zero_le _⟩
        · have r := ED.put (i := i) (ED.loc (Z' := fun a => Z a ∨ c1 a ≠ 0) (H' := H) (fun _ => .inl) (fun _ _ h _ => h) q2) (List.getElem?_eq_some_iff.mp hg).1 (Den.frz (W := fun a => Z a ∨ c1 a ≠ 0) (fun _ => .inl) (fun _ => .inr) q1)
          rw [zc_add, set_self hv] at r
          exact r
        · intro a
          obtain ⟨g1, g2, g3⟩ := G a
          simp only [add, zc] at *
          refine ⟨by omega, fun x => g2 (by omega), fun z => ?_⟩
          rcases z with z | z
          · exact ⟨by have := (g3 z).1; omega, (g3 z).2⟩
          · exact ⟨by omega, (gd a z).ne⟩
        · intro a
          simp only [add, zc]
          exact ⟨.inl, fun n => n, fun _ _ => trivial, fun n x => ⟨by omega, fun z => z.elim id fun y => absurd (by omega) y⟩⟩
/-- one operand ahead of others -/
theorem frame_step {Z1 : Addr → Prop} {H1 : Hp} {c1 ca1 c2 : Cnt} {a : A} {v : V} (G1 : Gd Z1 H1 (add c1 ca1)) (q : AD K Z1 H1 σ a v ca1)
    (f2 : Fr m' Z1 H1 c1 Z' H' c2) (G2 : Gd Z' H' c2) (hm : ∀ d, a = .pk d → m' = true) :
    AD K Z' H' σ a v ca1 ∧ Gd Z' H' (add c2 ca1) ∧ Fr m' Z1 H1 (add c1 ca1) Z' H' (add c2 ca1) := by
  obtain ⟨g, f⟩ := f2.ext G1 G2
  refine ⟨AD.loc f2.zz (f2.keep G1) (fun d h => ?_) q, g, f⟩
  have := hm d h
  subst this
  exact f2.pure
end

section
variable {K : PySem.W.Frag} {P : Ctx}
theorem Fr.low {Z Z' : Addr → Prop} {H H' : Hp} {c c' : Cnt} {m m' : Bool} (f : Fr m' Z H c Z' H' c') (h : m = true → m' = true) : Fr m Z H c Z' H' c' := fun a => by
  obtain ⟨f1, f2, f3, f4⟩ := f a
  exact ⟨f1, f2, fun n x => f3 n (x.elim (fun y => .inl (h y)) .inr), f4⟩
theorem seqL : ∀ {es : List E} {σ : L2.St} {H : Hp} {Q : List V → Hp → Prop}, tEs K P es σ H Q → tL (es.map (tE K P)) σ H Q
  | [], σ, H, Q, h => by
    obtain ⟨m, Z, c, env, as, env', E, G, e, k⟩ := h
    cases e
    exact k [] H Z c zc E ⟨rfl, rfl⟩ (by rw [add_zc]; exact G) (by rw [add_zc]; exact Fr.refl) fun _ _ _ => rfl
  | e :: es, σ, H, Q, h => by
    obtain ⟨m, Z, c, env, as, env', E, G, ev, k⟩ := h
    have ev : ((evA P m e env).bind fun x => (evAs P (m || x.1.isPk) es x.2).map fun y => (x.1 :: y.1, y.2)) = some (as, env') := ev
    cases h1 : evA P m e env with
    | none => rw [h1] at ev; cases ev
    | some x =>
      obtain ⟨a, env1⟩ := x
      rw [h1] at ev
      have ev : (evAs P (m || a.isPk) es env1).map (fun y => (a :: y.1, y.2)) = some (as, env') := ev
      cases h2 : evAs P (m || a.isPk) es env1 with
      | none => rw [h2] at ev; cases ev
      | some y =>
        obtain ⟨as', env2⟩ := y
        rw [h2] at ev
        cases ev
        refine ⟨m, Z, c, env, a, env1, E, G, h1, fun v H1 Z1 c1 ca1 E1 q1 G1 F1 M1 => ?_⟩
        refine seqL (es := es) ⟨m || a.isPk, Z1, c1, env1, as', env2, E1, G1.le (fun a => by simp only [add]; omega), h2, fun vs H2 Z2 c2 ca2 E2 q2 G2 F2 M2 => ?_⟩
        obtain ⟨q1', G', F'⟩ := frame_step G1 q1 F2 G2 (fun d h => by subst h; simp [A.isPk])
        have ee : add (add c2 ca2) ca1 = add c2 (add ca1 ca2) := by funext a; simp only [add]; omega
        rw [ee] at G' F'
        refine k (v :: vs) H2 Z2 c2 (add ca1 ca2) E2 ⟨v, vs, ca1, ca2, rfl, q1', q2, rfl⟩ G' (F1.trans (F'.low (by intro x; simp [x]))) fun x b hb => ?_
        have n1 : H1 b ≠ none := (F1 b).2.1 hb
        have := M1 x b hb
        have := M2 (by simp [x]) b n1
        simp only [add]; omega
theorem seqM : ∀ {es : List E} {σ : L2.St} {H : Hp} {Q : List V → Hp → Prop}, tMs K P es σ H Q → tL (es.map (tE K P)) σ H Q
  | [], σ, H, Q, h => by
    obtain ⟨m, Z, c, env, as, env', E, G, e, k⟩ := h
    cases e
    exact k [] H Z c zc E ⟨rfl, rfl⟩ (by rw [add_zc]; exact G) (by rw [add_zc]; exact Fr.refl) fun _ _ _ => rfl
  | e :: es, σ, H, Q, h => by
    obtain ⟨m, Z, c, env, as, env', E, G, ev, k⟩ := h
    have ev : (((evA P m e env).bind fun x => mat m x.1 x.2).bind fun x => (evMs P m es x.2).map fun y => (x.1 :: y.1, y.2)) = some (as, env') := ev
    cases h1 : evA P m e env with
    | none => rw [h1] at ev; cases ev
    | some x =>
      obtain ⟨a, env1⟩ := x
      rw [h1] at ev
      have ev : ((mat m a env1).bind fun x => (evMs P m es x.2).map fun y => (x.1 :: y.1, y.2)) = some (as, env') := ev
      cases h0 : mat m a env1 with
      | none => rw [h0] at ev; cases ev
      | some x0 =>
        obtain ⟨d, env1'⟩ := x0
        rw [h0] at ev
        have ev : (evMs P m es env1').map (fun y => (d :: y.1, y.2)) = some (as, env') := ev
        cases h2 : evMs P m es env1' with
        | none => rw [h2] at ev; cases ev
        | some y =>
          obtain ⟨ds, env2⟩ := y
          rw [h2] at ev
          cases ev
          refine ⟨m, Z, c, env, a, env1, E, G, h1, fun v H1 Z1 c1 ca1 E1 q1 G1 F1 M1 => ?_⟩
          obtain ⟨Z1', c1', cd, E1', q1', G1', F1', le⟩ := mat_ok E1 q1 G1 h0
          refine seqM (es := es) ⟨m, Z1', c1', env1', ds, env2, E1', G1'.le (fun a => by simp only [add]; omega), h2, fun vs H2 Z2 c2 ca2 E2 q2 G2 F2 M2 => ?_⟩
          obtain ⟨q1'', G', F'⟩ := frame_step (σ := σ) (a := .tmp d) G1' q1' F2 G2 (fun d h => by cases h)
          have ee : add (add c2 ca2) cd = add c2 (add cd ca2) := by funext a; simp only [add]; omega
          rw [ee] at G' F'
          refine k (v :: vs) H2 Z2 c2 (add cd ca2) E2 ⟨v, vs, cd, ca2, rfl, q1'', q2, rfl⟩ G' ((F1.trans F1').trans F') fun x b hb => ?_
          have n1 : H1 b ≠ none := (F1 b).2.1 hb
          have := M1 x b hb
          have := M2 x b n1
          have := le b
          simp only [add]; omega

/-! ### operations that look and make at most a new object -/
def OpOk (K : PySem.W.Frag) (o : Op) (r : List V → Hp → VK → Prop) : Prop :=
  ∀ (Z : Addr → Prop) (H : Hp) (c : Cnt) (ds : List D) (vs : List V) (d : D) (Q : VK), DenB K Z H ds vs → Gd Z H c → opD o ds = some d →
    (∀ v H' ca, Den K Z H' d v ca → Gd Z H' (add c ca) → (∀ a u, H a = some u → H' a = some u) → (∀ a, H a ≠ none → ca a = 0) → Q v H') → r vs H Q
theorem op_in {o : Op} {es : List E} {r : List V → Hp → VK → Prop} (ho : OpOk K o r) {σ : L2.St} {H : Hp} {Q : VK} (h : tE K P (.op o es) σ H Q) : tL (es.map (tE K P)) σ H (fun vs H1 => r vs H1 Q) := by
  obtain ⟨m, Z, c, env, a, env', E, G, ev, k⟩ := h
  have ev : ((evAs P m es env).bind fun x => (A.gets x.2 x.1).bind fun ds => (opD o ds).map fun d => (A.tmp d, x.2)) = some (a, env') := ev
  cases h1 : evAs P m es env with
  | none => rw [h1] at ev; cases ev
  | some x =>
    obtain ⟨as, env1⟩ := x
    rw [h1] at ev
    have ev : ((A.gets env1 as).bind fun ds => (opD o ds).map fun d => (A.tmp d, env1)) = some (a, env') := ev
    cases h2 : A.gets env1 as with
    | none => rw [h2] at ev; cases ev
    | some ds =>
      rw [h2] at ev
      have ev : (opD o ds).map (fun d => (A.tmp d, env1)) = some (a, env') := ev
      cases h3 : opD o ds with
      | none => rw [h3] at ev; cases ev
      | some d =>
        rw [h3] at ev
        have ev : some (A.tmp d, env1) = some (a, env') := ev
        injection ev with ev
        injection ev with ea eb
        subst ea eb
        refine seqL ⟨m, Z, c, env, as, env1, E, G, h1, fun vs H1 Z1 c1 ca1 E1 q1 G1 F1 M1 => ?_⟩
        refine ho Z1 H1 (add c1 ca1) ds vs d Q (ADs.look E1 q1 h2) G1 h3 fun v H2 ca2 q2 G2 keep fresh => ?_
        have F2 : Fr m Z1 H1 (add c1 ca1) Z1 H2 (add (add c1 ca1) ca2) := fun a => by
          refine ⟨fun z => z, fun n => ?_, fun n _ => ?_, fun n x => ⟨by have := fresh a n; simp only [add] at *; omega, fun z => z⟩⟩
          · obtain ⟨o, ho⟩ := Option.ne_none_iff_exists'.mp n
            rw [keep a o ho]; simp
          · obtain ⟨o, ho⟩ := Option.ne_none_iff_exists'.mp n
            rw [keep a o ho, ho]
        refine k v H2 Z1 c1 ca2 (ED.loc (fun _ z => z) (fun a o h _ => keep a o h) E1) q2 (G2.le fun a => by simp only [add]; omega) ((F1.trans F2).lessR fun a => by simp only [add]; omega) fun x b hb => fresh b ((F1 b).2.1 hb)
/-- .. as a test -/
theorem op_inT {o : Op} {es : List E} {r : List V → Hp → VK → Prop} (ho : OpOk K o r) {σ : L2.St} {H : Hp} {Q : Bool → Hp → Prop} (hb : ∀ ds d t, opD o ds = some d → d.truthy = some t → d = .bl t) (h : tT K P (.val (.op o es)) σ H Q) :
    tL (es.map (tE K P)) σ H (fun vs H1 => r vs H1 (fun x H2 => ∃ k, x = .bl k ∧ Q k H2)) := by
  obtain ⟨m, Z, c, env, b, env', E, G, ev, k⟩ := h
  have ev : ((evA P m (.op o es) env).bind fun x => (x.1.get x.2).bind fun d => (d.truthy).map fun t => (t, x.2)) = some (b, env') := ev
  cases h1 : evA P m (.op o es) env with
  | none => rw [h1] at ev; cases ev
  | some x =>
    obtain ⟨a, env1⟩ := x
    rw [h1] at ev
    have h1' : ((evAs P m es env).bind fun x => (A.gets x.2 x.1).bind fun ds => (opD o ds).map fun d => (A.tmp d, x.2)) = some (a, env1) := h1
    have ha : ∃ ds d, opD o ds = some d ∧ a = .tmp d := by
      cases g1 : evAs P m es env with
      | none => rw [g1] at h1'; cases h1'
      | some y =>
        rw [g1] at h1'
        have h1' : ((A.gets y.2 y.1).bind fun ds => (opD o ds).map fun d => (A.tmp d, y.2)) = some (a, env1) := h1'
        cases g2 : A.gets y.2 y.1 with
        | none => rw [g2] at h1'; cases h1'
        | some ds =>
          rw [g2] at h1'
          have h1' : (opD o ds).map (fun d => (A.tmp d, y.2)) = some (a, env1) := h1'
          cases g3 : opD o ds with
          | none => rw [g3] at h1'; cases h1'
          | some d => rw [g3] at h1'; cases h1'; exact ⟨ds, d, g3, rfl⟩
    obtain ⟨ds, d, g3, rfl⟩ := ha
    have ev : (d.truthy).map (fun t => (t, env1)) = some (b, env') := ev
    cases g4 : d.truthy with
    | none => rw [g4] at ev; cases ev
    | some t =>
      rw [g4] at ev
      have ev : some (t, env1) = some (b, env') := ev
      injection ev with ev
      injection ev with ea eb
      subst ea eb
      have e := hb ds d t g3 g4
      subst e
      refine op_in ho ⟨m, Z, c, env, _, env1, E, G, h1, fun v H' Z' c' ca E' q' G' F' M' => ?_⟩
      obtain ⟨rfl, rfl⟩ := q'
      rw [add_zc] at G' F'
      exact ⟨t, rfl, k H' Z' c' E' G' F'⟩
end
end DL
end

section
/-! DL4: the operations, each with its rule. -/
namespace DL
open PySem PySem.Spec L2

section
variable {K : PySem.W.Frag} {Z : Addr → Prop} {H : Hp}
theorem DenB.i1 {d : D} {vs : List V} (h : DenB K Z H [d] vs) : ∃ v c, vs = [v] ∧ Den K Z H d v c := by
  obtain ⟨v, r, c, rfl, q, h⟩ := h
  have h : r = [] := h
  subst h
  exact ⟨v, c, rfl, q⟩
theorem DenB.i2 {d e : D} {vs : List V} (h : DenB K Z H [d, e] vs) : ∃ v u c c', vs = [v, u] ∧ Den K Z H d v c ∧ Den K Z H e u c' := by
  obtain ⟨v, r, c, rfl, q, h⟩ := h
  obtain ⟨u, c', rfl, p⟩ := DenB.i1 h
  exact ⟨v, u, c, c', rfl, q, p⟩
theorem DenB.i3 {d e f : D} {vs : List V} (h : DenB K Z H [d, e, f] vs) : ∃ v u w c c' c'', vs = [v, u, w] ∧ Den K Z H d v c ∧ Den K Z H e u c' ∧ Den K Z H f w c'' := by
  obtain ⟨v, r, c, rfl, q, h⟩ := h
  obtain ⟨u, w, c', c'', rfl, p, p'⟩ := DenB.i2 h
  exact ⟨v, u, w, c, c', c'', rfl, q, p, p'⟩
theorem Den.lstI {o : Bool} {ds : List D} {v : V} {c : Cnt} (q : Den K Z H (.lst o ds) v c) : ∃ a vs c', v = .ref a ∧ H a = some (.lst vs) ∧ Dens K Z H ds vs c' := by
  cases o with
  | true => obtain ⟨a, vs, c', e, h, q, _⟩ := q; exact ⟨a, vs, c', e, h, q⟩
  | false => obtain ⟨a, vs, e, h, z, q, _⟩ := q; exact ⟨a, vs, zc, e, h, q⟩
theorem Den.dKI {o : Bool} {ks : List Key} {ds : List D} {v : V} {c : Cnt} (q : Den K Z H (.dK o ks ds) v c) : ∃ a kvs c', v = .ref a ∧ H a = some (.dK kvs) ∧ (kvs.map (·.1) = ks ∧ ks.Nodup) ∧ Dens K Z H ds (kvs.map (·.2)) c' := by
  cases o with
  | true => obtain ⟨a, vs, c', e, h, k, q, _⟩ := q; exact ⟨a, vs, c', e, h, k, q⟩
  | false => obtain ⟨a, vs, e, h, k, z, q, _⟩ := q; exact ⟨a, vs, zc, e, h, k, q⟩
theorem Den.dTI {o : Bool} {ks : List (List Key)} {ds : List D} {v : V} {c : Cnt} (q : Den K Z H (.dT o ks ds) v c) : ∃ a kvs c', v = .ref a ∧ H a = some (.dT kvs) ∧ (kvs.map (·.1) = ks ∧ ks.Nodup) ∧ Dens K Z H ds (kvs.map (·.2)) c' := by
  cases o with
  | true => obtain ⟨a, vs, c', e, h, k, q, _⟩ := q; exact ⟨a, vs, c', e, h, k, q⟩
  | false => obtain ⟨a, vs, e, h, k, z, q, _⟩ := q; exact ⟨a, vs, zc, e, h, k, q⟩
theorem Dens.pl' {ds : List D} {vs : List V} {c : Cnt} (p : D.plains ds = true) (q : Dens K Z H ds vs c) : Dens K Z H ds vs zc := by
  have e := Dens.pl p q
  rw [e] at q; exact q
theorem ints_of : ∀ {ds : List D} {ns : List Int}, ints? ds = some ns → ds = ns.map D.int
  | [], _, h => by cases h; rfl
  | .int i :: ds, _, h => by
    have h : (ints? ds).map (fun r => i :: r) = some _ := h
    cases g : ints? ds with
    | none => rw [g] at h; cases h
    | some r => rw [g] at h; cases h; rw [ints_of g]; rfl
  | .non :: _, _, h => by cases h
  | .bl _ :: _, _, h => by cases h
  | .str _ :: _, _, h => by cases h
  | .tup _ :: _, _, h => by cases h
  | .lst _ _ :: _, _, h => by cases h
  | .dK _ _ _ :: _, _, h => by cases h
  | .dT _ _ _ :: _, _, h => by cases h
  | .scr _ :: _, _, h => by cases h
theorem ints_map : ∀ ns : List Int, ints? (ns.map D.int) = some ns
  | [] => rfl
  | n :: ns => by
    show (ints? (ns.map D.int)).map (fun r => n :: r) = _
    rw [ints_map ns]; rfl
theorem bls_of : ∀ {ds : List D} {ns : List Bool}, bls? ds = some ns → ds = ns.map D.bl
  | [], _, h => by cases h; rfl
  | .bl i :: ds, _, h => by
    have h : (bls? ds).map (fun r => i :: r) = some _ := h
    cases g : bls? ds with
    | none => rw [g] at h; cases h
    | some r => rw [g] at h; cases h; rw [bls_of g]; rfl
  | .non :: _, _, h => by cases h
  | .int _ :: _, _, h => by cases h
  | .str _ :: _, _, h => by cases h
  | .tup _ :: _, _, h => by cases h
  | .lst _ _ :: _, _, h => by cases h
  | .dK _ _ _ :: _, _, h => by cases h
  | .dT _ _ _ :: _, _, h => by cases h
  | .scr _ :: _, _, h => by cases h
theorem bls_map : ∀ ns : List Bool, bls? (ns.map D.bl) = some ns
  | [] => rfl
  | n :: ns => by
    show (bls? (ns.map D.bl)).map (fun r => n :: r) = _
    rw [bls_map ns]; rfl
theorem Dens.ints : ∀ {ns : List Int} {vs : List V} {c : Cnt}, Dens K Z H (ns.map D.int) vs c → vs = ns.map V.int
  | [], _, _, q => q.1
  | n :: ns, _, _, q => by
    obtain ⟨v, r, c1, c2, rfl, q1, q2, _⟩ := q
    rw [Dens.ints q2, q1.1]; rfl
theorem Dens.bls : ∀ {ns : List Bool} {vs : List V} {c : Cnt}, Dens K Z H (ns.map D.bl) vs c → vs = ns.map V.bl
  | [], _, _, q => q.1
  | n :: ns, _, _, q => by
    obtain ⟨v, r, c1, c2, rfl, q1, q2, _⟩ := q
    rw [Dens.bls q2, q1.1]; rfl
theorem dens_ints : ∀ ns : List Int, Dens K Z H (ns.map D.int) (ns.map V.int) zc
  | [] => ⟨rfl, rfl⟩
  | n :: ns => ⟨_, _, zc, zc, rfl, ⟨rfl, rfl⟩, dens_ints ns, (add_zc _).symm⟩
mutual
theorem Den.dp : ∀ {d : D} {v : V} {c : Cnt}, d.py.canLay0 = true → Den K Z H d v c → Dp K H v d.py
  | .non, _, _, _, q => by rw [q.1]; exact .non
  | .bl b, _, _, _, q => by rw [q.1]; exact .bl b
  | .int i, _, _, _, q => by rw [q.1]; exact .int i
  | .str s, _, _, _, q => by rw [q.1]; exact .str s
  | .tup ds, _, _, p, q => by
    obtain ⟨a, vs, rfl, s, q⟩ := q
    exact .tup s (Dens.dp p q)
  | .lst o ds, _, _, p, q => by
    obtain ⟨a, vs, c', rfl, s, q⟩ := q.lstI
    exact .lst (SqL.of s) (Dens.dp p q)
  | .dK _ _ _, _, _, p, _ => by cases p
  | .dT _ _ _, _, _, p, _ => by cases p
  | .scr _, _, _, p, _ => by cases p
theorem Dens.dp : ∀ {ds : List D} {vs : List V} {c : Cnt}, PyData.canLayAll0 (D.pys ds) = true → Dens K Z H ds vs c → DpAll K H vs (D.pys ds)
  | [], _, _, _, q => by rw [q.1]; exact .nil
  | d :: ds, _, _, p, q => by
    obtain ⟨v, r, c1, c2, rfl, q1, q2, rfl⟩ := q
    have p : (d.py.canLay0 && PyData.canLayAll0 (D.pys ds)) = true := p
    rw [Bool.and_eq_true] at p
    exact .cons (Den.dp p.1 q1) (Dens.dp p.2 q2)
end
theorem shp_lay {d : D} (h : d.shp = true) : d.py.canLay0 = true := SeqAt.canLay_of_shaped h
theorem Den.flat {d : D} {v : V} {c : Cnt} (f : d.flat = true) (q : Den K Z H d v c) : L2.flatV v = true := by
  cases d with
  | non => rw [q.1]; rfl
  | bl b => rw [q.1]; rfl
  | int i => rw [q.1]; rfl
  | str s => rw [q.1]; rfl
  | _ => cases f
theorem Den.eqV {d e : D} {v u : V} {c c' : Cnt} (f : d.flat = true) (g : e.flat = true) (q : Den K Z H d v c) (p : Den K Z H e u c') : L2.eqV v u = d.eqv e := by
  cases d with
  | non => cases e with
    | _ => first | (rw [q.1, p.1]; rfl) | cases g
  | bl b => cases e with
    | _ => first | (rw [q.1, p.1]; rfl) | cases g
  | int i => cases e with
    | _ => first | (rw [q.1, p.1]; rfl) | cases g
  | str s => cases e with
    | _ => first | (rw [q.1, p.1]; rfl) | cases g
  | _ => cases f
theorem Dens.flatAll : ∀ {ds : List D} {vs : List V} {c : Cnt}, ds.all D.flat = true → Dens K Z H ds vs c → vs.all L2.flatV = true
  | [], _, _, _, q => by rw [q.1]; rfl
  | d :: ds, _, _, f, q => by
    obtain ⟨v, r, c1, c2, rfl, q1, q2, rfl⟩ := q
    rw [List.all_cons, Bool.and_eq_true] at f
    rw [List.all_cons, Den.flat f.1 q1, Dens.flatAll f.2 q2]; rfl
theorem Dens.inV {d : D} {v : V} {c' : Cnt} (fd : d.flat = true) (p : Den K Z H d v c') : ∀ {ds : List D} {vs : List V} {c : Cnt}, ds.all D.flat = true → Dens K Z H ds vs c → L2.inV v vs = inD d ds
  | [], _, _, _, q => by rw [q.1]; rfl
  | d :: ds, _, _, f, q => by
    obtain ⟨w, r, c1, c2, rfl, q1, q2, rfl⟩ := q
    rw [List.all_cons, Bool.and_eq_true] at f
    show (L2.eqV w v || L2.inV v r) = (d.eqv _ || inD _ ds)
    rw [Den.eqV f.1 fd q1 p, Dens.inV fd p f.2 q2]
end

/-! ### a new object as the answer -/
section
variable {K : PySem.W.Frag} {Z : Addr → Prop} {H : Hp} {c : Cnt} {d : D} {Q : VK}
abbrev OpK (K : PySem.W.Frag) (Z : Addr → Prop) (H : Hp) (c : Cnt) (d : D) (Q : VK) : Prop :=
  ∀ v H' ca, Den K Z H' d v ca → Gd Z H' (add c ca) → (∀ a u, H a = some u → H' a = some u) → (∀ a, H a ≠ none → ca a = 0) → Q v H'
theorem k_plain (k : OpK K Z H c d Q) (G : Gd Z H c) {v : V} (q : Den K Z H d v zc) : Q v H :=
  k v H zc q (by rw [add_zc]; exact G) (fun _ _ h => h) fun _ _ => rfl
theorem k_lst {ds : List D} {vs : List V} (k : OpK K Z H c (.lst true ds) Q) (G : Gd Z H c) (q : Dens K Z H ds vs zc) : ∀ p, H p = none → Q (.ref p) (upd H p (.lst vs)) := fun p hp =>
  k _ _ (one p) ⟨p, vs, zc, rfl, upd_same, Dens.loc (fun _ z => z) (fun a o h _ => keep_new hp a o h) q, (add_zc _).symm⟩ (by rw [add_comm]; exact G.new hp rfl) (keep_new hp) fun a h => one_ne fun e => h (e ▸ hp)
theorem k_tup {ds : List D} {vs : List V} (k : OpK K Z H c (.tup ds) Q) (G : Gd Z H c) (q : Dens K Z H ds vs zc) : ∀ p, H p = none → Q (.ref p) (upd H p (.tup vs)) := fun p hp =>
  k _ _ zc ⟨p, vs, rfl, SqT.of upd_same, Dens.loc (fun _ z => z) (fun a o h _ => keep_new hp a o h) q⟩ (by rw [add_zc]; exact G.newT hp) (keep_new hp) fun a h => rfl
end

/-! ### rules of two -/
def r2L (r : R2) : List V → Hp → VK → Prop
  | [x, y], H, Q => r x y H Q
  | _, _, _ => False
def r1L (r : V → Hp → VK → Prop) : List V → Hp → VK → Prop
  | [x], H, Q => r x H Q
  | _, _, _ => False

/-- () + t -/
theorem dl_addW0 (l b : Addr) (items items2 : Array Value) (n n2 : Nat) (dd dd2 : Option Addr) (sl sl2 : Array (Option Value)) (hc0 : items.isEmpty = true) :
    Meets (Builtin.«tuple.__add__» ⟨[.ref l, .ref b], []⟩) (fun _ R s => s.heap.get? l = some { cls := .type "tuple", dict := dd, data := .seq items n, slots := sl } ∧ s.heap.get? b = some { cls := .type "tuple", dict := dd2, data := .seq items2 n2, slots := sl2 } ∧ R (.ok (.ret (Value.ref b))) { s with heap := s.heap, toks := s.toks }) :=
  .of_wp fun prog w A R s h => by obtain ⟨hp, g, d, tk, os⟩ := s; obtain ⟨hl, hb, h⟩ := h; have f1 := AutoSeq1.idx_int; have f2 := AutoSeq1.sub_tuple_tuple; have f3 := AutoSeq1.sub_list_list; have f4 := AutoSeq1.sub_tuple_list; have f5 := AutoSeq1.sub_list_tuple; wp_walk using wpAny_loadPart' hl, wpAny_loadPart' hb; exact ⟨_, rfl, h⟩
end DL
end

section
/-! DW1: more words: a tuple turned round; sets of ints, their number, sorted. -/
namespace HT
open PySem PySem.Spec PySem.Calls PyProof.Rows
section
variable {prog : Program} {w : World} {A : Around} {E : Value → Shared → Prop} {s : Shared}
/-- what the places of a row are, from behind -/
theorem rev_pick (xs : Array Value) : ((List.range xs.size).filterMap fun (m : Nat) => xs[(((xs.size : Int) - 1) + (m : Int) * (-1)).toNat]?) = xs.toList.reverse := by
  have e : ∀ n, n ≤ xs.size → ((List.range n).filterMap fun (m : Nat) => xs[(((xs.size : Int) - 1) + (m : Int) * (-1)).toNat]?) = xs.toList.reverse.take n := by
    intro n
    induction n with
    | zero => intro _; rfl
    | succ n ih =>
      intro hn
      have hi : xs.size - 1 - n < xs.size := by omega
      have hk : (((xs.size : Int) - 1) + (n : Int) * (-1)).toNat = xs.size - 1 - n := by omega
      have hr : xs.toList.reverse[n]? = some xs[xs.size - 1 - n] := by
        rw [List.getElem?_reverse (by rw [Array.length_toList]; omega), Array.length_toList, Array.getElem?_toList, Array.getElem?_eq_getElem hi]
      rw [List.range_succ, List.filterMap_append, ih (by omega), List.take_add_one, hr]
      congr 1
      rw [List.filterMap_cons]
      simp only [hk, Array.getElem?_eq_getElem hi, List.filterMap_nil, Option.toList]
  have := e xs.size (Nat.le_refl _)
  rw [this, List.take_of_length_le (by rw [List.length_reverse, Array.length_toList]; exact Nat.le_refl _)]
theorem applied_rev {b : Addr} {x1 x2 x3 : Value} {n : Nat} {Q : Int × Int × Nat → Shared → Prop} (hs : s.heap.IsSliceOf b x1 x2 x3) (p1 : IsPart x1 none) (p2 : IsPart x2 none) (p3 : IsPart x3 (some (-1))) (h : Q ((n : Int) - 1, -1, n) s) : wpAny (model prog w) A (Builtin.Slice.sliceApplied (.ref b) (pure (n : Int))) Q E s := by
  obtain ⟨o, h1, _, h2⟩ := id hs
  unfold Builtin.Slice.sliceApplied Builtin.Slice.sliceFields
  refine wpAny_bind (wpAny_bind (wpAny_field h1 h2 (x := x1) rfl (wpAny_bind (wpAny_field h1 h2 (x := x2) rfl (wpAny_bind (wpAny_field h1 h2 (x := x3) rfl (wpAny_pure ?_)))))))
  refine wpAny_bind (slicePart_ p3 ?_)
  show wpAny _ _ (if ((-1 : Int) == 0) = true then _ else _) _ _ s
  rw [if_neg (by decide)]
  refine wpAny_bind (slicePart_ p1 (wpAny_bind (slicePart_ p2 (wpAny_bind (wpAny_pure ?_)))))
  have e1 : Builtin.Slice.sliceAdjust none none (-1) (n : Int) = ((n : Int) - 1, -1) := rfl
  have e2 : Builtin.Slice.slicePlaces ((n : Int) - 1) (-1) (-1) = n := by
    unfold Builtin.Slice.slicePlaces
    rw [if_neg (by decide), show -(-1 : Int) = 1 from rfl, Int.ediv_one]
    split <;> omega
  show wpAny _ _ (match Builtin.Slice.sliceAdjust none none (-1) (n : Int) with | (lo, hi) => pure (lo, (-1 : Int), Builtin.Slice.slicePlaces lo hi (-1))) _ _ s
  rw [e1]
  show wpAny _ _ (pure ((n : Int) - 1, (-1 : Int), Builtin.Slice.slicePlaces ((n : Int) - 1) (-1) (-1))) _ _ s
  rw [e2]
  exact wpAny_pure h
theorem tup_turned {t b : Addr} {its : Array Value} {x1 x2 x3 : Value} {Q : Value → Shared → Prop} (ht : IsTup s.heap t its) (hs : s.heap.IsSliceOf b x1 x2 x3) (p1 : IsPart x1 none) (p2 : IsPart x2 none) (p3 : IsPart x3 (some (-1)))
    (h : Q (.ref s.heap.objs.size) { s with heap := s.heap.push { cls := .type "tuple", data := .seq its.toList.reverse.toArray } }) (hz : its.size ≤ sizeLine) : wpAny (model prog w) A (getItem (.ref t) (.ref b)) Q E s := by
  have hk : sizeOk (.seq its.toList.reverse.toArray) := by show its.toList.reverse.toArray.size ≤ sizeLine; rw [List.size_toArray, List.length_reverse, Array.length_toList]; exact hz
  obtain ⟨o, h1, h2, h3⟩ := id hs
  have ty : s.TypeIs (.ref b) "slice" := ⟨o, h1, h2⟩
  unfold getItem
  try with_reducible refine wpAny_holding ?_
  first | refine wpAny_bind (wpAny_pure ?_) | skip
  refine wpAny_bind (wpAny_sequenceKey ht.typeIs (by decide) ?_)
  refine wpAny_bind (wpAny_callSpecial?_slot (name := Str.ofString "__getitem__") ht.typeIs PyProof.Rows.slot_tuple_getitem (wpAny_call_entry PyProof.Rows.slot_tuple_getitem ht.typeIs entry_tuple_getitem ?_ (args_tuple_getitem _ _)))
  show wpAny _ _ (Builtin.Tuple.tupleItemsOf (.ref t) >>= _) _ _ s
  refine wpAny_bind (tupleItemsOf_ ht (wpAny_bind (wpAny_typeOf ty ?_)))
  rw [if_pos (by decide)]
  refine wpAny_bind (applied_rev hs p1 p2 p3 ?_)
  have hno : ¬ ((((its.size : Int) - 1) == 0 && (-1 : Int) == 1 && its.size == its.size) = true) := by
    rw [show ((-1 : Int) == 1) = false from rfl, Bool.and_false, Bool.false_and]; exact Bool.false_ne_true
  show wpAny _ _ (if (((its.size : Int) - 1) == 0 && (-1 : Int) == 1 && its.size == its.size) = true then _ else _) _ _ s
  rw [if_neg hno, rev_pick]
  first
    | exact wpAny_bind (m := Builtin.Tuple.tupleExact _) (wpAny_newObj_type (wpAny_pure ⟨_, rfl, wpAny_pure h⟩) hk)
    | exact wpAny_bind (m := Builtin.Tuple.tupleExact _) (wpAny_newObj_type (wpAny_bind (wpAny_pure (wpAny_pure ⟨_, rfl, wpAny_pure h⟩))) hk)
    | exact wpAny_bind (wpAny_bind (m := Builtin.Tuple.tupleExact _) (wpAny_newObj_type (wpAny_pure (wpAny_pure ⟨_, rfl, wpAny_pure h⟩)) hk))
    | exact wpAny_bind (wpAny_bind (m := Builtin.Tuple.tupleExact _) (wpAny_newObj_type (wpAny_pure ⟨_, rfl, wpAny_pure h⟩) hk))
end
end HT
namespace L2
open PySem PySem.Spec PyProof.Rows
section
variable {X : Cx}
/-- x[::-1] of a list or a tuple -/
def rTurn (K : PySem.W.Frag) : List V → Hp → VK → Prop := fun vs H Q => ∃ a xs, vs = [.ref a] ∧ ((SqL K H a xs ∧ ∀ p, H p = none → Q (.ref p) (upd H p (.lst xs.reverse))) ∨ (SqT K H a xs ∧ ∀ p, H p = none → Q (.ref p) (upd H p (.tup xs.reverse))))
theorem pe_turn {e : Expr} {te : TE} {k : Nat} {p1 p2 p3 pos : Pos} (he : PE X e te) : PE X (.Subscript e (.Slice none none (some (.UnaryOp .USub (.Constant (.int 1) k p1) p2)) p3) pos) (fun σ H Q => te σ H fun x H1 => rTurn X.K [x] H1 Q) := by
  refine ⟨fun pins s σ H Q I h => Subscript_ (thn (he.run pins s σ H _ I h) fun v s1 ⟨x, H1, I1, r1, a, xs, ex, q1⟩ => ?_)⟩
  injection ex with ex _; subst ex; cases r1
  have st : PO X (some (.UnaryOp .USub (.Constant (.int 1) k p1) p2)) (tPart (tUn (rU fun i => .int (-i)) (tC (.int 1)))) := po_some (pe_un un_neg pe_int)
  refine wpAny_Slice (thn (po_none.run pins s1 σ H1 (fun o G => o = none ∧ G = H1) I1 ⟨rfl, rfl⟩) fun y1 s2 ⟨o1, H2, I2, g1, z1, z2⟩ => ?_)
  subst z1 z2
  refine thn (po_none.run pins s2 σ H2 (fun o G => o = none ∧ G = H2) I2 ⟨rfl, rfl⟩) fun y2 s3 ⟨o2, H3, I3, g2, z3, z4⟩ => ?_
  subst z3 z4
  refine thn (st.run pins s3 σ H3 (fun o G => o = some (-1) ∧ G = H3) I3 ⟨1, rfl, -1, rfl, rfl, rfl⟩) fun y3 s4 ⟨o3, H4, I4, g3, z5, z6⟩ => ?_
  subst z5 z6
  have I5 : Inv X pins σ H4 { s4 with heap := s4.heap.push { cls := .type "slice", data := .fields #[y1, y2, y3] } } := I4.kept (t' := s4.toks) fun b ob q => Heap.get?_push_of_some _ q
  show wpAny (model X.prog X.w) X.A (subscriptTail e (.Slice none none (some (.UnaryOp .USub (.Constant (.int 1) k p1) p2)) p3) (.ref a) (.ref s4.heap.objs.size)) (EP X pins σ Q) X.xe _
  rcases q1 with ⟨hx, q⟩ | ⟨hx, q⟩
  · obtain ⟨its, r, ht, hz⟩ := I5.list hx
    have hl := r.length
    refine tail_any (ops := [.ref a, .ref s4.heap.objs.size]) ht.isList.typeIs (PySem.slot_list_getitem.lookup) (wpAny_getItem_list_slice ht.isList (Heap.IsSliceOf.new _ y1 y2 y3) g1 g2 g3 (by decide) ?_ (by rw [List.size_toArray]; omega)) (by with_unfolding_all rfl)
    rw [PySem.W.krv_pick]
    exact ⟨.ref _, _, I5.laid (t' := s4.toks) (o := .lst xs.reverse) (fun b ob q => Heap.get?_push_of_some _ q) (Nat.le_refl _) ⟨by rw [List.length_reverse]; exact hz, _, 0, r.reverse, Heap.get?_push_size _ rfl⟩, rfl, q _ (I5.hok.fresh (Nat.le_refl _))⟩
  · obtain ⟨its, r, ht, hz⟩ := I5.tuple hx
    have hl := r.length
    refine tail_any (ops := [.ref a, .ref s4.heap.objs.size]) ht.typeIs (PyProof.Rows.slot_tuple_getitem.lookup) (HT.tup_turned ht (Heap.IsSliceOf.new _ y1 y2 y3) g1 g2 g3 ?_ (by rw [List.size_toArray]; omega)) (by with_unfolding_all rfl)
    exact ⟨.ref _, _, I5.laid (t' := s4.toks) (o := .tup xs.reverse) (fun b ob q => Heap.get?_push_of_some _ q) (Nat.le_refl _) ⟨by rw [List.length_reverse]; exact hz, _, r.reverse, IsTup.new _ _⟩, rfl, q _ (I5.hok.fresh (Nat.le_refl _))⟩
end
end L2
namespace DL
open PySem PySem.Spec L2
open PyProof.Rows hiding St
theorem dedup_mem {x : Int} : ∀ {ns : List Int}, x ∈ dedup ns ↔ x ∈ ns
  | [] => Iff.rfl
  | n :: ns => by
    show x ∈ (if n ∈ dedup ns then dedup ns else n :: dedup ns) ↔ _
    split
    · rename_i h
      rw [dedup_mem, List.mem_cons]
      exact ⟨.inr, fun h' => h'.elim (fun e => by rw [e]; exact dedup_mem.mp h) id⟩
    · rw [List.mem_cons, List.mem_cons, dedup_mem]
theorem dedup_nd : ∀ {ns : List Int}, (dedup ns).Nodup
  | [] => List.nodup_nil
  | n :: ns => by
    show (if n ∈ dedup ns then dedup ns else n :: dedup ns).Nodup
    split
    · exact dedup_nd
    · rename_i h; exact List.nodup_cons.mpr ⟨h, dedup_nd⟩
theorem nd_len : ∀ (l D : List Int), l.Nodup → (∀ x ∈ l, x ∈ D) → l.length ≤ D.length
  | [], _, _, _ => Nat.zero_le _
  | x :: l, D, h, hs => by
    obtain ⟨h1, h2⟩ := List.nodup_cons.mp h
    have hx := hs x List.mem_cons_self
    have := nd_len l (D.erase x) h2 fun y hy => by
      have hne : y ≠ x := fun e => h1 (e ▸ hy)
      exact (List.mem_erase_of_ne hne).mpr (hs y (List.mem_cons_of_mem _ hy))
    rw [List.length_erase_of_mem hx] at this
    have hp := List.length_pos_of_mem hx
    rw [List.length_cons]; omega
theorem nd_len_eq {l D : List Int} (h : l.Nodup) (h' : D.Nodup) (e : ∀ x, x ∈ l ↔ x ∈ D) : l.length = D.length :=
  Nat.le_antisymm (nd_len l D h fun x hx => (e x).mp hx) (nd_len D l h' fun x hx => (e x).mpr hx)
theorem met_spec (ns : List Int) : ∀ i, i ≤ ns.length → (PyProof.Rows.firstMet (fun i => ns.getD i 0) i).Nodup ∧ ∀ x, x ∈ PyProof.Rows.firstMet (fun i => ns.getD i 0) i ↔ x ∈ ns.take i
  | 0, _ => ⟨List.nodup_nil, fun x => by rw [PyProof.Rows.firstMet_zero, List.take_zero]⟩
  | i + 1, h => by
    obtain ⟨h1, h2⟩ := met_spec ns i (by omega)
    have hg : ns.getD i 0 = ns[i] := by rw [List.getD_eq_getElem?_getD, List.getElem?_eq_getElem (by omega)]; rfl
    have ht : ns.take (i + 1) = ns.take i ++ [ns[i]] := by rw [List.take_add_one, List.getElem?_eq_getElem (by omega)]; rfl
    rw [PyProof.Rows.firstMet_succ, ht]
    show (if (PyProof.Rows.firstMet (fun i => ns.getD i 0) i).any (· == ns.getD i 0) then _ else _ ++ [ns.getD i 0]).Nodup ∧ ∀ x, x ∈ (if (PyProof.Rows.firstMet (fun i => ns.getD i 0) i).any (· == ns.getD i 0) then _ else _ ++ [ns.getD i 0]) ↔ _
    rw [hg]
    by_cases ha : (PyProof.Rows.firstMet (fun i => ns.getD i 0) i).any (· == ns[i]) = true
    · rw [if_pos ha]
      refine ⟨h1, fun x => ?_⟩
      obtain ⟨y, hy, ey⟩ := List.any_eq_true.mp ha
      have ey : y = ns[i] := eq_of_beq ey
      rw [h2, List.mem_append, List.mem_singleton]
      exact ⟨.inl, fun h => h.elim id fun e => by rw [e, ← ey]; exact (h2 y).mp hy⟩
    · rw [if_neg ha]
      have hn : ns[i] ∉ PyProof.Rows.firstMet (fun i => ns.getD i 0) i := fun hm => ha (List.any_eq_true.mpr ⟨_, hm, beq_self_eq_true _⟩)
      refine ⟨?_, fun x => by rw [List.mem_append, List.mem_append, h2]⟩
      rw [List.nodup_append]
      exact ⟨h1, by simp, fun a ha b hb e => hn (by rw [List.mem_singleton] at hb; rw [← hb, ← e]; exact ha)⟩
theorem met_len (ns : List Int) : (PyProof.Rows.firstMet (fun i => ns.getD i 0) ns.length).length = (dedup ns).length := by
  obtain ⟨h1, h2⟩ := met_spec ns ns.length (Nat.le_refl _)
  exact nd_len_eq h1 dedup_nd fun x => by rw [h2, List.take_length, dedup_mem]
/-- len(set(x)) -/
def rSetLen (K : PySem.W.Frag) : List V → Hp → VK → Prop := fun vs H Q => ∃ (l : Addr) (ns : List Int), vs = [.ref l] ∧ (SqL K H l (ns.map V.int) ∨ SqT K H l (ns.map V.int)) ∧ ns.length ≤ 3000 ∧ Q (.int ((dedup ns).length : Nat)) H
theorem pe_setLen {X : Cx} {a : PySem.Expr} {ta : TE} {p p2 q pos : Pos} (hg : Gl X "len") (hm : X.mg "len" = none) (hg2 : Gl X "set") (hm2 : X.mg "set" = none) (ha : PE X a ta) (hc : X.calm = true)
    (na : starEach [a] X.env = (false, eval a X.env) :: starEach [] X.env) : PE X (.Call (.Name "len" p) [.Call (.Name "set" p2) [a] [] q] [] pos) (fun σ H Q => ta σ H fun x H1 => rSetLen X.K [x] H1 Q) := by
  refine ⟨fun pins s σ H Q I h => Call_ (ld_blt I hg hm boot_len (PyProof.Rows.callWith_builtin1 (PyProof.Rows.args_cons ?_ rfl) rfl rfl))⟩
  refine Call_ (ld_blt I hg2 hm2 boot_set (PyProof.Rows.callWith_type1 (PyProof.Rows.args_cons (thn (ha.run pins s σ H _ I h) fun v s1 ⟨x, H1, I1, r1, l, ns, ex, hq, hl, q1⟩ => PyProof.Rows.args_nil ?_) na) na rfl))
  injection ex with ex _; subst ex; cases r1
  rcases hq with hq | hq
  · obtain ⟨its, r, pl, hz⟩ := I1.list hq
    have hn : its.toArray.size = ns.length := by rw [List.size_toArray, ← r.length, List.length_map]
    refine call_set_list (I1.ok.hd hc) pl.isList (by simpa using L2.intsAre_of r) (by rw [hn]; unfold scanBound; omega) fun h' tk hS hk => PyProof.Rows.args_nil ?_
    rw [hn, met_len] at hS
    obtain ⟨o, es, ep, t, ho, hex, hd, _, _, _, hf, hc'⟩ := hS
    have hle : (dedup ns).length ≤ ns.length := nd_len _ _ dedup_nd fun x hx => dedup_mem.mp hx
    have I2 : Inv X pins σ H1 { s1 with heap := h', toks := tk } := I1.kept fun b o e => hk b o (Heap.lt_size e) e
    exact call_len_set ho hex hd hf (by omega) ⟨.int (dedup ns).length, H1, I2.tok _, ⟨_, by rw [hc']⟩, q1⟩
  · obtain ⟨its, r, pl, hz⟩ := I1.tuple hq
    refine call_set_tupI ns (I1.ok.hd hc) (show s1.heap.IsTuple l its.toArray from pl) (by simpa using L2.intsAre_of r) (by unfold scanBound; omega) fun h' tk c R hcn hk => PyProof.Rows.args_nil ?_
    obtain ⟨o, es, ep, t, ho, hex, hd, _, nd, hmm, _, hf, hc', _, _⟩ := R
    have e : (es.toList.map keyOf).length = (dedup ns).length := nd_len_eq nd dedup_nd fun x => by rw [← hmm x, decide_eq_true_eq, dedup_mem]
    have e2 : es.size = (dedup ns).length := by rw [← e, List.length_map, Array.length_toList]
    have hle : (dedup ns).length ≤ ns.length := nd_len _ _ dedup_nd fun x hx => dedup_mem.mp hx
    have I2 : Inv X pins σ H1 { s1 with heap := h', toks := tk } := I1.kept fun b o e => hk b o e
    exact call_len_set ho hex hd hf (by omega) ⟨.int (dedup ns).length, H1, I2.tok _, ⟨_, by rw [e2]⟩, q1⟩
/-- sorted(set(x)) of a tuple -/
def rSetSorted (K : PySem.W.Frag) : List V → Hp → VK → Prop := fun vs H Q => ∃ (l : Addr) (ns : List Int), vs = [.ref l] ∧ SqT K H l (ns.map V.int) ∧ ns.length ≤ 3000 ∧ (dedup ns).length < 64 ∧
  ∀ (ms : List Int) (p : Addr), ms.Pairwise (· < ·) → (∀ k : Int, k ∈ ms ↔ k ∈ ns) → H p = none → Q (.ref p) (upd H p (.lst (ms.map V.int)))
theorem pe_setSorted {X : Cx} {a : PySem.Expr} {ta : TE} {p p2 q pos : Pos} (hg : Gl X "sorted") (hm : X.mg "sorted" = none) (hg2 : Gl X "set") (hm2 : X.mg "set" = none) (ha : PE X a ta) (hc : X.calm = true)
    (na : starEach [a] X.env = (false, eval a X.env) :: starEach [] X.env) : PE X (.Call (.Name "sorted" p) [.Call (.Name "set" p2) [a] [] q] [] pos) (fun σ H Q => ta σ H fun x H1 => rSetSorted X.K [x] H1 Q) := by
  refine ⟨fun pins s σ H Q I h => Call_ (ld_blt I hg hm boot_sorted (PyProof.Rows.callWith_builtin1 (PyProof.Rows.args_cons ?_ rfl) rfl rfl))⟩
  refine Call_ (ld_blt I hg2 hm2 boot_set (PyProof.Rows.callWith_type1 (PyProof.Rows.args_cons (thn (ha.run pins s σ H _ I h) fun v s1 ⟨x, H1, I1, r1, l, ns, ex, hq, hl, h64, q1⟩ => PyProof.Rows.args_nil ?_) na) na rfl))
  injection ex with ex _; subst ex; cases r1
  obtain ⟨its, r, pl, hz⟩ := I1.tuple hq
  refine call_set_tupI ns (I1.ok.hd hc) (show s1.heap.IsTuple l its.toArray from pl) (by simpa using L2.intsAre_of r) (by unfold scanBound; omega) fun h' tk c R hcn hk => PyProof.Rows.args_nil ?_
  have hcl : c = (dedup ns).length := by
    obtain ⟨o, es, ep, t, ho, hex, hd, _, nd, hmm, _, hf, hc', _, _⟩ := id R
    rw [← hc', ← nd_len_eq nd dedup_nd fun x => by rw [← hmm x, decide_eq_true_eq, dedup_mem], List.length_map, Array.length_toList]
  have I2 : Inv X pins σ H1 { s1 with heap := h', toks := tk } := I1.kept fun b o e => hk b o e
  refine sorted_set (s := { s1 with heap := h', toks := tk }) R (I2.ok.hd hc) (by omega) fun s' p out c ms k g o hp hgt hi hs hmem hlen => ?_
  have hz2 : (ms.map V.int).length ≤ sizeLine := by rw [List.length_map, hlen, hcl, sizeLine_eq]; omega
  have hn : H1 p = none := I2.hok.fresh hp
  have J : Inv X pins σ (upd H1 p (.lst (ms.map V.int))) { ({ s1 with heap := h', toks := tk } : Shared) with heap := s'.heap, gens := s'.gens, drawn := s'.drawn, toks := s'.toks } :=
    I2.call (ch := []) (Un.laid k hp hn) (I2.hok.laid k hp ⟨hz2, out.toList, c, vals_of_ints hi, hgt⟩) (by rw [g]; exact I2.bare) (fun _ z => nomatch z)
  have e : s' = { s1 with heap := s'.heap, gens := s'.gens, drawn := s'.drawn, toks := s'.toks } := by
    cases s'; cases s1; cases o; rfl
  rw [e]
  exact ⟨.ref p, _, J, rfl, q1 ms p hs (fun k => by rw [hmem k, decide_eq_true_eq]) hn⟩
end DL
end

section
/-! DW2: sorted of a tuple of ints, of a list of pairs of ints. -/
namespace SrtO
open PySem PySem.Spec PySem.Calls PyProof.Rows
section
variable {prog : Program} {w : World} {A : Around} {E : Value → Shared → Prop} {s : Shared}
/-- the heap behind a row's items laid into a list of their own -/
def laidH (h : Heap) (its : Array Value) : Heap := (h.push { cls := .type "list", data := .seq ([] : List Value).toArray }).update h.objs.size (Obj.mapSeq (· ++ its))
theorem laidH_old {h : Heap} {its : Array Value} {b : Addr} {o : Obj} (e : h.get? b = some o) : (laidH h its).get? b = some o :=
  (Heap.get?_update_other _ _ (Nat.ne_of_gt (Heap.lt_size e))).trans (Heap.get?_push_of_some _ e)
theorem laidH_size (h : Heap) (its : Array Value) : (laidH h its).objs.size = h.objs.size + 1 := by unfold laidH; rw [Heap.size_update, Heap.size_push]
theorem tup_items {l : Addr} {its : Array Value} {Q : List Value → Shared → Prop} (ht : IsTup s.heap l its) (hz : its.size ≤ sizeLine) (hQ : Q its.toList { s with heap := laidH s.heap its }) : wpAny (model prog w) A (collect (.ref l)) Q E s := by
  obtain ⟨o, ho, hc, n, hd⟩ := ht
  unfold collect
  refine wpAny_bind (wpAny_runValue (codeAny_builtin PySem.F.entry_proto_collect ?_)); rw [Around.under_plainId PySem.F.plain_proto_collect _]
  show wpAny _ A.in1 (newList [] >>= fun k => again (.builtin "list.__iadd__" ⟨[k, .ref l], []⟩)) _ _ s
  refine wpAny_bind (wpAny_newObj_type (wpAny_pure ⟨plainId_quiet PySem.F.plain_list_iadd _, codeAny_builtin PySem.F.entry_list_iadd ?_⟩)); rw [Around.under_plainId PySem.F.plain_list_iadd _]
  show wpAny _ A.in1 (Builtin.List.listExtendWith (.ref s.heap.objs.size) (.ref l) (.ref s.heap.objs.size)) _ _ _
  have g0 : (s.heap.push { cls := .type "list", data := .seq ([] : List Value).toArray }).get? s.heap.objs.size = some { cls := .type "list", data := .seq #[] 0 } := Heap.get?_push_size _ rfl
  have g1 := Heap.get?_update_self (Obj.mapSeq (· ++ its)) g0 rfl
  have last : wpAny (model prog w) A (match Value.ref s.heap.objs.size with
      | Value.ref a => (load a >>= fun x => match x.data with | Data.seq xs _ => pure xs.toList | _ => unsupported "internal:collect")
      | _ => unsupported "internal:collect") Q E { s with heap := laidH s.heap its } := by
    show wpAny _ A (load s.heap.objs.size >>= _) _ _ _
    refine wpAny_bind (wpAny_load g1 (wpAny_pure ?_))
    show Q ((#[] : Array Value) ++ its).toList _
    rw [show ((#[] : Array Value) ++ its).toList = its.toList by simp]
    exact hQ
  refine wpAny_mono (wpAny_extend_seq (hsz := hz) (A := A) (R := fun r t => r = .ok (.ret (.ref s.heap.objs.size)) ∧ t = { s with heap := laidH s.heap its }) (s := { s with heap := s.heap.push { cls := .type "list", data := .seq ([] : List Value).toArray } }) _ l _ 0 (.inr rfl) g0 (Heap.get?_push_of_some _ ho) hc hd ⟨rfl, rfl⟩) (fun fin t h => ?_) (fun e t h => absurd h.1 (by simp))
  cases fin with
  | done f => obtain ⟨e, rfl⟩ := h; cases e; exact last
  | again c => exact ⟨h.1, codeAny_mono h.2 fun r t hr => by obtain ⟨rfl, rfl⟩ := hr; exact last⟩
theorem sorted_of_tup {l : Addr} {its : Array Value} {ltv : Value → Value → Bool} {Q : Value → Shared → Prop} (O : Swo ltv) (ht : IsTup s.heap l its) (hz : its.size ≤ sizeLine)
    (hS : 2 ≤ its.toList.length → ∀ (g : Heap) (a : Addr), g.get? a = some (seqObj "list" its.toList.toArray 0) → (∀ b o, s.heap.get? b = some o → b ≠ a ∧ g.get? b = some o) → SortableO prog w A.in1.in1 { s with heap := g } a its.toList ltv)
    (h : ∀ (g : Heap) (a : Addr) (out : List Value) (n : Nat), Srtd ltv out → Stb ltv out its.toList → (∀ b o, s.heap.get? b = some o → g.get? b = some o) → s.heap.objs.size ≤ a → g.get? a = some (seqObj "list" out.toArray n) → Q (.ref a) { s with heap := g }) :
    wpAny (model prog w) A (call (.builtin "sorted") [.ref l]) Q E s := by
  refine Calls.call_function_entry kind_sorted plain_sorted entry_sorted (args_sorted1 _) ?_
  unfold Builtin.«sorted»
  refine wpAny_bind (m := checkCount "sorted" 1 1 _) (wpAny_pure ?_)
  refine wpAny_bind (tup_items ht hz ?_)
  have hz2 : its.toList.length ≤ sizeLine := by rw [Array.length_toList]; exact hz
  refine wpAny_bind (wpAny_newList ?_ hz2)
  have hoL : ((laidH s.heap its).push (seqObj "list" its.toList.toArray 0)).get? (laidH s.heap its).objs.size = some (seqObj "list" its.toList.toArray 0) := Heap.get?_push_size _ rfl
  have hsz := laidH_size s.heap its
  have keep : ∀ b o, s.heap.get? b = some o → b ≠ (laidH s.heap its).objs.size ∧ ((laidH s.heap its).push (seqObj "list" its.toList.toArray 0)).get? b = some o := fun b o q =>
    ⟨fun e => by have hq := Heap.lt_size q; rw [e, hsz] at hq; exact absurd hq (Nat.not_lt.mpr (Nat.le_succ _)), Heap.get?_push_of_some _ (laidH_old q)⟩
  refine wpAny_bind (wpAny_holding (wpAny_call_entry slot_list_sort ⟨_, hoL, rfl⟩ entry_list_sort (list_sort_ord O hoL hz2 (fun h2 => hS h2 _ _ hoL keep) fun out hs hb => ⟨_, rfl, ?_⟩) (args_list_sort _)))
  obtain ⟨c, hcc⟩ := sortedHeap_at (vs := its.toList) (out := out.toArray) hoL
  refine wpAny_pure ⟨_, rfl, h _ _ out c hs hb (fun b u e => ?_) (by rw [hsz]; exact Nat.le_succ _) hcc⟩
  rw [sortedHeap_old (keep b u e).1 (Heap.lt_size (keep b u e).2)]
  exact (keep b u e).2
end
end SrtO
namespace L2
open PySem PySem.Spec PyProof.Rows
section
variable {X : Cx}
/-- sorted of a tuple of ints -/
def rSortTI (K : PySem.W.Frag) : List V → Hp → VK → Prop := fun vs H Q => ∃ (a : Addr) (ns : List Int), vs = [V.ref a] ∧ SqT K H a (ns.map V.int) ∧ ∀ (ms : List Int) (p : Addr), ms.Perm ns → ms.Pairwise (· ≤ ·) → H p = none → Q (.ref p) (upd H p (.lst (ms.map V.int)))
theorem cr_sortTI : CallR X (.builtin "sorted") (rSortTI X.K) := by
  intro pins s σ H vs us Q I r h
  obtain ⟨a, ns, rfl, hs, q⟩ := h
  obtain ⟨its, rv, ht, hz⟩ := I.tuple hs
  rw [Vals.ref1 r]
  have hi := rv.ints
  have hz2 : its.toArray.size ≤ sizeLine := by rw [List.size_toArray, ← rv.length]; exact hz
  refine SrtO.sorted_of_tup SrtO.swo_int ht hz2 (fun h2 g a' _ _ => SrtO.ints_sortable hi h2) fun g d out n h1 h2 k hd hg => ?_
  obtain ⟨k1, k2, k3⟩ := SrtO.ints_out hi h1 h2
  have hl : ((out.map SrtO.iv).map V.int).length ≤ sizeLine := by
    rw [List.length_map, k2.length_eq]
    rwa [List.length_map] at hz
  exact ⟨.ref d, upd H d (.lst ((out.map SrtO.iv).map V.int)), I.laid (t' := s.toks) k hd ⟨hl, out, n, vals_of_ints k1, hg⟩, rfl, q _ d k2 k3 (I.hok.fresh hd)⟩
/-- values that are pairs of ints -/
inductive PrsV (K : PySem.W.Frag) (H : Hp) : List V → List (Int × Int) → Prop where
  | nil : PrsV K H [] []
  | cons {t : Addr} {p : Int × Int} {vs : List V} {ps : List (Int × Int)} : SqT K H t [.int p.1, .int p.2] → PrsV K H vs ps → PrsV K H (.ref t :: vs) (p :: ps)
def leP (p q : Int × Int) : Bool := !SrtO.lexB q p
def sortP (ps : List (Int × Int)) : List (Int × Int) := ps.mergeSort leP
theorem leP_iff {p q : Int × Int} : leP p q = true ↔ p.1 < q.1 ∨ (p.1 = q.1 ∧ p.2 ≤ q.2) := by
  unfold leP
  rw [Bool.not_eq_true', SrtO.lexB_no]
  omega
theorem sortP_perm (ps : List (Int × Int)) : (sortP ps).Perm ps := List.mergeSort_perm _ _
theorem sortP_sorted (ps : List (Int × Int)) : (sortP ps).Pairwise (fun p q => leP p q = true) := List.pairwise_mergeSort (fun a b c h1 h2 => by rw [leP_iff] at *; omega) (fun a b => by rw [Bool.or_eq_true, leP_iff, leP_iff]; omega) ps
theorem sorted_eq_P : ∀ {xs ys : List (Int × Int)}, xs.Perm ys → xs.Pairwise (fun p q => leP p q = true) → ys.Pairwise (fun p q => leP p q = true) → xs = ys
  | [], ys, h, _, _ => by rw [List.nil_perm.mp h]
  | x :: xs, [], h, _, _ => by have := h.length_eq; simp at this
  | x :: xs, y :: ys, h, h1, h2 => by
    obtain ⟨a1, a2⟩ := List.pairwise_cons.mp h1
    obtain ⟨b1, b2⟩ := List.pairwise_cons.mp h2
    have e : x = y := by
      rcases List.mem_cons.mp (h.mem_iff.mp List.mem_cons_self) with e | m
      · exact e
      · rcases List.mem_cons.mp (h.mem_iff.mpr List.mem_cons_self) with e | m'
        · exact e.symm
        · have q1 := leP_iff.mp (b1 x m)
          have q2 := leP_iff.mp (a1 y m')
          exact Prod.ext (by omega) (by omega)
    subst e
    rw [sorted_eq_P (List.Perm.cons_inv h) a2 b2]
/-- the ints of a pair that stands in the heap -/
def pairAt (h : Heap) : Value → Int × Int
  | .ref a => match h.get? a with
    | some o => match o.data with
      | .seq its _ => match its.toList with
        | [.int x _, .int y _] => (x, y)
        | _ => (0, 0)
      | _ => (0, 0)
    | none => (0, 0)
  | _ => (0, 0)
theorem pairAt_of {h : Heap} {v : Value} {x y : Int} (p : Srt.IsPair h v x y) : pairAt h v = (x, y) := by
  obtain ⟨a, o, t, u, n, rfl, ho, _, hd⟩ := p
  unfold pairAt
  simp only [ho, hd]
/-- sorted of a list of pairs of ints -/
def rSortPI (K : PySem.W.Frag) : List V → Hp → VK → Prop := fun vs H Q => ∃ (a : Addr) (xs : List V) (ps : List (Int × Int)), vs = [V.ref a] ∧ SqL K H a xs ∧ PrsV K H xs ps ∧ ∀ ys p, PrsV K H ys (sortP ps) → H p = none → Q (.ref p) (upd H p (.lst ys))
theorem prsV_len {K : PySem.W.Frag} {H : Hp} {vs : List V} {ps : List (Int × Int)} (h : PrsV K H vs ps) : vs.length = ps.length := by
  induction h with
  | nil => rfl
  | cons _ _ ih => rw [List.length_cons, List.length_cons, ih]
theorem prsV_of {X : Cx} {pins : List (Addr × Obj)} {σ : St} {H : Hp} {s : Shared} (I : Inv X pins σ H s) : ∀ {xs : List V} {ps : List (Int × Int)} {us : List Value}, PrsV X.K H xs ps → Vals xs us → us.map (pairAt s.heap) = ps ∧ ∀ u ∈ us, ∃ t, u = .ref t ∧ Srt.IsPair s.heap u (pairAt s.heap u).1 (pairAt s.heap u).2 ∧ SqT X.K H t [.int (pairAt s.heap u).1, .int (pairAt s.heap u).2]
  | _, _, _, .nil, .nil => ⟨rfl, fun u h => by cases h⟩
  | _, _, _, .cons (t := t) (p := p) h hs, .cons r rs => by
    obtain ⟨e, k⟩ := prsV_of I hs rs
    cases r
    obtain ⟨jts, r2, pt, _⟩ := I.tuple h
    obtain ⟨o, ho, hc, n, hdt⟩ := pt
    obtain ⟨u1, u2, rfl, ri, rj⟩ := vals2 r2
    obtain ⟨t1, rfl⟩ := ri
    obtain ⟨t2, rfl⟩ := rj
    have ip : Srt.IsPair s.heap (.ref t) p.1 p.2 := ⟨t, o, t1, t2, n, rfl, ho, hc, hdt⟩
    have e2 : pairAt s.heap (.ref t) = p := pairAt_of ip
    refine ⟨by rw [List.map_cons, e, e2], fun u hu => ?_⟩
    rcases List.mem_cons.mp hu with rfl | hu
    · exact ⟨t, rfl, by rw [e2]; exact ip, by rw [e2]; exact h⟩
    · exact k u hu
theorem cr_sortPI : CallR X (.builtin "sorted") (rSortPI X.K) := by
  intro pins s σ H vs us Q I r h
  obtain ⟨a, xs, ps, rfl, hs, hx, q⟩ := h
  obtain ⟨its, rv, hl, hz⟩ := I.list hs
  rw [Vals.ref1 r]
  obtain ⟨e1, e2⟩ := prsV_of I hx rv
  refine SrtO.sorted_pairsO (k := pairAt s.heap) hl.isList (by rw [← rv.length]; exact hz) (fun v hv => (e2 v hv).elim fun t h => h.2.1) fun g d out h1 h2 kp hd hn => ?_
  obtain ⟨n, hn⟩ := hn
  have h3 : ∀ u ∈ out, ∃ t, u = Value.ref t ∧ SqT X.K H t [.int (pairAt s.heap u).1, .int (pairAt s.heap u).2] := fun u hu => by
    obtain ⟨t, a1, _, a3⟩ := e2 u (h2.perm.mem_iff.mp hu)
    exact ⟨t, a1, a3⟩
  have hq : out.map (pairAt s.heap) = sortP ps := by
    refine sorted_eq_P ((h2.perm.map _).trans (by rw [e1]; exact (sortP_perm ps).symm)) ?_ (sortP_sorted ps)
    rw [List.pairwise_map]
    exact h1.imp fun {x y} h => by
      have h' : SrtO.lexB (pairAt s.heap y) (pairAt s.heap x) = false := h
      show (!SrtO.lexB (pairAt s.heap y) (pairAt s.heap x)) = true
      rw [h']; rfl
  have hout : ∀ (out : List Value), (∀ u ∈ out, ∃ t, u = Value.ref t ∧ SqT X.K H t [.int (pairAt s.heap u).1, .int (pairAt s.heap u).2]) → PrsV X.K H (out.map backV) (out.map (pairAt s.heap)) := fun out => by
    induction out with
    | nil => intro _; exact .nil
    | cons u out ih =>
      intro h
      obtain ⟨t, rfl, ht⟩ := h u List.mem_cons_self
      exact .cons ht (ih fun v hv => h v (List.mem_cons_of_mem _ hv))
  have hO := hout out h3
  rw [hq] at hO
  have hlen : (out.map backV).length = xs.length := by rw [List.length_map, h2.perm.length_eq, rv.length]
  exact ⟨.ref d, upd H d (.lst (out.map backV)), I.laid (t' := s.toks) kp hd ⟨by rw [hlen]; exact hz, out, n, vals_back fun u hu => (h3 u hu).elim fun t h => ⟨t, h.1⟩, hn⟩, rfl, q _ d hO (I.hok.fresh hd)⟩
end
end L2
end

section
/-! DW3: sum, min, max of a tuple of ints. -/
namespace TupO
open PySem PySem.Spec PySem.Calls PyProof.Rows
section
variable {prog : Program} {w : World} {A : Around} {E : Value → Shared → Prop} {s : Shared} {l : Addr} {xs : Array (Int × Tok)}
theorem tup_iter {Q : Value → Shared → Prop} (hl : s.heap.IsTuple l (intItems xs))
    (h : ∀ s₂ : Shared, s₂ = { s with heap := s.heap.push { cls := .type "tuple_iterator", data := .fields #[.ref l, .int 0 0] } } →
      (s₂.heap.IsTupleIter s.heap.objs.size l 0 ∧ s₂.heap.IsTuple l (intItems xs)) → (∀ b ∈ [s.heap.objs.size, l], b < s₂.heap.objs.size) → l ≠ s.heap.objs.size → Q (.ref s.heap.objs.size) s₂) :
    wpAny (model prog w) A (pyIter (.ref l)) Q E s := by
  have hlt : l < s.heap.objs.size := by obtain ⟨_, e, _⟩ := hl; exact Heap.lt_size e
  refine wpAny_pyIter_tuple hl (h _ rfl ⟨⟨_, Heap.get?_push_size _ rfl, rfl, rfl⟩, hl.push _⟩ (fun b hb => ?_) (Nat.ne_of_lt hlt))
  show b < (s.heap.push _).objs.size
  rw [Heap.size_push]
  rcases List.mem_cons.mp hb with rfl | hb
  · exact Nat.lt_succ_self _
  · rcases List.mem_cons.mp hb with rfl | hb
    · exact Nat.lt_succ_of_lt hlt
    · cases hb
theorem tup_old {h' : Heap} (hk : ∀ b o, b ∉ [s.heap.objs.size] → (s.heap.push { cls := .type "tuple_iterator", data := .fields #[.ref l, .int 0 0] }).get? b = some o → h'.get? b = some o) :
    ∀ b o, s.heap.get? b = some o → h'.get? b = some o := fun b o e => by
  refine hk b o (fun hm => ?_) (Heap.get?_push_of_some _ e)
  rcases List.mem_cons.mp hm with e1 | hm
  · exact absurd (e1 ▸ Heap.lt_size e) (Nat.lt_irrefl _)
  · cases hm
theorem sum_tup {Q : Value → Shared → Prop} (hh : A.handled = none) (hl : s.heap.IsTuple l (intItems xs))
    (h : ∀ h' tk t', (∀ b o, s.heap.get? b = some o → h'.get? b = some o) → Q (.int (preSum (numAt xs) xs.size) t') { s with heap := h', toks := tk }) :
    wpAny (model prog w) A (call (.builtin "sum") [.ref l]) Q E s := by
  refine call_sum_walkG (tup_iter hl fun s₂ e st hfp hlI => ?_)
  subst e
  refine ⟨_, _, _, _, _, _, numAt xs, rfl, Walks.tuple (A := A.in1) hh _ l hlI (intItems xs), st, hfp, (fun _ _ => intItems_at), fun h' tk t' hk => ?_⟩
  have := h h' tk t' (tup_old hk)
  simpa [intItems] using this
theorem max_tup {Q : Value → Shared → Prop} (hh : A.handled = none) (hl : s.heap.IsTuple l (intItems xs)) (hne : 0 < xs.size)
    (h : ∀ v h' tk, (intItems xs)[argBest (fun i j => decide (numAt xs i > numAt xs j)) (xs.size - 1)]? = some v → (∀ b o, s.heap.get? b = some o → h'.get? b = some o) → Q v { s with heap := h', toks := tk }) :
    wpAny (model prog w) A (call (.builtin "max") [.ref l]) Q E s := by
  refine call_max_walk (tup_iter hl fun s₂ e st hfp hlI => ?_)
  subst e
  refine ⟨_, _, _, _, _, _, _, rfl, Walks.tuple (A := A.in1) hh _ l hlI (intItems xs), st, hfp, by simpa [intItems] using hne, CmpOf.ints_gt (numAt xs) (fun _ _ => intItems_at), fun v h' tk hP hk => ?_⟩
  exact h v h' tk (by simpa [intItems] using hP) (tup_old hk)
theorem min_tup {Q : Value → Shared → Prop} (hh : A.handled = none) (hl : s.heap.IsTuple l (intItems xs)) (hne : 0 < xs.size)
    (h : ∀ v h' tk, (intItems xs)[argBest (fun i j => decide (numAt xs i < numAt xs j)) (xs.size - 1)]? = some v → (∀ b o, s.heap.get? b = some o → h'.get? b = some o) → Q v { s with heap := h', toks := tk }) :
    wpAny (model prog w) A (call (.builtin "min") [.ref l]) Q E s := by
  refine call_min_walk (tup_iter hl fun s₂ e st hfp hlI => ?_)
  subst e
  refine ⟨_, _, _, _, _, _, _, rfl, Walks.tuple (A := A.in1) hh _ l hlI (intItems xs), st, hfp, by simpa [intItems] using hne, CmpOf.ints_lt (numAt xs) (fun _ _ => intItems_at), fun v h' tk hP hk => ?_⟩
  exact h v h' tk (by simpa [intItems] using hP) (tup_old hk)
end
section
variable {prog : Program} {w : World} {A : Around} {E : Value → Shared → Prop} {s : Shared} {l : Addr} {its : List Value} {ns : List Int} {Q : Value → Shared → Prop}
theorem sum_rawT (hh : A.handled = none) (hl : s.heap.IsTuple l its.toArray) (hi : IntsAre its ns)
    (h : ∀ h' tk t', (∀ b o, s.heap.get? b = some o → h'.get? b = some o) → Q (.int ns.sum t') { s with heap := h', toks := tk }) : wpAny (model prog w) A (call (.builtin "sum") [.ref l]) Q E s := by
  obtain ⟨xs, e⟩ := hi.allInts.items
  have hn : numsOf (intItems xs).toList = ns := by rw [← e]; exact hi.numsOf
  rw [nums_intItems] at hn
  rw [e] at hl
  refine sum_tup hh hl fun h' tk t' hk => ?_
  have := h h' tk t' hk
  rw [preSum_eq, List.take_of_length_le (by simp), hn]; exact this
theorem max_rawT (hh : A.handled = none) (hl : s.heap.IsTuple l its.toArray) (hi : IntsAre its ns) (hne : 0 < ns.length)
    (h : ∀ h' tk M t', (∀ b o, s.heap.get? b = some o → h'.get? b = some o) → M ∈ ns → (∀ a, a ∈ ns → a ≤ M) → Q (.int M t') { s with heap := h', toks := tk }) : wpAny (model prog w) A (call (.builtin "max") [.ref l]) Q E s := by
  obtain ⟨xs, e⟩ := hi.allInts.items
  have hn : numsOf (intItems xs).toList = ns := by rw [← e]; exact hi.numsOf
  rw [nums_intItems] at hn
  subst hn
  rw [e] at hl
  have hsz : 0 < xs.size := by simpa using hne
  refine max_tup hh hl hsz fun v h' tk hv hk => ?_
  obtain ⟨t, rfl⟩ := intItems_at hv
  obtain ⟨h1, h2⟩ := argBest_gt (numAt xs) (xs.size - 1)
  refine h h' tk _ t hk ?_ fun a ha => ?_
  · rw [numAt_eq]; exact PySem.getD_mem (by rw [List.length_map, Array.length_toList]; omega)
  · obtain ⟨j, hj, rfl⟩ := mem_getD ha
    rw [List.length_map, Array.length_toList] at hj
    rw [← numAt_eq]; exact h2 j (by omega)
theorem min_rawT (hh : A.handled = none) (hl : s.heap.IsTuple l its.toArray) (hi : IntsAre its ns) (hne : 0 < ns.length)
    (h : ∀ h' tk M t', (∀ b o, s.heap.get? b = some o → h'.get? b = some o) → M ∈ ns → (∀ a, a ∈ ns → M ≤ a) → Q (.int M t') { s with heap := h', toks := tk }) : wpAny (model prog w) A (call (.builtin "min") [.ref l]) Q E s := by
  obtain ⟨xs, e⟩ := hi.allInts.items
  have hn : numsOf (intItems xs).toList = ns := by rw [← e]; exact hi.numsOf
  rw [nums_intItems] at hn
  subst hn
  rw [e] at hl
  have hsz : 0 < xs.size := by simpa using hne
  refine min_tup hh hl hsz fun v h' tk hv hk => ?_
  obtain ⟨t, rfl⟩ := intItems_at hv
  obtain ⟨h1, h2⟩ := argBest_lt (numAt xs) (xs.size - 1)
  refine h h' tk _ t hk ?_ fun a ha => ?_
  · rw [numAt_eq]; exact PySem.getD_mem (by rw [List.length_map, Array.length_toList]; omega)
  · obtain ⟨j, hj, rfl⟩ := mem_getD ha
    rw [List.length_map, Array.length_toList] at hj
    rw [← numAt_eq]; exact h2 j (by omega)
end
end TupO
namespace L2
open PySem PySem.Spec PyProof.Rows
section
variable {X : Cx}
/-- sum, max, min of a list or a tuple of ints -/
def rSumTT (K : PySem.W.Frag) : List V → Hp → VK → Prop := fun vs H Q => ∃ (a : Addr) (ns : List Int), vs = [V.ref a] ∧ SqT K H a (ns.map V.int) ∧ Q (.int ns.sum) H
def rMaxTT (K : PySem.W.Frag) : List V → Hp → VK → Prop := fun vs H Q => ∃ (a : Addr) (ns : List Int), vs = [V.ref a] ∧ SqT K H a (ns.map V.int) ∧ 0 < ns.length ∧ ∀ m, m ∈ ns → (∀ y, y ∈ ns → y ≤ m) → Q (.int m) H
def rMinTT (K : PySem.W.Frag) : List V → Hp → VK → Prop := fun vs H Q => ∃ (a : Addr) (ns : List Int), vs = [V.ref a] ∧ SqT K H a (ns.map V.int) ∧ 0 < ns.length ∧ ∀ m, m ∈ ns → (∀ y, y ∈ ns → m ≤ y) → Q (.int m) H
theorem cr_sumTT (hc : X.calm = true) : CallR X (.builtin "sum") (rSumTT X.K) := by
  intro pins s σ H vs us Q I r h
  obtain ⟨a, ns, rfl, hs, q⟩ := h
  obtain ⟨its, rv, hl, _⟩ := I.tuple hs
  rw [Vals.ref1 r]
  exact TupO.sum_rawT (I.ok.hd hc) (show s.heap.IsTuple a its.toArray from hl) rv.ints fun h' tk t' hk => ⟨.int _, H, I.kept hk, ⟨_, rfl⟩, q⟩
theorem cr_maxTT (hc : X.calm = true) : CallR X (.builtin "max") (rMaxTT X.K) := by
  intro pins s σ H vs us Q I r h
  obtain ⟨a, ns, rfl, hs, hne, q⟩ := h
  obtain ⟨its, rv, hl, _⟩ := I.tuple hs
  rw [Vals.ref1 r]
  exact TupO.max_rawT (I.ok.hd hc) (show s.heap.IsTuple a its.toArray from hl) rv.ints hne fun h' tk m t' hk h1 h2 => ⟨.int _, H, I.kept hk, ⟨_, rfl⟩, q m h1 h2⟩
theorem cr_minTT (hc : X.calm = true) : CallR X (.builtin "min") (rMinTT X.K) := by
  intro pins s σ H vs us Q I r h
  obtain ⟨a, ns, rfl, hs, hne, q⟩ := h
  obtain ⟨its, rv, hl, _⟩ := I.tuple hs
  rw [Vals.ref1 r]
  exact TupO.min_rawT (I.ok.hd hc) (show s.heap.IsTuple a its.toArray from hl) rv.ints hne fun h' tk m t' hk h1 h2 => ⟨.int _, H, I.kept hk, ⟨_, rfl⟩, q m h1 h2⟩
end
end L2
end

section
/-! DW4: a tuple times any int. -/
namespace L2
open PySem PySem.Spec PyProof.Rows
theorem tuple_mulOne (l : Addr) (items : Array Value) (n : Nat) (dd : Option Addr) (sl : Array (Option Value)) (u : Tok) :
    Meets (Builtin.«tuple.__mul__» ⟨[.ref l, .int 1 u], []⟩) (fun _ R s => s.heap.get? l = some { cls := .type "tuple", dict := dd, data := .seq items n, slots := sl } ∧ R (.ok (.ret (Value.ref l))) s) :=
  .of_wp fun prog w A R s h => by
    obtain ⟨hp, g, d, tk, os⟩ := s
    obtain ⟨hl, h⟩ := h
    have f1 := AutoSeq1.idx_int
    have c1 : (items.isEmpty || (1 : Int) == 1) = true := by rw [show ((1 : Int) == 1) = true from rfl, Bool.or_true]
    wp_walk using wpAny_loadPart' hl
    repeat (first
      | (refine wpAny_ite_false (decide_eq_false (by decide)) ?_; wp_walk using wpAny_loadPart' hl)
      | (refine wpAny_ite_true (decide_eq_true c1) ?_; wp_walk using wpAny_loadPart' hl))
    exact ⟨_, rfl, h⟩
theorem tuple_mulNil (l : Addr) (items : Array Value) (n : Nat) (dd : Option Addr) (sl : Array (Option Value)) (x : Int) (u : Tok) (c0 : (decide (x < -(2 ^ 63)) || decide (x ≥ 2 ^ 63)) = false) (c1 : (items.isEmpty || x == 1) = false) (c2 : (decide (x ≤ 0) || items.isEmpty) = true) :
    Meets (Builtin.«tuple.__mul__» ⟨[.ref l, .int x u], []⟩) (fun _ R s => s.heap.get? l = some { cls := .type "tuple", dict := dd, data := .seq items n, slots := sl } ∧
      R (.ok (.ret (Value.ref s.heap.objs.size))) { s with heap := s.heap.push { cls := Value.type "tuple", data := Data.seq #[] }, toks := s.toks }) :=
  .of_wp fun prog w A R s h => by
    obtain ⟨hp, g, d, tk, os⟩ := s
    obtain ⟨hl, h⟩ := h
    have f1 := AutoSeq1.idx_int
    have hsz : (#[] : Array Value).size ≤ sizeLine := Nat.zero_le _
    wp_walk using wpAny_loadPart' hl
    repeat (first
      | (refine wpAny_ite_false (decide_eq_false (by rw [c0]; exact Bool.false_ne_true)) ?_; wp_walk using wpAny_loadPart' hl)
      | (refine wpAny_ite_false (decide_eq_false (by rw [c1]; exact Bool.false_ne_true)) ?_; wp_walk using wpAny_loadPart' hl)
      | (refine wpAny_ite_true (decide_eq_true c2) ?_; wp_walk using wpAny_loadPart' hl)
      | (refine wpAny_ite_false (decide_eq_false (Nat.not_lt.mpr hsz)) ?_; wp_walk using wpAny_loadPart' hl))
    exact ⟨_, rfl, h⟩
end L2
namespace L2
open PySem PySem.Spec PyProof.Rows
section
variable {X : Cx}
def rRepT1 (K : PySem.W.Frag) : R2 := fun x y H Q => ∃ l xs, x = .ref l ∧ y = .int 1 ∧ SqT K H l xs ∧ xs.length ≤ 1000 ∧ Q (.ref l) H
def rRepT0 (K : PySem.W.Frag) : R2 := fun x y H Q => ∃ l k xs, x = .ref l ∧ y = .int k ∧ SqT K H l xs ∧ xs ≠ [] ∧ k ≤ 0 ∧ -(2 ^ 62) ≤ k ∧ xs.length ≤ 1000 ∧ ∀ p, H p = none → Q (.ref p) (upd H p (.tup []))
theorem op_repT1 : OpR X (binaryOp .Mult) (rRepT1 X.K) := by
  intro pins s σ H x y v u Q I rx ry h
  obtain ⟨l, xs, rfl, rfl, hT, hz, q⟩ := h
  cases rx
  obtain ⟨t, rfl⟩ := ry
  obtain ⟨its, r, ⟨⟨cls, dd, data, sl⟩, ho, hc, n, hd⟩, hs⟩ := I.tuple hT
  simp only at hc hd
  subst hc hd
  refine wpAny_binaryOp_repeat_ref (T := "tuple") (U := "int") (by decide) ⟨_, ho, rfl⟩ (fun s' => typeIs_int s' 1 t) noFill_tuple_mul F.fills_int_mul F.slot_int_rmul repeat_tuple F.slot_int_index.lookup
    (call_meets F.slot_int_rmul (typeIs_int s 1 t) F.entry_int_rmul (F.args_int_rmul_2 _ _) (int_rmul_tuple 1 t l its.toArray n dd sl)
      ⟨ho, rfl, ⟨_, ho, rfl⟩, call_meets F.slot_tuple_mul ⟨_, ho, rfl⟩ F.entry_tuple_mul (F.args_tuple_mul_2 _ _) (tuple_mulOne l its.toArray n dd sl t) ⟨ho, ?_⟩⟩)
  exact ⟨.ref l, H, I, rfl, q⟩
theorem op_repT0 : OpR X (binaryOp .Mult) (rRepT0 X.K) := by
  intro pins s σ H x y v u Q I rx ry h
  obtain ⟨l, k, xs, rfl, rfl, hT, hne, h1, h2, hz, q⟩ := h
  cases rx
  obtain ⟨t, rfl⟩ := ry
  obtain ⟨its, r, ⟨⟨cls, dd, data, sl⟩, ho, hc, n, hd⟩, hs⟩ := I.tuple hT
  simp only at hc hd
  subst hc hd
  have hle : its.length = xs.length := r.length.symm
  have hn : its ≠ [] := fun e => hne (by
    rw [e] at hle
    exact List.eq_nil_of_length_eq_zero hle.symm)
  have hi : its.toArray.isEmpty = false := by
    cases its with
    | nil => exact absurd rfl hn
    | cons a b => rfl
  have c0 : (decide (k < -(2 ^ 63)) || decide (k ≥ 2 ^ 63)) = false := by
    rw [decide_eq_false (by omega), decide_eq_false (by omega)] <;> rfl
  have c1 : (its.toArray.isEmpty || k == 1) = false := by
    rw [hi, Bool.false_or]
    exact beq_eq_false_iff_ne.mpr (by omega)
  have c2 : (decide (k ≤ 0) || its.toArray.isEmpty) = true := by
    rw [hi, Bool.or_false]
    exact decide_eq_true h1
  refine wpAny_binaryOp_repeat_ref (T := "tuple") (U := "int") (by decide) ⟨_, ho, rfl⟩ (fun s' => typeIs_int s' k t) noFill_tuple_mul F.fills_int_mul F.slot_int_rmul repeat_tuple F.slot_int_index.lookup
    (call_meets F.slot_int_rmul (typeIs_int s k t) F.entry_int_rmul (F.args_int_rmul_2 _ _) (int_rmul_tuple k t l its.toArray n dd sl)
      ⟨ho, rfl, ⟨_, ho, rfl⟩, call_meets F.slot_tuple_mul ⟨_, ho, rfl⟩ F.entry_tuple_mul (F.args_tuple_mul_2 _ _) (tuple_mulNil l its.toArray n dd sl k t c0 c1 c2) ⟨ho, ?_⟩⟩)
  exact ⟨.ref s.heap.objs.size, _, I.laid (t' := s.toks) (o := .tup []) (fun b ob q => Heap.get?_push_of_some _ q) (Nat.le_refl _) ⟨Nat.zero_le _, [], .nil, IsTup.new _ _⟩, rfl, q _ (I.hok.fresh (Nat.le_refl _))⟩
end
end L2
end

section
/-! DL5: each operation keeps what the data say. -/
namespace DL
open PySem PySem.Spec L2
open PyProof.Rows hiding St

section
variable {X : Cx}
/-! ### rules that HandS has not -/
theorem dl_catT0 {prog : Program} {w : World} {A : Around} {E : Value → Shared → Prop} {s : Shared} {t b : Addr} {ws : List Value} {Q : Value → Shared → Prop} (ht : PyProof.Rows.IsTup s.heap t (#[] : Array Value)) (hb : PyProof.Rows.IsTup s.heap b ws.toArray)
    (h : Q (.ref b) s) : wpAny (model prog w) A (binaryOp .Add (.ref t) (.ref b)) Q E s := by
  obtain ⟨⟨cls, dd, data, sl⟩, ho, hc, n, hd⟩ := id ht
  obtain ⟨⟨cls2, dd2, data2, sl2⟩, ho2, hc2, n2, hd2⟩ := id hb
  simp only at hc hd hc2 hd2
  subst hc hd hc2 hd2
  exact concat_meets ⟨_, ho, rfl⟩ ⟨_, ho2, rfl⟩ noFill_tuple_add seq_tuple_add PySem.F.slot_tuple_add PySem.F.entry_tuple_add (PySem.F.args_tuple_add_2 _ _)
      (dl_addW0 t b #[] ws.toArray n n2 dd dd2 sl sl2 rfl) ⟨ho, ho2, h⟩
def rCatT0 (K : PySem.W.Frag) : R2 := fun x y H Q => ∃ a b ys, x = .ref a ∧ y = .ref b ∧ SqT K H a [] ∧ SqT K H b ys ∧ Q (.ref b) H
theorem op_catT0 : OpR X (binaryOp .Add) (rCatT0 X.K) := by
  intro pins s σ H x y v u Q I rx ry h
  obtain ⟨a, b, ys, rfl, rfl, ha, hb, q⟩ := h
  cases rx
  cases ry
  obtain ⟨its, r1, p1, _⟩ := I.tuple ha
  obtain ⟨its2, r2, p2, _⟩ := I.tuple hb
  cases r1
  exact dl_catT0 p1 p2 ⟨.ref b, H, I, rfl, q⟩
def CDivA (_ j : Int) : Prop := j ≠ 0 ∧ j.natAbs.log2 < 9000
theorem op_fdivA : OpR X (binaryOp .FloorDiv) (rI CDivA fun i j => .int (i.fdiv j)) := opI fun _ _ _ _ _ _ _ hc q => PyProof.Rows.floordiv_int hc.1 q (.inl (PyProof.noPylong_of_log2 hc.2))
def CMulA (i j : Int) : Prop := i.natAbs.log2 + j.natAbs.log2 < 1000000
theorem op_mulA : OpR X (binaryOp .Mult) (rI CMulA fun i j => .int (i * j)) := opI fun i j _ _ _ _ _ hc q => PyProof.Rows.mul_int q (by
  have b : ∀ x : Int, Builtin.Int.intBits x ≤ x.natAbs.log2 + 1 := fun x => by
    unfold Builtin.Int.intBits
    split <;> omega
  have h1 := b i
  have h2 := b j
  have h3 : i.natAbs.log2 + j.natAbs.log2 < 1000000 := hc
  have e : bitsLine = 134217728 := by decide
  unfold IntMulOk
  intro z
  rw [Bool.and_eq_true] at z
  have z2 := z.2
  unfold Builtin.Int.intTooBig at z2
  have z3 := of_decide_eq_true z2
  rw [e] at z3
  omega)
theorem iop_mulA : OpR X (inplaceOp .Mult) (rI CMulA fun i j => .int (i * j)) := opI fun i j _ _ _ _ _ hc q => PyProof.Rows.imul_int q (by
  have b : ∀ x : Int, Builtin.Int.intBits x ≤ x.natAbs.log2 + 1 := fun x => by
    unfold Builtin.Int.intBits
    split <;> omega
  have h1 := b i
  have h2 := b j
  have h3 : i.natAbs.log2 + j.natAbs.log2 < 1000000 := hc
  have e : bitsLine = 134217728 := by decide
  unfold IntMulOk
  intro z
  rw [Bool.and_eq_true] at z
  have z2 := z.2
  unfold Builtin.Int.intTooBig at z2
  have z3 := of_decide_eq_true z2
  rw [e] at z3
  omega)
theorem op_dIn (hu : X.A.units + 1 < cLine) : OpR X (compareOp .In) (fun x y H Q => ∃ a o, y = .ref a ∧ DGet H a x o ∧ Q (.bl o.isSome) H) := by
  intro pins s σ H x y v u Q I rx ry h
  obtain ⟨a, o, rfl, g, q⟩ := h
  cases ry
  exact d_in hu I g rx fun s' I' => ⟨.bl o.isSome, H, I', rfl, q⟩
theorem op_dNotIn (hu : X.A.units + 1 < cLine) : OpR X (compareOp .NotIn) (fun x y H Q => ∃ a o, y = .ref a ∧ DGet H a x o ∧ Q (.bl (!o.isSome)) H) := by
  intro pins s σ H x y v u Q I rx ry h
  obtain ⟨a, o, rfl, g, q⟩ := h
  cases ry
  exact d_notIn hu I g rx fun s' I' => ⟨.bl (!o.isSome), H, I', rfl, q⟩
theorem ix_dict (hu : X.A.units + 1 < cLine) : IxR X (fun x y H Q => ∃ a v, x = .ref a ∧ DGet H a y (some v) ∧ Q v H) := by
  intro value slice pins s σ H x y v u Q I rx ry h hs
  obtain ⟨a, w, rfl, g, q⟩ := h
  cases rx
  exact tail_any (dict_typeIs I g) PySem.F.slot_dict_getitem.lookup (d_getItem hu I g ry fun w' s' I' r' => ⟨w, H, I', r', q⟩) hs
end

section
variable {K : PySem.W.Frag}
/-! ### binary operations -/
def rBin (K : PySem.W.Frag) : Operator → R2
  | .Add => fun x y H Q => rI0 (fun i j => .int (i + j)) x y H Q ∨ (rCat x y H Q ∨ (rCatT K x y H Q ∨ rCatT0 K x y H Q))
  | .Sub => rI0 fun i j => .int (i - j)
  | .Mult => fun x y H Q => rI CMulA (fun i j => .int (i * j)) x y H Q ∨ (rRep x y H Q ∨ (rRepT K x y H Q ∨ (rRepT1 K x y H Q ∨ rRepT0 K x y H Q)))
  | .FloorDiv => rI CDivA fun i j => .int (i.fdiv j)
  | .Mod => rI (fun _ j => j ≠ 0) fun i j => .int (i.fmod j)
  | .Pow => rI CPow fun i j => .int (i ^ j.toNat)
  | _ => fun _ _ _ _ => False
theorem op_none {X : Cx} {f : Value → Value → Sem Value} : OpR X f (fun _ _ _ _ => False) := fun _ _ _ _ _ _ _ _ _ _ _ _ h => h.elim
theorem op_bin {X : Cx} (o : Operator) : OpR X (binaryOp o) (rBin X.K o) := by
  cases o with
  | Add => exact op_add.or (op_cat.or (op_catT.or op_catT0))
  | Sub => exact op_sub
  | Mult => exact op_mulA.or (op_rep.or (op_repT.or (op_repT1.or op_repT0)))
  | FloorDiv => exact op_fdivA
  | Mod => exact op_modN
  | Pow => exact op_pow
  | _ => exact op_none
theorem divD_eq (i j : Int) : divD i j = i.fdiv j := by
  unfold divD; split
  · rw [Int.fdiv_eq_ediv_of_nonneg i (by omega)]
  · rfl
theorem modD_eq (i j : Int) : modD i j = i.fmod j := by
  unfold modD; split
  · rw [Int.fmod_eq_emod_of_nonneg i (by omega)]
  · rfl
theorem dens_rep {Z : Addr → Prop} {H : Hp} {ds : List D} {vs : List V} (q : Dens K Z H ds vs zc) : ∀ n : Nat, Dens K Z H (List.replicate n ds).flatten (List.replicate n vs).flatten zc
  | 0 => ⟨rfl, rfl⟩
  | n + 1 => by
    rw [List.replicate_succ, List.replicate_succ, List.flatten_cons, List.flatten_cons]
    have := Dens.app q (dens_rep q n)
    rw [add_zc] at this
    exact this
theorem ok_bin (o : Operator) : OpOk K (.bin o) (r2L (rBin K o)) := by
  intro Z H c ds vs d Q B G e k
  rcases ds with _ | ⟨a, _ | ⟨b, _ | ⟨x, r⟩⟩⟩
  · cases e
  · cases e
  · obtain ⟨v, u, c1, c2, rfl, q1, q2⟩ := B.i2
    change binD o a b = some d at e
    show rBin K o v u H Q
    unfold binD at e
    split at e <;> first | (cases e; done) | skip
    · injection e with e; subst e
      exact .inl ⟨_, _, q1.1, q2.1, k_plain k G ⟨rfl, rfl⟩⟩
    · rename_i xs ys
      split at e
      · rename_i hc
        injection e with e; subst e
        rw [Bool.and_eq_true, Bool.and_eq_true] at hc
        obtain ⟨a, vs, rfl, s1, q1⟩ := q1
        obtain ⟨b, us, rfl, s2, q2⟩ := q2
        have l1 := q1.length
        have l2 := q2.length
        have hz : vs.length + us.length ≤ sizeLine := by
          have := of_decide_eq_true hc.2
          omega
        refine .inr (.inr ?_)
        have q1 := Dens.pl' hc.1.1 q1
        have q2 := Dens.pl' hc.1.2 q2
        have qq := Dens.app q1 q2
        rw [add_zc] at qq
        by_cases hv : vs = []
        · subst hv
          refine .inr ⟨a, b, us, rfl, rfl, s1, s2, k_plain k G ?_⟩
          have : xs = [] := by cases xs with | nil => rfl | cons _ _ => cases l1
          subst this
          exact ⟨b, us, rfl, s2, q2⟩
        · refine .inl ⟨a, b, vs, us, rfl, rfl, s1, s2, hv, hz, fun hu => ?_, fun hu => k_tup k G qq⟩
          subst hu
          have : ys = [] := by cases ys with | nil => rfl | cons _ _ => cases l2
          subst this
          refine k_plain k G ⟨a, vs, rfl, s1, ?_⟩
          rw [List.append_nil]; exact q1
      · cases e
    · rename_i xs ys
      split at e
      · rename_i hc
        injection e with e; subst e
        rw [Bool.and_eq_true, Bool.and_eq_true] at hc
        obtain ⟨a, vs, c1', rfl, s1, q1⟩ := q1.lstI
        obtain ⟨b, us, c2', rfl, s2, q2⟩ := q2.lstI
        have l1 := q1.length
        have l2 := q2.length
        have hz : vs.length + us.length ≤ sizeLine := by
          have := of_decide_eq_true hc.2
          omega
        have qq := Dens.app (Dens.pl' hc.1.1 q1) (Dens.pl' hc.1.2 q2)
        rw [add_zc] at qq
        exact .inr (.inl ⟨a, b, vs, us, rfl, rfl, s1, s2, hz, k_lst k G qq⟩)
      · cases e
    · injection e with e; subst e
      exact ⟨_, _, q1.1, q2.1, k_plain k G ⟨rfl, rfl⟩⟩
    · split at e
      · rename_i hc
        injection e with e; subst e
        exact .inl ⟨_, _, q1.1, q2.1, (by unfold mulOk at hc; unfold CMulA; exact of_decide_eq_true hc), k_plain k G ⟨rfl, rfl⟩⟩
      · cases e
    · split at e
      · rename_i hc
        injection e with e; subst e
        rw [Bool.and_eq_true, Bool.and_eq_true, Bool.and_eq_true] at hc
        obtain ⟨a, vs, c1', rfl, s1, q1⟩ := q1.lstI
        have l1 := q1.length
        have h1 := of_decide_eq_true hc.1.1.2
        have h2 := of_decide_eq_true hc.1.2
        have h3 := of_decide_eq_true hc.2
        refine .inr (.inl ⟨a, _, vs, rfl, q2.1, s1, by omega, by omega, by rw [l1]; exact h3, k_lst k G (dens_rep (Dens.pl' hc.1.1.1 q1) _)⟩)
      · cases e
    · rename_i xs k'
      split at e
      · rename_i hc
        injection e with e; subst e
        rw [Bool.and_eq_true, Bool.and_eq_true, Bool.and_eq_true, Bool.and_eq_true] at hc
        obtain ⟨a, vs, rfl, s1, q1⟩ := q1
        have l1 := q1.length
        have q1 := Dens.pl' hc.1.1.1.1 q1
        have h0 : xs ≠ [] := fun h => by
          have h2 := hc.1.1.1.2
          rw [h] at h2
          exact Bool.false_ne_true h2
        have h1 := of_decide_eq_true hc.1.1.2
        have h2 := of_decide_eq_true hc.1.2
        have h3 := of_decide_eq_true hc.2
        have hv : vs ≠ [] := fun h => by
          rw [h] at l1
          exact h0 (List.eq_nil_of_length_eq_zero l1.symm)
        have hk := q2.1
        refine .inr (.inr ?_)
        by_cases c1 : k' = 1
        · subst c1
          refine .inr (.inl ⟨a, vs, rfl, hk, s1, by omega, k_plain k G ?_⟩)
          have e1 : (List.replicate (1 : Int).toNat xs).flatten = xs := by
            show (List.replicate 1 xs).flatten = xs
            rw [List.replicate_one, List.flatten_cons, List.flatten_nil, List.append_nil]
          rw [e1]
          exact ⟨a, vs, rfl, s1, q1⟩
        · by_cases c2 : k' ≤ 0
          · have e1 : (List.replicate k'.toNat xs).flatten = [] := by
              rw [show k'.toNat = 0 by omega]; rfl
            rw [e1] at k
            exact .inr (.inr ⟨a, _, vs, rfl, hk, s1, hv, c2, h2, by omega, k_tup k G ⟨rfl, rfl⟩⟩)
          · exact .inl ⟨a, _, vs, rfl, hk, s1, hv, by omega, h1, by omega, k_tup k G (dens_rep q1 _)⟩
      · cases e
    · split at e
      · rename_i hc
        injection e with e; subst e
        unfold divOk at hc
        rw [Bool.and_eq_true] at hc
        refine ⟨_, _, q1.1, q2.1, ⟨of_decide_eq_true hc.1, of_decide_eq_true hc.2⟩, ?_⟩
        show Q (.int _) H
        rw [← divD_eq]
        exact k_plain k G ⟨rfl, rfl⟩
      · cases e
    · split at e
      · rename_i hc
        injection e with e; subst e
        refine ⟨_, _, q1.1, q2.1, of_decide_eq_true hc, ?_⟩
        show Q (.int _) H
        rw [← modD_eq]
        exact k_plain k G ⟨rfl, rfl⟩
      · cases e
    · split at e
      · rename_i hc
        injection e with e; subst e
        rw [Bool.and_eq_true, Bool.and_eq_true] at hc
        exact ⟨_, _, q1.1, q2.1, ⟨of_decide_eq_true hc.1.1, of_decide_eq_true hc.1.2, of_decide_eq_true hc.2⟩, k_plain k G ⟨rfl, rfl⟩⟩
      · cases e
  · cases e

/-! ### comparisons -/
def rCmp (K : PySem.W.Frag) : CmpOp → R2
  | .Eq => rEqD K
  | .NotEq => rNeD K
  | .Lt => rI0 fun i j => .bl (decide (i < j))
  | .LtE => rI0 fun i j => .bl (decide (i ≤ j))
  | .Gt => rI0 fun i j => .bl (decide (j < i))
  | .GtE => rI0 fun i j => .bl (decide (j ≤ i))
  | .In => fun x y H Q => rIn K false x y H Q ∨ ∃ a o, y = .ref a ∧ DGet H a x o ∧ Q (.bl o.isSome) H
  | .NotIn => fun x y H Q => rIn K true x y H Q ∨ ∃ a o, y = .ref a ∧ DGet H a x o ∧ Q (.bl (!o.isSome)) H
  | _ => fun _ _ _ _ => False
theorem op_cmp {X : Cx} (hr : Room 0 X.A) (o : CmpOp) : OpR X (compareOp o) (rCmp X.K o) := by
  cases o with
  | Eq => exact op_eqD hr.units
  | NotEq => exact op_neD hr.units
  | Lt => exact op_lt
  | LtE => exact op_le
  | Gt => exact op_gt
  | GtE => exact op_ge
  | In => exact op_in_seq.or (op_dIn (hu_of hr))
  | NotIn => exact op_notIn_seq.or (op_dNotIn (hu_of hr))
  | _ => exact op_none
theorem keyD {Z : Addr → Prop} {H : Hp} {a : D} {v : V} {c : Cnt} {k : Key} (q : Den K Z H a v c) (h : D.key? a = some k) : v = kV k := by
  cases a with
  | int i => cases h; exact q.1
  | str s => cases h; exact q.1
  | _ => cases h
theorem val_find {κ : Type} [DecidableEq κ] (k : κ) : ∀ (kvs : List (κ × V)) (n : Nat), valV kvs k = (find k (kvs.map (·.1)) n).bind fun j => (kvs.map (·.2))[j - n]?
  | [], _ => rfl
  | (a, b) :: r, n => by
    unfold valV
    rw [List.map_cons, List.map_cons, List.find?_cons]
    unfold find
    by_cases h : a = k
    · subst h; simp
    · rw [if_neg h, decide_eq_false h]
      have ih := val_find k r (n + 1)
      unfold valV at ih
      rw [ih]
      have key : ∀ j, find k (r.map (·.1)) (n + 1) = some j → n + 1 ≤ j := fun j hj => by
        have : ∀ (ks : List κ) (m j : Nat), find k ks m = some j → m ≤ j := fun ks => by
          induction ks with
          | nil => intro m j h; cases h
          | cons x ks ih =>
            intro m j h
            unfold find at h
            split at h
            · cases h; exact Nat.le_refl _
            · exact Nat.le_of_succ_le (ih _ _ h)
        exact this _ _ _ hj
      cases hf : find k (r.map (·.1)) (n + 1) with
      | none => rfl
      | some j =>
        have := key j hf
        show (r.map (·.2))[j - (n + 1)]? = (b :: r.map (·.2))[j - n]?
        rw [show j - n = (j - (n + 1)) + 1 by omega, List.getElem?_cons_succ]
theorem find_lt {κ : Type} [DecidableEq κ] (k : κ) : ∀ (ks : List κ) (n j : Nat), find k ks n = some j → j < n + ks.length
  | [], _, _, h => by cases h
  | x :: r, n, j, h => by
    unfold find at h
    split at h
    · cases h; simp
    · have := find_lt k r (n + 1) j h
      simp only [List.length_cons]; omega
theorem valV_some {κ : Type} [DecidableEq κ] (kvs : List (κ × V)) (k : κ) : (valV kvs k).isSome = (find k (kvs.map (·.1)) 0).isSome := by
  rw [val_find k kvs 0]
  cases hf : find k (kvs.map (·.1)) 0 with
  | none => rfl
  | some j =>
    have := find_lt k _ _ _ hf
    rw [List.length_map] at this
    show ((kvs.map (·.2))[j - 0]?).isSome = true
    rw [List.getElem?_eq_getElem (by rw [List.length_map]; omega)]
    rfl
theorem ok_cmp (o : CmpOp) : OpOk K (.cmp o) (r2L (rCmp K o)) := by
  intro Z H c ds vs d Q B G e k
  rcases ds with _ | ⟨a, _ | ⟨b, _ | ⟨x, r⟩⟩⟩
  · cases e
  · cases e
  · obtain ⟨v, u, c1, c2, rfl, q1, q2⟩ := B.i2
    change cmpD o a b = some d at e
    show rCmp K o v u H Q
    unfold cmpD at e
    split at e <;> first | (cases e; done) | skip
    · split at e
      · rename_i hc
        injection e with e; subst e
        rw [Bool.and_eq_true] at hc
        exact ⟨_, _, q1.dp (shp_lay hc.1), q2.dp (shp_lay hc.2), hc.1, hc.2, k_plain k G ⟨rfl, rfl⟩⟩
      · cases e
    · split at e
      · rename_i hc
        injection e with e; subst e
        rw [Bool.and_eq_true] at hc
        exact ⟨_, _, q1.dp (shp_lay hc.1), q2.dp (shp_lay hc.2), hc.1, hc.2, k_plain k G ⟨rfl, rfl⟩⟩
      · cases e
    · injection e with e; subst e
      exact ⟨_, _, q1.1, q2.1, k_plain k G ⟨rfl, rfl⟩⟩
    · injection e with e; subst e
      exact ⟨_, _, q1.1, q2.1, k_plain k G ⟨rfl, rfl⟩⟩
    · injection e with e; subst e
      exact ⟨_, _, q1.1, q2.1, k_plain k G ⟨rfl, rfl⟩⟩
    · injection e with e; subst e
      exact ⟨_, _, q1.1, q2.1, k_plain k G ⟨rfl, rfl⟩⟩
    · split at e
      · rename_i hc
        injection e with e; subst e
        rw [Bool.and_eq_true] at hc
        obtain ⟨p, xs, rfl, s, q2⟩ := q2
        refine .inl ⟨p, xs, rfl, .inr s, q1.flat hc.1, q2.flatAll hc.2, ?_⟩
        rw [Dens.inV hc.1 q1 hc.2 q2]
        exact k_plain k G ⟨rfl, rfl⟩
      · cases e
    · split at e
      · rename_i hc
        injection e with e; subst e
        rw [Bool.and_eq_true] at hc
        obtain ⟨p, xs, c', rfl, s, q2⟩ := q2.lstI
        refine .inl ⟨p, xs, rfl, .inl (SqL.of s), q1.flat hc.1, q2.flatAll hc.2, ?_⟩
        rw [Dens.inV hc.1 q1 hc.2 q2]
        exact k_plain k G ⟨rfl, rfl⟩
      · cases e
    · rename_i o' ks ds'
      cases hk : D.key? a with
      | none => rw [hk] at e; cases e
      | some kk =>
        rw [hk] at e
        injection e with e; subst e
        obtain ⟨p, kvs, c', rfl, s, ek, q2⟩ := q2.dKI
        have ev := keyD q1 hk
        subst ev
        refine .inr ⟨p, _, rfl, DGet.k s, ?_⟩
        rw [valV_some, ek.1]
        exact k_plain k G ⟨rfl, rfl⟩
    · split at e
      · rename_i hc
        injection e with e; subst e
        rw [Bool.and_eq_true] at hc
        obtain ⟨p, xs, rfl, s, q2⟩ := q2
        refine .inl ⟨p, xs, rfl, .inr s, q1.flat hc.1, q2.flatAll hc.2, ?_⟩
        rw [Dens.inV hc.1 q1 hc.2 q2]
        exact k_plain k G ⟨rfl, rfl⟩
      · cases e
    · split at e
      · rename_i hc
        injection e with e; subst e
        rw [Bool.and_eq_true] at hc
        obtain ⟨p, xs, c', rfl, s, q2⟩ := q2.lstI
        refine .inl ⟨p, xs, rfl, .inl (SqL.of s), q1.flat hc.1, q2.flatAll hc.2, ?_⟩
        rw [Dens.inV hc.1 q1 hc.2 q2]
        exact k_plain k G ⟨rfl, rfl⟩
      · cases e
    · rename_i o' ks ds'
      cases hk : D.key? a with
      | none => rw [hk] at e; cases e
      | some kk =>
        rw [hk] at e
        injection e with e; subst e
        obtain ⟨p, kvs, c', rfl, s, ek, q2⟩ := q2.dKI
        have ev := keyD q1 hk
        subst ev
        refine .inr ⟨p, _, rfl, DGet.k s, ?_⟩
        rw [valV_some, ek.1]
        exact k_plain k G ⟨rfl, rfl⟩
  · cases e
end
end DL
end

section
/-! DL6: the built-in functions. -/
namespace DL
open PySem PySem.Spec L2
open PyProof.Rows hiding St

theorem perm_sorted_eq : ∀ {xs ys : List Int}, xs.Perm ys → xs.Pairwise (· ≤ ·) → ys.Pairwise (· ≤ ·) → xs = ys
  | [], ys, h, _, _ => by rw [List.nil_perm.mp h]
  | x :: xs, [], h, _, _ => by
    have := h.length_eq
    cases this
  | x :: xs, y :: ys, h, hx, hy => by
    have h1 : x ∈ y :: ys := h.subset List.mem_cons_self
    have h2 : y ∈ x :: xs := h.symm.subset List.mem_cons_self
    have p1 := List.pairwise_cons.mp hx
    have p2 := List.pairwise_cons.mp hy
    have e : x = y := by
      rcases List.mem_cons.mp h1 with e | h1
      · exact e
      · rcases List.mem_cons.mp h2 with e | h2
        · exact e.symm
        · have := p1.1 y h2
          have := p2.1 x h1
          omega
    subst e
    rw [perm_sorted_eq ((List.perm_cons x).mp h) p1.2 p2.2]
theorem sortI_perm (ns : List Int) : (sortI ns).Perm ns := List.mergeSort_perm _ _
theorem sortI_sorted (ns : List Int) : (sortI ns).Pairwise (· ≤ ·) := by
  have := List.pairwise_mergeSort (le := fun (a b : Int) => decide (a ≤ b)) (by intro a b c h1 h2; simp at *; omega) (by intro a b; simp; omega) ns
  exact this.imp fun h => by simpa using h
theorem sortI_eq {ns ms : List Int} (h : ms.Perm ns) (s : ms.Pairwise (· ≤ ·)) : ms = sortI ns :=
  perm_sorted_eq (h.trans (sortI_perm ns).symm) s (sortI_sorted ns)

theorem foldMin_mem : ∀ (r : List Int) (x : Int), r.foldl (fun a b => if b < a then b else a) x ∈ x :: r
  | [], x => by simp
  | y :: r, x => by
    have ih := foldMin_mem r (if y < x then y else x)
    rw [List.foldl_cons]
    rcases List.mem_cons.mp ih with e | h
    · rw [e]; split <;> simp
    · exact List.mem_cons_of_mem _ (List.mem_cons_of_mem _ h)
theorem foldMin_le : ∀ (r : List Int) (x y : Int), y ∈ x :: r → r.foldl (fun a b => if b < a then b else a) x ≤ y
  | [], x, y, h => by simp at h; subst h; exact Int.le_refl _
  | z :: r, x, y, h => by
    rw [List.foldl_cons]
    have key := foldMin_le r (if z < x then z else x)
    have k0 := key _ List.mem_cons_self
    rcases List.mem_cons.mp h with e | h
    · subst e; split at k0 <;> split <;> omega
    · rcases List.mem_cons.mp h with e | h
      · subst e; split at k0 <;> split <;> omega
      · exact key y (List.mem_cons_of_mem _ h)
theorem foldMax_mem : ∀ (r : List Int) (x : Int), r.foldl (fun a b => if b > a then b else a) x ∈ x :: r
  | [], x => by simp
  | y :: r, x => by
    have ih := foldMax_mem r (if y > x then y else x)
    rw [List.foldl_cons]
    rcases List.mem_cons.mp ih with e | h
    · rw [e]; split <;> simp
    · exact List.mem_cons_of_mem _ (List.mem_cons_of_mem _ h)
theorem foldMax_le : ∀ (r : List Int) (x y : Int), y ∈ x :: r → y ≤ r.foldl (fun a b => if b > a then b else a) x
  | [], x, y, h => by simp at h; subst h; exact Int.le_refl _
  | z :: r, x, y, h => by
    rw [List.foldl_cons]
    have key := foldMax_le r (if z > x then z else x)
    have k0 := key _ List.mem_cons_self
    rcases List.mem_cons.mp h with e | h
    · subst e; split at k0 <;> split <;> omega
    · rcases List.mem_cons.mp h with e | h
      · subst e; split at k0 <;> split <;> omega
      · exact key y (List.mem_cons_of_mem _ h)
theorem minI_mem {ns : List Int} {m : Int} (h : minI ns = some m) : m ∈ ns := by
  cases ns with
  | nil => cases h
  | cons x r => cases h; exact foldMin_mem r x
theorem minI_le {ns : List Int} {m y : Int} (h : minI ns = some m) (hy : y ∈ ns) : m ≤ y := by
  cases ns with
  | nil => cases h
  | cons x r => cases h; exact foldMin_le r x y hy
theorem maxI_mem {ns : List Int} {m : Int} (h : maxI ns = some m) : m ∈ ns := by
  cases ns with
  | nil => cases h
  | cons x r => cases h; exact foldMax_mem r x
theorem maxI_le {ns : List Int} {m y : Int} (h : maxI ns = some m) (hy : y ∈ ns) : y ≤ m := by
  cases ns with
  | nil => cases h
  | cons x r => cases h; exact foldMax_le r x y hy

def tyN : Ty → String
  | .int => "int"
  | .bool => "bool"
  | .tuple => "tuple"
  | .str => "str"
  | .list => "list"

def rSortDI : List V → Hp → VK → Prop := fun xs H Q => ∃ (a : Addr) (kvs : List (Key × V)) (ks : List Int), xs = [.ref a] ∧ Rd H a (.dK kvs) ∧ kvs.map (·.1) = ks.map Sum.inl ∧ ks.length < 64 ∧ ∀ (ys : List Int) (p : Addr), ys.Perm ks → ys.Pairwise (· ≤ ·) → H p = none → Q (.ref p) (upd H p (.lst (ys.map V.int)))
def rDictP (K : PySem.W.Frag) : List V → Hp → VK → Prop := fun xs H Q => ∃ (a : Addr) (ps : List Addr) (kvs : List (Key × V)), xs = [.ref a] ∧ SqL K H a (ps.map V.ref) ∧ Paired (fun p kv => SqT K H p [kV kv.1, kv.2]) ps kvs ∧ ∀ p, H p = none → Q (.ref p) (upd H p (.dK (mergeK [] kvs)))
def rOp (K : PySem.W.Frag) : Op → List V → Hp → VK → Prop
  | .bin o => r2L (rBin K o)
  | .cmp o => r2L (rCmp K o)
  | .neg => r1L (rU fun i => .int (-i))
  | .isN => r1L fun x H Q => Q (.bl (decide (x = .non))) H
  | .notN => r1L fun x H Q => Q (.bl (!decide (x = .non))) H
  | .isB b => r1L fun x H Q => rIsB x (.bl b) H Q
  | .nisB b => r1L fun x H Q => rNotB x (.bl b) H Q
  | .len => fun xs H Q => (∃ x n, xs = [x] ∧ LenV K x H n ∧ Q (.int n) H) ∨ ∃ p kvs, xs = [.ref p] ∧ H p = some (.dK kvs) ∧ Q (.int kvs.length) H
  | .tuple => fun xs H Q => ∃ p ys, xs = [.ref p] ∧ ((SqL K H p ys ∧ ∀ l, H l = none → Q (.ref l) (upd H l (.tup ys))) ∨ (SqT K H p ys ∧ Q (.ref p) H))
  | .list => fun xs H Q => (∃ p ys, xs = [.ref p] ∧ (SqL K H p ys ∨ SqT K H p ys) ∧ ∀ l, H l = none → Q (.ref l) (upd H l (.lst ys))) ∨ L2.rListD xs H Q
  | .sorted => fun xs H Q => rSortedI K xs H Q ∨ rSortTI K xs H Q ∨ rSortPI K xs H Q ∨ rSortDI xs H Q
  | .dict => rDictP K
  | .sum => fun xs H Q => rSum K xs H Q ∨ rSumTT K xs H Q
  | .all => rAll K
  | .any => rAny K
  | .min => fun xs H Q => rMin K xs H Q ∨ rMinTT K xs H Q
  | .max => fun xs H Q => rMax K xs H Q ∨ rMaxTT K xs H Q
  | .abs => fun xs H Q => ∃ i, xs = [.int i] ∧ Q (.int (if i < 0 then -i else i)) H
  | .toInt => fun xs H Q => (∃ i, xs = [.int i] ∧ Q (.int i) H) ∨ ∃ k, xs = [.bl k] ∧ Q (.int (if k then 1 else 0)) H
  | .max2 => fun xs H Q => ∃ i j, xs = [.int i, .int j] ∧ Q (.int (if j > i then j else i)) H
  | .min2 => fun xs H Q => ∃ i j, xs = [.int i, .int j] ∧ Q (.int (if j < i then j else i)) H
  | .lrange => r1L fun x H Q => ∃ n, x = .int n ∧ RgOk 0 n ∧ ∀ q, H q = none → Q (.ref q) (upd H q (.lst (rgV 0 n)))
  | .trange => r1L fun x H Q => ∃ n, x = .int n ∧ RgOk 0 n ∧ ∀ q, H q = none → Q (.ref q) (upd H q (.tup (rgV 0 n)))
  | .isi t => r1L fun x H Q => rIsi K [x, .ty (tyN t)] H Q
  | .rev => rTurn K
  | .setLen => rSetLen K
  | .setSorted => rSetSorted K
  | _ => fun _ _ _ => False

section
variable {K : PySem.W.Frag}
theorem dens_rng {Z : Addr → Prop} {H : Hp} (lo hi : Int) : Dens K Z H (rngL lo hi) (rgV lo hi) zc := by
  have : ∀ ns : List Nat, Dens K Z H (ns.map fun (k : Nat) => D.int (lo + (k : Int))) (ns.map fun i => V.int (lo + (i : Nat))) zc := fun ns => by
    induction ns with
    | nil => exact ⟨rfl, rfl⟩
    | cons n ns ih => exact ⟨_, _, zc, zc, rfl, ⟨rfl, rfl⟩, ih, (add_zc _).symm⟩
  exact this _
theorem kit_c : ∀ ty : Ty, kitB "NoneType" (tyN ty) = some false ∧ kitB "bool" (tyN ty) = some (decide (ty = .int ∨ ty = .bool)) ∧ kitB "int" (tyN ty) = some (decide (ty = .int)) ∧ kitB "str" (tyN ty) = some (decide (ty = .str)) ∧
    kitB "tuple" (tyN ty) = some (decide (ty = .tuple)) ∧ kitB "list" (tyN ty) = some (decide (ty = .list)) ∧ kitB "dict" (tyN ty) = some false := by
  intro ty
  cases ty <;> decide +kernel
theorem tyX_of {Z : Addr → Prop} {H : Hp} {d : D} {v : V} {c : Cnt} (q : Den K Z H d v c) (hd : ∀ ns, d ≠ .scr ns) : ∃ t, TyX K H v (.type t) ∧ ∀ ty : Ty, kitB t (tyN ty) = some (isiD ty d) := by
  cases d with
  | non => rw [q.1]; exact ⟨_, .base .non, fun ty => by rw [(kit_c ty).1]; cases ty <;> rfl⟩
  | bl b => rw [q.1]; exact ⟨_, .base (.bl b), fun ty => by rw [(kit_c ty).2.1]; cases ty <;> rfl⟩
  | int i => rw [q.1]; exact ⟨_, .base (.int i), fun ty => by rw [(kit_c ty).2.2.1]; cases ty <;> rfl⟩
  | str s => rw [q.1]; exact ⟨_, .base (.str s), fun ty => by rw [(kit_c ty).2.2.2.1]; cases ty <;> rfl⟩
  | tup ds =>
    obtain ⟨a, vs, rfl, s, q⟩ := q
    refine ⟨"tuple", ?_, fun ty => by rw [(kit_c ty).2.2.2.2.1]; cases ty <;> rfl⟩
    rcases s with (s | ⟨o, s⟩) | ⟨o, its, n, s1, s2, _⟩
    · exact .base (.tup s)
    · exact .fTuple s
    · exact .kTuple s1 s2
  | lst o ds =>
    obtain ⟨a, vs, c', rfl, s, q⟩ := q.lstI
    exact ⟨"list", .base (.lst s), fun ty => by rw [(kit_c ty).2.2.2.2.2.1]; cases ty <;> rfl⟩
  | dK o ks ds =>
    obtain ⟨a, vs, c', rfl, s, _, q⟩ := q.dKI
    exact ⟨"dict", .base (.dK s), fun ty => by rw [(kit_c ty).2.2.2.2.2.2]; cases ty <;> rfl⟩
  | dT o ks ds =>
    obtain ⟨a, vs, c', rfl, s, _, q⟩ := q.dTI
    exact ⟨"dict", .base (.dT s), fun ty => by rw [(kit_c ty).2.2.2.2.2.2]; cases ty <;> rfl⟩
  | scr ns => exact absurd rfl (hd ns)

theorem ok_one (o : Op) (h : ∀ (Z : Addr → Prop) (H : Hp) (c : Cnt) (a : D) (v : V) (d : D) (Q : VK) c1, Den K Z H a v c1 → Gd Z H c → opD o [a] = some d → OpK K Z H c d Q → rOp K o [v] H Q)
    (h0 : opD o [] = none) (h2 : ∀ a b r, opD o (a :: b :: r) = none) : OpOk K o (rOp K o) := by
  intro Z H c ds vs d Q B G e k
  rcases ds with _ | ⟨a, _ | ⟨b, r⟩⟩
  · rw [h0] at e; cases e
  · obtain ⟨v, c1, rfl, q⟩ := B.i1
    exact h Z H c a v d Q c1 q G e k
  · rw [h2] at e; cases e
theorem ok_neg : OpOk K .neg (rOp K .neg) := by
  refine ok_one _ (fun Z H c a v d Q c1 q G e k => ?_) rfl (fun a b r => by cases a <;> rfl)
  cases a with
  | int i => cases e; exact ⟨i, q.1, k_plain k G ⟨rfl, rfl⟩⟩
  | _ => cases e
theorem nonV {Z : Addr → Prop} {H : Hp} {a : D} {v : V} {c : Cnt} (q : Den K Z H a v c) : decide (v = .non) = a.isNon := by
  cases a with
  | non => rw [q.1]; rfl
  | bl b => rw [q.1]; rfl
  | int b => rw [q.1]; rfl
  | str b => rw [q.1]; rfl
  | tup ds => obtain ⟨a, vs, rfl, _⟩ := q; rfl
  | lst o ds => obtain ⟨a, vs, c', rfl, _⟩ := q.lstI; rfl
  | dK o ks ds => obtain ⟨a, vs, c', rfl, _⟩ := q.dKI; rfl
  | dT o ks ds => obtain ⟨a, vs, c', rfl, _⟩ := q.dTI; rfl
  | scr ns => obtain ⟨a, rfl, _⟩ := q; rfl
theorem ok_isN : OpOk K .isN (rOp K .isN) := by
  refine ok_one _ (fun Z H c a v d Q c1 q G e k => ?_) rfl (fun a b r => rfl)
  show Q (.bl (decide (v = .non))) H
  rw [nonV q]
  injection e with e; subst e
  exact k_plain k G ⟨rfl, rfl⟩
theorem ok_notN : OpOk K .notN (rOp K .notN) := by
  refine ok_one _ (fun Z H c a v d Q c1 q G e k => ?_) rfl (fun a b r => rfl)
  show Q (.bl (!decide (v = .non))) H
  rw [nonV q]
  injection e with e; subst e
  exact k_plain k G ⟨rfl, rfl⟩
theorem ok_isB (b : Bool) : OpOk K (.isB b) (rOp K (.isB b)) := by
  refine ok_one _ (fun Z H c a v d Q c1 q G e k => ?_) rfl (fun a b r => by cases a <;> rfl)
  cases a with
  | bl i => cases e; exact ⟨i, b, q.1, rfl, k_plain k G ⟨rfl, rfl⟩⟩
  | _ => cases e
theorem ok_nisB (b : Bool) : OpOk K (.nisB b) (rOp K (.nisB b)) := by
  refine ok_one _ (fun Z H c a v d Q c1 q G e k => ?_) rfl (fun a b r => by cases a <;> rfl)
  cases a with
  | bl i => cases e; exact ⟨i, b, q.1, rfl, k_plain k G ⟨rfl, rfl⟩⟩
  | _ => cases e
theorem ok_len : OpOk K .len (rOp K .len) := by
  refine ok_one _ (fun Z H c a v d Q c1 q G e k => ?_) rfl (fun a b r => by cases a <;> rfl)
  cases a with
  | tup ds =>
    cases e
    obtain ⟨a, vs, rfl, s, q⟩ := q
    refine .inl ⟨_, ds.length, rfl, .inr ⟨vs, s, q.length.symm⟩, k_plain k G ⟨rfl, rfl⟩⟩
  | lst o ds =>
    cases e
    obtain ⟨a, vs, c', rfl, s, q⟩ := q.lstI
    refine .inl ⟨_, ds.length, rfl, .inl ⟨vs, SqL.of s, q.length.symm⟩, k_plain k G ⟨rfl, rfl⟩⟩
  | scr ns =>
    cases e
    obtain ⟨a, rfl, s, _⟩ := q
    refine .inl ⟨_, ns.length, rfl, .inl ⟨_, s.seq, by simp⟩, k_plain k G ⟨rfl, rfl⟩⟩
  | dK o ks ds =>
    cases e
    obtain ⟨a, vs, c', rfl, s, ek, q⟩ := q.dKI
    refine .inr ⟨a, vs, rfl, s, ?_⟩
    have : vs.length = ks.length := by rw [← ek.1, List.length_map]
    rw [this]
    exact k_plain k G ⟨rfl, rfl⟩
  | _ => cases e
theorem ok_tuple : OpOk K .tuple (rOp K .tuple) := by
  refine ok_one _ (fun Z H c a v d Q c1 q G e k => ?_) rfl (fun a b r => by cases a <;> rfl)
  cases a with
  | tup ds =>
    have e : (if D.plains ds = true then some (D.tup ds) else none) = some d := e
    split at e
    · rename_i p
      cases e
      obtain ⟨a, vs, rfl, s, q⟩ := q
      exact ⟨a, vs, rfl, .inr ⟨s, k_plain k G ⟨a, vs, rfl, s, Dens.pl' p q⟩⟩⟩
    · cases e
  | lst o ds =>
    have e : (if D.plains ds = true then some (D.tup ds) else none) = some d := e
    split at e
    · rename_i p
      cases e
      obtain ⟨a, vs, c', rfl, s, q⟩ := q.lstI
      exact ⟨a, vs, rfl, .inl ⟨SqL.of s, k_tup k G (Dens.pl' p q)⟩⟩
    · cases e
  | _ => cases e
theorem dens_keys {Z : Addr → Prop} {H : Hp} : ∀ ks : List Key, Dens K Z H (ks.map kD) (ks.map kV) zc
  | [] => ⟨rfl, rfl⟩
  | k :: ks => ⟨_, _, zc, zc, rfl, (by cases k <;> exact ⟨rfl, rfl⟩), dens_keys ks, (add_zc _).symm⟩
theorem kints_of : ∀ {ks : List Key} {ns : List Int}, kints? ks = some ns → ks = ns.map Sum.inl
  | [], ns, h => by cases h; rfl
  | .inl i :: ks, ns, h => by
    have h : (kints? ks).map (fun ns => i :: ns) = some ns := h
    cases hk : kints? ks with
    | none => rw [hk] at h; cases h
    | some r => rw [hk] at h; cases h; rw [kints_of hk]; rfl
  | .inr _ :: _, _, h => by cases h
theorem ok_list : OpOk K .list (rOp K .list) := by
  refine ok_one _ (fun Z H c a v d Q c1 q G e k => ?_) rfl (fun a b r => by cases a <;> rfl)
  cases a with
  | tup ds =>
    have e : (if D.plains ds = true then some (D.lst true ds) else none) = some d := e
    split at e
    · rename_i p
      cases e
      obtain ⟨a, vs, rfl, s, q⟩ := q
      exact .inl ⟨a, vs, rfl, .inr s, k_lst k G (Dens.pl' p q)⟩
    · cases e
  | lst o ds =>
    have e : (if D.plains ds = true then some (D.lst true ds) else none) = some d := e
    split at e
    · rename_i p
      cases e
      obtain ⟨a, vs, c', rfl, s, q⟩ := q.lstI
      exact .inl ⟨a, vs, rfl, .inl (SqL.of s), k_lst k G (Dens.pl' p q)⟩
    · cases e
  | dK o ks ds =>
    cases e
    obtain ⟨a, kvs, c', rfl, s, ek, q⟩ := q.dKI
    refine .inr ⟨a, kvs, rfl, s, ?_⟩
    have e : (kvs.map fun kv => kV kv.1) = ks.map kV := by rw [← ek.1, List.map_map]; rfl
    rw [e]
    exact k_lst k G (dens_keys ks)
  | _ => cases e
/-- a list of ints -/
theorem lst_ints {Z : Addr → Prop} {H : Hp} {o : Bool} {ds : List D} {v : V} {c : Cnt} {ns : List Int} (q : Den K Z H (.lst o ds) v c) (h : ints? ds = some ns) : ∃ a, v = .ref a ∧ SqL K H a (ns.map V.int) := by
  obtain ⟨a, vs, c', rfl, s, q⟩ := q.lstI
  rw [ints_of h] at q
  rw [Dens.ints q] at s
  exact ⟨a, rfl, SqL.of s⟩
theorem lst_bls {Z : Addr → Prop} {H : Hp} {o : Bool} {ds : List D} {v : V} {c : Cnt} {ns : List Bool} (q : Den K Z H (.lst o ds) v c) (h : bls? ds = some ns) : ∃ a, v = .ref a ∧ SqL K H a (ns.map V.bl) := by
  obtain ⟨a, vs, c', rfl, s, q⟩ := q.lstI
  rw [bls_of h] at q
  rw [Dens.bls q] at s
  exact ⟨a, rfl, SqL.of s⟩
theorem leD_eq (p q : Int × Int) : leD p q = L2.leP p q := by
  rw [Bool.eq_iff_iff, L2.leP_iff]
  unfold leD
  simp
theorem sortPs_eq (ps : List (Int × Int)) : sortPs ps = L2.sortP ps := by
  unfold sortPs L2.sortP
  rw [show leD = L2.leP from funext fun p => funext fun q => leD_eq p q]
theorem tup_ints {Z : Addr → Prop} {H : Hp} {ds : List D} {v : V} {c : Cnt} {ns : List Int} (q : Den K Z H (.tup ds) v c) (h : ints? ds = some ns) : ∃ a, v = .ref a ∧ SqT K H a (ns.map V.int) := by
  obtain ⟨a, vs, rfl, s, q⟩ := q
  rw [ints_of h] at q
  rw [Dens.ints q] at s
  exact ⟨a, rfl, s⟩
theorem prs_of : ∀ {ds : List D} {ps : List (Int × Int)}, prs? ds = some ps → ds = ps.map fun p => D.tup [.int p.1, .int p.2]
  | [], ps, h => by cases h; rfl
  | d :: ds, ps, h => by
    unfold prs? at h
    split at h
    · rename_i e
      cases e
    · rename_i a b ds' e
      cases e
      cases hp : prs? ds with
      | none => rw [hp] at h; cases h
      | some r => rw [hp] at h; cases h; rw [prs_of hp]; rfl
    · cases h
theorem dens_prs {Z : Addr → Prop} {H : Hp} : ∀ {ps : List (Int × Int)} {vs : List V} {c : Cnt}, Dens K Z H (ps.map fun p => D.tup [.int p.1, .int p.2]) vs c → L2.PrsV K H vs ps
  | [], vs, c, q => by obtain ⟨rfl, _⟩ := q; exact .nil
  | p :: ps, vs, c, q => by
    obtain ⟨v, r, c1, c2, rfl, ⟨a, ws, rfl, s, q1⟩, q2, _⟩ := q
    obtain ⟨v1, r1, _, _, rfl, ⟨rfl, _⟩, q3, _⟩ := q1
    obtain ⟨v2, r2, _, _, rfl, ⟨rfl, _⟩, q4, _⟩ := q3
    obtain ⟨rfl, _⟩ := q4
    exact .cons s (dens_prs q2)
theorem prs_dens {Z : Addr → Prop} {H : Hp} {ps : List (Int × Int)} {vs : List V} (h : L2.PrsV K H vs ps) : Dens K Z H (ps.map fun p => D.tup [.int p.1, .int p.2]) vs zc := by
  induction h with
  | nil => exact ⟨rfl, rfl⟩
  | cons s _ ih => exact ⟨_, _, zc, zc, rfl, ⟨_, _, rfl, s, ⟨_, _, zc, zc, rfl, ⟨rfl, rfl⟩, ⟨_, _, zc, zc, rfl, ⟨rfl, rfl⟩, ⟨rfl, rfl⟩, (zc_add zc).symm⟩, (zc_add zc).symm⟩⟩, ih, (zc_add zc).symm⟩
theorem ok_sorted : OpOk K .sorted (rOp K .sorted) := by
  refine ok_one _ (fun Z H c a v d Q c1 q G e k => ?_) rfl (fun a b r => by cases a <;> rfl)
  cases a with
  | tup ds =>
    have e : (ints? ds).map (fun ns => D.lst true ((sortI ns).map .int)) = some d := e
    cases hi : ints? ds with
    | none => rw [hi] at e; cases e
    | some ns =>
      rw [hi] at e; cases e
      obtain ⟨a, rfl, s⟩ := tup_ints q hi
      refine .inr (.inl ⟨a, ns, rfl, s, fun ms p h1 h2 hp => ?_⟩)
      rw [sortI_eq h1 h2]
      exact k_lst k G (dens_ints _) p hp
  | lst o ds =>
    have e : (match ints? ds with
      | some ns => some (D.lst true ((sortI ns).map .int))
      | none => (prs? ds).map fun ps => D.lst true ((sortPs ps).map fun p => D.tup [.int p.1, .int p.2])) = some d := e
    cases hi : ints? ds with
    | none =>
      rw [hi] at e
      simp only [] at e
      cases hq : prs? ds with
      | none => rw [hq] at e; cases e
      | some ps =>
        rw [hq] at e; cases e
        obtain ⟨a, vs, c', rfl, s, q⟩ := q.lstI
        rw [prs_of hq] at q
        refine .inr (.inr (.inl ⟨a, vs, ps, rfl, SqL.of s, dens_prs q, fun ys p h1 hp => ?_⟩))
        dsimp only at k
        rw [sortPs_eq] at k
        exact k_lst k G (prs_dens h1) p hp
    | some ns =>
      rw [hi] at e; cases e
      obtain ⟨a, rfl, s⟩ := lst_ints q hi
      refine .inl ⟨a, ns, rfl, s, fun ms p h1 h2 hp => ?_⟩
      rw [sortI_eq h1 h2]
      exact k_lst k G (dens_ints _) p hp
  | dK o ks ds =>
    have e : ((kints? ks).bind fun ns => if ns.length < 64 then some (D.lst true ((sortI ns).map .int)) else none) = some d := e
    cases hi : kints? ks with
    | none => rw [hi] at e; cases e
    | some ns =>
      rw [hi, Option.bind_some] at e
      split at e
      · cases e
        obtain ⟨a, kvs, c', rfl, s, ek, q⟩ := q.dKI
        refine .inr (.inr (.inr ⟨a, kvs, ns, rfl, .inl s, by rw [ek.1, kints_of hi], by assumption, fun ms p h1 h2 hp => ?_⟩))
        rw [sortI_eq h1 h2]
        exact k_lst k G (dens_ints _) p hp
      · cases e
  | _ => cases e
theorem ok_sum : OpOk K .sum (rOp K .sum) := by
  refine ok_one _ (fun Z H c a v d Q c1 q G e k => ?_) rfl (fun a b r => by cases a <;> rfl)
  cases a with
  | lst o ds =>
    have e : (ints? ds).map (fun ns => D.int ns.sum) = some d := e
    cases hi : ints? ds with
    | none => rw [hi] at e; cases e
    | some ns =>
      rw [hi] at e; cases e
      obtain ⟨a, rfl, s⟩ := lst_ints q hi
      exact .inl ⟨a, ns, rfl, s, k_plain k G ⟨rfl, rfl⟩⟩
  | tup ds =>
    have e : (ints? ds).map (fun ns => D.int ns.sum) = some d := e
    cases hi : ints? ds with
    | none => rw [hi] at e; cases e
    | some ns =>
      rw [hi] at e; cases e
      obtain ⟨a, rfl, s⟩ := tup_ints q hi
      exact .inr ⟨a, ns, rfl, s, k_plain k G ⟨rfl, rfl⟩⟩
  | _ => cases e
theorem ok_all : OpOk K .all (rOp K .all) := by
  refine ok_one _ (fun Z H c a v d Q c1 q G e k => ?_) rfl (fun a b r => by cases a <;> rfl)
  cases a with
  | lst o ds =>
    have e : (bls? ds).map (fun bs => D.bl (bs.all id)) = some d := e
    cases hi : bls? ds with
    | none => rw [hi] at e; cases e
    | some ns =>
      rw [hi] at e; cases e
      obtain ⟨a, rfl, s⟩ := lst_bls q hi
      exact ⟨a, ns, rfl, s, k_plain k G ⟨rfl, rfl⟩⟩
  | _ => cases e
theorem ok_any : OpOk K .any (rOp K .any) := by
  refine ok_one _ (fun Z H c a v d Q c1 q G e k => ?_) rfl (fun a b r => by cases a <;> rfl)
  cases a with
  | lst o ds =>
    have e : (bls? ds).map (fun bs => D.bl (bs.any id)) = some d := e
    cases hi : bls? ds with
    | none => rw [hi] at e; cases e
    | some ns =>
      rw [hi] at e; cases e
      obtain ⟨a, rfl, s⟩ := lst_bls q hi
      exact ⟨a, ns, rfl, s, k_plain k G ⟨rfl, rfl⟩⟩
  | _ => cases e
theorem ok_min : OpOk K .min (rOp K .min) := by
  refine ok_one _ (fun Z H c a v d Q c1 q G e k => ?_) rfl (fun a b r => by cases a <;> rfl)
  cases a with
  | lst o ds =>
    have e : ((ints? ds).bind fun ns => (minI ns).map .int) = some d := e
    cases hi : ints? ds with
    | none => rw [hi] at e; cases e
    | some ns =>
      rw [hi] at e
      have e : (minI ns).map D.int = some d := e
      cases hm : minI ns with
      | none => rw [hm] at e; cases e
      | some m =>
        rw [hm] at e; cases e
        obtain ⟨a, rfl, s⟩ := lst_ints q hi
        refine .inl ⟨a, ns, rfl, s, ?_, fun m' h1 h2 => ?_⟩
        · exact List.length_pos_of_mem (minI_mem hm)
        · have : m' = m := by
            have := h2 m (minI_mem hm)
            have := minI_le hm h1
            omega
          subst this
          exact k_plain k G ⟨rfl, rfl⟩
  | tup ds =>
    have e : ((ints? ds).bind fun ns => (minI ns).map .int) = some d := e
    cases hi : ints? ds with
    | none => rw [hi] at e; cases e
    | some ns =>
      rw [hi] at e
      have e : (minI ns).map D.int = some d := e
      cases hm : minI ns with
      | none => rw [hm] at e; cases e
      | some m =>
        rw [hm] at e; cases e
        obtain ⟨a, rfl, s⟩ := tup_ints q hi
        refine .inr ⟨a, ns, rfl, s, ?_, fun m' h1 h2 => ?_⟩
        · exact List.length_pos_of_mem (minI_mem hm)
        · have : m' = m := by
            have := h2 m (minI_mem hm)
            have := minI_le hm h1
            omega
          subst this
          exact k_plain k G ⟨rfl, rfl⟩
  | _ => cases e
theorem ok_max : OpOk K .max (rOp K .max) := by
  refine ok_one _ (fun Z H c a v d Q c1 q G e k => ?_) rfl (fun a b r => by cases a <;> rfl)
  cases a with
  | lst o ds =>
    have e : ((ints? ds).bind fun ns => (maxI ns).map .int) = some d := e
    cases hi : ints? ds with
    | none => rw [hi] at e; cases e
    | some ns =>
      rw [hi] at e
      have e : (maxI ns).map D.int = some d := e
      cases hm : maxI ns with
      | none => rw [hm] at e; cases e
      | some m =>
        rw [hm] at e; cases e
        obtain ⟨a, rfl, s⟩ := lst_ints q hi
        refine .inl ⟨a, ns, rfl, s, ?_, fun m' h1 h2 => ?_⟩
        · exact List.length_pos_of_mem (maxI_mem hm)
        · have : m' = m := by
            have := h2 m (maxI_mem hm)
            have := maxI_le hm h1
            omega
          subst this
          exact k_plain k G ⟨rfl, rfl⟩
  | tup ds =>
    have e : ((ints? ds).bind fun ns => (maxI ns).map .int) = some d := e
    cases hi : ints? ds with
    | none => rw [hi] at e; cases e
    | some ns =>
      rw [hi] at e
      have e : (maxI ns).map D.int = some d := e
      cases hm : maxI ns with
      | none => rw [hm] at e; cases e
      | some m =>
        rw [hm] at e; cases e
        obtain ⟨a, rfl, s⟩ := tup_ints q hi
        refine .inr ⟨a, ns, rfl, s, ?_, fun m' h1 h2 => ?_⟩
        · exact List.length_pos_of_mem (maxI_mem hm)
        · have : m' = m := by
            have := h2 m (maxI_mem hm)
            have := maxI_le hm h1
            omega
          subst this
          exact k_plain k G ⟨rfl, rfl⟩
  | _ => cases e
theorem ok_abs : OpOk K .abs (rOp K .abs) := by
  refine ok_one _ (fun Z H c a v d Q c1 q G e k => ?_) rfl (fun a b r => by cases a <;> rfl)
  cases a with
  | int i => cases e; rw [q.1]; exact ⟨i, rfl, k_plain k G ⟨rfl, rfl⟩⟩
  | _ => cases e
theorem ok_toInt : OpOk K .toInt (rOp K .toInt) := by
  refine ok_one _ (fun Z H c a v d Q c1 q G e k => ?_) rfl (fun a b r => by cases a <;> rfl)
  cases a with
  | int i => cases e; rw [q.1]; exact .inl ⟨i, rfl, k_plain k G ⟨rfl, rfl⟩⟩
  | bl b => cases e; rw [q.1]; exact .inr ⟨b, rfl, k_plain k G ⟨rfl, rfl⟩⟩
  | _ => cases e
theorem rgOk_of {n : Int} (h : (rngOk n && szOk n.toNat) = true) : RgOk 0 n := by
  rw [Bool.and_eq_true] at h
  have h1 := h.1
  unfold rngOk at h1
  rw [Bool.and_eq_true] at h1
  have h2 := of_decide_eq_true h.2
  rw [sizeLine_eq] at h2
  have a1 := of_decide_eq_true h1.1
  have a2 := of_decide_eq_true h1.2
  refine ⟨by decide, by decide, a1, a2, ?_⟩
  rw [Int.sub_zero]
  exact h2
theorem ok_lrange : OpOk K .lrange (rOp K .lrange) := by
  refine ok_one _ (fun Z H c a v d Q c1 q G e k => ?_) rfl (fun a b r => by cases a <;> rfl)
  cases a with
  | int i =>
    have e : (if (rngOk i && szOk i.toNat) = true then some (D.lst true (rngL 0 i)) else none) = some d := e
    split at e
    · rename_i h
      cases e; rw [q.1]; exact ⟨i, rfl, rgOk_of h, k_lst k G (dens_rng 0 i)⟩
    · cases e
  | _ => cases e
theorem ok_trange : OpOk K .trange (rOp K .trange) := by
  refine ok_one _ (fun Z H c a v d Q c1 q G e k => ?_) rfl (fun a b r => by cases a <;> rfl)
  cases a with
  | int i =>
    have e : (if (rngOk i && szOk i.toNat) = true then some (D.tup (rngL 0 i)) else none) = some d := e
    split at e
    · rename_i h
      cases e; rw [q.1]; exact ⟨i, rfl, rgOk_of h, k_tup k G (dens_rng 0 i)⟩
    · cases e
  | _ => cases e
theorem ok_isi (t : Ty) : OpOk K (.isi t) (rOp K (.isi t)) := by
  refine ok_one _ (fun Z H c a v d Q c1 q G e k => ?_) rfl (fun a b r => by cases a <;> rfl)
  have hd : ∀ ns, a ≠ .scr ns := by rintro ns rfl; cases e
  have e : some (D.bl (isiD t a)) = some d := by rw [← e]; cases a <;> first | rfl | exact absurd rfl (hd _)
  injection e with e; subst e
  obtain ⟨ty, x, kt⟩ := tyX_of q hd
  exact ⟨v, .ty (tyN t), .type ty, .type (tyN t), isiD t a, rfl, .ty _, x, kit_ty (kt t), k_plain k G ⟨rfl, rfl⟩⟩
theorem ok_min2 : OpOk K .min2 (rOp K .min2) := by
  intro Z H c ds vs d Q B G e k
  rcases ds with _ | ⟨a, _ | ⟨b, _ | ⟨x, r⟩⟩⟩
  · cases e
  · cases a <;> cases e
  · obtain ⟨v, u, c1, c2, rfl, q1, q2⟩ := B.i2
    cases a with
    | int i =>
      cases b with
      | int j => cases e; rw [q1.1, q2.1]; exact ⟨i, j, rfl, k_plain k G ⟨rfl, rfl⟩⟩
      | _ => cases e
    | _ => cases e
  · cases a <;> cases b <;> cases e
theorem ok_max2 : OpOk K .max2 (rOp K .max2) := by
  intro Z H c ds vs d Q B G e k
  rcases ds with _ | ⟨a, _ | ⟨b, _ | ⟨x, r⟩⟩⟩
  · cases e
  · cases a <;> cases e
  · obtain ⟨v, u, c1, c2, rfl, q1, q2⟩ := B.i2
    cases a with
    | int i =>
      cases b with
      | int j => cases e; rw [q1.1, q2.1]; exact ⟨i, j, rfl, k_plain k G ⟨rfl, rfl⟩⟩
      | _ => cases e
    | _ => cases e
  · cases a <;> cases b <;> cases e
theorem Dens.rev {Z : Addr → Prop} {H : Hp} {ds : List D} {vs : List V} (q : Dens K Z H ds vs zc) : Dens K Z H ds.reverse vs.reverse zc := by
  have app : ∀ {ds : List D} {vs : List V} {es : List D} {us : List V}, Dens K Z H ds vs zc → Dens K Z H es us zc → Dens K Z H (ds ++ es) (vs ++ us) zc := by
    intro ds
    induction ds with
    | nil => intro vs es us q r; obtain ⟨rfl, _⟩ := q; exact r
    | cons d ds ih =>
      intro vs es us q r
      obtain ⟨v, t, c1, c2, rfl, q1, q2, e⟩ := q
      have e1 : c1 = zc ∧ c2 = zc := by
        constructor <;> funext a <;> have := congrFun e a <;> simp only [zc, add] at this ⊢ <;> omega
      obtain ⟨rfl, rfl⟩ := e1
      exact ⟨v, t ++ us, zc, zc, rfl, q1, ih q2 r, (zc_add zc).symm⟩
  induction ds generalizing vs with
  | nil => obtain ⟨rfl, _⟩ := q; exact ⟨rfl, rfl⟩
  | cons d ds ih =>
    obtain ⟨v, t, c1, c2, rfl, q1, q2, e⟩ := q
    have e1 : c1 = zc ∧ c2 = zc := by
      constructor <;> funext a <;> have := congrFun e a <;> simp only [zc, add] at this ⊢ <;> omega
    obtain ⟨rfl, rfl⟩ := e1
    rw [List.reverse_cons, List.reverse_cons]
    exact app (ih q2) ⟨v, [], zc, zc, rfl, q1, ⟨rfl, rfl⟩, (zc_add zc).symm⟩
theorem ok_rev : OpOk K .rev (rOp K .rev) := by
  refine ok_one _ (fun Z H c a v d Q c1 q G e k => ?_) rfl (fun a b r => by cases a <;> rfl)
  cases a with
  | tup ds =>
    have e : (if D.plains ds = true then some (D.tup ds.reverse) else none) = some d := e
    split at e
    · rename_i p
      cases e
      obtain ⟨a, vs, rfl, s, q⟩ := q
      exact ⟨a, vs, rfl, .inr ⟨s, k_tup k G (Dens.rev (Dens.pl' p q))⟩⟩
    · cases e
  | lst o ds =>
    have e : (if D.plains ds = true then some (D.lst true ds.reverse) else none) = some d := e
    split at e
    · rename_i p
      cases e
      obtain ⟨a, vs, c', rfl, s, q⟩ := q.lstI
      exact ⟨a, vs, rfl, .inl ⟨SqL.of s, k_lst k G (Dens.rev (Dens.pl' p q))⟩⟩
    · cases e
  | _ => cases e
theorem ok_setLen : OpOk K .setLen (rOp K .setLen) := by
  refine ok_one _ (fun Z H c a v d Q c1 q G e k => ?_) rfl (fun a b r => by cases a <;> rfl)
  cases a with
  | tup ds =>
    have e : ((ints? ds).bind fun ns => if ns.length ≤ 3000 then some (D.int (dedup ns).length) else none) = some d := e
    cases hi : ints? ds with
    | none => rw [hi] at e; cases e
    | some ns =>
      rw [hi, Option.bind_some] at e
      split at e
      · cases e
        obtain ⟨a, rfl, s⟩ := tup_ints q hi
        exact ⟨a, ns, rfl, .inr s, by assumption, k_plain k G ⟨rfl, rfl⟩⟩
      · cases e
  | lst o ds =>
    have e : ((ints? ds).bind fun ns => if ns.length ≤ 3000 then some (D.int (dedup ns).length) else none) = some d := e
    cases hi : ints? ds with
    | none => rw [hi] at e; cases e
    | some ns =>
      rw [hi, Option.bind_some] at e
      split at e
      · cases e
        obtain ⟨a, rfl, s⟩ := lst_ints q hi
        exact ⟨a, ns, rfl, .inl s, by assumption, k_plain k G ⟨rfl, rfl⟩⟩
      · cases e
  | _ => cases e
theorem strict_eq : ∀ {xs ys : List Int}, xs.Pairwise (· < ·) → ys.Pairwise (· < ·) → (∀ k, k ∈ xs ↔ k ∈ ys) → xs = ys
  | [], [], _, _, _ => rfl
  | [], y :: ys, _, _, h => absurd ((h y).mpr List.mem_cons_self) List.not_mem_nil
  | x :: xs, [], _, _, h => absurd ((h x).mp List.mem_cons_self) List.not_mem_nil
  | x :: xs, y :: ys, h1, h2, h => by
    obtain ⟨a1, a2⟩ := List.pairwise_cons.mp h1
    obtain ⟨b1, b2⟩ := List.pairwise_cons.mp h2
    have e : x = y := by
      rcases List.mem_cons.mp ((h x).mp List.mem_cons_self) with e | m
      · exact e
      · rcases List.mem_cons.mp ((h y).mpr List.mem_cons_self) with e | m'
        · exact e.symm
        · have := b1 x m; have := a1 y m'; omega
    subst e
    rw [strict_eq a2 b2 fun k => ?_]
    constructor
    · intro hk
      rcases List.mem_cons.mp ((h k).mp (List.mem_cons_of_mem _ hk)) with e | m
      · have := a1 k hk; omega
      · exact m
    · intro hk
      rcases List.mem_cons.mp ((h k).mpr (List.mem_cons_of_mem _ hk)) with e | m
      · have := b1 k hk; omega
      · exact m
theorem ok_setSorted : OpOk K .setSorted (rOp K .setSorted) := by
  refine ok_one _ (fun Z H c a v d Q c1 q G e k => ?_) rfl (fun a b r => by cases a <;> rfl)
  cases a with
  | tup ds =>
    have e : ((ints? ds).bind fun ns => if ns.length ≤ 3000 then (if (dedup ns).length < 64 then some (D.lst true ((sortI (dedup ns)).map .int)) else none) else none) = some d := e
    cases hi : ints? ds with
    | none => rw [hi] at e; cases e
    | some ns =>
      rw [hi, Option.bind_some] at e
      split at e
      · split at e
        · cases e
          obtain ⟨a, rfl, s⟩ := tup_ints q hi
          refine ⟨a, ns, rfl, s, by assumption, by assumption, fun ms p h1 h2 hp => ?_⟩
          have hnd : ms.Nodup := h1.imp fun h e => by omega
          have hl : ∀ x, x ∈ ms ↔ x ∈ sortI (dedup ns) := fun x => by rw [h2, (sortI_perm _).mem_iff, dedup_mem]
          have hnd2 : (sortI (dedup ns)).Nodup := (sortI_perm _).nodup_iff.mpr dedup_nd
          have h3 : (sortI (dedup ns)).Pairwise (· < ·) := (List.pairwise_and_iff.mpr ⟨sortI_sorted _, hnd2⟩).imp fun h => by omega
          have : ms = sortI (dedup ns) := strict_eq h1 h3 hl
          rw [this]
          exact k_lst k G (dens_ints _) p hp
        · cases e
      · cases e
  | _ => cases e
end
end DL
end

section
/-! DL7: the compact text against the model's text; contexts. -/
namespace DL
open PySem PySem.Spec L2
open PyProof.Rows hiding St

/-! ### what a def promises -/
def spD (K : PySem.W.Frag) (n : Nat) (g : List D → Option (D × List D)) : Sp := fun vs H Q _ => vs.length = n ∧ ∃ Z ds c r ds', Dens K Z H ds vs c ∧ Gd Z H c ∧ g ds = some (r, ds') ∧
  ∀ v H' Z' cr c', Den K Z' H' r v cr → Dens K Z' H' ds' vs c' → Gd Z' H' (add c' cr) → Fr false Z H c Z' H' (add c' cr) → Q v H'

/-- names that the text may take from the top: built-ins, and constants that are tuples of numbers -/
structure Bl where
  names : List Str
  gl : List (Str × List Int)
def Bl.contains (b : Bl) (x : Str) : Bool := b.names.contains x
def GT (K : PySem.W.Frag) (a : Addr) (ns : List Int) : Prop := ∃ (o : Obj) (its : Array Value) (n : Nat), K.lookup a = some o ∧ o.cls = .type "tuple" ∧ o.data = .seq its n ∧ its.size ≤ sizeLine ∧ Vals (ns.map V.int) its.toList
def BlOk (bl : Bl) (K : PySem.W.Frag) (mg : Str → Option Value) : Prop := (∀ x : Str, bl.contains x = true → mg x = none) ∧ ∀ (x : Str) (ns : List Int), (x, ns) ∈ bl.gl → ∃ a, mg x = some (.ref a) ∧ GT K a ns
theorem dens_int0 {K : PySem.W.Frag} {Z : Addr → Prop} {H : Hp} (ns : List Int) : Dens K Z H (ns.map D.int) (ns.map V.int) zc := by
  induction ns with
  | nil => exact ⟨rfl, rfl⟩
  | cons n ns ih => exact ⟨_, _, zc, zc, rfl, ⟨rfl, rfl⟩, ih, (add_zc _).symm⟩
theorem den_gt {K : PySem.W.Frag} {a : Addr} {ns : List Int} (g : GT K a ns) (Z : Addr → Prop) (H : Hp) : Den K Z H (.tup (ns.map D.int)) (.ref a) zc := ⟨a, _, rfl, .inr g, dens_int0 ns⟩
structure CtxOk (P : Ctx) (fn : List (Str × Nat)) (bl : Bl) (N : List Str) (X : Cx) : Prop where
  calm : X.calm = true
  hN : X.N = N
  nd : N.Nodup
  pass : PassesOwn (model X.prog X.w) X.A X.env X.xe
  room : Room 0 X.A
  fns : ∀ (f : Nat) (x : Str) (n : Nat), fn[f]? = some (x, n) → ∃ (fa : Addr) (fd : FuncData) (ps : List Str) (k : Nat), ps.length = n ∧ X.mg x = some (.ref fa) ∧ PySem.W.keepIn X.K (.ref fa) = true ∧ Binds X.K fd ps [] ∧ Room k X.A ∧
    FnOk X.prog X.w X.K X.mg X.base CX0 k fa fd ps (spD X.K ps.length (P.call f))
  blt : ∀ x : Str, bl.contains x = true → X.mg x = none
  gk : ∀ (x : Str) (ns : List Int), (x, ns) ∈ bl.gl → ∃ a, X.mg x = some (.ref a) ∧ GT X.K a ns

def notStar : PySem.Expr → Bool
  | .Starred _ _ => false
  | _ => true
theorem star_cons {e : PySem.Expr} {es : List PySem.Expr} {env : Env} (h : notStar e = true) : starEach (e :: es) env = (false, eval e env) :: starEach es env := by
  cases e <;> first | rfl | cases h
theorem star_any {pos : Pos} {env : Env} : ∀ {es : List PySem.Expr}, es.all notStar = true → (backTo pos (starEach es env)).any (·.1) = false
  | [], _ => rfl
  | e :: es, h => by
    rw [List.all_cons, Bool.and_eq_true] at h
    rw [star_cons h.1]
    show (false || (backTo pos (starEach es env)).any (·.1)) = false
    rw [star_any h.2]; rfl
/-- one expression a reading -/
inductive PEs (X : Cx) : List PySem.Expr → List TE → Prop where
  | nil : PEs X [] []
  | cons {p : PySem.Expr} {ps : List PySem.Expr} {t : TE} {ts : List TE} : PE X p t → PEs X ps ts → PEs X (p :: ps) (t :: ts)
theorem pa_of {X : Cx} : ∀ {ps : List PySem.Expr} {ts : List TE}, ps.all notStar = true → PEs X ps ts → PA X ps (tL ts)
  | _, _, _, .nil => pa_nil
  | _, _, h, .cons h1 h2 => by
    rw [List.all_cons, Bool.and_eq_true] at h
    exact pa_cons h1 (pa_of h.2 h2) (star_cons h.1)

/-! ### names -/
def visB (sc : Scope) (x : Str) : Bool := match sc.names.lookup x with
  | some .local => true
  | some .cell => true
  | some .free => true
  | _ => false
def locB (sc : Scope) (x : Str) : Bool := match sc.names.lookup x with
  | some .local => true
  | some .cell => true
  | _ => false
def glB (sc : Scope) (x : Str) : Bool := match sc.names.lookup x with
  | some .globalImplicit => true
  | _ => false
theorem vis_of {sc : Scope} {x : Str} (h : visB sc x = true) : Vis sc x := by
  unfold visB at h
  split at h
  · exact .inl (by assumption)
  · exact .inr (.inl (by assumption))
  · exact .inr (.inr (by assumption))
  · cases h
theorem loc_of {sc : Scope} {x : Str} (h : locB sc x = true) : Loc sc x := by
  unfold locB at h
  split at h
  · exact .inl (by assumption)
  · exact .inr (by assumption)
  · cases h
theorem gl_of {X : Cx} {sc : Scope} {x : Str} (e : X.env.scope = sc) (h : glB sc x = true) : Gl X x := by
  unfold glB at h
  split at h
  · show X.env.scope.names.lookup x = _
    rw [e]; assumption
  · cases h
def dbgB (x : Str) : Bool := (x == ("__debug__" : Str)) || (x == ("__classdict__" : Str))
def isVar (N : List Str) (sc : Scope) (i : Nat) : PySem.Expr → Bool
  | .Name x _ => decide (N[i]? = some x) && visB sc x && !dbgB x
  | _ => false
theorem pe_varB {X : Cx} {N : List Str} {sc : Scope} {i : Nat} {p : PySem.Expr} (hN : X.N = N) (hs : X.env.scope = sc) (h : isVar N sc i p = true) : PE X p (tVar i) := by
  unfold isVar at h
  split at h
  · rename_i x pos
    rw [Bool.and_eq_true, Bool.and_eq_true] at h
    have hd := h.2
    unfold dbgB at hd
    simp only [Bool.not_eq_true', Bool.or_eq_false_iff] at hd
    exact pe_var (by rw [hN]; exact of_decide_eq_true h.1.1) (by rw [hs]; exact vis_of h.1.2) hd.1 hd.2
  · cases h
/-- a call of a built-in by its name -/
def bltB (bl : Bl) (sc : Scope) (x y : Str) : Bool := decide (x = y) && glB sc x && bl.contains x
def chkB1 (bl : Bl) (sc : Scope) (y : Str) : PySem.Expr → Option (List PySem.Expr)
  | .Call (.Name x _) [a] [] _ => if bltB bl sc x y && notStar a then some [a] else none
  | _ => none
def chkB2 (bl : Bl) (sc : Scope) (y : Str) : PySem.Expr → Option (List PySem.Expr)
  | .Call (.Name x _) [a, b] [] _ => if bltB bl sc x y && notStar a && notStar b then some [a, b] else none
  | _ => none
def chkOp (bl : Bl) (sc : Scope) : Op → PySem.Expr → Option (List PySem.Expr)
  | .bin o, .BinOp a o' b _ => if o = o' then some [a, b] else none
  | .cmp o, .Compare a [o'] [b] _ => if decide (o = o') && !behindInMarks o b then some [a, b] else none
  | .neg, .UnaryOp .USub a _ => some [a]
  | .isN, .Compare a [.Is] [.Constant .none _ _] _ => some [a]
  | .notN, .Compare a [.IsNot] [.Constant .none _ _] _ => some [a]
  | .isB b, .Compare a [.Is] [.Constant (.bool b') _ _] _ => if b = b' then some [a] else none
  | .nisB b, .Compare a [.IsNot] [.Constant (.bool b') _ _] _ => if b = b' then some [a] else none
  | .len, p => chkB1 bl sc "len" p
  | .tuple, p => chkB1 bl sc "tuple" p
  | .list, p => chkB1 bl sc "list" p
  | .sorted, p => chkB1 bl sc "sorted" p
  | .sum, p => chkB1 bl sc "sum" p
  | .dict, p => chkB1 bl sc "dict" p
  | .all, p => chkB1 bl sc "all" p
  | .any, p => chkB1 bl sc "any" p
  | .min, p => chkB1 bl sc "min" p
  | .max, p => chkB1 bl sc "max" p
  | .abs, p => chkB1 bl sc "abs" p
  | .toInt, p => chkB1 bl sc "int" p
  | .min2, p => chkB2 bl sc "min" p
  | .max2, p => chkB2 bl sc "max" p
  | .lrange, .Call (.Name x _) [.Call (.Name y _) [a] [] _] [] _ => if bltB bl sc x "list" && bltB bl sc y "range" && notStar a then some [a] else none
  | .trange, .Call (.Name x _) [.Call (.Name y _) [a] [] _] [] _ => if bltB bl sc x "tuple" && bltB bl sc y "range" && notStar a then some [a] else none
  | .rev, .Subscript a (.Slice none none (some (.UnaryOp .USub (.Constant (.int 1) _ _) _)) _) _ => some [a]
  | .setLen, .Call (.Name x _) [.Call (.Name y _) [a] [] _] [] _ => if bltB bl sc x "len" && bltB bl sc y "set" && notStar a then some [a] else none
  | .setSorted, .Call (.Name x _) [.Call (.Name y _) [a] [] _] [] _ => if bltB bl sc x "sorted" && bltB bl sc y "set" && notStar a then some [a] else none
  | .isi t, .Call (.Name x _) [a, .Name y _] [] _ => if bltB bl sc x "isinstance" && bltB bl sc y (Str.ofString (tyN t)) && notStar a then some [a] else none
  | _, _ => none

section
variable {X : Cx} {P : Ctx} {fn : List (Str × Nat)} {bl : Bl} {N : List Str} {sc : Scope}
theorem tL1 {t : TE} {σ : L2.St} {H : Hp} {R : List V → Hp → Prop} (h : tL [t] σ H R) : t σ H (fun x H1 => R [x] H1) := h
theorem blt_of (C : CtxOk P fn bl N X) (hs : X.env.scope = sc) {x y : Str} (h : bltB bl sc x y = true) : x = y ∧ Gl X x ∧ X.mg x = none := by
  unfold bltB at h
  rw [Bool.and_eq_true, Bool.and_eq_true] at h
  exact ⟨of_decide_eq_true h.1.1, gl_of hs h.1.2, C.blt x h.2⟩
theorem b1_of {y : Str} {p : PySem.Expr} {ps : List PySem.Expr} (h : chkB1 bl sc y p = some ps) : ∃ x q a pos, p = .Call (.Name x q) [a] [] pos ∧ ps = [a] ∧ bltB bl sc x y = true ∧ notStar a = true := by
  unfold chkB1 at h
  split at h
  · split at h
    · rename_i hc
      rw [Bool.and_eq_true] at hc
      cases h
      exact ⟨_, _, _, _, rfl, rfl, hc.1, hc.2⟩
    · cases h
  · cases h
theorem b2_of {y : Str} {p : PySem.Expr} {ps : List PySem.Expr} (h : chkB2 bl sc y p = some ps) : ∃ x q a b pos, p = .Call (.Name x q) [a, b] [] pos ∧ ps = [a, b] ∧ bltB bl sc x y = true ∧ notStar a = true ∧ notStar b = true := by
  unfold chkB2 at h
  split at h
  · split at h
    · rename_i hc
      rw [Bool.and_eq_true, Bool.and_eq_true] at hc
      cases h
      exact ⟨_, _, _, _, _, rfl, rfl, hc.1.1, hc.1.2, hc.2⟩
    · cases h
  · cases h
/-- a built-in function of one value -/
theorem pe_b1 (C : CtxOk P fn bl N X) (hs : X.env.scope = sc) {y : Str} {id : String} {r : List V → Hp → VK → Prop} {p : PySem.Expr} {ps : List PySem.Expr} {ts : List TE} (h : chkB1 bl sc y p = some ps) (hc : CallR X (.builtin id) r)
    (hv : bootBuiltins y = some (.builtin id)) (hn : y ≠ "__name__") (hdb : (y == ("__debug__" : Str)) = false) (hp : PEs X ps ts) : PE X p (fun σ H Q => tL ts σ H fun vs H1 => r vs H1 Q) := by
  obtain ⟨x, q, a, pos, rfl, rfl, hb, na⟩ := b1_of h
  obtain ⟨rfl, g, m⟩ := blt_of C hs hb
  exact pe_callB hc g m hv (pa_of (by simp [na]) hp) hn hdb (star_cons na) (star_any rfl)
theorem pe_t1 (C : CtxOk P fn bl N X) (hs : X.env.scope = sc) {y : Str} {id : String} {r : List V → Hp → VK → Prop} {p : PySem.Expr} {ps : List PySem.Expr} {ts : List TE} (h : chkB1 bl sc y p = some ps) (hc : CallR X (.type id) r)
    (hv : bootBuiltins y = some (.type id)) (hn : y ≠ "__name__") (hdb : (y == ("__debug__" : Str)) = false) (hp : PEs X ps ts) : PE X p (fun σ H Q => tL ts σ H fun vs H1 => r vs H1 Q) := by
  obtain ⟨x, q, a, pos, rfl, rfl, hb, na⟩ := b1_of h
  obtain ⟨rfl, g, m⟩ := blt_of C hs hb
  exact pe_callTy hc g m hv (pa_of (by simp [na]) hp) hn hdb (star_cons na) (star_any rfl)
theorem pe_b2 (C : CtxOk P fn bl N X) (hs : X.env.scope = sc) {y : Str} {id : String} {r : List V → Hp → VK → Prop} {p : PySem.Expr} {ps : List PySem.Expr} {ts : List TE} (h : chkB2 bl sc y p = some ps) (hc : CallR X (.builtin id) r)
    (hv : bootBuiltins y = some (.builtin id)) (hn : y ≠ "__name__") (hdb : (y == ("__debug__" : Str)) = false) (hp : PEs X ps ts) : PE X p (fun σ H Q => tL ts σ H fun vs H1 => r vs H1 Q) := by
  obtain ⟨x, q, a, b, pos, rfl, rfl, hb, na, nb⟩ := b2_of h
  obtain ⟨rfl, g, m⟩ := blt_of C hs hb
  exact pe_callB hc g m hv (pa_of (by simp [na, nb]) hp) hn hdb (star_cons na) (star_any (by simp [nb]))
theorem call_lenD' {X : Cx} : CallR X (.builtin "len") (fun xs H Q => (∃ x n, xs = [x] ∧ LenV X.K x H n ∧ Q (.int n) H) ∨ ∃ p kvs, xs = [.ref p] ∧ H p = some (.dK kvs) ∧ Q (.int kvs.length) H) := by
  refine call_len.or ?_
  intro pins s σ H xs us Q I r h
  obtain ⟨p, kvs, rfl, h, q⟩ := h
  exact call_lenD pins s σ H _ us Q I r ⟨p, kvs, rfl, h, q⟩
theorem pe_op_of (C : CtxOk P fn bl N X) (hs : X.env.scope = sc) (o : Op) {p : PySem.Expr} {ps : List PySem.Expr} (h : chkOp bl sc o p = some ps) {ts : List TE} (hp : PEs X ps ts) :
    PE X p (fun σ H Q => tL ts σ H fun vs H1 => rOp X.K o vs H1 Q) := by
  unfold chkOp at h
  split at h
  · split at h
    · rename_i e; subst e; cases h
      cases hp with
      | cons h1 hp => cases hp with
        | cons h2 hp => cases hp; exact pe_op (op_bin _) h1 h2
    · cases h
  · split at h
    · rename_i e
      rw [Bool.and_eq_true] at e
      have e1 := of_decide_eq_true e.1
      subst e1; cases h
      cases hp with
      | cons h1 hp => cases hp with
        | cons h2 hp => cases hp; exact pe_cmpR (op_cmp C.room _) h1 h2 (by simpa using e.2)
    · cases h
  · cases h
    cases hp with
    | cons h1 hp => cases hp; exact pe_un un_neg h1
  · cases h
    cases hp with
    | cons h1 hp => cases hp; exact pe_cmp (pc_isN h1) (nomark _)
  · cases h
    cases hp with
    | cons h1 hp => cases hp; exact pe_cmp (pc_notN h1) (nomark _)
  · split at h
    · rename_i e; subst e; cases h
      cases hp with
      | cons h1 hp => cases hp; exact pe_cmpR op_isBl h1 pe_bl (nomark _)
    · cases h
  · split at h
    · rename_i e; subst e; cases h
      cases hp with
      | cons h1 hp => cases hp; exact pe_cmpR op_notBl h1 pe_bl (nomark _)
    · cases h
  · exact pe_b1 C hs h call_lenD' (by decide +kernel) (by decide) (by decide) hp
  · exact pe_t1 C hs h call_tuple_of (by decide +kernel) (by decide) (by decide) hp
  · exact pe_t1 C hs h (call_list_of.or (call_list_dK C.calm)) (by decide +kernel) (by decide) (by decide) hp
  · exact pe_b1 C hs h (cr_sortedI.or (cr_sortTI.or (cr_sortPI.or (call_sortedDI C.calm)))) (by decide +kernel) (by decide) (by decide) hp
  · exact pe_b1 C hs h ((cr_sum C.calm).or (cr_sumTT C.calm)) (by decide +kernel) (by decide) (by decide) hp
  · exact pe_t1 C hs h (call_dictP C.calm) (by decide +kernel) (by decide) (by decide) hp
  · exact pe_b1 C hs h (cr_all C.calm) (by decide +kernel) (by decide) (by decide) hp
  · exact pe_b1 C hs h (cr_any C.calm) (by decide +kernel) (by decide) (by decide) hp
  · exact pe_b1 C hs h ((cr_min C.calm).or (cr_minTT C.calm)) (by decide +kernel) (by decide) (by decide) hp
  · exact pe_b1 C hs h ((cr_max C.calm).or (cr_maxTT C.calm)) (by decide +kernel) (by decide) (by decide) hp
  · exact pe_b1 C hs h call_abs (by decide +kernel) (by decide) (by decide) hp
  · exact pe_t1 C hs h call_int1 (by decide +kernel) (by decide) (by decide) hp
  · exact pe_b2 C hs h (call_min2 C.calm) (by decide +kernel) (by decide) (by decide) hp
  · exact pe_b2 C hs h (call_max2 C.calm) (by decide +kernel) (by decide) (by decide) hp
  · split at h
    · rename_i hc
      rw [Bool.and_eq_true, Bool.and_eq_true] at hc
      cases h
      obtain ⟨rfl, g1, m1⟩ := blt_of C hs hc.1.1
      obtain ⟨rfl, g2, m2⟩ := blt_of C hs hc.1.2
      cases hp with
      | cons h1 hp =>
        cases hp
        exact PE.imp (pe_listRg C.calm g1 m1 (prg_1 g2 m2 h1 (star_cons hc.2)) rfl) fun σ H Q h => h
    · cases h
  · split at h
    · rename_i hc
      rw [Bool.and_eq_true, Bool.and_eq_true] at hc
      cases h
      obtain ⟨rfl, g1, m1⟩ := blt_of C hs hc.1.1
      obtain ⟨rfl, g2, m2⟩ := blt_of C hs hc.1.2
      cases hp with
      | cons h1 hp =>
        cases hp
        exact PE.imp (pe_tupRg C.calm g1 m1 (prg_1 g2 m2 h1 (star_cons hc.2)) rfl) fun σ H Q h => h
    · cases h
  · cases h
    cases hp with
    | cons h1 hp => cases hp; exact PE.imp (pe_turn h1) fun σ H Q h => h
  · split at h
    · rename_i hc
      rw [Bool.and_eq_true, Bool.and_eq_true] at hc
      cases h
      obtain ⟨rfl, g1, m1⟩ := blt_of C hs hc.1.1
      obtain ⟨rfl, g2, m2⟩ := blt_of C hs hc.1.2
      cases hp with
      | cons h1 hp => cases hp; exact PE.imp (pe_setLen g1 m1 g2 m2 h1 C.calm (star_cons hc.2)) fun σ H Q h => h
    · cases h
  · split at h
    · rename_i hc
      rw [Bool.and_eq_true, Bool.and_eq_true] at hc
      cases h
      obtain ⟨rfl, g1, m1⟩ := blt_of C hs hc.1.1
      obtain ⟨rfl, g2, m2⟩ := blt_of C hs hc.1.2
      cases hp with
      | cons h1 hp => cases hp; exact PE.imp (pe_setSorted g1 m1 g2 m2 h1 C.calm (star_cons hc.2)) fun σ H Q h => h
    · cases h
  · split at h
    · rename_i t x _ a y _ _ hc
      rw [Bool.and_eq_true, Bool.and_eq_true] at hc
      cases h
      obtain ⟨rfl, g1, m1⟩ := blt_of C hs hc.1.1
      obtain ⟨e2, g2, m2⟩ := blt_of C hs hc.1.2
      cases hp with
      | cons h1 hp =>
        cases hp
        have hb : bootBuiltins y = some (.type (tyN t)) := by rw [e2]; cases t <;> decide +kernel
        have hy : ∀ pos : Pos, PE X (.Name y pos) (tC (.ty (tyN t))) := fun pos => pe_bltn g2 m2 hb rfl (by rw [e2]; cases t <;> decide) (by rw [e2]; cases t <;> decide)
        exact PE.imp (pe_callB call_isi g1 m1 (by decide +kernel) (pa_of (ts := [_, _]) (by simp only [List.all_cons, hc.2]; rfl) (.cons h1 (.cons (hy _) .nil))) (by decide) (by decide) (star_cons hc.2) (star_any rfl)) fun σ H Q h => h
    · cases h
  · cases h
end
end DL
end

section
/-! DL8: readings of expressions. -/
namespace DL
open PySem PySem.Spec L2
open PyProof.Rows hiding St

section
variable {K : PySem.W.Frag} {P : Ctx}
/-- what is left behind an expression: shorthand -/
abbrev Post (K : PySem.W.Frag) (m : Bool) (Z : Addr → Prop) (H : Hp) (c : Cnt) (env' : EnvD) (σ : L2.St) (R : V → Hp → (Addr → Prop) → Cnt → Prop) (Q : VK) : Prop :=
  ∀ v H' Z' c' ca, ED K Z' H' env' σ c' → R v H' Z' ca → Gd Z' H' (add c' ca) → Fr m Z H c Z' H' (add c' ca) → (m = true → ∀ b, H b ≠ none → ca b = 0) → Q v H'

theorem bind_some {α β : Type} {x : Option α} {f : α → Option β} {r : β} (h : x.bind f = some r) : ∃ a, x = some a ∧ f a = some r := by
  cases x with
  | none => cases h
  | some a => exact ⟨a, rfl, h⟩
theorem map_some {α β : Type} {x : Option α} {f : α → β} {r : β} (h : x.map f = some r) : ∃ a, x = some a ∧ f a = r := by
  cases x with
  | none => cases h
  | some a => exact ⟨a, rfl, Option.some.inj h⟩
theorem if_some {α : Type} {c : Bool} {x : Option α} {r : α} (h : (if c = true then x else none) = some r) : c = true ∧ x = some r := by
  cases c with
  | true => exact ⟨rfl, h⟩
  | false => cases h

theorem in_var {i : Nat} {σ : L2.St} {H : Hp} {Q : VK} (h : tE K P (.var i) σ H Q) : tVar i σ H Q := by
  obtain ⟨m, Z, c, env, a, env', E, G, ev, k⟩ := h
  obtain ⟨d, h1, h2⟩ := map_some (show (getE env i).map (fun d => (if d.plain then A.tmp d else .ref i, env)) = some (a, env') from ev)
  injection h2 with ha he
  subst he
  obtain ⟨v, c1, c2, e1, q1, q2, e2⟩ := E.take (getE_some h1)
  refine ⟨v, e1, k v H Z c zc E ?_ (by rw [add_zc]; exact G) (by rw [add_zc]; exact Fr.refl) fun _ _ _ => rfl⟩
  subst ha
  cases hp : d.plain with
  | true =>
    have e0 := Den.pl hp q1
    rw [e0] at q1
    exact q1
  | false => exact ⟨e1, rfl⟩
theorem in_mv {i : Nat} {σ : L2.St} {H : Hp} {Q : VK} (h : tE K P (.mv i) σ H Q) : tVar i σ H Q := by
  obtain ⟨m, Z, c, env, a, env', E, G, ev, k⟩ := h
  have ev : (if m then none else (getE env i).map fun d => (A.tmp d, env.set i none)) = some (a, env') := ev
  cases m with
  | true => cases ev
  | false =>
    obtain ⟨d, h1, h2⟩ := map_some (show (getE env i).map (fun d => (A.tmp d, env.set i none)) = some (a, env') from ev)
    injection h2 with ha he
    subst ha he
    obtain ⟨v, c1, c2, e1, q1, q2, e2⟩ := E.take (getE_some h1)
    refine ⟨v, e1, k v H Z c2 c1 q2 q1 ?_ ?_ fun x => by cases x⟩
    · rw [add_comm, ← e2]; exact G
    · rw [add_comm, ← e2]; exact Fr.refl
theorem in_fz {i : Nat} {σ : L2.St} {H : Hp} {Q : VK} (h : tE K P (.fz i) σ H Q) : tVar i σ H Q := by
  obtain ⟨m, Z, c, env, r, env', E, G, ev, k⟩ := h
  cases m with
  | true => cases ev
  | false =>
    obtain ⟨d, g, e⟩ := map_some (show (getE env i).map (fun d => (A.tmp d.freeze, env.set i (some d.freeze))) = some (r, env') from ev)
    injection e with e1 e2
    subst e1 e2
    have hg := getE_some g
    obtain ⟨w, c1, c2, hv, q1, q2, rfl⟩ := E.take hg
    have gd : ∀ a, c1 a ≠ 0 → MutA H a := fun a x => (G a).2.1 (by simp only [add]; omega)
    refine ⟨w, hv, k w H (fun a => Z a ∨ c1 a ≠ 0) c2 zc ?_ (Den.frz (fun _ => .inl) (fun _ => .inr) q1) ?_ ?_ fun _ _ _ => rfl⟩
    · have r := ED.put (i := i) (ED.loc (Z' := fun a => Z a ∨ c1 a ≠ 0) (H' := H) (fun _ => .inl) (fun _ _ h _ => h) q2) (List.getElem?_eq_some_iff.mp hg).1 (Den.frz (W := fun a => Z a ∨ c1 a ≠ 0) (fun _ => .inl) (fun _ => .inr) q1)
      rw [zc_add, set_self hv] at r
      exact r
    · intro a
      obtain ⟨g1, g2, g3⟩ := G a
      simp only [add, zc] at *
      refine ⟨by omega, fun x => g2 (by omega), fun z => ?_⟩
      rcases z with z | z
      · exact ⟨by have := (g3 z).1; omega, (g3 z).2⟩
      · exact ⟨by omega, (gd a z).ne⟩
    · intro a
      simp only [add, zc]
      exact ⟨.inl, fun n => n, fun _ _ => trivial, fun n x => ⟨by omega, fun z => z.elim id fun y => absurd (by omega) y⟩⟩
theorem in_const {e : E} {d : D} {v : V} (hv : ∀ Z H, Den K Z H d v zc) (he : ∀ m env, evA P m e env = some (.tmp d, env)) {σ : L2.St} {H : Hp} {Q : VK} (h : tE K P e σ H Q) : Q v H := by
  obtain ⟨m, Z, c, env, a, env', E, G, ev, k⟩ := h
  rw [he] at ev
  injection ev with ev
  injection ev with ha he
  subst ha he
  exact k v H Z c zc E (hv Z H) (by rw [add_zc]; exact G) (by rw [add_zc]; exact Fr.refl) fun _ _ _ => rfl
/-- a new object that takes what its items own -/
theorem new_own {m : Bool} {Z Z' : Addr → Prop} {H H' : Hp} {c c' ca : Cnt} {env' : EnvD} {σ : L2.St} {p : Addr} {o : HO} (hp : H' p = none) (mo : isMut o = true) (E : ED K Z' H' env' σ c') (G : Gd Z' H' (add c' ca)) (F : Fr m Z H c Z' H' (add c' ca))
    (M : m = true → ∀ b, H b ≠ none → ca b = 0) : ED K Z' (upd H' p o) env' σ c' ∧ Gd Z' (upd H' p o) (add c' (add (one p) ca)) ∧ Fr m Z H c Z' (upd H' p o) (add c' (add (one p) ca)) ∧ (m = true → ∀ b, H b ≠ none → add (one p) ca b = 0) := by
  have e : add c' (add (one p) ca) = add (one p) (add c' ca) := by funext a; simp only [add]; omega
  refine ⟨ED.loc (fun _ z => z) (fun a u h _ => keep_new hp a u h) E, by rw [e]; exact G.new hp mo, by rw [e]; exact F.trans (Fr.new hp), fun x b hb => ?_⟩
  have h1 := M x b hb
  have h2 : b ≠ p := fun e => (F b).2.1 hb (e ▸ hp)
  simp only [add, one_ne h2]; omega
theorem new_tup {m : Bool} {Z Z' : Addr → Prop} {H H' : Hp} {c c' ca : Cnt} {env' : EnvD} {σ : L2.St} {p : Addr} {o : HO} (hp : H' p = none) (E : ED K Z' H' env' σ c') (G : Gd Z' H' (add c' ca)) (F : Fr m Z H c Z' H' (add c' ca)) :
    ED K Z' (upd H' p o) env' σ c' ∧ Gd Z' (upd H' p o) (add c' ca) ∧ Fr m Z H c Z' (upd H' p o) (add c' ca) :=
  ⟨ED.loc (fun _ z => z) (fun a u h _ => keep_new hp a u h) E, G.newT hp, F.trans (Fr.newT hp)⟩
theorem in_tup {es : List E} {σ : L2.St} {H : Hp} {Q : VK} (h : tE K P (.tup es) σ H Q) : tL (es.map (tE K P)) σ H (fun xs H1 => xs.length ≤ sizeLine ∧ ∀ p, H1 p = none → Q (.ref p) (upd H1 p (.tup xs))) := by
  obtain ⟨m, Z, c, env, a, env', E, G, ev, k⟩ := h
  obtain ⟨x, h1, h2⟩ := bind_some (show ((evMs P m es env).bind fun x => if szOk x.1.length then some (A.tmp (.tup x.1), x.2) else none) = some (a, env') from ev)
  obtain ⟨h3, h4⟩ := if_some h2
  injection h4 with h4
  injection h4 with ha he
  subst ha he
  refine seqM ⟨m, Z, c, env, x.1, x.2, E, G, h1, fun vs H1 Z1 c1 ca1 E1 q1 G1 F1 M1 => ⟨by rw [q1.length]; exact of_decide_eq_true h3, fun p hp => ?_⟩⟩
  obtain ⟨E2, G2, F2⟩ := new_tup (o := .tup vs) hp E1 G1 F1
  exact k _ _ Z1 c1 ca1 E2 ⟨p, vs, rfl, SqT.of upd_same, Dens.loc (fun _ z => z) (fun a u h _ => keep_new hp a u h) q1⟩ G2 F2 M1
theorem in_lst {es : List E} {σ : L2.St} {H : Hp} {Q : VK} (h : tE K P (.lst es) σ H Q) : tL (es.map (tE K P)) σ H (fun xs H1 => xs.length ≤ sizeLine ∧ ∀ p, H1 p = none → Q (.ref p) (upd H1 p (.lst xs))) := by
  obtain ⟨m, Z, c, env, a, env', E, G, ev, k⟩ := h
  obtain ⟨x, h1, h2⟩ := bind_some (show ((evMs P m es env).bind fun x => if szOk x.1.length then some (A.tmp (.lst true x.1), x.2) else none) = some (a, env') from ev)
  obtain ⟨h3, h4⟩ := if_some h2
  injection h4 with h4
  injection h4 with ha he
  subst ha he
  refine seqM ⟨m, Z, c, env, x.1, x.2, E, G, h1, fun vs H1 Z1 c1 ca1 E1 q1 G1 F1 M1 => ⟨by rw [q1.length]; exact of_decide_eq_true h3, fun p hp => ?_⟩⟩
  obtain ⟨E2, G2, F2, M2⟩ := new_own (o := .lst vs) hp rfl E1 G1 F1 M1
  exact k _ _ Z1 c1 (add (one p) ca1) E2 ⟨p, vs, ca1, rfl, upd_same, Dens.loc (fun _ z => z) (fun a u h _ => keep_new hp a u h) q1, rfl⟩ G2 F2 M2

/-! ### subscripts -/
def rSub (K : PySem.W.Frag) : R2 := fun x y H Q => rIxL K x y H Q ∨ (rIxT K x y H Q ∨ ∃ a v, x = .ref a ∧ DGet H a y (some v) ∧ Q v H)
theorem ix_sub {X : Cx} (hr : Room 0 X.A) : IxR X (rSub X.K) := ix_list.or (ix_tup.or (ix_dict (hu_of hr)))
theorem atI_both {α β : Type} {xs : List α} {ys : List β} {i : Int} {x : α} (h : atI xs i = some x) (hl : ys.length = xs.length) : ∃ j : Nat, xs[j]? = some x ∧ ∀ y, ys[j]? = some y → atI ys i = some y := by
  unfold atI at h
  obtain ⟨j, h1, h2⟩ := bind_some h
  refine ⟨j, h2, fun y hy => ?_⟩
  unfold atI
  rw [hl, h1]
  exact hy
theorem dens_at {Z : Addr → Prop} {H : Hp} {ds : List D} {vs : List V} {c : Cnt} {j : Nat} {d : D} (q : Dens K Z H ds vs c) (h : ds[j]? = some d) : ∃ v c1, vs[j]? = some v ∧ Den K Z H d v c1 ∧ ∀ a, c1 a ≤ c a := by
  obtain ⟨v, c1, c2, h1, h2, rfl, _⟩ := q.at h
  exact ⟨v, c1, h1, h2, fun a => by simp only [add]; omega⟩
theorem sub_den {Z : Addr → Prop} {H : Hp} {b k d : D} {v u : V} {c1 c2 : Cnt} (qb : Den K Z H b v c1) (qk : Den K Z H k u c2) (h : subD b k = some d) :
    ∃ w cd, (∀ Q : VK, Q w H → rSub K v u H Q) ∧ Den K Z H d w cd ∧ ∀ a, cd a ≤ c1 a := by
  cases b with
  | tup ds =>
    cases k with
    | int i =>
      obtain ⟨a, vs, rfl, s, q⟩ := qb
      obtain ⟨j, h1, h2⟩ := atI_both (ys := vs) h q.length
      obtain ⟨w, cd, e1, q1, le⟩ := dens_at q h1
      exact ⟨w, cd, fun Q hq => .inr (.inl ⟨a, vs, i, w, rfl, qk.1, s, h2 w e1, hq⟩), q1, le⟩
    | _ => cases h
  | lst o ds =>
    cases k with
    | int i =>
      have h : atI ds i = some d := h
      cases o with
      | true =>
        obtain ⟨a, vs, c', rfl, s, q, rfl⟩ := qb
        obtain ⟨j, h1, h2⟩ := atI_both (ys := vs) h q.length
        obtain ⟨w, cd, e1, q1, le⟩ := dens_at q h1
        exact ⟨w, cd, fun Q hq => .inl ⟨a, vs, i, w, rfl, qk.1, SqL.of s, h2 w e1, hq⟩, q1, fun a => by have := le a; simp only [add]; omega⟩
      | false =>
        obtain ⟨a, vs, rfl, s, z, q, rfl⟩ := qb
        obtain ⟨j, h1, h2⟩ := atI_both (ys := vs) h q.length
        obtain ⟨w, cd, e1, q1, le⟩ := dens_at q h1
        exact ⟨w, cd, fun Q hq => .inl ⟨a, vs, i, w, rfl, qk.1, SqL.of s, h2 w e1, hq⟩, q1, le⟩
    | _ => cases h
  | scr ns =>
    cases k with
    | int i =>
      obtain ⟨n, h1, rfl⟩ := map_some (show (atI ns i).map D.int = some d from h)
      obtain ⟨a, rfl, s, rfl⟩ := qb
      obtain ⟨j, h2, h3⟩ := atI_both (ys := ns.map V.int) h1 (by simp)
      exact ⟨.int n, zc, fun Q hq => .inl ⟨a, _, i, _, rfl, qk.1, s.seq, h3 _ (by rw [List.getElem?_map, h2]; rfl), hq⟩, ⟨rfl, rfl⟩, fun a => Nat.zero_le _⟩
    | _ => cases h
  | dK o ks ds =>
    obtain ⟨kk, h1, h2⟩ := bind_some (show (D.key? k).bind (fun k => (find k ks 0).bind fun j => ds[j]?) = some d from by cases k <;> exact h)
    obtain ⟨j, h3, h4⟩ := bind_some h2
    have ek := keyD qk h1
    subst ek
    have core : ∀ {kvs : List (Key × V)} {a : Addr} {c' : Cnt}, H a = some (.dK kvs) → kvs.map (·.1) = ks ∧ ks.Nodup → Dens K Z H ds (kvs.map (·.2)) c' → v = .ref a → ∃ w cd, (∀ Q : VK, Q w H → rSub K v (kV kk) H Q) ∧ Den K Z H d w cd ∧ ∀ a, cd a ≤ c' a := by
      intro kvs a c' s ek q rfl
      obtain ⟨w, cd, e1, q1, le⟩ := dens_at q h4
      refine ⟨w, cd, fun Q hq => .inr (.inr ⟨a, w, rfl, ?_, hq⟩), q1, le⟩
      have : valV kvs kk = some w := by
        rw [val_find kk kvs 0, ek.1, h3]
        exact e1
      rw [← this]
      exact DGet.k s
    cases o with
    | true =>
      obtain ⟨a, kvs, c', e, s, ek, q, rfl⟩ := qb
      obtain ⟨w, cd, f, q1, le⟩ := core s ek q e
      exact ⟨w, cd, f, q1, fun a => by have := le a; simp only [add]; omega⟩
    | false =>
      obtain ⟨a, kvs, e, s, ek, z, q, rfl⟩ := qb
      exact core s ek q e
  | _ => cases h
end
end DL
end

section
/-! DL9: readings of expressions, further. -/
namespace DL
open PySem PySem.Spec L2
open PyProof.Rows hiding St

section
variable {K : PySem.W.Frag} {P : Ctx}
/-- an operand, looked at -/
theorem AD.look {Z : Addr → Prop} {H : Hp} {σ : L2.St} {env : EnvD} {c ca : Cnt} {a : A} {v : V} {d : D} (E : ED K Z H env σ c) (q : AD K Z H σ a v ca) (g : a.get env = some d) : ∃ c1, Den K Z H d v c1 ∧ (a.isTmp = true → c1 = ca) := by
  cases a with
  | tmp d' => cases g; exact ⟨ca, q, fun _ => rfl⟩
  | pk d' => cases g; obtain ⟨⟨c3, q⟩, _⟩ := q; exact ⟨c3, q, fun h => by cases h⟩
  | ref i =>
    obtain ⟨w, k1, k2, e1, q3, _, _⟩ := E.take (getE_some g)
    rw [q.1] at e1; cases e1
    exact ⟨k1, q3, fun h => by cases h⟩
theorem isPk_of {m : Bool} {a : A} : ∀ d, a = .pk d → (m || a.isPk) = true := by
  intro d h; subst h; simp [A.isPk]
theorem mkA_plain {t : Bool} {d : D} (h : d.plain = true) : mkA t d = .tmp d := by unfold mkA; rw [h]; rfl
theorem mkA_tmp {d : D} : mkA true d = .tmp d := by unfold mkA; rw [Bool.or_true]; rfl
theorem mkA_pk {d : D} (h : d.plain = false) : mkA false d = .pk d := by unfold mkA; rw [h]; rfl
theorem A.of_tmp {a : A} {d : D} (h : a.tmp? = some d) : a = .tmp d := by
  cases a with
  | tmp d' => cases h; rfl
  | _ => cases h
theorem A.of_bl {a : A} {b : Bool} (h : a.bl? = some b) : a = .tmp (.bl b) := by
  cases a with
  | tmp d =>
    cases d with
    | bl b' => cases h; rfl
    | _ => cases h
  | _ => cases h
theorem A.of_int {a : A} {b : Int} (h : a.int? = some b) : a = .tmp (.int b) := by
  cases a with
  | tmp d =>
    cases d with
    | int b' => cases h; rfl
    | _ => cases h
  | _ => cases h
theorem D.of_bl {a : D} {b : Bool} (h : a.bl? = some b) : a = .bl b := by
  cases a with
  | bl b' => cases h; rfl
  | _ => cases h
theorem in_sub {a i : E} {σ : L2.St} {H : Hp} {Q : VK} (h : tE K P (.sub a i) σ H Q) : tE K P a σ H (fun x H1 => tE K P i σ H1 fun y H2 => rSub K x y H2 Q) := by
  obtain ⟨m, Z, c, env, r, env', E, G, ev, k⟩ := h
  obtain ⟨x, h1, h2⟩ := bind_some (show ((evA P m a env).bind fun x => (evA P (m || x.1.isPk) i x.2).bind fun y =>
      (x.1.get y.2).bind fun b => (y.1.get y.2).bind fun k => (subD b k).map fun d => (mkA x.1.isTmp d, y.2)) = some (r, env') from ev)
  obtain ⟨y, h3, h4⟩ := bind_some h2
  obtain ⟨b, h5, h6⟩ := bind_some h4
  obtain ⟨kk, h7, h8⟩ := bind_some h6
  obtain ⟨d, h9, h10⟩ := map_some h8
  injection h10 with hr he
  subst he
  refine ⟨m, Z, c, env, x.1, x.2, E, G, h1, fun v H1 Z1 c1 ca1 E1 q1 G1 F1 M1 => ?_⟩
  refine ⟨m || x.1.isPk, Z1, c1, x.2, y.1, y.2, E1, G1.le (fun a => by simp only [add]; omega), h3, fun u H2 Z2 c2 ca2 E2 q2 G2 F2 M2 => ?_⟩
  obtain ⟨q1', G', F'⟩ := frame_step G1 q1 F2 G2 isPk_of
  obtain ⟨cb, qb, eb⟩ := q1'.look E2 h5
  obtain ⟨ck, qk, _⟩ := q2.look E2 h7
  obtain ⟨w, cd, f, qd, le⟩ := sub_den qb qk h9
  refine f Q ?_
  have F3 := F1.trans (F'.low (by intro x; simp [x]))
  subst hr
  have rest : ∀ (a : A) (cx : Cnt), AD K Z2 H2 σ a w cx → (∀ a, cx a ≤ ca1 a) → Q w H2 → Q w H2 := fun _ _ _ _ h => h
  cases hp : d.plain with
  | true =>
    have e0 := Den.pl hp qd
    subst e0
    refine k w H2 Z2 c2 zc E2 (by rw [mkA_plain hp]; exact qd) (G'.le fun a => by simp only [add, zc]; omega) (F3.lessR fun a => by simp only [add, zc]; omega) fun _ _ _ => rfl
  | false =>
    cases ht : x.1.isTmp with
    | true =>
      have e1 := eb ht
      subst e1
      refine k w H2 Z2 c2 cd E2 ?_ (G'.le fun a => by have := le a; simp only [add]; omega) (F3.lessR fun a => by have := le a; simp only [add]; omega) fun x b hb => by have := le b; have := M1 x b hb; omega
      rw [ht, mkA_tmp]
      exact qd
    | false =>
      refine k w H2 Z2 c2 zc E2 ?_ (G'.le fun a => by simp only [add, zc]; omega) (F3.lessR fun a => by simp only [add, zc]; omega) fun _ _ _ => rfl
      rw [ht, mkA_pk hp]
      exact ⟨⟨cd, qd⟩, rfl⟩
theorem in_ite {a b : E} {t : T} {σ : L2.St} {H : Hp} {Q : VK} (h : tE K P (.ite t a b) σ H Q) : tIf (tT K P t) (tE K P a) (tE K P b) σ H Q := by
  obtain ⟨m, Z, c, env, r, env', E, G, ev, k⟩ := h
  obtain ⟨x, h1, h2⟩ := bind_some (show ((evT P m t env).bind fun x => if x.1 then evA P m a x.2 else evA P m b x.2) = some (r, env') from ev)
  refine ⟨m, Z, c, env, x.1, x.2, E, G, h1, fun H1 Z1 c1 E1 G1 F1 => ?_⟩
  have fin : ∀ e, evA P m e x.2 = some (r, env') → tE K P e σ H1 Q := fun e he => ⟨m, Z1, c1, x.2, r, env', E1, G1, he, fun v H2 Z2 c2 ca2 E2 q2 G2 F2 M2 => k v H2 Z2 c2 ca2 E2 q2 G2 (F1.trans F2) fun x b hb => M2 x b ((F1 b).2.1 hb)⟩
  cases hx : x.1 with
  | true => rw [hx] at h2; exact fin a h2
  | false => rw [hx] at h2; exact fin b h2

/-! ### truth -/
theorem tru_of {Z : Addr → Prop} {H : Hp} {d : D} {v : V} {c : Cnt} {t : Bool} (q : Den K Z H d v c) (h : d.truthy = some t) : TruV K v H t := by
  have le : ∀ {α β : Type} {xs : List α} {ys : List β}, xs.length = ys.length → (!ys.isEmpty) = !xs.isEmpty := by
    intro α β xs ys h
    cases xs <;> cases ys <;> first | rfl | cases h
  cases d with
  | non => cases h; rw [q.1]; rfl
  | bl b => cases h; rw [q.1]; rfl
  | int i => cases h; rw [q.1]; rfl
  | str s =>
    have h : (if s.length ≤ sizeLine then some (s.length != 0) else none) = some t := h
    split at h
    · rename_i hs
      cases h
      rw [q.1]
      refine ⟨hs, ?_⟩
      cases hl : s.length with
      | zero => rfl
      | succ n => simp; omega
    · cases h
  | tup ds =>
    cases h
    obtain ⟨a, vs, rfl, s, q⟩ := q
    exact .inr (.inl ⟨vs, s, le q.length⟩)
  | lst o ds =>
    cases h
    obtain ⟨a, vs, c', rfl, s, q⟩ := q.lstI
    exact .inl ⟨vs, SqL.of s, le q.length⟩
  | dK o ks ds =>
    cases h
    obtain ⟨a, kvs, c', rfl, s, ek, q⟩ := q.dKI
    exact .inr (.inr ⟨kvs, s, le (by rw [← ek.1, List.length_map])⟩)
  | _ => cases h
theorem in_not {e : E} {σ : L2.St} {H : Hp} {Q : VK} (h : tE K P (.not e) σ H Q) : tNotT K (tE K P e) σ H Q := by
  obtain ⟨m, Z, c, env, r, env', E, G, ev, k⟩ := h
  obtain ⟨x, h1, h2⟩ := bind_some (show ((evA P m e env).bind fun x => (x.1.get x.2).bind fun d => (d.truthy).map fun t => (A.tmp (.bl (!t)), x.2)) = some (r, env') from ev)
  obtain ⟨d, h3, h4⟩ := bind_some h2
  obtain ⟨t, h5, h6⟩ := map_some h4
  injection h6 with hr he
  subst hr he
  refine ⟨m, Z, c, env, x.1, x.2, E, G, h1, fun v H1 Z1 c1 ca1 E1 q1 G1 F1 M1 => ?_⟩
  obtain ⟨cd, qd, _⟩ := q1.look E1 h3
  exact ⟨t, tru_of qd h5, k _ H1 Z1 c1 zc E1 ⟨rfl, rfl⟩ (G1.le fun a => by simp only [add, zc]; omega) (F1.lessR fun a => by simp only [add, zc]; omega) fun _ _ _ => rfl⟩
theorem in_val {e : E} {σ : L2.St} {H : Hp} {Q : Bool → Hp → Prop} (h : tT K P (.val e) σ H Q) : tE K P e σ H (fun x H1 => ∃ k, TruV K x H1 k ∧ Q k H1) := by
  obtain ⟨m, Z, c, env, r, env', E, G, ev, k⟩ := h
  obtain ⟨x, h1, h2⟩ := bind_some (show ((evA P m e env).bind fun x => (x.1.get x.2).bind fun d => (d.truthy).map fun t => (t, x.2)) = some (r, env') from ev)
  obtain ⟨d, h3, h4⟩ := bind_some h2
  obtain ⟨t, h5, h6⟩ := map_some h4
  injection h6 with hr he
  subst hr he
  refine ⟨m, Z, c, env, x.1, x.2, E, G, h1, fun v H1 Z1 c1 ca1 E1 q1 G1 F1 M1 => ?_⟩
  obtain ⟨cd, qd, _⟩ := q1.look E1 h3
  exact ⟨t, tru_of qd h5, k H1 Z1 c1 E1 (G1.le fun a => by simp only [add]; omega) (F1.lessR fun a => by simp only [add]; omega)⟩
theorem in_tnot {e : T} {σ : L2.St} {H : Hp} {Q : Bool → Hp → Prop} (h : tT K P (.not e) σ H Q) : tNot (tT K P e) σ H Q := by
  obtain ⟨m, Z, c, env, r, env', E, G, ev, k⟩ := h
  obtain ⟨x, h1, h2⟩ := map_some (show ((evT P m e env).map fun x => (!x.1, x.2)) = some (r, env') from ev)
  injection h2 with hr he
  subst hr he
  exact ⟨m, Z, c, env, x.1, x.2, E, G, h1, k⟩
theorem in_tite {t a b : T} {σ : L2.St} {H : Hp} {Q : Bool → Hp → Prop} (h : tT K P (.ite t a b) σ H Q) : tT K P t σ H (fun k H1 => if k = true then tT K P a σ H1 Q else tT K P b σ H1 Q) := by
  obtain ⟨m, Z, c, env, r, env', E, G, ev, k⟩ := h
  obtain ⟨x, h1, h2⟩ := bind_some (show ((evT P m t env).bind fun x => if x.1 then evT P m a x.2 else evT P m b x.2) = some (r, env') from ev)
  refine ⟨m, Z, c, env, x.1, x.2, E, G, h1, fun H1 Z1 c1 E1 G1 F1 => ?_⟩
  have fin : ∀ e, evT P m e x.2 = some (r, env') → tT K P e σ H1 Q := fun e he => ⟨m, Z1, c1, x.2, r, env', E1, G1, he, fun H2 Z2 c2 E2 G2 F2 => k H2 Z2 c2 E2 G2 (F1.trans F2)⟩
  cases hx : x.1 with
  | true => rw [hx] at h2; exact fin a h2
  | false => rw [hx] at h2; exact fin b h2
theorem in_tand {t : T} {ts : List T} {σ : L2.St} {H : Hp} {Q : Bool → Hp → Prop} (h : tT K P (.and (t :: ts)) σ H Q) : tT K P t σ H (fun k H1 => if k = true then tT K P (.and ts) σ H1 Q else Q false H1) := by
  obtain ⟨m, Z, c, env, r, env', E, G, ev, k⟩ := h
  obtain ⟨x, h1, h2⟩ := bind_some (show ((evT P m t env).bind fun x => if x.1 then evTand P m ts x.2 else some (false, x.2)) = some (r, env') from ev)
  refine ⟨m, Z, c, env, x.1, x.2, E, G, h1, fun H1 Z1 c1 E1 G1 F1 => ?_⟩
  cases hx : x.1 with
  | true =>
    rw [hx] at h2
    exact ⟨m, Z1, c1, x.2, r, env', E1, G1, h2, fun H2 Z2 c2 E2 G2 F2 => k H2 Z2 c2 E2 G2 (F1.trans F2)⟩
  | false =>
    rw [hx] at h2
    have h2 : some (false, x.2) = some (r, env') := h2
    injection h2 with h2
    injection h2 with hr he
    subst hr he
    exact k H1 Z1 c1 E1 G1 F1
theorem in_tor {t : T} {ts : List T} {σ : L2.St} {H : Hp} {Q : Bool → Hp → Prop} (h : tT K P (.or (t :: ts)) σ H Q) : tT K P t σ H (fun k H1 => if k = true then Q true H1 else tT K P (.or ts) σ H1 Q) := by
  obtain ⟨m, Z, c, env, r, env', E, G, ev, k⟩ := h
  obtain ⟨x, h1, h2⟩ := bind_some (show ((evT P m t env).bind fun x => if x.1 then some (true, x.2) else evTor P m ts x.2) = some (r, env') from ev)
  refine ⟨m, Z, c, env, x.1, x.2, E, G, h1, fun H1 Z1 c1 E1 G1 F1 => ?_⟩
  cases hx : x.1 with
  | true =>
    rw [hx] at h2
    have h2 : some (true, x.2) = some (r, env') := h2
    injection h2 with h2
    injection h2 with hr he
    subst hr he
    exact k H1 Z1 c1 E1 G1 F1
  | false =>
    rw [hx] at h2
    exact ⟨m, Z1, c1, x.2, r, env', E1, G1, h2, fun H2 Z2 c2 E2 G2 F2 => k H2 Z2 c2 E2 G2 (F1.trans F2)⟩
/-- the last of and, or: the test itself -/
theorem in_tand1 {t : T} {σ : L2.St} {H : Hp} {Q : Bool → Hp → Prop} (h : tT K P (.and [t]) σ H Q) : tT K P t σ H Q := by
  obtain ⟨m, Z, c, env, r, env', E, G, ev, k⟩ := h
  obtain ⟨x, h1, h2⟩ := bind_some (show ((evT P m t env).bind fun x => if x.1 then some (true, x.2) else some (false, x.2)) = some (r, env') from ev)
  refine ⟨m, Z, c, env, x.1, x.2, E, G, h1, ?_⟩
  have e : some (x.1, x.2) = some (r, env') := by
    cases hx : x.1 with
    | true => rw [hx] at h2; exact h2
    | false => rw [hx] at h2; exact h2
  injection e with e
  injection e with hr he
  subst hr he
  exact k
theorem in_tor1 {t : T} {σ : L2.St} {H : Hp} {Q : Bool → Hp → Prop} (h : tT K P (.or [t]) σ H Q) : tT K P t σ H Q := by
  obtain ⟨m, Z, c, env, r, env', E, G, ev, k⟩ := h
  obtain ⟨x, h1, h2⟩ := bind_some (show ((evT P m t env).bind fun x => if x.1 then some (true, x.2) else some (false, x.2)) = some (r, env') from ev)
  refine ⟨m, Z, c, env, x.1, x.2, E, G, h1, ?_⟩
  have e : some (x.1, x.2) = some (r, env') := by
    cases hx : x.1 with
    | true => rw [hx] at h2; exact h2
    | false => rw [hx] at h2; exact h2
  injection e with e
  injection e with hr he
  subst hr he
  exact k
/-- and, or as values -/
theorem in_and {e f : E} {es : List E} {σ : L2.St} {H : Hp} {Q : VK} (h : tE K P (.and (e :: f :: es)) σ H Q) : tE K P e σ H (fun x H1 => ∃ c, x = .bl c ∧ if c = true then tE K P (.and (f :: es)) σ H1 Q else Q (.bl false) H1) := by
  obtain ⟨m, Z, c, env, r, env', E, G, ev, k⟩ := h
  obtain ⟨x, h1, h2⟩ := bind_some (show ((evA P m e env).bind fun x => (x.1.bl?).bind fun t => if t then evAnd P m (f :: es) x.2 else some (.tmp (.bl false), x.2)) = some (r, env') from ev)
  obtain ⟨t, h3, h4⟩ := bind_some h2
  refine ⟨m, Z, c, env, x.1, x.2, E, G, h1, fun v H1 Z1 c1 ca1 E1 q1 G1 F1 M1 => ?_⟩
  rw [A.of_bl h3] at q1
  have q1 : v = .bl t ∧ ca1 = zc := q1
  obtain ⟨rfl, rfl⟩ := q1
  rw [add_zc] at G1 F1
  refine ⟨t, rfl, ?_⟩
  cases t with
  | true =>
    rw [if_pos rfl]
    exact ⟨m, Z1, c1, x.2, r, env', E1, G1, h4, fun v H2 Z2 c2 ca2 E2 q2 G2 F2 M2 => k v H2 Z2 c2 ca2 E2 q2 G2 (F1.trans F2) fun x b hb => M2 x b ((F1 b).2.1 hb)⟩
  | false =>
    have h4 : some (A.tmp (.bl false), x.2) = some (r, env') := h4
    injection h4 with h4
    injection h4 with hr he
    subst hr he
    rw [if_neg (by decide)]
    exact k _ H1 Z1 c1 zc E1 ⟨rfl, rfl⟩ (by rw [add_zc]; exact G1) (by rw [add_zc]; exact F1) fun _ _ _ => rfl
theorem in_or {e f : E} {es : List E} {σ : L2.St} {H : Hp} {Q : VK} (h : tE K P (.or (e :: f :: es)) σ H Q) : tE K P e σ H (fun x H1 => ∃ c, x = .bl c ∧ if c = true then Q (.bl true) H1 else tE K P (.or (f :: es)) σ H1 Q) := by
  obtain ⟨m, Z, c, env, r, env', E, G, ev, k⟩ := h
  obtain ⟨x, h1, h2⟩ := bind_some (show ((evA P m e env).bind fun x => (x.1.bl?).bind fun t => if t then some (.tmp (.bl true), x.2) else evOr P m (f :: es) x.2) = some (r, env') from ev)
  obtain ⟨t, h3, h4⟩ := bind_some h2
  refine ⟨m, Z, c, env, x.1, x.2, E, G, h1, fun v H1 Z1 c1 ca1 E1 q1 G1 F1 M1 => ?_⟩
  rw [A.of_bl h3] at q1
  have q1 : v = .bl t ∧ ca1 = zc := q1
  obtain ⟨rfl, rfl⟩ := q1
  rw [add_zc] at G1 F1
  refine ⟨t, rfl, ?_⟩
  cases t with
  | false =>
    rw [if_neg (by decide)]
    exact ⟨m, Z1, c1, x.2, r, env', E1, G1, h4, fun v H2 Z2 c2 ca2 E2 q2 G2 F2 M2 => k v H2 Z2 c2 ca2 E2 q2 G2 (F1.trans F2) fun x b hb => M2 x b ((F1 b).2.1 hb)⟩
  | true =>
    have h4 : some (A.tmp (.bl true), x.2) = some (r, env') := h4
    injection h4 with h4
    injection h4 with hr he
    subst hr he
    rw [if_pos rfl]
    exact k _ H1 Z1 c1 zc E1 ⟨rfl, rfl⟩ (by rw [add_zc]; exact G1) (by rw [add_zc]; exact F1) fun _ _ _ => rfl
theorem in_and1 {e : E} {σ : L2.St} {H : Hp} {Q : VK} (h : tE K P (.and [e]) σ H Q) : tE K P e σ H Q := h
theorem in_or1 {e : E} {σ : L2.St} {H : Hp} {Q : VK} (h : tE K P (.or [e]) σ H Q) : tE K P e σ H Q := h

/-! ### a op b op' c -/
theorem Fr_of_keep {m : Bool} {Z : Addr → Prop} {H H' : Hp} {c ca : Cnt} (keep : ∀ a u, H a = some u → H' a = some u) (fresh : ∀ a, H a ≠ none → ca a = 0) : Fr m Z H c Z H' (add c ca) := fun a => by
  refine ⟨fun z => z, fun n => ?_, fun n _ => ?_, fun n x => ⟨by have := fresh a n; simp only [add] at *; omega, fun z => z⟩⟩
  · obtain ⟨o, ho⟩ := Option.ne_none_iff_exists'.mp n
    rw [keep a o ho]; simp
  · obtain ⟨o, ho⟩ := Option.ne_none_iff_exists'.mp n
    rw [keep a o ho, ho]
theorem in_cmp2 {o1 o2 : CmpOp} {a b e : E} {σ : L2.St} {H : Hp} {Q : VK} (h : tE K P (.cmp2 o1 o2 a b e) σ H Q) : tChain (rCmp K o1) (rCmp K o2) (tE K P a) (tE K P b) (tE K P e) σ H Q := by
  obtain ⟨m, Z, c, env, r, env', E, G, ev, k⟩ := h
  obtain ⟨x, h1, h2⟩ := bind_some (show ((evA P m a env).bind fun x => (evA P (m || x.1.isPk) b x.2).bind fun y => (x.1.tmp?).bind fun dx => (y.1.tmp?).bind fun dy =>
      ((cmpD o1 dx dy).bind D.bl?).bind fun t => if t then (evA P m e y.2).bind fun z => (z.1.tmp?).bind fun dz => (cmpD o2 dy dz).map fun d => (A.tmp d, z.2) else some (.tmp (.bl false), y.2)) = some (r, env') from ev)
  obtain ⟨y, h3, h4⟩ := bind_some h2
  obtain ⟨dx, hx, h4⟩ := bind_some h4
  obtain ⟨dy, hy, h4⟩ := bind_some h4
  obtain ⟨t, ht, h6⟩ := bind_some h4
  obtain ⟨rr, h5, hb⟩ := bind_some ht
  have hb := D.of_bl hb
  subst hb
  have hx := A.of_tmp hx
  have hy := A.of_tmp hy
  obtain ⟨ax, env1⟩ := x
  obtain ⟨ay, env2⟩ := y
  simp only at hx hy
  subst hx hy
  refine ⟨m, Z, c, env, _, env1, E, G, h1, fun v H1 Z1 c1 ca1 E1 q1 G1 F1 M1 => ?_⟩
  refine ⟨m || false, Z1, c1, env1, _, env2, E1, G1.le (fun a => by simp only [add]; omega), h3, fun u H2 Z2 c2 ca2 E2 q2 G2 F2 M2 => ?_⟩
  obtain ⟨q1', G', F'⟩ := frame_step G1 q1 F2 G2 (fun d h => by cases h)
  have F3 := F1.trans (F'.low (by intro x; simp [x]))
  have ee : add (add c2 ca2) ca1 = add c2 (add ca2 ca1) := by funext a; simp only [add]; omega
  rw [ee] at G' F3
  refine ok_cmp o1 Z2 H2 (add c2 (add ca2 ca1)) [dx, dy] [v, u] (.bl t) _ ⟨v, [u], _, rfl, q1', u, [], _, rfl, q2, rfl⟩ G' h5 fun z H3 ca3 q3 G3 keep fresh => ?_
  have q3 : z = .bl t ∧ ca3 = zc := q3
  obtain ⟨rfl, rfl⟩ := q3
  have E3 : ED K Z2 H3 env2 σ c2 := ED.loc (fun _ z => z) (fun a o h _ => keep a o h) E2
  have F4 := F3.trans (Fr_of_keep keep fresh)
  rw [add_zc] at G3 F4
  refine ⟨t, rfl, ?_⟩
  cases t with
  | true =>
    rw [if_pos rfl]
    obtain ⟨z3, h7, h8⟩ := bind_some (show ((evA P m e env2).bind fun z => (z.1.tmp?).bind fun dz => (cmpD o2 dy dz).map fun d => (A.tmp d, z.2)) = some (r, env') from h6)
    obtain ⟨dz, hz, h8⟩ := bind_some h8
    obtain ⟨dd, h9, h10⟩ := map_some h8
    injection h10 with hr he
    subst hr he
    have hz := A.of_tmp hz
    refine ⟨m, Z2, c2, env2, z3.1, z3.2, E3, G3.le (fun a => by simp only [add]; omega), h7, fun w H4 Z4 c4 ca4 E4 q4 G4 F5 M4 => ?_⟩
    rw [hz] at q4
    have q2b : AD K Z2 H3 σ (.tmp dy) u ca2 := Den.loc (fun _ z => z) (fun a o h _ => keep a o h) q2
    obtain ⟨q2', G5, F6⟩ := frame_step (σ := σ) (ca1 := ca2) (G3.le fun a => by simp only [add]; omega) q2b F5 G4 (fun d h => by cases h)
    refine ok_cmp o2 Z4 H4 (add (add c4 ca4) ca2) [dy, dz] [u, w] dd Q ⟨u, [w], _, rfl, q2', w, [], _, rfl, q4, rfl⟩ G5 h9 fun z5 H5 ca5 q5 G6 keep5 fresh5 => ?_
    have F8 := ((F4.lessR (e := add c2 ca2) fun a => by simp only [add]; omega).trans F6).trans (Fr_of_keep keep5 fresh5)
    refine k z5 H5 Z4 c4 ca5 (ED.loc (fun _ z => z) (fun a o h _ => keep5 a o h) E4) q5 (G6.le fun a => by simp only [add]; omega) (F8.lessR fun a => by simp only [add]; omega) fun x b hb => fresh5 b ((F6 b).2.1 ((F4 b).2.1 hb))
  | false =>
    have h6 : some (A.tmp (.bl false), env2) = some (r, env') := h6
    injection h6 with h6
    injection h6 with hr he
    subst hr he
    rw [if_neg (by decide)]
    exact k _ H3 Z2 c2 zc E3 ⟨rfl, rfl⟩ (G3.le fun a => by simp only [add, zc]; omega) (F4.lessR fun a => by simp only [add, zc]; omega) fun _ _ _ => rfl

/-! ### a op b op' c op'' d, all numbers -/
def tChain3 (r r' r'' : R2) (ta tb tc td : TE) : TE := fun σ H Q => ta σ H fun x H1 => tb σ H1 fun y H2 => r x y H2 fun z H3 => ∃ k, z = .bl k ∧
  (if k = true then tc σ H3 fun w H4 => r' y w H4 fun z2 H5 => ∃ k2, z2 = .bl k2 ∧ (if k2 = true then td σ H5 fun u H6 => r'' w u H6 Q else Q (.bl false) H5) else Q (.bl false) H3)
theorem in_int {m : Bool} {Z : Addr → Prop} {c : Cnt} {env : EnvD} {e : E} {x : A × EnvD} {i : Int} {σ : L2.St} {H : Hp} {Q : VK} (E : ED K Z H env σ c) (G : Gd Z H c) (h : evA P m e env = some x) (hi : x.1.int? = some i)
    (k : ∀ H' Z' c', ED K Z' H' x.2 σ c' → Gd Z' H' c' → Fr m Z H c Z' H' c' → Q (.int i) H') : tE K P e σ H Q := by
  refine ⟨m, Z, c, env, x.1, x.2, E, G, h, fun v H1 Z1 c1 ca1 E1 q1 G1 F1 M1 => ?_⟩
  rw [A.of_int hi] at q1
  have q1 : v = .int i ∧ ca1 = zc := q1
  obtain ⟨rfl, rfl⟩ := q1
  rw [add_zc] at G1 F1
  exact k H1 Z1 c1 E1 G1 F1
theorem cmp_i {m : Bool} {o : CmpOp} {Z : Addr → Prop} {H : Hp} {c : Cnt} {i j : Int} {t : Bool} (G : Gd Z H c) (h : cmpI o i j = some t) {Q : VK} (k : ∀ H', (∀ a u, H a = some u → H' a = some u) → Gd Z H' c → Fr m Z H c Z H' c → Q (.bl t) H') : rCmp K o (.int i) (.int j) H Q := by
  obtain ⟨d, h1, h2⟩ := bind_some (show (cmpD o (.int i) (.int j)).bind D.bl? = some t from h)
  have h2 := D.of_bl h2
  subst h2
  refine ok_cmp o Z H c [.int i, .int j] [.int i, .int j] (.bl t) Q ⟨.int i, [.int j], _, rfl, ⟨rfl, rfl⟩, .int j, [], _, rfl, ⟨rfl, rfl⟩, rfl⟩ G h1 fun z H3 ca3 q3 G3 keep fresh => ?_
  have q3 : z = .bl t ∧ ca3 = zc := q3
  obtain ⟨rfl, rfl⟩ := q3
  have F := Fr_of_keep (m := m) (Z := Z) (c := c) keep fresh
  rw [add_zc] at G3 F
  exact k H3 keep G3 F
theorem in_cmp3 {o1 o2 o3 : CmpOp} {a b e f : E} {σ : L2.St} {H : Hp} {Q : VK} (h : tE K P (.cmp3 o1 o2 o3 a b e f) σ H Q) : tChain3 (rCmp K o1) (rCmp K o2) (rCmp K o3) (tE K P a) (tE K P b) (tE K P e) (tE K P f) σ H Q := by
  obtain ⟨m, Z, c, env, r, env', E, G, ev, k⟩ := h
  obtain ⟨x, h1, ev⟩ := bind_some (show ((evA P m a env).bind fun x => (x.1.int?).bind fun i => (evA P m b x.2).bind fun y => (y.1.int?).bind fun j => (cmpI o1 i j).bind fun t1 => if t1 then
      (evA P m e y.2).bind fun z => (z.1.int?).bind fun k => (cmpI o2 j k).bind fun t2 => if t2 then (evA P m f z.2).bind fun w => (w.1.int?).bind fun l => (cmpI o3 k l).map fun t3 => (A.tmp (.bl t3), w.2) else some (.tmp (.bl false), z.2) else some (.tmp (.bl false), y.2)) = some (r, env') from ev)
  obtain ⟨i, hi, ev⟩ := bind_some ev
  obtain ⟨y, h2, ev⟩ := bind_some ev
  obtain ⟨j, hj, ev⟩ := bind_some ev
  obtain ⟨t1, ht1, ev⟩ := bind_some ev
  refine in_int E G h1 hi fun H1 Z1 c1 E1 G1 F1 => ?_
  refine in_int E1 G1 h2 hj fun H2 Z2 c2 E2 G2 F2 => ?_
  refine cmp_i (m := m) G2 ht1 fun H3 keep3 G3 F3 => ?_
  have E3 := ED.loc (fun _ z => z) (fun a o h _ => keep3 a o h) E2
  have F := (F1.trans F2).trans F3
  refine ⟨t1, rfl, ?_⟩
  cases t1 with
  | false =>
    rw [if_neg (by decide)] at ev ⊢
    injection ev with ev
    injection ev with hr he
    subst hr he
    exact k _ H3 Z2 c2 zc E3 ⟨rfl, rfl⟩ (by rw [add_zc]; exact G3) (by rw [add_zc]; exact F) fun _ _ _ => rfl
  | true =>
    rw [if_pos rfl] at ev ⊢
    obtain ⟨z, h3, ev⟩ := bind_some ev
    obtain ⟨kk, hk, ev⟩ := bind_some ev
    obtain ⟨t2, ht2, ev⟩ := bind_some ev
    refine in_int E3 G3 h3 hk fun H4 Z4 c4 E4 G4 F4 => ?_
    refine cmp_i (m := m) G4 ht2 fun H5 keep5 G5 F5 => ?_
    have E5 := ED.loc (fun _ z => z) (fun a o h _ => keep5 a o h) E4
    have F' := (F.trans F4).trans F5
    refine ⟨t2, rfl, ?_⟩
    cases t2 with
    | false =>
      rw [if_neg (by decide)] at ev ⊢
      injection ev with ev
      injection ev with hr he
      subst hr he
      exact k _ H5 Z4 c4 zc E5 ⟨rfl, rfl⟩ (by rw [add_zc]; exact G5) (by rw [add_zc]; exact F') fun _ _ _ => rfl
    | true =>
      rw [if_pos rfl] at ev ⊢
      obtain ⟨w, h4, ev⟩ := bind_some ev
      obtain ⟨l, hl, ev⟩ := bind_some ev
      obtain ⟨t3, ht3, ev⟩ := map_some ev
      injection ev with hr he
      subst hr he
      refine in_int E5 G5 h4 hl fun H6 Z6 c6 E6 G6 F6 => ?_
      refine cmp_i (m := m) G6 ht3 fun H7 keep7 G7 F7 => ?_
      have E7 := ED.loc (fun _ z => z) (fun a o h _ => keep7 a o h) E6
      have F'' := (F'.trans F6).trans F7
      exact k _ H7 Z6 c6 zc E7 ⟨rfl, rfl⟩ (by rw [add_zc]; exact G7) (by rw [add_zc]; exact F'') fun _ _ _ => rfl

/-! ### slices -/
def rSli (K : PySem.W.Frag) : V → Option Int → Option Int → Hp → VK → Prop := fun x lo hi H Q => rSlL K x lo hi H Q ∨ rSlA K x lo hi H Q
theorem sl_both {X : Cx} : SlR X (rSli X.K) := sl_list.or sl_tupA
def tI (K : PySem.W.Frag) (P : Ctx) : List E → TO
  | [] => tNoPart
  | [e] => tPart (tE K P e)
  | _ => fun _ _ _ => False
theorem in_I {m : Bool} {Z : Addr → Prop} {c : Cnt} {env env' : EnvD} {es : List E} {o : Option Int} {σ : L2.St} {H : Hp} {Q : Option Int → Hp → Prop} (E : ED K Z H env σ c) (G : Gd Z H c) (ev : evI P m es env = some (o, env'))
    (k : ∀ H' Z' c', ED K Z' H' env' σ c' → Gd Z' H' c' → Fr m Z H c Z' H' c' → Q o H') : tI K P es σ H Q := by
  rcases es with _ | ⟨e, _ | ⟨f, r⟩⟩
  · cases ev
    exact k H Z c E G Fr.refl
  · obtain ⟨x, h1, h2⟩ := bind_some (show ((evA P m e env).bind fun x => (x.1.int?).map fun i => (some i, x.2)) = some (o, env') from ev)
    obtain ⟨i, h3, h4⟩ := map_some h2
    injection h4 with hr he
    subst hr he
    refine ⟨m, Z, c, env, x.1, x.2, E, G, h1, fun v H1 Z1 c1 ca1 E1 q1 G1 F1 M1 => ?_⟩
    rw [A.of_int h3] at q1
    have q1 : v = .int i ∧ ca1 = zc := q1
    obtain ⟨rfl, rfl⟩ := q1
    rw [add_zc] at G1 F1
    exact ⟨i, rfl, k H1 Z1 c1 E1 G1 F1⟩
  · cases ev
theorem cut_map {Z : Addr → Prop} {H : Hp} {ds : List D} {vs : List V} (p : D.plains ds = true) {c : Cnt} (q : Dens K Z H ds vs c) (lo hi : Option Int) : Dens K Z H (cutD ds lo hi) (cutV vs lo hi) zc := by
  have q := Dens.pl' p q
  have dr : ∀ {ds : List D} {vs : List V} (n : Nat), Dens K Z H ds vs zc → Dens K Z H (ds.drop n) (vs.drop n) zc := by
    intro ds
    induction ds with
    | nil => intro vs n q; obtain ⟨rfl, _⟩ := q; rw [List.drop_nil, List.drop_nil]; exact ⟨rfl, rfl⟩
    | cons d ds ih =>
      intro vs n q
      cases n with
      | zero => exact q
      | succ n =>
        obtain ⟨v, r, c1, c2, rfl, q1, q2, e⟩ := q
        have e2 : c2 = zc := by funext a; have := congrFun e a; simp only [add, zc] at this; simp only [zc]; omega
        subst e2
        exact ih n q2
  have tk : ∀ {ds : List D} {vs : List V} (n : Nat), Dens K Z H ds vs zc → Dens K Z H (ds.take n) (vs.take n) zc := by
    intro ds
    induction ds with
    | nil => intro vs n q; obtain ⟨rfl, _⟩ := q; rw [List.take_nil, List.take_nil]; exact ⟨rfl, rfl⟩
    | cons d ds ih =>
      intro vs n q
      cases n with
      | zero => exact ⟨rfl, rfl⟩
      | succ n =>
        obtain ⟨v, r, c1, c2, rfl, q1, q2, e⟩ := q
        have e2 : c2 = zc := by funext a; have := congrFun e a; simp only [add, zc] at this; simp only [zc]; omega
        subst e2
        exact ⟨v, _, c1, zc, rfl, q1, ih n q2, e⟩
  unfold cutD cutV
  rw [q.length]
  exact tk _ (dr _ q)
theorem cutD_whole {ds : List D} {lo hi : Option Int} (h : HT.sIx ds.length 0 lo = 0 ∧ HT.sIx ds.length ds.length hi = ds.length) : cutD ds lo hi = ds := by
  unfold cutD
  rw [h.1, h.2, List.drop_zero, Nat.sub_zero, List.take_length]
theorem in_sli {a : E} {lo hi : List E} {σ : L2.St} {H : Hp} {Q : VK} (h : tE K P (.sli a lo hi) σ H Q) : tSl (rSli K) (tE K P a) (tI K P lo) (tI K P hi) σ H Q := by
  obtain ⟨m, Z, c, env, r, env', E, G, ev, k⟩ := h
  obtain ⟨x, h1, h2⟩ := bind_some (show ((evA P m a env).bind fun x => (evI P (m || x.1.isPk) lo x.2).bind fun l => (evI P (m || x.1.isPk) hi l.2).bind fun h =>
      (x.1.get h.2).bind fun d => (cutO d l.1 h.1).map fun r => (A.tmp r, h.2)) = some (r, env') from ev)
  obtain ⟨l, h3, h4⟩ := bind_some h2
  obtain ⟨hh, h5, h6⟩ := bind_some h4
  obtain ⟨d, h7, h8⟩ := bind_some h6
  obtain ⟨rr, h9, h10⟩ := map_some h8
  injection h10 with hr he
  subst hr he
  refine ⟨m, Z, c, env, x.1, x.2, E, G, h1, fun v H1 Z1 c1 ca1 E1 q1 G1 F1 M1 => ?_⟩
  refine in_I E1 (G1.le fun a => by simp only [add]; omega) h3 fun H2 Z2 c2 E2 G2 F2 => ?_
  obtain ⟨q2, G2', F2'⟩ := frame_step G1 q1 F2 G2 isPk_of
  refine in_I E2 G2 h5 fun H3 Z3 c3 E3 G3 F3 => ?_
  obtain ⟨q3, G3', F3'⟩ := frame_step G2' q2 F3 G3 isPk_of
  obtain ⟨cd, qd, _⟩ := q3.look E3 h7
  have F := (F1.trans (F2'.low (m := m) (by intro x; simp [x]))).trans (F3'.low (m := m) (by intro x; simp [x]))
  have G4 : Gd Z3 H3 c3 := G3
  have F4 : Fr m Z H c Z3 H3 c3 := F.lessR fun a => by simp only [add]; omega
  have K1 : OpK K Z3 H3 c3 rr Q := fun w H5 ca5 q5 G5 keep fresh => by
    have F5 : Fr m Z3 H3 c3 Z3 H5 (add c3 ca5) := Fr_of_keep keep fresh
    exact k w H5 Z3 c3 ca5 (ED.loc (fun _ z => z) (fun a o h _ => keep a o h) E3) q5 G5 (F4.trans F5) fun x b hb => fresh b ((F4 b).2.1 hb)
  cases d with
  | tup ds =>
    have h9 : (if D.plains ds then some (D.tup (cutD ds l.1 hh.1)) else none) = some rr := h9
    obtain ⟨p, e⟩ := if_some h9
    cases e
    obtain ⟨b, vs, rfl, s, q⟩ := qd
    have cm := cut_map p q l.1 hh.1
    refine .inr ⟨b, vs, rfl, s, fun hw => ?_, fun _ => k_tup K1 G4 cm⟩
    rw [q.length] at hw
    have e := cutD_whole hw
    exact k_plain K1 G4 ⟨b, vs, rfl, s, by rw [e]; exact Dens.pl' p q⟩
  | lst o ds =>
    have h9 : (if D.plains ds then some (D.lst true (cutD ds l.1 hh.1)) else none) = some rr := h9
    obtain ⟨p, e⟩ := if_some h9
    cases e
    obtain ⟨b, vs, c', rfl, s, q⟩ := qd.lstI
    exact .inl ⟨b, vs, rfl, SqL.of s, k_lst K1 G4 (cut_map p q l.1 hh.1)⟩
  | _ => cases h9
end
end DL
end

section
/-! DL10: dict displays, calls. -/
namespace DL
open PySem PySem.Spec L2
open PyProof.Rows hiding St

/-! ### tables -/
section
variable {κ : Type} [DecidableEq κ]
theorem find_none (k : κ) : ∀ (ks : List κ) (n : Nat), find k ks n = none → k ∉ ks
  | [], _, _ => by simp
  | x :: r, n, h => by
    unfold find at h
    split at h
    · cases h
    · rename_i hx
      have := find_none k r (n + 1) h
      simp only [List.mem_cons, not_or]
      exact ⟨fun e => hx e.symm, this⟩
theorem find_at (k : κ) : ∀ (ks : List κ) (n j : Nat), find k ks n = some j → n ≤ j ∧ ks[j - n]? = some k
  | [], _, _, h => by cases h
  | x :: r, n, j, h => by
    unfold find at h
    split at h
    · rename_i hx
      cases h
      exact ⟨Nat.le_refl _, by simp [hx]⟩
    · obtain ⟨h1, h2⟩ := find_at k r (n + 1) j h
      refine ⟨by omega, ?_⟩
      rw [show j - n = (j - (n + 1)) + 1 by omega, List.getElem?_cons_succ]
      exact h2
theorem any_mem (kvs : List (κ × V)) (k : κ) : (kvs.any fun kv => decide (kv.1 = k)) = decide (k ∈ kvs.map (·.1)) := by
  induction kvs with
  | nil => rfl
  | cons p r ih =>
    rw [List.any_cons, ih, List.map_cons]
    by_cases h : p.1 = k
    · rw [decide_eq_true h]; simp [h]
    · rw [decide_eq_false h, Bool.false_or]
      have e : k ∈ p.1 :: r.map (·.1) ↔ k ∈ r.map (·.1) := by
        simp only [List.mem_cons]
        exact ⟨fun x => x.resolve_left fun z => h z.symm, .inr⟩
      rw [Bool.eq_iff_iff]
      simp only [decide_eq_true_eq]
      exact e.symm
theorem map_set (k : κ) (v : V) : ∀ (kvs : List (κ × V)) (j : Nat), (kvs.map (·.1)).Nodup → (kvs.map (·.1))[j]? = some k →
    (kvs.map (fun kv => if kv.1 = k then (kv.1, v) else kv)).map (·.1) = kvs.map (·.1) ∧ (kvs.map (fun kv => if kv.1 = k then (kv.1, v) else kv)).map (·.2) = (kvs.map (·.2)).set j v
  | [], _, _, h => by simp at h
  | (a, b) :: r, 0, nd, h => by
    rw [List.map_cons, List.nodup_cons] at nd
    have h : a = k := by simpa using h
    subst h
    have e : r.map (fun kv => if kv.1 = a then (kv.1, v) else kv) = r := by
      rw [List.map_congr_left (g := id), List.map_id]
      intro kv hkv
      rw [if_neg]
      · rfl
      · intro e
        exact nd.1 (by rw [show (a, b).1 = kv.1 from e.symm]; exact List.mem_map_of_mem hkv)
    rw [List.map_cons, if_pos rfl, e]
    exact ⟨rfl, rfl⟩
  | (a, b) :: r, j + 1, nd, h => by
    rw [List.map_cons, List.nodup_cons] at nd
    have h : (r.map (·.1))[j]? = some k := by simpa using h
    have hne : a ≠ k := fun e => nd.1 (by rw [show (a, b).1 = k from e]; exact List.mem_of_getElem? h)
    obtain ⟨h1, h2⟩ := map_set k v r j nd.2 h
    rw [List.map_cons, if_neg (show ¬ (a, b).1 = k from hne)]
    refine ⟨?_, ?_⟩
    · rw [List.map_cons, List.map_cons, h1]
    · rw [List.map_cons, List.map_cons, h2]; rfl
theorem put_keys (kvs : List (κ × V)) (k : κ) (v : V) (nd : (kvs.map (·.1)).Nodup) : ((putK kvs k v).map (·.1)).Nodup ∧
    (putK kvs k v).map (·.1) = (match find k (kvs.map (·.1)) 0 with | some _ => kvs.map (·.1) | none => kvs.map (·.1) ++ [k]) ∧
    (putK kvs k v).map (·.2) = (match find k (kvs.map (·.1)) 0 with | some j => (kvs.map (·.2)).set j v | none => kvs.map (·.2) ++ [v]) := by
  unfold putK
  rw [any_mem]
  cases hf : find k (kvs.map (·.1)) 0 with
  | some j =>
    have h2 := (find_at k _ 0 j hf).2
    rw [Nat.sub_zero] at h2
    obtain ⟨e1, e2⟩ := map_set k v kvs j nd h2
    rw [if_pos (decide_eq_true (List.mem_of_getElem? h2)), e1, e2]
    exact ⟨nd, rfl, rfl⟩
  | none =>
    have h2 := find_none k _ 0 hf
    rw [if_neg (by simpa using h2)]
    rw [List.map_append, List.map_append]
    refine ⟨?_, rfl, rfl⟩
    rw [List.nodup_append]
    refine ⟨nd, by simp, ?_⟩
    intro a ha b hb
    simp only [List.map_cons, List.map_nil, List.mem_singleton] at hb
    subst hb
    rintro rfl
    exact h2 ha
end
section
variable {K : PySem.W.Frag} {Z : Addr → Prop} {H : Hp}
theorem Dens.setAt {ds : List D} {vs : List V} {c cv : Cnt} {j : Nat} {d : D} {v : V} (q : Dens K Z H ds vs c) (p : Den K Z H d v cv) (h : j < ds.length) : ∃ c', Dens K Z H (ds.set j d) (vs.set j v) c' ∧ ∀ a, c' a ≤ c a + cv a := by
  obtain ⟨w, c1, c2, e1, q1, rfl, f⟩ := q.at (List.getElem?_eq_getElem h)
  exact ⟨_, f (fun _ z => z) (fun _ _ h _ => h) p, fun a => by simp only [add]; omega⟩
theorem putD_den {kvs : List (Key × V)} {ks : List Key} {ds : List D} {k : Key} {d : D} {v : V} {c cv : Cnt} (nd : kvs.map (·.1) = ks ∧ ks.Nodup) (q : Dens K Z H ds (kvs.map (·.2)) c) (p : Den K Z H d v cv) :
    ((putK kvs k v).map (·.1) = (putD k d ks ds).1 ∧ (putD k d ks ds).1.Nodup) ∧ ∃ c', Dens K Z H (putD k d ks ds).2 ((putK kvs k v).map (·.2)) c' ∧ ∀ a, c' a ≤ c a + cv a := by
  obtain ⟨rfl, nd⟩ := nd
  obtain ⟨h1, h2, h3⟩ := put_keys kvs k v nd
  unfold putD
  rw [h2] at h1
  rw [h2, h3]
  cases hf : find k (kvs.map (·.1)) 0 with
  | some j =>
    rw [hf] at h1
    have hl := find_lt k _ _ _ hf
    rw [List.length_map] at hl
    have := q.length
    rw [List.length_map] at this
    exact ⟨⟨rfl, h1⟩, q.setAt p (by omega)⟩
  | none =>
    rw [hf] at h1
    refine ⟨⟨rfl, h1⟩, _, Dens.app q ⟨v, [], cv, zc, rfl, p, ⟨rfl, rfl⟩, (add_zc _).symm⟩, fun a => Nat.le_refl _⟩
theorem merge_den : ∀ (ps : List (Key × D)) (more : List (Key × V)) (kvs : List (Key × V)) (ks : List Key) (ds : List D) (c cv : Cnt), (kvs.map (·.1) = ks ∧ ks.Nodup) → Dens K Z H ds (kvs.map (·.2)) c →
    more.map (·.1) = ps.map (·.1) → Dens K Z H (ps.map (·.2)) (more.map (·.2)) cv →
    ((mergeK kvs more).map (·.1) = (ps.foldl (fun x p => putD p.1 p.2 x.1 x.2) (ks, ds)).1 ∧ (ps.foldl (fun x p => putD p.1 p.2 x.1 x.2) (ks, ds)).1.Nodup) ∧
      ∃ c', Dens K Z H (ps.foldl (fun x p => putD p.1 p.2 x.1 x.2) (ks, ds)).2 ((mergeK kvs more).map (·.2)) c' ∧ ∀ a, c' a ≤ c a + cv a
  | [], [], kvs, ks, ds, c, cv, nd, q, _, _ => ⟨nd, c, q, fun a => by omega⟩
  | [], _ :: _, _, _, _, _, _, _, _, h, _ => by cases h
  | _ :: _, [], _, _, _, _, _, _, _, h, _ => by cases h
  | (k, d) :: ps, (k', v) :: more, kvs, ks, ds, c, cv, nd, q, h, p => by
    rw [List.map_cons, List.map_cons] at h
    injection h with h1 h2
    have h1 : k' = k := h1
    subst h1
    obtain ⟨w, r, c1, c2, e, p1, p2, rfl⟩ := p
    rw [List.map_cons] at e
    injection e with e1 e2
    have e1 : v = w := e1
    subst e1 e2
    obtain ⟨nd', c', q', le⟩ := putD_den (k := k') nd q p1
    obtain ⟨nd'', c'', q'', le'⟩ := merge_den ps more (putK kvs k' v) (putD k' d ks ds).1 (putD k' d ks ds).2 c' c2 nd' q' h2 p2
    refine ⟨nd'', c'', q'', fun a => ?_⟩
    have := le a
    have := le' a
    simp only [add]; omega
end

/-! ### {k: v, ..} -/
def pairTs : List TE → List (TE × TE)
  | a :: b :: r => (a, b) :: pairTs r
  | _ => []
def pairVs : List V → List (V × V)
  | a :: b :: r => (a, b) :: pairVs r
  | _ => []
def even {α : Type} : List α → Bool
  | [] => true
  | [_] => false
  | _ :: _ :: r => even r
theorem tPairs_eq : ∀ (ts : List TE), even ts = true → ∀ (σ : L2.St) (H : Hp) (Q : List (V × V) → Hp → Prop), tPairs (pairTs ts) σ H Q = tL ts σ H (fun vs H1 => Q (pairVs vs) H1)
  | [], _, _, _, _ => rfl
  | [_], h, _, _, _ => by cases h
  | a :: b :: r, h, σ, H, Q => by
    show a σ H (fun x H1 => b σ H1 fun y H2 => tPairs (pairTs r) σ H2 fun ps H3 => Q ((x, y) :: ps) H3) = a σ H (fun x H1 => b σ H1 fun y H2 => tL r σ H2 fun vs H3 => Q (pairVs (x :: y :: vs)) H3)
    have ih := tPairs_eq r h
    congr 1
    funext x H1
    congr 1
    funext y H2
    exact ih σ H2 _
section
variable {K : PySem.W.Frag} {P : Ctx}
theorem pairs_den {Z : Addr → Prop} {H : Hp} : ∀ {xs : List D} {vs : List V} {c : Cnt} {ps : List (Key × D)}, Dens K Z H xs vs c → pairsD xs = some ps →
    ∃ kvs : List (Key × V), pairVs vs = kvs.map (fun kv => (kV kv.1, kv.2)) ∧ kvs.map (·.1) = ps.map (·.1) ∧ ∃ c', Dens K Z H (ps.map (·.2)) (kvs.map (·.2)) c' ∧ ∀ a, c' a ≤ c a
  | [], _, _, _, q, h => by
    cases h
    obtain ⟨rfl, rfl⟩ := q
    exact ⟨[], rfl, rfl, zc, ⟨rfl, rfl⟩, fun a => Nat.le_refl _⟩
  | [_], _, _, _, _, h => by cases h
  | k :: d :: r, _, _, ps, q, h => by
    obtain ⟨kk, h1, h2⟩ := bind_some (show ((D.key? k).bind fun k => (pairsD r).map fun ps => (k, d) :: ps) = some ps from h)
    obtain ⟨ps', h3, rfl⟩ := map_some h2
    obtain ⟨v, _, c1, c2, rfl, q1, ⟨w, rs, c3, c4, rfl, q2, q3, rfl⟩, rfl⟩ := q
    obtain ⟨kvs, e1, e2, c', q', le⟩ := pairs_den q3 h3
    refine ⟨(kk, w) :: kvs, ?_, by rw [List.map_cons, List.map_cons, e2], add c3 c', ⟨w, _, c3, c', rfl, q2, q', rfl⟩, fun a => by have := le a; simp only [add]; omega⟩
    show (v, w) :: pairVs rs = (kV kk, w) :: _
    rw [keyD q1 h1, e1]
theorem even_map {α β : Type} (f : α → β) : ∀ (es : List α), even (es.map f) = even es
  | [] => rfl
  | [_] => rfl
  | _ :: _ :: r => even_map f r
theorem in_dK {es : List E} (he : even es = true) {σ : L2.St} {H : Hp} {Q : VK} (h : tE K P (.dK es) σ H Q) : tDisp (pairTs (es.map (tE K P))) σ H Q := by
  obtain ⟨m, Z, c, env, r, env', E, G, ev, k⟩ := h
  obtain ⟨x, h1, h2⟩ := bind_some (show ((evMs P m es env).bind fun x => (dispD x.1).map fun d => (A.tmp d, x.2)) = some (r, env') from ev)
  obtain ⟨d, h3, h4⟩ := map_some h2
  injection h4 with hr he'
  subst hr he'
  obtain ⟨ps, h5, h6⟩ := bind_some h3
  have h6 : (if ps.length ≤ 15 then some (D.dK true (mergeD ps).1 (mergeD ps).2) else none) = some d := h6
  split at h6
  · rename_i h15
    injection h6 with hd
    subst hd
    intro p hp
    rw [tPairs_eq _ (by rw [even_map]; exact he)]
    have E0 : ED K Z (upd H p (.dK [])) env σ c := ED.loc (fun _ z => z) (fun a u h _ => keep_new hp a u h) E
    refine seqM ⟨m, Z, c, env, x.1, x.2, E0, G.newT hp, h1, fun vs H1 Z1 c1 ca1 E1 q1 G1 F1 M1 => ?_⟩
    have hcp : c p = 0 := G.non0 hp
    have hpu : upd H p (.dK []) p ≠ none := by rw [upd_same]; simp
    have hp1 : H1 p = some (.dK []) := by rw [(F1 p).2.2.1 hpu (.inr hcp), upd_same]
    have hn1 := ((F1 p).2.2.2 hpu hcp).1
    have nz : ¬ Z1 p := fun z => (G p).2.2 (((F1 p).2.2.2 hpu hcp).2 z) |>.2 hp
    obtain ⟨kvs, e1, e2, c', q', le⟩ := pairs_den q1 h5
    refine ⟨hp1, kvs, e1, ?_, ?_⟩
    · have : kvs.length = ps.length := by have := congrArg List.length e2; simpa using this
      omega
    · obtain ⟨nd, c'', q'', le'⟩ := merge_den (K := K) (Z := Z1) (H := H1) ps kvs [] [] [] zc c' ⟨rfl, .nil⟩ ⟨rfl, rfl⟩ e2 q'
      have le2 : ∀ a, c'' a ≤ ca1 a := fun a => by have := le a; have := le' a; simp only [zc] at *; omega
      have z1 : add c1 ca1 p = 0 := hn1
      have keep : ∀ a o, H1 a = some o → (isMut o = false ∨ Z1 a ∨ add c1 ca1 a ≠ 0) → upd H1 p (.dK (mergeK [] kvs)) a = some o := fun a o h x => by
        have : a ≠ p := by
          rintro rfl
          rcases x with x | x | x
          · rw [hp1] at h; cases h; cases x
          · exact nz x
          · exact x z1
        rw [upd_ne this]; exact h
      have E2 : ED K Z1 (upd H1 p (.dK (mergeK [] kvs))) x.2 σ c1 := ED.loc (fun _ z => z) (fun a o h x => keep a o h (x.elim .inl fun y => .inr (y.elim .inl fun z => .inr (by simp only [add]; omega)))) E1
      have q2 : Dens K Z1 (upd H1 p (.dK (mergeK [] kvs))) (mergeD ps).2 ((mergeK [] kvs).map (·.2)) c'' := Dens.loc (fun _ z => z) (fun a o h x => keep a o h (x.elim .inl fun y => .inr (y.elim .inl fun z => .inr (by have := le2 a; simp only [add]; omega)))) q''
      refine k (.ref p) _ Z1 c1 (add (one p) c'') E2 ⟨p, _, c'', rfl, upd_same, nd, q2, rfl⟩ (fun a => ?_) (fun a => ?_) fun x b hb => ?_
      · obtain ⟨g1, g2, g3⟩ := G1 a
        have := le2 a
        by_cases ha : a = p
        · subst ha
          simp only [add, one_self] at *
          exact ⟨by omega, fun _ => ⟨_, upd_same, rfl⟩, fun z => absurd z nz⟩
        · simp only [add, one_ne ha, MutA, upd_ne ha] at *
          exact ⟨by omega, fun x => g2 (by omega), fun z => ⟨by have := (g3 z).1; omega, (g3 z).2⟩⟩
      · obtain ⟨f1, f2, f3, f4⟩ := F1 a
        have := le2 a
        by_cases ha : a = p
        · subst ha
          exact ⟨f1, fun n => absurd hp n, fun n => absurd hp n, fun n => absurd hp n⟩
        · simp only [upd_ne ha] at *
          simp only [add, one_ne ha] at *
          exact ⟨f1, f2, f3, fun n x => ⟨by have := (f4 n x).1; omega, (f4 n x).2⟩⟩
      · have hbp : b ≠ p := by rintro rfl; exact hb hp
        have := le2 b
        have := M1 x b (by rw [upd_ne hbp]; exact hb)
        simp only [add, one_ne hbp]; omega
  · cases h6

/-! ### calls -/
theorem ED.at_len {Z : Addr → Prop} {H : Hp} {env : EnvD} {σ : L2.St} {c : Cnt} {i : Nat} {x : Option V} (E : ED K Z H env σ c) (h : σ[i]? = some x) : i < env.length := by
  rw [← E.len]
  exact (List.getElem?_eq_some_iff.mp h).1
theorem lend_ok {Z : Addr → Prop} {H : Hp} {σ : L2.St} : ∀ {as : List A} {vs : List V} {ds : List D} {env env2 : EnvD} {c ca : Cnt}, ED K Z H env σ c → ADs K Z H σ as vs ca → lendA as env = some (ds, env2) →
    ∃ c2 cd, ED K Z H env2 σ c2 ∧ Dens K Z H ds vs cd ∧ (∀ a, c2 a + cd a = c a + ca a) ∧ (as.all A.isTmp = true → cd = ca)
  | [], _, _, _, _, _, _, E, q, h => by
    obtain ⟨rfl, rfl⟩ := q
    have h : some (([] : List D), _) = some (_, _) := h
    injection h with h
    injection h with h1 h2
    subst h1 h2
    exact ⟨_, zc, E, ⟨rfl, rfl⟩, fun a => rfl, fun _ => rfl⟩
  | .tmp d :: as, _, _, _, _, _, _, E, q, h => by
    obtain ⟨v, r, c1, c2, rfl, q1, q2, rfl⟩ := q
    obtain ⟨x, h1, h2⟩ := map_some (show (lendA as _).map (fun x => (d :: x.1, x.2)) = some _ from h)
    injection h2 with ha hb
    subst ha hb
    obtain ⟨k1, kd, E2, q3, e, t⟩ := lend_ok E q2 h1
    exact ⟨k1, add c1 kd, E2, ⟨v, r, c1, kd, rfl, q1, q3, rfl⟩, fun a => by have := e a; simp only [add]; omega, fun x => by rw [t (by simpa [A.isTmp] using x)]⟩
  | .ref i :: as, _, _, _, _, _, _, E, q, h => by
    obtain ⟨v, r, c1, c2, rfl, q1, q2, rfl⟩ := q
    obtain ⟨hv, rfl⟩ := q1
    obtain ⟨d, g, h⟩ := bind_some (show ((getE _ i).bind fun d => (lendA as (_ : EnvD)).map fun x => (d :: x.1, x.2)) = some _ from h)
    obtain ⟨x, h1, h2⟩ := map_some h
    injection h2 with ha hb
    subst ha hb
    obtain ⟨w, k1, k2, e1, q3, E1, rfl⟩ := E.take (getE_some g)
    rw [hv] at e1
    cases e1
    obtain ⟨k3, kd, E2, q4, e, t⟩ := lend_ok E1 q2 h1
    exact ⟨k3, add k1 kd, E2, ⟨v, r, k1, kd, rfl, q3, q4, rfl⟩, fun a => by have := e a; simp only [add, zc]; omega, fun x => by simp [A.isTmp] at x⟩
  | .pk _ :: _, _, _, _, _, _, _, _, _, h => by cases h
theorem back_ok {Z Z' : Addr → Prop} {H H' : Hp} {σ : L2.St} : ∀ {as : List A} {vs : List V} {ds' : List D} {env : EnvD} {c ca c' : Cnt}, ED K Z' H' env σ c → ADs K Z H σ as vs ca → Dens K Z' H' ds' vs c' →
    ∃ c3, ED K Z' H' (backA as ds' env) σ c3 ∧ ∀ a, c3 a ≤ c a + c' a
  | [], _, ds', _, c, _, _, E, q, p => by
    exact ⟨c, by cases ds' <;> exact E, fun a => by omega⟩
  | .tmp d :: as, _, [], env, c, _, _, E, q, p => ⟨c, E, fun a => by omega⟩
  | .ref d :: as, _, [], env, c, _, _, E, q, p => ⟨c, E, fun a => by omega⟩
  | .pk d :: as, _, ds', env, c, _, _, E, q, p => ⟨c, by cases ds' <;> exact E, fun a => by omega⟩
  | .tmp d :: as, _, d' :: ds', env, c, _, _, E, q, p => by
    obtain ⟨v, r, c1, c2, rfl, q1, q2, rfl⟩ := q
    obtain ⟨v', r', k1, k2, e, p1, p2, rfl⟩ := p
    cases e
    obtain ⟨c3, E3, le⟩ := back_ok (env := env) E q2 p2
    exact ⟨c3, E3, fun a => by have := le a; simp only [add]; omega⟩
  | .ref i :: as, _, d' :: ds', env, c, _, _, E, q, p => by
    obtain ⟨v, r, c1, c2, rfl, q1, q2, rfl⟩ := q
    obtain ⟨hv, rfl⟩ := q1
    obtain ⟨v', r', k1, k2, e, p1, p2, rfl⟩ := p
    cases e
    obtain ⟨c4, c5, E4, rfl⟩ := E.drop i
    have E5 := ED.put E4 (E.at_len hv) p1
    rw [set_self hv] at E5
    obtain ⟨c3, E3, le⟩ := back_ok (env := env.set i (some d')) E5 q2 p2
    exact ⟨c3, E3, fun a => by have := le a; simp only [add] at *; omega⟩
theorem in_call {f n : Nat} {es : List E} (hn : es.length = n) {σ : L2.St} {H : Hp} {Q : VK} (h : tE K P (.call f es) σ H Q) : tL (es.map (tE K P)) σ H (fun vs H1 => spD K n (P.call f) vs H1 Q E0) := by
  obtain ⟨m, Z, c, env, r, env', E, G, ev, k⟩ := h
  obtain ⟨x, h1, h2⟩ := bind_some (show ((evAs P m es env).bind fun x => if m && !x.1.all A.isTmp then none else
      (lendA x.1 x.2).bind fun y => (P.call f y.1).map fun z => (A.tmp z.1, backA x.1 z.2 y.2)) = some (r, env') from ev)
  have hlen : ∀ (m : Bool) (es : List DL.E) (env : EnvD) (y : List A × EnvD), evAs P m es env = some y → y.1.length = es.length := by
    intro m es
    induction es generalizing m with
    | nil => intro env y h; cases h; rfl
    | cons e es ih =>
      intro env y h
      obtain ⟨z, g1, g2⟩ := bind_some (show ((evA P m e env).bind fun x => (evAs P (m || x.1.isPk) es x.2).map fun y => (x.1 :: y.1, y.2)) = some y from h)
      obtain ⟨w, g3, rfl⟩ := map_some g2
      show w.1.length + 1 = es.length + 1
      rw [ih _ _ _ g3]
  have hl := hlen _ _ _ _ h1
  refine seqL ⟨m, Z, c, env, x.1, x.2, E, G, h1, fun vs H1 Z1 c1 ca1 E1 q1 G1 F1 M1 => ?_⟩
  cases hc : (m && !x.1.all A.isTmp) with
  | true => rw [hc] at h2; cases h2
  | false =>
    rw [hc] at h2
    obtain ⟨y, h3, h4⟩ := bind_some (show ((lendA x.1 x.2).bind fun y => (P.call f y.1).map fun z => (A.tmp z.1, backA x.1 z.2 y.2)) = some (r, env') from h2)
    obtain ⟨z, h5, h6⟩ := map_some h4
    injection h6 with hr he
    subst hr he
    obtain ⟨c2, cd, E2, q2, e, t⟩ := lend_ok E1 q1 h3
    have G2 : Gd Z1 H1 (add c2 cd) := by
      have ee : add c2 cd = add c1 ca1 := funext e
      rw [ee]; exact G1
    have hvl : vs.length = n := by
      have ll : ∀ {as : List A} {vs : List V} {ca : Cnt}, ADs K Z1 H1 σ as vs ca → vs.length = as.length := by
        intro as
        induction as with
        | nil => intro vs ca q; obtain ⟨rfl, _⟩ := q; rfl
        | cons a as ih => intro vs ca q; obtain ⟨v, r, c1, c2, rfl, _, q2, _⟩ := q; simp [ih q2]
      rw [ll q1, hl, hn]
    refine ⟨hvl, Z1, y.1, cd, z.1, z.2, q2, G2.le (fun a => by simp only [add]; omega), h5, fun v H3 Z3 cr c' qr q3 G3 F3 => ?_⟩
    have G2' : Gd Z1 H1 (add cd c2) := by rw [add_comm]; exact G2
    obtain ⟨G4, F4⟩ := F3.ext G2' G3
    have E3 : ED K Z3 H3 y.2 σ c2 := ED.loc F3.zz (F3.keep G2') E2
    obtain ⟨c3, E4, le⟩ := back_ok (Z := Z1) (H := H1) E3 q1 q3
    have ee : add cd c2 = add c1 ca1 := by funext a; have := e a; simp only [add]; omega
    rw [ee] at F4
    refine k v H3 Z3 c3 cr E4 qr (G4.le fun a => by have := le a; simp only [add]; omega) ?_ ?_
    · cases m with
      | false => exact (F1.trans F4).lessR fun a => by have := le a; simp only [add]; omega
      | true =>
        have ht : x.1.all A.isTmp = true := by simpa using hc
        have et := t ht
        subst et
        -- what stood ahead is not the callee's
        intro a
        obtain ⟨f1, f2, f3, f4⟩ := F1 a
        obtain ⟨g1, g2, g3, g4⟩ := F4 a
        refine ⟨fun z => g1 (f1 z), fun n => g2 (f2 n), fun n x => ?_, fun n x => ?_⟩
        · rw [← f3 n (.inl rfl)]
          have hz : cd a = 0 := M1 rfl a n
          exact (F3 a).2.2.1 (f2 n) (.inr hz)
        · have := le a
          exact ⟨by have := (g4 (f2 n) (f4 n x).1).1; simp only [add] at *; omega, fun z => (f4 n x).2 ((g4 (f2 n) (f4 n x).1).2 z)⟩
    · rintro rfl b hb
      have ht : x.1.all A.isTmp = true := by simpa using hc
      have et := t ht
      subst et
      have hz : cd b = 0 := M1 rfl b hb
      have := ((F3 b).2.2.2 ((F1 b).2.1 hb) hz).1
      simp only [add] at this; omega
end
end DL
end

section
/-! DL11: what is walked; comprehensions. -/
namespace DL
open PySem PySem.Spec L2
open PyProof.Rows hiding St

/-! ### targets -/
mutual
def tgS : Tg → List Nat
  | .nm i => [i]
  | .tp ts => tgsS ts
def tgsS : List Tg → List Nat
  | [] => []
  | t :: ts => tgS t ++ tgsS ts
end
section
variable (K : PySem.W.Frag)
def gT (tg : Tg) : TG := fun v σ H Q => ∃ Z c cd d env env', ED K Z H env σ c ∧ Den K Z H d v cd ∧ bindT tg d env = some env' ∧
  ∀ σ' c', ED K Z H env' σ' c' → (∀ a, c' a ≤ c a + cd a) → σ'.length = σ.length → (∀ j, j ∉ tgS tg → σ'[j]? = σ[j]?) → Q σ' H
def gTs (ts : List Tg) : TGs := fun vs σ H Q => ∃ Z c cd ds env env', ED K Z H env σ c ∧ Dens K Z H ds vs cd ∧ bindTs ts ds env = some env' ∧
  ∀ σ' c', ED K Z H env' σ' c' → (∀ a, c' a ≤ c a + cd a) → σ'.length = σ.length → (∀ j, j ∉ tgsS ts → σ'[j]? = σ[j]?) → Q σ' H
end
theorem PG.imp {X : Cx} {p : PySem.Expr} {t t' : TG} (h : PG X p t) (f : ∀ v σ H Q, t' v σ H Q → t v σ H Q) : PG X p t' := ⟨fun pins s σ H v u Q I r q => h.run pins s σ H v u Q I r (f v σ H Q q)⟩
theorem PGs.imp {X : Cx} {p : List PySem.Expr} {t t' : TGs} (h : PGs X p t) (f : ∀ v σ H Q, t' v σ H Q → t v σ H Q) : PGs X p t' := ⟨fun pins s σ H v u Q I r q => h.run pins s σ H v u Q I r (f v σ H Q q)⟩
mutual
def chkTg (N : List Str) (sc : Scope) (fnB : Str → Bool) : Tg → PySem.Expr → Bool
  | .nm i, .Name x _ => decide (N[i]? = some x) && locB sc x && (fnB x || decide (sc.names.lookup x = some .local))
  | .tp ts, .Tuple ps _ _ => ps.all notStar && chkTgs N sc fnB ts ps
  | _, _ => false
def chkTgs (N : List Str) (sc : Scope) (fnB : Str → Bool) : List Tg → List PySem.Expr → Bool
  | [], [] => true
  | t :: ts, p :: ps => chkTg N sc fnB t p && chkTgs N sc fnB ts ps
  | _, _ => false
end
theorem each_cons {e : PySem.Expr} {es : List PySem.Expr} {env : Env} (h : notStar e = true) : assignEach (e :: es) env = (false, assign e env) :: assignEach es env := by
  cases e <;> first | rfl | cases h
theorem each_len {env : Env} : ∀ {es : List PySem.Expr}, es.all notStar = true → (assignEach es env).length = es.length ∧ (assignEach es env).findIdx? (·.1) = none
  | [], _ => ⟨rfl, rfl⟩
  | e :: es, h => by
    rw [List.all_cons, Bool.and_eq_true] at h
    obtain ⟨h1, h2⟩ := each_len (env := env) h.2
    rw [each_cons h.1]
    refine ⟨by simp [h1], ?_⟩
    rw [List.findIdx?_cons]
    simp [h2]
section
variable {X : Cx} {P : Ctx} {fn : List (Str × Nat)} {bl : Bl} {N : List Str} {sc : Scope} {fnB : Str → Bool}
mutual
theorem pg_T (C : CtxOk P fn bl N X) (hs : X.env.scope = sc) (hf : ∀ x, fnB x = true → X.fn x = true) : ∀ (tg : Tg) (p : PySem.Expr), chkTg N sc fnB tg p = true → PG X p (gT X.K tg)
  | .nm i, p, h => by
    unfold chkTg at h
    split at h
    · rename_i i' x pos heq
      cases heq
      rw [Bool.and_eq_true, Bool.and_eq_true] at h
      refine PG.imp (pg_name (i := i) (by rw [C.hN]; exact C.nd) (by rw [C.hN]; exact of_decide_eq_true h.1.1) (by rw [hs]; exact loc_of h.1.2) ?_) fun v σ H Q q => ?_
      · rcases Bool.or_eq_true .. ▸ h.2 with z | z
        · exact .inl (hf x z)
        · exact .inr (by rw [hs]; exact of_decide_eq_true z)
      · obtain ⟨Z, c, cd, d, env, env', E, q1, b, k⟩ := q
        have b : (if i < env.length then some (env.set i (some d)) else none) = some env' := b
        split at b
        · rename_i hi
          cases b
          obtain ⟨c2, c1, E2, rfl⟩ := E.drop i
          refine k _ _ (ED.put E2 hi q1) (fun a => by simp only [add]; omega) (by simp) fun j hj => ?_
          have : i ≠ j := fun e => hj (by subst e; simp [tgS])
          rw [List.getElem?_set_ne this]
        · cases b
    · rename_i heq; cases heq
    · cases h
  | .tp ts, p, h => by
    unfold chkTg at h
    split at h
    · rename_i heq; cases heq
    · rename_i ts' ps k pos heq
      cases heq
      rw [Bool.and_eq_true] at h
      obtain ⟨h1, h2⟩ := each_len (env := X.env) h.1
      refine PG.imp (pg_tup C.calm (pgs_T C hs hf ts ps h.2 h.1) h1 h2) fun v σ H Q q => ?_
      obtain ⟨Z, c, cd, d, env, env', E, q1, b, k⟩ := q
      cases d with
      | tup ds =>
        obtain ⟨a, xs, rfl, s, q1⟩ := q1
        have b : bindTs ts ds env = some env' := b
        have hl : ∀ (ts : List Tg) (ds : List D) (env env' : EnvD), bindTs ts ds env = some env' → ts.length = ds.length := by
          intro ts
          induction ts with
          | nil => intro ds env env' b; cases ds with | nil => rfl | cons _ _ => cases b
          | cons t ts ih =>
            intro ds env env' b
            cases ds with
            | nil => cases b
            | cons d ds =>
              obtain ⟨e, b1, b2⟩ := bind_some (show ((bindT t d env).bind fun e => bindTs ts ds e) = some env' from b)
              simp [ih ds e env' b2]
        have hp : ∀ (ts : List Tg) (ps : List PySem.Expr), chkTgs N sc fnB ts ps = true → ts.length = ps.length := by
          intro ts
          induction ts with
          | nil => intro ps b; cases ps with | nil => rfl | cons _ _ => cases b
          | cons t ts ih =>
            intro ps b
            cases ps with
            | nil => cases b
            | cons d ds =>
              have b : (chkTg N sc fnB t d && chkTgs N sc fnB ts ds) = true := b
              rw [Bool.and_eq_true] at b
              simp [ih ds b.2]
        refine ⟨a, xs, rfl, s, ?_, Z, c, cd, ds, env, env', E, q1, b, k⟩
        rw [q1.length, ← hl _ _ _ _ b, hp _ _ h.2]
      | _ => cases b
    · cases h
theorem pgs_T (C : CtxOk P fn bl N X) (hs : X.env.scope = sc) (hf : ∀ x, fnB x = true → X.fn x = true) : ∀ (ts : List Tg) (ps : List PySem.Expr), chkTgs N sc fnB ts ps = true → ps.all notStar = true → PGs X ps (gTs X.K ts)
  | [], [], _, _ => PGs.imp pgs_nil fun vs σ H Q q => by
    obtain ⟨Z, c, cd, ds, env, env', E, q1, b, k⟩ := q
    cases ds with
    | nil =>
      cases b
      obtain ⟨rfl, rfl⟩ := q1
      exact ⟨rfl, k σ c E (fun a => by omega) rfl fun _ _ => rfl⟩
    | cons _ _ => cases b
  | [], _ :: _, h, _ => by cases h
  | _ :: _, [], h, _ => by cases h
  | t :: ts, p :: ps, h, hn => by
    have h : (chkTg N sc fnB t p && chkTgs N sc fnB ts ps) = true := h
    rw [Bool.and_eq_true] at h
    rw [List.all_cons, Bool.and_eq_true] at hn
    refine PGs.imp (pgs_cons (pg_T C hs hf t p h.1) (pgs_T C hs hf ts ps h.2 hn.2) (by rw [each_cons hn.1]; rfl)) fun vs σ H Q q => ?_
    obtain ⟨Z, c, cd, ds, env, env', E, q1, b, k⟩ := q
    cases ds with
    | nil => cases b
    | cons d ds =>
      obtain ⟨v, r, c1, c2, rfl, q1, q2, rfl⟩ := q1
      obtain ⟨e, b1, b2⟩ := bind_some (show ((bindT t d env).bind fun e => bindTs ts ds e) = some env' from b)
      refine ⟨v, r, rfl, Z, c, c1, d, env, e, E, q1, b1, fun σ1 k1 E1 le1 hl1 ag1 => ?_⟩
      refine ⟨Z, k1, c2, ds, e, env', E1, q2, b2, fun σ2 k2 E2 le2 hl2 ag2 => ?_⟩
      refine k σ2 k2 E2 (fun a => by have := le1 a; have := le2 a; simp only [add]; omega) (hl2.trans hl1) fun j hj => ?_
      have hj : j ∉ tgS t ++ tgsS ts := hj
      rw [List.mem_append, not_or] at hj
      rw [ag2 j hj.2, ag1 j hj.1]
end
end

/-! ### slots set aside -/
section
variable {K : PySem.W.Frag} {Z : Addr → Prop} {H : Hp}
theorem ED.agree : ∀ {e : EnvD} {s s' : L2.St} {c : Cnt}, ED K Z H e s c → s'.length = s.length → (∀ (j : Nat) (d : D) (v : V), e[j]? = some (some d) → s[j]? = some (some v) → s'[j]? = some (some v)) → ED K Z H e s' c
  | [], _, s', _, q, hl, _ => by
    obtain ⟨rfl, rfl⟩ := q
    exact ⟨List.eq_nil_of_length_eq_zero hl, rfl⟩
  | none :: e, _, s', _, q, hl, ag => by
    obtain ⟨x, r, rfl, q⟩ := q
    cases s' with
    | nil => cases hl
    | cons y s' => exact ⟨y, s', rfl, ED.agree q (by simpa using hl) fun j d v h1 h2 => by have := ag (j + 1) d v (by simpa using h1) (by simpa using h2); simpa using this⟩
  | some d :: e, _, s', _, q, hl, ag => by
    obtain ⟨v, r, c1, c2, rfl, q1, q2, rfl⟩ := q
    cases s' with
    | nil => cases hl
    | cons y s' =>
      have h0 := ag 0 d v (by simp) (by simp)
      have h0 : y = some v := by simpa using h0
      subst h0
      exact ⟨v, s', c1, c2, rfl, q1, ED.agree q2 (by simpa using hl) fun j d v h1 h2 => by have := ag (j + 1) d v (by simpa using h1) (by simpa using h2); simpa using this, rfl⟩
theorem ED.wipe1 {e : EnvD} {s : L2.St} {c : Cnt} (i : Nat) (y : Option V) (E : ED K Z H e s c) : ∃ c', ED K Z H (e.set i none) (s.set i y) c' ∧ ∀ a, c' a ≤ c a := by
  obtain ⟨c2, c1, E2, rfl⟩ := E.drop i
  refine ⟨c2, E2.agree (by simp) fun j d v h1 h2 => ?_, fun a => by simp only [add]; omega⟩
  by_cases hj : i = j
  · subst hj
    rw [List.getElem?_set_self (by
      have := (List.getElem?_eq_some_iff.mp h1).1
      simpa using this)] at h1
    cases h1
  · rw [List.getElem?_set_ne hj]; exact h2
theorem ED.wipe : ∀ {own : List Nat} {e : EnvD} {s : L2.St} {c : Cnt}, ED K Z H e s c → ∃ c', ED K Z H (wipeE own e) (L2.wipe s own) c' ∧ ∀ a, c' a ≤ c a
  | [], _, _, c, E => ⟨c, E, fun a => Nat.le_refl _⟩
  | i :: own, _, _, _, E => by
    obtain ⟨c1, E1, le1⟩ := ED.wipe (own := own) E
    obtain ⟨c2, E2, le2⟩ := E1.wipe1 i none
    exact ⟨c2, E2, fun a => Nat.le_trans (le2 a) (le1 a)⟩
theorem ED.unwipe {own : List Nat} {e : EnvD} {s : L2.St} {c : Cnt} (E : ED K Z H e (L2.wipe s own) c) : ED K Z H e s c :=
  E.agree (wipe_length s own).symm fun j d v h1 h2 => (wipe_some h2).1
/-- what stood in the slots set aside is put back -/
theorem ED.rest {env0 : EnvD} {s : L2.St} : ∀ {own : List Nat} {e : EnvD} {c : Cnt}, ED K Z H e s c → (∀ i d, i ∈ own → plE (getE env0 i) = some d → ∃ v, s[i]? = some (some v) ∧ Den K Z H d v zc) → ∃ c', ED K Z H (restE own env0 e) s c' ∧ ∀ a, c' a ≤ c a
  | [], _, c, E, _ => ⟨c, E, fun a => Nat.le_refl _⟩
  | i :: own, e, _, E, h => by
    obtain ⟨c1, E1, le1⟩ := ED.rest (own := own) E fun j d hj => h j d (List.mem_cons_of_mem _ hj)
    obtain ⟨c2, c3, E2, rfl⟩ := E1.drop i
    cases hg : plE (getE env0 i) with
    | none =>
      refine ⟨c2, ?_, fun a => by have := le1 a; simp only [add] at this; omega⟩
      show ED K Z H ((restE own env0 e).set i (plE (getE env0 i))) s c2
      rw [hg]; exact E2
    | some d =>
      obtain ⟨v, hv, q⟩ := h i d List.mem_cons_self hg
      have E3 := ED.put E2 (E1.at_len hv) q
      rw [set_self hv] at E3
      refine ⟨add zc c2, ?_, fun a => by have := le1 a; simp only [add, zc] at *; omega⟩
      show ED K Z H ((restE own env0 e).set i (plE (getE env0 i))) s (add zc c2)
      rw [hg]; exact E3
end

/-! ### what is walked -/
structure Walks (J : It) (xs : List V) (St : Hp → Prop) : Prop where
  go : ∀ i H, St H → i < xs.length → J.go i H
  yld : ∀ i H x H', St H → i < xs.length → J.yld i H x H' → H' = H ∧ xs[i]? = some x
  stop : ∀ i H, St H → xs.length ≤ i → J.stop i H
theorem walks_list (K : PySem.W.Frag) (a : Addr) (xs : List V) : Walks (Itl K a) xs (fun H => H a = some (.lst xs)) where
  go := fun i H s h => ⟨xs, xs[i], SqL.of s, by simp [h]⟩
  yld := fun i H x H' s _ y => ⟨y.1, y.2 xs (SqL.of s)⟩
  stop := fun i H s h => ⟨xs, SqL.of s, h⟩
theorem walks_tup (K : PySem.W.Frag) (a : Addr) (xs : List V) : Walks (Itt K a) xs (fun H => SqT K H a xs) where
  go := fun i H s h => ⟨xs, xs[i], s, by simp [h]⟩
  yld := fun i H x H' s _ y => ⟨y.1, y.2 xs s⟩
  stop := fun i H s h => ⟨xs, s, h⟩
def rgN (lo : Int) (n : Nat) : List V := (List.range n).map fun (i : Nat) => V.int (lo + (i : Int))
theorem walks_rng (lo : Int) (n : Nat) : Walks (Itr lo n) (rgN lo n) (fun _ => True) where
  go := fun i H _ h => by
    show i < n
    unfold rgN at h; simpa using h
  yld := fun i H x H' _ h y => by
    have h : i < n := by unfold rgN at h; simpa using h
    obtain ⟨e, y⟩ := y
    refine ⟨e, ?_⟩
    subst y
    unfold rgN
    simp [h]
  stop := fun i H _ h => by
    show n ≤ i
    unfold rgN at h; simpa using h
end DL
end

section
/-! DL12: comprehensions. -/
namespace DL
open PySem PySem.Spec L2
open PyProof.Rows hiding St

section
variable (K : PySem.W.Frag) (P : Ctx)
def tIfs : List T → TT
  | [] => tYes
  | t :: _ => tT K P t
def stepC (m : Bool) (tg : Tg) (own : List Nat) (ifs : List T) (elt : E) (d : D) (e : EnvD) : Option (Option D × EnvD) :=
  (bindT tg d e).bind fun e1 => (evTand P m ifs e1).bind fun t => if t.1 then ((evA P m elt t.2).bind fun x => mat m x.1 x.2).map fun r => (some r.1, wipeE own r.2) else some (none, wipeE own t.2)
end
section
variable {K : PySem.W.Frag} {P : Ctx}
theorem in_ifs {ifs : List T} (h1 : ifs.length ≤ 1) {σ : L2.St} {H : Hp} {Q : Bool → Hp → Prop}
    (h : ∃ m Z c env b env', ED K Z H env σ c ∧ Gd Z H c ∧ evTand P m ifs env = some (b, env') ∧ ∀ H' Z' c', ED K Z' H' env' σ c' → Gd Z' H' c' → Fr m Z H c Z' H' c' → Q b H') : tIfs K P ifs σ H Q := by
  obtain ⟨m, Z, c, env, b, env', E, G, ev, k⟩ := h
  match ifs, h1 with
  | [], _ =>
    have ev : some (true, env) = some (b, env') := ev
    injection ev with ev
    injection ev with e1 e2
    subst e1 e2
    exact k H Z c E G Fr.refl
  | [t], _ =>
    obtain ⟨x, g1, g2⟩ := bind_some (show ((evT P m t env).bind fun x => if x.1 then evTand P m [] x.2 else some (false, x.2)) = some (b, env') from ev)
    refine ⟨m, Z, c, env, x.1, x.2, E, G, g1, fun H' Z' c' E' G' F' => ?_⟩
    cases hx : x.1 with
    | true =>
      rw [hx] at g2
      have g2 : some (true, x.2) = some (b, env') := g2
      injection g2 with g2
      injection g2 with e1 e2
      subst e1 e2
      exact k H' Z' c' E' G' F'
    | false =>
      rw [hx] at g2
      have g2 : some (false, x.2) = some (b, env') := g2
      injection g2 with g2
      injection g2 with e1 e2
      subst e1 e2
      exact k H' Z' c' E' G' F'
theorem wipe_agree {σ σ' : L2.St} {own : List Nat} (hl : σ'.length = (wipe σ own).length) (ag : ∀ j, j ∉ own → σ'[j]? = (wipe σ own)[j]?) : wipe σ' own = wipe σ own := by
  apply List.ext_getElem?
  intro j
  by_cases hj : j ∈ own
  · by_cases hlen : j < σ.length
    · have h1 : ∀ (s : L2.St), j < s.length → (wipe s own)[j]? = some none := by
        intro s hs
        have hs' : j < (wipe s own).length := by rw [wipe_length]; exact hs
        rw [List.getElem?_eq_getElem hs']
        cases h : (wipe s own)[j] with
        | none => rfl
        | some v => exact absurd hj (wipe_some (by rw [List.getElem?_eq_getElem hs', h])).2
      rw [h1 σ hlen, h1 σ' (by rw [hl, wipe_length]; exact hlen)]
    · rw [List.getElem?_eq_none (by rw [wipe_length, hl, wipe_length]; omega), List.getElem?_eq_none (by rw [wipe_length]; omega)]
  · rw [wipe_out hj, ag j hj]
/-- a list with an item more -/
theorem upd_keep {Z : Addr → Prop} {H : Hp} {D : Addr} {c : Cnt} {o o' : HO} (hD : H D = some o) (mo : isMut o = true) (G : Gd Z H (add c (one D))) :
    ∀ a u, H a = some u → (isMut u = false ∨ Z a ∨ c a ≠ 0) → upd H D o' a = some u := fun a u h x => by
  have : a ≠ D := by
    rintro rfl
    obtain ⟨g1, g2, g3⟩ := G a
    simp only [add, one_self] at g1 g3
    rcases x with x | x | x
    · rw [hD] at h; cases h; rw [mo] at x; cases x
    · have := (g3 x).1; omega
    · omega
  rw [upd_ne this]; exact h
theorem comp_run {J : It} {xs : List V} {St : Hp → Prop} (w : Walks J xs St) {Z1 : Addr → Prop} {H1 : Hp} {cS ex : Cnt} {env0 env3 : EnvD} {σ : L2.St} {own : List Nat} {mm : Bool} {its ds : List D} {tg : Tg} {ifs : List T} {elt : E} {Q : VK}
    (E1 : ED K Z1 H1 env0 σ cS) (G1 : Gd Z1 H1 (add cS ex)) (hst : ∀ H', (∀ a o, H1 a = some o → (isMut o = false ∨ Z1 a ∨ ex a ≠ 0 ∨ mm = true) → H' a = some o) → St H') (q : Dens K Z1 H1 its xs zc)
    (htg : ∀ i ∈ tgS tg, i ∈ own) (hifs : ifs.length ≤ 1) (ev : compF (stepC P mm tg own ifs elt) its [] (wipeE own env0) = some (ds, env3))
    (fin : ∀ D H' Z' c' cacc vacc, H1 D = none → H' D = some (.lst vacc) → ED K Z' H' env3 (wipe σ own) c' → Dens K Z' H' ds vacc cacc → (mm = true → ∀ b, H1 b ≠ none → cacc b = 0) → Gd Z' H' (add c' (add (one D) (add cacc ex))) → Fr mm Z1 H1 cS Z' H' (add c' (add (one D) cacc)) → Q (.ref D) H') :
    ∀ D, H1 D = none → ∃ W : Nat → Nat → Hp → Prop, (∃ m, W 0 m (upd H1 D (.lst []))) ∧ ∀ i m H, W i m H →
  (J.stop i H ∧ Q (.ref D) H) ∨ (J.go i H ∧ ∃ Nx : Hp → Prop, (∀ H', Nx H' → ∃ m', m' < m ∧ W (i + 1) m' H') ∧ ∀ x H', J.yld i H x H' → gT K tg x (wipe σ own) H' fun σ2 H2 => wipe σ2 own = wipe σ own ∧ tIfs K P ifs σ2 H2 fun b H3 =>
    if b = true then tE K P elt σ2 H3 fun y H4 => ∃ acc, H4 D = some (.lst acc) ∧ acc.length < sizeLine ∧ Nx (upd H4 D (.lst (acc ++ [y]))) else Nx H3) := by
  intro D hD
  have hxl := q.length
  refine ⟨fun i k H' => k = xs.length - i ∧ i ≤ xs.length ∧ ∃ Z c env acc vacc cacc, ED K Z H' env (wipe σ own) c ∧ H' D = some (.lst vacc) ∧ Dens K Z H' acc vacc cacc ∧ Gd Z H' (add c (add (one D) (add cacc ex))) ∧
    Fr mm Z1 H1 cS Z H' (add c (add (one D) cacc)) ∧ (mm = true → ∀ b, H1 b ≠ none → cacc b = 0) ∧ compF (stepC P mm tg own ifs elt) (its.drop i) acc env = some (ds, env3), ⟨xs.length, by omega, by omega, ?_⟩, fun i k H' ⟨hk, hi, Z, c, env, acc, vacc, cacc, E, hl, qa, G, F, MM, ev⟩ => ?_⟩
  · obtain ⟨c', E', le⟩ := E1.wipe (own := own)
    have cD : cS D = 0 ∧ ex D = 0 := by have := G1.non0 hD; simp only [add] at this; omega
    refine ⟨Z1, c', wipeE own env0, [], [], zc, ED.loc (fun _ z => z) (fun a u h _ => keep_new hD a u h) E', upd_same, ⟨rfl, rfl⟩, ?_, ?_, fun _ _ _ => rfl, ev⟩
    · refine (Gd.new (o := .lst []) G1 hD rfl).le fun a => ?_
      have := le a
      simp only [add, zc]; omega
    · refine ((Fr.new (c := cS) hD).lessR fun a => ?_)
      have := le a
      simp only [add, zc]; omega
  · have zD : ∀ a, Z1 a → cS a = 0 := fun a z => by have := ((G1 a).2.2 z).1; simp only [add] at this; omega
    have st : St H' := hst H' fun a o h x => by
      rw [(F a).2.2.1 (by rw [h]; simp) ?_]; exact h
      rcases x with x | x | x | x
      · right; have := G1.nm h x; simp only [add] at this; omega
      · exact .inr (zD a x)
      · right; have := (G1 a).1; simp only [add] at this; omega
      · exact .inl x
    by_cases hlt : i < xs.length
    · refine .inr ⟨w.go i H' st hlt, fun H'' => xs.length - (i + 1) = xs.length - (i + 1) ∧ i + 1 ≤ xs.length ∧ ∃ Z c env acc vacc cacc, ED K Z H'' env (wipe σ own) c ∧ H'' D = some (.lst vacc) ∧ Dens K Z H'' acc vacc cacc ∧ Gd Z H'' (add c (add (one D) (add cacc ex))) ∧
        Fr mm Z1 H1 cS Z H'' (add c (add (one D) cacc)) ∧ (mm = true → ∀ b, H1 b ≠ none → cacc b = 0) ∧ compF (stepC P mm tg own ifs elt) (its.drop (i + 1)) acc env = some (ds, env3), fun H'' n => ⟨xs.length - (i + 1), by omega, n⟩, fun x H'' y => ?_⟩
      obtain ⟨rfl, hx⟩ := w.yld i H' x H'' st hlt y
      obtain ⟨d, k1, k2, hd, qd, ek⟩ := Dens.getV q hx
      have ek1 : k1 = zc := by funext a; have := congrFun ek a; simp only [add, zc] at *; omega
      subst ek1
      have kp : ∀ a o, H1 a = some o → (isMut o = false ∨ Z1 a ∨ zc a ≠ 0) → H'' a = some o := fun a o h x => by
        rw [(F a).2.2.1 (by rw [h]; simp) ?_]; exact h
        rcases x with x | x | x
        · right; have := G1.nm h x; simp only [add] at this; omega
        · exact .inr (zD a x)
        · exact absurd rfl x
      have qd := Den.loc F.zz kp qd
      obtain ⟨hil, hdi⟩ := List.getElem?_eq_some_iff.mp hd
      have edrop : its.drop i = d :: its.drop (i + 1) := by rw [List.drop_eq_getElem_cons hil, hdi]
      rw [edrop] at ev
      obtain ⟨p, s1, s2⟩ := bind_some (show ((stepC P mm tg own ifs elt d env).bind fun p => match p.1 with
        | none => compF (stepC P mm tg own ifs elt) (its.drop (i + 1)) acc p.2
        | some d => if acc.length < sizeLine then compF (stepC P mm tg own ifs elt) (its.drop (i + 1)) (acc ++ [d]) p.2 else none) = some (ds, env3) from ev)
      obtain ⟨e1, b1, s3⟩ := bind_some (show ((bindT tg d env).bind fun e1 => (evTand P mm ifs e1).bind fun t => if t.1 then ((evA P mm elt t.2).bind fun x => mat mm x.1 x.2).map fun r => (some r.1, wipeE own r.2) else some (none, wipeE own t.2)) = some p from s1)
      obtain ⟨t, b2, s4⟩ := bind_some s3
      refine ⟨Z, c, zc, d, env, e1, E, qd, b1, fun σ' c' E' le' hl' ag => ?_⟩
      have ew : wipe σ' own = wipe σ own := wipe_agree hl' fun j hj => ag j fun h => hj (htg j h)
      refine ⟨ew, ?_⟩
      have G' : Gd Z H'' (add c' (add (one D) (add cacc ex))) := G.le fun a => by have := le' a; simp only [add, zc] at *; omega
      have G'' : Gd Z H'' (add c' (add (one D) cacc)) := G.le fun a => by have := le' a; simp only [add, zc] at *; omega
      refine in_ifs hifs ⟨mm, Z, c', e1, t.1, t.2, E', G'.le (fun a => by simp only [add]; omega), b2, fun H3 Z3 c3 E3 G3 F3 => ?_⟩
      cases ht : t.1 with
      | false =>
        rw [ht] at s4
        have s4 : some (none, wipeE own t.2) = some p := s4
        injection s4 with s4
        subst s4
        obtain ⟨c4, E4, le4⟩ := E3.wipe (own := own)
        rw [ew] at E4
        obtain ⟨Ga, Fa⟩ := F3.ext G' G3
        obtain ⟨Gb, Fb⟩ := F3.ext G'' G3
        show _ ∧ _
        refine ⟨rfl, hlt, Z3, c4, _, acc, vacc, cacc, E4, F3.keep G' D _ hl (.inr (.inr (by simp only [add, one_self]; omega))), Dens.loc F3.zz (fun a o h x => F3.keep G' a o h (x.elim .inl fun x => .inr (x.elim .inl fun x => .inr (by simp only [add]; omega)))) qa,
          Ga.le fun a => by have := le4 a; simp only [add]; omega, ?_, MM, s2⟩
        exact (F.trans (Fb.lessL fun a => by have := le' a; simp only [add, zc] at *; omega)).lessR fun a => by have := le4 a; simp only [add]; omega
      | true =>
        rw [ht] at s4
        obtain ⟨r, s5, s6⟩ := map_some (show ((evA P mm elt t.2).bind fun x => mat mm x.1 x.2).map (fun r => (some r.1, wipeE own r.2)) = some p from s4)
        subst s6
        obtain ⟨x0, s7, s8⟩ := bind_some s5
        show tE K P elt σ' H3 _
        refine ⟨mm, Z3, c3, t.2, x0.1, x0.2, E3, G3, s7, fun v H4 Z4 c4 ca4 E4 q4 G4 F4 M4 => ?_⟩
        obtain ⟨Z5, c5, cd, E5, q5, G5, F5, le5⟩ := mat_ok E4 q4 G4 s8
        have F6 := (F3.trans F4).trans F5
        have s2 : (if acc.length < sizeLine then compF (stepC P mm tg own ifs elt) (its.drop (i + 1)) (acc ++ [r.1]) (wipeE own r.2) else none) = some (ds, env3) := s2
        have hlen : acc.length < sizeLine := by
          by_cases h : acc.length < sizeLine
          · exact h
          · rw [if_neg h] at s2; cases s2
        rw [if_pos hlen] at s2
        obtain ⟨Ga, Fa⟩ := F6.ext G' G5
        obtain ⟨Gb, Fb⟩ := F6.ext G'' G5
        have hD4 : H4 D = some (.lst vacc) := F6.keep G' D _ hl (.inr (.inr (by simp only [add, one_self]; omega)))
        have qa4 : Dens K Z5 H4 acc vacc cacc := Dens.loc F6.zz (fun a o h x => F6.keep G' a o h (x.elim .inl fun x => .inr (x.elim .inl fun x => .inr (by simp only [add]; omega)))) qa
        refine ⟨vacc, hD4, by rw [qa.length]; exact hlen, rfl, hlt, ?_⟩
        have uk := upd_keep (o' := .lst (vacc ++ [v])) (c := add (add c5 cd) (add cacc ex)) hD4 rfl (Ga.le fun a => by simp only [add]; omega)
        obtain ⟨c6, E6, le6⟩ := E5.wipe (own := own)
        rw [ew] at E6
        refine ⟨Z5, c6, _, acc ++ [r.1], vacc ++ [v], add cacc (add cd zc), ED.loc (fun _ z => z) (fun a o h x => uk a o h (x.elim .inl fun x => .inr (x.elim .inl fun x => .inr (by have := le6 a; simp only [add]; omega)))) E6, upd_same, ?_, ?_, ?_, fun x b hb => ?_, s2⟩
        · refine Dens.loc (fun _ z => z) (fun a o h x => uk a o h (x.elim .inl fun x => .inr (x.elim .inl fun x => .inr (by simp only [add, zc] at *; omega)))) (Dens.app qa4 ⟨v, [], cd, zc, rfl, q5, ⟨rfl, rfl⟩, rfl⟩)
        · intro a
          obtain ⟨g1, g2, g3⟩ := Ga a
          have := le6 a
          by_cases ha : a = D
          · subst ha
            simp only [add, one_self, zc] at *
            exact ⟨by omega, fun _ => ⟨_, upd_same, rfl⟩, fun z => ⟨by have := (g3 z).1; omega, by rw [upd_same]; simp⟩⟩
          · simp only [add, one_ne ha, MutA, upd_ne ha, zc] at *
            exact ⟨by omega, fun x => g2 (by omega), fun z => ⟨by have := (g3 z).1; omega, (g3 z).2⟩⟩
        · have F7 := F.trans (Fb.lessL fun a => by have := le' a; simp only [add, zc] at *; omega)
          intro a
          obtain ⟨f1, f2, f3, f4⟩ := F7 a
          have := le6 a
          by_cases ha : a = D
          · subst ha
            exact ⟨f1, fun n => absurd hD n, fun n => absurd hD n, fun n => absurd hD n⟩
          · simp only [add, one_ne ha, upd_ne ha, zc] at *
            exact ⟨f1, f2, f3, fun n x => ⟨by have := (f4 n x).1; omega, (f4 n x).2⟩⟩
        · have := MM x b hb
          have := M4 x b ((F3 b).2.1 ((F b).2.1 hb))
          have := le5 b
          simp only [add, zc]; omega
    · have hi' : i = xs.length := by omega
      refine .inl ⟨w.stop i H' st (by omega), ?_⟩
      rw [List.drop_eq_nil_of_le (by omega)] at ev
      have ev : some (acc, env) = some (ds, env3) := ev
      injection ev with ev
      injection ev with e1 e2
      subst e1 e2
      exact fin D H' Z c cacc vacc hD hl E qa MM G F
end
end DL
end

section
/-! DL13: what a comprehension walks. -/
namespace DL
open PySem PySem.Spec L2
open PyProof.Rows hiding St

theorem PI.imp {X : Cx} {tg iter : PySem.Expr} {t t' : TI} (h : PI X tg iter t) (f : ∀ σ H R, t' σ H R → t σ H R) : PI X tg iter t' := ⟨fun pins s σ H R I q => h.run pins s σ H R I (f σ H R q)⟩
def jAny (K : PySem.W.Frag) (vs : List V) (H : Hp) (R : It → Hp → Prop) : Prop := ∃ a, vs = [.ref a] ∧ (((∃ xs, SqL K H a xs) ∧ R (Itl K a) H) ∨ ((∃ xs, SqT K H a xs) ∧ R (Itt K a) H))
def jRng1 (vs : List V) (H : Hp) (R : It → Hp → Prop) : Prop := ∃ j : Int, vs = [.int j] ∧ -(2 ^ 62) ≤ j ∧ j < 2 ^ 62 ∧ R (Itr 0 j.toNat) H
def jRng2 (vs : List V) (H : Hp) (R : It → Hp → Prop) : Prop := ∃ i j : Int, vs = [.int i, .int j] ∧ (-(2 ^ 62) ≤ i ∧ i < 2 ^ 62 ∧ -(2 ^ 62) ≤ j ∧ j < 2 ^ 62) ∧ R (Itr i (j - i).toNat) H
def jSrc (K : PySem.W.Frag) : SrcK → Nat → List V → Hp → (It → Hp → Prop) → Prop
  | .rng, 1 => jRng1
  | .rng, 2 => jRng2
  | .it _, 1 => jAny K
  | .zip, 2 => fun vs H R => ∃ a b xs ys, vs = [.ref a, .ref b] ∧ ((SqL K H a xs ∧ SqL K H b ys ∧ R (Itz K a b) H) ∨ (SqT K H a xs ∧ SqT K H b ys ∧ R (RZ.ItzT K a b) H))
  | _, _ => fun _ _ _ => False
def iSrc (K : PySem.W.Frag) (k : SrcK) (ts : List TE) : TI := fun σ H R => tL ts σ H fun vs H1 => jSrc K k ts.length vs H1 R
section
variable {X : Cx} {tg : PySem.Expr}
theorem pi_any {l : PySem.Expr} {tl : TE} {b : Bool} (hl : PE X l tl) : PI X tg l (iSrc X.K (.it b) [tl]) := by
  refine ⟨fun pins s σ H R I h => ?_⟩
  refine thn (hl.run pins s σ H _ I h) fun v s1 ⟨x, H1, I1, r1, q1⟩ => ?_
  obtain ⟨a, e, q1⟩ := q1
  cases e
  cases r1
  rcases q1 with ⟨⟨xs, hq⟩, q⟩ | ⟨⟨xs, hq⟩, q⟩
  · obtain ⟨its, rv, p, hz⟩ := I1.list hq
    refine wpAny_pyIter_list p.isList ?_
    refine ⟨s1.heap.objs.size, [s1.heap.objs.size], _, _, H1, rfl, I1.kept (t' := s1.toks) fun b o e => Heap.get?_push_of_some _ e, turn_list a _, ⟨_, Heap.get?_push_size _ rfl, rfl, rfl⟩, fun b hb => ?_, q⟩
    have e : b = s1.heap.objs.size := by simpa using hb
    subst e
    exact I1.fpOk (Nat.le_refl _) (I1.hok.fresh (Nat.le_refl _))
  · obtain ⟨its, rv, p, hz⟩ := I1.tuple hq
    refine wpAny_pyIter_tuple (show s1.heap.IsTuple a its.toArray from p) ?_
    refine ⟨s1.heap.objs.size, [s1.heap.objs.size], _, _, H1, rfl, I1.kept (t' := s1.toks) fun b o e => Heap.get?_push_of_some _ e, turn_tuple a _, ⟨_, Heap.get?_push_size _ rfl, rfl, rfl⟩, fun b hb => ?_, q⟩
    have e : b = s1.heap.objs.size := by simpa using hb
    subst e
    exact I1.fpOk (Nat.le_refl _) (I1.hok.fresh (Nat.le_refl _))
theorem pi_rng1 {a : PySem.Expr} {ta : TE} {p pos : Pos} (hg : Gl X "range") (hm : X.mg "range" = none) (ha : PE X a ta) (hs : notStar a = true) : PI X tg (.Call (.Name "range" p) [a] [] pos) (iSrc X.K .rng [ta]) :=
  PI.imp (pi_range1 hg hm (pa_of (ts := [ta]) (by simp [hs]) (.cons ha .nil)) (star_cons hs)) fun σ H R h => h
theorem pi_rng2 {a b : PySem.Expr} {ta tb : TE} {p pos : Pos} (hg : Gl X "range") (hm : X.mg "range" = none) (ha : PE X a ta) (hb : PE X b tb) (hs : notStar a = true) (hs2 : notStar b = true) : PI X tg (.Call (.Name "range" p) [a, b] [] pos) (iSrc X.K .rng [ta, tb]) :=
  PI.imp (pi_range2 hg hm (pa_of (ts := [ta, tb]) (by simp [hs, hs2]) (.cons ha (.cons hb .nil))) (by rw [star_cons hs, star_cons hs2]; rfl) (star_cons hs2)) fun σ H R h => h
def chkSrc (bl : Bl) (sc : Scope) : SrcK → PySem.Expr → Option (List PySem.Expr)
  | .rng, .Call (.Name x _) [a] [] _ => if bltB bl sc x "range" && notStar a then some [a] else none
  | .rng, .Call (.Name x _) [a, b] [] _ => if bltB bl sc x "range" && notStar a && notStar b then some [a, b] else none
  | .it _, p => some [p]
  | .zip, .Call (.Name x _) [a, b] [] _ => if bltB bl sc x "zip" && notStar a && notStar b then some [a, b] else none
  | _, _ => none
/-- zip is walked by a pair alone -/
def zipOk : SrcK → PySem.Expr → Bool
  | .zip, .Tuple _ _ _ => true
  | .zip, _ => false
  | _, _ => true
theorem pi_of {P : Ctx} {fn : List (Str × Nat)} {bl : Bl} {N : List Str} {sc : Scope} (C : CtxOk P fn bl N X) (hs : X.env.scope = sc) (k : SrcK) {p : PySem.Expr} {ps : List PySem.Expr} (h : chkSrc bl sc k p = some ps) {ts : List TE} (hp : PEs X ps ts) (hz : zipOk k tg = true) : PI X tg p (iSrc X.K k ts) := by
  unfold chkSrc at h
  split at h
  · split at h
    · rename_i hc
      rw [Bool.and_eq_true] at hc
      cases h
      obtain ⟨rfl, g, m⟩ := blt_of C hs hc.1
      cases hp with
      | cons h1 hp => cases hp; exact pi_rng1 g m h1 hc.2
    · cases h
  · split at h
    · rename_i hc
      rw [Bool.and_eq_true, Bool.and_eq_true] at hc
      cases h
      obtain ⟨rfl, g, m⟩ := blt_of C hs hc.1.1
      cases hp with
      | cons h1 hp => cases hp with
        | cons h2 hp => cases hp; exact pi_rng2 g m h1 h2 hc.1.2 hc.2
    · cases h
  · cases h
    cases hp with
    | cons h1 hp => cases hp; exact pi_any h1
  · split at h
    · rename_i hc
      rw [Bool.and_eq_true, Bool.and_eq_true] at hc
      cases h
      obtain ⟨rfl, g, m⟩ := blt_of C hs hc.1.1
      cases hp with
      | cons h1 hp => cases hp with
        | cons h2 hp =>
          cases hp
          cases tg <;> first
            | exact PI.imp (RZ.pi_zipA g m (pa_of (ts := [_, _]) (by simp [hc.1.2, hc.2]) (.cons h1 (.cons h2 .nil))) (star_cons hc.1.2) (star_any (by simp [hc.2]))) fun σ H R h => h
            | cases hz
    · cases h
  · cases h
end

section
variable {K : PySem.W.Frag} {P : Ctx}
theorem rgL_den {Z : Addr → Prop} {H : Hp} (lo hi : Int) : Dens K Z H (rngL lo hi) (rgN lo (hi - lo).toNat) zc := by
  unfold rngL rgN
  generalize (hi - lo).toNat = n
  have h : ∀ l : List Nat, Dens K Z H (l.map fun (k : Nat) => D.int (lo + (k : Int))) (l.map fun (i : Nat) => V.int (lo + (i : Int))) zc := by
    intro l
    induction l with
    | nil => exact ⟨rfl, rfl⟩
    | cons a l ih => exact ⟨_, _, zc, zc, rfl, ⟨rfl, rfl⟩, ih, (add_zc _).symm⟩
  exact h _
theorem AD.look1 {Z : Addr → Prop} {H : Hp} {σ : L2.St} {env : EnvD} {c ca : Cnt} {a : A} {v : V} {d : D} (E : ED K Z H env σ c) (q : AD K Z H σ a v ca) (h : a.get env = some d) : ∃ c1, Den K Z H d v c1 ∧ (a.isTmp = true → c1 = ca) := q.look E h
theorem items_den {Z : Addr → Prop} {H : Hp} {d : D} {v : V} {c : Cnt} {its : List D} (q : Den K Z H d v c) (h : d.items = some its) : ∃ a xs c', v = .ref a ∧ ((H a = some (.lst xs) ∧ (Z a ∨ c a ≠ 0)) ∨ SqT K H a xs) ∧ Dens K Z H its xs c' ∧ (∀ b, c' b ≤ c b) := by
  cases d with
  | tup ds =>
    cases h
    obtain ⟨a, vs, rfl, s, q⟩ := q
    exact ⟨a, vs, c, rfl, .inr s, q, fun b => Nat.le_refl _⟩
  | lst o ds =>
    cases h
    cases o with
    | true =>
      obtain ⟨a, vs, c', rfl, s, q, rfl⟩ := q
      exact ⟨a, vs, c', rfl, .inl ⟨s, .inr (by simp only [add, one_self]; omega)⟩, q, fun b => by simp only [add]; omega⟩
    | false =>
      obtain ⟨a, vs, rfl, s, z, q, rfl⟩ := q
      exact ⟨a, vs, zc, rfl, .inl ⟨s, .inl z⟩, q, fun b => Nat.le_refl _⟩
  | _ => cases h
/-- what is walked stands firm -/
structure SrcOk (K : PySem.W.Frag) (m : Bool) (env1 : EnvD) (s : Src) (σ : L2.St) (Z1 : Addr → Prop) (H1 : Hp) (c1 ca1 cS ex : Cnt) (J : It) (xs : List V) (St : Hp → Prop) : Prop where
  w : Walks J xs St
  E : ED K Z1 H1 s.env σ cS
  le : ∀ a, cS a + ex a ≤ c1 a + ca1 a
  st : ∀ H', (∀ a o, H1 a = some o → (isMut o = false ∨ Z1 a ∨ ex a ≠ 0 ∨ s.m = true) → H' a = some o) → St H'
  q : Dens K Z1 H1 s.its xs zc
  mm : m = true → s.m = true
  un : ∀ (Z' : Addr → Prop) H' env' c', (∀ a, Z1 a → Z' a) → (∀ a o, H1 a = some o → (isMut o = false ∨ Z1 a ∨ ex a ≠ 0) → H' a = some o) → ED K Z' H' env' σ c' → env'.length = env1.length → ∃ c'', ED K Z' H' (unlend s.lent env') σ c'' ∧ ∀ a, c'' a ≤ c' a + ex a
theorem src_rng {m : Bool} {env1 : EnvD} {its : List D} {σ : L2.St} {Z1 : Addr → Prop} {H1 : Hp} {c1 ca1 : Cnt} {lo hi : Int} (E : ED K Z1 H1 env1 σ c1) (e : its = rngL lo hi) : SrcOk K m env1 ⟨its, m, env1, none⟩ σ Z1 H1 c1 ca1 c1 ca1 (Itr lo (hi - lo).toNat) (rgN lo (hi - lo).toNat) (fun _ => True) where
  w := walks_rng _ _
  E := E
  le := fun a => Nat.le_refl _
  st := fun _ _ => trivial
  q := by subst e; exact rgL_den _ _
  mm := fun h => h
  un := fun Z' H' env' c' _ _ E' _ => ⟨c', E', fun a => by omega⟩
theorem src_it {lend m : Bool} {env1 : EnvD} {its : List D} {σ : L2.St} {Z1 : Addr → Prop} {H1 : Hp} {c1 ca1 : Cnt} {a : A} {v : V} {d : D} {s : Src} (E : ED K Z1 H1 env1 σ c1) (q : AD K Z1 H1 σ a v ca1)
    (g : a.get env1 = some d) (hi : d.items = some its) (hp : D.plains its = true) (hs : srcI lend m a env1 d its = some s) : ∃ cS ex p xs, v = .ref p ∧
      ((SrcOk K m env1 s σ Z1 H1 c1 ca1 cS ex (Itl K p) xs (fun H => H p = some (.lst xs)) ∧ SqL K H1 p xs) ∨ (SrcOk K m env1 s σ Z1 H1 c1 ca1 cS ex (Itt K p) xs (fun H => SqT K H p xs) ∧ SqT K H1 p xs)) := by
  have plain : ∀ {xs : List V} {c' : Cnt}, Dens K Z1 H1 its xs c' → Dens K Z1 H1 its xs zc := fun q => by
    have := Dens.pl hp q; subst this; exact q
  unfold srcI at hs
  split at hs
  · rename_i i hr
    cases a with
    | ref j =>
      injection hr with hr
      subst hr
      split at hs
      · cases hs
      · rename_i hm
        cases hs
        obtain ⟨hv, rfl⟩ := q
        have hg := getE_some (show getE env1 j = some d from g)
        obtain ⟨w, k1, k2, e1, q1, E2, rfl⟩ := E.take hg
        rw [hv] at e1; cases e1
        obtain ⟨p, xs, c', rfl, hh, qi, le⟩ := items_den q1 hi
        refine ⟨k2, k1, p, xs, rfl, ?_⟩
        have un : ∀ (Z' : Addr → Prop) H' (env' : EnvD) c', (∀ a, Z1 a → Z' a) → (∀ a o, H1 a = some o → (isMut o = false ∨ Z1 a ∨ k1 a ≠ 0) → H' a = some o) → ED K Z' H' env' σ c' → env'.length = env1.length → ∃ c'', ED K Z' H' (unlend (some (j, d)) env') σ c'' ∧ ∀ a, c'' a ≤ c' a + k1 a := by
          intro Z' H' env' c' hz hk E' hl
          obtain ⟨k3, k4, E3, rfl⟩ := E'.drop j
          have E4 := ED.put E3 (E'.at_len hv) (Den.loc hz hk q1)
          rw [set_self hv] at E4
          exact ⟨_, E4, fun a => by simp only [add]; omega⟩
        rcases hh with ⟨hh, hz⟩ | hh
        · refine .inl ⟨⟨walks_list _ _ _, E2, fun a => by simp only [add]; omega, fun H' k => k p _ hh (hz.elim (fun z => .inr (.inl z)) fun z => .inr (.inr (.inl z))), plain qi, fun x => absurd x hm, un⟩, SqL.of hh⟩
        · refine .inr ⟨⟨walks_tup _ _ _, E2, fun a => by simp only [add]; omega, fun H' k => SqT.loc (fun a o h x => k a o h (.inl x)) hh, plain qi, fun x => absurd x hm, un⟩, hh⟩
    | tmp _ => cases hr
    | pk _ => cases hr
  · cases hs
    obtain ⟨k, q1, ht⟩ := q.look E g
    obtain ⟨p, xs, c', rfl, hh, qi, le⟩ := items_den q1 hi
    refine ⟨c1, ca1, p, xs, rfl, ?_⟩
    have un : ∀ (Z' : Addr → Prop) H' (env' : EnvD) c', (∀ a, Z1 a → Z' a) → (∀ a o, H1 a = some o → (isMut o = false ∨ Z1 a ∨ ca1 a ≠ 0) → H' a = some o) → ED K Z' H' env' σ c' → env'.length = env1.length → ∃ c'', ED K Z' H' (unlend none env') σ c'' ∧ ∀ a, c'' a ≤ c' a + ca1 a := by
      intro Z' H' env' c' _ _ E' _
      exact ⟨c', E', fun a => by omega⟩
    rcases hh with ⟨hh, hz⟩ | hh
    · refine .inl ⟨⟨walks_list _ _ _, E, fun a => Nat.le_refl _, fun H' kk => ?_, plain qi, fun x => by simp [x], un⟩, SqL.of hh⟩
      refine kk p _ hh ?_
      rcases hz with z | z
      · exact .inr (.inl z)
      · cases hta : a.isTmp with
        | true => rw [ht hta] at z; exact .inr (.inr (.inl z))
        | false => exact .inr (.inr (.inr (by simp)))
    · exact .inr ⟨⟨walks_tup _ _ _, E, fun a => Nat.le_refl _, fun H' k => SqT.loc (fun a o h x => k a o h (.inl x)) hh, plain qi, fun x => by simp [x], un⟩, hh⟩
end
end DL
end

section
/-! DL14: comprehensions as values. -/
namespace DL
open PySem PySem.Spec L2
open PyProof.Rows hiding St
section
variable {K : PySem.W.Frag} {P : Ctx}
theorem ADs.length {Z : Addr → Prop} {H : Hp} {σ : L2.St} : ∀ {as : List A} {vs : List V} {ca : Cnt}, ADs K Z H σ as vs ca → vs.length = as.length
  | [], _, _, q => by obtain ⟨rfl, _⟩ := q; rfl
  | a :: as, _, _, q => by obtain ⟨v, r, c1, c2, rfl, _, q2, _⟩ := q; simp [ADs.length q2]
theorem evAs_len : ∀ {es : List DL.E} {m : Bool} {env : EnvD} {y : List A × EnvD}, evAs P m es env = some y → y.1.length = es.length
  | [], _, _, _, h => by cases h; rfl
  | e :: es, m, env, y, h => by
    obtain ⟨z, g1, g2⟩ := bind_some (show ((evA P m e env).bind fun x => (evAs P (m || x.1.isPk) es x.2).map fun y => (x.1 :: y.1, y.2)) = some y from h)
    obtain ⟨w, g3, rfl⟩ := map_some g2
    show w.1.length + 1 = es.length + 1
    rw [evAs_len g3]
theorem rng_int {Z : Addr → Prop} {H : Hp} {ds : List D} {vs : List V} {its : List D} (q : DenB K Z H ds vs) (h : rngItems ds = some its) : ∃ lo hi, its = rngL lo hi ∧
    ((vs.length = 1 ∧ ∀ R, R (Itr lo (hi - lo).toNat) H → jRng1 vs H R) ∨ (vs.length = 2 ∧ ∀ R, R (Itr lo (hi - lo).toNat) H → jRng2 vs H R)) := by
  unfold rngItems at h
  have ok : ∀ i, rngOk i = true → -(2 ^ 62) ≤ i ∧ i < 2 ^ 62 := fun i h => by
    unfold rngOk at h
    rw [Bool.and_eq_true] at h
    exact ⟨of_decide_eq_true h.1, of_decide_eq_true h.2⟩
  split at h
  · split at h
    · rename_i j hj
      cases h
      obtain ⟨v, r, c, rfl, q1, q2⟩ := q
      have q2 : r = [] := q2
      subst q2
      obtain ⟨rfl, _⟩ := q1
      refine ⟨0, j, rfl, .inl ⟨rfl, fun R hR => ⟨j, rfl, (ok j hj).1, (ok j hj).2, ?_⟩⟩⟩
      rw [show j - 0 = j by omega] at hR
      exact hR
    · cases h
  · split at h
    · rename_i i j hj
      rw [Bool.and_eq_true] at hj
      cases h
      obtain ⟨v, r, c, rfl, q1, v', r', c', rfl, q2, q3⟩ := q
      have q3 : r' = [] := q3
      subst q3
      obtain ⟨rfl, _⟩ := q1
      obtain ⟨rfl, _⟩ := q2
      exact ⟨i, j, rfl, .inr ⟨rfl, fun R hR => ⟨i, j, rfl, ⟨(ok i hj.1).1, (ok i hj.1).2, (ok j hj.2).1, (ok j hj.2).2⟩, hR⟩⟩⟩
    · cases h
  · cases h
theorem src_ok {k : SrcK} {m : Bool} {as : List A} {env1 : EnvD} {s : Src} {vs : List V} {σ : L2.St} {Z1 : Addr → Prop} {H1 : Hp} {c1 ca1 : Cnt} (E : ED K Z1 H1 env1 σ c1) (q : ADs K Z1 H1 σ as vs ca1) (h : srcC k m as env1 = some s)
    {n : Nat} (hn : n = as.length) {R : It → Hp → Prop} (r : ∀ J xs St cS ex, SrcOk K m env1 s σ Z1 H1 c1 ca1 cS ex J xs St → R J H1) : jSrc K k n vs H1 R := by
  have hvl := q.length
  subst hn
  cases k with
  | rng =>
    obtain ⟨its, h1, rfl⟩ := map_some (show ((A.gets env1 as).bind rngItems).map (fun its => (⟨its, m, env1, none⟩ : Src)) = some s from h)
    obtain ⟨ds, h2, h3⟩ := bind_some h1
    obtain ⟨lo, hi, e, x⟩ := rng_int (ADs.look E q h2) h3
    rcases x with ⟨hl, x⟩ | ⟨hl, x⟩
    · rw [← hvl, hl]; exact x R (r _ _ _ _ _ (src_rng E e))
    · rw [← hvl, hl]; exact x R (r _ _ _ _ _ (src_rng E e))
  | it lend =>
    obtain ⟨a, h1, h2⟩ := bind_some (show ((A.one? as).bind fun a => (a.get env1).bind fun d => (d.items).bind fun its => if D.plains its then srcI lend m a env1 d its else none) = some s from h)
    obtain ⟨d, h3, h4⟩ := bind_some h2
    obtain ⟨its, h5, h6⟩ := bind_some h4
    split at h6
    · rename_i hp
      unfold A.one? at h1
      split at h1
      · cases h1
        obtain ⟨v, r', k1, k2, rfl, q1, q2, rfl⟩ := q
        obtain ⟨rfl, rfl⟩ := q2
        rw [add_zc] at r
        obtain ⟨cS, ex, p, xs, rfl, x⟩ := src_it E q1 h3 h5 hp h6
        refine ⟨p, rfl, ?_⟩
        rcases x with ⟨x, y⟩ | ⟨x, y⟩
        · exact .inl ⟨⟨xs, y⟩, r _ _ _ _ _ x⟩
        · exact .inr ⟨⟨xs, y⟩, r _ _ _ _ _ x⟩
      · cases h1
    · cases h6
  | zip => cases h
theorem plE_some {o : Option D} {d : D} (h : plE o = some d) : o = some d ∧ d.plain = true := by
  cases o with
  | none => cases h
  | some x =>
    have h : (if x.plain then some x else none) = some d := h
    split at h
    · cases h; exact ⟨rfl, by assumption⟩
    · cases h
theorem plainAt_den {Z : Addr → Prop} {H : Hp} {env : EnvD} {σ : L2.St} {c : Cnt} (E : ED K Z H env σ c) : ∀ i d, plE (getE env i) = some d → ∃ v, σ[i]? = some (some v) ∧ Den K Z H d v zc := by
  intro i d h
  obtain ⟨hg, h⟩ := plE_some h
  obtain ⟨v, k1, k2, e, q, _, _⟩ := E.take (getE_some hg)
  have := Den.pl h q
  subst this
  exact ⟨v, e, q⟩
theorem restE_len (env0 : EnvD) : ∀ (own : List Nat) (env : EnvD), (restE own env0 env).length = env.length
  | [], _ => rfl
  | i :: own, env => by
    show ((restE own env0 env).set i (plE (getE env0 i))).length = _
    rw [List.length_set, restE_len env0 own env]
theorem in_comp {tg : Tg} {own : List Nat} {k : SrcK} {src : List E} {ifs : List T} {elt : E} (htg : ∀ i ∈ tgS tg, i ∈ own) (hifs : ifs.length ≤ 1) {σ : L2.St} {H : Hp} {Q : VK} (h : tE K P (.comp tg own k src ifs elt) σ H Q) :
    tLc (iSrc K k (src.map (tE K P))) (gT K tg) (tIfs K P ifs) (tE K P elt) own σ H Q := by
  obtain ⟨m, Z, c, env, a, env', E, G, ev, kk⟩ := h
  obtain ⟨x, h1, h2⟩ := bind_some (show ((evAs P m src env).bind fun x => (srcC k m x.1 x.2).bind fun s =>
      (compF (stepC P s.m tg own ifs elt) s.its [] (wipeE own s.env)).map fun r => (A.tmp (.lst true r.1), unlend s.lent (restE own x.2 r.2))) = some (a, env') from ev)
  obtain ⟨s, h3, h4⟩ := bind_some h2
  obtain ⟨r, h5, h6⟩ := map_some h4
  injection h6 with ha he
  subst ha he
  refine seqL ⟨m, Z, c, env, x.1, x.2, E, G, h1, fun vs H1 Z1 c1 ca1 E1 q1 G1 F1 M1 => ?_⟩
  refine src_ok E1 q1 h3 (by rw [evAs_len h1, List.length_map]) fun J xs St cS ex so => ?_
  have GS : Gd Z1 H1 (add cS ex) := G1.le fun a => so.le a
  refine comp_run (env3 := r.2) (ds := r.1) so.w so.E GS so.st so.q htg hifs h5 fun D H' Z' c' cacc vacc hD hl E' qa MM G' F' => ?_
  have E2 := E'.unwipe
  have ext : ∀ a o, H1 a = some o → (isMut o = false ∨ Z1 a ∨ ex a ≠ 0) → H' a = some o := F'.keep GS
  have hp := plainAt_den E1
  obtain ⟨c2, E3, le3⟩ := E2.rest (env0 := x.2) fun i d hi hg => by
    obtain ⟨v, hv, q⟩ := hp i d hg
    exact ⟨v, hv, Den.loc F'.zz (fun a o h x => ext a o h (x.elim .inl fun x => .inr (x.elim .inl fun x => absurd rfl x))) q⟩
  have hlen : (restE own x.2 r.2).length = x.2.length := by
    rw [restE_len, ← E2.len, E1.len]
  obtain ⟨c3, E4, le4⟩ := so.un Z' H' (restE own x.2 r.2) c2 F'.zz ext E3 hlen
  have G5 : Gd Z' H' (add c3 (add (one D) cacc)) := G'.le fun a => by have := le3 a; have := le4 a; simp only [add]; omega
  have G6 : Gd Z' H' (add c' (add (one D) cacc)) := G'.le fun a => by simp only [add]; omega
  obtain ⟨_, F7⟩ := F'.ext GS G6
  have F8 : Fr m Z1 H1 (add c1 ca1) Z' H' (add c3 (add (one D) cacc)) := by
    refine Fr.low (m' := s.m) ?_ so.mm
    refine (F7.lessL fun a => so.le a).lessR fun a => by have := le3 a; have := le4 a; simp only [add]; omega
  refine kk (.ref D) H' Z' c3 (add (one D) cacc) E4 ⟨D, vacc, cacc, rfl, hl, qa, rfl⟩ G5 (F1.trans F8) fun hm b hb => ?_
  have hb1 : H1 b ≠ none := (F1 b).2.1 hb
  have hbD : b ≠ D := by rintro rfl; exact hb1 hD
  have := MM (so.mm hm) b hb1
  simp only [add, one_ne hbD]; omega
end
end DL
end

section
/-! DX1: a name's own list or dict, rewritten; pop. -/
namespace DL
open PySem PySem.Spec L2
open PyProof.Rows hiding St

section
variable {K : PySem.W.Frag} {P : Ctx} {fx : List Nat} {Y : Ends} {σ : L2.St} {H : Hp} {Z : Addr → Prop} {c : Cnt} {env env' : EnvD} {fl : Fl}
theorem evPath_nil {x : List D × EnvD} (h : evPath P [] env = some x) : x = ([], env) := by
  have h : some (([] : List D), env) = some x := h
  injection h with h
  exact h.symm
/-- a name's own object, rewritten -/
theorem own_upd {i : Nat} {p : Addr} {o o' : HO} {d' : D} {c2 c'' : Cnt} (E2 : ED K Z H (env.set i none) σ c2) (hi : i < env.length) (hv : σ[i]? = some (some (.ref p))) (hp : H p = some o) (mo : isMut o = true) (mo' : isMut o' = true)
    (q : ∀ (Z' : Addr → Prop) H', (∀ a u, H a = some u → (isMut u = false ∨ Z a ∨ c'' a ≠ 0) → H' a = some u) → H' p = some o' → Den K Z H' d' (.ref p) (add (one p) c'')) (G : Gd Z H (add (one p) (add c'' c2))) :
    ED K Z (upd H p o') (env.set i (some d')) σ (add (add (one p) c'') c2) ∧ Gd Z (upd H p o') (add (add (one p) c'') c2) ∧ Fr false Z H (add (add (one p) c'') c2) Z (upd H p o') (add (add (one p) c'') c2) := by
  have uk := upd_keep (o' := o') (c := add c'' c2) hp mo (G.le fun a => by simp only [add]; omega)
  have q := q Z (upd H p o') (fun a u h x => uk a u h (x.elim .inl fun x => .inr (x.elim .inl fun x => .inr (by simp only [add]; omega)))) upd_same
  have E3 := ED.loc (H' := upd H p o') (fun _ z => z) (fun a u h x => uk a u h (x.elim .inl fun x => .inr (x.elim .inl fun x => .inr (by simp only [add]; omega)))) E2
  have E4 := ED.put E3 hi q
  rw [set_self hv] at E4
  have ee : add (add (one p) c'') c2 = add (one p) (add c'' c2) := by funext a; simp only [add]; omega
  refine ⟨E4, ?_, ?_⟩
  · rw [ee]
    intro a
    obtain ⟨g1, g2, g3⟩ := G a
    by_cases ha : a = p
    · subst ha
      exact ⟨g1, fun _ => ⟨_, upd_same, mo'⟩, fun z => ⟨(g3 z).1, by rw [upd_same]; simp⟩⟩
    · simp only [MutA, upd_ne ha] at *
      exact ⟨g1, g2, g3⟩
  · rw [ee]
    intro a
    by_cases ha : a = p
    · subst ha
      refine ⟨fun z => z, fun _ => by rw [upd_same]; simp, fun _ x => ?_, fun _ x => ⟨x, fun z => z⟩⟩
      rcases x with x | x
      · cases x
      · simp only [add, one_self] at x; omega
    · simp only [upd_ne ha]
      exact ⟨fun z => z, fun n => n, fun _ _ => trivial, fun _ x => ⟨x, fun z => z⟩⟩
theorem den_lst {ds' : List D} {vs' : List V} {c'' : Cnt} {p : Addr} (q : Dens K Z H ds' vs' c'') : ∀ (Z' : Addr → Prop) H', (∀ a u, H a = some u → (isMut u = false ∨ Z a ∨ c'' a ≠ 0) → H' a = some u) → H' p = some (.lst vs') → Den K Z H' (.lst true ds') (.ref p) (add (one p) c'') :=
  fun Z' H' h hp => ⟨p, vs', c'', rfl, hp, Dens.loc (fun _ z => z) h q, rfl⟩
theorem den_dK {ks' : List Key} {ds' : List D} {kvs' : List (Key × V)} {c'' : Cnt} {p : Addr} (nd : kvs'.map (·.1) = ks' ∧ ks'.Nodup) (q : Dens K Z H ds' (kvs'.map (·.2)) c'') :
    ∀ (Z' : Addr → Prop) H', (∀ a u, H a = some u → (isMut u = false ∨ Z a ∨ c'' a ≠ 0) → H' a = some u) → H' p = some (.dK kvs') → Den K Z H' (.dK true ks' ds') (.ref p) (add (one p) c'') :=
  fun Z' H' h hp => ⟨p, kvs', c'', rfl, hp, nd, Dens.loc (fun _ z => z) h q, rfl⟩
theorem updE_nil {i : Nat} {f : D → Option D} (h : updE i [] f env = some env') : ∃ dd d', getE env i = some dd ∧ f dd = some d' ∧ env' = env.set i (some d') := by
  obtain ⟨dd, h1, h2⟩ := bind_some (show ((getE env i).bind fun d => (updD f d []).map fun d' => env.set i (some d')) = some env' from h)
  obtain ⟨d', h3, rfl⟩ := map_some h2
  have h3 : f dd = some d' := by
    cases dd <;> exact h3
  exact ⟨dd, d', h1, h3, rfl⟩
theorem tmp_of {a : A} {d : D} (h : a.tmp? = some d) : a = .tmp d := by cases a <;> cases h; rfl
/-- the list at a name -/
theorem lst_at {i : Nat} {u : Unit} (E : ED K Z H env σ c) (h : (getE env i).bind D.lst? = some u) : ∃ w, σ[i]? = some (some w) ∧ tyV K "list" w H := by
  obtain ⟨d, h1, h2⟩ := bind_some h
  obtain ⟨w, k1, k2, hw, q, _, _⟩ := E.take (getE_some h1)
  cases d with
  | lst o ds =>
    obtain ⟨a, vs, c', rfl, s, q⟩ := q.lstI
    exact ⟨_, hw, .inl ⟨rfl, vs, SqL.of s⟩⟩
  | _ => cases h2
/-- the list of a name taken for an update -/
theorem lst_own {i : Nat} {dd : D} {ds : List D} {w : V} (E : ED K Z H env σ c) (hg : getE env i = some (.lst true ds)) (hw : σ[i]? = some (some w)) :
    ∃ p vs c' k2, w = .ref p ∧ H p = some (.lst vs) ∧ Dens K Z H ds vs c' ∧ ED K Z H (env.set i none) σ k2 ∧ c = add (add (one p) c') k2 ∧ i < env.length := by
  have hg' := getE_some hg
  obtain ⟨w', k1, k2, e1, q1, E2, rfl⟩ := E.take hg'
  rw [hw] at e1; cases e1
  obtain ⟨p, vs, c', rfl, hp, q, rfl⟩ := q1
  exact ⟨p, vs, c', k2, rfl, hp, q, E2, rfl, (List.getElem?_eq_some_iff.mp hg').1⟩

theorem dens_erase : ∀ {ds : List D} {vs : List V} {c : Cnt} {j : Nat} {d : D}, Dens K Z H ds vs c → ds[j]? = some d → d.plain = true → ∃ v, vs[j]? = some v ∧ Den K Z H d v zc ∧ Dens K Z H (ds.eraseIdx j) (vs.eraseIdx j) c
  | [], _, _, _, _, _, h, _ => by cases h
  | d :: ds, _, _, 0, _, ⟨v, r, c1, c2, rfl, q1, q2, rfl⟩, h, hp => by
    cases h
    have e0 := Den.pl hp q1
    subst e0
    refine ⟨v, rfl, q1, ?_⟩
    have e1 : add zc c2 = c2 := by funext a; simp only [add, zc]; omega
    rw [e1]; exact q2
  | d :: ds, _, _, j + 1, x, ⟨v, r, c1, c2, rfl, q1, q2, rfl⟩, h, hp => by
    obtain ⟨u, g1, g2, g3⟩ := dens_erase q2 (show ds[j]? = some x from h) hp
    exact ⟨u, g1, g2, ⟨v, r.eraseIdx j, c1, c2, rfl, q1, g3, rfl⟩⟩
theorem popD_some {k : Nat → Option Nat} {d : D} {x : D × D} (h : popD k d = some x) : ∃ ds j, d = .lst true ds ∧ k ds.length = some j ∧ ds[j]? = some x.1 ∧ x.1.plain = true ∧ x.2 = .lst true (ds.eraseIdx j) := by
  unfold popD at h
  split at h
  · rename_i ds
    obtain ⟨j, h1, h2⟩ := bind_some h
    obtain ⟨y, h3, h4⟩ := bind_some h2
    obtain ⟨h5, h6⟩ := if_some h4
    cases h6
    exact ⟨ds, j, rfl, h1, h3, h5, rfl⟩
  · cases h
/-- what a pop leaves -/
theorem pop_own {i j : Nat} {w : V} {ds : List D} {x : D} (E : ED K Z H env σ c) (G : Gd Z H c) (hg : getE env i = some (.lst true ds)) (hw : σ[i]? = some (some w)) (hx : ds[j]? = some x) (hp : x.plain = true) :
    ∃ p vs v c', w = .ref p ∧ H p = some (.lst vs) ∧ vs.length = ds.length ∧ vs[j]? = some v ∧ ED K Z (upd H p (.lst (vs.eraseIdx j))) (env.set i (some (.lst true (ds.eraseIdx j)))) σ c' ∧ Gd Z (upd H p (.lst (vs.eraseIdx j))) c' ∧ Fr false Z H c Z (upd H p (.lst (vs.eraseIdx j))) c' ∧
      Den K Z (upd H p (.lst (vs.eraseIdx j))) x v zc := by
  obtain ⟨p, vs, c', k2, rfl, hp1, q, E2, rfl, hi⟩ := lst_own (dd := .non) E hg hw
  obtain ⟨v, g1, g2, g3⟩ := dens_erase q hx hp
  have G' : Gd Z H (add (one p) (add c' k2)) := G.le fun a => by simp only [add]; omega
  obtain ⟨E4, G4, F4⟩ := own_upd (o' := .lst (vs.eraseIdx j)) E2 hi hw hp1 rfl rfl (den_lst g3) G'
  have uk := upd_keep (o' := HO.lst (vs.eraseIdx j)) (c := zc) hp1 rfl (G.le fun a => by simp only [add, zc]; omega)
  refine ⟨p, vs, v, _, rfl, hp1, q.length, g1, E4, G4, F4, ?_⟩
  exact Den.loc (fun _ z => z) (fun a u h x => uk a u h (x.elim .inl fun x => .inr (x.elim .inl fun x => absurd rfl x))) g2
theorem add_zcR (c : Cnt) : add c zc = c := by funext a; simp only [add, zc]; omega
theorem in_pop {i : Nat} {Q : VK} (h : tE K P (.pop i []) σ H Q) : tBM0 K "list" rPop (tVar i) σ H Q := by
  obtain ⟨m, Z, c, env, a, env', E, G, ev, k⟩ := h
  have ev : (if m || !([] : List DL.E).isEmpty then none else (getE env i).bind fun d => (popD (fun n => some (n - 1)) d).map fun r => (A.tmp r.1, env.set i (some r.2))) = some (a, env') := ev
  cases m with
  | true => cases ev
  | false =>
    obtain ⟨d, h1, h2⟩ := bind_some (show ((getE env i).bind fun d => (popD (fun n => some (n - 1)) d).map fun r => (A.tmp r.1, env.set i (some r.2))) = some (a, env') from ev)
    obtain ⟨x, h3, h4⟩ := map_some h2
    cases h4
    obtain ⟨ds, j, rfl, e1, e2, e3, e4⟩ := popD_some h3
    injection e1 with e1
    obtain ⟨w, hw, ty⟩ := lst_at (u := ()) E (show (getE env i).bind D.lst? = some () by rw [h1]; rfl)
    refine ⟨w, hw, ty, ?_⟩
    rw [e4] at k
    obtain ⟨p, vs, v, c', rfl, hp, hl, hv, E4, G4, F4, q4⟩ := pop_own E G h1 hw e2 e3
    have hjl : vs.length - 1 = j := by rw [hl]; exact e1
    have hdl : vs.dropLast = vs.eraseIdx j := by
      rw [← hjl]
      exact (List.eraseIdx_length_sub_one).symm
    refine ⟨p, vs, v, rfl, rfl, hp, by rw [hjl]; exact hv, ?_⟩
    rw [hdl]
    exact k v _ Z c' zc E4 q4 (by rw [add_zcR]; exact G4) (by rw [add_zcR]; exact F4) fun x => by cases x
theorem in_popAt {i : Nat} {e : E} {Q : VK} (h : tE K P (.popAt i [] e) σ H Q) : tBM K "list" rPopAt (tVar i) (tL [tE K P e]) σ H Q := by
  obtain ⟨m, Z, c, env, a, env', E, G, ev, k⟩ := h
  have ev : (if m || !([] : List DL.E).isEmpty then none else ((getE env i).bind D.lst?).bind fun _ => (evA P false e env).bind fun y => (y.1.int?).bind fun j => (getE y.2 i).bind fun d =>
      (popD (fun n => if n ≤ sizeLine then L2.ixN n j else none) d).map fun r => (A.tmp r.1, y.2.set i (some r.2))) = some (a, env') := ev
  cases m with
  | true => cases ev
  | false =>
    obtain ⟨u, h0, ev⟩ := bind_some (show (((getE env i).bind D.lst?).bind fun _ => (evA P false e env).bind fun y => (y.1.int?).bind fun j => (getE y.2 i).bind fun d =>
      (popD (fun n => if n ≤ sizeLine then L2.ixN n j else none) d).map fun r => (A.tmp r.1, y.2.set i (some r.2))) = some (a, env') from ev)
    obtain ⟨y, h1, ev⟩ := bind_some ev
    obtain ⟨n, h2, ev⟩ := bind_some ev
    obtain ⟨d, h3, ev⟩ := bind_some ev
    obtain ⟨x, h4, h5⟩ := map_some ev
    cases h5
    obtain ⟨ds, j, rfl, e1, e2, e3, e4⟩ := popD_some h4
    obtain ⟨w, hw, ty⟩ := lst_at E h0
    refine ⟨w, hw, ty, ?_⟩
    show tE K P e σ H _
    refine ⟨false, Z, c, env, y.1, y.2, E, G, h1, fun v H1 Z1 c1 ca E1 q1 G1 F1 _ => ?_⟩
    rw [A.of_int h2] at q1
    have hv := q1.1
    have hc := q1.2
    subst hv hc
    rw [add_zcR] at G1 F1
    rw [e4] at k
    obtain ⟨p, vs, v, c', rfl, hp, hl, hv, E4, G4, F4, q4⟩ := pop_own E1 G1 h3 hw e2 e3
    have e1 : (if ds.length ≤ sizeLine then L2.ixN ds.length n else none) = some j := e1
    split at e1
    · rename_i hsz
      obtain ⟨s1, s2, s3, s4⟩ := L2.ixN_seq e1
      have hn := line63
      refine ⟨p, vs, n, j, v, rfl, rfl, hp, by omega, by omega, by rw [hl]; exact s1, hv, ?_⟩
      exact k v _ Z1 c' zc E4 q4 (by rw [add_zcR]; exact G4) (by rw [add_zcR]; exact F1.trans F4) fun x => by cases x
    · cases e1
theorem in_dnew {Q : VK} (h : tE K P (.dK []) σ H Q) : tDNewK σ H Q := by
  obtain ⟨m, Z, c, env, a, env', E, G, ev, k⟩ := h
  have ev : some (A.tmp (.dK true [] []), env) = some (a, env') := ev
  cases ev
  intro p hp
  obtain ⟨E2, G2, F2, M2⟩ := new_own (m := m) (c := c) (H := H) (Z := Z) (o := HO.dK []) hp rfl E (show Gd Z H (add c zc) by rw [add_zcR]; exact G) (by rw [add_zcR]; exact Fr.refl) (fun _ _ _ => rfl)
  exact k _ _ Z c (add (one p) zc) E2 ⟨p, [], zc, rfl, upd_same, ⟨rfl, List.nodup_nil⟩, ⟨rfl, rfl⟩, rfl⟩ G2 F2 M2
end
section
variable {K : PySem.W.Frag}
theorem prK_of {Z : Addr → Prop} {H : Hp} : ∀ {ds : List D} {vs : List V} {c : Cnt} {ps : List (Key × D)}, Dens K Z H ds vs c → prK? ds = some ps → ∃ (as : List Addr) (kvs : List (Key × V)), vs = as.map V.ref ∧ Paired (fun p kv => SqT K H p [kV kv.1, kv.2]) as kvs ∧ kvs.map (·.1) = ps.map (·.1) ∧ Dens K Z H (ps.map (·.2)) (kvs.map (·.2)) zc
  | [], vs, c, ps, q, h => by
    obtain ⟨rfl, _⟩ := q
    cases h
    exact ⟨[], [], rfl, .nil, rfl, ⟨rfl, rfl⟩⟩
  | d :: ds, vs, c, ps, q, h => by
    unfold prK? at h
    split at h
    · rename_i e; cases e
    · rename_i k v ds' e
      cases e
      obtain ⟨hp, h⟩ := if_some h
      obtain ⟨kk, h1, h2⟩ := bind_some h
      obtain ⟨ps', h3, rfl⟩ := map_some h2
      obtain ⟨u, r, c1, c2, rfl, ⟨a, ws, rfl, s, q1⟩, q2, _⟩ := q
      obtain ⟨w1, r1, _, _, rfl, qk, q3, _⟩ := q1
      obtain ⟨w2, r2, cv, _, rfl, qv, q4, _⟩ := q3
      obtain ⟨rfl, _⟩ := q4
      have := Den.pl hp qv
      subst this
      obtain ⟨as, kvs, rfl, g1, g2, g3⟩ := prK_of q2 h3
      rw [keyD qk h1] at s
      refine ⟨a :: as, (kk, w2) :: kvs, rfl, .cons s g1, by rw [List.map_cons, List.map_cons, g2], ⟨w2, _, zc, zc, rfl, qv, g3, (add_zc _).symm⟩⟩
    · cases h
theorem ok_dict : OpOk K .dict (rOp K .dict) := by
  refine ok_one _ (fun Z H c a v d Q c1 q G e k => ?_) rfl (fun a b r => by cases a <;> rfl)
  cases a with
  | lst o ds =>
    obtain ⟨ps, h1, h2⟩ := map_some (show (prK? ds).map (fun ps => D.dK true (mergeD ps).1 (mergeD ps).2) = some d from e)
    subst h2
    obtain ⟨a, vs, c', rfl, s, q⟩ := q.lstI
    obtain ⟨as, kvs, rfl, g1, g2, g3⟩ := prK_of q h1
    obtain ⟨nd, c'', q'', le'⟩ := merge_den (K := K) (Z := Z) (H := H) ps kvs [] [] [] zc zc ⟨rfl, .nil⟩ ⟨rfl, rfl⟩ g2 g3
    have e0 : c'' = zc := by funext a; have := le' a; simp only [zc] at *; omega
    subst e0
    refine ⟨a, as, kvs, rfl, SqL.of s, g1, fun p hp => ?_⟩
    exact k _ _ (one p) ⟨p, _, zc, rfl, upd_same, nd, Dens.loc (fun _ z => z) (fun a o h _ => keep_new hp a o h) q'', (add_zc _).symm⟩ (by rw [add_comm]; exact G.new hp rfl) (keep_new hp) fun a h => one_ne fun e => h (e ▸ hp)
  | _ => cases e
/-- the operations served so far -/
def served : Op → Bool
  | .toStr => false
  | .sumT => false
  | .index => false
  | .count => false
  | .get2 => false
  | _ => true
theorem ok_op (o : Op) (h : served o = true) : OpOk K o (rOp K o) := by
  cases o with
  | bin o => exact ok_bin o
  | cmp o => exact ok_cmp o
  | neg => exact ok_neg
  | isN => exact ok_isN
  | notN => exact ok_notN
  | isB b => exact ok_isB b
  | nisB b => exact ok_nisB b
  | len => exact ok_len
  | tuple => exact ok_tuple
  | list => exact ok_list
  | sorted => exact ok_sorted
  | sum => exact ok_sum
  | all => exact ok_all
  | any => exact ok_any
  | min => exact ok_min
  | max => exact ok_max
  | abs => exact ok_abs
  | toInt => exact ok_toInt
  | min2 => exact ok_min2
  | max2 => exact ok_max2
  | lrange => exact ok_lrange
  | trange => exact ok_trange
  | isi t => exact ok_isi t
  | rev => exact ok_rev
  | setLen => exact ok_setLen
  | setSorted => exact ok_setSorted
  | dict => exact ok_dict
  | _ => cases h
end
end DL
end

section
/-! DX2: a thing frozen at once; methods that look. -/
namespace DL
open PySem PySem.Spec L2
open PyProof.Rows hiding St
section
variable {K : PySem.W.Frag} {P : Ctx}
theorem in_frz {e : E} {σ : L2.St} {H : Hp} {Q : VK} (h : tE K P (.frz e) σ H Q) : tE K P e σ H Q := by
  obtain ⟨m, Z, c, env, a, env', E, G, ev, k⟩ := h
  obtain ⟨x, h1, h2⟩ := bind_some (show ((evA P m e env).bind fun x => (x.1.tmp?).map fun d => (A.tmp d.freeze, x.2)) = some (a, env') from ev)
  obtain ⟨d, h3, h4⟩ := map_some h2
  cases h4
  refine ⟨m, Z, c, env, x.1, x.2, E, G, h1, fun v H' Z' c' ca E' q' G' F' M' => ?_⟩
  have hx : x.1 = .tmp d := by
    cases hx : x.1 with
    | tmp d' => rw [hx] at h3; cases h3; rfl
    | _ => rw [hx] at h3; cases h3
  rw [hx] at q'
  have q' : Den K Z' H' d v ca := q'
  have E2 : ED K (fun a => Z' a ∨ ca a ≠ 0) H' x.2 σ c' := ED.loc (fun _ => .inl) (fun _ _ h _ => h) E'
  refine k v H' (fun a => Z' a ∨ ca a ≠ 0) c' zc E2 (Den.frz (fun _ => .inl) (fun _ => .inr) q') ?_ ?_ fun _ _ _ => rfl
  · intro a
    obtain ⟨g1, g2, g3⟩ := G' a
    simp only [add, zc] at *
    refine ⟨by omega, fun x => g2 (by omega), fun z => ?_⟩
    rcases z with z | z
    · exact ⟨by have := (g3 z).1; omega, (g3 z).2⟩
    · exact ⟨by omega, (g2 (by omega)).ne⟩
  · intro a
    obtain ⟨f1, f2, f3, f4⟩ := F' a
    simp only [add, zc] at *
    refine ⟨fun z => .inl (f1 z), f2, f3, fun n x => ?_⟩
    obtain ⟨g1, g2⟩ := f4 n x
    refine ⟨by omega, fun z => ?_⟩
    rcases z with z | z
    · exact g2 z
    · omega
/-! ### xs.index(x), xs.count(x) -/
def rM (K : PySem.W.Frag) : Op → V → List V → Hp → VK → Prop
  | .index => rIndex K
  | .count => rCntI K
  | _ => fun _ _ _ _ => False
def mthOk (o : Op) : Bool := match o with
  | .index => true
  | .count => true
  | _ => false
theorem find_first {k : Int} : ∀ {ns : List Int} {n j : Nat}, find k ns n = some j → n ≤ j ∧ ns[j - n]? = some k ∧ ∀ m, m < j - n → ns[m]? ≠ some k
  | [], _, _, h => by cases h
  | x :: ns, n, j, h => by
    have h : (if x = k then some n else find k ns (n + 1)) = some j := h
    split at h
    · cases h
      rename_i e
      exact ⟨Nat.le_refl _, by rw [Nat.sub_self, e]; rfl, fun m hm => by omega⟩
    · rename_i hne
      obtain ⟨g1, g2, g3⟩ := find_first h
      refine ⟨by omega, by rw [show j - n = (j - (n + 1)) + 1 by omega]; exact g2, fun m hm => ?_⟩
      cases m with
      | zero => intro e; exact hne (Option.some.inj e)
      | succ m => exact g3 m (by omega)
theorem ok_mth (o : Op) (ho : mthOk o = true) {Z : Addr → Prop} {H : Hp} {c : Cnt} {ds : List D} {vs : List V} {b d : D} {v : V} {cb : Cnt} {Q : VK} (qb : Den K Z H b v cb) (B : DenB K Z H ds vs) (G : Gd Z H c) (e : opD o (b :: ds) = some d) (k : OpK K Z H c d Q) : rM K o v vs H Q := by
  obtain ⟨o', es, rfl⟩ : ∃ o' es, b = .lst o' es := by
    unfold mthOk at ho
    split at ho
    · cases b <;> first | exact ⟨_, _, rfl⟩ | (exfalso; rcases ds with _ | ⟨x, _ | ⟨y, r⟩⟩ <;> first | (cases e; done) | (cases x <;> cases e))
    · cases b <;> first | exact ⟨_, _, rfl⟩ | (exfalso; rcases ds with _ | ⟨x, _ | ⟨y, r⟩⟩ <;> first | (cases e; done) | (cases x <;> cases e))
    · cases ho
  unfold mthOk at ho
  split at ho
  · rcases ds with _ | ⟨x, _ | ⟨y, r⟩⟩
    · cases e
    · cases x with
      | int kk =>
        obtain ⟨ns, h1, h2⟩ := bind_some (show ((ints? es).bind fun ns => (find kk ns 0).map fun (j : Nat) => D.int (Int.ofNat j)) = some d from e)
        obtain ⟨j, h3, h4⟩ := map_some h2
        subst h4
        obtain ⟨a, rfl, s⟩ := lst_ints qb h1
        obtain ⟨u, rs, cu, rfl, qu, rs0⟩ := B
        have rs0 : rs = [] := rs0
        subst rs0
        have hu : u = .int kk := qu.1
        subst hu
        obtain ⟨_, g2, g3⟩ := find_first h3
        rw [Nat.sub_zero] at g2 g3
        have ev : ∀ i : Int, eqV (.int i) (.int kk) = decide (i = kk) := fun i => by
          show (i == kk) = _
          by_cases e : i = kk <;> simp [e]
        refine ⟨a, ns.map V.int, .int kk, j, .int kk, rfl, rfl, s, rfl, ?_, by rw [List.getElem?_map, g2]; rfl, by rw [ev]; simp, fun m z' hm hz => ?_, k_plain k G ⟨rfl, rfl⟩⟩
        · rw [List.all_map]
          exact List.all_eq_true.mpr fun _ _ => rfl
        · rw [List.getElem?_map] at hz
          cases hn : ns[m]? with
          | none => rw [hn] at hz; cases hz
          | some i =>
            rw [hn] at hz
            cases hz
            rw [ev]
            exact decide_eq_false fun e => g3 m hm (by rw [hn, e])
      | _ => cases e
    · cases x <;> cases e
  · rcases ds with _ | ⟨x, _ | ⟨y, r⟩⟩
    · cases e
    · cases x with
      | int kk =>
        obtain ⟨ns, h1, h2⟩ := map_some (show ((ints? es).map fun ns => D.int (ns.count kk : Nat)) = some d from e)
        subst h2
        obtain ⟨a, rfl, s⟩ := lst_ints qb h1
        obtain ⟨u, rs, cu, rfl, qu, rs0⟩ := B
        have rs0 : rs = [] := rs0
        subst rs0
        have hu : u = .int kk := qu.1
        subst hu
        exact ⟨a, ns, kk, rfl, rfl, s, k_plain k G ⟨rfl, rfl⟩⟩
      | _ => cases e
    · cases x <;> cases e
  · cases ho
theorem isPk_ref {a : A} (h : a.isPk = false) : ∀ d, a ≠ .pk d := by
  intro d e; subst e; cases h
/-- an operand, then others, then what looks at all of them -/
theorem in_mth {t : MT} {o : Op} {a : E} {es : List E} {ty : V → Hp → Prop} {r : V → List V → Hp → VK → Prop}
    (hty : ∀ (Z : Addr → Prop) (H : Hp) (d : D) (v : V) (c : Cnt), Den K Z H d v c → t.has d = some () → ty v H)
    (hok : ∀ (Z : Addr → Prop) (H : Hp) (c : Cnt) (ds : List D) (vs : List V) (b d : D) (v : V) (cb : Cnt) (Q : VK), Den K Z H b v cb → DenB K Z H ds vs → Gd Z H c → opD o (b :: ds) = some d → OpK K Z H c d Q → r v vs H Q)
    {σ : L2.St} {H : Hp} {Q : VK} (h : tE K P (.mth t o a es) σ H Q) : tE K P a σ H (fun x H1 => ty x H1 ∧ tL (es.map (tE K P)) σ H1 fun xs H2 => r x xs H2 Q) := by
  obtain ⟨m, Z, c, env, r', env', E, G, ev, k⟩ := h
  obtain ⟨x, h1, h2⟩ := bind_some (show ((evA P m a env).bind fun x => ((x.1.get x.2).bind t.has).bind fun _ => (evAs P (m || x.1.isPk) es x.2).bind fun y => (A.gets y.2 (x.1 :: y.1)).bind fun ds => (opD o ds).map fun d => (A.tmp d, y.2)) = some (r', env') from ev)
  obtain ⟨u, h3, h4⟩ := bind_some h2
  obtain ⟨y, h5, h6⟩ := bind_some h4
  obtain ⟨ds, h7, h8⟩ := bind_some h6
  obtain ⟨d, h9, h10⟩ := map_some h8
  cases h10
  obtain ⟨b0, g1, g2⟩ := bind_some h3
  obtain ⟨b, g3, g4⟩ := bind_some (show ((A.get y.2 x.1).bind fun d => (A.gets y.2 y.1).map fun ds => d :: ds) = some ds from h7)
  obtain ⟨ds', g5, g6⟩ := map_some g4
  subst g6
  refine ⟨m, Z, c, env, x.1, x.2, E, G, h1, fun v H1 Z1 c1 ca1 E1 q1 G1 F1 M1 => ?_⟩
  obtain ⟨cb0, qb0, _⟩ := q1.look E1 g1
  refine ⟨hty _ _ _ _ _ qb0 g2, ?_⟩
  refine seqL ⟨m || x.1.isPk, Z1, c1, x.2, y.1, y.2, E1, G1.le (fun a => by simp only [add]; omega), h5, fun vs H2 Z2 c2 ca2 E2 q2 G2 F2 M2 => ?_⟩
  obtain ⟨q1', G', F'⟩ := frame_step G1 q1 F2 G2 isPk_of
  obtain ⟨cb, qb, eb⟩ := q1'.look E2 g3
  refine hok Z2 H2 (add (add c2 ca2) ca1) ds' vs b d v cb Q qb (ADs.look E2 q2 g5) G' h9 fun w H3 ca3 q3 G3 keep fresh => ?_
  have F3 := F1.trans (F'.low (by intro x; simp [x]))
  have F4 : Fr m Z2 H2 (add (add c2 ca2) ca1) Z2 H3 (add (add (add c2 ca2) ca1) ca3) := fun a => by
    refine ⟨fun z => z, fun n => ?_, fun n _ => ?_, fun n x => ⟨by have := fresh a n; simp only [add] at *; omega, fun z => z⟩⟩
    · obtain ⟨o, ho⟩ := Option.ne_none_iff_exists'.mp n
      rw [keep a o ho]; simp
    · obtain ⟨o, ho⟩ := Option.ne_none_iff_exists'.mp n
      rw [keep a o ho, ho]
  refine k w H3 Z2 c2 ca3 (ED.loc (fun _ z => z) (fun a o h _ => keep a o h) E2) q3 (G3.le fun a => by simp only [add]; omega) ((F3.trans F4).lessR fun a => by simp only [add]; omega) fun x b hb => ?_
  have n1 : H1 b ≠ none := (F1 b).2.1 hb
  exact fresh b ((F2 b).2.1 n1)
theorem ty_l (Z : Addr → Prop) (H : Hp) (d : D) (v : V) (c : Cnt) (q : Den K Z H d v c) (h : MT.l.has d = some ()) : tyV K "list" v H := by
  cases d with
  | lst o ds =>
    obtain ⟨a, vs, c', rfl, s, q⟩ := q.lstI
    exact .inl ⟨rfl, vs, SqL.of s⟩
  | _ => cases h
def tyD (x : V) (H : Hp) : Prop := ∃ a, x = .ref a ∧ IsD H a
theorem ty_d (Z : Addr → Prop) (H : Hp) (d : D) (v : V) (c : Cnt) (q : Den K Z H d v c) (h : MT.d.has d = some ()) : tyD v H := by
  cases d with
  | dK o ks ds =>
    obtain ⟨a, kvs, c', rfl, s, ek, q⟩ := q.dKI
    exact ⟨a, rfl, .inl ⟨kvs, .inl s⟩⟩
  | _ => cases h
def rGet2 : V → List V → Hp → VK → Prop := fun x xs H Q => ∃ a y z o, x = .ref a ∧ xs = [y, z] ∧ DGet H a y o ∧ Q (o.getD z) H
theorem ok_get2 (Z : Addr → Prop) (H : Hp) (c : Cnt) (ds : List D) (vs : List V) (b d : D) (v : V) (cb : Cnt) (Q : VK) (qb : Den K Z H b v cb) (B : DenB K Z H ds vs) (G : Gd Z H c) (e : opD .get2 (b :: ds) = some d) (k : OpK K Z H c d Q) : rGet2 v vs H Q := by
  obtain ⟨o', ks, es, y, z, rfl, rfl⟩ : ∃ o' ks es y z, b = .dK o' ks es ∧ ds = [y, z] := by
    cases b with
    | dK o' ks es =>
      rcases ds with _ | ⟨y, _ | ⟨z, _ | ⟨w, r⟩⟩⟩
      · cases e
      · cases e
      · exact ⟨_, _, _, _, _, rfl, rfl⟩
      · cases e
    | _ => exfalso; cases e
  obtain ⟨kk, h1, h2⟩ := bind_some (show ((D.key? y).bind fun k => (getKD ks es k z).bind fun d => if d.plain then some d else none) = some d from e)
  obtain ⟨d', h3, h4⟩ := bind_some h2
  obtain ⟨hp, h4⟩ := if_some h4
  cases h4
  obtain ⟨u, r1, cu, rfl, qu, u2, r2, cz, rfl, qz, e2⟩ := B
  have e2 : r2 = [] := e2
  subst e2
  have eu := keyD qu h1
  subst eu
  obtain ⟨a, kvs, c', rfl, s, ek, q⟩ := qb.dKI
  refine ⟨a, kV kk, u2, valV kvs kk, rfl, rfl, DGet.k s, ?_⟩
  unfold getKD at h3
  have hv := val_find kk kvs 0
  rw [ek.1] at hv
  cases hf : find kk ks 0 with
  | none =>
    rw [hf] at h3 hv
    cases h3
    have : valV kvs kk = none := hv
    rw [this]
    have := Den.pl hp qz
    subst this
    exact k_plain k G qz
  | some j =>
    rw [hf] at h3 hv
    obtain ⟨w, cd, e1, q1, le⟩ := dens_at q h3
    have : valV kvs kk = some w := hv.trans e1
    rw [this]
    have := Den.pl hp q1
    subst this
    exact k_plain k G q1
def mthN : Op → Str
  | .index => "index"
  | .count => "count"
  | _ => "get"
def plBase : PySem.Expr → Bool
  | .Name _ _ => true
  | .Subscript _ _ _ => true
  | _ => false
theorem plBase_ok {o : PySem.Expr} {m : Str} {env : Env} (h : plBase o = true) : attributeBase o m env (eval o env) = eval o env := by
  cases o <;> first | rfl | cases h
def mthChk (t : MT) (o : Op) (m : Str) : Nat → Bool
  | 1 => decide (t = .l) && mthOk o && decide (m = mthN o)
  | 2 => decide (t = .d) && decide (o = .get2) && decide (m = "get")
  | _ => false
end
end DL
end

section
/-! DL15: the compact text against the model's text; soundness of the readings of expressions and tests. -/
namespace DL
open PySem PySem.Spec L2
open PyProof.Rows hiding St

def plIx : PySem.Expr → Bool
  | .Name _ _ => true
  | .Constant _ _ _ => true
  | .BinOp _ _ _ _ => true
  | .UnaryOp _ _ _ => true
  | .Call _ _ _ _ => true
  | .Subscript _ _ _ => true
  | .IfExp _ _ _ _ => true
  | .Tuple _ _ _ => true
  | .Attribute _ _ _ => true
  | _ => false
theorem plIx_ok {b : PySem.Expr} (h : plIx b = true) : PlainIx b := by
  cases b <;> first | (intro o i; rfl) | cases h
/-- tests by their value's truth -/
def plT : PySem.Expr → Bool
  | .Name _ _ => true
  | .Constant _ _ _ => true
  | .BinOp _ _ _ _ => true
  | .Call _ _ _ _ => true
  | .Subscript _ _ _ => true
  | .Attribute _ _ _ => true
  | .Tuple _ _ _ => true
  | .List _ _ => true
  | .UnaryOp .USub _ _ => true
  | .ListComp _ _ _ _ => true
  | _ => false
theorem plT_ok {X : Cx} {b : PySem.Expr} (h : plT b = true) : ∀ whole, isTrue b X.env whole = (do let v ← whole; standAt b.pos; holding [v] (truthy v)) := by
  unfold plT at h
  split at h <;> first | (intro w; rfl) | cases h
def notSet : PySem.Expr → Bool
  | .Set _ _ _ => false
  | _ => true
theorem notSet_ok {X : Cx} {b : PySem.Expr} (h : notSet b = true) : ∀ x, foldedSetIterable b X.env x = pure x := by
  cases b <;> first | (intro x; rfl) | cases h
/-- a comparison, as a test -/
def cmpT : Op → Bool
  | .cmp _ => true
  | .isN => true
  | .notN => true
  | .isB _ => true
  | .nisB _ => true
  | _ => false

mutual
def chkE (fn : List (Str × Nat)) (bl : Bl) (N : List Str) (sc : Scope) : E → PySem.Expr → Bool
  | .var i, p => isVar N sc i p
  | .mv i, p => isVar N sc i p
  | .fz i, p => isVar N sc i p
  | .int n, p => match p with | .Constant (.int k) _ _ => decide (k = n) | _ => false
  | .bl b, p => match p with | .Constant (.bool k) _ _ => decide (k = b) | _ => false
  | .non, p => match p with | .Constant .none _ _ => true | _ => false
  | .str s, p => match p with | .Constant (.str k) _ _ => decide (k = s) | _ => false
  | .glb x ns, p => match p with | .Name y _ => decide (x = y) && glB sc x && !dbgB x && decide ((x, ns) ∈ bl.gl) | _ => false
  | .op o es, p => served o && match chkOp bl sc o p with | some ps => chkEs fn bl N sc es ps | none => false
  | .sub a i, p => match p with | .Subscript a' i' _ => plIx i' && chkE fn bl N sc a a' && chkE fn bl N sc i i' | _ => false
  | .tup es, p => match p with | .Tuple ps _ _ => ps.all notStar && chkEs fn bl N sc es ps | _ => false
  | .lst es, p => match p with | .List ps _ => ps.all notStar && chkEs fn bl N sc es ps | _ => false
  | .dK es, p => match p with | .Dict ks vs _ => (ks.isEmpty && vs.isEmpty && es.isEmpty) || (!ks.isEmpty && decide (ks.length ≤ 15) && chkKV fn bl N sc es ks vs) | _ => false
  | .dT, _ => false
  | .sli a lo hi, p => match p with | .Subscript a' (.Slice l h none _) _ => chkE fn bl N sc a a' && chkO fn bl N sc lo l && chkO fn bl N sc hi h | _ => false
  | .ite c a b, p => match p with | .IfExp c' a' b' _ => chkT fn bl N sc c c' && chkE fn bl N sc a a' && chkE fn bl N sc b b' | _ => false
  | .and es, p => match p with | .BoolOp .And ps _ => chkEs fn bl N sc es ps && !ps.isEmpty | _ => false
  | .or es, p => match p with | .BoolOp .Or ps _ => chkEs fn bl N sc es ps && !ps.isEmpty | _ => false
  | .not e, p => match p with | .UnaryOp .Not e' _ => chkE fn bl N sc e e' | _ => false
  | .cmp3 o1 o2 o3 a b c d, p => match p with | .Compare a' [q1, q2, q3] [b', c', d'] _ => decide (q1 = o1) && decide (q2 = o2) && decide (q3 = o3) && !lastMarks [o1, o2, o3] [b', c', d'] && chkE fn bl N sc a a' && chkE fn bl N sc b b' && chkE fn bl N sc c c' && chkE fn bl N sc d d' | _ => false
  | .cmp2 o1 o2 a b c, p => match p with | .Compare a' [q1, q2] [b', c'] _ => decide (q1 = o1) && decide (q2 = o2) && !lastMarks [o1, o2] [b', c'] && chkE fn bl N sc a a' && chkE fn bl N sc b b' && chkE fn bl N sc c c' | _ => false
  | .call f es, p => match p with | .Call (.Name x _) ps [] _ => decide (fn[f]? = some (x, es.length)) && glB sc x && !dbgB x && ps.all notStar && chkEs fn bl N sc es ps | _ => false
  | .pop i path, p => path.isEmpty && match p with | .Call (.Attribute o a ap) [] [] cp => isVar N sc i o && decide (a = "pop") && decide (ap.endLine = cp.line) | _ => false
  | .popAt i path k, p => path.isEmpty && match p with | .Call (.Attribute o a ap) [e] [] cp => isVar N sc i o && decide (a = "pop") && decide (ap.endLine = cp.line) && notStar e && chkE fn bl N sc k e | _ => false
  | .comp tg own k src ifs elt, p => match p with
    | .ListComp elt' [⟨tg', iter, ifs', 0⟩] scope _ => notSet iter && zipOk k tg' && blkC N sc scope (own.map fun i => ((N[i]?).getD ⟨#[]⟩, i)) && (tgS tg).all own.contains && decide (ifs.length ≤ 1) &&
        chkTg N (relS scope sc) (fun x => scope.names.lookup x == some .cell) tg tg' && (match chkSrc bl sc k iter with | some ps => chkEs fn bl N sc src ps | none => false) && chkTs fn bl N (relS scope sc) ifs ifs' && chkE fn bl N (relS scope sc) elt elt'
    | _ => false
  | .frz e, p => chkE fn bl N sc e p
  | .mth t o a es, p => match p with | .Call (.Attribute ob m ap) ps [] cp => plBase ob && decide (ap.endLine = cp.line) && ps.all notStar && mthChk t o m ps.length && chkE fn bl N sc a ob && chkEs fn bl N sc es ps | _ => false
def chkEs (fn : List (Str × Nat)) (bl : Bl) (N : List Str) (sc : Scope) : List E → List PySem.Expr → Bool
  | [], ps => ps.isEmpty
  | e :: es, ps => match ps with | p :: ps => chkE fn bl N sc e p && chkEs fn bl N sc es ps | [] => false
def chkKV (fn : List (Str × Nat)) (bl : Bl) (N : List Str) (sc : Scope) : List E → List (Option PySem.Expr) → List PySem.Expr → Bool
  | [], ks, vs => ks.isEmpty && vs.isEmpty
  | [_], _, _ => false
  | e :: f :: es, ks, vs => match ks, vs with | some k :: ks, v :: vs => chkE fn bl N sc e k && chkE fn bl N sc f v && chkKV fn bl N sc es ks vs | _, _ => false
def chkO (fn : List (Str × Nat)) (bl : Bl) (N : List Str) (sc : Scope) : List E → Option PySem.Expr → Bool
  | [], p => p.isNone
  | e :: es, p => match p with | some p => chkE fn bl N sc e p && es.isEmpty | none => false
def chkT (fn : List (Str × Nat)) (bl : Bl) (N : List Str) (sc : Scope) : T → PySem.Expr → Bool
  | .val e, p => (plT p && chkE fn bl N sc e p) || (match e with
    | .op o es => cmpT o && match chkOp bl sc o p with | some ps => chkEs fn bl N sc es ps | none => false
    | .cmp3 o1 o2 o3 a b c d => (match p with | .Compare a' [q1, q2, q3] [b', c', d'] _ => decide (q1 = o1) && decide (q2 = o2) && decide (q3 = o3) && !lastMarks [o1, o2, o3] [b', c', d'] && chkE fn bl N sc a a' && chkE fn bl N sc b b' && chkE fn bl N sc c c' && chkE fn bl N sc d d' | _ => false)
    | .cmp2 o1 o2 a b c => (match p with | .Compare a' [q1, q2] [b', c'] _ => decide (q1 = o1) && decide (q2 = o2) && !lastMarks [o1, o2] [b', c'] && chkE fn bl N sc a a' && chkE fn bl N sc b b' && chkE fn bl N sc c c' | _ => false)
    | _ => false)
  | .and ts, p => match p with | .BoolOp .And ps _ => chkTs fn bl N sc ts ps && !ps.isEmpty | _ => false
  | .or ts, p => match p with | .BoolOp .Or ps _ => chkTs fn bl N sc ts ps && !ps.isEmpty | _ => false
  | .not t, p => match p with | .UnaryOp .Not e' _ => chkT fn bl N sc t e' | _ => false
  | .ite c a b, p => match p with | .IfExp c' a' b' _ => chkT fn bl N sc c c' && chkT fn bl N sc a a' && chkT fn bl N sc b b' | _ => false
def chkTs (fn : List (Str × Nat)) (bl : Bl) (N : List Str) (sc : Scope) : List T → List PySem.Expr → Bool
  | [], ps => ps.isEmpty
  | t :: ts, ps => match ps with | p :: ps => chkT fn bl N sc t p && chkTs fn bl N sc ts ps | [] => false
end
end DL
end

section
/-! DL16: soundness of the readings of expressions and tests. -/
namespace DL
open PySem PySem.Spec L2
open PyProof.Rows hiding St

section
variable {X : Cx} {P : Ctx} {fn : List (Str × Nat)} {bl : Bl} {N : List Str} {sc : Scope}
theorem pt_op_of (C : CtxOk P fn bl N X) (hs : X.env.scope = sc) (o : Op) (hc : cmpT o = true) {p : PySem.Expr} {ps : List PySem.Expr} (h : chkOp bl sc o p = some ps) {ts : List TE} (hp : PEs X ps ts) :
    PT X p (fun σ H Q => tL ts σ H fun vs H1 => rOp X.K o vs H1 (fun x H2 => ∃ k, x = .bl k ∧ Q k H2)) := by
  unfold chkOp at h
  split at h <;> first | (cases hc; done) | skip
  · split at h
    · rename_i e
      rw [Bool.and_eq_true] at e
      have e1 := of_decide_eq_true e.1
      subst e1; cases h
      cases hp with
      | cons h1 hp => cases hp with
        | cons h2 hp => cases hp; exact pt_cmpR (op_cmp C.room _) h1 h2 (by simpa using e.2)
    · cases h
  · cases h
    cases hp with
    | cons h1 hp => cases hp; exact pt_cmp (pc_isN h1) (nomark _)
  · cases h
    cases hp with
    | cons h1 hp => cases hp; exact pt_cmp (pc_notN h1) (nomark _)
  · split at h
    · rename_i e; subst e; cases h
      cases hp with
      | cons h1 hp => cases hp; exact pt_cmpR op_isBl h1 pe_bl (nomark _)
    · cases h
  · split at h
    · rename_i e; subst e; cases h
      cases hp with
      | cons h1 hp => cases hp; exact pt_cmpR op_notBl h1 pe_bl (nomark _)
    · cases h
  · cases h
theorem opD_bl (o : Op) (hc : cmpT o = true) (ds : List D) (d : D) (t : Bool) (h : opD o ds = some d) (ht : d.truthy = some t) : d = .bl t := by
  have hb : ∃ b, d = .bl b := by
    unfold opD at h
    split at h <;> first | (cases hc; done) | skip
    · unfold cmpD at h
      split at h <;> first
        | (cases h; exact ⟨_, rfl⟩)
        | (split at h <;> first | (cases h; exact ⟨_, rfl⟩) | cases h)
        | (obtain ⟨k, _, rfl⟩ := map_some h; exact ⟨_, rfl⟩)
        | cases h
    · cases h; exact ⟨_, rfl⟩
    · cases h; exact ⟨_, rfl⟩
    · cases h; exact ⟨_, rfl⟩
    · cases h; exact ⟨_, rfl⟩
    · cases h
  obtain ⟨b, rfl⟩ := hb
  cases ht; rfl
theorem tE_mono {K : PySem.W.Frag} {P : Ctx} {e : E} {σ : L2.St} {H : Hp} {Q Q' : VK} (h : tE K P e σ H Q) (f : ∀ x H1, Q x H1 → Q' x H1) : tE K P e σ H Q' := by
  obtain ⟨m, Z, c, env, a, env', E, G, ev, k⟩ := h
  exact ⟨m, Z, c, env, a, env', E, G, ev, fun v H' Z' c' ca E' q' G' F' M' => f _ _ (k v H' Z' c' ca E' q' G' F' M')⟩
theorem CtxOk.blk (C : CtxOk P fn bl N X) (s : Shared) (H : Hp) (scope : Scope) (Cc : Addr) (cl : List (Str × Addr)) (fp : List Addr) : CtxOk P fn bl N (X.blk s H scope (compEnvC scope cl Cc X.env) fp) where
  calm := C.calm
  hN := C.hN
  nd := C.nd
  pass := PassesOwn.never
  room := C.room
  fns := C.fns
  blt := C.blt
  gk := C.gk
theorem PEs.length : ∀ {ps : List PySem.Expr} {ts : List TE}, PEs X ps ts → ps.length = ts.length
  | _, _, .nil => rfl
  | _, _, .cons _ h => by simp [PEs.length h]
theorem andL : ∀ {es : List E} {ps : List PySem.Expr} {pos : Pos}, PEs X ps (es.map (tE X.K P)) → ps ≠ [] → PE X (.BoolOp .And ps pos) (tE X.K P (.and es))
  | [], _, _, h, n => by cases h; exact absurd rfl n
  | [e], _, _, h, _ => by
    cases h with
    | cons h1 h => cases h; exact PE.imp (pe_one h1) fun σ H Q q => in_and1 q
  | e :: f :: es, _, _, h, _ => by
    cases h with
    | cons h1 h =>
      have ih := fun pos => andL (es := f :: es) (pos := pos) h (by rintro rfl; cases h)
      cases h with
      | cons h2 h => exact PE.imp (pe_and h1 (ih _)) fun σ H Q q => in_and q
theorem orL : ∀ {es : List E} {ps : List PySem.Expr} {pos : Pos}, PEs X ps (es.map (tE X.K P)) → ps ≠ [] → PE X (.BoolOp .Or ps pos) (tE X.K P (.or es))
  | [], _, _, h, n => by cases h; exact absurd rfl n
  | [e], _, _, h, _ => by
    cases h with
    | cons h1 h => cases h; exact PE.imp (pe_one h1) fun σ H Q q => in_or1 q
  | e :: f :: es, _, _, h, _ => by
    cases h with
    | cons h1 h =>
      have ih := fun pos => orL (es := f :: es) (pos := pos) h (by rintro rfl; cases h)
      cases h with
      | cons h2 h => exact PE.imp (pe_or h1 (ih _)) fun σ H Q q => in_or q
/-- one expression a test -/
inductive PTL (X : Cx) : List PySem.Expr → List TT → Prop where
  | nil : PTL X [] []
  | cons {p : PySem.Expr} {ps : List PySem.Expr} {t : TT} {ts : List TT} : PT X p t → PTL X ps ts → PTL X (p :: ps) (t :: ts)
theorem andT : ∀ {es : List T} {ps : List PySem.Expr} {pos : Pos}, PTL X ps (es.map (tT X.K P)) → ps ≠ [] → PW X (.BoolOp .And ps pos) (tT X.K P (.and es))
  | [], _, _, h, n => by cases h; exact absurd rfl n
  | [e], _, _, h, _ => by
    cases h with
    | cons h1 h => cases h; exact pw_and1 (PT.imp h1 fun σ H Q q => in_tand1 q)
  | e :: f :: es, _, _, h, _ => by
    cases h with
    | cons h1 h =>
      have ih := fun pos => andT (es := f :: es) (pos := pos) h (by rintro rfl; cases h)
      cases h with
      | cons h2 h =>
        have := pw_and h1 (ih ⟨0, 0, 0, 0⟩)
        exact ⟨fun wh pins s σ H Q I q => (pw_and h1 (ih _)).run wh pins s σ H Q I (in_tand q)⟩
theorem orT : ∀ {es : List T} {ps : List PySem.Expr} {pos : Pos}, PTL X ps (es.map (tT X.K P)) → ps ≠ [] → PW X (.BoolOp .Or ps pos) (tT X.K P (.or es))
  | [], _, _, h, n => by cases h; exact absurd rfl n
  | [e], _, _, h, _ => by
    cases h with
    | cons h1 h => cases h; exact pw_or1 (PT.imp h1 fun σ H Q q => in_tor1 q)
  | e :: f :: es, _, _, h, _ => by
    cases h with
    | cons h1 h =>
      have ih := fun pos => orT (es := f :: es) (pos := pos) h (by rintro rfl; cases h)
      cases h with
      | cons h2 h => exact ⟨fun wh pins s σ H Q I q => (pw_or h1 (ih _)).run wh pins s σ H Q I (in_tor q)⟩
theorem pt_ifE {c a b : PySem.Expr} {pos : Pos} {tc ta tb : TT} (hc : PT X c tc) (ha : PT X a ta) (hb : PT X b tb) : PT X (.IfExp c a b pos) (fun σ H Q => tc σ H fun k H1 => if k = true then ta σ H1 Q else tb σ H1 Q) := by
  refine ⟨fun pins s σ H Q I h => ?_⟩
  refine isTrue_IfExp (thn (hc.run pins s σ H _ I h) fun d s1 ⟨H1, I1, q1⟩ => ?_)
  cases d with
  | true => exact ha.run pins s1 σ H1 Q I1 q1
  | false => exact hb.run pins s1 σ H1 Q I1 q1
end

theorem cmpD_bl {o : CmpOp} {a b d : D} (h : cmpD o a b = some d) : ∃ b, d = .bl b := by
  unfold cmpD at h
  split at h <;> first
    | (cases h; exact ⟨_, rfl⟩)
    | (split at h <;> first | (cases h; exact ⟨_, rfl⟩) | cases h)
    | (obtain ⟨k, _, rfl⟩ := map_some h; exact ⟨_, rfl⟩)
    | cases h
theorem in_cmp2T {K : PySem.W.Frag} {P : Ctx} {o1 o2 : CmpOp} {a b e : E} {σ : L2.St} {H : Hp} {Q : Bool → Hp → Prop} (h : tT K P (.val (.cmp2 o1 o2 a b e)) σ H Q) : tTest (tChain (rCmp K o1) (rCmp K o2) (tE K P a) (tE K P b) (tE K P e)) σ H Q := by
  obtain ⟨m, Z, c, env, r, env', E, G, ev, k⟩ := h
  obtain ⟨x, h1, h2⟩ := bind_some (show ((evA P m (.cmp2 o1 o2 a b e) env).bind fun x => (x.1.get x.2).bind fun d => (d.truthy).map fun t => (t, x.2)) = some (r, env') from ev)
  obtain ⟨d, h3, h4⟩ := bind_some h2
  obtain ⟨t, h5, h6⟩ := map_some h4
  injection h6 with ha hb
  subst ha hb
  have hd : x.1 = .tmp (.bl t) := by
    obtain ⟨y, g1, g2⟩ := bind_some (show ((evA P m a env).bind fun x => (evA P (m || x.1.isPk) b x.2).bind fun y => (x.1.tmp?).bind fun dx => (y.1.tmp?).bind fun dy =>
      ((cmpD o1 dx dy).bind D.bl?).bind fun t => if t then (evA P m e y.2).bind fun z => (z.1.tmp?).bind fun dz => (cmpD o2 dy dz).map fun d => (A.tmp d, z.2) else some (.tmp (.bl false), y.2)) = some x from h1)
    obtain ⟨z, g3, g4⟩ := bind_some g2
    obtain ⟨dx, g5, g6⟩ := bind_some g4
    obtain ⟨dy, g7, g8⟩ := bind_some g6
    obtain ⟨u, g9, g10⟩ := bind_some g8
    have fin : ∀ b : Bool, x.1 = .tmp (.bl b) → x.1 = .tmp (.bl t) := by
      intro b hb
      rw [hb] at h3
      injection h3 with h3
      subst h3
      injection h5 with h5
      rw [hb, h5]
    cases u with
    | false =>
      rw [if_neg (by decide)] at g10
      injection g10 with g10
      exact fin false (by rw [← g10])
    | true =>
      rw [if_pos rfl] at g10
      obtain ⟨w, g11, g12⟩ := bind_some g10
      obtain ⟨dz, g13, g14⟩ := bind_some g12
      obtain ⟨d2, g15, g16⟩ := map_some g14
      obtain ⟨b2, rfl⟩ := cmpD_bl g15
      exact fin b2 (by rw [← g16])
  refine in_cmp2 ⟨m, Z, c, env, x.1, x.2, E, G, h1, fun v H' Z' c' ca E' q' G' F' M' => ?_⟩
  rw [hd] at q'
  obtain ⟨rfl, rfl⟩ := q'
  rw [add_zc] at G' F'
  exact ⟨t, rfl, k H' Z' c' E' G' F'⟩
theorem pe_chain3 {X : Cx} {op op' op'' : CmpOp} {r r' r'' : R2} {a b c d : PySem.Expr} {ta tb tc td : TE} {pos : Pos} (ho : OpR X (compareOp op) r) (ho' : OpR X (compareOp op') r') (ho'' : OpR X (compareOp op'') r'') (ha : PE X a ta) (hb : PE X b tb) (hc : PE X c tc) (hd : PE X d td)
    (hm : lastMarks [op, op', op''] [b, c, d] = false) : PE X (.Compare a [op, op', op''] [b, c, d] pos) (tChain3 r r' r'' ta tb tc td) := by
  refine ⟨fun pins s σ H Q I h => ?_⟩
  refine Compare_chain (thn (ha.run pins s σ H _ I h) fun v s1 ⟨x, H1, I1, r1, q1⟩ => chain_link (thn (hb.run pins s1 σ H1 _ I1 q1) fun u s2 ⟨y, H2, I2, r2, q2⟩ =>
    thn (ho pins s2 σ H2 x y v u _ I2 r1 r2 q2) fun d s3 ⟨z, H3, I3, r3, k, e, q3⟩ => ?_)) hm
  subst e
  cases r3
  refine wpAny_truthy_bool ?_
  cases k with
  | false => exact ite_ff ⟨.bl false, H3, I3, rfl, q3⟩
  | true =>
    refine ite_tt (chain_link (thn (hc.run pins s3 σ H3 _ I3 q3) fun w' s4 ⟨z', H4, I4, r4, q4⟩ => thn (ho' pins s4 σ H4 y z' u w' _ I4 r2 r4 q4) fun d' s5 ⟨z2, H5, I5, r5, k2, e2, q5⟩ => ?_))
    subst e2
    cases r5
    refine wpAny_truthy_bool ?_
    cases k2 with
    | false => exact ite_ff ⟨.bl false, H5, I5, rfl, q5⟩
    | true => exact ite_tt (chain_last (thn (hd.run pins s5 σ H5 _ I5 q5) fun u' s6 ⟨z3, H6, I6, r6, q6⟩ => ho'' pins s6 σ H6 z' z3 w' u' Q I6 r4 r6 q6))
theorem pt_chain3 {X : Cx} {op op' op'' : CmpOp} {r r' r'' : R2} {a b c d : PySem.Expr} {ta tb tc td : TE} {pos : Pos} (ho : OpR X (compareOp op) r) (ho' : OpR X (compareOp op') r') (ho'' : OpR X (compareOp op'') r'') (ha : PE X a ta) (hb : PE X b tb) (hc : PE X c tc) (hd : PE X d td)
    (hm : lastMarks [op, op', op''] [b, c, d] = false) : PT X (.Compare a [op, op', op''] [b, c, d] pos) (tTest (tChain3 r r' r'' ta tb tc td)) := by
  refine ⟨fun pins s σ H Q I h => ?_⟩
  refine isTrue_chain (thn (ha.run pins s σ H _ I h) fun v s1 ⟨x, H1, I1, r1, q1⟩ => test_link (thn (hb.run pins s1 σ H1 _ I1 q1) fun u s2 ⟨y, H2, I2, r2, q2⟩ =>
    thn (ho pins s2 σ H2 x y v u _ I2 r1 r2 q2) fun d s3 ⟨z, H3, I3, r3, k, e, q3⟩ => ?_)) hm
  subst e
  cases r3
  refine wpAny_truthy_bool ?_
  cases k with
  | false =>
    obtain ⟨k', e', q'⟩ := q3
    cases e'
    exact ite_ff ⟨H3, I3, q'⟩
  | true =>
    refine ite_tt (test_link (thn (hc.run pins s3 σ H3 _ I3 q3) fun w' s4 ⟨z', H4, I4, r4, q4⟩ => thn (ho' pins s4 σ H4 y z' u w' _ I4 r2 r4 q4) fun d' s5 ⟨z2, H5, I5, r5, k2, e2, q5⟩ => ?_))
    subst e2
    cases r5
    refine wpAny_truthy_bool ?_
    cases k2 with
    | false =>
      obtain ⟨k', e', q'⟩ := q5
      cases e'
      exact ite_ff ⟨H5, I5, q'⟩
    | true =>
      refine ite_tt (test_last (thn (hd.run pins s5 σ H5 _ I5 q5) fun u' s6 ⟨z3, H6, I6, r6, q6⟩ => thn (ho'' pins s6 σ H6 z' z3 w' u' _ I6 r4 r6 q6) fun d2 s7 ⟨z4, H7, I7, r7, k3, e3, q7⟩ => ?_))
      subst e3
      cases r7
      exact wpAny_truthy_bool ⟨H7, I7, q7⟩
theorem cmp3_bl {P : Ctx} {m : Bool} {o1 o2 o3 : CmpOp} {a b e f : E} {env : EnvD} {x : A × EnvD} (h1 : evA P m (.cmp3 o1 o2 o3 a b e f) env = some x) : ∃ t, x.1 = .tmp (.bl t) := by
  obtain ⟨y, g1, ev⟩ := bind_some (show ((evA P m a env).bind fun x => (x.1.int?).bind fun i => (evA P m b x.2).bind fun y => (y.1.int?).bind fun j => (cmpI o1 i j).bind fun t1 => if t1 then
      (evA P m e y.2).bind fun z => (z.1.int?).bind fun k => (cmpI o2 j k).bind fun t2 => if t2 then (evA P m f z.2).bind fun w => (w.1.int?).bind fun l => (cmpI o3 k l).map fun t3 => (A.tmp (.bl t3), w.2) else some (.tmp (.bl false), z.2) else some (.tmp (.bl false), y.2)) = some x from h1)
  obtain ⟨i, hi, ev⟩ := bind_some ev
  obtain ⟨y, h2, ev⟩ := bind_some ev
  obtain ⟨j, hj, ev⟩ := bind_some ev
  obtain ⟨t1, ht1, ev⟩ := bind_some ev
  cases t1 with
  | false => rw [if_neg (by decide)] at ev; injection ev with ev; exact ⟨false, by rw [← ev]⟩
  | true =>
    rw [if_pos rfl] at ev
    obtain ⟨z, h3, ev⟩ := bind_some ev
    obtain ⟨kk, hk, ev⟩ := bind_some ev
    obtain ⟨t2, ht2, ev⟩ := bind_some ev
    cases t2 with
    | false => rw [if_neg (by decide)] at ev; injection ev with ev; exact ⟨false, by rw [← ev]⟩
    | true =>
      rw [if_pos rfl] at ev
      obtain ⟨w, h4, ev⟩ := bind_some ev
      obtain ⟨l, hl, ev⟩ := bind_some ev
      obtain ⟨t3, ht3, ev⟩ := map_some ev
      exact ⟨t3, by rw [← ev]⟩
theorem in_cmp3T {K : PySem.W.Frag} {P : Ctx} {o1 o2 o3 : CmpOp} {a b e f : E} {σ : L2.St} {H : Hp} {Q : Bool → Hp → Prop} (h : tT K P (.val (.cmp3 o1 o2 o3 a b e f)) σ H Q) : tTest (tChain3 (rCmp K o1) (rCmp K o2) (rCmp K o3) (tE K P a) (tE K P b) (tE K P e) (tE K P f)) σ H Q := by
  obtain ⟨m, Z, c, env, r, env', E, G, ev, k⟩ := h
  obtain ⟨x, h1, h2⟩ := bind_some (show ((evA P m (.cmp3 o1 o2 o3 a b e f) env).bind fun x => (x.1.get x.2).bind fun d => (d.truthy).map fun t => (t, x.2)) = some (r, env') from ev)
  obtain ⟨d, h3, h4⟩ := bind_some h2
  obtain ⟨t, h5, h6⟩ := map_some h4
  injection h6 with ha hb
  subst ha hb
  have hd : x.1 = .tmp (.bl t) := by
    obtain ⟨u, hu⟩ := cmp3_bl h1
    rw [hu] at h3
    injection h3 with h3
    subst h3
    injection h5 with h5
    rw [hu, h5]
  refine in_cmp3 ⟨m, Z, c, env, x.1, x.2, E, G, h1, fun v H' Z' c' ca E' q' G' F' M' => ?_⟩
  rw [hd] at q'
  obtain ⟨rfl, rfl⟩ := q'
  rw [add_zc] at G' F'
  exact ⟨t, rfl, k H' Z' c' E' G' F'⟩
theorem own_ix {N : List Str} {own : List Nat} : (own.map fun i => ((N[i]?).getD ⟨#[]⟩, i)).map (·.2) = own := by
  induction own with
  | nil => rfl
  | cons a l ih => simpa using ih
mutual
theorem snd_E {P : Ctx} {fn : List (Str × Nat)} {bl : Bl} {N : List Str} {X : Cx} {sc : Scope} (C : CtxOk P fn bl N X) (hs : X.env.scope = sc) : ∀ (e : E) (p : PySem.Expr), chkE fn bl N sc e p = true → PE X p (tE X.K P e)
  | .var i, p, h => by
    unfold chkE at h
    exact PE.imp (pe_varB C.hN hs h) fun σ H Q q => in_var q
  | .mv i, p, h => by
    unfold chkE at h
    exact PE.imp (pe_varB C.hN hs h) fun σ H Q q => in_mv q
  | .fz i, p, h => by
    unfold chkE at h
    exact PE.imp (pe_varB C.hN hs h) fun σ H Q q => in_fz q
  | .int n, p, h => by
    unfold chkE at h
    split at h
    · have := of_decide_eq_true h; subst this
      exact PE.imp pe_int fun σ H Q q => in_const (d := .int _) (v := .int _) (fun _ _ => ⟨rfl, rfl⟩) (fun _ _ => rfl) q
    · cases h
  | .bl n, p, h => by
    unfold chkE at h
    split at h
    · have := of_decide_eq_true h; subst this
      exact PE.imp pe_bl fun σ H Q q => in_const (d := .bl _) (v := .bl _) (fun _ _ => ⟨rfl, rfl⟩) (fun _ _ => rfl) q
    · cases h
  | .non, p, h => by
    unfold chkE at h
    split at h
    · exact PE.imp pe_non fun σ H Q q => in_const (d := .non) (fun _ _ => ⟨rfl, rfl⟩) (fun _ _ => rfl) q
    · cases h
  | .str n, p, h => by
    unfold chkE at h
    split at h
    · have := of_decide_eq_true h; subst this
      exact PE.imp pe_str fun σ H Q q => in_const (d := .str _) (v := .str _) (fun _ _ => ⟨rfl, rfl⟩) (fun _ _ => rfl) q
    · cases h
  | .glb x ns, p, h => by
    unfold chkE at h
    split at h
    · simp only [Bool.and_eq_true] at h
      obtain ⟨⟨⟨h1, h2⟩, h3⟩, h4⟩ := h
      have h1 := of_decide_eq_true h1
      subst h1
      unfold dbgB at h3
      simp only [Bool.not_eq_true', Bool.or_eq_false_iff] at h3
      obtain ⟨a, hm, g⟩ := C.gk _ _ (of_decide_eq_true h4)
      exact PE.imp (pe_glob (v := .ref a) (gl_of hs h2) hm rfl h3.1) fun σ H Q q => in_const (d := .tup (ns.map D.int)) (v := .ref a) (fun Z H => den_gt g Z H) (fun _ _ => rfl) q
    · cases h
  | .op o es, p, h => by
    unfold chkE at h
    rw [Bool.and_eq_true] at h
    split at h
    · rename_i ps hps
      exact PE.imp (pe_op_of C hs o hps (snd_Es C hs es ps h.2)) fun σ H Q q => op_in (ok_op o h.1) q
    · exact absurd h.2 (by simp)
  | .sub a i, p, h => by
    unfold chkE at h
    split at h
    · rw [Bool.and_eq_true, Bool.and_eq_true] at h
      exact PE.imp (pe_ix (ix_sub C.room) (snd_E C hs a _ h.1.2) (snd_E C hs i _ h.2) (plIx_ok h.1.1)) fun σ H Q q => in_sub q
    · cases h
  | .tup es, p, h => by
    unfold chkE at h
    split at h
    · rw [Bool.and_eq_true] at h
      exact PE.imp (pe_tup (pa_of h.1 (snd_Es C hs es _ h.2))) fun σ H Q q => in_tup q
    · cases h
  | .lst es, p, h => by
    unfold chkE at h
    split at h
    · rw [Bool.and_eq_true] at h
      exact PE.imp (pe_lst (pa_of h.1 (snd_Es C hs es _ h.2))) fun σ H Q q => in_lst q
    · cases h
  | .dK es, p, h => by
    unfold chkE at h
    split at h
    · rename_i ks vs pos
      rw [Bool.or_eq_true] at h
      rcases h with h | h
      · rw [Bool.and_eq_true, Bool.and_eq_true] at h
        obtain ⟨⟨a1, a2⟩, a3⟩ := h
        have a1 := List.isEmpty_iff.mp a1
        have a2 := List.isEmpty_iff.mp a2
        have a3 := List.isEmpty_iff.mp a3
        subst a1 a2 a3
        exact PE.imp pe_dnewK fun σ H Q q => in_dnew q
      rw [Bool.and_eq_true, Bool.and_eq_true] at h
      obtain ⟨g1, g2, g3, g4⟩ := snd_KV C hs es _ _ h.2
      exact PE.imp (pe_disp (g1 _) g2 g3 (by rintro rfl; exact absurd h.1.1 (by decide)) (of_decide_eq_true h.1.2)) fun σ H Q q => in_dK g4 q
    · cases h
  | .dT, _, h => by unfold chkE at h; cases h
  | .sli a lo hi, p, h => by
    unfold chkE at h
    split at h
    · rw [Bool.and_eq_true, Bool.and_eq_true] at h
      exact PE.imp (pe_slice sl_both (snd_E C hs a _ h.1.1) (snd_O C hs lo _ h.1.2) (snd_O C hs hi _ h.2)) fun σ H Q q => in_sli q
    · cases h
  | .ite c a b, p, h => by
    unfold chkE at h
    split at h
    · rw [Bool.and_eq_true, Bool.and_eq_true] at h
      exact PE.imp (pe_ifExp (snd_T C hs c _ h.1.1) (snd_E C hs a _ h.1.2) (snd_E C hs b _ h.2)) fun σ H Q q => in_ite q
    · cases h
  | .and es, p, h => by
    unfold chkE at h
    split at h
    · rw [Bool.and_eq_true] at h
      exact andL (snd_Es C hs es _ h.1) (by rintro rfl; exact absurd h.2 (by decide))
    · cases h
  | .or es, p, h => by
    unfold chkE at h
    split at h
    · rw [Bool.and_eq_true] at h
      exact orL (snd_Es C hs es _ h.1) (by rintro rfl; exact absurd h.2 (by decide))
    · cases h
  | .not e, p, h => by
    unfold chkE at h
    split at h
    · exact PE.imp (pe_notT (snd_E C hs e _ h)) fun σ H Q q => in_not q
    · cases h
  | .cmp3 o1 o2 o3 a b c d, p, h => by
    unfold chkE at h
    split at h
    · simp only [Bool.and_eq_true, Bool.not_eq_true'] at h
      obtain ⟨⟨⟨⟨⟨⟨⟨e1, e2⟩, e3⟩, hm⟩, ha⟩, hb⟩, hc⟩, hd⟩ := h
      have e1 := of_decide_eq_true e1
      have e2 := of_decide_eq_true e2
      have e3 := of_decide_eq_true e3
      subst e1 e2 e3
      exact PE.imp (pe_chain3 (op_cmp C.room _) (op_cmp C.room _) (op_cmp C.room _) (snd_E C hs a _ ha) (snd_E C hs b _ hb) (snd_E C hs c _ hc) (snd_E C hs d _ hd) hm) fun σ H Q q => in_cmp3 q
    · cases h
  | .cmp2 o1 o2 a b c, p, h => by
    unfold chkE at h
    split at h
    · simp only [Bool.and_eq_true, Bool.not_eq_true'] at h
      obtain ⟨⟨⟨⟨⟨e1, e2⟩, hm⟩, ha⟩, hb⟩, hc⟩ := h
      have e1 := of_decide_eq_true e1
      have e2 := of_decide_eq_true e2
      subst e1 e2
      exact PE.imp (pe_chain (op_cmp C.room _) (op_cmp C.room _) (snd_E C hs a _ ha) (snd_E C hs b _ hb) (snd_E C hs c _ hc) hm) fun σ H Q q => in_cmp2 q
    · cases h
  | .call f es, p, h => by
    unfold chkE at h
    split at h
    · rename_i x q ps pos
      simp only [Bool.and_eq_true, Bool.not_eq_true'] at h
      obtain ⟨⟨⟨⟨e1, hg⟩, hd⟩, hn⟩, he⟩ := h
      obtain ⟨fa, fd, prs, k, hpl, hm, hk, hb, hr, F⟩ := C.fns f x _ (of_decide_eq_true e1)
      have hes := snd_Es C hs es _ he
      have hd1 : (x == ("__debug__" : Str)) = false := by unfold dbgB at hd; rw [Bool.or_eq_false_iff] at hd; exact hd.1
      rw [hpl] at F
      have fin : ∀ σ H Q, tE X.K P (.call f es) σ H Q → tCall (spD X.K es.length (P.call f)) [] E0 (tL (es.map (tE X.K P))) σ H Q := fun σ H Q q => by
        have q := in_call rfl q
        unfold tCall
        simp only [List.append_nil]
        exact q
      cases ps with
      | nil =>
        refine PE.imp (pe_call0 (dvs := []) (ds := []) F hr (gl_of hs hg) hm hk hb .nil (E := E0) pass0 hd1) fun σ H Q q => ?_
        have hl := hes.length
        rw [List.length_map] at hl
        have hn0 := List.eq_nil_of_length_eq_zero (show es.length = 0 from hl.symm)
        have q := fin σ H Q q
        subst hn0
        exact q
      | cons p0 ps =>
        have hn' := hn
        rw [List.all_cons, Bool.and_eq_true] at hn'
        exact PE.imp (pe_call (dvs := []) (ds := []) F hr (gl_of hs hg) hm hk hb .nil (E := E0) pass0 (pa_of hn hes) hd1 (star_cons hn'.1) (star_any hn'.2)) fin
    · cases h
  | .pop i path, p, h => by
    unfold chkE at h
    rw [Bool.and_eq_true] at h
    cases path with
    | cons _ _ => exact absurd h.1 (by simp)
    | nil =>
      have h := h.2
      split at h
      · rename_i o a ap cp _
        simp only [Bool.and_eq_true] at h
        obtain ⟨⟨h1, h2⟩, h3⟩ := h
        have h2 := of_decide_eq_true h2
        have h3 := of_decide_eq_true h3
        subst h2
        have hb : attributeBase o "pop" X.env (eval o X.env) = eval o X.env := by
          unfold isVar at h1
          split at h1
          · rfl
          · cases h1
        exact PE.imp (pe_bm0 PySem.F.plainAttrs_list PySem.F.slot_list_pop PySem.F.type_list_pop mt_pop (pe_varB C.hN hs h1) hb (by rw [h3]; exact beq_self_eq_true _)) fun σ H Q q => in_pop q
      · cases h
  | .popAt i path k, p, h => by
    unfold chkE at h
    rw [Bool.and_eq_true] at h
    cases path with
    | cons _ _ => exact absurd h.1 (by simp)
    | nil =>
      have h := h.2
      split at h
      · rename_i o a ap e cp _
        simp only [Bool.and_eq_true] at h
        obtain ⟨⟨⟨⟨h1, h2⟩, h3⟩, h4⟩, h5⟩ := h
        have h2 := of_decide_eq_true h2
        have h3 := of_decide_eq_true h3
        subst h2
        have hb : attributeBase o "pop" X.env (eval o X.env) = eval o X.env := by
          unfold isVar at h1
          split at h1
          · rfl
          · cases h1
        refine PE.imp (pe_bm PySem.F.plainAttrs_list PySem.F.slot_list_pop PySem.F.type_list_pop mt_popAt (pe_varB C.hN hs h1) (pa_of (by simp [h4]) (.cons (snd_E C hs k e h5) .nil)) hb ?_ ?_ (star_cons h4) rfl) fun σ H Q q => in_popAt q
        · rw [star_cons h4]; rfl
        · rw [h3]; exact beq_self_eq_true _
      · cases h
  | .comp tg own k src ifs elt, p, h => by
    unfold chkE at h
    split at h
    · rename_i elt' tg' iter ifs' scope pos
      simp only [Bool.and_eq_true] at h
      obtain ⟨⟨⟨⟨⟨⟨⟨⟨h1, h1z⟩, h2⟩, h3⟩, h4⟩, h5⟩, h6⟩, h7⟩, h8⟩ := h
      split at h6
      · rename_i ps hps
        have hb := blkOk_by h2
        rw [← hs] at hb
        have hsc : ∀ (s : Shared) (H : Hp) (Cc : Addr) (cl : List (Str × Addr)) (fp : List Addr), (X.blk s H scope (compEnvC scope cl Cc X.env) fp).env.scope = relS scope sc := by
          intro s H Cc cl fp
          rw [← hs]; rfl
        have hifs := of_decide_eq_true h4
        refine PE.imp (pe_lc (own := own.map fun i => ((N[i]?).getD ⟨#[]⟩, i)) (wi := iSrc X.K k (src.map (tE X.K P))) (g := gT X.K tg) (tt := tIfs X.K P ifs) (te := tE X.K P elt) C.calm (by rw [C.hN]; exact C.nd) (pi_of C hs k hps (snd_Es C hs src _ h6) h1z) (by rw [C.hN]; exact hb) ?_ ?_ ?_ (notSet_ok h1)) fun σ H Q q => ?_
        · intro s H Cc cl fp
          exact pg_T (C.blk s H scope Cc cl fp) (hsc s H Cc cl fp) (fnB := fun x => scope.names.lookup x == some .cell) (fun x hx => hx) tg _ h5
        · intro s H Cc cl fp
          exact snd_Ifs (C.blk s H scope Cc cl fp) (hsc s H Cc cl fp) ifs ifs' hifs h7
        · intro s H Cc cl fp
          exact snd_E (C.blk s H scope Cc cl fp) (hsc s H Cc cl fp) elt _ h8
        · rw [own_ix]
          exact in_comp (fun i hi => by
            have := (List.all_eq_true.mp h3) i hi
            simpa using this) hifs q
      · cases h6
    · cases h
  | .frz e, p, h => by
    unfold chkE at h
    exact PE.imp (snd_E C hs e p h) fun σ H Q q => in_frz q
  | .mth t o a es, p, h => by
    unfold chkE at h
    split at h
    · rename_i ob m ap ps cp
      simp only [Bool.and_eq_true] at h
      obtain ⟨⟨⟨⟨⟨hb, hl⟩, hn⟩, hm⟩, ha⟩, he⟩ := h
      have hl := of_decide_eq_true hl
      have hes := snd_Es C hs es ps he
      have hoa := snd_E C hs a ob ha
      have hlen := hes.length
      rw [List.length_map] at hlen
      rcases ps with _ | ⟨p1, _ | ⟨p2, _ | ⟨p3, r⟩⟩⟩
      · cases hm
      · have hm : (decide (t = .l) && mthOk o && decide (m = mthN o)) = true := hm
        rw [Bool.and_eq_true, Bool.and_eq_true] at hm
        obtain ⟨⟨e1, e2⟩, e3⟩ := hm
        have e1 := of_decide_eq_true e1
        have e3 := of_decide_eq_true e3
        subst e1 e3
        have h4 : notStar p1 = true := by rw [List.all_cons, Bool.and_eq_true] at hn; exact hn.1
        have fin : ∀ {id : String} {r : V → List V → Hp → VK → Prop}, Slot "list" (mthN o) id → typeOf (.builtin id) = pure (.type "method_descriptor") → MtR X id r → rM X.K o = r → PE X (.Call (.Attribute ob (mthN o) ap) [p1] [] cp) (tE X.K P (.mth .l o a es)) := fun slot hty hmt hr => by
          refine PE.imp (pe_bm PySem.F.plainAttrs_list slot hty hmt hoa (pa_of hn hes) (plBase_ok hb) ?_ ?_ (star_cons h4) rfl) fun σ H Q q => ?_
          · rw [star_cons h4]; rfl
          · rw [hl]; exact beq_self_eq_true _
          · subst hr
            exact in_mth ty_l (fun Z H c ds vs b d v cb Q qb B G e k => ok_mth o e2 qb B G e k) q
        unfold mthOk at e2
        split at e2
        · exact fin PySem.F.slot_list_index PySem.F.type_list_index mt_index rfl
        · exact fin PySem.F.slot_list_count PySem.F.type_list_count mt_lcount rfl
        · cases e2
      · have hm : (decide (t = .d) && decide (o = .get2) && decide (m = ("get" : Str))) = true := hm
        rw [Bool.and_eq_true, Bool.and_eq_true] at hm
        obtain ⟨⟨e1, e2⟩, e3⟩ := hm
        have e1 := of_decide_eq_true e1
        have e2 := of_decide_eq_true e2
        have e3 := of_decide_eq_true e3
        subst e1 e2 e3
        rw [List.all_cons, List.all_cons, Bool.and_eq_true, Bool.and_eq_true] at hn
        rcases es with _ | ⟨f1, _ | ⟨f2, _ | ⟨f3, r⟩⟩⟩
        · cases hlen
        · cases hlen
        · cases hes with
          | cons h1 hes => cases hes with
            | cons h2 hes =>
              refine PE.imp (pe_dget2 (hu_of C.room) hoa h1 h2 ⟨plBase_ok hb, ?_, by rw [hl]; exact beq_self_eq_true _, ?_⟩) fun σ H Q q => ?_
              · rw [star_cons hn.1, star_cons hn.2.1]; rfl
              · rw [star_cons hn.1, star_cons hn.2.1]; rfl
              · have q := in_mth (r := rGet2) ty_d ok_get2 q
                refine tE_mono q ?_
                rintro x H1 ⟨⟨a', rfl, hd⟩, q1⟩
                refine ⟨a', rfl, hd, ?_⟩
                exact tE_mono q1 fun y H2 q2 => tE_mono q2 fun z H3 ⟨a'', y', z', o', e1, e2, g, q3⟩ => by
                  cases e1
                  cases e2
                  exact ⟨o', g, q3⟩
        · cases hlen
      · cases hm
    · cases h
theorem snd_Es {P : Ctx} {fn : List (Str × Nat)} {bl : Bl} {N : List Str} {X : Cx} {sc : Scope} (C : CtxOk P fn bl N X) (hs : X.env.scope = sc) : ∀ (es : List E) (ps : List PySem.Expr), chkEs fn bl N sc es ps = true → PEs X ps (es.map (tE X.K P))
  | [], ps, h => by
    unfold chkEs at h
    cases ps with
    | nil => exact .nil
    | cons _ _ => cases h
  | e :: es, ps, h => by
    unfold chkEs at h
    cases ps with
    | nil => cases h
    | cons p ps =>
      have h : (chkE fn bl N sc e p && chkEs fn bl N sc es ps) = true := h
      rw [Bool.and_eq_true] at h
      exact .cons (snd_E C hs e p h.1) (snd_Es C hs es ps h.2)
theorem snd_KV {P : Ctx} {fn : List (Str × Nat)} {bl : Bl} {N : List Str} {X : Cx} {sc : Scope} (C : CtxOk P fn bl N X) (hs : X.env.scope = sc) : ∀ (es : List E) (ks : List (Option PySem.Expr)) (vs : List PySem.Expr), chkKV fn bl N sc es ks vs = true →
    (∀ pos, PPs X pos ks vs (pairTs (es.map (tE X.K P)))) ∧ ks.all (·.isSome) = true ∧ ks.length = vs.length ∧ even es = true
  | [], ks, vs, h => by
    unfold chkKV at h
    rw [Bool.and_eq_true] at h
    cases ks with
    | nil => cases vs with
      | nil => exact ⟨fun _ => pps_nil, rfl, rfl, rfl⟩
      | cons _ _ => exact absurd h.2 (by simp)
    | cons _ _ => exact absurd h.1 (by simp)
  | [_], _, _, h => by unfold chkKV at h; cases h
  | e :: f :: es, ks, vs, h => by
    unfold chkKV at h
    split at h
    · rename_i k ks' v vs'
      rw [Bool.and_eq_true, Bool.and_eq_true] at h
      obtain ⟨g1, g2, g3, g4⟩ := snd_KV C hs es ks' vs' h.2
      exact ⟨fun pos => pps_cons (snd_E C hs e k h.1.1) (snd_E C hs f v h.1.2) (g1 pos), by simp [g2], by simp [g3], g4⟩
    · cases h
theorem snd_O {P : Ctx} {fn : List (Str × Nat)} {bl : Bl} {N : List Str} {X : Cx} {sc : Scope} (C : CtxOk P fn bl N X) (hs : X.env.scope = sc) : ∀ (es : List E) (p : Option PySem.Expr), chkO fn bl N sc es p = true → PO X p (tI X.K P es)
  | [], p, h => by
    unfold chkO at h
    cases p with
    | none => exact po_none
    | some _ => cases h
  | e :: es, p, h => by
    unfold chkO at h
    cases p with
    | none => cases h
    | some p =>
      have h : (chkE fn bl N sc e p && es.isEmpty) = true := h
      rw [Bool.and_eq_true] at h
      cases es with
      | nil => exact po_some (snd_E C hs e p h.1)
      | cons _ _ => exact absurd h.2 (by simp)
theorem snd_T {P : Ctx} {fn : List (Str × Nat)} {bl : Bl} {N : List Str} {X : Cx} {sc : Scope} (C : CtxOk P fn bl N X) (hs : X.env.scope = sc) : ∀ (t : T) (p : PySem.Expr), chkT fn bl N sc t p = true → PT X p (tT X.K P t)
  | .val e, p, h => by
    unfold chkT at h
    rw [Bool.or_eq_true] at h
    rcases h with h | h
    · rw [Bool.and_eq_true] at h
      exact PT.imp (pt_truth (snd_E C hs e p h.2) (plT_ok h.1)) fun σ H Q q => in_val q
    · split at h
      · rename_i o es
        rw [Bool.and_eq_true] at h
        split at h
        · rename_i ps hps
          refine PT.imp (pt_op_of C hs o h.1 hps (snd_Es C hs es ps h.2)) fun σ H Q q => op_inT (ok_op o (by have := h.1; cases o <;> first | rfl | cases this)) (opD_bl o h.1) q
        · exact absurd h.2 (by simp)
      · rename_i o1 o2 o3 a b c d
        split at h
        · simp only [Bool.and_eq_true, Bool.not_eq_true'] at h
          obtain ⟨⟨⟨⟨⟨⟨⟨e1, e2⟩, e3⟩, hm⟩, ha⟩, hb⟩, hc⟩, hd⟩ := h
          have e1 := of_decide_eq_true e1
          have e2 := of_decide_eq_true e2
          have e3 := of_decide_eq_true e3
          subst e1 e2 e3
          exact PT.imp (pt_chain3 (op_cmp C.room _) (op_cmp C.room _) (op_cmp C.room _) (snd_E C hs a _ ha) (snd_E C hs b _ hb) (snd_E C hs c _ hc) (snd_E C hs d _ hd) hm) fun σ H Q q => in_cmp3T q
        · cases h
      · rename_i o1 o2 a b c
        split at h
        · simp only [Bool.and_eq_true, Bool.not_eq_true'] at h
          obtain ⟨⟨⟨⟨⟨e1, e2⟩, hm⟩, ha⟩, hb⟩, hc⟩ := h
          have e1 := of_decide_eq_true e1
          have e2 := of_decide_eq_true e2
          subst e1 e2
          refine PT.imp (pt_chain (op_cmp C.room _) (op_cmp C.room _) (snd_E C hs a _ ha) (snd_E C hs b _ hb) (snd_E C hs c _ hc) hm) fun σ H Q q => ?_
          exact in_cmp2T q
        · cases h
      · cases h
  | .and ts, p, h => by
    unfold chkT at h
    split at h
    · rw [Bool.and_eq_true] at h
      exact (andT (snd_Ts C hs ts _ h.1) (by rintro rfl; exact absurd h.2 (by decide))).pt
    · cases h
  | .or ts, p, h => by
    unfold chkT at h
    split at h
    · rw [Bool.and_eq_true] at h
      exact (orT (snd_Ts C hs ts _ h.1) (by rintro rfl; exact absurd h.2 (by decide))).pt
    · cases h
  | .not t, p, h => by
    unfold chkT at h
    split at h
    · exact PT.imp (pt_not (snd_T C hs t _ h)) fun σ H Q q => in_tnot q
    · cases h
  | .ite c a b, p, h => by
    unfold chkT at h
    split at h
    · rw [Bool.and_eq_true, Bool.and_eq_true] at h
      exact PT.imp (pt_ifE (snd_T C hs c _ h.1.1) (snd_T C hs a _ h.1.2) (snd_T C hs b _ h.2)) fun σ H Q q => in_tite q
    · cases h
theorem snd_Ts {P : Ctx} {fn : List (Str × Nat)} {bl : Bl} {N : List Str} {X : Cx} {sc : Scope} (C : CtxOk P fn bl N X) (hs : X.env.scope = sc) : ∀ (ts : List T) (ps : List PySem.Expr), chkTs fn bl N sc ts ps = true → PTL X ps (ts.map (tT X.K P))
  | [], ps, h => by
    unfold chkTs at h
    cases ps with
    | nil => exact .nil
    | cons _ _ => cases h
  | t :: ts, ps, h => by
    unfold chkTs at h
    cases ps with
    | nil => cases h
    | cons p ps =>
      have h : (chkT fn bl N sc t p && chkTs fn bl N sc ts ps) = true := h
      rw [Bool.and_eq_true] at h
      exact .cons (snd_T C hs t p h.1) (snd_Ts C hs ts ps h.2)
theorem snd_Ifs {P : Ctx} {fn : List (Str × Nat)} {bl : Bl} {N : List Str} {X : Cx} {sc : Scope} (C : CtxOk P fn bl N X) (hs : X.env.scope = sc) : ∀ (ts : List T) (ps : List PySem.Expr), ts.length ≤ 1 → chkTs fn bl N sc ts ps = true → PTs X ps (tIfs X.K P ts)
  | [], ps, _, h => by
    unfold chkTs at h
    cases ps with
    | nil => exact pts_nil
    | cons _ _ => cases h
  | t :: ts, ps, hl, h => by
    unfold chkTs at h
    cases ps with
    | nil => cases h
    | cons p ps =>
      have h : (chkT fn bl N sc t p && chkTs fn bl N sc ts ps) = true := h
      rw [Bool.and_eq_true] at h
      cases ts with
      | cons _ _ => simp at hl
      | nil =>
        have h2 := h.2
        unfold chkTs at h2
        cases ps with
        | cons _ _ => cases h2
        | nil => exact pts_one (snd_T C hs t p h.1)
end
end DL
end

section
/-! DL17: statements: flow, stores of names. -/
namespace DL
open PySem PySem.Spec L2
open PyProof.Rows hiding St

def kont (D : Ends) : Fl → L2.St → Hp → V → Prop
  | .nx, σ, H, _ => D.nx σ H
  | .bk, σ, H, _ => D.bk σ H
  | .ct, σ, H, _ => D.ct σ H
  | .rt _, _, H, v => D.rt v H
def flDen (K : PySem.W.Frag) (Z : Addr → Prop) (H : Hp) : Fl → V → Cnt → Prop
  | .rt d, v, c => Den K Z H d v c
  | _, _, c => c = zc
def FX (fx : List Nat) (σ σ' : L2.St) : Prop := σ'.length = σ.length ∧ ∀ j ∈ fx, σ'[j]? = σ[j]?
theorem FX.refl {fx : List Nat} {σ : L2.St} : FX fx σ σ := ⟨rfl, fun _ _ => rfl⟩
theorem FX.trans {fx : List Nat} {σ σ1 σ2 : L2.St} (a : FX fx σ σ1) (b : FX fx σ1 σ2) : FX fx σ σ2 := ⟨b.1.trans a.1, fun j hj => (b.2 j hj).trans (a.2 j hj)⟩
section
variable (K : PySem.W.Frag) (P : Ctx) (fx : List Nat)
/-- what a run of statements reaches -/
def Rch (D : Ends) (σ : L2.St) (Z : Addr → Prop) (H : Hp) (c : Cnt) (fl : Fl) (env' : EnvD) : Prop :=
  ∀ v σ' H' Z' c' cr, ED K Z' H' env' σ' c' → flDen K Z' H' fl v cr → Gd Z' H' (add c' cr) → Fr false Z H c Z' H' (add c' cr) → FX fx σ σ' → kont D fl σ' H' v
def tS (s : S) : TS := fun D σ H => ∃ Z c env fl env', ED K Z H env σ c ∧ Gd Z H c ∧ evS P s env = some (fl, env') ∧ Rch K fx D σ Z H c fl env'
def tSs (s : List S) : TS := fun D σ H => ∃ Z c env fl env', ED K Z H env σ c ∧ Gd Z H c ∧ evSs P s env = some (fl, env') ∧ Rch K fx D σ Z H c fl env'
end
section
variable {K : PySem.W.Frag} {P : Ctx} {fx : List Nat} {Y : Ends} {σ : L2.St} {H : Hp} {Z : Addr → Prop} {c : Cnt} {env env' : EnvD} {fl : Fl}
theorem Rch.low {fx' : List Nat} (h : ∀ j ∈ fx', j ∈ fx) (r : Rch K fx' Y σ Z H c fl env') : Rch K fx Y σ Z H c fl env' :=
  fun v σ' H' Z' c' cr E q G F X => r v σ' H' Z' c' cr E q G F ⟨X.1, fun j hj => X.2 j (h j hj)⟩
/-- a step on: what was reached is run from -/
theorem Rch.step {σ1 : L2.St} {Z1 : Addr → Prop} {H1 : Hp} {c1 : Cnt} (r : Rch K fx Y σ Z H c fl env') (F : Fr false Z H c Z1 H1 c1) (X : FX fx σ σ1) : Rch K fx Y σ1 Z1 H1 c1 fl env' :=
  fun v σ' H' Z' c' cr E q G F' X' => r v σ' H' Z' c' cr E q G (F.trans F') (X.trans X')
theorem Rch.nx (r : Rch K fx Y σ Z H c .nx env') {σ1 : L2.St} {Z1 : Addr → Prop} {H1 : Hp} {c1 : Cnt} (E : ED K Z1 H1 env' σ1 c1) (G : Gd Z1 H1 c1) (F : Fr false Z H c Z1 H1 c1) (X : FX fx σ σ1) : Y.nx σ1 H1 :=
  r .non σ1 H1 Z1 c1 zc E rfl (by rw [add_zc]; exact G) (by rw [add_zc]; exact F) X
theorem in_nil (h : tSs K P fx [] Y σ H) : tNext Y σ H := by
  obtain ⟨Z, c, env, fl, env', E, G, ev, r⟩ := h
  have ev : some (Fl.nx, env) = some (fl, env') := ev
  injection ev with ev
  injection ev with e1 e2
  subst e1 e2
  exact r.nx E G Fr.refl FX.refl
theorem in_seq {s : S} {ss : List S} (h : tSs K P fx (s :: ss) Y σ H) : tSeq (tS K P fx s) (tSs K P fx ss) Y σ H := by
  obtain ⟨Z, c, env, fl, env', E, G, ev, r⟩ := h
  obtain ⟨x, h1, h2⟩ := bind_some (show ((evS P s env).bind fun x => match x.1 with
    | .nx => evSs P ss x.2
    | f => some (f, x.2)) = some (fl, env') from ev)
  refine ⟨Z, c, env, x.1, x.2, E, G, h1, fun v σ' H' Z' c' cr E' q' G' F' X' => ?_⟩
  cases hx : x.1 with
  | nx =>
    rw [hx] at h2 q'
    have q' : cr = zc := q'
    subst q'
    rw [add_zc] at G' F'
    exact ⟨Z', c', x.2, fl, env', E', G', h2, r.step F' X'⟩
  | bk =>
    rw [hx] at h2 q'
    have h2 : some (Fl.bk, x.2) = some (fl, env') := h2
    injection h2 with h2
    injection h2 with e1 e2
    subst e1 e2
    exact r v σ' H' Z' c' cr E' q' G' F' X'
  | ct =>
    rw [hx] at h2 q'
    have h2 : some (Fl.ct, x.2) = some (fl, env') := h2
    injection h2 with h2
    injection h2 with e1 e2
    subst e1 e2
    exact r v σ' H' Z' c' cr E' q' G' F' X'
  | rt d =>
    rw [hx] at h2 q'
    have h2 : some (Fl.rt d, x.2) = some (fl, env') := h2
    injection h2 with h2
    injection h2 with e1 e2
    subst e1 e2
    exact r v σ' H' Z' c' cr E' q' G' F' X'
theorem in_simple {s : S} {f : Fl} (hs : ∀ env, evS P s env = some (f, env)) (hf : ∀ Z H, flDen K Z H f .non zc) (h : tS K P fx s Y σ H) : kont Y f σ H .non := by
  obtain ⟨Z, c, env, fl, env', E, G, ev, r⟩ := h
  rw [hs] at ev
  injection ev with ev
  injection ev with e1 e2
  subst e1 e2
  exact r .non σ H Z c zc E (hf _ _) (by rw [add_zc]; exact G) (by rw [add_zc]; exact Fr.refl) FX.refl
/-- a value kept -/
theorem in_M {m : Bool} {e : E} {Q : VK} {d : D} (E : ED K Z H env σ c) (G : Gd Z H c) (ev : evM P m e env = some (d, env'))
    (k : ∀ v H' Z' c' cd, ED K Z' H' env' σ c' → Den K Z' H' d v cd → Gd Z' H' (add c' cd) → Fr m Z H c Z' H' (add c' cd) → Q v H') : tE K P e σ H Q := by
  obtain ⟨x, h1, h2⟩ := bind_some (show ((evA P m e env).bind fun x => mat m x.1 x.2) = some (d, env') from ev)
  refine ⟨m, Z, c, env, x.1, x.2, E, G, h1, fun v H1 Z1 c1 ca1 E1 q1 G1 F1 M1 => ?_⟩
  obtain ⟨Z2, c2, cd, E2, q2, G2, F2, le⟩ := mat_ok E1 q1 G1 h2
  exact k v H1 Z2 c2 cd E2 q2 G2 (F1.trans F2)
theorem in_ret {e : E} (h : tS K P fx (.ret e) Y σ H) : tRet (tE K P e) Y σ H := by
  obtain ⟨Z, c, env, fl, env', E, G, ev, r⟩ := h
  obtain ⟨x, h1, h2⟩ := map_some (show (evM P false e env).map (fun x => (Fl.rt x.1, x.2)) = some (fl, env') from ev)
  injection h2 with e1 e2
  subst e1 e2
  exact in_M E G h1 fun v H' Z' c' cd E' q' G' F' => r v σ H' Z' c' cd E' q' G' F' FX.refl
theorem in_ex {e : E} (h : tS K P fx (.ex e) Y σ H) : tDrop (tE K P e) Y σ H := by
  obtain ⟨Z, c, env, fl, env', E, G, ev, r⟩ := h
  obtain ⟨x, h1, h2⟩ := map_some (show (evA P false e env).map (fun x => (Fl.nx, x.2)) = some (fl, env') from ev)
  injection h2 with e1 e2
  subst e1 e2
  exact ⟨false, Z, c, env, x.1, x.2, E, G, h1, fun v H' Z' c' ca E' q' G' F' M' => r.nx E' (G'.le fun a => by simp only [add]; omega) (F'.lessR fun a => by simp only [add]; omega) FX.refl⟩
theorem in_asg {t : Tg} {e : E} (hfx : ∀ j ∈ fx, j ∉ tgS t) (h : tS K P fx (.asg t e) Y σ H) : tAsg (tE K P e) (gT K t) Y σ H := by
  obtain ⟨Z, c, env, fl, env', E, G, ev, r⟩ := h
  obtain ⟨x, h1, h2⟩ := bind_some (show ((evM P false e env).bind fun x => (bindT t x.1 x.2).map fun e' => (Fl.nx, e')) = some (fl, env') from ev)
  obtain ⟨e2, h3, h4⟩ := map_some h2
  injection h4 with e1 e2
  subst e1 e2
  refine in_M E G h1 fun v H' Z' c' cd E' q' G' F' => ?_
  refine ⟨Z', c', cd, x.1, x.2, _, E', q', h3, fun σ1 k1 E1 le1 hl1 ag1 => ?_⟩
  exact r.nx E1 (G'.le le1) (F'.lessR le1) ⟨hl1, fun j hj => ag1 j (hfx j hj)⟩
theorem in_if {t : T} {a b : List S} (h : tS K P fx (.ite t a b) Y σ H) : tIfS (tT K P t) (tSs K P fx a) (tSs K P fx b) Y σ H := by
  obtain ⟨Z, c, env, fl, env', E, G, ev, r⟩ := h
  obtain ⟨x, h1, h2⟩ := bind_some (show ((evT P false t env).bind fun x => if x.1 then evSs P a x.2 else evSs P b x.2) = some (fl, env') from ev)
  refine ⟨false, Z, c, env, x.1, x.2, E, G, h1, fun H1 Z1 c1 E1 G1 F1 => ?_⟩
  cases hx : x.1 with
  | true => rw [hx] at h2; exact ⟨Z1, c1, x.2, fl, env', E1, G1, h2, r.step F1 FX.refl⟩
  | false => rw [hx] at h2; exact ⟨Z1, c1, x.2, fl, env', E1, G1, h2, r.step F1 FX.refl⟩
/-- the names that par stores -/
theorem bind_cons {i : Nat} {is : List Nat} {ds : List D} (h : bindN (i :: is) ds env = some env') : ∃ d r, ds = d :: r ∧ i < env.length ∧ bindN is r (env.set i (some d)) = some env' := by
  cases ds with
  | nil => cases h
  | cons d r =>
    have h : (if i < env.length then bindN is r (env.set i (some d)) else none) = some env' := h
    split at h
    · rename_i hi; exact ⟨d, r, rfl, hi, h⟩
    · cases h
theorem bind_nil {ds : List D} (h : bindN [] ds env = some env') : ds = [] ∧ env' = env := by
  cases ds with
  | nil => cases h; exact ⟨rfl, rfl⟩
  | cons _ _ => cases h
theorem bind_two {i j : Nat} {ds : List D} (h : bindN [i, j] ds env = some env') : ∃ d1 d2, ds = [d1, d2] ∧ i < env.length ∧ j < env.length ∧ env' = (env.set i (some d1)).set j (some d2) := by
  obtain ⟨d1, r1, rfl, h1, h⟩ := bind_cons h
  obtain ⟨d2, r2, rfl, h2, h⟩ := bind_cons h
  obtain ⟨rfl, rfl⟩ := bind_nil h
  exact ⟨d1, d2, rfl, h1, by simpa using h2, rfl⟩
theorem in_Ms {m : Bool} {es : List E} {Q : List V → Hp → Prop} {ds : List D} (E : ED K Z H env σ c) (G : Gd Z H c) (ev : evMs P m es env = some (ds, env'))
    (k : ∀ vs H' Z' c' cd, ED K Z' H' env' σ c' → Dens K Z' H' ds vs cd → Gd Z' H' (add c' cd) → Fr m Z H c Z' H' (add c' cd) → Q vs H') : tL (es.map (tE K P)) σ H Q :=
  seqM ⟨m, Z, c, env, ds, env', E, G, ev, fun vs H1 Z1 c1 ca1 E1 q1 G1 F1 M1 => k vs H1 Z1 c1 ca1 E1 q1 G1 F1⟩
theorem in_par2 {i j : Nat} {es : List E} (hij : i ≠ j) (hfx : ∀ l ∈ fx, l ≠ i ∧ l ≠ j) (h : tS K P fx (.par [i, j] es) Y σ H) : tPar i j (tL (es.map (tE K P))) Y σ H := by
  obtain ⟨Z, c, env, fl, env', E, G, ev, r⟩ := h
  obtain ⟨x, h1, h2⟩ := bind_some (show ((evMs P false es env).bind fun x => (bindN [i, j] x.1 x.2).map fun e' => (Fl.nx, e')) = some (fl, env') from ev)
  obtain ⟨e2, h3, h4⟩ := map_some h2
  injection h4 with e1 e2
  subst e1 e2
  obtain ⟨d1, d2, hd, hi, hj, rfl⟩ := bind_two h3
  refine in_Ms E G h1 fun vs H1 Z1 c1 cd E1 q1 G1 F1 => ?_
  rw [hd] at q1
  obtain ⟨v, r1, k1, k2, rfl, p1, ⟨w, r2, k3, k4, rfl, p2, ⟨rfl, rfl⟩, rfl⟩, rfl⟩ := q1
  obtain ⟨c2, c3, E2, rfl⟩ := E1.drop i
  have E3 := ED.put (v := v) E2 hi p1
  obtain ⟨c4, c5, E4, e4⟩ := E3.drop j
  have E5 := ED.put (v := w) E4 (by simpa using hj) p2
  have le : ∀ a, (add k3 c4) a ≤ add (add c3 c2) (add k1 (add k3 zc)) a := fun a => by have := congrFun e4 a; simp only [add, zc] at *; omega
  refine ⟨v, w, rfl, r.nx E5 (G1.le le) (F1.lessR le) ⟨by simp, fun l hl => ?_⟩⟩
  have := hfx l hl
  rw [List.getElem?_set_ne (fun e => this.2 e.symm), List.getElem?_set_ne (fun e => this.1 e.symm)]

/-! ### while -/
def whileN (c : EnvD → Option (Bool × EnvD)) (b : EnvD → Option (Fl × EnvD)) : Nat → EnvD → Option (Fl × EnvD)
  | 0, _ => none
  | n + 1, env => match c env with
    | none => none
    | some (false, e) => some (.nx, e)
    | some (true, e) => match b e with
      | none => none
      | some (.nx, e') => whileN c b n e'
      | some (.ct, e') => whileN c b n e'
      | some (.bk, e') => some (.nx, e')
      | some (.rt d, e') => some (.rt d, e')
theorem whileF_N {c : EnvD → Option (Bool × EnvD)} {b : EnvD → Option (Fl × EnvD)} {env : EnvD} {r : Fl × EnvD} (h : whileF c b env = some r) : ∃ n, whileN c b n env = some r := by
  refine whileF.partial_correctness c b (fun env r => ∃ n, whileN c b n env = some r) ?_ env r h
  intro w ih env r h
  split at h
  · cases h
  · rename_i e he
    exact ⟨1, by unfold whileN; rw [he]; exact h⟩
  · rename_i e he
    split at h
    · cases h
    · rename_i e' hb
      obtain ⟨n, hn⟩ := ih _ _ h
      exact ⟨n + 1, by unfold whileN; rw [he]; simp only [hb]; exact hn⟩
    · rename_i e' hb
      obtain ⟨n, hn⟩ := ih _ _ h
      exact ⟨n + 1, by unfold whileN; rw [he]; simp only [hb]; exact hn⟩
    · rename_i e' hb
      exact ⟨1, by unfold whileN; rw [he]; simp only [hb]; exact h⟩
    · rename_i d e' hb
      exact ⟨1, by unfold whileN; rw [he]; simp only [hb]; exact h⟩
theorem in_while {t : T} {b : List S} (h : tS K P fx (.whl t b) Y σ H) : tWhile (tT K P t) (tSs K P fx b) Y σ H := by
  obtain ⟨Z, c, env, fl, env', E, G, ev, r⟩ := h
  obtain ⟨n, hn⟩ := whileF_N (show whileF (evT P false t) (evSs P b) env = some (fl, env') from ev)
  refine ⟨fun m σ1 H1 => ∃ Z1 c1 env1, ED K Z1 H1 env1 σ1 c1 ∧ Gd Z1 H1 c1 ∧ whileN (evT P false t) (evSs P b) m env1 = some (fl, env') ∧ Rch K fx Y σ1 Z1 H1 c1 fl env', ⟨n, Z, c, env, E, G, hn, r⟩, fun m σ1 H1 ⟨Z1, c1, env1, E1, G1, h1, r1⟩ => ?_⟩
  cases m with
  | zero => cases h1
  | succ m =>
    unfold whileN at h1
    cases hc : evT P false t env1 with
    | none => rw [hc] at h1; cases h1
    | some x =>
      obtain ⟨x, e⟩ := x
      rw [hc] at h1
      refine ⟨false, Z1, c1, env1, x, e, E1, G1, hc, fun H2 Z2 c2 E2 G2 F2 => ?_⟩
      have r2 := r1.step F2 FX.refl
      cases x with
      | false =>
        have h1 : some (Fl.nx, e) = some (fl, env') := h1
        injection h1 with h1
        injection h1 with e1 e2
        subst e1 e2
        show ite _ _ _
        rw [if_neg (by decide)]
        exact r2.nx E2 G2 Fr.refl FX.refl
      | true =>
        show ite _ _ _
        rw [if_pos rfl]
        refine ⟨fun σ' H' => ∃ Z1 c1 env1, ED K Z1 H' env1 σ' c1 ∧ Gd Z1 H' c1 ∧ whileN (evT P false t) (evSs P b) m env1 = some (fl, env') ∧ Rch K fx Y σ' Z1 H' c1 fl env', fun σ' H' w => ⟨m, Nat.lt_succ_self m, w⟩, ?_⟩
        cases hb : evSs P b e with
        | none => simp only [hb] at h1; cases h1
        | some y =>
          obtain ⟨f, e'⟩ := y
          simp only [hb] at h1
          refine ⟨Z2, c2, e, f, e', E2, G2, hb, fun v σ' H' Z' c' cr E' q' G' F' X' => ?_⟩
          have r3 := r2.step F' X'
          cases f with
          | nx =>
            have q' : cr = zc := q'
            subst q'
            rw [add_zc] at G' F' r3
            exact ⟨Z', c', e', E', G', h1, r3⟩
          | ct =>
            have q' : cr = zc := q'
            subst q'
            rw [add_zc] at G' F' r3
            exact ⟨Z', c', e', E', G', h1, r3⟩
          | bk =>
            have h1 : some (Fl.nx, e') = some (fl, env') := h1
            injection h1 with h1
            injection h1 with e1 e2
            subst e1 e2
            have q' : cr = zc := q'
            subst q'
            rw [add_zc] at G' F' r3
            exact r3.nx E' G' Fr.refl FX.refl
          | rt d =>
            have h1 : some (Fl.rt d, e') = some (fl, env') := h1
            injection h1 with h1
            injection h1 with e1 e2
            subst e1 e2
            exact r3 v σ' H' Z' c' cr E' q' G' Fr.refl FX.refl
end
end DL
end

section
/-! DL18: for. -/
namespace DL
open PySem PySem.Spec L2
open PyProof.Rows hiding St

section
variable {K : PySem.W.Frag} {P : Ctx} {fx : List Nat} {Y : Ends} {σ : L2.St} {H : Hp} {Z : Addr → Prop} {c : Cnt} {env env' : EnvD} {fl : Fl}
/-- what a for walks stands firm -/
structure ForOk (K : PySem.W.Frag) (s : Src) (σ : L2.St) (Z1 Z2 : Addr → Prop) (H1 : Hp) (c1 ca1 cS ex : Cnt) (J : It) (St : Hp → Prop) : Prop where
  go : ∀ i H, St H → i < s.its.length → J.go i H
  yld : ∀ i Z H x H', (∀ a, Z2 a → Z a) → (∀ a o, H1 a = some o → (isMut o = false ∨ Z2 a) → H a = some o) → St H → i < s.its.length → J.yld i H x H' → (H' = H ∨ ∃ T xs, H T = none ∧ H' = upd H T (.tup xs)) ∧ ∃ d, s.its[i]? = some d ∧ Den K Z H' d x zc
  stop : ∀ i H, St H → s.its.length ≤ i → J.stop i H
  E : ED K Z2 H1 s.env σ cS
  G : Gd Z2 H1 (add cS ex)
  F : Fr false Z1 H1 (add c1 ca1) Z2 H1 (add cS ex)
  st : ∀ H', (∀ a o, H1 a = some o → (isMut o = false ∨ Z2 a ∨ ex a ≠ 0) → H' a = some o) → St H'
  un : ∀ (Z' : Addr → Prop) H' env' σ' c', (∀ a, Z2 a → Z' a) → (∀ a o, H1 a = some o → (isMut o = false ∨ Z2 a ∨ ex a ≠ 0) → H' a = some o) → ED K Z' H' env' σ' c' → (∀ i d, s.lent = some (i, d) → σ'[i]? = σ[i]?) →
    ∃ c'', ED K Z' H' (unlend s.lent env') σ' c'' ∧ ∀ a, c'' a ≤ c' a + ex a
theorem walks_yld {J : It} {xs : List V} {St : Hp → Prop} {its : List D} {Z2 : Addr → Prop} {H1 : Hp} (w : Walks J xs St) (q : Dens K Z2 H1 its xs zc) : ∀ i (Z : Addr → Prop) H x H', (∀ a, Z2 a → Z a) → (∀ a o, H1 a = some o → (isMut o = false ∨ Z2 a) → H a = some o) → St H → i < its.length → J.yld i H x H' → (H' = H ∨ ∃ T xs, H T = none ∧ H' = upd H T (.tup xs)) ∧ ∃ d, its[i]? = some d ∧ Den K Z H' d x zc := by
  intro i Z H x H' hz hk st hi y
  obtain ⟨rfl, hx⟩ := w.yld i H x H' st (by rw [q.length]; exact hi) y
  obtain ⟨d, k1, k2, hd, qd, ek⟩ := Dens.getV q hx
  have ek1 : k1 = zc := by funext a; have := congrFun ek a; simp only [add, zc] at *; omega
  subst ek1
  exact ⟨.inl rfl, d, hd, Den.loc hz (fun a o h x => hk a o h (x.elim .inl fun x => x.elim .inr fun x => absurd rfl x)) qd⟩
theorem for_ok {k : SrcK} {as : List A} {env1 : EnvD} {s : Src} {vs : List V} {σ : L2.St} {Z1 : Addr → Prop} {H1 : Hp} {c1 ca1 : Cnt} (E : ED K Z1 H1 env1 σ c1) (q : ADs K Z1 H1 σ as vs ca1) (G : Gd Z1 H1 (add c1 ca1)) (h : forC k as env1 = some s)
    {n : Nat} (hn : n = as.length) {R : It → Hp → Prop} (r : ∀ J St Z2 cS ex, ForOk K s σ Z1 Z2 H1 c1 ca1 cS ex J St → R J H1) : jSrc K k n vs H1 R := by
  have hvl := q.length
  subst hn
  cases k with
  | rng =>
    obtain ⟨its, h1, rfl⟩ := map_some (show ((A.gets env1 as).bind rngItems).map (fun its => (⟨its, false, env1, none⟩ : Src)) = some s from h)
    obtain ⟨ds, h2, h3⟩ := bind_some h1
    obtain ⟨lo, hi, e, x⟩ := rng_int (ADs.look E q h2) h3
    have so := src_rng (K := K) (m := false) (ca1 := ca1) E e
    have fo : ForOk K ⟨its, false, env1, none⟩ σ Z1 Z1 H1 c1 ca1 c1 ca1 (Itr lo (hi - lo).toNat) (fun _ => True) :=
      ⟨fun i H st hi => so.w.go i H st (by rw [so.q.length]; exact hi), walks_yld so.w so.q, fun i H st hi => so.w.stop i H st (by rw [so.q.length]; exact hi), E, G, Fr.refl, fun _ _ => trivial, fun Z' H' env' σ' c' _ _ E' _ => ⟨c', E', fun a => by omega⟩⟩
    rcases x with ⟨hl, x⟩ | ⟨hl, x⟩
    · rw [← hvl, hl]; exact x R (r _ _ _ _ _ fo)
    · rw [← hvl, hl]; exact x R (r _ _ _ _ _ fo)
  | it lend =>
    obtain ⟨a, h1, h2⟩ := bind_some (show ((A.one? as).bind fun a => (a.get env1).bind fun d => (d.items).bind fun its => forI lend a env1 d its) = some s from h)
    obtain ⟨d, h3, h4⟩ := bind_some h2
    obtain ⟨its, h5, h6⟩ := bind_some h4
    unfold A.one? at h1
    split at h1
    · cases h1
      obtain ⟨v, r', k1, k2, rfl, q1, q2, rfl⟩ := q
      obtain ⟨rfl, rfl⟩ := q2
      rw [add_zc] at r G
      have fin : ∀ {p : Addr} {xs : List V} {Z2 : Addr → Prop} {cS ex : Cnt}, v = .ref p → ((H1 p = some (.lst xs) ∧ (Z2 p ∨ ex p ≠ 0)) ∨ SqT K H1 p xs) → ED K Z2 H1 s.env σ cS → Gd Z2 H1 (add cS ex) → Fr false Z1 H1 (add c1 k1) Z2 H1 (add cS ex) → Dens K Z2 H1 s.its xs zc →
          (∀ (Z' : Addr → Prop) H' env' σ' c', (∀ a, Z2 a → Z' a) → (∀ a o, H1 a = some o → (isMut o = false ∨ Z2 a ∨ ex a ≠ 0) → H' a = some o) → ED K Z' H' env' σ' c' → (∀ i d, s.lent = some (i, d) → σ'[i]? = σ[i]?) →
            ∃ c'', ED K Z' H' (unlend s.lent env') σ' c'' ∧ ∀ a, c'' a ≤ c' a + ex a) → jSrc K (.it lend) 1 [v] H1 R := by
        intro p xs Z2 cS ex hv hh E2 G2 F2 q2 un
        refine ⟨p, by rw [hv], ?_⟩
        rcases hh with ⟨hh, hz⟩ | hh
        · exact .inl ⟨⟨xs, SqL.of hh⟩, r _ _ _ _ _ ⟨fun i H st hi => (walks_list _ _ _).go i H st (by rw [q2.length]; exact hi), walks_yld (walks_list _ _ _) q2, fun i H st hi => (walks_list _ _ _).stop i H st (by rw [q2.length]; exact hi), E2, G2, F2, fun H' k => k p _ hh (hz.elim (fun z => .inr (.inl z)) fun z => .inr (.inr z)), un⟩⟩
        · exact .inr ⟨⟨xs, hh⟩, r _ _ _ _ _ ⟨fun i H st hi => (walks_tup _ _ _).go i H st (by rw [q2.length]; exact hi), walks_yld (walks_tup _ _ _) q2, fun i H st hi => (walks_tup _ _ _).stop i H st (by rw [q2.length]; exact hi), E2, G2, F2, fun H' k => SqT.loc (fun a o h x => k a o h (.inl x)) hh, un⟩⟩
      cases a with
      | pk d' => cases h6
      | tmp d' =>
        cases h3
        have h6 : (if D.plains its then some (⟨its, false, env1, none⟩ : Src) else none) = some s := h6
        split at h6
        · rename_i hp
          cases h6
          obtain ⟨p, xs, c', hv, hh, qi, le⟩ := items_den q1 h5
          have := Dens.pl hp qi
          subst this
          exact fin hv hh E G Fr.refl qi fun Z' H' env' σ' c' _ _ E' _ => ⟨c', E', fun a => by omega⟩
        · cases h6
      | ref i =>
        obtain ⟨hv, rfl⟩ := q1
        have hg := getE_some (show getE env1 i = some d from h3)
        obtain ⟨w, k3, k4, e1, q1, E2, rfl⟩ := E.take hg
        rw [hv] at e1; cases e1
        obtain ⟨p, xs, c', hv', hh, qi, le⟩ := items_den q1 h5
        rw [add_zc] at G fin
        have h6 : (if lend then (if D.plains its then some (⟨its, false, env1.set i none, some (i, d)⟩ : Src) else none) else some ⟨D.freezes its, false, env1.set i (some d.freeze), none⟩) = some s := h6
        split at h6
        · split at h6
          · rename_i hp
            cases h6
            have := Dens.pl hp qi
            subst this
            have ee : add k3 k4 = add k4 k3 := add_comm _ _
            rw [ee] at G fin
            refine fin hv' hh E2 G Fr.refl qi fun Z' H' env' σ' c' hz hk E' hl => ?_
            obtain ⟨k5, k6, E3, rfl⟩ := E'.drop i
            have hs := hl i d rfl
            rw [hv] at hs
            have E4 := ED.put E3 (E'.at_len hs) (Den.loc hz hk q1)
            rw [set_self hs] at E4
            exact ⟨_, E4, fun a => by simp only [add]; omega⟩
          · cases h6
        · cases h6
          have gd : ∀ a, k3 a ≠ 0 → MutA H1 a := fun a x => (G a).2.1 (by simp only [add]; omega)
          have E3 := ED.put (i := i) (ED.loc (Z' := fun a => Z1 a ∨ k3 a ≠ 0) (H' := H1) (fun _ => .inl) (fun _ _ h _ => h) E2) (List.getElem?_eq_some_iff.mp hg).1 (Den.frz (W := fun a => Z1 a ∨ k3 a ≠ 0) (fun _ => .inl) (fun _ => .inr) q1)
          rw [zc_add, set_self hv] at E3
          refine fin (Z2 := fun a => Z1 a ∨ k3 a ≠ 0) (cS := k4) (ex := zc) hv' (hh.elim (fun ⟨x, y⟩ => .inl ⟨x, .inl y⟩) .inr) E3 ?_ ?_ (Dens.frz (fun _ => .inl) (fun a x => .inr (by have := le a; omega)) qi) fun Z' H' env' σ' c' _ _ E' _ => ⟨c', E', fun a => by omega⟩
          · intro a
            obtain ⟨g1, g2, g3⟩ := G a
            simp only [add, zc] at *
            refine ⟨by omega, fun x => g2 (by omega), fun z => ?_⟩
            rcases z with z | z
            · exact ⟨by have := (g3 z).1; omega, (g3 z).2⟩
            · exact ⟨by omega, (gd a z).ne⟩
          · intro a
            simp only [add, zc]
            exact ⟨.inl, fun n => n, fun _ _ => trivial, fun n x => ⟨by omega, fun z => z.elim id fun y => absurd (by omega) y⟩⟩
    · cases h1
  | zip =>
    obtain ⟨its, h1, rfl⟩ := map_some (show ((A.gets env1 as).bind zipItems).map (fun its => (⟨its, false, env1, none⟩ : Src)) = some s from h)
    obtain ⟨ds, h2, h3⟩ := bind_some h1
    have B := ADs.look E q h2
    unfold zipItems at h3
    split at h3
    · rename_i xs ys
      split at h3
      · rename_i hp
        cases h3
        rw [Bool.and_eq_true] at hp
        obtain ⟨v, r1, k1, rfl, q1, u, r2, k2, rfl, q2, e⟩ := B
        have e : r2 = [] := e
        subst e
        obtain ⟨a, vs1, rfl, s1, q1⟩ := q1
        obtain ⟨b, vs2, rfl, s2, q2⟩ := q2
        have := Dens.pl hp.1 q1
        subst this
        have := Dens.pl hp.2 q2
        subst this
        have hl : as.length = 2 := by rw [← hvl]; rfl
        rw [hl]
        have ln : ((xs.zip ys).map fun p : D × D => D.tup [p.1, p.2]).length = min vs1.length vs2.length := by rw [List.length_map, List.length_zip, q1.length, q2.length]
        refine ⟨a, b, vs1, vs2, rfl, .inr ⟨s1, s2, r _ (fun H => SqT K H a vs1 ∧ SqT K H b vs2) Z1 c1 ca1 ⟨fun i H st hi => ?_, fun i Z H x H' hz hk st hi y => ?_, fun i H st hi => ?_, E, G, Fr.refl, fun H' k => ⟨SqT.loc (fun a o h x => k a o h (.inl x)) s1, SqT.loc (fun a o h x => k a o h (.inl x)) s2⟩, fun Z' H' env' σ' c' _ _ E' _ => ⟨c', E', fun a => by omega⟩⟩⟩⟩
        · have hi : i < min vs1.length vs2.length := by rw [← ln]; exact hi
          exact ⟨vs1, vs2, vs1[i]'(by omega), vs2[i]'(by omega), st.1, st.2, List.getElem?_eq_getElem (by omega), List.getElem?_eq_getElem (by omega)⟩
        · have hi : i < min vs1.length vs2.length := by rw [← ln]; exact hi
          obtain ⟨Tt, x1, x2, rfl, hn, rfl, f1, f2⟩ := y
          have g1 := f1 vs1 st.1
          have g2 := f2 vs2 st.2
          obtain ⟨d1, k1, k1', hd1, p1, e1⟩ := Dens.getV q1 g1
          obtain ⟨d2, k2, k2', hd2, p2, e2⟩ := Dens.getV q2 g2
          have ek1 : k1 = zc := by funext a; have := congrFun e1 a; simp only [add, zc] at *; omega
          have ek2 : k2 = zc := by funext a; have := congrFun e2 a; simp only [add, zc] at *; omega
          subst ek1 ek2
          have lc : ∀ a o, H1 a = some o → (isMut o = false ∨ Z1 a ∨ zc a ≠ 0) → upd H Tt (.tup [x1, x2]) a = some o := fun a o h x => keep_new hn a o (hk a o h (x.elim .inl fun x => x.elim .inr fun x => absurd rfl x))
          refine ⟨.inr ⟨Tt, _, hn, rfl⟩, .tup [d1, d2], ?_, Tt, [x1, x2], rfl, .inl (.inl upd_same), x1, [x2], zc, zc, rfl, Den.loc hz lc p1, ⟨x2, [], zc, zc, rfl, Den.loc hz lc p2, ⟨rfl, rfl⟩, (add_zc _).symm⟩, (add_zc _).symm⟩
          rw [List.getElem?_map, show (xs.zip ys)[i]? = some (d1, d2) from List.getElem?_zip_eq_some.mpr ⟨hd1, hd2⟩]
          rfl
        · have hi : min vs1.length vs2.length ≤ i := by rw [← ln]; exact hi
          exact ⟨vs1, vs2, st.1, st.2, by omega⟩
      · cases h3
    · cases h3

/-- the slots that the walk holds on to -/
def lentFx : SrcK → List E → List Nat
  | .it true, [.var i] => [i]
  | _, _ => []
def lentOk : SrcK → List E → Bool
  | .it true, [.var _] => true
  | .it true, _ => false
  | _, _ => true
theorem lentOk_var {src : List E} (h : lentOk (.it true) src = true) : ∃ i, src = [.var i] := by
  rcases src with _ | ⟨e, _ | ⟨f, r⟩⟩
  · cases h
  · cases e <;> first | exact ⟨_, rfl⟩ | cases h
  · cases e <;> cases h
theorem lent_at {k : SrcK} {src : List E} {as : List A} {env1 : EnvD} {s : Src} (hk : lentOk k src = true) (h1 : evAs P false src env = some (as, env1)) (h2 : forC k as env1 = some s) : ∀ i d, s.lent = some (i, d) → i ∈ lentFx k src := by
  intro i d hl
  cases k with
  | rng =>
    obtain ⟨its, _, rfl⟩ := map_some (show ((A.gets env1 as).bind rngItems).map (fun its => (⟨its, false, env1, none⟩ : Src)) = some s from h2)
    cases hl
  | zip =>
    obtain ⟨its, _, rfl⟩ := map_some (show ((A.gets env1 as).bind zipItems).map (fun its => (⟨its, false, env1, none⟩ : Src)) = some s from h2)
    cases hl
  | it lend =>
    obtain ⟨a, g1, g2⟩ := bind_some (show ((A.one? as).bind fun a => (a.get env1).bind fun d => (d.items).bind fun its => forI lend a env1 d its) = some s from h2)
    obtain ⟨d', g3, g4⟩ := bind_some g2
    obtain ⟨its, g5, g6⟩ := bind_some g4
    cases a with
    | pk _ => cases g6
    | tmp _ =>
      have g6 : (if D.plains its then some (⟨its, false, env1, none⟩ : Src) else none) = some s := g6
      split at g6
      · cases g6; cases hl
      · cases g6
    | ref j =>
      have g6 : (if lend then (if D.plains its then some (⟨its, false, env1.set j none, some (j, d')⟩ : Src) else none) else some ⟨D.freezes its, false, env1.set j (some d'.freeze), none⟩) = some s := g6
      cases lend with
      | false => rw [if_neg (by decide)] at g6; cases g6; cases hl
      | true =>
        rw [if_pos rfl] at g6
        split at g6
        · cases g6
          cases hl
          obtain ⟨i', rfl⟩ := lentOk_var hk
          obtain ⟨x, m1, m2⟩ := bind_some (show ((evA P false (.var i') env).bind fun x => (evAs P (false || x.1.isPk) [] x.2).map fun y => (x.1 :: y.1, y.2)) = some (as, env1) from h1)
          obtain ⟨y, m3, m4⟩ := map_some m2
          injection m4 with m5 m6
          have m3 : some (([] : List A), x.2) = some y := m3
          injection m3 with m3
          subst m3
          obtain ⟨dd, m7, m8⟩ := map_some (show (getE env i').map (fun d => (if d.plain then A.tmp d else .ref i', env)) = some x from m1)
          subst m8
          subst m5
          have g1 : some (if dd.plain then A.tmp dd else .ref i') = some (A.ref i) := g1
          injection g1 with g1
          split at g1
          · cases g1
          · cases g1; exact List.mem_singleton.mpr rfl
        · cases g6

theorem in_for {tg : Tg} {k : SrcK} {src : List E} {b : List S} (hk : lentOk k src = true) (hfx : ∀ j ∈ tgS tg, j ∉ lentFx k src ++ fx) (h : tS K P fx (.for_ tg k src b) Y σ H) :
    tFor (iSrc K k (src.map (tE K P))) (gT K tg) (tSs K P (lentFx k src ++ fx) b) Y σ H := by
  obtain ⟨Z, c, env, fl, env', E, G, ev, r⟩ := h
  obtain ⟨x, h1, h2⟩ := bind_some (show ((evAs P false src env).bind fun x => (forC k x.1 x.2).bind fun s => (loopF (fun d e => (bindT tg d e).bind (evSs P b)) s.its s.env).map fun r => (r.1, unlend s.lent r.2)) = some (fl, env') from ev)
  obtain ⟨s, h3, h4⟩ := bind_some h2
  obtain ⟨y, h5, h6⟩ := map_some h4
  injection h6 with e1 e2
  subst e1 e2
  have hlent := lent_at hk h1 h3
  generalize hfx' : lentFx k src ++ fx = fx' at *
  have sub : ∀ j ∈ fx, j ∈ fx' := fun j hj => by rw [← hfx']; exact List.mem_append_right _ hj
  refine seqL ⟨false, Z, c, env, x.1, x.2, E, G, h1, fun vs H1 Z1 c1 ca1 E1 q1 G1 F1 M1 => ?_⟩
  refine for_ok E1 q1 G1 h3 (by rw [evAs_len h1, List.length_map]) fun J St Z2 cS ex fo => ?_
  have F12 := F1.trans fo.F
  -- the end
  have fin : ∀ (fl : Fl) (e' : EnvD), fl = y.1 → e' = y.2 → ∀ v σ' H' Z' c' cr, ED K Z' H' e' σ' c' → flDen K Z' H' fl v cr → Gd Z' H' (add (add c' cr) ex) → Fr false Z2 H1 cS Z' H' (add c' cr) → FX fx' σ σ' → kont Y fl σ' H' v := by
    intro fl e' hfl he v σ' H' Z' c' cr E' q' G' F' X'
    subst hfl he
    obtain ⟨c2, E2, le⟩ := fo.un Z' H' y.2 σ' c' F'.zz (F'.keep fo.G) E' fun i d hl => X'.2 i (by rw [← hfx']; exact List.mem_append_left _ (hlent i d hl))
    obtain ⟨_, F3⟩ := F'.ext fo.G (G'.le fun a => by simp only [add]; omega)
    exact r v σ' H' Z' c2 cr E2 q' (G'.le fun a => by have := le a; simp only [add]; omega) ((F12.trans F3).lessR fun a => by have := le a; simp only [add]; omega) ⟨X'.1, fun j hj => X'.2 j (sub j hj)⟩
  refine ⟨fun i kk σ' H' => kk = s.its.length - i ∧ i ≤ s.its.length ∧ ∃ Z c env, ED K Z H' env σ' c ∧ Gd Z H' (add c ex) ∧ Fr false Z2 H1 cS Z H' c ∧ FX fx' σ σ' ∧ loopF (fun d e => (bindT tg d e).bind (evSs P b)) (s.its.drop i) env = some y,
    ⟨s.its.length, by omega, by omega, Z2, cS, s.env, fo.E, fo.G, Fr.refl, FX.refl, h5⟩, fun i kk σ' H' ⟨hkk, hi, Z, c, env, E, G, F, X, ev⟩ => ?_⟩
  have kp := F.keep fo.G
  have st : St H' := fo.st H' fun a o h x => kp a o h x
  by_cases hlt : i < s.its.length
  · refine .inr ⟨fo.go i H' st hlt, fun σ'' H'' => s.its.length - (i + 1) = s.its.length - (i + 1) ∧ i + 1 ≤ s.its.length ∧ ∃ Z c env, ED K Z H'' env σ'' c ∧ Gd Z H'' (add c ex) ∧ Fr false Z2 H1 cS Z H'' c ∧ FX fx' σ σ'' ∧ loopF (fun d e => (bindT tg d e).bind (evSs P b)) (s.its.drop (i + 1)) env = some y,
      fun σ'' H'' n => ⟨s.its.length - (i + 1), by omega, n⟩, fun x H'' yy => ?_⟩
    obtain ⟨hH, d, hd, qd⟩ := fo.yld i Z H' x H'' F.zz (fun a o h x => kp a o h (x.elim .inl fun x => .inr (.inl x))) st hlt yy
    have E : ED K Z H'' env σ' c := by
      rcases hH with rfl | ⟨T, xs, hn, rfl⟩
      · exact E
      · exact ED.loc (fun _ z => z) (fun a u h _ => keep_new hn a u h) E
    have G : Gd Z H'' (add c ex) := by
      rcases hH with rfl | ⟨T, xs, hn, rfl⟩
      · exact G
      · exact G.newT hn
    have F : Fr false Z2 H1 cS Z H'' c := by
      rcases hH with rfl | ⟨T, xs, hn, rfl⟩
      · exact F
      · exact F.trans (Fr.newT hn)
    obtain ⟨hil, hdi⟩ := List.getElem?_eq_some_iff.mp hd
    have edrop : s.its.drop i = d :: s.its.drop (i + 1) := by rw [List.drop_eq_getElem_cons hil, hdi]
    rw [edrop] at ev
    obtain ⟨p, s1, s2⟩ := bind_some (show (((bindT tg d env).bind (evSs P b)).bind fun p => match p.1 with
      | .nx => loopF (fun d e => (bindT tg d e).bind (evSs P b)) (s.its.drop (i + 1)) p.2
      | .ct => loopF (fun d e => (bindT tg d e).bind (evSs P b)) (s.its.drop (i + 1)) p.2
      | .bk => some (.nx, p.2)
      | .rt d => some (.rt d, p.2)) = some y from ev)
    obtain ⟨e1, b1, b2⟩ := bind_some s1
    refine ⟨Z, c, zc, d, env, e1, E, qd, b1, fun σ2 c2 E2 le2 hl2 ag2 => ?_⟩
    have le2 : ∀ a, c2 a ≤ c a := fun a => by have := le2 a; simp only [zc] at this; omega
    have X2 : FX fx' σ σ2 := X.trans ⟨hl2, fun j hj => ag2 j fun h => hfx j h hj⟩
    have G2 : Gd Z H'' (add c2 ex) := G.le fun a => by have := le2 a; simp only [add]; omega
    refine ⟨Z, c2, e1, p.1, p.2, E2, G2.le (fun a => by simp only [add]; omega), b2, fun v σ3 H3 Z3 c3 cr E3 q3 G3 F3 X3 => ?_⟩
    obtain ⟨Ga, Fa⟩ := F3.ext G2 G3
    have F4 : Fr false Z2 H1 cS Z3 H3 (add c3 cr) := F.trans (F3.lessL le2)
    have X4 := X2.trans X3
    cases hp : p.1 with
    | nx =>
      rw [hp] at s2 q3
      have q3 : cr = zc := q3
      subst q3
      rw [add_zc] at Ga F4
      exact ⟨rfl, hlt, Z3, c3, p.2, E3, Ga, F4, X4, s2⟩
    | ct =>
      rw [hp] at s2 q3
      have q3 : cr = zc := q3
      subst q3
      rw [add_zc] at Ga F4
      exact ⟨rfl, hlt, Z3, c3, p.2, E3, Ga, F4, X4, s2⟩
    | bk =>
      rw [hp] at s2 q3
      have q3 : cr = zc := q3
      have s2 : some (Fl.nx, p.2) = some y := s2
      injection s2 with s2
      exact fin .nx p.2 (by rw [← s2]) (by rw [← s2]) v σ3 H3 Z3 c3 cr E3 q3 Ga F4 X4
    | rt dd =>
      rw [hp] at s2 q3
      have s2 : some (Fl.rt dd, p.2) = some y := s2
      injection s2 with s2
      exact fin (.rt dd) p.2 (by rw [← s2]) (by rw [← s2]) v σ3 H3 Z3 c3 cr E3 q3 Ga F4 X4
  · refine .inl ⟨fo.stop i H' st (by omega), ?_⟩
    rw [List.drop_eq_nil_of_le (by omega)] at ev
    have ev : some (Fl.nx, env) = some y := ev
    injection ev with ev
    exact fin .nx env (by rw [← ev]) (by rw [← ev]) .non σ' H' Z c zc E rfl (by rw [add_zc]; exact G) (by rw [add_zc]; exact F) X
end
end DL
end

section
/-! DL19: updates of a name's own list or dict. -/
namespace DL
open PySem PySem.Spec L2
open PyProof.Rows hiding St

theorem PSet.or {X : Cx} {r r' : TSet} (h : PSet X r) (h' : PSet X r') : PSet X (fun o i v H Q => r o i v H Q ∨ r' o i v H Q) := by
  intro pins s σ H o i v ov iv u Q I ro ri rv q
  rcases q with q | q
  · exact h pins s σ H o i v ov iv u Q I ro ri rv q
  · exact h' pins s σ H o i v ov iv u Q I ro ri rv q
theorem PGet.or {X : Cx} {r r' : V → V → Hp → VK → Prop} (h : PGet X r) (h' : PGet X r') : PGet X (fun o i H Q => r o i H Q ∨ r' o i H Q) := by
  intro pins s σ H o i ov iv Q I ro ri q
  rcases q with q | q
  · exact h pins s σ H o i ov iv Q I ro ri q
  · exact h' pins s σ H o i ov iv Q I ro ri q
theorem PIp.or {X : Cx} {op : Operator} {r r' : TIp} (h : PIp X op r) (h' : PIp X op r') : PIp X op (fun x y H Q => r x y H Q ∨ r' x y H Q) := by
  intro pins s σ H x y v u Q I r1 r2 q
  rcases q with q | q
  · exact h pins s σ H x y v u Q I r1 r2 q
  · exact h' pins s σ H x y v u Q I r1 r2 q
def rSt (K : PySem.W.Frag) : TSet := fun o i v H Q => rSetL o i v H Q ∨ rSetD o i v H Q
theorem set_both {X : Cx} (hr : Room 0 X.A) : PSet X (rSt X.K) := PSet.or set_list (set_dict (hu_of hr))
theorem get_list {X : Cx} : PGet X (rIxL X.K) := by
  intro pins s σ H x y v u Q I rx ry h
  obtain ⟨p, xs, i, z, rfl, rfl, hq, he, q⟩ := h
  cases rx
  obtain ⟨t, rfl⟩ := ry
  obtain ⟨its, r, pl, hz⟩ := I.list hq
  obtain ⟨j, h1, h2, h3, h4, h5⟩ := atI_get he
  obtain ⟨w, ew, rw'⟩ := r.get h2
  have hl := r.length
  have hn := line63
  have fin : EP X pins σ Q w s := ⟨z, H, I, rw', q⟩
  by_cases h0 : 0 ≤ i
  · have hj : i.toNat = j := by
      rw [seqIndex_of h0 h5] at h1
      exact Option.some.inj h1
    exact wpAny_getItem_list pl.isList h0 (by omega) (by rw [hj]; simpa using ew) fin
  · have hj : (i + (its.toArray.size : Int)).toNat = j := by
      rw [seqIndex_neg (by omega) h4] at h1
      rw [List.size_toArray, ← hl]
      exact Option.some.inj h1
    exact wpAny_getItem_list_neg pl.isList (by omega) (by rw [List.size_toArray] <;> omega) (by omega) (by rw [hj]; simpa using ew) fin
theorem get_tup {X : Cx} : PGet X (rIxT X.K) := by
  intro pins s σ H x y v u Q I rx ry h
  obtain ⟨p, xs, i, z, rfl, rfl, hq, he, q⟩ := h
  cases rx
  obtain ⟨t, rfl⟩ := ry
  obtain ⟨its, r, pl, hz⟩ := I.tuple hq
  obtain ⟨j, h1, h2, h3, h4, h5⟩ := atI_get he
  obtain ⟨w, ew, rw'⟩ := r.get h2
  have hl := r.length
  have hn := line63
  have fin : EP X pins σ Q w s := ⟨z, H, I, rw', q⟩
  exact getItem_tuple (j := j) pl (by omega) (by omega) (by rw [List.size_toArray, ← hl]; exact h1) (by simpa using ew) fin
theorem get_sub {X : Cx} (hr : Room 0 X.A) : PGet X (rSub X.K) := by
  refine PGet.or get_list (PGet.or get_tup ?_)
  intro pins s σ H x y v u Q I rx ry h
  obtain ⟨a, w, rfl, g, q⟩ := h
  cases rx
  exact d_getItem (hu_of hr) I g ry fun w' s' I' r' => ⟨w, H, I', r', q⟩

section
variable {K : PySem.W.Frag} {P : Ctx} {fx : List Nat} {Y : Ends} {σ : L2.St} {H : Hp} {Z : Addr → Prop} {c : Cnt} {env env' : EnvD} {fl : Fl}
/-- o[k] = v done: o the name's own -/
theorem set_done {i : Nat} {kd d dd d' : D} {kv v w : V} {Q : Hp → Prop} {c2 ck cd : Cnt} (E : ED K Z H env σ c2) (hg : getE env i = some dd) (hw : σ[i]? = some (some w)) (qk : Den K Z H kd kv ck) (qd : Den K Z H d v cd) (hs : setD dd kd d = some d')
    (G : Gd Z H (add c2 cd)) (k : ∀ H' c', ED K Z H' (env.set i (some d')) σ c' → Gd Z H' c' → Fr false Z H (add c2 cd) Z H' c' → Q H') : rSt K w kv v H Q := by
  have hg' := getE_some hg
  obtain ⟨w', k1, k2, e1, q1, E2, rfl⟩ := E.take hg'
  rw [hw] at e1; cases e1
  have hi := (List.getElem?_eq_some_iff.mp hg').1
  cases dd with
  | lst o ds =>
    cases o with
    | false => cases kd <;> cases hs
    | true =>
      cases kd with
      | int j =>
        obtain ⟨j', h1, h2⟩ := map_some (show (ixN ds.length j).map (fun j => D.lst true (ds.set j d)) = some d' from hs)
        subst h2
        obtain ⟨p, vs, c', rfl, hp, q, rfl⟩ := q1
        obtain ⟨rfl, _⟩ := qk
        have hj : j' < ds.length := (ixN_seq h1).2.1
        obtain ⟨c'', q', le⟩ := q.setAt qd hj
        have G' : Gd Z H (add (one p) (add c'' k2)) := G.le fun a => by have := le a; simp only [add]; omega
        obtain ⟨E4, G4, F4⟩ := own_upd (o' := .lst (vs.set j' v)) E2 hi hw hp rfl rfl (den_lst q') G'
        exact .inl ⟨p, vs, j, j', rfl, rfl, hp, by rw [q.length]; exact h1, k _ _ E4 G4 (F4.lessL fun a => by have := le a; simp only [add]; omega)⟩
      | _ => cases hs
  | dK o ks ds =>
    cases o with
    | false => cases kd <;> cases hs
    | true =>
      obtain ⟨key, h1, h2⟩ := bind_some (show ((D.key? kd).bind fun k => if ks.length < sizeLine then some (D.dK true (putD k d ks ds).1 (putD k d ks ds).2) else none) = some d' by cases kd <;> exact hs)
      split at h2
      · rename_i hlt
        cases h2
        obtain ⟨p, kvs, c', rfl, hp, nd, q, rfl⟩ := q1
        have ek := keyD qk h1
        obtain ⟨nd', c'', q', le⟩ := putD_den (k := key) nd q qd
        have G' : Gd Z H (add (one p) (add c'' k2)) := G.le fun a => by have := le a; simp only [add]; omega
        obtain ⟨E4, G4, F4⟩ := own_upd (o' := .dK (putK kvs key v)) E2 hi hw hp rfl rfl (den_dK nd' q') G'
        refine .inr ⟨p, _, rfl, ?_, k _ _ E4 G4 (F4.lessL fun a => by have := le a; simp only [add]; omega)⟩
        rw [ek]
        exact DPut.k hp (by have := congrArg List.length nd.1; rw [List.length_map] at this; omega)
      · cases h2
  | _ => cases kd <;> cases hs
theorem in_sto {i : Nat} {k e : E} (h : tS K P fx (.sto i [] k e) Y σ H) : tAsg (tE K P e) (gSub (tVar i) (tE K P k) (rSt K)) Y σ H := by
  obtain ⟨Z, c, env, fl, env', E, G, ev, r⟩ := h
  obtain ⟨x, h1, h2⟩ := bind_some (show ((evM P false e env).bind fun x => (evPath P [] x.2).bind fun y => (getE y.2 i).bind fun _ => (evKey P k y.2).bind fun z =>
      (updE i y.1 (fun c => setD c z.1 x.1) z.2).map fun e' => (Fl.nx, e')) = some (fl, env') from ev)
  obtain ⟨y, h3, h4⟩ := bind_some h2
  obtain ⟨d0, h5, h6⟩ := bind_some h4
  obtain ⟨z, h7, h8⟩ := bind_some h6
  obtain ⟨e2, h9, h10⟩ := map_some h8
  injection h10 with e1 e2
  subst e1 e2
  have hy := evPath_nil h3
  subst hy
  obtain ⟨ka, g1, g2⟩ := bind_some (show ((evA P true k x.2).bind fun x => (x.1.tmp?).map fun d => (d, x.2)) = some z from h7)
  obtain ⟨kd, g3, rfl⟩ := map_some g2
  refine in_M E G h1 fun v H1 Z1 c1 cd E1 q1 G1 F1 => ?_
  obtain ⟨w, _, _, hw, _, _, _⟩ := E1.take (getE_some h5)
  refine ⟨w, hw, ?_⟩
  refine ⟨true, Z1, c1, x.2, ka.1, ka.2, E1, G1.le (fun a => by simp only [add]; omega), g1, fun kv H2 Z2 c2 ck E2 qk G2 F2 M2 => ?_⟩
  have G2' : Gd Z2 H2 c2 := G2.le fun a => by simp only [add]; omega
  obtain ⟨G3, F3⟩ := (F2.lessR (e := c2) fun a => by simp only [add]; omega).ext G1 G2'
  have hka : ka.1 = .tmp kd := by
    generalize ka.1 = a at g3
    cases a <;> cases g3
    rfl
  rw [hka] at qk
  have qd := Den.loc F2.zz (fun a o h x => F2.keep G1 a o h x) q1
  obtain ⟨dd, d', g5, g6, rfl⟩ := updE_nil h9
  refine set_done E2 g5 hw qk qd g6 G3 fun H4 c4 E4 G4 F4 => ?_
  exact r.nx E4 G4 (F1.trans (F3.weak.trans F4)) FX.refl

/-! ### op= -/
def rIp : Operator → TIp
  | .Add => ipI fun i j => i + j
  | .Sub => ipI fun i j => i - j
  | _ => fun _ _ _ _ => False
theorem ip_all {X : Cx} (o : Operator) : PIp X o (rIp o) := by
  cases o with
  | Add => exact ip_add
  | Sub => exact ip_sub
  | _ => intro pins s σ H x y v u Q I r1 r2 h; exact h.elim
theorem aug_den {o : Operator} {a b d : D} {x y : V} {c1 c2 : Cnt} (qa : Den K Z H a x c1) (qb : Den K Z H b y c2) (h : augD o a b = some d) (ho : o ≠ .Mult) : ∃ v, Den K Z H d v zc ∧ ∀ Q : VK, Q v H → rIp o x y H Q := by
  unfold augD at h
  split at h
  · cases h
    obtain ⟨rfl, _⟩ := qa
    obtain ⟨rfl, _⟩ := qb
    exact ⟨_, ⟨rfl, rfl⟩, fun Q q => ⟨_, _, rfl, rfl, q⟩⟩
  · cases h
    obtain ⟨rfl, _⟩ := qa
    obtain ⟨rfl, _⟩ := qb
    exact ⟨_, ⟨rfl, rfl⟩, fun Q q => ⟨_, _, rfl, rfl, q⟩⟩
  · exact absurd rfl ho
  · cases h
theorem aug_plain {o : Operator} {a b d : D} (h : augD o a b = some d) : ∃ i j, a = .int i ∧ b = .int j := by
  unfold augD at h
  split at h <;> first | (cases h; exact ⟨_, _, rfl, rfl⟩) | (exact ⟨_, _, rfl, rfl⟩) | cases h
theorem in_aug {i : Nat} {o : Operator} {e : E} (ho : o ≠ .Mult) (hfx : i ∉ fx) (h : tS K P fx (.aug i o e) Y σ H) : tAug i (tE K P e) (rIp o) Y σ H := by
  obtain ⟨Z, c, env, fl, env', E, G, ev, r⟩ := h
  obtain ⟨x, h1, h2⟩ := bind_some (show ((getE env i).bind fun x => (evA P false e env).bind fun y => (y.1.get y.2).bind fun d => (augD o x d).bind fun r =>
      if i < env.length then some (Fl.nx, y.2.set i (some r)) else none) = some (fl, env') from ev)
  obtain ⟨y, h3, h4⟩ := bind_some h2
  obtain ⟨d, h5, h6⟩ := bind_some h4
  obtain ⟨n, h7, h8⟩ := bind_some h6
  split at h8
  · rename_i hi
    injection h8 with h8
    injection h8 with e1 e2
    subst e1 e2
    obtain ⟨i1, j1, rfl, rfl⟩ := aug_plain h7
    obtain ⟨w, k1, k2, hw, qw, E0, rfl⟩ := E.take (getE_some h1)
    refine ⟨w, hw, false, Z, _, env, y.1, y.2, E, G, h3, fun v H1 Z1 c1 ca1 E1 q1 G1 F1 M1 => ?_⟩
    obtain ⟨cb, qb, _⟩ := q1.look E1 h5
    have qw1 : Den K Z1 H1 (.int i1) w zc := ⟨qw.1, rfl⟩
    obtain ⟨u, qu, f⟩ := aug_den qw1 qb h7 ho
    refine f _ ?_
    obtain ⟨c3, c4, E3, rfl⟩ := E1.drop i
    have E4 := ED.put (v := u) E3 (by rw [← E1.len, E.len]; exact hi) qu
    refine r.nx E4 (G1.le fun a => by simp only [add, zc]; omega) (F1.lessR fun a => by simp only [add, zc]; omega) ⟨by simp, fun j hj => ?_⟩
    rw [List.getElem?_set_ne (fun e => hfx (by rw [e]; exact hj))]
  · cases h8
theorem in_augS {i : Nat} {o : Operator} {k e : E} (ho : o ≠ .Mult) (h : tS K P fx (.augS i [] k o e) Y σ H) : tAugS (tVar i) (tE K P k) (tE K P e) (rSub K) (rIp o) (rSt K) Y σ H := by
  obtain ⟨Z, c, env, fl, env', E, G, ev, r⟩ := h
  obtain ⟨y, h1, h2⟩ := bind_some (show ((evPath P [] env).bind fun y => (getE y.2 i).bind fun _ => (evKey P k y.2).bind fun z => (getE z.2 i).bind fun r => (getP r (y.1 ++ [z.1])).bind fun old =>
      (evA P true e z.2).bind fun x => (x.1.get x.2).bind fun d => (augD o old d).bind fun new => (updE i y.1 (fun c => setD c z.1 new) x.2).map fun e' => (Fl.nx, e')) = some (fl, env') from ev)
  have hy := evPath_nil h1
  subst hy
  obtain ⟨d0, h3, h4⟩ := bind_some h2
  obtain ⟨z, h5, h6⟩ := bind_some h4
  obtain ⟨dr, h7, h8⟩ := bind_some h6
  obtain ⟨old, h9, h10⟩ := bind_some h8
  obtain ⟨xa, h11, h12⟩ := bind_some h10
  obtain ⟨d, h13, h14⟩ := bind_some h12
  obtain ⟨new, h15, h16⟩ := bind_some h14
  obtain ⟨e2, h17, h18⟩ := map_some h16
  injection h18 with e1 e2
  subst e1 e2
  obtain ⟨ka, g1, g2⟩ := bind_some (show ((evA P true k env).bind fun x => (x.1.tmp?).map fun d => (d, x.2)) = some z from h5)
  obtain ⟨kd, g3, rfl⟩ := map_some g2
  have hka : ka.1 = .tmp kd := by
    generalize ka.1 = a at g3
    cases a <;> cases g3
    rfl
  obtain ⟨w, _, _, hw, _, _, _⟩ := E.take (getE_some h3)
  refine ⟨w, hw, true, Z, c, env, ka.1, ka.2, E, G, g1, fun kv H1 Z1 c1 ck E1 qk G1 F1 M1 => ?_⟩
  rw [hka] at qk
  obtain ⟨w', k1, k2, hw', qw, E0, ee⟩ := E1.take (getE_some h7)
  rw [hw] at hw'; cases hw'
  have h9 : (subD dr kd).bind (fun x => getP x []) = some old := by
    cases dr <;> exact h9
  obtain ⟨old', h9a, h9b⟩ := bind_some h9
  have : old' = old := by
    have h9b : some old' = some old := by cases old' <;> exact h9b
    injection h9b
  subst this
  obtain ⟨u, co, f, qo, _⟩ := sub_den qw qk h9a
  refine f _ ?_
  obtain ⟨i1, j1, rfl, rfl⟩ := aug_plain h15
  obtain ⟨rfl, _⟩ := qo
  have hint : ∀ (Z : Addr → Prop) H, Den K Z H kd kv zc ∨ True := fun _ _ => .inr trivial
  refine ⟨true, Z1, c1, ka.2, xa.1, xa.2, E1, G1.le (fun a => by simp only [add]; omega), h11, fun v H2 Z2 c2 ca2 E2 q2 G2 F2 M2 => ?_⟩
  obtain ⟨cb, qb, _⟩ := q2.look E2 h13
  obtain ⟨nv, qn, f2⟩ := aug_den (K := K) (Z := Z2) (H := H2) (a := .int i1) (b := .int j1) ⟨rfl, rfl⟩ qb h15 ho
  refine f2 _ ?_
  obtain ⟨dd, d', g5, g6, rfl⟩ := updE_nil h17
  have qk2 : Den K Z2 H2 kd kv ck := Den.loc F2.zz (fun a o h x => F2.keep G1 a o h x) qk
  have G3 : Gd Z2 H2 (add c2 zc) := G2.le fun a => by simp only [add, zc]; omega
  refine set_done E2 g5 hw qk2 qn g6 G3 fun H4 c4 E4 G4 F4 => ?_
  have F12 : Fr false Z H c Z2 H2 (add c2 zc) := (((F1.weak.lessR (e := c1) fun a => by simp only [add]; omega).trans F2.weak).lessR fun a => by simp only [add, zc]; omega)
  exact r.nx E4 G4 (F12.trans F4) FX.refl
end
end DL
end

section
/-! DL20: append, extend, remove; a, b, c = x, y, z. -/
namespace DL
open PySem PySem.Spec L2
open PyProof.Rows hiding St

section
variable {K : PySem.W.Frag} {P : Ctx} {fx : List Nat} {Y : Ends} {σ : L2.St} {H : Hp} {Z : Addr → Prop} {c : Cnt} {env env' : EnvD} {fl : Fl}
theorem in_app {i : Nat} {e : E} (h : tS K P fx (.app i [] e) Y σ H) : tDrop (tBM K "list" rAppend (tVar i) (tL [tE K P e])) Y σ H := by
  obtain ⟨Z, c, env, fl, env', E, G, ev, r⟩ := h
  obtain ⟨y, h1, h2⟩ := bind_some (show ((evPath P [] env).bind fun y => ((getE y.2 i).bind D.lst?).bind fun _ => (evM P false e y.2).bind fun x => (updE i y.1 (appD x.1) x.2).map fun e' => (Fl.nx, e')) = some (fl, env') from ev)
  have hy := evPath_nil h1
  subst hy
  obtain ⟨u, h3, h4⟩ := bind_some h2
  obtain ⟨x, h5, h6⟩ := bind_some h4
  obtain ⟨e2, h7, h8⟩ := map_some h6
  injection h8 with e1 e2
  subst e1 e2
  obtain ⟨w, hw, ty⟩ := lst_at E h3
  refine ⟨w, hw, ty, ?_⟩
  show tE K P e σ H _
  refine in_M E G h5 fun v H1 Z1 c1 cd E1 q1 G1 F1 => ?_
  obtain ⟨dd, d', g1, g2, rfl⟩ := updE_nil h7
  have hd : ∃ ds, dd = .lst true ds ∧ ds.length < sizeLine ∧ d' = .lst true (ds ++ [x.1]) := by
    unfold appD at g2
    split at g2
    · split at g2
      · rename_i hl
        cases g2
        exact ⟨_, rfl, hl, rfl⟩
      · cases g2
    · cases g2
  obtain ⟨ds, rfl, hlt, rfl⟩ := hd
  obtain ⟨p, vs, c', k2, rfl, hp, q, E2, rfl, hi⟩ := lst_own (dd := .non) E1 g1 hw
  have q' : Dens K Z1 H1 (ds ++ [x.1]) (vs ++ [v]) (add c' (add cd zc)) := Dens.app q ⟨v, [], cd, zc, rfl, q1, ⟨rfl, rfl⟩, rfl⟩
  have G' : Gd Z1 H1 (add (one p) (add (add c' (add cd zc)) k2)) := G1.le fun a => by simp only [add, zc]; omega
  obtain ⟨E4, G4, F4⟩ := own_upd (o' := .lst (vs ++ [v])) E2 hi hw hp rfl rfl (den_lst q') G'
  exact ⟨p, vs, v, rfl, rfl, hp, by rw [q.length]; exact hlt, r.nx E4 G4 (F1.trans (F4.lessL fun a => by simp only [add, zc]; omega)) FX.refl⟩
theorem in_ext {i : Nat} {e : E} (h : tS K P fx (.ext i [] e) Y σ H) : tDrop (tBM K "list" rExtend (tVar i) (tL [tE K P e])) Y σ H := by
  obtain ⟨Z, c, env, fl, env', E, G, ev, r⟩ := h
  obtain ⟨y, h1, h2⟩ := bind_some (show ((evPath P [] env).bind fun y => ((getE y.2 i).bind D.lst?).bind fun _ => (evA P false e y.2).bind fun x => (x.1.get x.2).bind fun d => (updE i y.1 (extD d) x.2).map fun e' => (Fl.nx, e')) = some (fl, env') from ev)
  have hy := evPath_nil h1
  subst hy
  obtain ⟨u, h3, h4⟩ := bind_some h2
  obtain ⟨x, h5, h6⟩ := bind_some h4
  obtain ⟨d, h6a, h6b⟩ := bind_some h6
  obtain ⟨e2, h7, h8⟩ := map_some h6b
  injection h8 with e1 e2
  subst e1 e2
  obtain ⟨w, hw, ty⟩ := lst_at E h3
  refine ⟨w, hw, ty, ?_⟩
  show tE K P e σ H _
  refine ⟨false, Z, c, env, x.1, x.2, E, G, h5, fun v H1 Z1 c1 ca E1 q1 G1 F1 M1 => ?_⟩
  obtain ⟨cb, qb, _⟩ := q1.look E1 h6a
  obtain ⟨dd, d', g1, g2, rfl⟩ := updE_nil h7
  have hd : ∃ ds o es, dd = .lst true ds ∧ d = .lst o es ∧ D.plains es = true ∧ ds.length + es.length ≤ sizeLine ∧ d' = .lst true (ds ++ es) := by
    unfold extD at g2
    split at g2
    · split at g2
      · split at g2
        · rename_i hl
          cases g2
          rw [Bool.and_eq_true] at hl
          exact ⟨_, _, _, rfl, rfl, hl.1, of_decide_eq_true hl.2, rfl⟩
        · cases g2
      · cases g2
    · cases g2
  obtain ⟨ds, o, es, rfl, rfl, hpl, hlt, rfl⟩ := hd
  obtain ⟨p, vs, c', k2, rfl, hp, q, E2, rfl, hi⟩ := lst_own (dd := .non) E1 g1 hw
  obtain ⟨b, ws, c3, rfl, hb, qe⟩ := qb.lstI
  have := Dens.pl hpl qe
  subst this
  have q' : Dens K Z1 H1 (ds ++ es) (vs ++ ws) (add c' zc) := Dens.app q qe
  have G' : Gd Z1 H1 (add (one p) (add (add c' zc) k2)) := G1.le fun a => by simp only [add, zc]; omega
  obtain ⟨E4, G4, F4⟩ := own_upd (o' := .lst (vs ++ ws)) E2 hi hw hp rfl rfl (den_lst q') G'
  exact ⟨p, b, vs, ws, rfl, rfl, hp, hb, by rw [q.length, qe.length]; exact hlt, r.nx E4 G4 ((F1.lessR (e := add (add (add (one p) c') k2) zc) fun a => by simp only [add, zc]; omega).trans (F4.lessL fun a => by simp only [add, zc]; omega)) FX.refl⟩
theorem remL_at {n : Int} : ∀ {ns l : List Int}, remL n ns = some l → ∃ j, ns[j]? = some n ∧ (∀ m : Nat, m < j → ns[m]? ≠ some n) ∧ l = ns.eraseIdx j
  | [], _, h => by cases h
  | x :: r, l, h => by
    have h : (if x = n then some r else (remL n r).map fun l => x :: l) = some l := h
    split at h
    · rename_i e
      cases h
      exact ⟨0, by simp [e], fun m hm => absurd hm (by omega), rfl⟩
    · rename_i e
      obtain ⟨l', h1, rfl⟩ := map_some h
      obtain ⟨j, g1, g2, rfl⟩ := remL_at h1
      refine ⟨j + 1, by simpa using g1, fun m hm => ?_, rfl⟩
      cases m with
      | zero => simpa using e
      | succ m => simpa using g2 m (by omega)
theorem dens_intsV {ns : List Int} : ∀ {vs : List V} {c : Cnt}, Dens K Z H (ns.map D.int) vs c → vs = ns.map V.int ∧ c = zc := by
  induction ns with
  | nil => intro vs c q; exact q
  | cons n ns ih =>
    intro vs c q
    obtain ⟨v, r, c1, c2, rfl, ⟨rfl, rfl⟩, q2, rfl⟩ := q
    obtain ⟨rfl, rfl⟩ := ih q2
    exact ⟨rfl, add_zc _⟩
theorem den_ints (ns : List Int) : Dens K Z H (ns.map D.int) (ns.map V.int) zc := by
  induction ns with
  | nil => exact ⟨rfl, rfl⟩
  | cons n ns ih => exact ⟨_, _, zc, zc, rfl, ⟨rfl, rfl⟩, ih, (add_zc _).symm⟩
theorem in_rem {i : Nat} {e : E} (h : tS K P fx (.rem i [] e) Y σ H) : tDrop (tBM K "list" rRemI (tVar i) (tL [tE K P e])) Y σ H := by
  obtain ⟨Z, c, env, fl, env', E, G, ev, r⟩ := h
  obtain ⟨y, h1, h2⟩ := bind_some (show ((evPath P [] env).bind fun y => ((getE y.2 i).bind D.lst?).bind fun _ => (evA P false e y.2).bind fun x => (x.1.get x.2).bind fun d => (updE i y.1 (remD d) x.2).map fun e' => (Fl.nx, e')) = some (fl, env') from ev)
  have hy := evPath_nil h1
  subst hy
  obtain ⟨u, h3, h4⟩ := bind_some h2
  obtain ⟨x, h5, h6⟩ := bind_some h4
  obtain ⟨d, h6a, h6b⟩ := bind_some h6
  obtain ⟨e2, h7, h8⟩ := map_some h6b
  injection h8 with e1 e2
  subst e1 e2
  obtain ⟨w, hw, ty⟩ := lst_at E h3
  refine ⟨w, hw, ty, ?_⟩
  show tE K P e σ H _
  refine ⟨false, Z, c, env, x.1, x.2, E, G, h5, fun v H1 Z1 c1 ca E1 q1 G1 F1 M1 => ?_⟩
  obtain ⟨cb, qb, _⟩ := q1.look E1 h6a
  obtain ⟨dd, d', g1, g2, rfl⟩ := updE_nil h7
  have hd : ∃ ns n l, dd = .lst true (ns.map D.int) ∧ d = .int n ∧ remL n ns = some l ∧ d' = .lst true (l.map .int) := by
    unfold remD at g2
    split at g2
    · split at g2
      · obtain ⟨ns, k1, k2⟩ := bind_some g2
        obtain ⟨l, k3, rfl⟩ := map_some k2
        have := ints_of k1
        subst this
        exact ⟨_, _, _, rfl, rfl, k3, rfl⟩
      · cases g2
    · cases g2
  obtain ⟨ns, n, l, rfl, rfl, hr, rfl⟩ := hd
  obtain ⟨rfl, _⟩ := qb
  obtain ⟨p, vs, c', k2, rfl, hp, q, E2, rfl, hi⟩ := lst_own (dd := .non) E1 g1 hw
  obtain ⟨rfl, rfl⟩ := dens_intsV q
  obtain ⟨j, j1, j2, rfl⟩ := remL_at hr
  have G' : Gd Z1 H1 (add (one p) (add zc k2)) := G1.le fun a => by simp only [add, zc]; omega
  obtain ⟨E4, G4, F4⟩ := own_upd (o' := .lst ((ns.eraseIdx j).map V.int)) E2 hi hw hp rfl rfl (den_lst (den_ints _)) G'
  exact ⟨p, ns, n, j, rfl, rfl, hp, j1, j2, r.nx E4 G4 (F1.trans (F4.lessL fun a => by simp only [add, zc]; omega)) FX.refl⟩
theorem bind_three {i j l : Nat} {ds : List D} (h : bindN [i, j, l] ds env = some env') : ∃ d1 d2 d3, ds = [d1, d2, d3] ∧ i < env.length ∧ j < env.length ∧ l < env.length ∧ env' = ((env.set i (some d1)).set j (some d2)).set l (some d3) := by
  obtain ⟨d1, r1, rfl, h1, h⟩ := bind_cons h
  obtain ⟨d2, r2, rfl, h2, h⟩ := bind_cons h
  obtain ⟨d3, r3, rfl, h3, h⟩ := bind_cons h
  obtain ⟨rfl, rfl⟩ := bind_nil h
  exact ⟨d1, d2, d3, rfl, h1, by simpa using h2, by simpa using h3, rfl⟩
theorem in_par3 {i j l : Nat} {es : List E} (hfx : ∀ k ∈ fx, k ≠ i ∧ k ≠ j ∧ k ≠ l) (h : tS K P fx (.par [i, j, l] es) Y σ H) : tPar3 i j l (tL (es.map (tE K P))) Y σ H := by
  obtain ⟨Z, c, env, fl, env', E, G, ev, r⟩ := h
  obtain ⟨x, h1, h2⟩ := bind_some (show ((evMs P false es env).bind fun x => (bindN [i, j, l] x.1 x.2).map fun e' => (Fl.nx, e')) = some (fl, env') from ev)
  obtain ⟨e2, h3, h4⟩ := map_some h2
  injection h4 with e1 e2
  subst e1 e2
  obtain ⟨d1, d2, d3, hd, hi, hj, hl, rfl⟩ := bind_three h3
  refine in_Ms E G h1 fun vs H1 Z1 c1 cd E1 q1 G1 F1 => ?_
  rw [hd] at q1
  obtain ⟨u, r1, k1, k2, rfl, p1, ⟨v, r2, k3, k4, rfl, p2, ⟨w, r3, k5, k6, rfl, p3, ⟨rfl, rfl⟩, rfl⟩, rfl⟩, rfl⟩ := q1
  obtain ⟨c2, c3, E2, rfl⟩ := E1.drop i
  have E3 := ED.put (v := u) E2 hi p1
  obtain ⟨c4, c5, E4, e4⟩ := E3.drop j
  have E5 := ED.put (v := v) E4 (by simpa using hj) p2
  obtain ⟨c6, c7, E6, e6⟩ := E5.drop l
  have E7 := ED.put (v := w) E6 (by simpa using hl) p3
  have le : ∀ a, (add k5 c6) a ≤ add (add c3 c2) (add k1 (add k3 (add k5 zc))) a := fun a => by have := congrFun e4 a; have := congrFun e6 a; simp only [add, zc] at *; omega
  refine ⟨u, v, w, rfl, r.nx E7 (G1.le le) (F1.lessR le) ⟨by simp, fun m hm => ?_⟩⟩
  have := hfx m hm
  rw [List.getElem?_set_ne (fun e => this.2.2 e.symm), List.getElem?_set_ne (fun e => this.2.1 e.symm), List.getElem?_set_ne (fun e => this.1 e.symm)]
end
/-! ### stores of a tuple at names and places -/
def gLV (K : PySem.W.Frag) (P : Ctx) (fx : List Nat) (l : LV) : TG := fun v σ H Q => ∃ Z c cd d env env', ED K Z H env σ c ∧ Den K Z H d v cd ∧ Gd Z H (add c cd) ∧ storeLV P l d env = some env' ∧
  ∀ σ' H' Z' c', ED K Z' H' env' σ' c' → Gd Z' H' c' → Fr false Z H (add c cd) Z' H' c' → FX fx σ σ' → Q σ' H'
def gLVs (K : PySem.W.Frag) (P : Ctx) (fx : List Nat) (ls : List LV) : TGs := fun vs σ H Q => ∃ Z c cd ds env env', ED K Z H env σ c ∧ Dens K Z H ds vs cd ∧ Gd Z H (add c cd) ∧ storeLVs P ls ds env = some env' ∧
  ∀ σ' H' Z' c', ED K Z' H' env' σ' c' → Gd Z' H' c' → Fr false Z H (add c cd) Z' H' c' → FX fx σ σ' → Q σ' H'
section
variable {K : PySem.W.Frag} {P : Ctx} {fx : List Nat} {Y : Ends} {σ : L2.St} {H : Hp}
theorem lv_nil {vs : List V} {Q : L2.St → Hp → Prop} (q : gLVs K P fx [] vs σ H Q) : gNil vs σ H Q := by
  obtain ⟨Z, c, cd, ds, env, env', E, qd, G, b, k⟩ := q
  cases ds with
  | nil =>
    cases b
    obtain ⟨rfl, rfl⟩ := qd
    rw [add_zc] at G k
    exact ⟨rfl, k σ H Z c E G Fr.refl FX.refl⟩
  | cons _ _ => cases b
theorem lv_cons {l : LV} {ls : List LV} {vs : List V} {Q : L2.St → Hp → Prop} (q : gLVs K P fx (l :: ls) vs σ H Q) : gCons (gLV K P fx l) (gLVs K P fx ls) vs σ H Q := by
  obtain ⟨Z, c, cd, ds, env, env', E, qd, G, b, k⟩ := q
  cases ds with
  | nil => cases b
  | cons d ds =>
    obtain ⟨v, r, c1, c2, rfl, q1, q2, rfl⟩ := qd
    obtain ⟨e, b1, b2⟩ := bind_some (show ((storeLV P l d env).bind fun e => storeLVs P ls ds e) = some env' from b)
    have G2 : Gd Z H (add (add c c1) c2) := G.le fun a => by simp only [add]; omega
    refine ⟨v, r, rfl, Z, c, c1, d, env, e, E, q1, G2.le fun a => by simp only [add]; omega, b1, fun σ1 H1 Z1 k1 E1 G1 F1 X1 => ?_⟩
    obtain ⟨G3, F3⟩ := F1.ext G2 G1
    refine ⟨Z1, k1, c2, ds, e, env', E1, Dens.loc F1.zz (fun a o h x => F1.keep G2 a o h x) q2, G3, b2, fun σ2 H2 Z2 k2 E2 G4 F4 X2 => ?_⟩
    exact k σ2 H2 Z2 k2 E2 G4 ((F3.trans F4).lessL fun a => by simp only [add]; omega) (X1.trans X2)
theorem lv_name {i : Nat} {v : V} {Q : L2.St → Hp → Prop} (hfx : i ∉ fx) (q : gLV K P fx (.nm i) v σ H Q) : gName i v σ H Q := by
  obtain ⟨Z, c, cd, d, env, env', E, qd, G, b, k⟩ := q
  have b : (if i < env.length then some (env.set i (some d)) else none) = some env' := b
  split at b
  · rename_i hi
    cases b
    obtain ⟨c2, c1, E2, rfl⟩ := E.drop i
    have E3 := ED.put E2 hi qd
    have le : ∀ a, (add cd c2) a ≤ (add (add c1 c2) cd) a := fun a => by simp only [add]; omega
    refine k _ H Z _ E3 (G.le fun a => by simp only [add]; omega) (Fr.refl.lessR fun a => by simp only [add]; omega) ⟨by simp, fun j hj => ?_⟩
    rw [List.getElem?_set_ne (fun e => hfx (by rw [e]; exact hj))]
  · cases b
theorem lv_sub {i : Nat} {ke : E} {v : V} {Q : L2.St → Hp → Prop} (q : gLV K P fx (.sb i [] ke) v σ H Q) : gSub (tVar i) (tE K P ke) (rSt K) v σ H Q := by
  obtain ⟨Z, c, cd, d, env, env', E, qd, G, b, k⟩ := q
  obtain ⟨y, h3, h4⟩ := bind_some (show ((evPath P [] env).bind fun y => (getE y.2 i).bind fun _ => (evKey P ke y.2).bind fun z => updE i y.1 (fun c => setD c z.1 d) z.2) = some env' from b)
  obtain ⟨d0, h5, h6⟩ := bind_some h4
  obtain ⟨z, h7, h9⟩ := bind_some h6
  have hy := evPath_nil h3
  subst hy
  obtain ⟨ka, g1, g2⟩ := bind_some (show ((evA P true ke env).bind fun x => (x.1.tmp?).map fun d => (d, x.2)) = some z from h7)
  obtain ⟨kd, g3, rfl⟩ := map_some g2
  obtain ⟨w, _, _, hw, _, _, _⟩ := E.take (getE_some h5)
  refine ⟨w, hw, ?_⟩
  refine ⟨true, Z, c, env, ka.1, ka.2, E, G.le (fun a => by simp only [add]; omega), g1, fun kv H2 Z2 c2 ck E2 qk G2 F2 M2 => ?_⟩
  have G2' : Gd Z2 H2 c2 := G2.le fun a => by simp only [add]; omega
  obtain ⟨G3, F3⟩ := (F2.lessR (e := c2) fun a => by simp only [add]; omega).ext G G2'
  have hka : ka.1 = .tmp kd := by
    generalize ka.1 = a at g3
    cases a <;> cases g3
    rfl
  rw [hka] at qk
  have qd' := Den.loc F2.zz (fun a o h x => F2.keep G a o h x) qd
  obtain ⟨dd, d', g5, g6, rfl⟩ := updE_nil h9
  refine set_done E2 g5 hw qk qd' g6 G3 fun H4 c4 E4 G4 F4 => ?_
  exact k σ H4 Z2 c4 E4 G4 (F3.weak.trans F4) FX.refl
theorem stoT_len {P : Ctx} : ∀ {ls : List LV} {ds : List D} {env env' : EnvD}, storeLVs P ls ds env = some env' → ls.length = ds.length
  | [], [], _, _, _ => rfl
  | [], _ :: _, _, _, h => by cases h
  | _ :: _, [], _, _, h => by cases h
  | l :: ls, d :: ds, env, env', h => by
    obtain ⟨e, b1, b2⟩ := bind_some (show ((storeLV P l d env).bind fun e => storeLVs P ls ds e) = some env' from h)
    simp [stoT_len b2]
theorem in_stoT {ts : List LV} {e : E} {n : Nat} (hn : ts.length = n) (h : tS K P fx (.stoT ts e) Y σ H) : tAsg (tE K P e) (gTup K n (gLVs K P fx ts)) Y σ H := by
  obtain ⟨Z, c, env, fl, env', E, G, ev, r⟩ := h
  obtain ⟨x, h1, h2⟩ := bind_some (show ((evM P false e env).bind fun x => match x.1 with
    | .tup ds => (storeLVs P ts ds x.2).map fun e' => (Fl.nx, e')
    | _ => none) = some (fl, env') from ev)
  obtain ⟨xd, xe⟩ := x
  cases xd with
  | tup ds =>
    obtain ⟨e2, h3, h4⟩ := map_some (show ((storeLVs P ts ds xe).map fun e' => (Fl.nx, e')) = some (fl, env') from h2)
    injection h4 with e1 e3
    subst e1 e3
    refine in_M E G h1 fun v H1 Z1 c1 cd E1 q1 G1 F1 => ?_
    obtain ⟨a, xs, rfl, s, qs⟩ := q1
    refine ⟨a, xs, rfl, s, by rw [qs.length, ← stoT_len h3, hn], Z1, c1, cd, ds, xe, _, E1, qs, G1, h3, fun σ2 H2 Z2 k2 E2 G2 F2 X2 => ?_⟩
    exact r.nx E2 G2 (F1.trans F2) X2
  | _ => cases h2
end
end DL
end

section
/-! DL21: statements against the model's text. -/
namespace DL
open PySem PySem.Spec L2
open PyProof.Rows hiding St

/-! ### stores at once -/
def swN (sc : Scope) (line : Nat) : PySem.Expr → Option Str
  | .Name id pos => if sc.names.lookup id == some .local && pos.line == line then some id else none
  | _ => none
/-- what swappedStores says of a tuple stored in a tuple -/
def swK (sc : Scope) (ts vs : List PySem.Expr) : Option (Option (List Str)) :=
  if !(ts.length == 2 || ts.length == 3) || vs.length != ts.length then some none
  else if vs.any fun | .Starred .. => true | _ => false then some none
  else
    let names := ts.filterMap (swN sc ((ts.head?.map (·.pos.line)).getD 0))
    if names.length != ts.length || names.eraseDups.length != names.length then some none
    else if vs.all (foldedForSure 8) then some none
    else if vs.all (constantsAlone 8) then none
    else some (some names)
theorem swN_eq {env : Env} (line : Nat) : (fun e => match e with | .Name id pos => if env.kindOf id == some .local && pos.line == line then some id else none | _ => none) = swN env.scope line := by
  funext e
  cases e <;> rfl
theorem swK_ok {env : Env} (hk : env.scope.kind = .function) {ts vs : List PySem.Expr} {k k2 : Nat} {p p2 : Pos} {r : Option (List Str)} (h : swK env.scope ts vs = some r) : swappedStores [.Tuple ts k p] (.Tuple vs k2 p2) env = pure r := by
  have hb : env.blockKind = .function := by
    unfold Env.blockKind
    rw [hk]; rfl
  have hl : (fun e : PySem.Expr => match e with | .Name id pos => if env.kindOf id == some .local && pos.line == (ts.head?.map (·.pos.line)).getD 0 then some id else none | _ => none) = swN env.scope ((ts.head?.map (·.pos.line)).getD 0) := swN_eq _
  have e0 : (NameKind.local : NameKind) = .local := rfl
  have hbb : (env.blockKind != ScopeKind.function) = false := by rw [hb]; rfl
  unfold swK at h
  show (do
    if !(ts.length == 2 || ts.length == 3) || vs.length != ts.length || env.blockKind != .function then return none
    if vs.any fun | .Starred .. => true | _ => false then return none
    let line := (ts.head?.map (·.pos.line)).getD 0
    let names := ts.filterMap fun
      | .Name id pos => if env.kindOf id == some .local && pos.line == line then some id else none
      | _ => none
    if names.length != ts.length || names.eraseDups.length != names.length then return none
    if vs.all (foldedForSure 8) then return none
    if vs.all (constantsAlone 8) then unsupported "assign.tuple-of-constant-expressions:order-of-the-stores"
    return some names : Sem (Option (List Str))) = pure r
  rw [hbb, Bool.or_false]
  split at h
  · rename_i h1
    cases h
    rw [if_pos h1] <;> rfl
  · rename_i h1
    rw [if_neg h1]
    split at h
    · rename_i h2
      cases h
      show (if _ then _ else _) = _
      rw [if_pos h2] <;> rfl
    · rename_i h2
      show (if _ then _ else _) = _
      rw [if_neg h2]
      have hn : (ts.filterMap fun
        | .Name id pos => if env.kindOf id == some .local && pos.line == (ts.head?.map (·.pos.line)).getD 0 then some id else none
        | _ => none) = ts.filterMap (swN env.scope ((ts.head?.map (·.pos.line)).getD 0)) := by
        congr 1
      show (if _ then _ else _) = _
      rw [hn]
      dsimp only at h
      split at h
      · rename_i h3
        cases h
        rw [if_pos h3] <;> rfl
      · rename_i h3
        rw [if_neg h3]
        split at h
        · rename_i h4
          cases h
          show (if _ then _ else _) = _
          rw [if_pos h4] <;> rfl
        · rename_i h4
          show (if _ then _ else _) = _
          rw [if_neg h4]
          split at h
          · cases h
          · rename_i h5
            cases h
            show (if _ then _ else _) = _
            rw [if_neg h5] <;> rfl

def isComp : PySem.Expr → Bool
  | .ListComp _ _ _ _ => true
  | .SetComp _ _ _ _ => true
  | .DictComp _ _ _ _ _ => true
  | _ => false
theorem isComp_sw {e : PySem.Expr} (h : isComp e = false) {t : Option PySem.Expr} {l : Nat} {env : Env} : swapsWith e t l env = pure false := by
  cases e <;> first | rfl | cases h
theorem sub_sw {e o i : PySem.Expr} {p : Pos} {l : Nat} {env : Env} : swapsWith e (some (.Subscript o i p)) l env = pure false := by
  cases e <;> rfl
/-- a comprehension stored under a plain local name on its own line -/
def swC (sc scope : Scope) (y : Str) (py pos : Pos) : Bool := decide (sc.names.lookup y = some .local) && decide (py.line = pos.line) && !(scope.names.any fun (n, k) => n == y && (k == .local || k == .cell))
theorem swC_ok {env : Env} (hk : env.scope.kind = .function) {scope : Scope} {y : Str} {py pos : Pos} {elt : PySem.Expr} {gs : List Comprehension} {l : Nat} (h : swC env.scope scope y py pos = true) : swapsWith (.ListComp elt gs scope pos) (some (.Name y py)) l env = pure true := by
  have hb : env.blockKind = .function := by
    unfold Env.blockKind
    rw [hk]; rfl
  unfold swC at h
  rw [Bool.and_eq_true, Bool.and_eq_true] at h
  have h1 : env.kindOf y = some .local := of_decide_eq_true h.1.1
  have h2 := of_decide_eq_true h.1.2
  show (pure (env.blockKind == .function && env.kindOf y == some .local && py.line == pos.line && !(scope.names.any fun (n, k) => n == y && (k == .local || k == .cell))) : Sem Bool) = pure true
  rw [hb, h1, h2, h.2]
  simp
theorem swF_ok {env : Env} {scope : Scope} {y : Str} {py pos : Pos} {elt : PySem.Expr} {gs : List Comprehension} {l : Nat} (h : env.scope.names.lookup y ≠ some .local) : swapsWith (.ListComp elt gs scope pos) (some (.Name y py)) l env = pure false := by
  have h1 : (env.kindOf y == some .local) = false := by
    cases hh : (env.kindOf y == some .local) with
    | false => rfl
    | true =>
      exfalso
      apply h
      show env.kindOf y = some .local
      revert hh
      generalize env.kindOf y = k
      intro hh
      cases k with
      | none => cases hh
      | some k => cases k <;> first | rfl | cases hh
  show (pure (env.blockKind == .function && env.kindOf y == some .local && py.line == pos.line && !(scope.names.any fun (n, k) => n == y && (k == .local || k == .cell))) : Sem Bool) = pure false
  rw [h1]
  simp
/-- no store at once -/
def swO (sc : Scope) : PySem.Expr → PySem.Expr → Bool
  | .Tuple ts _ _, .Tuple vs _ _ => decide (swK sc ts vs = some none)
  | .List _ _, _ => false
  | _, _ => true
theorem swO_ok {env : Env} (hk : env.scope.kind = .function) {t e : PySem.Expr} (h : swO env.scope t e = true) : swappedStores [t] e env = pure none := by
  cases t with
  | Tuple ts k p =>
    cases e with
    | Tuple vs k2 p2 => exact swK_ok hk (of_decide_eq_true h)
    | _ => rfl
  | List _ _ => cases h
  | _ => rfl

def nameIs (N : List Str) (sc : Scope) (i : Nat) : PySem.Expr → Option Str
  | .Name x _ => if decide (N[i]? = some x) && decide (sc.names.lookup x = some .local) then some x else none
  | _ => none
def opIn (fx : List Nat) (l : List Nat) : Bool := l.all fun i => !fx.contains i
theorem opIn_ok {fx l : List Nat} (h : opIn fx l = true) : ∀ j ∈ fx, j ∉ l := by
  intro j hj hl
  unfold opIn at h
  rw [List.all_eq_true] at h
  have := h j hl
  simp [hj] at this
def augOk : Operator → Bool
  | .Add => true
  | .Sub => true
  | _ => false
/-- xs.m(e) as a statement -/
def mCall (N : List Str) (sc : Scope) (i : Nat) (m : Str) : PySem.Expr → Option PySem.Expr
  | .Call (.Attribute o a ap) [e] [] cp => if isVar N sc i o && decide (a = m) && decide (ap.endLine = cp.line) && notStar e then some e else none
  | _ => none
/-- what a tuple is stored at -/
def chkLV (fn : List (Str × Nat)) (bl : Bl) (N : List Str) (sc : Scope) (fx : List Nat) : LV → PySem.Expr → Bool
  | .nm i, .Name x _ => decide (N[i]? = some x) && locB sc x && !fx.contains i
  | .sb i path k, .Subscript o k' _ => path.isEmpty && isVar N sc i o && plIx k' && chkE fn bl N sc k k'
  | _, _ => false
def chkLVs (fn : List (Str × Nat)) (bl : Bl) (N : List Str) (sc : Scope) (fx : List Nat) : List LV → List PySem.Expr → Bool
  | [], [] => true
  | l :: ls, p :: ps => chkLV fn bl N sc fx l p && notStar p && chkLVs fn bl N sc fx ls ps
  | _, _ => false
mutual
def chkS (fn : List (Str × Nat)) (bl : Bl) (N : List Str) (sc : Scope) : List Nat → S → Stmt → Bool
  | fx, .asg t e, p => match p with
    | .Assign [tg] e' _ => chkTg N sc (fun _ => true) t tg && notStar tg && opIn fx (tgS t) && chkE fn bl N sc e e' && swO sc tg e' && (match tg, e', t, e with
      | .Name y py, .ListComp _ _ scope pos, .nm _, .comp _ _ _ _ _ _ => swC sc scope y py pos || decide (sc.names.lookup y ≠ some .local)
      | _, _, _, _ => !isComp e')
    | _ => false
  | fx, .par is es, p => match p, is with
    | .Assign [.Tuple [a, b] _ _] (.Tuple vs _ _) _, [i, j] => (match nameIs N sc i a, nameIs N sc j b with
      | some x, some y => decide (swK sc [a, b] vs = some (some [x, y])) && decide (i ≠ j) && opIn fx [i, j] && vs.all notStar && decide (vs.length = 2) && chkEs fn bl N sc es vs
      | _, _ => false)
    | .Assign [.Tuple [a, b, c] _ _] (.Tuple vs _ _) _, [i, j, l] => (match nameIs N sc i a, nameIs N sc j b, nameIs N sc l c with
      | some x, some y, some z => decide (swK sc [a, b, c] vs = some (some [x, y, z])) && decide (i ≠ j) && decide (i ≠ l) && decide (j ≠ l) && opIn fx [i, j, l] && vs.all notStar && decide (vs.length = 3) && chkEs fn bl N sc es vs
      | _, _, _ => false)
    | _, _ => false
  | _, .sto i path k e, p => match p with
    | .Assign [.Subscript o k' _] e' _ => path.isEmpty && isVar N sc i o && plIx k' && chkE fn bl N sc k k' && chkE fn bl N sc e e'
    | _ => false
  | fx, .stoT ts e, p => match p with
    | .Assign [.Tuple ps k pp] e' _ => chkLVs fn bl N sc fx ts ps && swO sc (.Tuple ps k pp) e' && !isComp e' && chkE fn bl N sc e e'
    | _ => false
  | fx, .aug i o e, p => match p with
    | .AugAssign (.Name x _) o' e' _ => decide (N[i]? = some x) && locB sc x && decide (o' = o) && augOk o && !fx.contains i && chkE fn bl N sc e e'
    | _ => false
  | _, .augS i path k o e, p => match p with
    | .AugAssign (.Subscript x k' _) o' e' _ => path.isEmpty && isVar N sc i x && plIx k' && decide (o' = o) && augOk o && chkE fn bl N sc k k' && chkE fn bl N sc e e'
    | _ => false
  | _, .app i path e, p => match p with
    | .Expr v _ => path.isEmpty && (match mCall N sc i "append" v with | some e' => chkE fn bl N sc e e' | none => false)
    | _ => false
  | _, .ext i path e, p => match p with
    | .Expr v _ => path.isEmpty && (match mCall N sc i "extend" v with | some e' => chkE fn bl N sc e e' | none => false)
    | _ => false
  | _, .rem i path e, p => match p with
    | .Expr v _ => path.isEmpty && (match mCall N sc i "remove" v with | some e' => chkE fn bl N sc e e' | none => false)
    | _ => false
  | _, .ex e, p => match p with
    | .Expr e' _ => !isComp e' && chkE fn bl N sc e e'
    | _ => false
  | fx, .ite c a b, p => match p with
    | .If c' a' b' _ => chkT fn bl N sc c c' && chkSs fn bl N sc fx a a' && chkSs fn bl N sc fx b b'
    | _ => false
  | fx, .whl c b, p => match p with
    | .While c' b' [] _ => chkT fn bl N sc c c' && chkSs fn bl N sc fx b b'
    | _ => false
  | fx, .for_ tg k src b, p => match p with
    | .For tg' iter b' [] _ => notSet iter && zipOk k tg' && lentOk k src && chkTg N sc (fun _ => true) tg tg' && opIn (lentFx k src ++ fx) (tgS tg) && (match chkSrc bl sc k iter with | some ps => chkEs fn bl N sc src ps | none => false) && chkSs fn bl N sc (lentFx k src ++ fx) b b'
    | _ => false
  | _, .ret e, p => match p with
    | .Return (some e') _ => chkE fn bl N sc e e'
    | _ => false
  | _, .retN, p => match p with
    | .Return none _ => true
    | _ => false
  | _, .brk, p => match p with
    | .Break _ => true
    | _ => false
  | _, .cnt, p => match p with
    | .Continue _ => true
    | _ => false
  | _, .pass, p => match p with
    | .Pass _ => true
    | .Expr (.Constant (.str _) _ _) _ => true
    | _ => false
def chkSs (fn : List (Str × Nat)) (bl : Bl) (N : List Str) (sc : Scope) : List Nat → List S → List Stmt → Bool
  | _, [], ps => ps.isEmpty
  | fx, s :: ss, ps => match ps with | p :: ps => chkS fn bl N sc fx s p && chkSs fn bl N sc fx ss ps | [] => false
end
end DL
end

section
/-! DL22: soundness of the readings of statements. -/
namespace DL
open PySem PySem.Spec L2
open PyProof.Rows hiding St

section
variable {X : Cx} {P : Ctx} {fn : List (Str × Nat)} {bl : Bl} {N : List Str} {sc : Scope}
theorem gT_nm {K : PySem.W.Frag} {i : Nat} {v : V} {σ : L2.St} {H : Hp} {Q : L2.St → Hp → Prop} (q : gT K (.nm i) v σ H Q) : gName i v σ H Q := by
  obtain ⟨Z, c, cd, d, env, env', E, q1, b, k⟩ := q
  have b : (if i < env.length then some (env.set i (some d)) else none) = some env' := b
  split at b
  · rename_i hi
    cases b
    obtain ⟨c2, c1, E2, rfl⟩ := E.drop i
    refine k _ _ (ED.put E2 hi q1) (fun a => by simp only [add]; omega) (by simp) fun j hj => ?_
    have : i ≠ j := fun e => hj (by subst e; simp [tgS])
    rw [List.getElem?_set_ne this]
  · cases b
theorem tE_post {K : PySem.W.Frag} {e : E} {σ : L2.St} {H : Hp} {Q Q' : VK} (h : tE K P e σ H Q) (f : ∀ v H', Q v H' → Q' v H') : tE K P e σ H Q' := by
  obtain ⟨m, Z, c, env, a, env', E, G, ev, k⟩ := h
  exact ⟨m, Z, c, env, a, env', E, G, ev, fun v H' Z' c' ca E' q' G' F' M' => f v H' (k v H' Z' c' ca E' q' G' F' M')⟩
theorem one_each {tg : PySem.Expr} (h : notStar tg = true) : (assignEach [tg] X.env).map (·.2) = [assign tg X.env] := by
  rw [each_cons h]; rfl
theorem nameIs_ok {i : Nat} {p : PySem.Expr} {x : Str} (h : nameIs N sc i p = some x) : ∃ pos, p = .Name x pos ∧ N[i]? = some x ∧ sc.names.lookup x = some .local := by
  unfold nameIs at h
  split at h
  · split at h
    · rename_i hc
      rw [Bool.and_eq_true] at hc
      cases h
      exact ⟨_, rfl, of_decide_eq_true hc.1, of_decide_eq_true hc.2⟩
    · cases h
  · cases h
theorem set_sub {o k : PySem.Expr} {pos : Pos} (h : plIx k = true) : ∀ v, assign (.Subscript o k pos) X.env v = (do
      let ov ← holding [v] (eval o X.env)
      let iv ← holding [v, ov] (eval k X.env)
      standAt pos
      holding [v, ov, iv] (setItem ov iv v)
      release [v, ov, iv] []) := by
  cases k <;> first | (intro v; rfl) | cases h
theorem aug_sub {k : PySem.Expr} (h : plIx k = true) : ∀ ov iv new, augStore k ov iv new = (do holding [new, ov, iv] (setItem ov iv new); release [new, ov, iv] []; pure .next) := by
  cases k <;> first | (intro ov iv new; rfl) | cases h
/-- xs.m(e) -/
theorem ps_m (C : CtxOk P fn bl N X) (hs : X.env.scope = sc) {i : Nat} {m : Str} {id : String} {r : V → List V → Hp → VK → Prop} {v e' : PySem.Expr} {pos : Pos} {te : TE} (h : mCall N sc i m v = some e') (slot : Slot "list" m id) (hty : typeOf (.builtin id) = pure (.type "method_descriptor")) (hm : MtR X id r)
    (he : PE X e' te) : PS X (.Expr v pos) (tDrop (tBM X.K "list" r (tVar i) (tL [te]))) := by
  unfold mCall at h
  split at h
  · split at h
    · rename_i o a ap e cp hc
      simp only [Bool.and_eq_true] at hc
      obtain ⟨⟨⟨h1, h2⟩, h3⟩, h4⟩ := hc
      cases h
      have h2 := of_decide_eq_true h2
      have h3 := of_decide_eq_true h3
      subst h2
      have hb : attributeBase o a X.env (eval o X.env) = eval o X.env := by
        unfold isVar at h1
        split at h1
        · rfl
        · cases h1
      refine ps_expr (pe_bm PySem.F.plainAttrs_list slot hty hm (pe_varB C.hN hs h1) (pa_of (by simp [h4]) (.cons he .nil)) hb ?_ ?_ (star_cons h4) rfl) rfl
      · rw [star_cons h4]; rfl
      · rw [h3]; exact beq_self_eq_true _
    · cases h
  · cases h
theorem pg_LV (C : CtxOk P fn bl N X) (hs : X.env.scope = sc) (hf : ∀ x, X.fn x = true) {fx : List Nat} : ∀ (l : LV) (p : PySem.Expr), chkLV fn bl N sc fx l p = true → PG X p (gLV X.K P fx l)
  | .nm i, p, h => by
    unfold chkLV at h
    split at h
    · rename_i i' x pos heq
      cases heq
      rw [Bool.and_eq_true, Bool.and_eq_true] at h
      exact PG.imp (pg_name (i := i) (by rw [C.hN]; exact C.nd) (by rw [C.hN]; exact of_decide_eq_true h.1.1) (by rw [hs]; exact loc_of h.1.2) (.inl (hf x))) fun v σ H Q q => lv_name (by simpa using h.2) q
    · rename_i heq; cases heq
    · cases h
  | .sb i path k, p, h => by
    unfold chkLV at h
    split at h
    · rename_i heq; cases heq
    · rename_i i' path' ke o k' pos heq
      cases heq
      simp only [Bool.and_eq_true] at h
      obtain ⟨⟨⟨h1, h2⟩, h3⟩, h4⟩ := h
      cases path with
      | cons _ _ => cases h1
      | nil => exact PG.imp (pg_sub (pe_varB C.hN hs h2) (snd_E C hs k k' h4) (set_both C.room) (set_sub h3)) fun v σ H Q q => lv_sub q
    · cases h
theorem pgs_LV (C : CtxOk P fn bl N X) (hs : X.env.scope = sc) (hf : ∀ x, X.fn x = true) {fx : List Nat} : ∀ (ls : List LV) (ps : List PySem.Expr), chkLVs fn bl N sc fx ls ps = true → PGs X ps (gLVs X.K P fx ls) ∧ ls.length = ps.length ∧ ps.all notStar = true
  | [], [], _ => ⟨PGs.imp pgs_nil fun vs σ H Q q => lv_nil q, rfl, rfl⟩
  | [], _ :: _, h => by cases h
  | _ :: _, [], h => by cases h
  | l :: ls, p :: ps, h => by
    have h : (chkLV fn bl N sc fx l p && notStar p && chkLVs fn bl N sc fx ls ps) = true := h
    rw [Bool.and_eq_true, Bool.and_eq_true] at h
    obtain ⟨i1, i2, i3⟩ := pgs_LV C hs hf ls ps h.2
    refine ⟨PGs.imp (pgs_cons (pg_LV C hs hf l p h.1.1) i1 (by rw [each_cons h.1.2]; rfl)) fun vs σ H Q q => lv_cons q, by simp [i2], ?_⟩
    rw [List.all_cons, h.1.2, i3]; rfl
end

mutual
theorem snd_S {P : Ctx} {fn : List (Str × Nat)} {bl : Bl} {N : List Str} {X : Cx} {sc : Scope} (C : CtxOk P fn bl N X) (hs : X.env.scope = sc) (hk : sc.kind = .function) (hf : ∀ x, X.fn x = true) : ∀ (fx : List Nat) (s : S) (p : Stmt), chkS fn bl N sc fx s p = true → PS X p (tS X.K P fx s)
  | fx, .asg t e, p, h => by
    unfold chkS at h
    split at h
    · rename_i tg e' pos
      simp only [Bool.and_eq_true] at h
      obtain ⟨⟨⟨⟨⟨h1, h2⟩, h3⟩, h4⟩, h5⟩, h6⟩ := h
      have hk' : X.env.scope.kind = .function := by rw [hs]; exact hk
      have hsw : swappedStores [tg] e' X.env = pure none := swO_ok hk' (by rw [hs]; exact h5)
      have plain : swapsWithSole [tg] e' pos.line X.env = pure false → PS X (.Assign [tg] e' pos) (tS X.K P fx (.asg t e)) := fun hsole =>
        PS.imp (ps_asg (snd_E C hs e e' h4) (pg_T C hs (fnB := fun _ => true) (fun x _ => hf x) t tg h1) hsole hsw (one_each h2)) fun D σ H q => in_asg (opIn_ok h3) q
      split at h6
      · rename_i y py elt gs scope pos' i tg' own k src ifs elt'
        rw [Bool.or_eq_true] at h6
        rcases h6 with h6 | h6
        · unfold chkE at h4
          split at h4
          · rename_i elt2 tg2 iter2 ifs2 scope2 pos2 heq
            cases heq
            simp only [Bool.and_eq_true] at h4
            obtain ⟨⟨⟨⟨⟨⟨⟨⟨k1, k1z⟩, k2⟩, k3⟩, k4⟩, k5⟩, k6⟩, k7⟩, k8⟩ := h4
            split at k6
            · rename_i ps hps
              have hb := blkOk_by k2
              rw [← hs] at hb
              have hsc : ∀ (s : Shared) (H : Hp) (Cc : Addr) (cl : List (Str × Addr)) (fp : List Addr), (X.blk s H scope (compEnvC scope cl Cc X.env) fp).env.scope = relS scope sc := by
                intro s H Cc cl fp
                rw [← hs]; rfl
              have hifs := of_decide_eq_true k4
              have hny : N[i]? = some y := by
                unfold chkTg at h1
                simp only [Bool.and_eq_true] at h1
                exact of_decide_eq_true h1.1.1
              have hloc : X.env.scope.names.lookup y = some .local := by
                rw [hs]
                unfold swC at h6
                simp only [Bool.and_eq_true] at h6
                exact of_decide_eq_true h6.1.1
              refine PS.imp (ps_setLc (i := i) (own := own.map fun i => ((N[i]?).getD ⟨#[]⟩, i)) (wi := iSrc X.K k (src.map (tE X.K P))) (g := gT X.K tg') (tt := tIfs X.K P ifs) (te := tE X.K P elt') C.calm (by rw [C.hN]; exact C.nd) (by rw [C.hN]; exact hny) hloc
                (swC_ok hk' (by rw [hs]; exact h6)) (pi_of C hs k hps (snd_Es C hs src _ k6) k1z) (by rw [C.hN]; exact hb) ?_ ?_ ?_ (notSet_ok k1)) fun D σ H q => ?_
              · intro s H Cc cl fp
                exact pg_T (C.blk s H scope Cc cl fp) (hsc s H Cc cl fp) (fnB := fun x => scope.names.lookup x == some .cell) (fun x hx => hx) tg' _ k5
              · intro s H Cc cl fp
                exact snd_Ifs (C.blk s H scope Cc cl fp) (hsc s H Cc cl fp) ifs _ hifs k7
              · intro s H Cc cl fp
                exact snd_E (C.blk s H scope Cc cl fp) (hsc s H Cc cl fp) elt' _ k8
              · rw [own_ix]
                exact in_comp (fun i hi => by
                  have := (List.all_eq_true.mp k3) i hi
                  simpa using this) hifs (tE_post (in_asg (opIn_ok h3) q) fun v H' q => gT_nm q)
            · cases k6
          · cases h4
        · exact plain (swF_ok (l := pos.line) (by rw [hs]; exact of_decide_eq_true h6))
      · exact plain (isComp_sw (by simpa using h6))
    · cases h
  | fx, .par is es, p, h => by
    unfold chkS at h
    split at h
    · rename_i a b kt pt vs k2 pt2 pos i j
      split at h
      · rename_i x y hx hy
        obtain ⟨px, rfl, nx, lx⟩ := nameIs_ok hx
        obtain ⟨py, rfl, ny, ly⟩ := nameIs_ok hy
        simp only [Bool.and_eq_true] at h
        obtain ⟨⟨⟨⟨⟨h1, h2⟩, h3⟩, h4⟩, h5⟩, h6⟩ := h
        have h5 := of_decide_eq_true h5
        have hk' : X.env.scope.kind = .function := by rw [hs]; exact hk
        rcases vs with _ | ⟨v1, _ | ⟨v2, _ | ⟨v3, r⟩⟩⟩
        · cases h5
        · cases h5
        · refine PS.imp (ps_par C.calm (by rw [C.hN]; exact C.nd) (by rw [C.hN]; exact nx) (by rw [C.hN]; exact ny) (of_decide_eq_true h2) (by rw [hs]; exact lx) (by rw [hs]; exact ly) (pa_of h4 (snd_Es C hs es _ h6))
            (swK_ok hk' (by rw [hs]; exact of_decide_eq_true h1))) fun D σ H q => in_par2 (of_decide_eq_true h2) (fun l hl => ?_) q
          have := opIn_ok h3 l hl
          simp only [List.mem_cons, List.not_mem_nil, or_false, not_or] at this
          exact this
        · simp at h5
      · cases h
    · rename_i a b c kt pt vs k2 pt2 pos i j l
      split at h
      · rename_i x y z hx hy hz
        obtain ⟨px, rfl, nx, lx⟩ := nameIs_ok hx
        obtain ⟨py, rfl, ny, ly⟩ := nameIs_ok hy
        obtain ⟨pz, rfl, nz, lz⟩ := nameIs_ok hz
        simp only [Bool.and_eq_true] at h
        obtain ⟨⟨⟨⟨⟨⟨⟨h1, h2⟩, h2a⟩, h2b⟩, h3⟩, h4⟩, h5⟩, h6⟩ := h
        have h5 := of_decide_eq_true h5
        have hk' : X.env.scope.kind = .function := by rw [hs]; exact hk
        rcases vs with _ | ⟨v1, _ | ⟨v2, _ | ⟨v3, _ | ⟨v4, r⟩⟩⟩⟩
        · cases h5
        · cases h5
        · cases h5
        · refine PS.imp (ps_par3 C.calm (by rw [C.hN]; exact C.nd) (by rw [C.hN]; exact nx) (by rw [C.hN]; exact ny) (by rw [C.hN]; exact nz) (of_decide_eq_true h2) (of_decide_eq_true h2a) (of_decide_eq_true h2b) (by rw [hs]; exact lx) (by rw [hs]; exact ly) (by rw [hs]; exact lz) (pa_of h4 (snd_Es C hs es _ h6))
            (swK_ok hk' (by rw [hs]; exact of_decide_eq_true h1))) fun D σ H q => in_par3 (fun l hl => ?_) q
          have := opIn_ok h3 l hl
          simp only [List.mem_cons, List.not_mem_nil, or_false, not_or] at this
          exact this
        · simp at h5
      · cases h
    · cases h
  | fx, .sto i path k e, p, h => by
    unfold chkS at h
    split at h
    · rename_i o k' p' e' pos
      simp only [Bool.and_eq_true] at h
      obtain ⟨⟨⟨⟨h1, h2⟩, h3⟩, h4⟩, h5⟩ := h
      cases path with
      | cons _ _ => cases h1
      | nil => exact PS.imp (ps_asg (snd_E C hs e e' h5) (pg_sub (pe_varB C.hN hs h2) (snd_E C hs k k' h4) (set_both C.room) (set_sub h3)) (sub_sw (o := o) (i := k') (p := p') (l := pos.line) (env := X.env)) rfl rfl) fun D σ H q => in_sto q
    · cases h
  | fx, .stoT ts e, p, h => by
    unfold chkS at h
    split at h
    · rename_i ps k pp e' pos
      simp only [Bool.and_eq_true] at h
      obtain ⟨⟨⟨h1, h2⟩, h3⟩, h4⟩ := h
      have hk' : X.env.scope.kind = .function := by rw [hs]; exact hk
      obtain ⟨i1, i2, i3⟩ := pgs_LV C hs hf ts ps h1
      obtain ⟨l1, l2⟩ := each_len (env := X.env) i3
      have h3 : isComp e' = false := by simpa using h3
      have hsole : swapsWithSole [PySem.Expr.Tuple ps k pp] e' pos.line X.env = pure false := by
        show swapsWith e' (some (PySem.Expr.Tuple ps k pp)) pos.line X.env = pure false
        exact isComp_sw h3
      exact PS.imp (ps_asg (snd_E C hs e e' h4) (pg_tup C.calm i1 l1 l2) hsole (swO_ok hk' (by rw [hs]; exact h2)) rfl) fun D σ H q => in_stoT i2 q
    · cases h
  | fx, .aug i o e, p, h => by
    unfold chkS at h
    split at h
    · rename_i x px o' e' pos
      simp only [Bool.and_eq_true] at h
      obtain ⟨⟨⟨⟨⟨h1, h2⟩, h3⟩, h4⟩, h5⟩, h6⟩ := h
      have h3 := of_decide_eq_true h3
      subst h3
      refine PS.imp (ps_aug (i := i) (by rw [C.hN]; exact C.nd) (by rw [C.hN]; exact of_decide_eq_true h1) (by rw [hs]; exact loc_of h2) (snd_E C hs e e' h6) (ip_all o') (.inl (hf x))) fun D σ H q => in_aug (by rintro rfl; cases h4) (by simpa using h5) q
    · cases h
  | fx, .augS i path k o e, p, h => by
    unfold chkS at h
    split at h
    · rename_i x k' p' o' e' pos
      simp only [Bool.and_eq_true] at h
      obtain ⟨⟨⟨⟨⟨⟨h1, h2⟩, h3⟩, h4⟩, h5⟩, h6⟩, h7⟩ := h
      have h4 := of_decide_eq_true h4
      subst h4
      cases path with
      | cons _ _ => cases h1
      | nil => exact PS.imp (ps_augS (pe_varB C.hN hs h2) (snd_E C hs k k' h6) (get_sub C.room) (snd_E C hs e e' h7) (ip_all o') (set_both C.room) (aug_sub h3)) fun D σ H q => in_augS (by rintro rfl; cases h5) q
    · cases h
  | fx, .app i path e, p, h => by
    unfold chkS at h
    split at h
    · rw [Bool.and_eq_true] at h
      cases path with
      | cons _ _ => exact absurd h.1 (by simp)
      | nil =>
        have h := h.2
        split at h
        · rename_i e' he
          exact PS.imp (ps_m C hs he PySem.F.slot_list_append PySem.F.type_list_append mt_append (snd_E C hs e e' h)) fun D σ H q => in_app q
        · cases h
    · cases h
  | fx, .ext i path e, p, h => by
    unfold chkS at h
    split at h
    · rw [Bool.and_eq_true] at h
      cases path with
      | cons _ _ => exact absurd h.1 (by simp)
      | nil =>
        have h := h.2
        split at h
        · rename_i e' he
          exact PS.imp (ps_m C hs he PySem.F.slot_list_extend PySem.F.type_list_extend mt_extend (snd_E C hs e e' h)) fun D σ H q => in_ext q
        · cases h
    · cases h
  | fx, .rem i path e, p, h => by
    unfold chkS at h
    split at h
    · rw [Bool.and_eq_true] at h
      cases path with
      | cons _ _ => exact absurd h.1 (by simp)
      | nil =>
        have h := h.2
        split at h
        · rename_i e' he
          exact PS.imp (ps_m C hs he PySem.F.slot_list_remove PySem.F.type_list_remove mt_remove (snd_E C hs e e' h)) fun D σ H q => in_rem q
        · cases h
    · cases h
  | fx, .ex e, p, h => by
    unfold chkS at h
    split at h
    · rw [Bool.and_eq_true] at h
      exact PS.imp (ps_expr (snd_E C hs e _ h.2) (isComp_sw (by simpa using h.1))) fun D σ H q => in_ex q
    · cases h
  | fx, .ite c a b, p, h => by
    unfold chkS at h
    split at h
    · simp only [Bool.and_eq_true] at h
      exact PS.imp (ps_if (snd_T C hs c _ h.1.1) (snd_Ss C hs hk hf fx a _ h.1.2) (snd_Ss C hs hk hf fx b _ h.2)) fun D σ H q => in_if q
    · cases h
  | fx, .whl c b, p, h => by
    unfold chkS at h
    split at h
    · simp only [Bool.and_eq_true] at h
      exact PS.imp (ps_while C.pass (snd_T C hs c _ h.1) (snd_Ss C hs hk hf fx b _ h.2)) fun D σ H q => in_while q
    · cases h
  | fx, .for_ tg k src b, p, h => by
    unfold chkS at h
    split at h
    · simp only [Bool.and_eq_true] at h
      obtain ⟨⟨⟨⟨⟨⟨h1, h1z⟩, h2⟩, h3⟩, h4⟩, h5⟩, h6⟩ := h
      split at h5
      · rename_i ps hps
        exact PS.imp (ps_for C.pass C.calm (pi_of C hs k hps (snd_Es C hs src _ h5) h1z) (pg_T C hs (fnB := fun _ => true) (fun x _ => hf x) tg _ h3) (snd_Ss C hs hk hf (lentFx k src ++ fx) b _ h6) (notSet_ok h1)) fun D σ H q => in_for h2 (fun j hj hj' => opIn_ok h4 j hj' hj) q
      · cases h5
    · cases h
  | fx, .ret e, p, h => by
    unfold chkS at h
    split at h
    · exact PS.imp (ps_ret (snd_E C hs e _ h)) fun D σ H q => in_ret q
    · cases h
  | fx, .retN, p, h => by
    unfold chkS at h
    split at h
    · exact PS.imp ps_retN fun D σ H q => in_simple (f := .rt .non) (fun _ => rfl) (fun _ _ => ⟨rfl, rfl⟩) q
    · cases h
  | fx, .brk, p, h => by
    unfold chkS at h
    split at h
    · exact PS.imp ps_break fun D σ H q => in_simple (f := .bk) (fun _ => rfl) (fun _ _ => rfl) q
    · cases h
  | fx, .cnt, p, h => by
    unfold chkS at h
    split at h
    · exact PS.imp ps_continue fun D σ H q => in_simple (f := .ct) (fun _ => rfl) (fun _ _ => rfl) q
    · cases h
  | fx, .pass, p, h => by
    unfold chkS at h
    split at h
    · exact PS.imp ps_pass fun D σ H q => in_simple (f := .nx) (fun _ => rfl) (fun _ _ => rfl) q
    · exact PS.imp ps_doc fun D σ H q => in_simple (f := .nx) (fun _ => rfl) (fun _ _ => rfl) q
    · cases h
theorem snd_Ss {P : Ctx} {fn : List (Str × Nat)} {bl : Bl} {N : List Str} {X : Cx} {sc : Scope} (C : CtxOk P fn bl N X) (hs : X.env.scope = sc) (hk : sc.kind = .function) (hf : ∀ x, X.fn x = true) : ∀ (fx : List Nat) (s : List S) (p : List Stmt), chkSs fn bl N sc fx s p = true → PSs X p (tSs X.K P fx s)
  | fx, [], ps, h => by
    unfold chkSs at h
    cases ps with
    | nil => exact PSs.imp pss_nil fun D σ H q => in_nil q
    | cons _ _ => cases h
  | fx, s :: ss, ps, h => by
    unfold chkSs at h
    cases ps with
    | nil => cases h
    | cons p ps =>
      have h : (chkS fn bl N sc fx s p && chkSs fn bl N sc fx ss ps) = true := h
      rw [Bool.and_eq_true] at h
      exact PSs.imp (pss_cons (snd_S C hs hk hf fx s p h.1) (snd_Ss C hs hk hf fx ss ps h.2)) fun D σ H q => in_seq q
end
end DL
end

section
/-! DL23: defs, programs. -/
namespace DL
open PySem PySem.Spec L2
open PyProof.Rows hiding St

def fxOf (n : Nat) (re : List Nat) : List Nat := (List.range n).filter fun i => !re.contains i
/-- a def of the text against its compact text -/
def FnAt (fn : List (Str × Nat)) (bl : Bl) (K : PySem.W.Frag) (mg : Str → Option Value) (x : Str) (n : Nat) (F : FD) : Prop :=
  ∃ (st : Stmt) (f : Addr) (fd : FuncData) (N ps : List Str), L2.Fun K x x st f fd ∧ FnScope N ps (L2.defScope st) ∧ ps.length = n ∧ N.length = F.ns ∧ F.np = n ∧ n ≤ N.length ∧ Binds K fd ps [] ∧ mg x = some (.ref f) ∧
    chkSs fn bl N (L2.defScope st) (fxOf n F.re) F.body (L2.defBody st) = true

section
variable {K : PySem.W.Frag} {Z : Addr → Prop} {H : Hp}
theorem getE_set {env : EnvD} {i j : Nat} {x : Option D} (h : i ≠ j) : getE (env.set i x) j = getE env j := by
  unfold getE
  rw [List.getElem?_set_ne h]
theorem backP_set {re : List Nat} {env : EnvD} {j : Nat} {x : Option D} : ∀ {ds : List D} {i : Nat}, j < i → backP re i ds (env.set j x) = backP re i ds env
  | [], _, _ => rfl
  | d :: ds, i, h => by
    show ((if d.plain then some d else if re.contains i then none else getE (env.set j x) i).bind fun x' => (backP re (i + 1) ds (env.set j x)).map fun xs => x' :: xs) = ((if d.plain then some d else if re.contains i then none else getE env i).bind fun x' => (backP re (i + 1) ds env).map fun xs => x' :: xs)
    rw [backP_set (by omega), getE_set (by omega)]
theorem back_params {re : List Nat} {σ : L2.St} {Z0 : Addr → Prop} {H0 : Hp} (hz : ∀ a, Z0 a → Z a) (hk : ∀ a o, H0 a = some o → (isMut o = false ∨ Z0 a) → H a = some o) : ∀ {ds ds' : List D} {vs : List V} {c0 : Cnt} {i : Nat} {env : EnvD} {c : Cnt}, ED K Z H env σ c → Dens K Z0 H0 ds vs c0 →
    (∀ j v, vs[j]? = some v → re.contains (i + j) = false → σ[i + j]? = some (some v)) → backP re i ds env = some ds' → ∃ c', Dens K Z H ds' vs c' ∧ ∀ a, c' a ≤ c a
  | [], _, _, _, i, env, c, E, q, hs, h => by
    cases h
    obtain ⟨rfl, rfl⟩ := q
    exact ⟨zc, ⟨rfl, rfl⟩, fun a => Nat.zero_le _⟩
  | d :: ds, _, _, _, i, env, c, E, q, hs, h => by
    obtain ⟨v, r, c1, c2, rfl, q1, q2, rfl⟩ := q
    obtain ⟨x, h1, h2⟩ := bind_some (show ((if d.plain then some d else if re.contains i then none else getE env i).bind fun x' => (backP re (i + 1) ds env).map fun xs => x' :: xs) = some _ from h)
    obtain ⟨xs, h3, rfl⟩ := map_some h2
    have hs' : ∀ j v, r[j]? = some v → re.contains (i + 1 + j) = false → σ[i + 1 + j]? = some (some v) := fun j v hj hc => by
      have e : i + 1 + j = i + (j + 1) := by omega
      rw [e] at hc ⊢
      exact hs (j + 1) v (by simpa using hj) hc
    split at h1
    · rename_i hp
      cases h1
      have := Den.pl hp q1
      subst this
      obtain ⟨c', q', le⟩ := back_params hz hk E q2 hs' h3
      exact ⟨add zc c', ⟨v, r, zc, c', rfl, Den.loc hz (fun a o h x => hk a o h (x.elim .inl fun x => x.elim .inr fun x => absurd rfl x)) q1, q', rfl⟩, fun a => by have := le a; simp only [add, zc]; omega⟩
    · split at h1
      · cases h1
      · rename_i hc
        obtain ⟨w, k1, k2, hw, qw, E2, rfl⟩ := E.take (getE_some h1)
        have hv := hs 0 v (by simp) (by simpa using hc)
        rw [show i + 0 = i from rfl, hw] at hv
        cases hv
        rw [← backP_set (j := i) (x := none) (Nat.lt_succ_self i)] at h3
        obtain ⟨c', q', le⟩ := back_params hz hk E2 q2 hs' h3
        exact ⟨add k1 c', ⟨_, r, k1, c', rfl, qw, q', rfl⟩, fun a => by have := le a; simp only [add]; omega⟩
theorem ED_start : ∀ {ds : List D} {vs : List V} {c : Cnt}, Dens K Z H ds vs c → ∀ m, ED K Z H (ds.map some ++ List.replicate m none) (vs.map some ++ List.replicate m none) c
  | [], _, _, q, m => by
    obtain ⟨rfl, rfl⟩ := q
    induction m with
    | zero => exact ⟨rfl, rfl⟩
    | succ m ih => exact ⟨none, _, rfl, ih⟩
  | d :: ds, _, _, q, m => by
    obtain ⟨v, r, c1, c2, rfl, q1, q2, rfl⟩ := q
    exact ⟨v, _, c1, c2, rfl, q1, ED_start q2 m, rfl⟩
end

theorem fn_step {P : Program} {w : World} {K : PySem.W.Frag} {mg : Str → Option Value} {base : Heap} {fn : List (Str × Nat)} {bl : Bl} {T : List FD} {d f n : Nat} {x : Str} {F : FD} {st : Stmt} {fa : Addr} {fd : FuncData} {N ps : List Str}
    (ih : ∀ (f : Nat) (x : Str) (n : Nat), fn[f]? = some (x, n) → ∃ (fa : Addr) (fd : FuncData) (ps : List Str), ps.length = n ∧ mg x = some (.ref fa) ∧ PySem.W.keepIn K (.ref fa) = true ∧ Binds K fd ps [] ∧
      FnOk P w K mg base L2.CX0 d fa fd ps (spD K n (evF T d f)))
    (hb : BlOk bl K mg) (hF : T[f]? = some F) (FF : L2.Fun K x x st fa fd) (S : FnScope N ps (L2.defScope st)) (hl : ps.length = n) (hN : N.length = F.ns) (hnp : F.np = n) (hle : n ≤ N.length)
    (hc : chkSs fn bl N (L2.defScope st) (fxOf n F.re) F.body (L2.defBody st) = true) : FnOk P w K mg base L2.CX0 (d + 1) fa fd ps (spD K n (evF T (d + 1) f)) := by
    refine FF.ok S (fun vs H Q E hsp => by rw [hsp.1, hl]) fun cdv A outer s H vs Q E hr hsp => ?_
    obtain ⟨hvl, Z, ds, c, r, ds', q, G, hg, k⟩ := hsp
    have C : CtxOk ⟨evF T d⟩ fn bl N (cxOf L2.CX0 P w K mg base N x (L2.defScope st) fa cdv A outer s H E).nox := {
      calm := rfl
      hN := rfl
      nd := S.nd
      pass := PassesOwn.never
      room := hr.mono (Nat.zero_le _)
      fns := fun f' x' n' h' => by
        obtain ⟨fa', fd', ps', hl', hm', hk', hB', F'⟩ := ih f' x' n' h'
        exact ⟨fa', fd', ps', d, hl', hm', hk', hB', hr, by rw [hl']; exact F'⟩
      blt := hb.1
      gk := hb.2 }
    refine ⟨_, snd_Ss C rfl S.kind (fun _ => rfl) (fxOf n F.re) F.body _ hc, ?_⟩
    obtain ⟨F', hF', hg⟩ := bind_some (show ((T[f]?).bind fun fd => runF ⟨evF T d⟩ fd ds) = some (r, ds') from hg)
    rw [hF] at hF'
    cases hF'
    unfold runF at hg
    split at hg
    · rename_i hdl
      obtain ⟨y, h1, h2⟩ := bind_some hg
      have hdn : ds.length = n := by rw [hdl, hnp]
      have hvn : vs.length = n := by rw [q.length, hdn]
      have E0 : ED K Z H (ds.map some ++ List.replicate (F.ns - F.np) none) (L2.start N vs) c := by
        unfold L2.start
        rw [hN, hvn, hnp]
        exact ED_start q _
      refine ⟨Z, c, _, y.1, y.2, E0, G, h1, fun v σ' H' Z' c' cr E' q' G' F' X' => ?_⟩
      have fin : ∀ (rr : D), Den K Z' H' rr v cr → (backP F.re 0 ds y.2).map (fun ds' => (rr, ds')) = some (r, ds') → Q v H' := fun rr qr hb' => by
        obtain ⟨ds2, h3, h4⟩ := map_some hb'
        injection h4 with h5 h6
        subst h5 h6
        obtain ⟨c2, q2, le⟩ := back_params (Z0 := Z) (H0 := H) F'.zz (fun a o h x => F'.keep (e := zc) (by rw [add_zc]; exact G) a o h (x.elim .inl fun x => .inr (.inl x))) E' q (fun j v' hj hcon => by
          rw [Nat.zero_add] at hcon ⊢
          have hjn : j < vs.length := (List.getElem?_eq_some_iff.mp hj).1
          rw [X'.2 j (by
            unfold fxOf
            rw [List.mem_filter, List.mem_range]
            exact ⟨by omega, by rw [hcon]; rfl⟩)]
          unfold L2.start
          rw [List.getElem?_append_left (by simpa using hjn), List.getElem?_map, hj]
          rfl) h3
        exact k v H' Z' cr c2 qr q2 (G'.le fun a => by have := le a; simp only [add]; omega) (F'.lessR fun a => by have := le a; simp only [add]; omega)
      cases hy : y.1 with
      | rt d' => rw [hy] at q' h2; exact fin d' q' h2
      | nx =>
        rw [hy] at q' h2
        have q' : cr = zc := q'
        subst q'
        -- the value of a def that runs out is None
        show Q .non H'
        obtain ⟨ds2, h3, h4⟩ := map_some (show (backP F.re 0 ds y.2).map (fun ds' => (D.non, ds')) = some (r, ds') from h2)
        injection h4 with h5 h6
        subst h5 h6
        obtain ⟨c2, q2, le⟩ := back_params (Z0 := Z) (H0 := H) F'.zz (fun a o h x => F'.keep (e := zc) (by rw [add_zc]; exact G) a o h (x.elim .inl fun x => .inr (.inl x))) E' q (fun j v' hj hcon => by
          rw [Nat.zero_add] at hcon ⊢
          have hjn : j < vs.length := (List.getElem?_eq_some_iff.mp hj).1
          rw [X'.2 j (by
            unfold fxOf
            rw [List.mem_filter, List.mem_range]
            exact ⟨by omega, by rw [hcon]; rfl⟩)]
          unfold L2.start
          rw [List.getElem?_append_left (by simpa using hjn), List.getElem?_map, hj]
          rfl) h3
        exact k .non H' Z' zc c2 ⟨rfl, rfl⟩ q2 (G'.le fun a => by have := le a; simp only [add]; omega) (F'.lessR fun a => by have := le a; simp only [add]; omega)
      | bk => rw [hy] at h2; cases h2
      | ct => rw [hy] at h2; cases h2
    · cases hg
theorem fn_all {P : Program} {w : World} {K : PySem.W.Frag} {mg : Str → Option Value} {base : Heap} {fn : List (Str × Nat)} {bl : Bl} {T : List FD} (hT : ∀ (f : Nat) (x : Str) (n : Nat), fn[f]? = some (x, n) → ∃ F, T[f]? = some F ∧ FnAt fn bl K mg x n F)
    (hb : BlOk bl K mg) : ∀ (d f : Nat) (x : Str) (n : Nat), fn[f]? = some (x, n) → ∃ (fa : Addr) (fd : FuncData) (ps : List Str), ps.length = n ∧ mg x = some (.ref fa) ∧ PySem.W.keepIn K (.ref fa) = true ∧ Binds K fd ps [] ∧
      FnOk P w K mg base L2.CX0 d fa fd ps (spD K n (evF T d f))
  | 0, f, x, n, h => by
    obtain ⟨F, hF, st, fa, fd, N, ps, FF, S, hl, hN, hnp, hle, hB, hm, hc⟩ := hT f x n h
    refine ⟨fa, fd, ps, hl, hm, FF.kp, hB, ⟨fun vs H Q E hsp => by rw [hsp.1, hl], fun A outer s H args us vs Q E hr he hbt hv hsp => ?_⟩⟩
    obtain ⟨_, Z, ds, c, r, ds', _, _, hg, _⟩ := hsp
    cases hg
  | d + 1, f, x, n, h => by
    obtain ⟨F, hF, st, fa, fd, N, ps, FF, S, hl, hN, hnp, hle, hB, hm, hc⟩ := hT f x n h
    exact ⟨fa, fd, ps, hl, hm, FF.kp, hB, fn_step (fn_all hT hb d) hb hF FF S hl hN hnp hle hc⟩
end DL
end

section
/-! DL24: facts of the top; the head. -/
namespace DL
open PySem PySem.Spec L2
open PyProof.Rows hiding St

theorem fnAt_mk {fn : List (Str × Nat)} {bl : Bl} {K : PySem.W.Frag} {h : Heap} {mg : Str → Option Value} {x : Str} {n : Nat} {F : FD} {st : Stmt} {N ps : List Str} {f : Addr} {oc : Value} {od an : Option Addr} {osl : Array (Option Value)} {kV doc pm cdv ct : Value} (X : K.In h) (G : h.Ns mainGlobals mg)
    (S : FnScope N ps (L2.defScope st))
    (hb : ∀ (kV doc pm : Value) (an : Option Addr) (cdv ct : Value) (us : List Value), us.length = ps.length → bindArgs (PySem.W.fnOf x x (L2.defArgs st) (L2.defBody st) (L2.defScope st) .none kV doc pm an cdv ct) ⟨us, []⟩ = pure (ps.zip us))
    (hn : ps.length = n) (hN : N.length = F.ns) (hp : F.np = n) (hle : n ≤ N.length) (hc : chkSs fn bl N (L2.defScope st) (fxOf n F.re) F.body (L2.defBody st) = true)
    (a : PySem.W.nsIn K mainGlobals x = some (some (.ref f)))
    (l : K.lookup f = some ⟨oc, od, .func (PySem.W.fnOf x x (L2.defArgs st) (L2.defBody st) (L2.defScope st) .none kV doc pm an cdv ct), osl⟩) (c : PySem.W.codeIn K cdv x = true) (k : PySem.W.keepIn K (.ref f) = true) : FnAt fn bl K mg x n F :=
  ⟨st, f, _, N, ps, fun_mk l c k, S, hn, hN, hp, hle, (fun_mk l c k).binds hb, PySem.W.mg_of X G a, hc⟩

/-- all defs, in order -/
inductive AllAt (fn : List (Str × Nat)) (bl : Bl) (K : PySem.W.Frag) (mg : Str → Option Value) : List (Str × Nat) → List FD → Prop where
  | nil : AllAt fn bl K mg [] []
  | cons {x : Str} {n : Nat} {F : FD} {r : List (Str × Nat)} {T : List FD} : FnAt fn bl K mg x n F → AllAt fn bl K mg r T → AllAt fn bl K mg ((x, n) :: r) (F :: T)
theorem AllAt.at {fn : List (Str × Nat)} {bl : Bl} {K : PySem.W.Frag} {mg : Str → Option Value} : ∀ {r : List (Str × Nat)} {T : List FD}, AllAt fn bl K mg r T → ∀ (f : Nat) (x : Str) (n : Nat), r[f]? = some (x, n) → ∃ F, T[f]? = some F ∧ FnAt fn bl K mg x n F
  | _, _, .nil, _, _, _, h => by simp at h
  | _, _, .cons h1 h2, 0, x, n, h => by
    have h : some _ = some (x, n) := h
    injection h with h
    injection h with e1 e2
    subst e1 e2
    exact ⟨_, rfl, h1⟩
  | _, _, .cons h1 h2, f + 1, x, n, h => by
    obtain ⟨F, g1, g2⟩ := h2.at f x n (by simpa using h)
    exact ⟨F, by simpa using g1, g2⟩
theorem scr_of {K : PySem.W.Frag} {H : Hp} {a : Addr} {xs : List V} (hO : Only H) (hS : SqL K H a xs) : ScrL K H a xs := by
  rcases hS with (hS | hS) | hS
  · rcases hO a with h | ⟨o, ys, h⟩
    · rw [h] at hS; cases hS
    · rw [h] at hS; cases hS
  · exact .inl hS
  · exact .inr hS
/-- the law's promise, from what the evaluator says -/
theorem law_says {K : PySem.W.Frag} {H : Hp} {a : Addr} {ns : List Int} {g : List D → Option (D × List D)} (hO : Only H) (hS : SqL K H a (ns.map V.int)) (h : ∃ ds', g [.scr ns] = some (.bl true, ds')) : spD K 1 g [.ref a] H (fun v _ => v = .bl true) fun _ _ _ => False := by
  obtain ⟨ds', h⟩ := h
  refine ⟨rfl, fun _ => False, [.scr ns], zc, _, ds', ⟨.ref a, [], zc, zc, rfl, ⟨a, rfl, scr_of hO hS, rfl⟩, ⟨rfl, rfl⟩, (add_zc _).symm⟩, fun a => ⟨Nat.zero_le _, fun x => absurd rfl x, fun x => x.elim⟩, h, fun v H' Z' cr c' q _ _ _ => q.1⟩
theorem law_F {P : Program} {w : World} {K : PySem.W.Frag} {h : Heap} {mg : Str → Option Value} {fa : Addr} {fn : List (Str × Nat)} {bl : Bl} {T : List FD} {li k : Nat} {nm x : Str} {F : FD} {st : Stmt} {N : List Str} {f : Addr} {oc : Value} {od an : Option Addr} {osl : Array (Option Value)} {kV doc pm cdv ct : Value} (X : K.In h) (G : h.Ns mainGlobals mg)
    (A : AllAt fn bl K mg fn T) (hb : BlOk bl K mg) (hfa : mg nm = some (.ref fa)) (S : FnScope N [x] (L2.defScope st))
    (hbd : ∀ (kV doc pm : Value) (an : Option Addr) (cdv ct : Value) (us : List Value), us.length = 1 → bindArgs (PySem.W.fnOf nm nm (L2.defArgs st) (L2.defBody st) (L2.defScope st) .none kV doc pm an cdv ct) ⟨us, []⟩ = pure ([x].zip us))
    (hF : T[li]? = some F) (hN : N.length = F.ns) (hp : F.np = 1) (hle : 1 ≤ N.length) (hc : chkSs fn bl N (L2.defScope st) (fxOf 1 F.re) F.body (L2.defBody st) = true)
    (a : PySem.W.nsIn K mainGlobals nm = some (some (.ref f)))
    (l : K.lookup f = some ⟨oc, od, .func (PySem.W.fnOf nm nm (L2.defArgs st) (L2.defBody st) (L2.defScope st) .none kV doc pm an cdv ct), osl⟩) (c : PySem.W.codeIn K cdv nm = true) (kp : PySem.W.keepIn K (.ref f) = true) :
    ∃ fd : FuncData, (∀ (s : Shared) (u : Value), BindsTo s fd ⟨[u], []⟩ [(x, u)]) ∧ ∀ base : Heap, K.In base → base.Ns mainGlobals mg → FnOk P w K mg base L2.CX0 (k + 1) fa fd [x] (spD K 1 (evF T (k + 1) li)) := by
  have e := hfa.symm.trans (PySem.W.mg_of X G a)
  cases e
  exact ⟨_, fun s u => .of_eq (hbd kV doc pm an cdv ct [u] rfl), fun base _ _ => fn_step (fn_all (fun f x n h => A.at f x n h) hb k) hb hF (fun_mk l c kp) S rfl hN hp hle hc⟩
end DL
end

section
/-! DL25: words for running the evaluator by hand. -/
namespace DL
open PySem PySem.Spec L2
section
variable {P : DL.Ctx} {env : EnvD}
theorem getE0 {x : Option D} {r : EnvD} : getE (x :: r) 0 = x := rfl
theorem getES {x : Option D} {r : EnvD} {n : Nat} : getE (x :: r) (n + 1) = getE r n := rfl
theorem pl_int {i : Int} : D.plain (.int i) = true := rfl
theorem pl_bl {i : Bool} : D.plain (.bl i) = true := rfl
theorem pl_non : D.plain .non = true := rfl
theorem pl_str {s : Str} : D.plain (.str s) = true := rfl
theorem pl_scr {ns : List Int} : D.plain (.scr ns) = true := rfl
theorem pl_tup {ds : List D} : D.plain (.tup ds) = D.plains ds := rfl
theorem pl_lst {o : Bool} {ds : List D} : D.plain (.lst o ds) = !o := rfl
theorem pl_dK {o : Bool} {ks : List Key} {ds : List D} : D.plain (.dK o ks ds) = !o := rfl
theorem pls_nil : D.plains [] = true := rfl
theorem pls_cons {d : D} {ds : List D} : D.plains (d :: ds) = (D.plain d && D.plains ds) := rfl
theorem pls_ints (ns : List Int) : D.plains (ns.map .int) = true := by
  induction ns with
  | nil => rfl
  | cons n ns ih => exact ih
theorem fr_int {i : Int} : D.freeze (.int i) = .int i := rfl
theorem o_add {i j : Int} : opD (.bin .Add) [.int i, .int j] = some (.int (i + j)) := rfl
theorem o_sub {i j : Int} : opD (.bin .Sub) [.int i, .int j] = some (.int (i - j)) := rfl
theorem o_mul {i j : Int} (h : mulOk i j = true) : opD (.bin .Mult) [.int i, .int j] = some (.int (i * j)) := by
  show (if mulOk i j then _ else _) = _
  rw [h]; rfl
theorem o_div {i j : Int} (h : divOk j = true) : opD (.bin .FloorDiv) [.int i, .int j] = some (.int (divD i j)) := by
  show (if divOk j then _ else _) = _
  rw [h]; rfl
theorem o_mod {i j : Int} (h : j ≠ 0) : opD (.bin .Mod) [.int i, .int j] = some (.int (modD i j)) := by
  show (if decide (j ≠ 0) then _ else _) = _
  rw [decide_eq_true h]; rfl
theorem o_neg {i : Int} : opD .neg [.int i] = some (.int (-i)) := rfl
theorem o_abs {i : Int} : opD .abs [.int i] = some (.int (if i < 0 then -i else i)) := rfl
theorem o_toInt {i : Int} : opD .toInt [.int i] = some (.int i) := rfl
theorem o_lt {i j : Int} : opD (.cmp .Lt) [.int i, .int j] = some (.bl (decide (i < j))) := rfl
theorem o_le {i j : Int} : opD (.cmp .LtE) [.int i, .int j] = some (.bl (decide (i ≤ j))) := rfl
theorem o_gt {i j : Int} : opD (.cmp .Gt) [.int i, .int j] = some (.bl (decide (j < i))) := rfl
theorem o_ge {i j : Int} : opD (.cmp .GtE) [.int i, .int j] = some (.bl (decide (j ≤ i))) := rfl
theorem eqv_int (i j : Int) : D.eqv (.int i) (.int j) = decide (i = j) := by
  show (i == j) = _
  by_cases h : i = j <;> simp [h]
theorem o_eq {i j : Int} : opD (.cmp .Eq) [.int i, .int j] = some (.bl (decide (i = j))) := by
  show (if (D.int i).shp && (D.int j).shp then some (D.bl (D.eqv (.int i) (.int j))) else none) = _
  rw [eqv_int]; rfl
theorem o_ne {i j : Int} : opD (.cmp .NotEq) [.int i, .int j] = some (.bl (!decide (i = j))) := by
  show (if (D.int i).shp && (D.int j).shp then some (D.bl (!D.eqv (.int i) (.int j))) else none) = _
  rw [eqv_int]; rfl
theorem o_lenL {o : Bool} {ds : List D} : opD .len [.lst o ds] = some (.int ds.length) := rfl
theorem o_lenT {ds : List D} : opD .len [.tup ds] = some (.int ds.length) := rfl
theorem o_lenS {ns : List Int} : opD .len [.scr ns] = some (.int ns.length) := rfl
theorem tr_bl {b : Bool} : D.truthy (.bl b) = some b := rfl
theorem a_add {i j : Int} : augD .Add (.int i) (.int j) = some (.int (i + j)) := rfl
theorem a_sub {i j : Int} : augD .Sub (.int i) (.int j) = some (.int (i - j)) := rfl
theorem upd_nil {f : D → Option D} {d : D} : updD f d [] = f d := by cases d <;> rfl
theorem getP1 {d k : D} : getP d [k] = subD d k := by
  have h : ∀ d : D, getP d [] = some d := fun d => by cases d <;> rfl
  have : getP d [k] = (subD d k).bind fun x => getP x [] := by cases d <;> rfl
  rw [this]
  cases subD d k with
  | none => rfl
  | some x => exact h x
theorem mk_plain {t : Bool} {d : D} (h : d.plain = true) : mkA t d = .tmp d := by unfold mkA; rw [h]; rfl
theorem fr_lst {o : Bool} {ds : List D} : D.freeze (.lst o ds) = .lst false (D.freezes ds) := rfl
theorem mk_t {d : D} : mkA true d = .tmp d := by unfold mkA; rw [Bool.or_true]; rfl
theorem mk_int {t : Bool} {i : Int} : mkA t (.int i) = .tmp (.int i) := rfl
theorem mk_pk {d : D} (h : d.plain = false) : mkA false d = .pk d := by unfold mkA; rw [h]; rfl
theorem mk_lst {ds : List D} : mkA false (.lst true ds) = .pk (.lst true ds) := rfl
theorem sub_L {o : Bool} {ds : List D} {i : Int} : subD (.lst o ds) (.int i) = atI ds i := rfl
theorem sub_T {ds : List D} {i : Int} : subD (.tup ds) (.int i) = atI ds i := rfl
theorem sub_S {ns : List Int} {i : Int} : subD (.scr ns) (.int i) = (atI ns i).map .int := rfl
theorem at_nat {α : Type} {xs : List α} {n : Nat} {x : α} (h : xs[n]? = some x) : atI xs (n : Int) = some x := L2.atI_nat h

theorem while_stop {c : EnvD → Option (Bool × EnvD)} {b : EnvD → Option (Fl × EnvD)} {e : EnvD} (h : c env = some (false, e)) : whileF c b env = some (.nx, e) := by
  rw [whileF, h]
theorem while_next {c : EnvD → Option (Bool × EnvD)} {b : EnvD → Option (Fl × EnvD)} {e e' : EnvD} (h : c env = some (true, e)) (h2 : b e = some (.nx, e')) : whileF c b env = whileF c b e' := by
  rw [whileF, h]
  simp only [h2]
theorem loop_next {step : D → EnvD → Option (Fl × EnvD)} {x : D} {r : List D} {e : EnvD} (h : step x env = some (.nx, e)) : loopF step (x :: r) env = loopF step r e := by
  show (step x env).bind _ = _
  rw [h]; rfl
theorem loop_brk {step : D → EnvD → Option (Fl × EnvD)} {x : D} {r : List D} {e : EnvD} (h : step x env = some (.bk, e)) : loopF step (x :: r) env = some (.nx, e) := by
  show (step x env).bind _ = _
  rw [h]; rfl
theorem loop_ret {step : D → EnvD → Option (Fl × EnvD)} {x d : D} {r : List D} {e : EnvD} (h : step x env = some (.rt d, e)) : loopF step (x :: r) env = some (.rt d, e) := by
  show (step x env).bind _ = _
  rw [h]; rfl
theorem ss_nx {s : S} {r : List S} {e : EnvD} (h : evS P s env = some (.nx, e)) : evSs P (s :: r) env = evSs P r e := by
  show (evS P s env).bind _ = _
  rw [h]; rfl
theorem ss_rt {s : S} {r : List S} {e : EnvD} {d : D} (h : evS P s env = some (.rt d, e)) : evSs P (s :: r) env = some (.rt d, e) := by
  show (evS P s env).bind _ = _
  rw [h]; rfl
theorem run_of {f : FD} {ds ds' : List D} {r : D} {e : EnvD} (hl : ds.length = f.np) (h : evSs P f.body (ds.map some ++ List.replicate (f.ns - f.np) none) = some (.rt r, e)) (hb : backP f.re 0 ds e = some ds') : runF P f ds = some (r, ds') := by
  unfold runF
  rw [if_pos hl, h]
  show (backP f.re 0 ds e).map _ = _
  rw [hb]; rfl
theorem call_of {T : List FD} {k i : Nat} {f : FD} {ds ds' : List D} {r : D} {e : EnvD} (hT : T[i]? = some f) (hl : ds.length = f.np) (h : evSs ⟨evF T k⟩ f.body (ds.map some ++ List.replicate (f.ns - f.np) none) = some (.rt r, e)) (hb : backP f.re 0 ds e = some ds') : evF T (k + 1) i ds = some (r, ds') := by
  show ((T[i]?).bind fun fd => runF ⟨evF T k⟩ fd ds) = _
  rw [hT]
  exact run_of hl h hb
theorem sz0 : szOk 0 = true := by decide
theorem sz1 : szOk 1 = true := by decide
theorem sz2 : szOk 2 = true := by decide
theorem sz3 : szOk 3 = true := by decide
theorem sz4 : szOk 4 = true := by decide
theorem sz5 : szOk 5 = true := by decide
theorem sz6 : szOk 6 = true := by decide
theorem sz7 : szOk 7 = true := by decide
theorem sz8 : szOk 8 = true := by decide
theorem sz9 : szOk 9 = true := by decide
theorem sz10 : szOk 10 = true := by decide
theorem sz11 : szOk 11 = true := by decide
theorem s_for {tg : Tg} {k : SrcK} {src : List E} {b : List S} {as : List A} {e1 : EnvD} {sr : Src} {fl : Fl} {e2 : EnvD} (h1 : evAs P false src env = some (as, e1)) (h2 : forC k as e1 = some sr) (h3 : loopF (fun d e => (bindT tg d e).bind (evSs P b)) sr.its sr.env = some (fl, e2)) : evS P (.for_ tg k src b) env = some (fl, unlend sr.lent e2) := by
  show ((evAs P false src env).bind _) = _
  rw [h1]
  show ((forC k as e1).bind _) = _
  rw [h2]
  show (loopF _ sr.its sr.env).map _ = _
  rw [h3]; rfl
theorem s_rng {tg : Tg} {n : Int} {b : List S} {src : List E} {e1 e2 : EnvD} {fl : Fl} (h1 : evAs P false src env = some ([.tmp (.int n)], e1)) (hr : rngOk n = true) (h3 : loopF (fun d e => (bindT tg d e).bind (evSs P b)) (rngL 0 n) e1 = some (fl, e2)) : evS P (.for_ tg .rng src b) env = some (fl, e2) := by
  refine s_for (sr := ⟨rngL 0 n, false, e1, none⟩) h1 ?_ h3
  show (Option.map _ (if rngOk n then some (rngL 0 n) else none)) = _
  rw [hr]; rfl
theorem s_whl {c : T} {b : List S} {r : Fl × EnvD} (h : whileF (evT P false c) (evSs P b) env = some r) : evS P (.whl c b) env = some r := h
theorem at2_0 {α : Type} {x y : α} : atI [x, y] 0 = some x := rfl
theorem at2_1 {α : Type} {x y : α} : atI [x, y] 1 = some y := rfl
theorem modD_pos {i j : Int} (h : 0 < j) : modD i j = i % j := if_pos h
theorem divD_pos {i j : Int} (h : 0 < j) : divD i j = i / j := if_pos h
theorem abs_nat (i : Int) : (if i < 0 then -i else i) = (i.natAbs : Int) := by split <;> omega

/-! ### loops -/
theorem loop_inv {step : D → EnvD → Option (Fl × EnvD)} (I : EnvD → Prop) : ∀ {its : List D} {env : EnvD}, (∀ d ∈ its, ∀ e, I e → ∃ e', step d e = some (.nx, e') ∧ I e') → I env → ∃ e', loopF step its env = some (.nx, e') ∧ I e'
  | [], env, _, h => ⟨env, rfl, h⟩
  | x :: r, env, hs, h => by
    obtain ⟨e1, h1, h2⟩ := hs x List.mem_cons_self env h
    obtain ⟨e2, h3, h4⟩ := loop_inv I (its := r) (fun d hd e => hs d (List.mem_cons_of_mem _ hd) e) h2
    refine ⟨e2, ?_, h4⟩
    show (step x env).bind _ = _
    rw [h1]
    exact h3
/-- .. counted -/
theorem loop_ix {step : D → EnvD → Option (Fl × EnvD)} (its : List D) (I : Nat → EnvD → Prop) (hs : ∀ i d e, its[i]? = some d → I i e → ∃ e', step d e = some (.nx, e') ∧ I (i + 1) e') {env : EnvD} (h : I 0 env) : ∃ e', loopF step its env = some (.nx, e') ∧ I its.length e' := by
  have key : ∀ (n i : Nat) (env : EnvD), its.length - i = n → i ≤ its.length → I i env → ∃ e', loopF step (its.drop i) env = some (.nx, e') ∧ I its.length e' := by
    intro n
    induction n with
    | zero =>
      intro i env hn hi h
      have : i = its.length := by omega
      subst this
      rw [List.drop_length]
      exact ⟨env, rfl, h⟩
    | succ n ih =>
      intro i env hn hi h
      have hlt : i < its.length := by omega
      obtain ⟨e1, h1, h2⟩ := hs i its[i] env (List.getElem?_eq_getElem hlt) h
      obtain ⟨e2, h3, h4⟩ := ih (i + 1) e1 (by omega) (by omega) h2
      refine ⟨e2, ?_, h4⟩
      rw [List.drop_eq_getElem_cons hlt]
      show (step _ env).bind _ = _
      rw [h1]
      exact h3
  have := key its.length 0 env rfl (Nat.zero_le _) h
  rwa [List.drop_zero] at this
theorem comp_ix {step : D → EnvD → Option (Option D × EnvD)} (its : List D) (hz : its.length ≤ sizeLine) (f : D → Option D) (hs : ∀ d ∈ its, step d env = some (f d, env)) : ∀ (acc : List D), acc.length + its.length ≤ sizeLine → compF step its acc env = some (acc ++ its.filterMap f, env) := by
  induction its with
  | nil => intro acc _; simp [compF]
  | cons x r ih =>
    intro acc hl
    have h1 := hs x List.mem_cons_self
    have ih := ih (by simp at hz; omega) fun d hd => hs d (List.mem_cons_of_mem _ hd)
    show (step x env).bind _ = _
    rw [h1]
    cases hf : f x with
    | none =>
      show compF step r acc env = _
      rw [ih acc (by simp at hl; omega), List.filterMap_cons_none hf]
    | some d =>
      show (if acc.length < sizeLine then compF step r (acc ++ [d]) env else none) = _
      rw [if_pos (by simp at hl; omega), ih (acc ++ [d]) (by simp at hl ⊢; omega), List.filterMap_cons_some hf]
      simp
theorem comp_inv {step : D → EnvD → Option (Option D × EnvD)} (I : List D → EnvD → Prop) : ∀ (its : List D) (acc : List D) (env : EnvD), (∀ d ∈ its, ∀ acc e, I acc e → ∃ x e', step d e = some (some x, e') ∧ I (acc ++ [x]) e') → I acc env → acc.length + its.length ≤ sizeLine → ∃ ds e', compF step its acc env = some (ds, e') ∧ I ds e' ∧ ds.length = acc.length + its.length
  | [], acc, env, _, h, _ => ⟨acc, env, rfl, h, rfl⟩
  | d :: its, acc, env, hs, h, hl => by
    obtain ⟨x, e1, h1, h2⟩ := hs d List.mem_cons_self acc env h
    obtain ⟨ds, e2, h3, h4, h5⟩ := comp_inv I its (acc ++ [x]) e1 (fun d hd => hs d (List.mem_cons_of_mem _ hd)) h2 (by simp at hl ⊢; omega)
    refine ⟨ds, e2, ?_, h4, by simp at h5 ⊢; omega⟩
    show (step d env).bind _ = _
    rw [h1]
    show (if acc.length < sizeLine then compF step its (acc ++ [x]) e1 else none) = _
    rw [if_pos (by simp at hl; omega)]
    exact h3
theorem e_comp {m : Bool} {tg : Tg} {own : List Nat} {src : List E} {ifs : List T} {elt : E} {n : Int} {e1 e2 : EnvD} {ds : List D} (h1 : evAs P m src env = some ([.tmp (.int n)], e1)) (hr : rngOk n = true)
    (h3 : compF (fun d e => (bindT tg d e).bind fun e1 => (evTand P m ifs e1).bind fun t => if t.1 then ((evA P m elt t.2).bind fun x => mat m x.1 x.2).map fun r => (some r.1, wipeE own r.2) else some (none, wipeE own t.2)) (rngL 0 n) [] (wipeE own e1) = some (ds, e2)) :
    evA P m (.comp tg own .rng src ifs elt) env = some (.tmp (.lst true ds), restE own e1 e2) := by
  have hs : srcC .rng m [.tmp (.int n)] e1 = some ⟨rngL 0 n, m, e1, none⟩ := by
    show (Option.map _ (if rngOk n then some (rngL 0 n) else none)) = _
    rw [hr]; rfl
  show ((evAs P m src env).bind _) = _
  rw [h1]
  show ((srcC .rng m [.tmp (.int n)] e1).bind _) = _
  rw [hs]
  show (compF _ (rngL 0 n) [] (wipeE own e1)).map _ = _
  rw [h3]; rfl
theorem rng_at {n : Int} {i : Nat} {d : D} (h : (rngL 0 n)[i]? = some d) : d = .int i ∧ (i : Int) < n := by
  unfold rngL at h
  rw [List.getElem?_map] at h
  cases hi : (List.range (n - 0).toNat)[i]? with
  | none => rw [hi] at h; cases h
  | some k =>
    rw [hi] at h
    have hk := List.getElem?_eq_some_iff.mp hi
    obtain ⟨h1, h2⟩ := hk
    rw [List.getElem_range] at h2
    have h : some (D.int (0 + (k : Int))) = some d := h
    injection h with h
    subst h2
    rw [List.length_range] at h1
    refine ⟨by rw [← h]; simp, by omega⟩
theorem rng_len (n : Int) : (rngL 0 n).length = n.toNat := by unfold rngL; simp
end
mutual
/-- numbers, texts, truth values, None and tuples of such -/
def D.solid : D → Bool
  | .non => true
  | .bl _ => true
  | .int _ => true
  | .str _ => true
  | .tup ds => D.solids ds
  | _ => false
def D.solids : List D → Bool
  | [] => true
  | d :: ds => D.solid d && D.solids ds
end
mutual
theorem freeze_id : ∀ {d : D}, d.solid = true → d.freeze = d
  | .non, _ => rfl
  | .bl _, _ => rfl
  | .int _, _ => rfl
  | .str _, _ => rfl
  | .scr _, h => by cases h
  | .tup ds, h => by show D.tup (D.freezes ds) = _; rw [freezes_id h]
  | .lst _ _, h => by cases h
  | .dK _ _ _, h => by cases h
  | .dT _ _ _, h => by cases h
theorem freezes_id : ∀ {ds : List D}, D.solids ds = true → D.freezes ds = ds
  | [], _ => rfl
  | d :: ds, h => by
    have h : (D.solid d && D.solids ds) = true := h
    rw [Bool.and_eq_true] at h
    show D.freeze d :: D.freezes ds = _
    rw [freeze_id h.1, freezes_id h.2]
end
mutual
theorem solid_pl : ∀ {d : D}, d.solid = true → d.plain = true
  | .non, _ => rfl
  | .bl _, _ => rfl
  | .int _, _ => rfl
  | .str _, _ => rfl
  | .scr _, h => by cases h
  | .tup ds, h => solids_pl (ds := ds) h
  | .lst _ _, h => by cases h
  | .dK _ _ _, h => by cases h
  | .dT _ _ _, h => by cases h
theorem solids_pl : ∀ {ds : List D}, D.solids ds = true → D.plains ds = true
  | [], _ => rfl
  | d :: ds, h => by
    have h : (D.solid d && D.solids ds) = true := h
    rw [Bool.and_eq_true] at h
    show (D.plain d && D.plains ds) = true
    rw [solid_pl h.1, solids_pl h.2]; rfl
end
mutual
theorem freeze_pl : ∀ {d : D}, d.freeze.plain = true
  | .non => rfl
  | .bl _ => rfl
  | .int _ => rfl
  | .str _ => rfl
  | .scr _ => rfl
  | .tup ds => freezes_pl (ds := ds)
  | .lst _ _ => rfl
  | .dK _ _ _ => rfl
  | .dT _ _ _ => rfl
theorem freezes_pl : ∀ {ds : List D}, D.plains (D.freezes ds) = true
  | [] => rfl
  | d :: ds => by
    show (D.plain d.freeze && D.plains (D.freezes ds)) = true
    rw [freeze_pl, freezes_pl]; rfl
end
theorem freezes_map : ∀ (ds : List D), D.freezes ds = ds.map D.freeze
  | [] => rfl
  | d :: ds => by
    show D.freeze d :: D.freezes ds = _
    rw [freezes_map ds]; rfl
theorem solids_app {ds es : List D} : D.solids (ds ++ es) = (D.solids ds && D.solids es) := by
  induction ds with
  | nil => rfl
  | cons d ds ih =>
    show (D.solid d && D.solids (ds ++ es)) = ((D.solid d && D.solids ds) && D.solids es)
    rw [ih, Bool.and_assoc]
theorem solids_at {ds : List D} (h : D.solids ds = true) {d : D} (hd : d ∈ ds) : d.solid = true := by
  induction ds with
  | nil => cases hd
  | cons x xs ih =>
    have h : (D.solid x && D.solids xs) = true := h
    rw [Bool.and_eq_true] at h
    rcases List.mem_cons.mp hd with rfl | hd
    · exact h.1
    · exact ih h.2 hd
end DL
end

section
/-! DL26: what may be compared, and what == says of lists and tuples. -/
namespace DL
open PySem PySem.Spec L2
/-- may be compared, nested n deep at most -/
def D.shd (n : Nat) (d : D) : Prop := d.py.canLay0 = true ∧ d.py.depth ≤ n
theorem shd_mono {n m : Nat} {d : D} (h : d.shd n) (hm : n ≤ m) : d.shd m := ⟨h.1, Nat.le_trans h.2 hm⟩
theorem shd_int {n : Nat} {i : Int} : D.shd n (.int i) := ⟨rfl, Nat.zero_le _⟩
theorem shd_bl {n : Nat} {i : Bool} : D.shd n (.bl i) := ⟨rfl, Nat.zero_le _⟩
theorem shd_non {n : Nat} : D.shd n .non := ⟨rfl, Nat.zero_le _⟩
theorem shd_str {n : Nat} {s : Str} (h : (PyData.str s).canLay0 = true) : D.shd n (.str s) := ⟨h, Nat.zero_le _⟩
theorem pys_all {n : Nat} : ∀ {ds : List D}, (∀ d ∈ ds, d.shd n) → PyData.canLayAll0 (D.pys ds) = true ∧ PyData.depthAll (D.pys ds) ≤ n
  | [], _ => ⟨rfl, Nat.zero_le _⟩
  | d :: ds, h => by
    obtain ⟨h1, h2⟩ := h d List.mem_cons_self
    obtain ⟨h3, h4⟩ := pys_all (ds := ds) fun d hd => h d (List.mem_cons_of_mem _ hd)
    refine ⟨?_, ?_⟩
    · show (d.py.canLay0 && PyData.canLayAll0 (D.pys ds)) = true
      rw [h1, h3]; rfl
    · show max d.py.depth (PyData.depthAll (D.pys ds)) ≤ n
      exact Nat.max_le.mpr ⟨h2, h4⟩
theorem shd_tup {n : Nat} {ds : List D} (h : ∀ d ∈ ds, d.shd n) : D.shd (n + 1) (.tup ds) := by
  obtain ⟨h1, h2⟩ := pys_all h
  exact ⟨h1, Nat.add_le_add_right h2 1⟩
theorem shd_lst {n : Nat} {o : Bool} {ds : List D} (h : ∀ d ∈ ds, d.shd n) : D.shd (n + 1) (.lst o ds) := by
  obtain ⟨h1, h2⟩ := pys_all h
  exact ⟨h1, Nat.add_le_add_right h2 1⟩
theorem shp_of {n : Nat} {d : D} (h : d.shd n) (hn : n ≤ 64) : d.shp = true := by
  show (d.py.canLay0 && decide (d.py.depth ≤ 64)) = true
  rw [h.1, decide_eq_true (Nat.le_trans h.2 hn)]; rfl
theorem o_eqS {n : Nat} {a b : D} (ha : a.shd n) (hb : b.shd n) (hn : n ≤ 64) : opD (.cmp .Eq) [a, b] = some (.bl (a.eqv b)) := by
  show (if a.shp && b.shp then some (D.bl (a.eqv b)) else none) = _
  rw [shp_of ha hn, shp_of hb hn]; rfl
theorem o_neS {n : Nat} {a b : D} (ha : a.shd n) (hb : b.shd n) (hn : n ≤ 64) : opD (.cmp .NotEq) [a, b] = some (.bl (!a.eqv b)) := by
  show (if a.shp && b.shp then some (D.bl (!a.eqv b)) else none) = _
  rw [shp_of ha hn, shp_of hb hn]; rfl
theorem eqv_nilL {o o' : Bool} {ds : List D} : D.eqv (.lst o ds) (.lst o' []) = ds.isEmpty := by cases ds <;> rfl
theorem eqv_nilT {ds : List D} : D.eqv (.tup ds) (.tup []) = ds.isEmpty := by cases ds <;> rfl
theorem eqv_ints : ∀ {ns ms : List Int}, PyData.eqvAll (D.pys (ns.map .int)) (D.pys (ms.map .int)) = decide (ns = ms)
  | [], [] => rfl
  | [], _ :: _ => rfl
  | _ :: _, [] => rfl
  | n :: ns, m :: ms => by
    show ((n == m) && PyData.eqvAll (D.pys (ns.map .int)) (D.pys (ms.map .int))) = _
    rw [eqv_ints]
    by_cases h : n = m <;> by_cases h2 : ns = ms <;> simp [h, h2]
theorem eqv_intsL {o o' : Bool} {ns ms : List Int} : D.eqv (.lst o (ns.map .int)) (.lst o' (ms.map .int)) = decide (ns = ms) := eqv_ints
theorem eqv_intsT {ns ms : List Int} : D.eqv (.tup (ns.map .int)) (.tup (ms.map .int)) = decide (ns = ms) := eqv_ints
theorem shd_ints {n : Nat} {ns : List Int} : ∀ d ∈ ns.map D.int, d.shd n := fun d hd => by
  obtain ⟨i, _, rfl⟩ := List.mem_map.mp hd; exact shd_int
theorem o_all {o : Bool} {ds : List D} {bs : List Bool} (h : ds = bs.map .bl) : opD .all [.lst o ds] = some (.bl (bs.all id)) := by
  subst h
  have hb : ∀ bs : List Bool, bls? (bs.map .bl) = some bs := by
    intro bs
    induction bs with
    | nil => rfl
    | cons b bs ih =>
      show (bls? (bs.map .bl)).map (fun r => b :: r) = _
      rw [ih]; rfl
  show (bls? (bs.map D.bl)).map _ = _
  rw [hb]; rfl
theorem and_T {P : DL.Ctx} {m : Bool} {e f : E} {es : List E} {env e1 : EnvD} (h : evA P m e env = some (.tmp (.bl true), e1)) : evAnd P m (e :: f :: es) env = evAnd P m (f :: es) e1 := by
  show ((evA P m e env).bind fun x => (x.1.bl?).bind fun t => if t then evAnd P m (f :: es) x.2 else some (.tmp (.bl false), x.2)) = _
  rw [h]; rfl
theorem and_F {P : DL.Ctx} {m : Bool} {e f : E} {es : List E} {env e1 : EnvD} (h : evA P m e env = some (.tmp (.bl false), e1)) : evAnd P m (e :: f :: es) env = some (.tmp (.bl false), e1) := by
  show ((evA P m e env).bind fun x => (x.1.bl?).bind fun t => if t then evAnd P m (f :: es) x.2 else some (.tmp (.bl false), x.2)) = _
  rw [h]; rfl
theorem e_and {P : DL.Ctx} {m : Bool} {es : List E} {env : EnvD} : evA P m (.and es) env = evAnd P m es env := rfl
theorem e_op {P : DL.Ctx} {m : Bool} {o : Op} {es : List E} {env e1 : EnvD} {as : List A} {ds : List D} {d : D} (h1 : evAs P m es env = some (as, e1)) (h2 : A.gets e1 as = some ds) (h3 : opD o ds = some d) : evA P m (.op o es) env = some (.tmp d, e1) := by
  show ((evAs P m es env).bind fun x => (A.gets x.2 x.1).bind fun ds => (opD o ds).map fun d => (A.tmp d, x.2)) = _
  rw [h1]
  show ((A.gets e1 as).bind fun ds => (opD o ds).map fun d => (A.tmp d, e1)) = _
  rw [h2]
  show ((opD o ds).map fun d => (A.tmp d, e1)) = _
  rw [h3]; rfl
theorem as_one {P : DL.Ctx} {m : Bool} {e : E} {env e1 : EnvD} {a : A} (h : evA P m e env = some (a, e1)) : evAs P m [e] env = some ([a], e1) := by
  show ((evA P m e env).bind fun x => (evAs P (m || x.1.isPk) [] x.2).map fun y => (x.1 :: y.1, y.2)) = _
  rw [h]; rfl
theorem as_two {P : DL.Ctx} {m : Bool} {e f : E} {env e1 e2 : EnvD} {d b : D} (h : evA P m e env = some (.tmp d, e1)) (h2 : evA P m f e1 = some (.tmp b, e2)) : evAs P m [e, f] env = some ([.tmp d, .tmp b], e2) := by
  show ((evA P m e env).bind fun x => (evAs P (m || x.1.isPk) [f] x.2).map fun y => (x.1 :: y.1, y.2)) = _
  rw [h]
  show ((evAs P (m || false) [f] e1).map fun y => (A.tmp d :: y.1, y.2)) = _
  rw [Bool.or_false, as_one h2]; rfl
theorem s_ret {P : DL.Ctx} {e : E} {env e1 : EnvD} {d : D} (h : evA P false e env = some (.tmp d, e1)) : evS P (.ret e) env = some (.rt d, e1) := by
  show (((evA P false e env).bind fun x => mat false x.1 x.2).map fun x => (Fl.rt x.1, x.2)) = _
  rw [h]; rfl
/-- a comprehension over a tuple at hand; the step leaves the slots as they are -/
theorem e_compT {P : DL.Ctx} {env : EnvD} {m : Bool} {tg : Tg} {own : List Nat} {src : List E} {ifs : List T} {elt : E} {its ds : List D} {e1 : EnvD} {d0 : D} (h1 : evAs P m src env = some ([.tmp d0], e1)) (hi : d0.items = some its) (hpl : D.plains its = true)
    {e2 : EnvD} (h3 : compF (fun d e => (bindT tg d e).bind fun e1 => (evTand P m ifs e1).bind fun t => if t.1 then ((evA P m elt t.2).bind fun x => mat m x.1 x.2).map fun r => (some r.1, wipeE own r.2) else some (none, wipeE own t.2)) its [] (wipeE own e1) = some (ds, e2)) :
    evA P m (.comp tg own (.it false) src ifs elt) env = some (.tmp (.lst true ds), restE own e1 e2) := by
  have hs : srcC (.it false) m [.tmp d0] e1 = some ⟨its, m, e1, none⟩ := by
    show ((d0.items).bind fun its => if D.plains its then srcI false m (.tmp d0) e1 d0 its else none) = _
    rw [hi]
    show (if D.plains its then _ else none) = _
    rw [if_pos hpl]
    show some (Src.mk its (m || !true) e1 none) = _
    cases m <;> rfl
  show ((evAs P m src env).bind _) = _
  rw [h1]
  show ((srcC (.it false) m [.tmp d0] e1).bind _) = _
  rw [hs]
  show (compF _ its [] (wipeE own e1)).map _ = _
  rw [h3]; rfl
end DL
end

section
/-! TL1: plain values, typed data and what they are as data. -/
namespace TL
open DL
open PySem (Str Operator CmpOp sizeLine PyData)

inductive PV where
  | non
  | bl (b : Bool)
  | int (i : Int)
  | str (s : Str)
  | tup (vs : List PV)
  | lst (vs : List PV)
mutual
def PV.enc : PV → D
  | .non => .non
  | .bl b => .bl b
  | .int i => .int i
  | .str s => .str s
  | .tup vs => .tup (PV.encs vs)
  | .lst vs => .lst false (PV.encs vs)
def PV.encs : List PV → List D
  | [] => []
  | v :: vs => PV.enc v :: PV.encs vs
end
theorem encs_map : ∀ vs : List PV, PV.encs vs = vs.map PV.enc
  | [] => rfl
  | v :: vs => by rw [PV.encs, encs_map vs]; rfl

section
variable {α β γ δ : Type}
def eT (f : α → D) (xs : List α) : D := .tup (xs.map f)
def eF (f : α → D) (xs : List α) : D := .lst false (xs.map f)
def eL (f : α → D) (xs : List α) : D := .lst true (xs.map f)
def eP (f : α → D) (g : β → D) (p : α × β) : D := .tup [f p.1, g p.2]
def e3 (f : α → D) (g : β → D) (h : γ → D) (p : α × β × γ) : D := .tup [f p.1, g p.2.1, h p.2.2]
def e4 (f : α → D) (g : β → D) (h : γ → D) (i : δ → D) (p : α × β × γ × δ) : D := .tup [f p.1, g p.2.1, h p.2.2.1, i p.2.2.2]
def eO (f : α → D) : Option α → D
  | none => .non
  | some a => f a
def eN (_ : Unit) : D := .non
abbrev eI : Int → D := D.int
abbrev eB : Bool → D := D.bl
abbrev eS : Str → D := D.str
abbrev eV : PV → D := PV.enc
/-- a plain value, or a list of such that is its holder's own -/
def eU (x : Bool × PV) : D := match x.1, x.2 with
  | true, .lst vs => .lst true (PV.encs vs)
  | _, v => PV.enc v

class Pl (f : α → D) : Prop where
  pl : ∀ a, (f a).plain = true
class Fz (f : α → D) : Prop where
  fz : ∀ a, (f a).freeze = f a
theorem pls_map (f : α → D) [h : Pl f] (xs : List α) : D.plains (xs.map f) = true := by
  induction xs with
  | nil => rfl
  | cons x xs ih =>
    show (D.plain (f x) && D.plains (xs.map f)) = true
    rw [h.pl, ih]; rfl
theorem fzs_map (f : α → D) [h : Fz f] (xs : List α) : D.freezes (xs.map f) = xs.map f := by
  induction xs with
  | nil => rfl
  | cons x xs ih =>
    show D.freeze (f x) :: D.freezes (xs.map f) = _
    rw [h.fz, ih]; rfl
mutual
theorem encPl : ∀ v : PV, (PV.enc v).plain = true
  | .non => rfl
  | .bl _ => rfl
  | .int _ => rfl
  | .str _ => rfl
  | .tup vs => encsPl vs
  | .lst _ => rfl
theorem encsPl : ∀ vs : List PV, D.plains (PV.encs vs) = true
  | [] => rfl
  | v :: vs => by
    show (D.plain (PV.enc v) && D.plains (PV.encs vs)) = true
    rw [encPl v, encsPl vs]; rfl
end
mutual
theorem encFz : ∀ v : PV, (PV.enc v).freeze = PV.enc v
  | .non => rfl
  | .bl _ => rfl
  | .int _ => rfl
  | .str _ => rfl
  | .tup vs => by show D.tup (D.freezes (PV.encs vs)) = .tup (PV.encs vs); rw [encsFz vs]
  | .lst vs => by show D.lst false (D.freezes (PV.encs vs)) = .lst false (PV.encs vs); rw [encsFz vs]
theorem encsFz : ∀ vs : List PV, D.freezes (PV.encs vs) = PV.encs vs
  | [] => rfl
  | v :: vs => by
    show D.freeze (PV.enc v) :: D.freezes (PV.encs vs) = _
    rw [encFz v, encsFz vs]; rfl
end
instance : Pl D.int := ⟨fun _ => rfl⟩
instance : Pl D.bl := ⟨fun _ => rfl⟩
instance : Pl D.str := ⟨fun _ => rfl⟩
instance : Pl D.scr := ⟨fun _ => rfl⟩
instance : Pl eN := ⟨fun _ => rfl⟩
instance : Pl PV.enc := ⟨encPl⟩
instance (f : α → D) [Pl f] : Pl (eT f) := ⟨fun xs => pls_map f xs⟩
instance (f : α → D) : Pl (eF f) := ⟨fun xs => rfl⟩
instance (f : α → D) (g : β → D) [hf : Pl f] [hg : Pl g] : Pl (eP f g) := ⟨fun p => by
  show (D.plain (f p.1) && (D.plain (g p.2) && true)) = true
  rw [hf.pl, hg.pl]; rfl⟩
instance (f : α → D) (g : β → D) (h : γ → D) [hf : Pl f] [hg : Pl g] [hh : Pl h] : Pl (e3 f g h) := ⟨fun p => by
  show (D.plain (f p.1) && (D.plain (g p.2.1) && (D.plain (h p.2.2) && true))) = true
  rw [hf.pl, hg.pl, hh.pl]; rfl⟩
instance (f : α → D) (g : β → D) (h : γ → D) (i : δ → D) [hf : Pl f] [hg : Pl g] [hh : Pl h] [hi : Pl i] : Pl (e4 f g h i) := ⟨fun p => by
  show (D.plain (f p.1) && (D.plain (g p.2.1) && (D.plain (h p.2.2.1) && (D.plain (i p.2.2.2) && true)))) = true
  rw [hf.pl, hg.pl, hh.pl, hi.pl]; rfl⟩
instance (f : α → D) [hf : Pl f] : Pl (eO f) := ⟨fun x => by cases x with | none => rfl | some a => exact hf.pl a⟩
instance : Fz D.int := ⟨fun _ => rfl⟩
instance : Fz D.bl := ⟨fun _ => rfl⟩
instance : Fz D.str := ⟨fun _ => rfl⟩
instance : Fz eN := ⟨fun _ => rfl⟩
instance : Fz PV.enc := ⟨encFz⟩
instance (f : α → D) [Fz f] : Fz (eT f) := ⟨fun xs => congrArg D.tup (fzs_map f xs)⟩
instance (f : α → D) [Fz f] : Fz (eF f) := ⟨fun xs => congrArg (D.lst false) (fzs_map f xs)⟩
instance (f : α → D) (g : β → D) [hf : Fz f] [hg : Fz g] : Fz (eP f g) := ⟨fun p => by
  show D.tup [D.freeze (f p.1), D.freeze (g p.2)] = _
  rw [hf.fz, hg.fz]; rfl⟩
instance (f : α → D) (g : β → D) (h : γ → D) [hf : Fz f] [hg : Fz g] [hh : Fz h] : Fz (e3 f g h) := ⟨fun p => by
  show D.tup [D.freeze (f p.1), D.freeze (g p.2.1), D.freeze (h p.2.2)] = _
  rw [hf.fz, hg.fz, hh.fz]; rfl⟩
instance (f : α → D) (g : β → D) (h : γ → D) (i : δ → D) [hf : Fz f] [hg : Fz g] [hh : Fz h] [hi : Fz i] : Fz (e4 f g h i) := ⟨fun p => by
  show D.tup [D.freeze (f p.1), D.freeze (g p.2.1), D.freeze (h p.2.2.1), D.freeze (i p.2.2.2)] = _
  rw [hf.fz, hg.fz, hh.fz, hi.fz]; rfl⟩
instance (f : α → D) [hf : Fz f] : Fz (eO f) := ⟨fun x => by cases x with | none => rfl | some a => exact hf.fz a⟩
theorem fz_L (f : α → D) [Fz f] (xs : List α) : (eL f xs).freeze = eF f xs := congrArg (D.lst false) (fzs_map f xs)
theorem fz_U (x : Bool × PV) : (eU x).freeze = PV.enc x.2 := by
  obtain ⟨b, v⟩ := x
  cases b
  · exact encFz v
  · cases v <;> first | exact encFz _ | (show D.lst false (D.freezes (PV.encs _)) = _; rw [encsFz]; rfl)

/-! ### one type as another -/
/-- d is what f makes of a -/
theorem c_V (f : α → D) (t : α → PV) (h : ∀ a, f a = PV.enc (t a)) (xs : List α) : eT f xs = PV.enc (.tup (xs.map t)) := by
  show D.tup _ = D.tup (PV.encs _)
  rw [encs_map, List.map_map]
  exact congrArg D.tup (List.map_congr_left fun a _ => h a)
theorem c_F (f : α → D) (t : α → PV) (h : ∀ a, f a = PV.enc (t a)) (xs : List α) : eF f xs = PV.enc (.lst (xs.map t)) := by
  show D.lst false _ = D.lst false (PV.encs _)
  rw [encs_map, List.map_map]
  exact congrArg (D.lst false) (List.map_congr_left fun a _ => h a)
theorem c_LU (f : α → D) (t : α → PV) (h : ∀ a, f a = PV.enc (t a)) (xs : List α) : eL f xs = eU (true, .lst (xs.map t)) := by
  show D.lst true _ = D.lst true (PV.encs _)
  rw [encs_map, List.map_map]
  exact congrArg (D.lst true) (List.map_congr_left fun a _ => h a)
theorem c_VU (v : PV) : PV.enc v = eU (false, v) := by cases v <;> rfl
theorem c_T (f : α → D) (g : β → D) (t : α → β) (h : ∀ a, f a = g (t a)) (xs : List α) : eT f xs = eT g (xs.map t) := by
  show D.tup _ = D.tup _
  rw [List.map_map]
  exact congrArg D.tup (List.map_congr_left fun a _ => h a)
theorem c_L (f : α → D) (g : β → D) (t : α → β) (h : ∀ a, f a = g (t a)) (xs : List α) : eL f xs = eL g (xs.map t) := by
  show D.lst true _ = D.lst true _
  rw [List.map_map]
  exact congrArg (D.lst true) (List.map_congr_left fun a _ => h a)
theorem c_P (f : α → D) (g : β → D) (t : α → PV) (u : β → PV) (h : ∀ a, f a = PV.enc (t a)) (k : ∀ a, g a = PV.enc (u a)) (p : α × β) : eP f g p = PV.enc (.tup [t p.1, u p.2]) := by
  show D.tup [_, _] = D.tup [_, _]
  rw [h, k]
theorem c_3 (f : α → D) (g : β → D) (i : γ → D) (t : α → PV) (u : β → PV) (v : γ → PV) (h : ∀ a, f a = PV.enc (t a)) (k : ∀ a, g a = PV.enc (u a)) (l : ∀ a, i a = PV.enc (v a)) (p : α × β × γ) : e3 f g i p = PV.enc (.tup [t p.1, u p.2.1, v p.2.2]) := by
  show D.tup [_, _, _] = D.tup [_, _, _]
  rw [h, k, l]
theorem c_4 (f : α → D) (g : β → D) (i : γ → D) (j : δ → D) (t : α → PV) (u : β → PV) (v : γ → PV) (w : δ → PV) (h : ∀ a, f a = PV.enc (t a)) (k : ∀ a, g a = PV.enc (u a)) (l : ∀ a, i a = PV.enc (v a)) (m : ∀ a, j a = PV.enc (w a)) (p : α × β × γ × δ) : e4 f g i j p = PV.enc (.tup [t p.1, u p.2.1, v p.2.2.1, w p.2.2.2]) := by
  show D.tup [_, _, _, _] = D.tup [_, _, _, _]
  rw [h, k, l, m]
theorem c_O (f : α → D) (t : α → PV) (h : ∀ a, f a = PV.enc (t a)) (x : Option α) : eO f x = PV.enc (x.elim .non t) := by
  cases x with
  | none => rfl
  | some a => exact h a
theorem c_PP {α' β' : Type} (f : α → D) (g : β → D) (f' : α' → D) (g' : β' → D) (t : α → α') (u : β → β') (h : ∀ a, f a = f' (t a)) (k : ∀ a, g a = g' (u a)) (p : α × β) : eP f g p = eP f' g' (t p.1, u p.2) := by
  show D.tup [_, _] = D.tup [_, _]
  rw [h, k]
theorem c_33 {α' β' γ' : Type} (f : α → D) (g : β → D) (i : γ → D) (f' : α' → D) (g' : β' → D) (i' : γ' → D) (t : α → α') (u : β → β') (v : γ → γ') (h : ∀ a, f a = f' (t a)) (k : ∀ a, g a = g' (u a)) (l : ∀ a, i a = i' (v a)) (p : α × β × γ) : e3 f g i p = e3 f' g' i' (t p.1, u p.2.1, v p.2.2) := by
  show D.tup [_, _, _] = D.tup [_, _, _]
  rw [h, k, l]

/-! ### parts of a plain value -/
def PV.asI : PV → Option Int
  | .int i => some i
  | _ => none
def PV.asB : PV → Option Bool
  | .bl b => some b
  | _ => none
def PV.asT : PV → Option (List PV)
  | .tup vs => some vs
  | _ => none
def PV.asQ : PV → Option (List PV)
  | .tup vs => some vs
  | .lst vs => some vs
  | _ => none
def PV.as2 : PV → Option (PV × PV)
  | .tup [a, b] => some (a, b)
  | _ => none
def PV.as3 : PV → Option (PV × PV × PV)
  | .tup [a, b, c] => some (a, b, c)
  | _ => none
theorem asI_enc {v : PV} {i : Int} (h : v.asI = some i) : PV.enc v = .int i := by
  cases v <;> first | (cases h; done) | (cases h; rfl)
theorem asB_enc {v : PV} {i : Bool} (h : v.asB = some i) : PV.enc v = .bl i := by
  cases v <;> first | (cases h; done) | (cases h; rfl)
theorem asT_enc {v : PV} {vs : List PV} (h : v.asT = some vs) : PV.enc v = eT PV.enc vs := by
  cases v <;> first | (cases h; done) | (injection h with h; subst h; show D.tup (PV.encs _) = _; rw [encs_map]; rfl)
theorem as2_enc {v : PV} {p : PV × PV} (h : v.as2 = some p) : PV.enc v = eP PV.enc PV.enc p := by
  unfold PV.as2 at h
  split at h
  · cases h; rfl
  · cases h
theorem as3_enc {v : PV} {p : PV × PV × PV} (h : v.as3 = some p) : PV.enc v = e3 PV.enc PV.enc PV.enc p := by
  unfold PV.as3 at h
  split at h
  · cases h; rfl
  · cases h
theorem asQ_items {v : PV} {vs : List PV} (h : v.asQ = some vs) : (PV.enc v).items = some (vs.map PV.enc) := by
  cases v <;> first | (cases h; done) | (injection h with h; subst h; show some (PV.encs _) = _; rw [encs_map])
end
end TL
end

section
/-! TL2: what an expression of the compact text comes to, rule by rule. -/
namespace TL
open DL
open PySem (Str Operator CmpOp sizeLine PyData)
section
variable {α β γ δ σ ρ : Type} {P : Ctx} {m : Bool} {env env1 env2 env3 : EnvD}
abbrev AX (P : Ctx) (m : Bool) (env : EnvD) (e : E) (a : A) (env' : EnvD) : Prop := evA P m e env = some (a, env')
abbrev QX (P : Ctx) (m : Bool) (env : EnvD) (es : List E) (as : List A) (env' : EnvD) : Prop := evAs P m es env = some (as, env')
abbrev MX (P : Ctx) (m : Bool) (env : EnvD) (es : List E) (ds : List D) (env' : EnvD) : Prop := evMs P m es env = some (ds, env')
abbrev TX (P : Ctx) (m : Bool) (env : EnvD) (t : T) (b : Bool) (env' : EnvD) : Prop := evT P m t env = some (b, env')
abbrev SX (P : Ctx) (env : EnvD) (s : S) (fl : Fl) (env' : EnvD) : Prop := evS P s env = some (fl, env')

/-! ### what a written partial step gives -/
theorem bnd {x : Option α} {f : α → Option β} {r : β} (h : x.bind f = some r) : ∃ a, x = some a ∧ f a = some r := by
  cases x with
  | none => cases h
  | some a => exact ⟨a, rfl, h⟩
theorem sj {a b : α} (h : some a = some b) : a = b := by injection h
theorem iteo {c : Bool} {x y : Option α} {r : α} (h : (if c = true then x else y) = some r) : (c = true ∧ x = some r) ∨ (c = false ∧ y = some r) := by
  cases c
  · exact .inr ⟨rfl, h⟩
  · exact .inl ⟨rfl, h⟩
theorem itT {c : Bool} {x y z : Option α} (hc : c = true) (h : (if c = true then x else y) = z) : x = z := by rw [if_pos hc] at h; exact h
theorem itF {c : Bool} {x y z : Option α} (hc : c = false) (h : (if c = true then x else y) = z) : y = z := by subst hc; exact h

/-! ### names and written things -/
theorem x_int {n : Int} : AX P m env (.int n) (.tmp (.int n)) env := rfl
theorem x_bl {n : Bool} : AX P m env (.bl n) (.tmp (.bl n)) env := rfl
theorem x_str {n : Str} : AX P m env (.str n) (.tmp (.str n)) env := rfl
theorem x_glb {x : Str} {ns : List Int} : AX P m env (.glb x ns) (.tmp (.tup (ns.map D.int))) env := rfl
theorem x_non : AX P m env .non (.tmp .non) env := rfl
theorem x_var {i : Nat} (f : α → D) [h : Pl f] {a : α} (g : getE env i = some (f a)) : AX P m env (.var i) (.tmp (f a)) env := by
  show (getE env i).map _ = _
  rw [g]
  show some (if (f a).plain then A.tmp (f a) else .ref i, env) = _
  rw [h.pl]; rfl
theorem x_varp {i : Nat} {d : D} (g : getE env i = some d) (h : d.plain = true) : AX P m env (.var i) (.tmp d) env := by
  show (getE env i).map _ = _
  rw [g]
  show some (if d.plain then A.tmp d else .ref i, env) = _
  rw [h]; rfl
theorem x_ref {i : Nat} {d : D} (g : getE env i = some d) (h : d.plain = false) : AX P m env (.var i) (.ref i) env := by
  show (getE env i).map _ = _
  rw [g]
  show some (if d.plain then A.tmp d else .ref i, env) = _
  rw [h]; rfl
theorem x_mv {i : Nat} {d : D} (g : getE env i = some d) : AX P false env (.mv i) (.tmp d) (env.set i none) := by
  show (if false = true then none else (getE env i).map fun d => (A.tmp d, env.set i none)) = _
  rw [g]; rfl
theorem x_fz {i : Nat} {d d' : D} (g : getE env i = some d) (h : d.freeze = d') : AX P false env (.fz i) (.tmp d') (env.set i (some d')) := by
  show (if false = true then none else (getE env i).map fun d => (A.tmp d.freeze, env.set i (some d.freeze))) = _
  rw [g, ← h]; rfl
theorem x_cast {e : E} {d d' : D} (h : AX P m env e (.tmp d) env1) (k : d = d') : AX P m env e (.tmp d') env1 := k ▸ h

/-! ### operations -/
theorem x_op1 {o : Op} {e : E} {a : A} {d r : D} (h : AX P m env e a env1) (g : a.get env1 = some d) (ho : opD o [d] = some r) : AX P m env (.op o [e]) (.tmp r) env1 := by
  show ((evAs P m [e] env).bind _) = _
  have : evAs P m [e] env = some ([a], env1) := by
    show ((evA P m e env).bind _) = _
    rw [h]; rfl
  rw [this]
  show ((A.gets env1 [a]).bind _) = _
  have : A.gets env1 [a] = some [d] := by
    show ((A.get env1 a).bind _) = _
    rw [g]; rfl
  rw [this]
  show (opD o [d]).map _ = _
  rw [ho]; rfl
theorem x_op2 {o : Op} {e1 e2 : E} {a1 a2 : A} {d1 d2 r : D} (h1 : AX P m env e1 a1 env1) (h2 : AX P (m || a1.isPk) env1 e2 a2 env2) (g1 : a1.get env2 = some d1) (g2 : a2.get env2 = some d2) (ho : opD o [d1, d2] = some r) : AX P m env (.op o [e1, e2]) (.tmp r) env2 := by
  show ((evAs P m [e1, e2] env).bind _) = _
  have : evAs P m [e1, e2] env = some ([a1, a2], env2) := by
    show ((evA P m e1 env).bind _) = _
    rw [h1]
    show (((evA P (m || a1.isPk) e2 env1).bind _).map _) = _
    rw [h2]; rfl
  rw [this]
  show ((A.gets env2 [a1, a2]).bind _) = _
  have : A.gets env2 [a1, a2] = some [d1, d2] := by
    show ((A.get env2 a1).bind _) = _
    rw [g1]
    show (((A.get env2 a2).bind _).map _) = _
    rw [g2]; rfl
  rw [this]
  show (opD o [d1, d2]).map _ = _
  rw [ho]; rfl
theorem x_sub {e i : E} {a k : A} {b kd d : D} {r : A} (h1 : AX P m env e a env1) (h2 : AX P (m || a.isPk) env1 i k env2) (g1 : a.get env2 = some b) (g2 : k.get env2 = some kd) (hs : subD b kd = some d) (hm : mkA a.isTmp d = r) : AX P m env (.sub e i) r env2 := by
  show ((evA P m e env).bind _) = _
  rw [h1]
  show ((evA P (m || a.isPk) i env1).bind _) = _
  rw [h2]
  show ((a.get env2).bind _) = _
  rw [g1]
  show ((k.get env2).bind _) = _
  rw [g2]
  show (subD b kd).map _ = _
  rw [hs, ← hm]; rfl
theorem mk_p (f : α → D) [h : Pl f] (t : Bool) (a : α) : mkA t (f a) = .tmp (f a) := mk_plain (h.pl a)
theorem q_nil : QX P m env [] [] env := rfl
theorem q_cons {e : E} {es : List E} {a : A} {as : List A} (h1 : AX P m env e a env1) (h2 : QX P (m || a.isPk) env1 es as env2) : QX P m env (e :: es) (a :: as) env2 := by
  show ((evA P m e env).bind _) = _
  rw [h1]
  show ((evAs P (m || a.isPk) es env1).map _) = _
  rw [h2]; rfl
theorem m_nil : MX P m env [] [] env := rfl
theorem m_cons {e : E} {es : List E} {d : D} {ds : List D} (h1 : AX P m env e (.tmp d) env1) (h2 : MX P m env1 es ds env2) : MX P m env (e :: es) (d :: ds) env2 := by
  show (((evA P m e env).bind fun x => mat m x.1 x.2).bind _) = _
  rw [h1]
  show ((evMs P m es env1).map _) = _
  rw [h2]; rfl
theorem x_tup {es : List E} {ds : List D} (h : MX P m env es ds env1) (hs : decide (ds.length ≤ 64) = true) : AX P m env (.tup es) (.tmp (.tup ds)) env1 := by
  show ((evMs P m es env).bind _) = _
  rw [h]
  show (if szOk ds.length then _ else _) = _
  have : szOk ds.length = true := decide_eq_true (Nat.le_trans (of_decide_eq_true hs) (by decide))
  rw [this]; rfl
theorem x_lst {es : List E} {ds : List D} (h : MX P m env es ds env1) (hs : decide (ds.length ≤ 64) = true) : AX P m env (.lst es) (.tmp (.lst true ds)) env1 := by
  show ((evMs P m es env).bind _) = _
  rw [h]
  show (if szOk ds.length then _ else _) = _
  have : szOk ds.length = true := decide_eq_true (Nat.le_trans (of_decide_eq_true hs) (by decide))
  rw [this]; rfl
theorem x_dict {es : List E} {ds : List D} {d : D} (h : MX P m env es ds env1) (hs : dispD ds = some d) : AX P m env (.dK es) (.tmp d) env1 := by
  show ((evMs P m es env).bind _) = _
  rw [h]
  show ((dispD ds).map _) = _
  rw [hs]; rfl
theorem i_none : evI P m [] env = some (none, env) := rfl
theorem i_some {e : E} {n : Int} (h : AX P m env e (.tmp (.int n)) env1) : evI P m [e] env = some (some n, env1) := by
  show ((evA P m e env).bind _) = _
  rw [h]; rfl
theorem x_sli {a : E} {lo hi : List E} {x : A} {l h : Option Int} {d r : D} (h1 : AX P m env a x env1) (h2 : evI P (m || x.isPk) lo env1 = some (l, env2)) (h3 : evI P (m || x.isPk) hi env2 = some (h, env3)) (g : x.get env3 = some d) (hc : cutO d l h = some r) : AX P m env (.sli a lo hi) (.tmp r) env3 := by
  show ((evA P m a env).bind _) = _
  rw [h1]
  show ((evI P (m || x.isPk) lo env1).bind _) = _
  rw [h2]
  show ((evI P (m || x.isPk) hi env2).bind _) = _
  rw [h3]
  show ((x.get env3).bind _) = _
  rw [g]
  show ((cutO d l h).map _) = _
  rw [hc]; rfl
theorem x_ite {c : T} {a b : E} {t : Bool} {r : A} (hc : TX P m env c t env1) (ha : t = true → AX P m env1 a r env2) (hb : t = false → AX P m env1 b r env2) : AX P m env (.ite c a b) r env2 := by
  show ((evT P m c env).bind _) = _
  rw [hc]
  cases t
  · exact hb rfl
  · exact ha rfl
theorem x_and1 {e : E} {a : A} (h : AX P m env e a env1) : evAnd P m [e] env = some (a, env1) := h
theorem x_andC {e e' : E} {es : List E} {x y : Bool} (h : AX P m env e (.tmp (.bl x)) env1) (ht : x = true → evAnd P m (e' :: es) env1 = some (.tmp (.bl y), env2)) (hf : x = false → y = false ∧ env2 = env1) : evAnd P m (e :: e' :: es) env = some (.tmp (.bl y), env2) := by
  show ((evA P m e env).bind _) = _
  rw [h]
  cases x
  · obtain ⟨rfl, rfl⟩ := hf rfl; rfl
  · exact ht rfl
theorem x_or1 {e : E} {a : A} (h : AX P m env e a env1) : evOr P m [e] env = some (a, env1) := h
theorem x_orC {e e' : E} {es : List E} {x y : Bool} (h : AX P m env e (.tmp (.bl x)) env1) (hf : x = false → evOr P m (e' :: es) env1 = some (.tmp (.bl y), env2)) (ht : x = true → y = true ∧ env2 = env1) : evOr P m (e :: e' :: es) env = some (.tmp (.bl y), env2) := by
  show ((evA P m e env).bind _) = _
  rw [h]
  cases x
  · exact hf rfl
  · obtain ⟨rfl, rfl⟩ := ht rfl; rfl
theorem x_andT {e e' : E} {es : List E} {x y : Bool} (h : AX P m env e (.tmp (.bl x)) env) (h2 : evAnd P m (e' :: es) env = some (.tmp (.bl y), env)) : evAnd P m (e :: e' :: es) env = some (.tmp (.bl (x && y)), env) :=
  x_andC h (fun hx => by rw [hx]; exact h2) (fun hx => ⟨by rw [hx]; rfl, rfl⟩)
theorem x_orT {e e' : E} {es : List E} {x y : Bool} (h : AX P m env e (.tmp (.bl x)) env) (h2 : evOr P m (e' :: es) env = some (.tmp (.bl y), env)) : evOr P m (e :: e' :: es) env = some (.tmp (.bl (x || y)), env) :=
  x_orC h (fun hx => by rw [hx]; exact h2) (fun hx => ⟨by rw [hx]; rfl, rfl⟩)
theorem x_and {es : List E} {a : A} (h : evAnd P m es env = some (a, env1)) : AX P m env (.and es) a env1 := by unfold AX; rw [evA]; exact h
theorem x_or {es : List E} {a : A} (h : evOr P m es env = some (a, env1)) : AX P m env (.or es) a env1 := by unfold AX; rw [evA]; exact h
theorem x_not {e : E} {a : A} {d : D} {t : Bool} (h : AX P m env e a env1) (g : a.get env1 = some d) (ht : d.truthy = some t) : AX P m env (.not e) (.tmp (.bl (!t))) env1 := by
  show ((evA P m e env).bind _) = _
  rw [h]
  show ((a.get env1).bind _) = _
  rw [g]
  show ((d.truthy).map _) = _
  rw [ht]; rfl
theorem x_cmp2 {o1 o2 : CmpOp} {a b c : E} {dx dy dz : D} {t u : Bool} (h1 : AX P m env a (.tmp dx) env1) (h2 : AX P (m || false) env1 b (.tmp dy) env2) (k1 : (cmpD o1 dx dy).bind D.bl? = some t) (h3 : AX P m env2 c (.tmp dz) env2) (k2 : cmpD o2 dy dz = some (.bl u)) : AX P m env (.cmp2 o1 o2 a b c) (.tmp (.bl (t && u))) env2 := by
  show ((evA P m a env).bind _) = _
  rw [h1]
  show ((evA P (m || false) b env1).bind _) = _
  rw [h2]
  show (((cmpD o1 dx dy).bind D.bl?).bind _) = _
  rw [k1]
  cases t
  · rfl
  · show ((evA P m c env2).bind _) = _
    rw [h3]
    show ((cmpD o2 dy dz).map _) = _
    rw [k2]; rfl
theorem x_call {f : Nat} {es : List E} {as : List A} {ds ds' : List D} {r : D} {e3 : EnvD} (h : QX P m env es as env1) (hm : (m && !as.all A.isTmp) = false) (hl : lendA as env1 = some (ds, env2)) (hc : P.call f ds = some (r, ds')) (hb : backA as ds' env2 = e3) : AX P m env (.call f es) (.tmp r) e3 := by
  show ((evAs P m es env).bind _) = _
  rw [h]
  show (if m && !as.all A.isTmp then none else (lendA as env1).bind _) = _
  rw [hm, hl]
  show ((P.call f ds).map _) = _
  rw [hc, ← hb]; rfl

/-! ### tests -/
theorem t_val {e : E} {a : A} {d : D} {t : Bool} (h : AX P m env e a env1) (g : a.get env1 = some d) (ht : d.truthy = some t) : TX P m env (.val e) t env1 := by
  show ((evA P m e env).bind _) = _
  rw [h]
  show ((a.get env1).bind _) = _
  rw [g]
  show ((d.truthy).map _) = _
  rw [ht]; rfl
theorem t_bl {e : E} {t : Bool} (h : AX P m env e (.tmp (.bl t)) env1) : TX P m env (.val e) t env1 := t_val h rfl rfl
theorem t_and {ts : List T} {b : Bool} (h : evTand P m ts env = some (b, env1)) : TX P m env (.and ts) b env1 := by unfold TX; rw [evT]; exact h
theorem t_or {ts : List T} {b : Bool} (h : evTor P m ts env = some (b, env1)) : TX P m env (.or ts) b env1 := by unfold TX; rw [evT]; exact h
theorem t_not {t : T} {b : Bool} (h : TX P m env t b env1) : TX P m env (.not t) (!b) env1 := by
  show ((evT P m t env).map _) = _
  rw [h]; rfl
theorem t_and1 {t : T} {b : Bool} (h : TX P m env t b env1) : evTand P m [t] env = some (b, env1) := by
  show ((evT P m t env).bind _) = _
  rw [h]
  cases b <;> rfl
theorem t_or1 {t : T} {b : Bool} (h : TX P m env t b env1) : evTor P m [t] env = some (b, env1) := by
  show ((evT P m t env).bind _) = _
  rw [h]
  cases b <;> rfl
theorem t_andC {t : T} {ts : List T} {x y : Bool} (h : TX P m env t x env1) (ht : x = true → evTand P m ts env1 = some (y, env2)) (hf : x = false → y = false ∧ env2 = env1) : evTand P m (t :: ts) env = some (y, env2) := by
  show ((evT P m t env).bind _) = _
  rw [h]
  cases x
  · obtain ⟨rfl, rfl⟩ := hf rfl; rfl
  · exact ht rfl
theorem t_orC {t : T} {ts : List T} {x y : Bool} (h : TX P m env t x env1) (hf : x = false → evTor P m ts env1 = some (y, env2)) (ht : x = true → y = true ∧ env2 = env1) : evTor P m (t :: ts) env = some (y, env2) := by
  show ((evT P m t env).bind _) = _
  rw [h]
  cases x
  · exact hf rfl
  · obtain ⟨rfl, rfl⟩ := ht rfl; rfl
theorem t_andT {t : T} {ts : List T} {x y : Bool} (h : TX P m env t x env) (h2 : evTand P m ts env = some (y, env)) : evTand P m (t :: ts) env = some (x && y, env) :=
  t_andC h (fun hx => by rw [hx]; exact h2) (fun hx => ⟨by rw [hx]; rfl, rfl⟩)
theorem t_orT {t : T} {ts : List T} {x y : Bool} (h : TX P m env t x env) (h2 : evTor P m ts env = some (y, env)) : evTor P m (t :: ts) env = some (x || y, env) :=
  t_orC h (fun hx => by rw [hx]; exact h2) (fun hx => ⟨by rw [hx]; rfl, rfl⟩)
theorem t_ite {c a b : T} {x y : Bool} (hc : TX P m env c x env1) (ha : x = true → TX P m env1 a y env2) (hb : x = false → TX P m env1 b y env2) : TX P m env (.ite c a b) y env2 := by
  show ((evT P m c env).bind _) = _
  rw [hc]
  cases x
  · exact hb rfl
  · exact ha rfl

/-! ### comprehensions -/
def szG (xs : List α) : Option Unit := if xs.length ≤ sizeLine then some () else none
theorem szG_le {xs : List α} {u : Unit} (h : szG xs = some u) : xs.length ≤ sizeLine := by
  unfold szG at h
  split at h
  · assumption
  · cases h
theorem szG_of {xs : List α} (h : xs.length ≤ 1000000) : szG xs = some () := if_pos (Nat.le_trans h (by decide))
def compM (F : α → Option (Option β)) : List α → Option (List β)
  | [] => some []
  | x :: xs => (F x).bind fun o => match o with
    | none => compM F xs
    | some y => (compM F xs).bind fun ys => some (y :: ys)
def mapO (F : α → Option β) : List α → Option (List β)
  | [] => some []
  | x :: xs => (F x).bind fun y => (mapO F xs).bind fun ys => some (y :: ys)
def mapS (F : α → σ → Option (β × σ)) : List α → σ → Option (List β × σ)
  | [], s => some ([], s)
  | x :: xs, s => (F x s).bind fun y => (mapS F xs y.2).bind fun ys => some (y.1 :: ys.1, ys.2)
def compS (F : α → σ → Option (Option β × σ)) : List α → σ → Option (List β × σ)
  | [], s => some ([], s)
  | x :: xs, s => (F x s).bind fun o => match o.1 with
    | none => compS F xs o.2
    | some y => (compS F xs o.2).bind fun ys => some (y :: ys.1, ys.2)
theorem mapO_len {F : α → Option β} : ∀ {xs : List α} {ys : List β}, mapO F xs = some ys → ys.length = xs.length
  | [], ys, h => by cases h; rfl
  | x :: xs, ys, h => by
    obtain ⟨y, h1, h⟩ := bnd h
    obtain ⟨zs, h2, h⟩ := bnd h
    cases h
    rw [List.length_cons, List.length_cons, mapO_len h2]
theorem mapO_map {F : α → Option β} {G : α → β} : ∀ {xs : List α}, (∀ x ∈ xs, F x = some (G x)) → mapO F xs = some (xs.map G)
  | [], _ => rfl
  | x :: xs, h => by
    rw [mapO, h x List.mem_cons_self, Option.bind_some, mapO_map fun y hy => h y (List.mem_cons_of_mem _ hy)]; rfl
theorem compM_fm {F : α → Option (Option β)} {G : α → Option β} : ∀ {xs : List α}, (∀ x ∈ xs, F x = some (G x)) → compM F xs = some (xs.filterMap G)
  | [], _ => rfl
  | x :: xs, h => by
    rw [compM, h x List.mem_cons_self, Option.bind_some, compM_fm fun y hy => h y (List.mem_cons_of_mem _ hy)]
    cases hg : G x with
    | none => rw [List.filterMap_cons_none hg]
    | some y => rw [List.filterMap_cons_some hg]; rfl

abbrev stepC (P : Ctx) (m : Bool) (tg : Tg) (own : List Nat) (ifs : List T) (elt : E) : D → EnvD → Option (Option D × EnvD) :=
  fun d e => (bindT tg d e).bind fun e1 => (evTand P m ifs e1).bind fun t => if t.1 then ((evA P m elt t.2).bind fun x => mat m x.1 x.2).map fun r => (some r.1, wipeE own r.2) else some (none, wipeE own t.2)
theorem stepC_y {tg : Tg} {own : List Nat} {ifs : List T} {elt : E} {d r : D} {e0 e1 e2 e3 e4 : EnvD} (hb : bindT tg d e0 = some e1) (ht : evTand P m ifs e1 = some (true, e2)) (he : AX P m e2 elt (.tmp r) e3) (hw : wipeE own e3 = e4) : stepC P m tg own ifs elt d e0 = some (some r, e4) := by
  show ((bindT tg d e0).bind _) = _
  rw [hb]
  show ((evTand P m ifs e1).bind _) = _
  rw [ht]
  show (((evA P m elt e2).bind _).map _) = _
  rw [he, ← hw]; rfl
theorem stepC_n {tg : Tg} {own : List Nat} {ifs : List T} {elt : E} {d : D} {e0 e1 e2 e4 : EnvD} (hb : bindT tg d e0 = some e1) (ht : evTand P m ifs e1 = some (false, e2)) (hw : wipeE own e2 = e4) : stepC P m tg own ifs elt d e0 = some (none, e4) := by
  show ((bindT tg d e0).bind _) = _
  rw [hb]
  show ((evTand P m ifs e1).bind _) = _
  rw [ht, ← hw]; rfl
/-- what one turn of a comprehension gives -/
def CY (g : β → D) (e' : EnvD) (o : Option (Option D × EnvD)) (y : Option β) : Prop := o = some (y.map g, e')
theorem compS_sim {step : D → EnvD → Option (Option D × EnvD)} {f : α → D} {g : β → D} {F : α → σ → Option (Option β × σ)} {E0 : σ → EnvD} (hs : ∀ x s y, F x s = some y → CY g (E0 y.2) (step (f x) (E0 s)) y.1) :
    ∀ (xs : List α) (s : σ) (ys : List β × σ) (acc : List D), compS F xs s = some ys → acc.length + xs.length ≤ sizeLine → compF step (xs.map f) acc (E0 s) = some (acc ++ ys.1.map g, E0 ys.2)
  | [], s, ys, acc, h, _ => by cases h; show some (acc, E0 s) = some (acc ++ [], E0 s); rw [List.append_nil]
  | x :: xs, s, ys, acc, h, hl => by
    rw [List.length_cons] at hl
    obtain ⟨y, h1, h⟩ := bnd h
    have h2 := hs x s y h1
    unfold CY at h2
    show ((step (f x) (E0 s)).bind _) = _
    rw [h2]
    obtain ⟨y, s'⟩ := y
    cases y with
    | none => exact compS_sim hs xs s' ys acc h (by omega)
    | some y =>
      obtain ⟨zs, h3, h⟩ := bnd h
      cases h
      show (if acc.length < sizeLine then compF step (xs.map f) (acc ++ [g y]) (E0 s') else none) = _
      rw [if_pos (by omega), compS_sim hs xs s' zs (acc ++ [g y]) h3 (by rw [List.length_append, List.length_cons, List.length_nil]; omega), List.append_assoc]; rfl
theorem mapS_comp {F : α → σ → Option (β × σ)} : ∀ {xs : List α} {s : σ}, mapS F xs s = compS (fun x s => (F x s).map fun y => (some y.1, y.2)) xs s
  | [], s => rfl
  | x :: xs, s => by
    rw [mapS, compS]
    cases F x s with
    | none => rfl
    | some y =>
      show (mapS F xs y.2).bind _ = (compS _ xs y.2).bind _
      rw [mapS_comp]
theorem compM_comp {F : α → Option (Option β)} : ∀ {xs : List α}, (compM F xs).map (fun ys => (ys, ())) = compS (fun x (_ : Unit) => (F x).map fun y => (y, ())) xs ()
  | [] => rfl
  | x :: xs => by
    rw [compM, compS]
    cases F x with
    | none => rfl
    | some y =>
      cases y with
      | none => exact compM_comp (xs := xs)
      | some y =>
        show Option.map _ ((compM F xs).bind _) = (compS _ xs ()).bind _
        rw [← compM_comp]
        cases compM F xs <;> rfl
theorem mapO_comp {F : α → Option β} : ∀ {xs : List α}, mapO F xs = compM (fun x => (F x).map some) xs
  | [] => rfl
  | x :: xs => by
    rw [mapO, compM]
    cases F x with
    | none => rfl
    | some y => show (mapO F xs).bind _ = (compM _ xs).bind _; rw [mapO_comp]
/-- what a comprehension walks -/
def SrcOk (P : Ctx) (m : Bool) (env : EnvD) (k : SrcK) (src : List E) (its : List D) (m' : Bool) (env1 env2 : EnvD) (lent : Option (Nat × D)) : Prop :=
  ∃ as, evAs P m src env = some (as, env1) ∧ srcC k m as env1 = some ⟨its, m', env2, lent⟩
theorem x_compS {tg : Tg} {own : List Nat} {k : SrcK} {src : List E} {ifs : List T} {elt : E} {lent : Option (Nat × D)} {m' : Bool} {f : α → D} {g : β → D} {F : α → σ → Option (Option β × σ)} {E0 : σ → EnvD} {s : σ} {xs : List α} {ys : List β × σ} {e3 : EnvD}
    (h1 : SrcOk P m env k src (xs.map f) m' env1 env2 lent) (h0 : wipeE own env2 = E0 s) (hz : xs.length ≤ sizeLine) (hF : compS F xs s = some ys)
    (hs : ∀ x s y, F x s = some y → CY g (E0 y.2) (stepC P m' tg own ifs elt (f x) (E0 s)) y.1) (he : unlend lent (restE own env1 (E0 ys.2)) = e3) :
    AX P m env (.comp tg own k src ifs elt) (.tmp (.lst true (ys.1.map g))) e3 := by
  obtain ⟨as, h1, h2⟩ := h1
  show ((evAs P m src env).bind _) = _
  rw [h1]
  show ((srcC k m as env1).bind _) = _
  rw [h2]
  show (compF (stepC P m' tg own ifs elt) (xs.map f) [] (wipeE own env2)).map _ = _
  rw [h0, compS_sim hs xs s ys [] hF (by simpa using hz), ← he]; rfl
theorem x_mapS {tg : Tg} {own : List Nat} {k : SrcK} {src : List E} {elt : E} {lent : Option (Nat × D)} {m' : Bool} {f : α → D} {g : β → D} {F : α → σ → Option (β × σ)} {E0 : σ → EnvD} {s : σ} {xs : List α} {ys : List β × σ} {e3 : EnvD}
    (h1 : SrcOk P m env k src (xs.map f) m' env1 env2 lent) (h0 : wipeE own env2 = E0 s) (hz : xs.length ≤ sizeLine) (hF : mapS F xs s = some ys)
    (hs : ∀ x s y, F x s = some y → ∃ e1 e2, bindT tg (f x) (E0 s) = some e1 ∧ AX P m' e1 elt (.tmp (g y.1)) e2 ∧ wipeE own e2 = E0 y.2) (he : unlend lent (restE own env1 (E0 ys.2)) = e3) :
    AX P m env (.comp tg own k src [] elt) (.tmp (eL g ys.1)) e3 := by
  rw [mapS_comp] at hF
  refine x_compS h1 h0 hz hF (fun x s y hy => ?_) he
  cases hx : F x s with
  | none => rw [hx] at hy; cases hy
  | some z =>
    rw [hx] at hy; cases hy
    obtain ⟨e1, e2, a, b, c⟩ := hs x s z hx
    exact stepC_y a rfl b c
theorem x_compM {tg : Tg} {own : List Nat} {k : SrcK} {src : List E} {ifs : List T} {elt : E} {lent : Option (Nat × D)} {m' : Bool} {f : α → D} {g : β → D} {F : α → Option (Option β)} {E0 : EnvD} {xs : List α} {ys : List β} {e3 : EnvD}
    (h1 : SrcOk P m env k src (xs.map f) m' env1 env2 lent) (h0 : wipeE own env2 = E0) (hz : xs.length ≤ sizeLine) (hF : compM F xs = some ys)
    (hs : ∀ x y, F x = some y → CY g E0 (stepC P m' tg own ifs elt (f x) E0) y) (he : unlend lent (restE own env1 E0) = e3) :
    AX P m env (.comp tg own k src ifs elt) (.tmp (eL g ys)) e3 := by
  have hF' := compM_comp (F := F) (xs := xs)
  rw [hF] at hF'
  exact x_compS (E0 := fun _ => E0) (s := ()) (F := fun x (_ : Unit) => (F x).map fun y => (y, ())) (ys := (ys, ())) h1 h0 hz hF'.symm (fun x s y hy => by
    cases hx : F x with
    | none => rw [hx] at hy; cases hy
    | some z => rw [hx] at hy; cases hy; exact hs x z hx) he
theorem x_mapO {tg : Tg} {own : List Nat} {k : SrcK} {src : List E} {elt : E} {lent : Option (Nat × D)} {m' : Bool} {f : α → D} {g : β → D} {F : α → Option β} {E0 : EnvD} {xs : List α} {ys : List β} {e3 : EnvD}
    (h1 : SrcOk P m env k src (xs.map f) m' env1 env2 lent) (h0 : wipeE own env2 = E0) (hz : xs.length ≤ sizeLine) (hF : mapO F xs = some ys)
    (hs : ∀ x y, F x = some y → ∃ e1 e2, bindT tg (f x) E0 = some e1 ∧ AX P m' e1 elt (.tmp (g y)) e2 ∧ wipeE own e2 = E0) (he : unlend lent (restE own env1 E0) = e3) :
    AX P m env (.comp tg own k src [] elt) (.tmp (eL g ys)) e3 := by
  rw [mapO_comp] at hF
  refine x_compM h1 h0 hz hF (fun x y hy => ?_) he
  cases hx : F x with
  | none => rw [hx] at hy; cases hy
  | some z =>
    rw [hx] at hy; cases hy
    obtain ⟨e1, e2, a, b, c⟩ := hs x z hx
    exact stepC_y a rfl b c
theorem x_map {tg : Tg} {own : List Nat} {k : SrcK} {src : List E} {elt : E} {lent : Option (Nat × D)} {m' : Bool} {f : α → D} {g : β → D} {F : α → β} {E0 : EnvD} {xs : List α} {e3 : EnvD}
    (h1 : SrcOk P m env k src (xs.map f) m' env1 env2 lent) (h0 : wipeE own env2 = E0) (hz : xs.length ≤ sizeLine)
    (hs : ∀ x, ∃ e1 e2, bindT tg (f x) E0 = some e1 ∧ AX P m' e1 elt (.tmp (g (F x))) e2 ∧ wipeE own e2 = E0) (he : unlend lent (restE own env1 E0) = e3) :
    AX P m env (.comp tg own k src [] elt) (.tmp (eL g (xs.map F))) e3 :=
  x_mapO h1 h0 hz (mapO_map (G := F) fun x _ => rfl) (fun x y hy => by cases hy; exact hs x) he
theorem fm_if (C : α → Bool) (F : α → β) : ∀ xs : List α, xs.filterMap (fun x => if C x = true then some (F x) else none) = (xs.filter C).map F
  | [] => rfl
  | x :: xs => by
    by_cases hc : C x = true
    · simp [hc, ← fm_if C F xs]
    · simp [hc, ← fm_if C F xs]
/-- [elt for x in xs if c], nothing of it partial -/
theorem x_filt {tg : Tg} {own : List Nat} {k : SrcK} {src : List E} {ifs : List T} {elt : E} {lent : Option (Nat × D)} {m' : Bool} {f : α → D} {g : β → D} {F : α → β} {C : α → Bool} {E0 : EnvD} {xs : List α} {e3 : EnvD}
    (h1 : SrcOk P m env k src (xs.map f) m' env1 env2 lent) (h0 : wipeE own env2 = E0) (hz : xs.length ≤ sizeLine)
    (hs : ∀ x, ∃ e1, bindT tg (f x) E0 = some e1 ∧ evTand P m' ifs e1 = some (C x, e1) ∧ AX P m' e1 elt (.tmp (g (F x))) e1 ∧ wipeE own e1 = E0) (he : unlend lent (restE own env1 E0) = e3) :
    AX P m env (.comp tg own k src ifs elt) (.tmp (eL g ((xs.filter C).map F))) e3 := by
  have hF : compM (fun x => some (if C x = true then some (F x) else none)) xs = some ((xs.filter C).map F) := by
    rw [compM_fm (G := fun x => if C x = true then some (F x) else none) fun x _ => rfl]
    exact congrArg some (fm_if C F xs)
  refine x_compM h1 h0 hz hF (fun x y hy => ?_) he
  obtain ⟨e1, a, b, c, d⟩ := hs x
  cases hy
  by_cases hc : C x = true
  · rw [hc] at b; show CY g E0 _ (if C x = true then _ else _); rw [if_pos hc]; exact stepC_y a b c d
  · show CY g E0 _ (if C x = true then _ else _); rw [if_neg hc]
    have hc : C x = false := by simpa using hc
    rw [hc] at b; exact stepC_n a b d
end
end TL
end

section
/-! TL3: operations on typed data. -/
namespace TL
open DL
open PySem (Str Operator CmpOp sizeLine PyData)
section
variable {α β γ δ σ ρ : Type}
/-! numbers -/
def mulG (i j : Int) : Option Int := if mulOk i j = true then some (i * j) else none
def divG (i j : Int) : Option Int := if divOk j = true then some (divD i j) else none
def modG (i j : Int) : Option Int := if j = 0 then none else some (modD i j)
def powG (i j : Int) : Option Int := if (decide (0 ≤ j) && decide (j ≤ 1000000) && decide (i.natAbs < 2 ^ 64)) = true then some (i ^ j.toNat) else none
theorem o_mulG {i j r : Int} (h : mulG i j = some r) : opD (.bin .Mult) [.int i, .int j] = some (.int r) := by
  unfold mulG at h
  split at h
  · cases h; exact o_mul (by assumption)
  · cases h
theorem o_divG {i j r : Int} (h : divG i j = some r) : opD (.bin .FloorDiv) [.int i, .int j] = some (.int r) := by
  unfold divG at h
  split at h
  · cases h; exact o_div (by assumption)
  · cases h
theorem o_modG {i j r : Int} (h : modG i j = some r) : opD (.bin .Mod) [.int i, .int j] = some (.int r) := by
  unfold modG at h
  split at h
  · cases h
  · cases h; exact o_mod (by assumption)
theorem o_powG {i j r : Int} (h : powG i j = some r) : opD (.bin .Pow) [.int i, .int j] = some (.int r) := by
  show (if decide (0 ≤ j) && decide (j ≤ 1000000) && decide (i.natAbs < 2 ^ 64) then some (D.int (i ^ j.toNat)) else none) = _
  unfold powG at h
  split at h
  · cases h; rw [if_pos (by assumption)]
  · cases h
theorem mulG_of {i j : Int} (h : mulOk i j = true) : mulG i j = some (i * j) := if_pos h
theorem a_mulG {i j r : Int} (h : mulG i j = some r) : augD .Mult (.int i) (.int j) = some (.int r) := by
  unfold mulG at h
  show (if mulOk i j then some (D.int (i * j)) else none) = _
  split at h
  · cases h; rw [if_pos (by assumption)]
  · cases h
theorem o_absN {i : Int} : opD .abs [.int i] = some (.int (i.natAbs : Int)) := by rw [← abs_nat]; exact o_abs
def min2 (i j : Int) : Int := if j < i then j else i
def max2 (i j : Int) : Int := if j > i then j else i
theorem o_min2 {i j : Int} : opD .min2 [.int i, .int j] = some (.int (min2 i j)) := rfl
theorem o_max2 {i j : Int} : opD .max2 [.int i, .int j] = some (.int (max2 i j)) := rfl
def b2i (b : Bool) : Int := if b = true then 1 else 0
theorem o_intB {b : Bool} : opD .toInt [.bl b] = some (.int (b2i b)) := by cases b <;> rfl
theorem o_isB {b k : Bool} : opD (.isB b) [.bl k] = some (.bl (decide (k = b))) := rfl
/-! equality -/
class EqC (f : α → D) (n : outParam Nat) [DecidableEq α] : Prop where
  eqv : ∀ a b, D.eqv (f a) (f b) = decide (a = b)
  lay : ∀ a, (f a).py.canLay0 = true
  dep : ∀ a, (f a).py.depth ≤ n
theorem EqC.shp {f : α → D} {n : Nat} [DecidableEq α] [h : EqC f n] (hn : n ≤ 64) (a : α) : (f a).shp = true := by
  show ((f a).py.canLay0 && decide ((f a).py.depth ≤ 64)) = true
  rw [h.lay, decide_eq_true (Nat.le_trans (h.dep a) hn)]; rfl
instance : EqC D.int 1 := ⟨eqv_int, fun _ => rfl, fun a => by show PyData.depth (.int a) ≤ 1; rw [PyData.depth]; omega⟩
instance : EqC D.bl 1 := ⟨fun a b => by cases a <;> cases b <;> rfl, fun _ => rfl, fun a => by show PyData.depth (.bool a) ≤ 1; rw [PyData.depth]; omega⟩
theorem pys_map (f : α → D) (xs : List α) : D.pys (xs.map f) = xs.map fun a => (f a).py := by
  induction xs with
  | nil => rfl
  | cons x xs ih => show _ :: D.pys (xs.map f) = _; rw [ih]; rfl
theorem eqvs_map (f : α → D) {n : Nat} [DecidableEq α] [h : EqC f n] : ∀ xs ys : List α, PyData.eqvAll (D.pys (xs.map f)) (D.pys (ys.map f)) = decide (xs = ys)
  | [], [] => rfl
  | [], _ :: _ => rfl
  | _ :: _, [] => rfl
  | x :: xs, y :: ys => by
    show (PyData.eqv (f x).py (f y).py && PyData.eqvAll (D.pys (xs.map f)) (D.pys (ys.map f))) = _
    rw [eqvs_map f xs ys]
    have := h.eqv x y
    unfold D.eqv at this
    rw [this]
    by_cases a : x = y <;> by_cases b : xs = ys <;> simp [a, b]
theorem lays_map (f : α → D) {n : Nat} [DecidableEq α] [h : EqC f n] : ∀ xs : List α, PyData.canLayAll0 (D.pys (xs.map f)) = true
  | [] => rfl
  | x :: xs => by
    show (PyData.canLay0 (f x).py && PyData.canLayAll0 (D.pys (xs.map f))) = true
    rw [h.lay, lays_map f xs]; rfl
theorem deps_map (f : α → D) {n : Nat} [DecidableEq α] [h : EqC f n] : ∀ xs : List α, PyData.depthAll (D.pys (xs.map f)) ≤ n
  | [] => Nat.zero_le _
  | x :: xs => by
    have h1 := h.dep x
    have h2 := deps_map f xs
    show PyData.depthAll ((f x).py :: D.pys (xs.map f)) ≤ n
    rw [PyData.depthAll]
    omega
instance (f : α → D) {n : Nat} [DecidableEq α] [EqC f n] : EqC (eT f) (n + 1) := ⟨fun a b => eqvs_map f a b, fun a => lays_map f a, fun a => by
  show PyData.depth (.tuple (D.pys (a.map f))) ≤ n + 1
  rw [PyData.depth]
  have := deps_map f a
  omega⟩
instance (f : α → D) {n : Nat} [DecidableEq α] [EqC f n] : EqC (eL f) (n + 1) := ⟨fun a b => eqvs_map f a b, fun a => lays_map f a, fun a => by
  show PyData.depth (.list (D.pys (a.map f))) ≤ n + 1
  rw [PyData.depth]
  have := deps_map f a
  omega⟩
instance (f : α → D) {n : Nat} [DecidableEq α] [EqC f n] : EqC (eF f) (n + 1) := ⟨fun a b => eqvs_map f a b, fun a => lays_map f a, fun a => by
  show PyData.depth (.list (D.pys (a.map f))) ≤ n + 1
  rw [PyData.depth]
  have := deps_map f a
  omega⟩
instance (f : α → D) (g : β → D) {n k : Nat} [DecidableEq α] [DecidableEq β] [hf : EqC f n] [hg : EqC g k] : EqC (eP f g) (n + k + 1) := ⟨fun a b => by
  show (PyData.eqv (f a.1).py (f b.1).py && (PyData.eqv (g a.2).py (g b.2).py && true)) = _
  have h1 := hf.eqv a.1 b.1
  have h2 := hg.eqv a.2 b.2
  unfold D.eqv at h1 h2
  rw [h1, h2]
  obtain ⟨a1, a2⟩ := a
  obtain ⟨b1, b2⟩ := b
  by_cases x : a1 = b1 <;> by_cases y : a2 = b2 <;> simp [x, y], fun a => by
  show (PyData.canLay0 (f a.1).py && (PyData.canLay0 (g a.2).py && true)) = true
  rw [hf.lay, hg.lay]; rfl, fun a => by
  show PyData.depth (.tuple [(f a.1).py, (g a.2).py]) ≤ _
  have := hf.dep a.1
  have := hg.dep a.2
  simp only [PyData.depth, PyData.depthAll]
  omega⟩
instance (f : α → D) (g : β → D) (h : γ → D) {n k l : Nat} [DecidableEq α] [DecidableEq β] [DecidableEq γ] [hf : EqC f n] [hg : EqC g k] [hh : EqC h l] : EqC (e3 f g h) (n + k + l + 1) := ⟨fun a b => by
  show (PyData.eqv (f a.1).py (f b.1).py && (PyData.eqv (g a.2.1).py (g b.2.1).py && (PyData.eqv (h a.2.2).py (h b.2.2).py && true))) = _
  have h1 := hf.eqv a.1 b.1
  have h2 := hg.eqv a.2.1 b.2.1
  have h3 := hh.eqv a.2.2 b.2.2
  unfold D.eqv at h1 h2 h3
  rw [h1, h2, h3]
  obtain ⟨a1, a2, a3⟩ := a
  obtain ⟨b1, b2, b3⟩ := b
  by_cases x : a1 = b1 <;> by_cases y : a2 = b2 <;> by_cases z : a3 = b3 <;> simp [x, y, z], fun a => by
  show (PyData.canLay0 (f a.1).py && (PyData.canLay0 (g a.2.1).py && (PyData.canLay0 (h a.2.2).py && true))) = true
  rw [hf.lay, hg.lay, hh.lay]; rfl, fun a => by
  show PyData.depth (.tuple [(f a.1).py, (g a.2.1).py, (h a.2.2).py]) ≤ _
  have := hf.dep a.1
  have := hg.dep a.2.1
  have := hh.dep a.2.2
  simp only [PyData.depth, PyData.depthAll]
  omega⟩
theorem o_eqC (f : α → D) {n : Nat} [DecidableEq α] [h : EqC f n] (hn : decide (n ≤ 64) = true) (a b : α) : opD (.cmp .Eq) [f a, f b] = some (.bl (decide (a = b))) := by
  show (if (f a).shp && (f b).shp then some (D.bl (D.eqv (f a) (f b))) else none) = _
  rw [EqC.shp (of_decide_eq_true hn) a, EqC.shp (of_decide_eq_true hn) b, h.eqv]; rfl
theorem o_neC (f : α → D) {n : Nat} [DecidableEq α] [h : EqC f n] (hn : decide (n ≤ 64) = true) (a b : α) : opD (.cmp .NotEq) [f a, f b] = some (.bl (!decide (a = b))) := by
  show (if (f a).shp && (f b).shp then some (D.bl (!D.eqv (f a) (f b))) else none) = _
  rw [EqC.shp (of_decide_eq_true hn) a, EqC.shp (of_decide_eq_true hn) b, h.eqv]; rfl
def eqG (d e : D) : Option Bool := if (d.shp && e.shp) = true then some (d.eqv e) else none
theorem o_eqG {d e : D} {t : Bool} (h : eqG d e = some t) : opD (.cmp .Eq) [d, e] = some (.bl t) := by
  unfold eqG at h
  split at h
  · cases h
    show (if d.shp && e.shp then some (D.bl (d.eqv e)) else none) = _
    rw [if_pos (by assumption)]
  · cases h
theorem o_neG {d e : D} {t : Bool} (h : eqG d e = some t) : opD (.cmp .NotEq) [d, e] = some (.bl (!t)) := by
  unfold eqG at h
  split at h
  · cases h
    show (if d.shp && e.shp then some (D.bl (!d.eqv e)) else none) = _
    rw [if_pos (by assumption)]
  · cases h
/-! membership of ints -/
theorem inD_int (a : Int) (xs : List Int) : inD (.int a) (xs.map D.int) = decide (a ∈ xs) := by
  unfold inD
  induction xs with
  | nil => rfl
  | cons x xs ih =>
    rw [List.map_cons, List.any_cons, ih, eqv_int]
    by_cases h : x = a
    · subst h; simp
    · simp [h, Ne.symm h]
theorem flat_ints (xs : List Int) : (xs.map D.int).all D.flat = true := by
  induction xs with
  | nil => rfl
  | cons x xs ih => exact ih
theorem o_inT {a : Int} {xs : List Int} : opD (.cmp .In) [.int a, eT D.int xs] = some (.bl (decide (a ∈ xs))) := by
  show (if (D.int a).flat && (xs.map D.int).all D.flat then some (D.bl (inD (.int a) (xs.map D.int))) else none) = _
  rw [flat_ints, inD_int]; rfl
theorem o_inL {a : Int} {xs : List Int} : opD (.cmp .In) [.int a, eL D.int xs] = some (.bl (decide (a ∈ xs))) := by
  show (if (D.int a).flat && (xs.map D.int).all D.flat then some (D.bl (inD (.int a) (xs.map D.int))) else none) = _
  rw [flat_ints, inD_int]; rfl
theorem o_inF {a : Int} {xs : List Int} : opD (.cmp .In) [.int a, eF D.int xs] = some (.bl (decide (a ∈ xs))) := by
  show (if (D.int a).flat && (xs.map D.int).all D.flat then some (D.bl (inD (.int a) (xs.map D.int))) else none) = _
  rw [flat_ints, inD_int]; rfl
theorem o_niT {a : Int} {xs : List Int} : opD (.cmp .NotIn) [.int a, eT D.int xs] = some (.bl (!decide (a ∈ xs))) := by
  show (if (D.int a).flat && (xs.map D.int).all D.flat then some (D.bl (!inD (.int a) (xs.map D.int))) else none) = _
  rw [flat_ints, inD_int]; rfl
theorem o_niL {a : Int} {xs : List Int} : opD (.cmp .NotIn) [.int a, eL D.int xs] = some (.bl (!decide (a ∈ xs))) := by
  show (if (D.int a).flat && (xs.map D.int).all D.flat then some (D.bl (!inD (.int a) (xs.map D.int))) else none) = _
  rw [flat_ints, inD_int]; rfl
theorem o_niF {a : Int} {xs : List Int} : opD (.cmp .NotIn) [.int a, eF D.int xs] = some (.bl (!decide (a ∈ xs))) := by
  show (if (D.int a).flat && (xs.map D.int).all D.flat then some (D.bl (!inD (.int a) (xs.map D.int))) else none) = _
  rw [flat_ints, inD_int]; rfl
def inG (d : D) (ds : List D) : Option Bool := if (d.flat && ds.all D.flat) = true then some (inD d ds) else none
theorem o_inG {d : D} {f : α → D} {xs : List α} {t : Bool} (h : inG d (xs.map f) = some t) : opD (.cmp .In) [d, eT f xs] = some (.bl t) := by
  unfold inG at h
  split at h
  · cases h
    show (if d.flat && (xs.map f).all D.flat then some (D.bl (inD d (xs.map f))) else none) = _
    rw [if_pos (by assumption)]
  · cases h
theorem o_inGL {d : D} {f : α → D} {xs : List α} {t : Bool} (h : inG d (xs.map f) = some t) : opD (.cmp .In) [d, eL f xs] = some (.bl t) := by
  unfold inG at h
  split at h
  · cases h
    show (if d.flat && (xs.map f).all D.flat then some (D.bl (inD d (xs.map f))) else none) = _
    rw [if_pos (by assumption)]
  · cases h
theorem o_inGF {d : D} {f : α → D} {xs : List α} {t : Bool} (h : inG d (xs.map f) = some t) : opD (.cmp .In) [d, eF f xs] = some (.bl t) := by
  unfold inG at h
  split at h
  · cases h
    show (if d.flat && (xs.map f).all D.flat then some (D.bl (inD d (xs.map f))) else none) = _
    rw [if_pos (by assumption)]
  · cases h
theorem o_niGT {d : D} {f : α → D} {xs : List α} {t : Bool} (h : inG d (xs.map f) = some t) : opD (.cmp .NotIn) [d, eT f xs] = some (.bl (!t)) := by
  unfold inG at h
  split at h
  · cases h
    show (if d.flat && (xs.map f).all D.flat then some (D.bl (!inD d (xs.map f))) else none) = _
    rw [if_pos (by assumption)]
  · cases h
theorem o_niGL {d : D} {f : α → D} {xs : List α} {t : Bool} (h : inG d (xs.map f) = some t) : opD (.cmp .NotIn) [d, eL f xs] = some (.bl (!t)) := by
  unfold inG at h
  split at h
  · cases h
    show (if d.flat && (xs.map f).all D.flat then some (D.bl (!inD d (xs.map f))) else none) = _
    rw [if_pos (by assumption)]
  · cases h
theorem o_niGF {d : D} {f : α → D} {xs : List α} {t : Bool} (h : inG d (xs.map f) = some t) : opD (.cmp .NotIn) [d, eF f xs] = some (.bl (!t)) := by
  unfold inG at h
  split at h
  · cases h
    show (if d.flat && (xs.map f).all D.flat then some (D.bl (!inD d (xs.map f))) else none) = _
    rw [if_pos (by assumption)]
  · cases h
/-! None -/
class NN (f : α → D) : Prop where
  nn : ∀ a, (f a).isNon = false
instance : NN D.int := ⟨fun _ => rfl⟩
instance : NN D.bl := ⟨fun _ => rfl⟩
instance : NN D.str := ⟨fun _ => rfl⟩
instance (f : α → D) : NN (eT f) := ⟨fun _ => rfl⟩
instance (f : α → D) : NN (eL f) := ⟨fun _ => rfl⟩
instance (f : α → D) : NN (eF f) := ⟨fun _ => rfl⟩
instance (f : α → D) (g : β → D) : NN (eP f g) := ⟨fun _ => rfl⟩
instance (f : α → D) (g : β → D) (h : γ → D) : NN (e3 f g h) := ⟨fun _ => rfl⟩
instance (f : α → D) (g : β → D) (h : γ → D) (i : δ → D) : NN (e4 f g h i) := ⟨fun _ => rfl⟩
theorem o_isN (f : α → D) [h : NN f] {x : Option α} : opD .isN [eO f x] = some (.bl x.isNone) := by
  cases x with
  | none => rfl
  | some a => show some (D.bl (f a).isNon) = _; rw [h.nn]; rfl
theorem o_notN (f : α → D) [h : NN f] {x : Option α} : opD .notN [eO f x] = some (.bl x.isSome) := by
  cases x with
  | none => rfl
  | some a => show some (D.bl (!(f a).isNon)) = _; rw [h.nn]; rfl
theorem o_isNf (f : α → D) [h : NN f] {x : α} : opD .isN [f x] = some (.bl false) := by
  show some (D.bl (f x).isNon) = _; rw [h.nn]
theorem o_notNf (f : α → D) [h : NN f] {x : α} : opD .notN [f x] = some (.bl true) := by
  show some (D.bl (!(f x).isNon)) = _; rw [h.nn]; rfl
def PV.isN : PV → Bool
  | .non => true
  | _ => false
theorem o_isNV {v : PV} : opD .isN [PV.enc v] = some (.bl v.isN) := by cases v <;> rfl
theorem o_notNV {v : PV} : opD .notN [PV.enc v] = some (.bl (!v.isN)) := by cases v <;> rfl
theorem asO_enc {f : α → D} {x : Option α} {a : α} (h : x = some a) : eO f x = f a := by rw [h]; rfl
/-! isinstance -/
def PV.isI : PV → Bool
  | .int _ => true
  | .bl _ => true
  | _ => false
def PV.isB : PV → Bool
  | .bl _ => true
  | _ => false
def PV.isT : PV → Bool
  | .tup _ => true
  | _ => false
def PV.isS : PV → Bool
  | .str _ => true
  | _ => false
def PV.isL : PV → Bool
  | .lst _ => true
  | _ => false
theorem o_isiI {v : PV} : opD (.isi .int) [PV.enc v] = some (.bl v.isI) := by cases v <;> rfl
theorem o_isiB {v : PV} : opD (.isi .bool) [PV.enc v] = some (.bl v.isB) := by cases v <;> rfl
theorem o_isiT {v : PV} : opD (.isi .tuple) [PV.enc v] = some (.bl v.isT) := by cases v <;> rfl
theorem o_isiS {v : PV} : opD (.isi .str) [PV.enc v] = some (.bl v.isS) := by cases v <;> rfl
theorem o_isiL {v : PV} : opD (.isi .list) [PV.enc v] = some (.bl v.isL) := by cases v <;> rfl
/-! rows of things -/
theorem o_lnT {f : α → D} {xs : List α} : opD .len [eT f xs] = some (.int (xs.length : Int)) := by
  show some (D.int ((xs.map f).length : Int)) = _; rw [List.length_map]
theorem o_lnL {f : α → D} {xs : List α} : opD .len [eL f xs] = some (.int (xs.length : Int)) := by
  show some (D.int ((xs.map f).length : Int)) = _; rw [List.length_map]
theorem o_lnF {f : α → D} {xs : List α} : opD .len [eF f xs] = some (.int (xs.length : Int)) := by
  show some (D.int ((xs.map f).length : Int)) = _; rw [List.length_map]
def PV.len : PV → Option Int
  | .tup vs => some (vs.length : Int)
  | .lst vs => some (vs.length : Int)
  | _ => none
theorem o_lnV {v : PV} {n : Int} (h : v.len = some n) : opD .len [PV.enc v] = some (.int n) := by
  cases v <;> first | (cases h; done) | (injection h with h; subst h; show some (D.int ((PV.encs _).length : Int)) = _; rw [encs_map, List.length_map])
theorem o_tupL (f : α → D) [h : Pl f] {xs : List α} : opD .tuple [eL f xs] = some (eT f xs) := by
  show (if D.plains (xs.map f) then _ else _) = _; rw [pls_map]; rfl
theorem o_tupF (f : α → D) [h : Pl f] {xs : List α} : opD .tuple [eF f xs] = some (eT f xs) := by
  show (if D.plains (xs.map f) then _ else _) = _; rw [pls_map]; rfl
theorem o_tupT (f : α → D) [h : Pl f] {xs : List α} : opD .tuple [eT f xs] = some (eT f xs) := by
  show (if D.plains (xs.map f) then _ else _) = _; rw [pls_map]; rfl
theorem o_lstT (f : α → D) [h : Pl f] {xs : List α} : opD .list [eT f xs] = some (eL f xs) := by
  show (if D.plains (xs.map f) then _ else _) = _; rw [pls_map]; rfl
theorem o_lstL (f : α → D) [h : Pl f] {xs : List α} : opD .list [eL f xs] = some (eL f xs) := by
  show (if D.plains (xs.map f) then _ else _) = _; rw [pls_map]; rfl
theorem o_lstF (f : α → D) [h : Pl f] {xs : List α} : opD .list [eF f xs] = some (eL f xs) := by
  show (if D.plains (xs.map f) then _ else _) = _; rw [pls_map]; rfl
theorem o_revT (f : α → D) [h : Pl f] {xs : List α} : opD .rev [eT f xs] = some (eT f xs.reverse) := by
  show (if D.plains (xs.map f) then some (D.tup (xs.map f).reverse) else _) = _; rw [pls_map, ← List.map_reverse]; rfl
theorem o_revL (f : α → D) [h : Pl f] {xs : List α} : opD .rev [eL f xs] = some (eL f xs.reverse) := by
  show (if D.plains (xs.map f) then some (D.lst true (xs.map f).reverse) else _) = _; rw [pls_map, ← List.map_reverse]; rfl
theorem o_revF (f : α → D) [h : Pl f] {xs : List α} : opD .rev [eF f xs] = some (eL f xs.reverse) := by
  show (if D.plains (xs.map f) then some (D.lst true (xs.map f).reverse) else _) = _; rw [pls_map, ← List.map_reverse]; rfl
theorem ints_m (ns : List Int) : ints? (ns.map D.int) = some ns := by
  induction ns with
  | nil => rfl
  | cons n ns ih => show (ints? (ns.map D.int)).map _ = _; rw [ih]; rfl
theorem bls_m (ns : List Bool) : bls? (ns.map D.bl) = some ns := by
  induction ns with
  | nil => rfl
  | cons n ns ih => show (bls? (ns.map D.bl)).map _ = _; rw [ih]; rfl
theorem o_srtL {xs : List Int} : opD .sorted [eL D.int xs] = some (eL D.int (sortI xs)) := by
  show (match ints? (xs.map D.int) with
    | some ns => some (D.lst true ((sortI ns).map .int))
    | none => _) = _
  rw [ints_m]; rfl
theorem o_srtF {xs : List Int} : opD .sorted [eF D.int xs] = some (eL D.int (sortI xs)) := o_srtL
theorem o_srtT {xs : List Int} : opD .sorted [eT D.int xs] = some (eL D.int (sortI xs)) := by
  show (ints? (xs.map D.int)).map _ = _; rw [ints_m]; rfl
theorem prs_m (ps : List (Int × Int)) : prs? (ps.map (eP D.int D.int)) = some ps := by
  induction ps with
  | nil => rfl
  | cons p ps ih => show (prs? (ps.map (eP D.int D.int))).map _ = _; rw [ih]; rfl
theorem o_srtLP {ps : List (Int × Int)} : opD .sorted [eL (eP D.int D.int) ps] = some (eL (eP D.int D.int) (sortPs ps)) := by
  show (match ints? (ps.map (eP D.int D.int)) with
    | some ns => some (D.lst true ((sortI ns).map .int))
    | none => (prs? (ps.map (eP D.int D.int))).map fun ps => D.lst true ((sortPs ps).map fun (p : Int × Int) => D.tup [.int p.1, .int p.2])) = _
  cases ps with
  | nil =>
    show some (D.lst true ((sortI []).map D.int)) = some (eL (eP D.int D.int) (sortPs []))
    rw [show sortI [] = [] by unfold sortI; simp, show sortPs [] = [] by unfold sortPs; simp]; rfl
  | cons p ps => rw [prs_m]; rfl
theorem o_srtFP {ps : List (Int × Int)} : opD .sorted [eF (eP D.int D.int) ps] = some (eL (eP D.int D.int) (sortPs ps)) := o_srtLP
theorem o_sumL {xs : List Int} : opD .sum [eL D.int xs] = some (.int xs.sum) := by
  show (ints? (xs.map D.int)).map _ = _; rw [ints_m]; rfl
theorem o_sumF {xs : List Int} : opD .sum [eF D.int xs] = some (.int xs.sum) := by
  show (ints? (xs.map D.int)).map _ = _; rw [ints_m]; rfl
theorem o_allL {xs : List Bool} : opD .all [eL D.bl xs] = some (.bl (xs.all id)) := by
  show (bls? (xs.map D.bl)).map _ = _; rw [bls_m]; rfl
theorem o_anyL {xs : List Bool} : opD .any [eL D.bl xs] = some (.bl (xs.any id)) := by
  show (bls? (xs.map D.bl)).map _ = _; rw [bls_m]; rfl
theorem o_minL {xs : List Int} {m : Int} (h : minI xs = some m) : opD .min [eL D.int xs] = some (.int m) := by
  show (ints? (xs.map D.int)).bind _ = _; rw [ints_m]; show (minI xs).map _ = _; rw [h]; rfl
theorem o_maxL {xs : List Int} {m : Int} (h : maxI xs = some m) : opD .max [eL D.int xs] = some (.int m) := by
  show (ints? (xs.map D.int)).bind _ = _; rw [ints_m]; show (maxI xs).map _ = _; rw [h]; rfl
theorem o_minF {xs : List Int} {m : Int} (h : minI xs = some m) : opD .min [eF D.int xs] = some (.int m) := by
  show (ints? (xs.map D.int)).bind _ = _; rw [ints_m]; show (minI xs).map _ = _; rw [h]; rfl
theorem o_maxF {xs : List Int} {m : Int} (h : maxI xs = some m) : opD .max [eF D.int xs] = some (.int m) := by
  show (ints? (xs.map D.int)).bind _ = _; rw [ints_m]; show (maxI xs).map _ = _; rw [h]; rfl
/-! ranges -/
def rg (lo hi : Int) : List Int := (List.range (hi - lo).toNat).map fun (k : Nat) => lo + (k : Int)
theorem rg_D (lo hi : Int) : rngL lo hi = (rg lo hi).map D.int := by unfold rngL rg; rw [List.map_map]; rfl
theorem mem_rg {lo hi k : Int} : k ∈ rg lo hi ↔ lo ≤ k ∧ k < hi := by
  unfold rg
  rw [List.mem_map]
  constructor
  · rintro ⟨n, hn, rfl⟩
    rw [List.mem_range] at hn
    omega
  · rintro ⟨h1, h2⟩
    exact ⟨(k - lo).toNat, by rw [List.mem_range]; omega, by omega⟩
theorem rg_len (lo hi : Int) : (rg lo hi).length = (hi - lo).toNat := by unfold rg; simp
def rngG (lo hi : Int) : Option (List Int) := if (rngOk lo && rngOk hi) = true then some (rg lo hi) else none
theorem rngG_of {lo hi : Int} (h1 : -1000000000000 ≤ lo ∧ lo ≤ 1000000000000) (h2 : -1000000000000 ≤ hi ∧ hi ≤ 1000000000000) : rngG lo hi = some (rg lo hi) := by
  unfold rngG
  rw [if_pos]
  unfold rngOk
  rw [decide_eq_true (by omega), decide_eq_true (by omega), decide_eq_true (by omega), decide_eq_true (by omega)]; rfl
def rlG (j : Int) : Option (List Int) := if (rngOk j && szOk j.toNat) = true then some (rg 0 j) else none
theorem rlG_of {j : Int} (h : -1000000 ≤ j ∧ j ≤ 1000000) : rlG j = some (rg 0 j) := by
  unfold rlG
  rw [if_pos]
  unfold rngOk szOk
  have : sizeLine = 16777216 := rfl
  rw [decide_eq_true (by omega), decide_eq_true (by omega), decide_eq_true (by omega)]; rfl
theorem o_lrG {j : Int} {xs : List Int} (h : rlG j = some xs) : opD .lrange [.int j] = some (eL D.int xs) := by
  unfold rlG at h
  split at h
  · cases h
    show (if rngOk j && szOk j.toNat then some (D.lst true (rngL 0 j)) else none) = _
    rw [if_pos (by assumption), rg_D]; rfl
  · cases h
theorem o_trG {j : Int} {xs : List Int} (h : rlG j = some xs) : opD .trange [.int j] = some (eT D.int xs) := by
  unfold rlG at h
  split at h
  · cases h
    show (if rngOk j && szOk j.toNat then some (D.tup (rngL 0 j)) else none) = _
    rw [if_pos (by assumption), rg_D]; rfl
  · cases h
/-! + and * of rows -/
def catG (xs ys : List α) : Option (List α) := if xs.length + ys.length ≤ sizeLine then some (xs ++ ys) else none
theorem catG_of {xs ys : List α} (h : xs.length + ys.length ≤ 1000000) : catG xs ys = some (xs ++ ys) := if_pos (Nat.le_trans h (by decide))
theorem o_catT (f : α → D) [Pl f] {xs ys zs : List α} (h : catG xs ys = some zs) : opD (.bin .Add) [eT f xs, eT f ys] = some (eT f zs) := by
  unfold catG at h
  split at h
  · cases h
    show (if D.plains (xs.map f) && D.plains (ys.map f) && szOk ((xs.map f).length + (ys.map f).length) then some (D.tup (xs.map f ++ ys.map f)) else none) = _
    rw [pls_map, pls_map, List.length_map, List.length_map, ← List.map_append, if_pos (by show (true && szOk _) = true; unfold szOk; rw [decide_eq_true (by assumption)]; rfl)]; rfl
  · cases h
theorem o_catL0 (f : α → D) [Pl f] {a b : Bool} {xs ys zs : List α} (h : catG xs ys = some zs) : opD (.bin .Add) [.lst a (xs.map f), .lst b (ys.map f)] = some (eL f zs) := by
  unfold catG at h
  split at h
  · cases h
    show (if D.plains (xs.map f) && D.plains (ys.map f) && szOk ((xs.map f).length + (ys.map f).length) then some (D.lst true (xs.map f ++ ys.map f)) else none) = _
    rw [pls_map, pls_map, List.length_map, List.length_map, ← List.map_append, if_pos (by show (true && szOk _) = true; unfold szOk; rw [decide_eq_true (by assumption)]; rfl)]; rfl
  · cases h
theorem o_catL (f : α → D) [Pl f] {xs ys zs : List α} (h : catG xs ys = some zs) : opD (.bin .Add) [eL f xs, eL f ys] = some (eL f zs) := o_catL0 f h
def repG (xs : List α) (k : Int) : Option (List α) := if (decide (k < 2 ^ 62) && decide (-(2 ^ 62) ≤ k) && szOk (xs.length * k.toNat)) = true then some (List.replicate k.toNat xs).flatten else none
theorem repG_of {x : α} {k : Int} (h0 : -1000000 ≤ k) (h : k ≤ 1000000) : repG [x] k = some (List.replicate k.toNat x) := by
  unfold repG
  rw [if_pos]
  · congr 1
    generalize k.toNat = n
    induction n with
    | zero => rfl
    | succ n ih => rw [List.replicate_succ, List.replicate_succ, List.flatten_cons, ih]; rfl
  · unfold szOk
    have : sizeLine = 16777216 := rfl
    rw [decide_eq_true (by omega), decide_eq_true (by omega), decide_eq_true (by simp; omega)]; rfl
theorem flat_map (f : α → D) (xs : List α) (n : Nat) : (List.replicate n (xs.map f)).flatten = (List.replicate n xs).flatten.map f := by
  induction n with
  | zero => rfl
  | succ n ih => rw [List.replicate_succ, List.replicate_succ, List.flatten_cons, List.flatten_cons, ih, List.map_append]
theorem o_repL (f : α → D) [Pl f] {xs zs : List α} {k : Int} (h : repG xs k = some zs) : opD (.bin .Mult) [eL f xs, .int k] = some (eL f zs) := by
  unfold repG at h
  split at h
  · rename_i hc
    cases h
    show (if D.plains (xs.map f) && decide (k < 2 ^ 62) && decide (-(2 ^ 62) ≤ k) && szOk ((xs.map f).length * k.toNat) then some (D.lst true (List.replicate k.toNat (xs.map f)).flatten) else none) = _
    rw [pls_map, List.length_map, flat_map, Bool.true_and, if_pos hc]; rfl
  · cases h
/-! items -/
theorem at_map {f : α → D} {xs : List α} {i : Int} {x : α} (h : L2.atI xs i = some x) : L2.atI (xs.map f) i = some (f x) := by
  unfold L2.atI at h ⊢
  rw [List.length_map]
  obtain ⟨j, hj, h⟩ := bnd h
  rw [hj]
  show (xs.map f)[j]? = _
  rw [List.getElem?_map, h]; rfl
theorem s_T {f : α → D} {xs : List α} {i : Int} {x : α} (h : L2.atI xs i = some x) : subD (eT f xs) (.int i) = some (f x) := at_map h
theorem s_L {f : α → D} {xs : List α} {i : Int} {x : α} (h : L2.atI xs i = some x) : subD (eL f xs) (.int i) = some (f x) := at_map h
theorem s_F {f : α → D} {xs : List α} {i : Int} {x : α} (h : L2.atI xs i = some x) : subD (eF f xs) (.int i) = some (f x) := at_map h
def PV.at (v : PV) (i : Int) : Option PV := v.asQ.bind fun vs => L2.atI vs i
theorem s_V {v : PV} {i : Int} {x : PV} (h : v.at i = some x) : subD (PV.enc v) (.int i) = some (PV.enc x) := by
  obtain ⟨vs, h1, h⟩ := bnd h
  cases v <;> first | (cases h1; done) | (injection h1 with h1; subst h1; show L2.atI (PV.encs _) i = _; rw [encs_map]; exact at_map h)
theorem at_in {xs : List α} {i : Nat} (h : i < xs.length) : L2.atI xs (i : Int) = some xs[i] := L2.atI_nat (List.getElem?_eq_getElem h)
/-! parts of rows -/
def cutL (xs : List α) (lo hi : Option Int) : List α := (xs.drop (HT.sIx xs.length 0 lo)).take (HT.sIx xs.length xs.length hi - HT.sIx xs.length 0 lo)
theorem cut_map {f : α → D} {xs : List α} {l h : Option Int} : cutD (xs.map f) l h = (cutL xs l h).map f := by
  unfold cutD cutL
  rw [List.length_map, List.map_take, List.map_drop]
theorem k_T (f : α → D) [Pl f] {xs : List α} {l h : Option Int} : cutO (eT f xs) l h = some (eT f (cutL xs l h)) := by
  show (if D.plains (xs.map f) then some (D.tup (cutD (xs.map f) l h)) else none) = _
  rw [pls_map, cut_map]; rfl
theorem k_L (f : α → D) [Pl f] {xs : List α} {l h : Option Int} : cutO (eL f xs) l h = some (eL f (cutL xs l h)) := by
  show (if D.plains (xs.map f) then some (D.lst true (cutD (xs.map f) l h)) else none) = _
  rw [pls_map, cut_map]; rfl
theorem k_F (f : α → D) [Pl f] {xs : List α} {l h : Option Int} : cutO (eF f xs) l h = some (eL f (cutL xs l h)) := by
  show (if D.plains (xs.map f) then some (D.lst true (cutD (xs.map f) l h)) else none) = _
  rw [pls_map, cut_map]; rfl
/-! stores -/
def setG (xs : List α) (i : Int) (x : α) : Option (List α) := (L2.ixN xs.length i).bind fun j => some (xs.set j x)
theorem setG_of {xs : List α} {i : Nat} {x : α} (h : i < xs.length) : setG xs (i : Int) x = some (xs.set i x) := by
  unfold setG L2.ixN
  rw [if_pos (by omega), if_pos (by omega)]
  show some (xs.set (i : Int).toNat x) = _
  rw [Int.toNat_natCast]
theorem set_L {f : α → D} {xs ys : List α} {i : Int} {x : α} (h : setG xs i x = some ys) : setD (eL f xs) (.int i) (f x) = some (eL f ys) := by
  obtain ⟨j, h1, h⟩ := bnd h
  cases h
  show ((L2.ixN (xs.map f).length i).map fun j => D.lst true ((xs.map f).set j (f x))) = _
  rw [List.length_map, h1]
  show some (D.lst true ((xs.map f).set j (f x))) = _
  rw [← List.map_set]; rfl
def appG (xs : List α) (x : α) : Option (List α) := if xs.length < sizeLine then some (xs ++ [x]) else none
theorem appG_of {xs : List α} {x : α} (h : xs.length ≤ 1000000) : appG xs x = some (xs ++ [x]) := if_pos (Nat.lt_of_le_of_lt h (by decide))
theorem app_L {f : α → D} {xs ys : List α} {x : α} (h : appG xs x = some ys) : appD (f x) (eL f xs) = some (eL f ys) := by
  unfold appG at h
  split at h
  · cases h
    show (if (xs.map f).length < sizeLine then some (D.lst true (xs.map f ++ [f x])) else none) = _
    rw [List.length_map, if_pos (by assumption), eL, List.map_append]; rfl
  · cases h
theorem ext_L {f : α → D} [Pl f] {o : Bool} {xs ys zs : List α} (h : catG xs ys = some zs) : extD (.lst o (ys.map f)) (eL f xs) = some (eL f zs) := by
  unfold catG at h
  split at h
  · cases h
    show (if D.plains (ys.map f) && szOk ((xs.map f).length + (ys.map f).length) then some (D.lst true (xs.map f ++ ys.map f)) else none) = _
    rw [pls_map, List.length_map, List.length_map, if_pos (by show (true && szOk _) = true; unfold szOk; rw [decide_eq_true (by assumption)]; rfl), eL, List.map_append]
  · cases h
theorem rem_L {xs ys : List Int} {x : Int} (h : remL x xs = some ys) : remD (.int x) (eL D.int xs) = some (eL D.int ys) := by
  show ((ints? (xs.map D.int)).bind fun ns => (remL x ns).map fun l => D.lst true (l.map .int)) = _
  rw [ints_m]
  show (remL x xs).map _ = _
  rw [h]; rfl
theorem up0 (f : D → Option D) (d : D) : updD f d [] = f d := by cases d <;> rfl
/-! sets of ints -/
def setLenG (xs : List Int) : Option Int := if xs.length ≤ 3000 then some ((dedup xs).length : Int) else none
theorem setLenG_of {xs : List Int} (h : xs.length ≤ 3000) : setLenG xs = some ((dedup xs).length : Int) := if_pos h
def setSrtG (xs : List Int) : Option (List Int) := if xs.length ≤ 3000 then (if (dedup xs).length < 64 then some (sortI (dedup xs)) else none) else none
theorem setSrtG_of {xs : List Int} (h : xs.length < 64) : setSrtG xs = some (sortI (dedup xs)) := by
  unfold setSrtG
  have hle : (dedup xs).length ≤ xs.length := nd_len _ _ dedup_nd fun x hx => dedup_mem.mp hx
  rw [if_pos (by omega), if_pos (by omega)]
theorem o_slT {xs : List Int} {n : Int} (h : setLenG xs = some n) : opD .setLen [eT D.int xs] = some (.int n) := by
  unfold setLenG at h
  split at h
  · cases h
    show ((ints? (xs.map D.int)).bind fun ns => if ns.length ≤ 3000 then some (D.int (dedup ns).length) else none) = _
    rw [ints_m, Option.bind_some, if_pos (by assumption)]
  · cases h
theorem o_slL {xs : List Int} {n : Int} (h : setLenG xs = some n) : opD .setLen [eL D.int xs] = some (.int n) := o_slT h
theorem o_slF {xs : List Int} {n : Int} (h : setLenG xs = some n) : opD .setLen [eF D.int xs] = some (.int n) := o_slT h
theorem o_ssT {xs ys : List Int} (h : setSrtG xs = some ys) : opD .setSorted [eT D.int xs] = some (eL D.int ys) := by
  unfold setSrtG at h
  split at h
  · split at h
    · cases h
      show ((ints? (xs.map D.int)).bind fun ns => if ns.length ≤ 3000 then (if (dedup ns).length < 64 then some (D.lst true ((sortI (dedup ns)).map .int)) else none) else none) = _
      rw [ints_m, Option.bind_some, if_pos (by assumption), if_pos (by assumption)]; rfl
    · cases h
  · cases h
end
end TL
end

section
/-! TL4: statements, loops, defs: the goal goes with the rest of a block. -/
namespace TL
open DL
open PySem (Str Operator CmpOp sizeLine PyData)
section
variable {α β γ δ σ ρ : Type} {P : Ctx} {env env1 env2 env3 : EnvD} {G : Option (Fl × EnvD) → Prop}
theorem s_asg {t : Tg} {e : E} {d : D} (h : AX P false env e (.tmp d) env1) (hb : bindT t d env1 = some env2) : SX P env (.asg t e) .nx env2 := by
  show (((evA P false e env).bind fun x => mat false x.1 x.2).bind _) = _
  rw [h]
  show ((bindT t d env1).map _) = _
  rw [hb]; rfl
theorem s_par {is : List Nat} {es : List E} {ds : List D} (h : MX P false env es ds env1) (hb : bindN is ds env1 = some env2) : SX P env (.par is es) .nx env2 := by
  show ((evMs P false es env).bind _) = _
  rw [h]
  show ((bindN is ds env1).map _) = _
  rw [hb]; rfl
theorem s_rtv {e : E} {d : D} (h : AX P false env e (.tmp d) env1) : SX P env (.ret e) (.rt d) env1 := by
  show (((evA P false e env).bind fun x => mat false x.1 x.2).map _) = _
  rw [h]; rfl
theorem s_retN : SX P env .retN (.rt .non) env := rfl
theorem s_ex {e : E} {a : A} (h : AX P false env e a env1) : SX P env (.ex e) .nx env1 := by
  show ((evA P false e env).map _) = _
  rw [h]; rfl
theorem s_pass : SX P env .pass .nx env := rfl
theorem s_aug {i : Nat} {o : Operator} {e : E} {x d r : D} {a : A} (g : getE env i = some x) (h : AX P false env e a env1) (g2 : a.get env1 = some d) (ho : augD o x d = some r) (hi : decide (i < env.length) = true) (he : env1.set i (some r) = env2) : SX P env (.aug i o e) .nx env2 := by
  show ((getE env i).bind _) = _
  rw [g]
  show ((evA P false e env).bind _) = _
  rw [h]
  show ((a.get env1).bind _) = _
  rw [g2]
  show ((augD o x d).bind _) = _
  rw [ho]
  show (if i < env.length then some (Fl.nx, env1.set i (some r)) else none) = _
  rw [if_pos (of_decide_eq_true hi), he]
theorem s_sto {i : Nat} {k e : E} {d kd c c' : D} (h : AX P false env e (.tmp d) env1) (hk : AX P true env1 k (.tmp kd) env2) (g1 : getE env1 i = some c) (g : getE env2 i = some c) (hs : setD c kd d = some c') (he : env2.set i (some c') = env3) : SX P env (.sto i [] k e) .nx env3 := by
  show (((evA P false e env).bind fun x => mat false x.1 x.2).bind _) = _
  rw [h]
  show ((getE env1 i).bind _) = _
  rw [g1]
  show (((evA P true k env1).bind _).bind _) = _
  rw [hk]
  show (((getE env2 i).bind fun d' => (updD (fun c => setD c kd d) d' []).map _).map _) = _
  rw [g]
  show (((updD (fun c => setD c kd d) c []).map _).map _) = _
  rw [up0, hs, ← he]; rfl
theorem s_augS {i : Nat} {k e : E} {o : Operator} {a : A} {d kd c c' old new : D} (g : getE env i = some c) (hk : AX P true env k (.tmp kd) env) (ho : subD c kd = some old) (h : AX P true env e a env) (g2 : a.get env = some d) (hn : augD o old d = some new) (hs : setD c kd new = some c') (he : env.set i (some c') = env3) : SX P env (.augS i [] k o e) .nx env3 := by
  show ((getE env i).bind _) = _
  rw [g]
  show (((evA P true k env).bind _).bind _) = _
  rw [hk]
  show ((getE env i).bind _) = _
  rw [g]
  show ((getP c [kd]).bind _) = _
  rw [getP1, ho]
  show ((evA P true e env).bind _) = _
  rw [h]
  show ((a.get env).bind _) = _
  rw [g2]
  show ((augD o old d).bind _) = _
  rw [hn]
  show (((getE env i).bind fun d' => (updD (fun c => setD c kd new) d' []).map _).map _) = _
  rw [g]
  show (((updD (fun c => setD c kd new) c []).map _).map _) = _
  rw [up0, hs, ← he]; rfl
theorem s_app {i : Nat} {e : E} {o : Bool} {ds : List D} {x c c' : D} (g : getE env i = some (.lst o ds)) (h : AX P false env e (.tmp x) env1) (g1 : getE env1 i = some c) (ha : appD x c = some c') (he : env1.set i (some c') = env2) : SX P env (.app i [] e) .nx env2 := by
  show (((getE env i).bind D.lst?).bind _) = _
  rw [g]
  show (((evA P false e env).bind fun x => mat false x.1 x.2).bind _) = _
  rw [h]
  show (((getE env1 i).bind fun d' => (updD (appD x) d' []).map _).map _) = _
  rw [g1]
  show (((updD (appD x) c []).map _).map _) = _
  rw [up0, ha, ← he]; rfl
theorem s_ext {i : Nat} {e : E} {o : Bool} {ds : List D} {a : A} {x c c' : D} (g : getE env i = some (.lst o ds)) (h : AX P false env e a env1) (g2 : a.get env1 = some x) (g1 : getE env1 i = some c) (ha : extD x c = some c') (he : env1.set i (some c') = env2) : SX P env (.ext i [] e) .nx env2 := by
  show (((getE env i).bind D.lst?).bind _) = _
  rw [g]
  show ((evA P false e env).bind _) = _
  rw [h]
  show ((a.get env1).bind _) = _
  rw [g2]
  show (((getE env1 i).bind fun d' => (updD (extD x) d' []).map _).map _) = _
  rw [g1]
  show (((updD (extD x) c []).map _).map _) = _
  rw [up0, ha, ← he]; rfl
theorem s_rem {i : Nat} {e : E} {o : Bool} {ds : List D} {a : A} {x c c' : D} (g : getE env i = some (.lst o ds)) (h : AX P false env e a env1) (g2 : a.get env1 = some x) (g1 : getE env1 i = some c) (ha : remD x c = some c') (he : env1.set i (some c') = env2) : SX P env (.rem i [] e) .nx env2 := by
  show (((getE env i).bind D.lst?).bind _) = _
  rw [g]
  show ((evA P false e env).bind _) = _
  rw [h]
  show ((a.get env1).bind _) = _
  rw [g2]
  show (((getE env1 i).bind fun d' => (updD (remD x) d' []).map _).map _) = _
  rw [g1]
  show (((updD (remD x) c []).map _).map _) = _
  rw [up0, ha, ← he]; rfl
theorem evSs_app : ∀ (a r : List S) (env : EnvD), evSs P (a ++ r) env = (evSs P a env).bind fun x => match x.1 with
    | .nx => evSs P r x.2
    | f => some (f, x.2)
  | [], r, env => by
    show evSs P r env = (evSs P [] env).bind _
    rw [evSs]; rfl
  | s :: a, r, env => by
    rw [List.cons_append, evSs, evSs]
    cases evS P s env with
    | none => rfl
    | some x =>
      obtain ⟨fl, e⟩ := x
      cases fl with
      | nx => exact evSs_app a r e
      | bk => rfl
      | ct => rfl
      | rt d => rfl
theorem ite_app {c : T} {a b r : List S} {t : Bool} (h : TX P false env c t env1) : evSs P (.ite c a b :: r) env = evSs P ((if t = true then a else b) ++ r) env1 := by
  rw [evSs, evS, h, evSs_app]
  cases t <;> rfl
/-! the rest of a block -/
theorem g_nx {s : S} {r : List S} {e : EnvD} (h : SX P env s .nx e) (k : G (evSs P r e)) : G (evSs P (s :: r) env) := by rw [ss_nx h]; exact k
theorem g_rt {s : S} {r : List S} {d : D} {e : EnvD} (h : SX P env s (.rt d) e) (k : G (some (.rt d, e))) : G (evSs P (s :: r) env) := by rw [ss_rt h]; exact k
theorem g_bk {r : List S} (k : G (some (.bk, env))) : G (evSs P (.brk :: r) env) := by
  have : evSs P (.brk :: r) env = some (.bk, env) := by rw [evSs, evS]; rfl
  rw [this]; exact k
theorem g_ct {r : List S} (k : G (some (.ct, env))) : G (evSs P (.cnt :: r) env) := by
  have : evSs P (.cnt :: r) env = some (.ct, env) := by rw [evSs, evS]; rfl
  rw [this]; exact k
theorem g_end (k : G (some (.nx, env))) : G (evSs P [] env) := by
  have : evSs P [] env = some (.nx, env) := by rw [evSs]
  rw [this]; exact k
theorem g_iteT {c : T} {a b r : List S} {t : Bool} (h : TX P false env c t env1) (ht : t = true) (k : G (evSs P (a ++ r) env1)) : G (evSs P (.ite c a b :: r) env) := by
  rw [ite_app h, ht]; exact k
theorem g_iteF {c : T} {a b r : List S} {t : Bool} (h : TX P false env c t env1) (ht : t = false) (k : G (evSs P (b ++ r) env1)) : G (evSs P (.ite c a b :: r) env) := by
  rw [ite_app h, ht]; exact k
/-- both ways of an if come to one -/
theorem g_join {c : T} {a b r : List S} {t : Bool} {e : EnvD} (h : TX P false env c t env1) (ha : t = true → (fun o => o = some (Fl.nx, e)) (evSs P a env1)) (hb : t = false → (fun o => o = some (Fl.nx, e)) (evSs P b env1)) (k : G (evSs P r e)) : G (evSs P (.ite c a b :: r) env) := by
  rw [ite_app h, evSs_app]
  cases t
  · have := hb rfl
    simp only [] at this
    rw [if_neg (by decide), this]; exact k
  · have := ha rfl
    simp only [] at this
    rw [if_pos rfl, this]; exact k
def NxE (e : EnvD) (o : Option (Fl × EnvD)) : Prop := o = some (.nx, e)
theorem g_joinE {c : T} {a b r : List S} {t : Bool} {e : EnvD} (h : TX P false env c t env1) (ha : t = true → NxE e (evSs P a env1)) (hb : t = false → NxE e (evSs P b env1)) (k : G (evSs P r e)) : G (evSs P (.ite c a b :: r) env) := g_join h ha hb k
/-- .. but for slots that are dead behind it -/
def NxI (I : EnvD → Prop) (o : Option (Fl × EnvD)) : Prop := ∃ e, o = some (.nx, e) ∧ I e
theorem g_joinI {c : T} {a b r : List S} {t : Bool} {I : EnvD → Prop} (h : TX P false env c t env1) (ha : t = true → NxI I (evSs P a env1)) (hb : t = false → NxI I (evSs P b env1)) (k : ∀ e, I e → G (evSs P r e)) : G (evSs P (.ite c a b :: r) env) := by
  rw [ite_app h, evSs_app]
  cases t
  · obtain ⟨e, h1, h2⟩ := hb rfl
    rw [if_neg (by decide), h1]; exact k e h2
  · obtain ⟨e, h1, h2⟩ := ha rfl
    rw [if_pos rfl, h1]; exact k e h2
theorem g_bind {t : Tg} {d : D} {b : List S} {e1 : EnvD} (hb : bindT t d env = some e1) (k : G (evSs P b e1)) : G ((bindT t d env).bind (evSs P b)) := by rw [hb]; exact k
/-! what is walked -/
def ForOk (P : Ctx) (env : EnvD) (k : SrcK) (src : List E) (its : List D) (env2 : EnvD) (lent : Option (Nat × D)) : Prop :=
  ∃ as env1 m, evAs P false src env = some (as, env1) ∧ forC k as env1 = some ⟨its, m, env2, lent⟩
theorem fo_rng1 {src : List E} {n : Int} {xs : List Int} (h : QX P false env src [.tmp (.int n)] env1) (hr : rngG 0 n = some xs) : ForOk P env .rng src (xs.map D.int) env1 none := by
  refine ⟨_, _, false, h, ?_⟩
  unfold rngG at hr
  split at hr
  · rename_i hc
    cases hr
    rw [Bool.and_eq_true] at hc
    show (Option.map _ (if rngOk n then some (rngL 0 n) else none)) = _
    rw [hc.2, rg_D]; rfl
  · cases hr
theorem fo_rng2 {src : List E} {l n : Int} {xs : List Int} (h : QX P false env src [.tmp (.int l), .tmp (.int n)] env1) (hr : rngG l n = some xs) : ForOk P env .rng src (xs.map D.int) env1 none := by
  refine ⟨_, _, false, h, ?_⟩
  unfold rngG at hr
  split at hr
  · rename_i hc
    cases hr
    show (Option.map _ (if rngOk l && rngOk n then some (rngL l n) else none)) = _
    rw [hc, rg_D]; rfl
  · cases hr
theorem fo_it {lend : Bool} {src : List E} {d : D} {f : α → D} [Pl f] {xs : List α} (h : QX P false env src [.tmp d] env1) (hi : d.items = some (xs.map f)) : ForOk P env (.it lend) src (xs.map f) env1 none := by
  refine ⟨_, _, false, h, ?_⟩
  show ((D.items d).bind fun its => if D.plains its then _ else none) = _
  rw [hi]
  show (if D.plains (xs.map f) then _ else none) = _
  rw [pls_map]; rfl
theorem fo_lend {i : Nat} {d : D} {src : List E} {f : α → D} [Pl f] {xs : List α} (h : QX P false env src [.ref i] env1) (g : getE env1 i = some d) (hi : d.items = some (xs.map f)) (he : env1.set i none = env2) : ForOk P env (.it true) src (xs.map f) env2 (some (i, d)) := by
  refine ⟨_, _, false, h, ?_⟩
  show ((getE env1 i).bind _) = _
  rw [g]
  show ((D.items d).bind fun its => if D.plains its then _ else none) = _
  rw [hi]
  show (if D.plains (xs.map f) then _ else none) = _
  rw [pls_map, ← he]; rfl
theorem fo_frz {i : Nat} {d d' : D} {src : List E} {f : α → D} {its : List D} {xs : List α} (h : QX P false env src [.ref i] env1) (g : getE env1 i = some d) (hi : d.items = some its) (hz : D.freezes its = xs.map f) (hd : d.freeze = d') (he : env1.set i (some d') = env2) : ForOk P env (.it false) src (xs.map f) env2 none := by
  refine ⟨_, _, false, h, ?_⟩
  show ((getE env1 i).bind _) = _
  rw [g]
  show ((D.items d).bind _) = _
  rw [hi, ← hz, ← he, ← hd]; rfl
theorem fo_zip {src : List E} {f : α → D} {g : β → D} [Pl f] [Pl g] {xs : List α} {ys : List β} (h : QX P false env src [.tmp (eT f xs), .tmp (eT g ys)] env1) : ForOk P env .zip src ((xs.zip ys).map (eP f g)) env1 none := by
  refine ⟨_, _, false, h, ?_⟩
  show (Option.map _ (if D.plains (xs.map f) && D.plains (ys.map g) then some (((xs.map f).zip (ys.map g)).map fun p => D.tup [p.1, p.2]) else none)) = _
  rw [pls_map, pls_map, List.zip_map, List.map_map]; rfl
theorem so_rng1 {m : Bool} {src : List E} {n : Int} {xs : List Int} (h : QX P m env src [.tmp (.int n)] env1) (hr : rngG 0 n = some xs) : SrcOk P m env .rng src (xs.map D.int) m env1 env1 none := by
  refine ⟨_, h, ?_⟩
  unfold rngG at hr
  split at hr
  · rename_i hc
    cases hr
    rw [Bool.and_eq_true] at hc
    show (Option.map _ (if rngOk n then some (rngL 0 n) else none)) = _
    rw [hc.2, rg_D]; rfl
  · cases hr
theorem so_rng2 {m : Bool} {src : List E} {l n : Int} {xs : List Int} (h : QX P m env src [.tmp (.int l), .tmp (.int n)] env1) (hr : rngG l n = some xs) : SrcOk P m env .rng src (xs.map D.int) m env1 env1 none := by
  refine ⟨_, h, ?_⟩
  unfold rngG at hr
  split at hr
  · rename_i hc
    cases hr
    show (Option.map _ (if rngOk l && rngOk n then some (rngL l n) else none)) = _
    rw [hc, rg_D]; rfl
  · cases hr
theorem so_it {m lend : Bool} {src : List E} {d : D} {f : α → D} [Pl f] {xs : List α} (h : QX P m env src [.tmp d] env1) (hi : d.items = some (xs.map f)) : SrcOk P m env (.it lend) src (xs.map f) m env1 env1 none := by
  refine ⟨_, h, ?_⟩
  show ((D.items d).bind fun its => if D.plains its then srcI lend m (.tmp d) env1 d its else none) = _
  rw [hi]
  show (if D.plains (xs.map f) then _ else none) = _
  rw [pls_map]
  cases lend <;> cases m <;> rfl
theorem so_lend {i : Nat} {d : D} {src : List E} {f : α → D} [Pl f] {xs : List α} (h : QX P false env src [.ref i] env1) (g : getE env1 i = some d) (hi : d.items = some (xs.map f)) (he : env1.set i none = env2) : SrcOk P false env (.it true) src (xs.map f) false env1 env2 (some (i, d)) := by
  refine ⟨_, h, ?_⟩
  show ((getE env1 i).bind _) = _
  rw [g]
  show ((D.items d).bind fun its => if D.plains its then srcI true false (.ref i) env1 d its else none) = _
  rw [hi]
  show (if D.plains (xs.map f) then _ else none) = _
  rw [pls_map, ← he]; rfl
/-- over a list that is not lent: what is reckoned for an item changes nothing -/
theorem so_ref {m : Bool} {i : Nat} {d : D} {src : List E} {f : α → D} [Pl f] {xs : List α} (h : QX P m env src [.ref i] env1) (g : getE env1 i = some d) (hi : d.items = some (xs.map f)) : SrcOk P m env (.it false) src (xs.map f) true env1 env1 none := by
  refine ⟨_, h, ?_⟩
  show ((getE env1 i).bind _) = _
  rw [g]
  show ((D.items d).bind fun its => if D.plains its then srcI false m (.ref i) env1 d its else none) = _
  rw [hi]
  show (if D.plains (xs.map f) then _ else none) = _
  rw [pls_map]
  cases m <;> rfl
theorem it_T {f : α → D} {xs : List α} : (eT f xs).items = some (xs.map f) := rfl
theorem it_L {f : α → D} {xs : List α} : (eL f xs).items = some (xs.map f) := rfl
theorem it_F {f : α → D} {xs : List α} : (eF f xs).items = some (xs.map f) := rfl
/-! for -/
inductive Ct (ρ σ : Type) where
  | nx (s : σ)
  | bk (s : σ)
  | rt (r : ρ)
def foldO (step : α → σ → Option σ) : List α → σ → Option σ
  | [], s => some s
  | x :: xs, s => (step x s).bind fun s => foldO step xs s
def loopO (step : α → σ → Option (Ct ρ σ)) : List α → σ → Option (ρ ⊕ σ)
  | [], s => some (.inr s)
  | x :: xs, s => (step x s).bind fun c => match c with
    | .nx s => loopO step xs s
    | .bk s => some (.inr s)
    | .rt r => some (.inl r)
def NXG (I : σ → EnvD → Prop) (s : σ) (o : Option (Fl × EnvD)) : Prop := ∃ fl e, o = some (fl, e) ∧ (fl = .nx ∨ fl = .ct) ∧ I s e
def CTG (I : σ → EnvD → Prop) (R : ρ → D → EnvD → Prop) (c : Ct ρ σ) (o : Option (Fl × EnvD)) : Prop := match c with
  | .nx s => NXG I s o
  | .bk s => ∃ e, o = some (.bk, e) ∧ I s e
  | .rt r => ∃ d e, o = some (.rt d, e) ∧ R r d e
theorem fold_sim {stepD : D → EnvD → Option (Fl × EnvD)} {f : α → D} {I : σ → EnvD → Prop} {step : α → σ → Option σ} (hs : ∀ x s s' e, I s e → step x s = some s' → NXG I s' (stepD (f x) e)) :
    ∀ xs s s' e, I s e → foldO step xs s = some s' → ∃ e', loopF stepD (xs.map f) e = some (.nx, e') ∧ I s' e'
  | [], s, s', e, h, hF => by cases hF; exact ⟨e, rfl, h⟩
  | x :: xs, s, s', e, h, hF => by
    obtain ⟨s1, h1, hF⟩ := bnd hF
    obtain ⟨fl, e1, h2, h3, h4⟩ := hs x s s1 e h h1
    obtain ⟨e2, h5, h6⟩ := fold_sim hs xs s1 s' e1 h4 hF
    refine ⟨e2, ?_, h6⟩
    show (stepD (f x) e).bind _ = _
    rw [h2]
    rcases h3 with rfl | rfl <;> exact h5
theorem g_forF {tg : Tg} {k : SrcK} {src : List E} {b r : List S} {f : α → D} {xs : List α} {step : α → σ → Option σ} {s0 s' : σ} {lent : Option (Nat × D)} (I : σ → EnvD → Prop) (h1 : ForOk P env k src (xs.map f) env2 lent) (h0 : I s0 env2) (hF : foldO step xs s0 = some s')
    (hs : ∀ x s s' e, I s e → step x s = some s' → NXG I s' ((bindT tg (f x) e).bind (evSs P b))) (hk : ∀ e, I s' e → G (evSs P r (unlend lent e))) : G (evSs P (.for_ tg k src b :: r) env) := by
  obtain ⟨as, env1, m, h1, h2⟩ := h1
  obtain ⟨e', h3, h4⟩ := fold_sim (stepD := fun d e => (bindT tg d e).bind (evSs P b)) hs xs s0 s' env2 h0 hF
  exact g_nx (s_for h1 h2 h3) (hk e' h4)
theorem loop_sim {stepD : D → EnvD → Option (Fl × EnvD)} {f : α → D} {I : σ → EnvD → Prop} {R : ρ → D → EnvD → Prop} {step : α → σ → Option (Ct ρ σ)} (hs : ∀ x s c e, I s e → step x s = some c → CTG I R c (stepD (f x) e)) :
    ∀ xs s z e, I s e → loopO step xs s = some z → (∃ s' e', z = .inr s' ∧ loopF stepD (xs.map f) e = some (.nx, e') ∧ I s' e') ∨ (∃ r d e', z = .inl r ∧ loopF stepD (xs.map f) e = some (.rt d, e') ∧ R r d e')
  | [], s, z, e, h, hF => by cases hF; exact .inl ⟨s, e, rfl, rfl, h⟩
  | x :: xs, s, z, e, h, hF => by
    obtain ⟨c, h1, hF⟩ := bnd hF
    have h2 := hs x s c e h h1
    cases c with
    | nx s1 =>
      obtain ⟨fl, e1, h2, h3, h4⟩ := h2
      have key : loopF stepD ((x :: xs).map f) e = loopF stepD (xs.map f) e1 := by
        show (stepD (f x) e).bind _ = _
        rw [h2]
        rcases h3 with rfl | rfl <;> rfl
      rw [key]
      exact loop_sim hs xs s1 z e1 h4 hF
    | bk s1 =>
      obtain ⟨e1, h2, h4⟩ := h2
      cases hF
      refine .inl ⟨s1, e1, rfl, ?_, h4⟩
      show (stepD (f x) e).bind _ = _
      rw [h2]; rfl
    | rt r =>
      obtain ⟨d, e1, h2, h4⟩ := h2
      cases hF
      refine .inr ⟨r, d, e1, rfl, ?_, h4⟩
      show (stepD (f x) e).bind _ = _
      rw [h2]; rfl
theorem g_forC {tg : Tg} {k : SrcK} {src : List E} {b r : List S} {f : α → D} {xs : List α} {step : α → σ → Option (Ct ρ σ)} {s0 : σ} {z : ρ ⊕ σ} {lent : Option (Nat × D)} (I : σ → EnvD → Prop) (R : ρ → D → EnvD → Prop) (h1 : ForOk P env k src (xs.map f) env2 lent) (h0 : I s0 env2) (hF : loopO step xs s0 = some z)
    (hs : ∀ x s c e, I s e → step x s = some c → CTG I R c ((bindT tg (f x) e).bind (evSs P b))) (hk : ∀ s' e, z = .inr s' → I s' e → G (evSs P r (unlend lent e))) (hr : ∀ q d e, z = .inl q → R q d e → G (some (.rt d, unlend lent e))) : G (evSs P (.for_ tg k src b :: r) env) := by
  obtain ⟨as, env1, m, h1, h2⟩ := h1
  rcases loop_sim (stepD := fun d e => (bindT tg d e).bind (evSs P b)) hs xs s0 z env2 h0 hF with ⟨s', e', hz, h3, h4⟩ | ⟨q, d, e', hz, h3, h4⟩
  · exact g_nx (s_for h1 h2 h3) (hk s' e' hz h4)
  · exact g_rt (s_for h1 h2 h3) (hr q d e' hz h4)
/-! while -/
def whileS (c : σ → Option Bool) (b : σ → Option σ) (s : σ) : Option σ :=
  match c s with
  | none => none
  | some false => some s
  | some true => match b s with
    | none => none
    | some s' => whileS c b s'
partial_fixpoint
def whileO (c : σ → Option Bool) (b : σ → Option (Ct ρ σ)) (s : σ) : Option (ρ ⊕ σ) :=
  match c s with
  | none => none
  | some false => some (.inr s)
  | some true => match b s with
    | none => none
    | some (.nx s') => whileO c b s'
    | some (.bk s') => some (.inr s')
    | some (.rt r) => some (.inl r)
partial_fixpoint
theorem whileS_sim {cD : EnvD → Option (Bool × EnvD)} {bD : EnvD → Option (Fl × EnvD)} {I : σ → EnvD → Prop} {c : σ → Option Bool} {b : σ → Option σ} (hc : ∀ s t e, I s e → c s = some t → cD e = some (t, e)) (hb : ∀ s s' e, I s e → c s = some true → b s = some s' → NXG I s' (bD e)) (s s' : σ) (h : whileS c b s = some s') : ∀ e, I s e → ∃ e', whileF cD bD e = some (.nx, e') ∧ I s' e' := by
  revert h
  refine whileS.partial_correctness c b (fun s s' => ∀ e, I s e → ∃ e', whileF cD bD e = some (.nx, e') ∧ I s' e') ?_ s s'
  intro W ih s s' h e hI
  split at h
  · cases h
  · rename_i hcs
    cases h
    exact ⟨e, while_stop (hc s false e hI hcs), hI⟩
  · rename_i hcs
    split at h
    · cases h
    · rename_i s1 hbs
      obtain ⟨fl, e1, h2, h3, h4⟩ := hb s s1 e hI hcs hbs
      obtain ⟨e2, h5, h6⟩ := ih s1 s' h e1 h4
      refine ⟨e2, ?_, h6⟩
      rw [whileF, hc s true e hI hcs]
      simp only [h2]
      rcases h3 with rfl | rfl <;> exact h5
theorem g_whlS {c : T} {b r : List S} {cS : σ → Option Bool} {bS : σ → Option σ} {s0 s' : σ} (I : σ → EnvD → Prop) (h0 : I s0 env) (hW : whileS cS bS s0 = some s') (hc : ∀ s t e, I s e → cS s = some t → TX P false e c t e) (hb : ∀ s s' e, I s e → cS s = some true → bS s = some s' → NXG I s' (evSs P b e)) (hk : ∀ e, I s' e → G (evSs P r e)) : G (evSs P (.whl c b :: r) env) := by
  obtain ⟨e', h3, h4⟩ := whileS_sim (cD := evT P false c) (bD := evSs P b) hc hb s0 s' hW env h0
  exact g_nx (by show evS P (.whl c b) env = _; rw [evS]; exact h3) (hk e' h4)
theorem whileO_sim {cD : EnvD → Option (Bool × EnvD)} {bD : EnvD → Option (Fl × EnvD)} {I : σ → EnvD → Prop} {R : ρ → D → EnvD → Prop} {c : σ → Option Bool} {b : σ → Option (Ct ρ σ)} (hc : ∀ s t e, I s e → c s = some t → cD e = some (t, e)) (hb : ∀ s s' e, I s e → c s = some true → b s = some s' → CTG I R s' (bD e)) (s : σ) (z : ρ ⊕ σ) (h : whileO c b s = some z) : ∀ e, I s e → (∃ s' e', z = .inr s' ∧ whileF cD bD e = some (.nx, e') ∧ I s' e') ∨ (∃ r d e', z = .inl r ∧ whileF cD bD e = some (.rt d, e') ∧ R r d e') := by
  revert h
  refine whileO.partial_correctness c b (fun s z => ∀ e, I s e → (∃ s' e', z = .inr s' ∧ whileF cD bD e = some (.nx, e') ∧ I s' e') ∨ (∃ r d e', z = .inl r ∧ whileF cD bD e = some (.rt d, e') ∧ R r d e')) ?_ s z
  intro W ih s z h e hI
  split at h
  · cases h
  · rename_i hcs
    cases h
    exact .inl ⟨s, e, rfl, while_stop (hc s false e hI hcs), hI⟩
  · rename_i hcs
    have hcc := hc s true e hI hcs
    split at h
    · cases h
    · rename_i s1 hbs
      obtain ⟨fl, e1, h2, h3, h4⟩ := hb s _ e hI hcs hbs
      have key : whileF cD bD e = whileF cD bD e1 := by
        rw [whileF, hcc]
        simp only [h2]
        rcases h3 with rfl | rfl <;> rfl
      rw [key]
      exact ih s1 z h e1 h4
    · rename_i s1 hbs
      obtain ⟨e1, h2, h4⟩ := hb s _ e hI hcs hbs
      cases h
      refine .inl ⟨s1, e1, rfl, ?_, h4⟩
      rw [whileF, hcc]
      simp only [h2]
    · rename_i q hbs
      obtain ⟨d, e1, h2, h4⟩ := hb s _ e hI hcs hbs
      cases h
      refine .inr ⟨q, d, e1, rfl, ?_, h4⟩
      rw [whileF, hcc]
      simp only [h2]
theorem g_whlO {c : T} {b r : List S} {cS : σ → Option Bool} {bS : σ → Option (Ct ρ σ)} {s0 : σ} {z : ρ ⊕ σ} (I : σ → EnvD → Prop) (R : ρ → D → EnvD → Prop) (h0 : I s0 env) (hW : whileO cS bS s0 = some z) (hc : ∀ s t e, I s e → cS s = some t → TX P false e c t e) (hb : ∀ s s' e, I s e → cS s = some true → bS s = some s' → CTG I R s' (evSs P b e)) (hk : ∀ s' e, z = .inr s' → I s' e → G (evSs P r e)) (hr : ∀ q d e, z = .inl q → R q d e → G (some (.rt d, e))) : G (evSs P (.whl c b :: r) env) := by
  rcases whileO_sim (cD := evT P false c) (bD := evSs P b) hc hb s0 z hW env h0 with ⟨s', e', hz, h3, h4⟩ | ⟨q, d, e', hz, h3, h4⟩
  · exact g_nx (by show evS P (.whl c b) env = _; rw [evS]; exact h3) (hk s' e' hz h4)
  · exact g_rt (by show evS P (.whl c b) env = _; rw [evS]; exact h3) (hr q d e' hz h4)
/-! defs -/
def RetG (re : List Nat) (ds : List D) (r : D) (ds' : List D) (o : Option (Fl × EnvD)) : Prop := ∃ fl e, o = some (fl, e) ∧ (fl = .rt r ∨ (fl = .nx ∧ r = .non)) ∧ backP re 0 ds e = some ds'
theorem run_G {f : FD} {ds ds' : List D} {r : D} (hl : ds.length = f.np) (h : RetG f.re ds r ds' (evSs P f.body (ds.map some ++ List.replicate (f.ns - f.np) none))) : runF P f ds = some (r, ds') := by
  obtain ⟨fl, e, h1, h2, h3⟩ := h
  unfold runF
  rw [if_pos hl, h1]
  rcases h2 with rfl | ⟨rfl, rfl⟩
  · show (backP f.re 0 ds e).map _ = _
    rw [h3]; rfl
  · show (backP f.re 0 ds e).map _ = _
    rw [h3]; rfl
theorem evF_of {T : List FD} {k i : Nat} {f : FD} {ds : List D} {x : D × List D} (hT : T[i]? = some f) (h : runF ⟨evF T k⟩ f ds = some x) : evF T (k + 1) i ds = some x := by
  show ((T[i]?).bind fun fd => runF ⟨evF T k⟩ fd ds) = _
  rw [hT]; exact h
theorem bk_nil {re : List Nat} {i : Nat} {e : EnvD} : backP re i [] e = some [] := rfl
theorem bk_p {re : List Nat} {i : Nat} {d : D} {ds xs : List D} {e : EnvD} (h : d.plain = true) (k : backP re (i + 1) ds e = some xs) : backP re i (d :: ds) e = some (d :: xs) := by
  show ((if d.plain then some d else _).bind _) = _
  rw [h]
  show ((backP re (i + 1) ds e).map _) = _
  rw [k]; rfl
theorem bk_r {re : List Nat} {i : Nat} {d d' : D} {ds xs : List D} {e : EnvD} (h : d.plain = false) (hr : re.contains i = false) (g : getE e i = some d') (k : backP re (i + 1) ds e = some xs) : backP re i (d :: ds) e = some (d' :: xs) := by
  show ((if d.plain then some d else if re.contains i then none else getE e i).bind _) = _
  rw [h, hr, g]
  show ((backP re (i + 1) ds e).map _) = _
  rw [k]; rfl
end
end TL
end

section
/-! K1: fractions in lowest terms. -/
namespace K31
open DL
/-- a over b in lowest terms, the lower part above 0 -/
def nfN (a b : Int) : Int := a * b.sign / (Int.gcd a b : Int)
def nfD (a b : Int) : Int := (b.natAbs : Int) / (Int.gcd a b : Int)
theorem gcd_pos {a b : Int} (h : b ≠ 0) : 0 < Int.gcd a b := Int.gcd_pos_of_ne_zero_right a h
theorem nf_scale {a b k : Int} (hk : 0 < k) (hb : b ≠ 0) : nfN (k * a) (k * b) = nfN a b ∧ nfD (k * a) (k * b) = nfD a b := by
  have g : (Int.gcd (k * a) (k * b) : Int) = k * (Int.gcd a b : Int) := by
    rw [Int.gcd_mul_left, Int.natCast_mul, Int.natAbs_of_nonneg (by omega)]
  have gp : (0 : Int) < Int.gcd a b := by have := gcd_pos (a := a) hb; omega
  unfold nfN nfD
  rw [g, Int.natAbs_mul, Int.natCast_mul, Int.natAbs_of_nonneg (show 0 ≤ k by omega), Int.sign_mul, Int.sign_eq_one_of_pos hk, Int.one_mul]
  refine ⟨?_, Int.mul_ediv_mul_of_pos _ _ hk⟩
  rw [Int.mul_assoc]
  exact Int.mul_ediv_mul_of_pos _ _ hk
theorem nfD_pos {a b : Int} (hb : b ≠ 0) : 0 < nfD a b := by
  unfold nfD
  have gp := gcd_pos (a := a) hb
  have hd : (Int.gcd a b : Int) ∣ (b.natAbs : Int) := Int.natCast_dvd_natCast.mpr (Int.gcd_dvd_natAbs_right a b)
  have hn : (0 : Int) < b.natAbs := by omega
  exact Int.ediv_pos_of_pos_of_dvd hn (by omega) hd
/-- for b above 0: a = g * n, b = g * d -/
theorem nf_of {a b : Int} (hb : 0 < b) : ∃ g : Int, 0 < g ∧ g = Int.gcd a b ∧ a = g * nfN a b ∧ b = g * nfD a b := by
  refine ⟨Int.gcd a b, ?_, rfl, ?_, ?_⟩
  · have := gcd_pos (a := a) (b := b) (by omega); omega
  · unfold nfN
    rw [Int.sign_eq_one_of_pos hb, Int.mul_one, Int.mul_ediv_cancel' (Int.gcd_dvd_left ..)]
  · unfold nfD
    rw [Int.natAbs_of_nonneg (by omega), Int.mul_ediv_cancel' (Int.gcd_dvd_right ..)]
theorem nf_cop {a b : Int} (hb : 0 < b) : Int.gcd (nfN a b) (nfD a b) = 1 := by
  obtain ⟨g, hg, e, h1, h2⟩ := nf_of (a := a) hb
  have h3 : Int.gcd a b = g.natAbs * Int.gcd (nfN a b) (nfD a b) := by
    have h := Int.gcd_mul_left g (nfN a b) (nfD a b)
    rw [← h1, ← h2] at h
    exact h
  have h4 : g.natAbs = Int.gcd a b := by rw [e]; simp
  rw [← h4] at h3
  have : 0 < g.natAbs := by omega
  have h5 : g.natAbs * 1 = g.natAbs * Int.gcd (nfN a b) (nfD a b) := by rw [Nat.mul_one]; exact h3
  exact (Nat.eq_of_mul_eq_mul_left this h5).symm
theorem nf_neg (a b : Int) : nfN (-a) (-b) = nfN a b ∧ nfD (-a) (-b) = nfD a b := by
  unfold nfN nfD
  rw [Int.gcd_neg, Int.neg_gcd, Int.natAbs_neg, Int.sign_neg, Int.neg_mul_neg]
  exact ⟨rfl, rfl⟩
/-- a/b + c/d, from the parts in lowest terms -/
theorem nf_add {a b c d : Int} (hb : 0 < b) (hd : 0 < d) : nfN (nfN a b * nfD c d + nfN c d * nfD a b) (nfD a b * nfD c d) = nfN (a * d + c * b) (b * d) ∧
    nfD (nfN a b * nfD c d + nfN c d * nfD a b) (nfD a b * nfD c d) = nfD (a * d + c * b) (b * d) := by
  obtain ⟨g, hg, _, h1, h2⟩ := nf_of (a := a) hb
  obtain ⟨k, hk, _, h3, h4⟩ := nf_of (a := c) hd
  have e1 : a * d + c * b = (g * k) * (nfN a b * nfD c d + nfN c d * nfD a b) := by
    have x1 : a * d = (g * k) * (nfN a b * nfD c d) := by
      conv => lhs; rw [h1, h4]
      simp only [Int.mul_assoc, Int.mul_left_comm, Int.mul_comm]
    have x2 : c * b = (g * k) * (nfN c d * nfD a b) := by
      conv => lhs; rw [h3, h2]
      simp only [Int.mul_assoc, Int.mul_left_comm, Int.mul_comm]
    rw [x1, x2, ← Int.mul_add]
  have e2 : b * d = (g * k) * (nfD a b * nfD c d) := by
    conv => lhs; rw [h2, h4]
    simp only [Int.mul_assoc, Int.mul_left_comm, Int.mul_comm]
  have p1 := nfD_pos (a := a) (b := b) (by omega)
  have p2 := nfD_pos (a := c) (b := d) (by omega)
  have := nf_scale (a := nfN a b * nfD c d + nfN c d * nfD a b) (b := nfD a b * nfD c d) (k := g * k) (Int.mul_pos hg hk) (by have := Int.mul_pos p1 p2; omega)
  rw [e1, e2]
  exact ⟨this.1.symm, this.2.symm⟩
theorem nf_one {a b : Int} (hb : 0 < b) (h : Int.gcd a b = 1) : nfN a b = a ∧ nfD a b = b := by
  unfold nfN nfD
  rw [h, Int.sign_eq_one_of_pos hb, Int.natAbs_of_nonneg (by omega)]
  simp

/-! ### sizes -/
def Bd (n : Nat) (x : Int) : Prop := x.natAbs < 2 ^ n
theorem Bd.mono {n m : Nat} {x : Int} (h : Bd n x) (hm : n ≤ m) : Bd m x := Nat.lt_of_lt_of_le h (Nat.pow_le_pow_right (by decide) hm)
theorem Bd.mul {n m : Nat} {x y : Int} (h : Bd n x) (k : Bd m y) : Bd (n + m) (x * y) := by
  unfold Bd at *
  rw [Int.natAbs_mul, Nat.pow_add]
  by_cases hz : y.natAbs = 0
  · rw [hz, Nat.mul_zero]; exact Nat.mul_pos (Nat.two_pow_pos _) (Nat.two_pow_pos _)
  · exact Nat.lt_of_lt_of_le (Nat.mul_lt_mul_of_pos_right h (by omega)) (Nat.mul_le_mul_left _ (by omega))
theorem Bd.add {n : Nat} {x y : Int} (h : Bd n x) (k : Bd n y) : Bd (n + 1) (x + y) := by
  unfold Bd at *
  rw [Nat.pow_succ]
  have := Int.natAbs_add_le x y
  omega
theorem Bd.neg {n : Nat} {x : Int} (h : Bd n x) : Bd n (-x) := by unfold Bd at *; rw [Int.natAbs_neg]; exact h
theorem Bd.sub {n : Nat} {x y : Int} (h : Bd n x) (k : Bd n y) : Bd (n + 1) (x - y) := by rw [Int.sub_eq_add_neg]; exact h.add k.neg
theorem Bd.le {n : Nat} {x y : Int} (h : Bd n x) (k : y.natAbs ≤ x.natAbs) : Bd n y := Nat.lt_of_le_of_lt k h
theorem log_lt {n : Nat} {x : Nat} (h : x < 2 ^ n) (hn : 0 < n) : x.log2 < n := by
  by_cases hx : x = 0
  · subst hx; simpa using hn
  · exact (Nat.log2_lt hx).mpr h
theorem mul_of {n m : Nat} {x y : Int} (h : Bd n x) (k : Bd m y) (hn : 0 < n) (hm : 0 < m) (hs : n + m ≤ 1000000) : mulOk x y = true := by
  unfold mulOk
  have := log_lt h hn
  have := log_lt k hm
  exact decide_eq_true (by omega)
theorem div_of {n : Nat} {y : Int} (k : Bd n y) (h0 : y ≠ 0) (hn : 0 < n) (hs : n ≤ 9000) : divOk y = true := by
  unfold divOk
  rw [Bool.and_eq_true]
  have := log_lt k hn
  exact ⟨decide_eq_true h0, decide_eq_true (by omega)⟩
theorem nfN_le {a b : Int} (hb : b ≠ 0) : (nfN a b).natAbs ≤ a.natAbs := by
  unfold nfN
  refine Nat.le_trans (Int.natAbs_ediv_le_natAbs _ _) ?_
  rw [Int.natAbs_mul, Int.natAbs_sign_of_ne_zero hb, Nat.mul_one]
  exact Nat.le_refl _
theorem nfD_le {a b : Int} : (nfD a b).natAbs ≤ b.natAbs := by
  unfold nfD
  refine Nat.le_trans (Int.natAbs_ediv_le_natAbs _ _) ?_
  simp
end K31
end

section
/-! TL5: _law_draws, _law_next, _law_pick. -/
namespace K31
open DL L2
open PySem (Str Operator CmpOp)
theorem app_ints {L : List Int} {x : Int} (h : L.length < 16777216) : appD (.int x) (.lst true (L.map .int)) = some (.lst true ((L ++ [x]).map .int)) := by
  show (if (L.map D.int).length < PySem.sizeLine then _ else _) = _
  rw [if_pos (by rw [List.length_map]; exact h), List.map_append]; rfl
theorem lst_ok {o : Bool} {ds : List D} : D.lst? (.lst o ds) = some () := rfl
theorem o_pow18 : opD (.bin .Pow) [.int 10, .int 18] = some (.int 1000000000000000000) := rfl
theorem mul_s {x c : Int} (h0 : 0 ≤ x) (h : x < 65537) (hc : c.natAbs < 2 ^ 20) : mulOk x c = true := mul_of (n := 20) (m := 20) (by unfold Bd; omega) hc (by decide) (by decide) (by decide)
theorem bt {i : Nat} {d : D} {env : EnvD} (h : i < env.length) : bindT (.nm i) d env = some (env.set i (some d)) := if_pos h
def body7 : List S := [.ite (.val (.op (.cmp .Gt) [.var 6, .int 0])) [.app 2 [] (.op (.bin .Mod) [.op .toInt [.var 6], .int 997]), .asg (.nm 6) (.op (.bin .FloorDiv) [.var 6, .int 997])] []]
theorem loop7 (P : DL.Ctx) (a b x3 x4 x5 : Option D) : ∀ (its : List D) (L : List Int) (r : Int) (t : Option D), L.length + its.length < 16777216 → ∃ (L' : List Int) (r' : Int) (t' : Option D), L'.length ≤ L.length + its.length ∧
    loopF (fun d e => (bindT (.nm 7) d e).bind (evSs P body7)) its [a, b, some (.lst true (L.map .int)), x3, x4, x5, some (.int r), t] = some (.nx, [a, b, some (.lst true (L'.map .int)), x3, x4, x5, some (.int r'), t'])
  | [], L, r, t, _ => ⟨L, r, t, by simp, rfl⟩
  | d :: its, L, r, t, h => by
    simp only [List.length_cons] at h
    have h997 : divOk 997 = true := by decide
    by_cases hr : 0 < r
    · obtain ⟨L', r', t', hl, hx⟩ := loop7 P a b x3 x4 x5 its (L ++ [modD r 997]) (divD r 997) (some d) (by simp; omega)
      refine ⟨L', r', t', by simp at hl ⊢; omega, ?_⟩
      rw [loop_next (e := [a, b, some (.lst true ((L ++ [modD r 997]).map .int)), x3, x4, x5, some (.int (divD r 997)), some d]) ?_]
      · exact hx
      · rw [bt (by simp)]
        show evSs P body7 _ = _
        simp only [body7, evSs, evS, evM, evA, evAs, evMs, evAnd, evOr, evI, evT, evTand, evTor, evKey, evPath, A.gets, A.get, A.tmp?, A.isTmp, A.isPk, A.bl?, A.int?, mat, lendA, backA, bindT, bindTs, bindN, updE, upd_nil, getP1, backP, getE0, getES, pl_int, pl_bl, pl_non, pl_str, pl_scr, pl_tup, pl_lst, pl_dK, pls_nil, pls_cons, fr_int, fr_lst, mk_t, o_add, o_sub, o_neg, o_abs, o_toInt, o_lt, o_le, o_gt, o_ge, o_eq, o_ne, o_lenL, o_lenT, o_lenS, tr_bl, a_add, a_sub, sz0, sz1, sz2, sz3, sz4, sz5, sz6, sz7, sz8, sz9, sz10, sz11, List.length_cons, List.length_nil, Nat.reduceAdd, at2_0, at2_1, sub_T, mk_int, mk_lst, Option.bind_some, Option.map_some, List.set_cons_zero, List.set_cons_succ, List.all_cons, List.all_nil, List.cons_append, List.nil_append, if_true, Bool.and_true, Bool.true_and, Bool.and_self, Bool.not_true, Bool.not_false, Bool.false_and, Bool.or_false, Bool.false_or, Bool.or_true, Bool.true_or, Bool.false_eq_true, if_false, List.isEmpty_nil, hr, decide_true, lst_ok, o_mod (show (997 : Int) ≠ 0 by decide), o_div h997, app_ints (show L.length < 16777216 by omega)]
        simp
    · obtain ⟨L', r', t', hl, hx⟩ := loop7 P a b x3 x4 x5 its L r (some d) (by omega)
      refine ⟨L', r', t', by simp at hl ⊢; omega, ?_⟩
      rw [loop_next (e := [a, b, some (.lst true (L.map .int)), x3, x4, x5, some (.int r), some d]) ?_]
      · exact hx
      · rw [bt (by simp)]
        show evSs P body7 _ = _
        simp only [body7, evSs, evS, evM, evA, evAs, evMs, evAnd, evOr, evI, evT, evTand, evTor, evKey, evPath, A.gets, A.get, A.tmp?, A.isTmp, A.isPk, A.bl?, A.int?, mat, lendA, backA, bindT, bindTs, bindN, updE, upd_nil, getP1, backP, getE0, getES, pl_int, pl_bl, pl_non, pl_str, pl_scr, pl_tup, pl_lst, pl_dK, pls_nil, pls_cons, fr_int, fr_lst, mk_t, o_add, o_sub, o_neg, o_abs, o_toInt, o_lt, o_le, o_gt, o_ge, o_eq, o_ne, o_lenL, o_lenT, o_lenS, tr_bl, a_add, a_sub, sz0, sz1, sz2, sz3, sz4, sz5, sz6, sz7, sz8, sz9, sz10, sz11, List.length_cons, List.length_nil, Nat.reduceAdd, at2_0, at2_1, sub_T, mk_int, mk_lst, Option.bind_some, Option.map_some, List.set_cons_zero, List.set_cons_succ, List.all_cons, List.all_nil, List.cons_append, List.nil_append, if_true, Bool.and_true, Bool.true_and, Bool.and_self, Bool.not_true, Bool.not_false, Bool.false_and, Bool.or_false, Bool.false_or, Bool.or_true, Bool.true_or, Bool.false_eq_true, if_false, List.isEmpty_nil, hr, decide_false]
def body4 : List S := [.asg (.nm 5) (.op .abs [.op .toInt [.sub (.var 0) (.var 4)]]), .asg (.nm 3) (.op (.bin .Mod) [.op .toInt [.op (.bin .Add) [.op (.bin .Add) [.op (.bin .Mult) [.var 3, .int 48271], .op (.bin .Mod) [.var 5, .int 1000003]], .var 4]], .int 65537]), .asg (.nm 6) (.int 0),
  .ite (.val (.op (.cmp .GtE) [.var 5, .op (.bin .Pow) [.int 10, .int 18]])) [.asg (.nm 6) (.var 5)] [.app 2 [] (.op (.bin .Mod) [.op .toInt [.var 5], .int 997]), .app 2 [] (.op (.bin .Mod) [.op (.bin .Mod) [.op .toInt [.op (.bin .Add) [.op (.bin .Mult) [.var 3, .int 69621], .int 5]], .int 65521], .int 997])],
  .for_ (.nm 7) .rng [.int 60] body7]
theorem turn4 (P : DL.Ctx) (ns : List Int) (b x4 x5 x6 x7 : Option D) (L : List Int) (mix : Int) (i : Nat) (hi : i < ns.length) (h0 : 0 ≤ mix) (h1 : mix < 65537) (hl : L.length < 8000000) : ∃ (L' : List Int) (mix' : Int) (y4 y5 y6 y7 : Option D), L'.length ≤ L.length + 62 ∧ 0 ≤ mix' ∧ mix' < 65537 ∧
    (bindT (.nm 4) (.int i) [some (.scr ns), b, some (.lst true (L.map .int)), some (.int mix), x4, x5, x6, x7]).bind (evSs P body4) = some (.nx, [some (.scr ns), b, some (.lst true (L'.map .int)), some (.int mix'), y4, y5, y6, y7]) := by
  have ha : atI ns (i : Int) = some ns[i] := at_nat (List.getElem?_eq_getElem hi)
  generalize hz : ns[i] = z at ha
  generalize hm : (mix * 48271 + modD (z.natAbs : Int) 1000003 + (i : Int)) = mm
  have hm0 : 0 ≤ modD mm 65537 := by rw [modD_pos (by decide)]; exact Int.emod_nonneg _ (by decide)
  have hm1 : modD mm 65537 < 65537 := by rw [modD_pos (by decide)]; exact Int.emod_lt_of_pos _ (by decide)
  rw [bt (by simp)]
  have s1 : evS P (.asg (.nm 5) (.op .abs [.op .toInt [.sub (.var 0) (.var 4)]])) [some (.scr ns), b, some (.lst true (L.map .int)), some (.int mix), some (.int i), x5, x6, x7] = some (.nx, [some (.scr ns), b, some (.lst true (L.map .int)), some (.int mix), some (.int i), some (.int z.natAbs), x6, x7]) := by
    simp only [evSs, evS, evM, evA, evAs, evMs, evAnd, evOr, evI, evT, evTand, evTor, evKey, evPath, A.gets, A.get, A.tmp?, A.isTmp, A.isPk, A.bl?, A.int?, mat, lendA, backA, bindT, bindTs, bindN, updE, upd_nil, getP1, backP, getE0, getES, pl_int, pl_bl, pl_non, pl_str, pl_scr, pl_tup, pl_lst, pl_dK, pls_nil, pls_cons, fr_int, fr_lst, mk_t, o_add, o_sub, o_neg, o_abs, o_toInt, o_lt, o_le, o_gt, o_ge, o_eq, o_ne, o_lenL, o_lenT, o_lenS, tr_bl, a_add, a_sub, sz0, sz1, sz2, sz3, sz4, sz5, sz6, sz7, sz8, sz9, sz10, sz11, List.length_cons, List.length_nil, Nat.reduceAdd, at2_0, at2_1, sub_T, mk_int, mk_lst, Option.bind_some, Option.map_some, List.set_cons_zero, List.set_cons_succ, List.all_cons, List.all_nil, List.cons_append, List.nil_append, if_true, Bool.and_true, Bool.true_and, Bool.and_self, Bool.not_true, Bool.not_false, Bool.false_and, Bool.or_false, Bool.false_or, Bool.or_true, Bool.true_or, Bool.false_eq_true, if_false, List.isEmpty_nil, sub_S, ha, abs_nat, bt]
    simp [bt, List.set]
  have s2 : evS P (.asg (.nm 3) (.op (.bin .Mod) [.op .toInt [.op (.bin .Add) [.op (.bin .Add) [.op (.bin .Mult) [.var 3, .int 48271], .op (.bin .Mod) [.var 5, .int 1000003]], .var 4]], .int 65537])) [some (.scr ns), b, some (.lst true (L.map .int)), some (.int mix), some (.int i), some (.int z.natAbs), x6, x7] = some (.nx, [some (.scr ns), b, some (.lst true (L.map .int)), some (.int (modD mm 65537)), some (.int i), some (.int z.natAbs), x6, x7]) := by
    simp only [evSs, evS, evM, evA, evAs, evMs, evAnd, evOr, evI, evT, evTand, evTor, evKey, evPath, A.gets, A.get, A.tmp?, A.isTmp, A.isPk, A.bl?, A.int?, mat, lendA, backA, bindT, bindTs, bindN, updE, upd_nil, getP1, backP, getE0, getES, pl_int, pl_bl, pl_non, pl_str, pl_scr, pl_tup, pl_lst, pl_dK, pls_nil, pls_cons, fr_int, fr_lst, mk_t, o_add, o_sub, o_neg, o_abs, o_toInt, o_lt, o_le, o_gt, o_ge, o_eq, o_ne, o_lenL, o_lenT, o_lenS, tr_bl, a_add, a_sub, sz0, sz1, sz2, sz3, sz4, sz5, sz6, sz7, sz8, sz9, sz10, sz11, List.length_cons, List.length_nil, Nat.reduceAdd, at2_0, at2_1, sub_T, mk_int, mk_lst, Option.bind_some, Option.map_some, List.set_cons_zero, List.set_cons_succ, List.all_cons, List.all_nil, List.cons_append, List.nil_append, if_true, Bool.and_true, Bool.true_and, Bool.and_self, Bool.not_true, Bool.not_false, Bool.false_and, Bool.or_false, Bool.false_or, Bool.or_true, Bool.true_or, Bool.false_eq_true, if_false, List.isEmpty_nil, o_mul (mul_s h0 h1 (show (48271 : Int).natAbs < 2 ^ 20 by decide)), o_mod (show (1000003 : Int) ≠ 0 by decide), o_mod (show (65537 : Int) ≠ 0 by decide), hm]
    simp
  have s3 : evS P (.asg (.nm 6) (.int 0)) [some (.scr ns), b, some (.lst true (L.map .int)), some (.int (modD mm 65537)), some (.int i), some (.int z.natAbs), x6, x7] = some (.nx, [some (.scr ns), b, some (.lst true (L.map .int)), some (.int (modD mm 65537)), some (.int i), some (.int z.natAbs), some (.int 0), x7]) := rfl
  show ∃ _ _ _ _ _ _, _ ∧ _ ∧ _ ∧ evSs P body4 [some (.scr ns), b, some (.lst true (L.map .int)), some (.int mix), some (.int i), x5, x6, x7] = _
  unfold body4
  rw [ss_nx s1, ss_nx s2, ss_nx s3]
  by_cases hc : 1000000000000000000 ≤ (z.natAbs : Int)
  · obtain ⟨L', r', t', hl', hx⟩ := loop7 P (some (.scr ns)) b (some (.int (modD mm 65537))) (some (.int i)) (some (.int z.natAbs)) (rngL 0 60) L z.natAbs x7 (by rw [rng_len]; simp; omega)
    rw [rng_len] at hl'
    refine ⟨L', modD mm 65537, some (.int i), some (.int z.natAbs), some (.int r'), t', by simp at hl'; omega, hm0, hm1, ?_⟩
    rw [ss_nx (e := [some (.scr ns), b, some (.lst true (L.map .int)), some (.int (modD mm 65537)), some (.int i), some (.int z.natAbs), some (.int z.natAbs), x7]) ?_]
    · rw [ss_nx (s_rng (n := 60) rfl rfl hx)]
      rfl
    · simp only [evSs, evS, evM, evA, evAs, evMs, evAnd, evOr, evI, evT, evTand, evTor, evKey, evPath, A.gets, A.get, A.tmp?, A.isTmp, A.isPk, A.bl?, A.int?, mat, lendA, backA, bindT, bindTs, bindN, updE, upd_nil, getP1, backP, getE0, getES, pl_int, pl_bl, pl_non, pl_str, pl_scr, pl_tup, pl_lst, pl_dK, pls_nil, pls_cons, fr_int, fr_lst, mk_t, o_add, o_sub, o_neg, o_abs, o_toInt, o_lt, o_le, o_gt, o_ge, o_eq, o_ne, o_lenL, o_lenT, o_lenS, tr_bl, a_add, a_sub, sz0, sz1, sz2, sz3, sz4, sz5, sz6, sz7, sz8, sz9, sz10, sz11, List.length_cons, List.length_nil, Nat.reduceAdd, at2_0, at2_1, sub_T, mk_int, mk_lst, Option.bind_some, Option.map_some, List.set_cons_zero, List.set_cons_succ, List.all_cons, List.all_nil, List.cons_append, List.nil_append, if_true, Bool.and_true, Bool.true_and, Bool.and_self, Bool.not_true, Bool.not_false, Bool.false_and, Bool.or_false, Bool.false_or, Bool.or_true, Bool.true_or, Bool.false_eq_true, if_false, List.isEmpty_nil, o_pow18, hc, decide_true]
      simp
  · generalize hq : modD (modD (modD mm 65537 * 69621 + 5) 65521) 997 = q
    obtain ⟨L', r', t', hl', hx⟩ := loop7 P (some (.scr ns)) b (some (.int (modD mm 65537))) (some (.int i)) (some (.int z.natAbs)) (rngL 0 60) ((L ++ [modD z.natAbs 997]) ++ [q]) 0 x7 (by rw [rng_len]; simp; omega)
    rw [rng_len] at hl'
    refine ⟨L', modD mm 65537, some (.int i), some (.int z.natAbs), some (.int r'), t', by simp at hl'; omega, hm0, hm1, ?_⟩
    rw [ss_nx (e := [some (.scr ns), b, some (.lst true (((L ++ [modD z.natAbs 997]) ++ [q]).map .int)), some (.int (modD mm 65537)), some (.int i), some (.int z.natAbs), some (.int 0), x7]) ?_]
    · rw [ss_nx (s_rng (n := 60) rfl rfl hx)]
      rfl
    · simp only [evSs, evS, evM, evA, evAs, evMs, evAnd, evOr, evI, evT, evTand, evTor, evKey, evPath, A.gets, A.get, A.tmp?, A.isTmp, A.isPk, A.bl?, A.int?, mat, lendA, backA, bindT, bindTs, bindN, updE, upd_nil, getP1, backP, getE0, getES, pl_int, pl_bl, pl_non, pl_str, pl_scr, pl_tup, pl_lst, pl_dK, pls_nil, pls_cons, fr_int, fr_lst, mk_t, o_add, o_sub, o_neg, o_abs, o_toInt, o_lt, o_le, o_gt, o_ge, o_eq, o_ne, o_lenL, o_lenT, o_lenS, tr_bl, a_add, a_sub, sz0, sz1, sz2, sz3, sz4, sz5, sz6, sz7, sz8, sz9, sz10, sz11, List.length_cons, List.length_nil, Nat.reduceAdd, at2_0, at2_1, sub_T, mk_int, mk_lst, Option.bind_some, Option.map_some, List.set_cons_zero, List.set_cons_succ, List.all_cons, List.all_nil, List.cons_append, List.nil_append, if_true, Bool.and_true, Bool.true_and, Bool.and_self, Bool.not_true, Bool.not_false, Bool.false_and, Bool.or_false, Bool.false_or, Bool.or_true, Bool.true_or, Bool.false_eq_true, if_false, List.isEmpty_nil, o_pow18, hc, decide_false, lst_ok, o_mod (show (997 : Int) ≠ 0 by decide), o_mod (show (65521 : Int) ≠ 0 by decide), o_mul (mul_s hm0 hm1 (show (69621 : Int).natAbs < 2 ^ 20 by decide)), hq, app_ints (show L.length < 16777216 by omega), app_ints (show (L ++ [modD (z.natAbs : Int) 997]).length < 16777216 by simp; omega)]
def body4' : List S := [.asg (.nm 3) (.op (.bin .Mod) [.op .toInt [.op (.bin .Add) [.op (.bin .Add) [.op (.bin .Mult) [.var 3, .int 16807], .var 4], .int 1]], .int 65537]), .app 2 [] (.op (.bin .Mod) [.op .toInt [.var 3], .int 997])]
theorem turn4' (P : DL.Ctx) (a b x4 x5 x6 x7 : Option D) (L : List Int) (mix i : Int) (h0 : 0 ≤ mix) (h1 : mix < 65537) (hl : L.length < 8000000) : ∃ (L' : List Int) (mix' : Int) (y4 : Option D), L'.length ≤ L.length + 1 ∧ 0 ≤ mix' ∧ mix' < 65537 ∧
    (bindT (.nm 4) (.int i) [a, b, some (.lst true (L.map .int)), some (.int mix), x4, x5, x6, x7]).bind (evSs P body4') = some (.nx, [a, b, some (.lst true (L'.map .int)), some (.int mix'), y4, x5, x6, x7]) := by
  generalize hm : (mix * 16807 + i + 1) = mm
  have hm0 : 0 ≤ modD mm 65537 := by rw [modD_pos (by decide)]; exact Int.emod_nonneg _ (by decide)
  have hm1 : modD mm 65537 < 65537 := by rw [modD_pos (by decide)]; exact Int.emod_lt_of_pos _ (by decide)
  rw [bt (by simp)]
  refine ⟨L ++ [modD (modD mm 65537) 997], modD mm 65537, some (.int i), by simp, hm0, hm1, ?_⟩
  show evSs P body4' [a, b, some (.lst true (L.map .int)), some (.int mix), some (.int i), x5, x6, x7] = _
  unfold body4'
  simp only [evSs, evS, evM, evA, evAs, evMs, evAnd, evOr, evI, evT, evTand, evTor, evKey, evPath, A.gets, A.get, A.tmp?, A.isTmp, A.isPk, A.bl?, A.int?, mat, lendA, backA, bindT, bindTs, bindN, updE, upd_nil, getP1, backP, getE0, getES, pl_int, pl_bl, pl_non, pl_str, pl_scr, pl_tup, pl_lst, pl_dK, pls_nil, pls_cons, fr_int, fr_lst, mk_t, o_add, o_sub, o_neg, o_abs, o_toInt, o_lt, o_le, o_gt, o_ge, o_eq, o_ne, o_lenL, o_lenT, o_lenS, tr_bl, a_add, a_sub, sz0, sz1, sz2, sz3, sz4, sz5, sz6, sz7, sz8, sz9, sz10, sz11, List.length_cons, List.length_nil, Nat.reduceAdd, at2_0, at2_1, sub_T, mk_int, mk_lst, Option.bind_some, Option.map_some, List.set_cons_zero, List.set_cons_succ, List.all_cons, List.all_nil, List.cons_append, List.nil_append, if_true, Bool.and_true, Bool.true_and, Bool.and_self, Bool.not_true, Bool.not_false, Bool.false_and, Bool.or_false, Bool.false_or, Bool.or_true, Bool.true_or, Bool.false_eq_true, if_false, List.isEmpty_nil, o_mul (mul_s h0 h1 (show (16807 : Int).natAbs < 2 ^ 20 by decide)), o_mod (show (65537 : Int) ≠ 0 by decide), hm, lst_ok, o_mod (show (997 : Int) ≠ 0 by decide)]
  simp [app_ints (show L.length < 16777216 by omega), evSs, evS, evM, evA, evAs, evMs, evAnd, evOr, evI, evT, evTand, evTor, evKey, evPath, A.gets, A.get, A.tmp?, A.isTmp, A.isPk, A.bl?, A.int?, mat, lendA, backA, bindT, bindTs, bindN, updE, upd_nil, getP1, backP, getE0, getES, pl_int, pl_bl, pl_non, pl_str, pl_scr, pl_tup, pl_lst, pl_dK, pls_nil, pls_cons, fr_int, fr_lst, mk_t, o_add, o_sub, o_neg, o_abs, o_toInt, o_lt, o_le, o_gt, o_ge, o_eq, o_ne, o_lenL, o_lenT, o_lenS, tr_bl, a_add, a_sub, sz0, sz1, sz2, sz3, sz4, sz5, sz6, sz7, sz8, sz9, sz10, sz11, List.length_cons, List.length_nil, Nat.reduceAdd, at2_0, at2_1, sub_T, mk_int, mk_lst, Option.bind_some, Option.map_some, List.set_cons_zero, List.set_cons_succ, List.all_cons, List.all_nil, List.cons_append, List.nil_append, if_true, Bool.and_true, Bool.true_and, Bool.and_self, Bool.not_true, Bool.not_false, Bool.false_and, Bool.or_false, Bool.false_or, Bool.or_true, Bool.true_or, Bool.false_eq_true, if_false, List.isEmpty_nil, lst_ok, o_mod (show (997 : Int) ≠ 0 by decide)]
theorem cut_ints (L : List Int) (lo hi : Option Int) : cutD (L.map .int) lo hi = (((L.drop (HT.sIx L.length 0 lo)).take (HT.sIx L.length L.length hi - HT.sIx L.length 0 lo))).map .int := by
  unfold cutD
  rw [List.length_map, ← List.map_drop, ← List.map_take]
def fdDraws : FD := ⟨2, 8, [], [
    .asg (.nm 2) (.lst []),
    .asg (.nm 3) (.int 7),
    .for_ (.nm 4) .rng [(.op .len [(.var 0)])] [.asg (.nm 5) (.op .abs [(.op .toInt [(.sub (.var 0) (.var 4))])]), .asg (.nm 3) (.op (.bin .Mod) [(.op .toInt [(.op (.bin .Add) [(.op (.bin .Add) [(.op (.bin .Mult) [(.var 3), (.int 48271)]), (.op (.bin .Mod) [(.var 5), (.int 1000003)])]), (.var 4)])]), (.int 65537)]), .asg (.nm 6) (.int 0), .ite (.val (.op (.cmp .GtE) [(.var 5), (.op (.bin .Pow) [(.int 10), (.int 18)])])) [.asg (.nm 6) (.var 5)] [.app 2 [] (.op (.bin .Mod) [(.op .toInt [(.var 5)]), (.int 997)]), .app 2 [] (.op (.bin .Mod) [(.op (.bin .Mod) [(.op .toInt [(.op (.bin .Add) [(.op (.bin .Mult) [(.var 3), (.int 69621)]), (.int 5)])]), (.int 65521)]), (.int 997)])], .for_ (.nm 7) .rng [(.int 60)] [.ite (.val (.op (.cmp .Gt) [(.var 6), (.int 0)])) [.app 2 [] (.op (.bin .Mod) [(.op .toInt [(.var 6)]), (.int 997)]), .asg (.nm 6) (.op (.bin .FloorDiv) [(.var 6), (.int 997)])] []]],
    .for_ (.nm 4) .rng [(.var 1)] [.asg (.nm 3) (.op (.bin .Mod) [(.op .toInt [(.op (.bin .Add) [(.op (.bin .Add) [(.op (.bin .Mult) [(.var 3), (.int 16807)]), (.var 4)]), (.int 1)])]), (.int 65537)]), .app 2 [] (.op (.bin .Mod) [(.op .toInt [(.var 3)]), (.int 997)])],
    .ret (.sli (.var 2) [] [(.var 1)])]⟩
theorem draws_runs (P : DL.Ctx) (ns : List Int) (m : Int) (hn : ns.length ≤ 63) (hm : 0 ≤ m) (hm2 : m ≤ 5000) : ∃ L : List Int, runF P fdDraws [.scr ns, .int m] = some (.lst true (L.map .int), [.scr ns, .int m]) := by
  have b1 : fdDraws.body = [.asg (.nm 2) (.lst []), .asg (.nm 3) (.int 7), .for_ (.nm 4) .rng [.op .len [.var 0]] body4, .for_ (.nm 4) .rng [.var 1] body4', .ret (.sli (.var 2) [] [.var 1])] := rfl
  obtain ⟨e1, h1, L1, mix1, x4, x5, x6, x7, hL1, g0, g1, rfl⟩ := loop_ix (env := [some (.scr ns), some (.int m), some (.lst true (([] : List Int).map .int)), some (.int 7), none, none, none, none]) (step := fun d e => (bindT (.nm 4) d e).bind (evSs P body4)) (rngL 0 ns.length)
    (fun i e => ∃ (L : List Int) (mix : Int) (x4 x5 x6 x7 : Option D), L.length ≤ 62 * i ∧ 0 ≤ mix ∧ mix < 65537 ∧ e = [some (.scr ns), some (.int m), some (.lst true (L.map .int)), some (.int mix), x4, x5, x6, x7]) (fun i d e hd ⟨L, mix, x4, x5, x6, x7, hL, g0, g1, he⟩ => by
      obtain ⟨rfl, hlt⟩ := rng_at hd
      obtain ⟨L', mix', y4, y5, y6, y7, a1, a2, a3, a4⟩ := turn4 P ns (some (.int m)) x4 x5 x6 x7 L mix i (by omega) g0 g1 (by omega)
      exact ⟨_, by rw [he]; exact a4, L', mix', y4, y5, y6, y7, by omega, a2, a3, rfl⟩) ⟨[], 7, none, none, none, none, by simp, by decide, by decide, rfl⟩
  rw [rng_len] at hL1
  obtain ⟨e2, h2, L2, mix2, y4, hL2, k0, k1, rfl⟩ := loop_ix (env := [some (.scr ns), some (.int m), some (.lst true (L1.map .int)), some (.int mix1), x4, x5, x6, x7]) (step := fun d e => (bindT (.nm 4) d e).bind (evSs P body4')) (rngL 0 m)
    (fun i e => ∃ (L : List Int) (mix : Int) (x4 : Option D), L.length ≤ 62 * ns.length + i ∧ 0 ≤ mix ∧ mix < 65537 ∧ e = [some (.scr ns), some (.int m), some (.lst true (L.map .int)), some (.int mix), x4, x5, x6, x7]) (fun i d e hd ⟨L, mix, x4, hL, g0, g1, he⟩ => by
      obtain ⟨rfl, hlt⟩ := rng_at hd
      obtain ⟨L', mix', y4, a1, a2, a3, a4⟩ := turn4' P (some (.scr ns)) (some (.int m)) x4 x5 x6 x7 L mix i g0 g1 (by omega)
      exact ⟨_, by rw [he]; exact a4, L', mix', y4, by omega, a2, a3, rfl⟩) ⟨L1, mix1, x4, by simpa using hL1, g0, g1, rfl⟩
  have rk : rngOk m = true := by
    unfold rngOk
    rw [Bool.and_eq_true]
    exact ⟨decide_eq_true (by omega), decide_eq_true (by omega)⟩
  have rn : rngOk (ns.length : Int) = true := by
    unfold rngOk
    rw [Bool.and_eq_true]
    exact ⟨decide_eq_true (by omega), decide_eq_true (by omega)⟩
  refine ⟨((L2.drop (HT.sIx L2.length 0 none)).take (HT.sIx L2.length L2.length (some m) - HT.sIx L2.length 0 none)), run_of (f := fdDraws) (e := [some (.scr ns), some (.int m), some (.lst true (L2.map .int)), some (.int mix2), y4, x5, x6, x7]) rfl ?_ rfl⟩
  rw [b1]
  refine (ss_nx (e := [some (.scr ns), some (.int m), some (.lst true (([] : List Int).map .int)), none, none, none, none, none]) rfl).trans ((ss_nx (e := [some (.scr ns), some (.int m), some (.lst true (([] : List Int).map .int)), some (.int 7), none, none, none, none]) rfl).trans ?_)
  rw [ss_nx (s_rng (n := (ns.length : Int)) rfl rn h1), ss_nx (s_rng (n := m) rfl rk h2)]
  refine ss_rt ?_
  simp only [evSs, evS, evM, evA, evAs, evMs, evAnd, evOr, evI, evT, evTand, evTor, evKey, evPath, A.gets, A.get, A.tmp?, A.isTmp, A.isPk, A.bl?, A.int?, mat, lendA, backA, bindT, bindTs, bindN, updE, upd_nil, getP1, backP, getE0, getES, pl_int, pl_bl, pl_non, pl_str, pl_scr, pl_tup, pl_lst, pl_dK, pls_nil, pls_cons, fr_int, fr_lst, mk_t, o_add, o_sub, o_neg, o_abs, o_toInt, o_lt, o_le, o_gt, o_ge, o_eq, o_ne, o_lenL, o_lenT, o_lenS, tr_bl, a_add, a_sub, sz0, sz1, sz2, sz3, sz4, sz5, sz6, sz7, sz8, sz9, sz10, sz11, List.length_cons, List.length_nil, Nat.reduceAdd, at2_0, at2_1, sub_T, mk_int, mk_lst, Option.bind_some, Option.map_some, List.set_cons_zero, List.set_cons_succ, List.all_cons, List.all_nil, List.cons_append, List.nil_append, if_true, Bool.and_true, Bool.true_and, Bool.and_self, Bool.not_true, Bool.not_false, Bool.false_and, Bool.or_false, Bool.false_or, Bool.or_true, Bool.true_or, Bool.false_eq_true, if_false, List.isEmpty_nil, cutO, pls_ints, cut_ints]
end K31

namespace TL
open DL K31
open PySem (Str Operator CmpOp sizeLine)
structure W where
  ds : List Int
  at_ : Nat
def eW (w : W) : D := .dK true [.inr "draws", .inr "at"] [eL D.int w.ds, .int (w.at_ : Int)]
def fdNext : FD := ⟨2, 2, [], [
    .augS 0 [] (.str "at") .Add (.int 1),
    .ite (.val (.op (.cmp .Gt) [(.sub (.var 0) (.str "at")), (.op .len [(.sub (.var 0) (.str "draws"))])])) [.ret (.int 0)] [],
    .ret (.op (.bin .Mod) [(.op .toInt [(.sub (.sub (.var 0) (.str "draws")) (.op (.bin .Sub) [(.sub (.var 0) (.str "at")), (.int 1)]))]), (.var 1)])]⟩
def fdPickF (j : Nat) : FD := ⟨2, 2, [], [.ret (.sub (.fz 1) (.call j [.var 0, .op .len [.var 1]]))]⟩
def fdPick (j : Nat) : FD := ⟨2, 2, [], [.ret (.sub (.var 1) (.call j [.var 0, .op .len [.var 1]]))]⟩
def nextW (w : W) (n : Int) : Option (Int × W) := if (w.ds.length : Int) < (w.at_ : Int) + 1 then some (0, ⟨w.ds, w.at_ + 1⟩) else if n = 0 then none else (w.ds[w.at_]?).bind fun x => some (modD x n, ⟨w.ds, w.at_ + 1⟩)
theorem eW_at (w : W) : subD (eW w) (.str "at") = some (.int (w.at_ : Int)) := rfl
theorem eW_dr (w : W) : subD (eW w) (.str "draws") = some (eL D.int w.ds) := rfl
theorem eW_set (w : W) : setD (eW w) (.str "at") (.int ((w.at_ : Int) + 1)) = some (eW ⟨w.ds, w.at_ + 1⟩) := rfl
theorem eW_pl (w : W) : D.plain (eW w) = false := rfl
theorem nextW_runs (P : DL.Ctx) (w : W) (n : Int) (r : Int × W) (h : nextW w n = some r) : runF P fdNext [eW w, .int n] = some (.int r.1, [eW r.2, .int n]) := by
  have e1 : evS P (.augS 0 [] (.str "at") .Add (.int 1)) [some (eW w), some (.int n)] = some (.nx, [some (eW ⟨w.ds, w.at_ + 1⟩), some (.int n)]) := s_augS (c := eW w) rfl x_str (eW_at w) x_int rfl a_add (eW_set w) rfl
  have t1 : TX P false [some (eW ⟨w.ds, w.at_ + 1⟩), some (.int n)] (.val (.op (.cmp .Gt) [.sub (.var 0) (.str "at"), .op .len [.sub (.var 0) (.str "draws")]])) (decide ((w.ds.length : Int) < (w.at_ : Int) + 1)) [some (eW ⟨w.ds, w.at_ + 1⟩), some (.int n)] :=
    t_bl (x_op2 (x_sub (x_ref rfl rfl) x_str rfl rfl (eW_at _) mk_int) (x_op1 (x_sub (x_ref rfl rfl) x_str rfl rfl (eW_dr _) mk_lst) rfl o_lnL) rfl rfl o_gt)
  unfold nextW at h
  refine run_G rfl ?_
  show RetG _ _ _ _ (evSs P _ [some (eW w), some (.int n)])
  refine g_nx e1 ?_
  by_cases hc : (w.ds.length : Int) < (w.at_ : Int) + 1
  · rw [if_pos hc] at h
    cases h
    refine g_iteT t1 (decide_eq_true hc) (g_rt (s_rtv x_int) ⟨_, _, rfl, .inl rfl, rfl⟩)
  · rw [if_neg hc] at h
    by_cases hn : n = 0
    · rw [if_pos hn] at h; cases h
    · rw [if_neg hn] at h
      obtain ⟨x, hx, h⟩ := bnd h
      cases h
      have ha : L2.atI w.ds (((w.at_ + 1 : Nat) : Int) - 1) = some x := by
        rw [show (((w.at_ + 1 : Nat) : Int) - 1) = (w.at_ : Int) by omega]
        exact L2.atI_nat hx
      refine g_iteF t1 (decide_eq_false hc) (g_rt (s_rtv (x_op2 (x_op1 (x_sub (x_sub (x_ref rfl rfl) x_str rfl rfl (eW_dr _) mk_lst) (x_op2 (x_sub (x_ref rfl rfl) x_str rfl rfl (eW_at _) mk_int) x_int rfl rfl o_sub) rfl rfl (s_L ha) mk_int) rfl o_toInt) (x_var D.int rfl) rfl rfl (o_mod hn))) ⟨_, _, rfl, .inl rfl, rfl⟩)
theorem nextW_ok (w : W) {n : Int} (h : 0 < n) : ∃ r w', nextW w n = some (r, w') ∧ 0 ≤ r ∧ r < n := by
  unfold nextW
  by_cases hc : (w.ds.length : Int) < (w.at_ : Int) + 1
  · rw [if_pos hc]
    exact ⟨0, _, rfl, by omega, h⟩
  · rw [if_neg hc, if_neg (by omega), List.getElem?_eq_getElem (by omega)]
    refine ⟨_, _, rfl, ?_, ?_⟩
    · rw [modD_pos h]; exact Int.emod_nonneg _ (by omega)
    · rw [modD_pos h]; exact Int.emod_lt_of_pos _ h
def pickW {α : Type} (w : W) (xs : List α) : Option (α × W) := (nextW w (xs.length : Int)).bind fun p => (L2.atI xs p.1).bind fun x => some (x, p.2)
theorem pickW_ok {α : Type} (w : W) {xs : List α} (h : xs ≠ []) : ∃ x w', pickW w xs = some (x, w') ∧ x ∈ xs := by
  obtain ⟨r, w', h1, h2, h3⟩ := nextW_ok w (n := (xs.length : Int)) (by have := List.length_pos_iff.mpr h; omega)
  obtain ⟨k, rfl⟩ : ∃ k : Nat, r = k := ⟨r.toNat, by omega⟩
  have hk : k < xs.length := by omega
  refine ⟨xs[k], w', ?_, List.getElem_mem hk⟩
  unfold pickW
  rw [h1]
  show (L2.atI xs (k : Int)).bind _ = _
  rw [at_in hk]; rfl
def S_next (P : DL.Ctx) (j : Nat) : Prop := ∀ w n r, nextW w n = some r → P.call j [eW w, .int n] = some (.int r.1, [eW r.2, .int n])
theorem pickF_runs {α : Type} (P : DL.Ctx) (j : Nat) (hN : S_next P j) (f : α → D) (g : D) (w : W) (xs : List α) (x : α) (w' : W) (h : pickW w xs = some (x, w')) (hg : (f x).freeze = g) : runF P (fdPickF j) [eW w, eL f xs] = some (g, [eW w', .lst false (D.freezes (xs.map f))]) := by
  obtain ⟨p, h1, h⟩ := bnd h
  obtain ⟨y, h2, h⟩ := bnd h
  obtain ⟨i, w1⟩ := p
  cases h
  have h1 := hN _ _ _ h1
  have hz : ∀ ds : List D, D.freezes ds = ds.map D.freeze := fun ds => by
    induction ds with
    | nil => rfl
    | cons d ds ih => show d.freeze :: D.freezes ds = _; rw [ih]; rfl
  have ha : L2.atI (D.freezes (xs.map f)) i = some g := by rw [hz, List.map_map, ← hg]; exact at_map (f := D.freeze ∘ f) h2
  have hl : opD .len [.lst false (D.freezes (xs.map f))] = some (.int (xs.length : Int)) := by show some (D.int ((D.freezes (xs.map f)).length : Int)) = _; rw [hz, List.length_map, List.length_map]
  refine run_G rfl ?_
  show RetG _ _ _ _ (evSs P _ [some (eW w), some (eL f xs)])
  refine g_rt (s_rtv (x_sub (x_fz rfl rfl) (x_call (q_cons (x_ref rfl rfl) (q_cons (x_op1 (x_varp rfl rfl) rfl hl) q_nil)) rfl rfl h1 rfl) rfl rfl ha mk_t)) ⟨_, _, rfl, .inl rfl, rfl⟩
theorem pick_runs {α : Type} (P : DL.Ctx) (j : Nat) (hN : S_next P j) (f : α → D) [Pl f] (w : W) (xs : List α) (x : α) (w' : W) (h : pickW w xs = some (x, w')) : runF P (fdPick j) [eW w, eL f xs] = some (f x, [eW w', eL f xs]) := by
  obtain ⟨p, h1, h⟩ := bnd h
  obtain ⟨y, h2, h⟩ := bnd h
  obtain ⟨i, w1⟩ := p
  cases h
  have h1 := hN _ _ _ h1
  refine run_G rfl ?_
  show RetG _ _ _ _ (evSs P _ [some (eW w), some (eL f xs)])
  refine g_rt (s_rtv (x_sub (x_ref rfl rfl) (x_call (q_cons (x_ref rfl rfl) (q_cons (x_op1 (x_ref rfl rfl) rfl o_lnL) q_nil)) rfl rfl h1 rfl) rfl rfl (s_L h2) (mk_p f _ _))) ⟨_, _, rfl, .inl rfl, rfl⟩
theorem pick_runsT {α : Type} (P : DL.Ctx) (j : Nat) (hN : S_next P j) (f : α → D) [Pl f] (w : W) (xs : List α) (x : α) (w' : W) (h : pickW w xs = some (x, w')) : runF P (fdPick j) [eW w, eT f xs] = some (f x, [eW w', eT f xs]) := by
  obtain ⟨p, h1, h⟩ := bnd h
  obtain ⟨y, h2, h⟩ := bnd h
  obtain ⟨i, w1⟩ := p
  cases h
  have h1 := hN _ _ _ h1
  refine run_G rfl ?_
  show RetG _ _ _ _ (evSs P _ [some (eW w), some (eT f xs)])
  refine g_rt (s_rtv (x_sub (x_var (eT f) rfl) (x_call (q_cons (x_ref rfl rfl) (q_cons (x_op1 (x_var (eT f) rfl) rfl o_lnT) q_nil)) rfl rfl h1 rfl) rfl rfl (s_T h2) (mk_p f _ _))) ⟨_, _, rfl, .inl rfl, ?_⟩
  exact bk_r rfl rfl rfl (bk_p (Pl.pl (f := eT f) xs) bk_nil)
end TL
end

section
/-! TL6: words that the printer of typed texts uses. -/
namespace TL
open DL
open PySem (Str Operator CmpOp sizeLine PyData)
section
variable {α β γ δ σ ρ : Type} {P : Ctx} {m : Bool} {env env1 env2 env3 : EnvD}
theorem x_lstL (f : α → D) (xs : List α) {es : List E} (h : MX P m env es (xs.map f) env1) (hs : decide ((xs.map f).length ≤ 64) = true) : AX P m env (.lst es) (.tmp (eL f xs)) env1 := x_lst h hs
theorem x_tupT (f : α → D) (xs : List α) {es : List E} (h : MX P m env es (xs.map f) env1) (hs : decide ((xs.map f).length ≤ 64) = true) : AX P m env (.tup es) (.tmp (eT f xs)) env1 := x_tup h hs
theorem x_tupP (f : α → D) (g : β → D) (a : α) (b : β) {es : List E} (h : MX P m env es [f a, g b] env1) : AX P m env (.tup es) (.tmp (eP f g (a, b))) env1 := x_tup h rfl
theorem x_tup3 (f : α → D) (g : β → D) (k : γ → D) (a : α) (b : β) (c : γ) {es : List E} (h : MX P m env es [f a, g b, k c] env1) : AX P m env (.tup es) (.tmp (e3 f g k (a, b, c))) env1 := x_tup h rfl
theorem x_tup4 (f : α → D) (g : β → D) (k : γ → D) (l : δ → D) (a : α) (b : β) (c : γ) (d : δ) {es : List E} (h : MX P m env es [f a, g b, k c, l d] env1) : AX P m env (.tup es) (.tmp (e4 f g k l (a, b, c, d))) env1 := x_tup h rfl
theorem c_VT (xs : List PV) : eT PV.enc xs = PV.enc (.tup xs) := by show D.tup _ = D.tup _; rw [encs_map]
theorem c_VF (xs : List PV) : eF PV.enc xs = PV.enc (.lst xs) := by show D.lst false _ = D.lst false _; rw [encs_map]
theorem c_LUV (xs : List PV) : eL PV.enc xs = eU (true, .lst xs) := by show D.lst true _ = D.lst true _; rw [encs_map]
theorem c_PT {f : α → D} {g : β → D} {h : γ → D} {p : α × β} {x y : γ} (h1 : f p.1 = h x) (h2 : g p.2 = h y) : eP f g p = eT h [x, y] := by show D.tup [_, _] = D.tup [_, _]; rw [h1, h2]
theorem c_3T {f : α → D} {g : β → D} {k : δ → D} {h : γ → D} {p : α × β × δ} {x y z : γ} (h1 : f p.1 = h x) (h2 : g p.2.1 = h y) (h3 : k p.2.2 = h z) : e3 f g k p = eT h [x, y, z] := by show D.tup [_, _, _] = D.tup [_, _, _]; rw [h1, h2, h3]
theorem c_1T {f : α → D} {h : γ → D} {a : α} {x : γ} (h1 : f a = h x) : D.tup [f a] = eT h [x] := by show D.tup [_] = D.tup [_]; rw [h1]
theorem c_OO (f : α → D) (g : β → D) (t : α → β) (h : ∀ a, f a = g (t a)) (x : Option α) : eO f x = eO g (x.map t) := by
  cases x with
  | none => rfl
  | some a => exact h a
/-- a row as a pair, a triple -/
def as2 : List α → Option (α × α)
  | [a, b] => some (a, b)
  | _ => none
def as3 : List α → Option (α × α × α)
  | [a, b, c] => some (a, b, c)
  | _ => none
theorem as2_T {f : α → D} {xs : List α} {p : α × α} (h : as2 xs = some p) : eT f xs = eP f f p := by
  unfold as2 at h
  split at h
  · cases h; rfl
  · cases h
theorem as3_T {f : α → D} {xs : List α} {p : α × α × α} (h : as3 xs = some p) : eT f xs = e3 f f f p := by
  unfold as3 at h
  split at h
  · cases h; rfl
  · cases h
end
end TL
end

section
/-! TL7: words that the printer of typed texts uses. -/
namespace TL
open DL
open PySem (Str Operator CmpOp sizeLine PyData)
def sumO {ρ σ τ : Type} (z : ρ ⊕ σ) (f : ρ → Option τ) (g : σ → Option τ) : Option τ := match z with
  | .inl r => f r
  | .inr s => g s
theorem sumO_l {ρ σ τ : Type} {q : ρ} {f : ρ → Option τ} {g : σ → Option τ} {r : Option τ} (h : sumO (.inl q) f g = r) : f q = r := h
theorem sumO_r {ρ σ τ : Type} {q : σ} {f : ρ → Option τ} {g : σ → Option τ} {r : Option τ} (h : sumO (.inr q) f g = r) : g q = r := h
theorem bnde {α : Type} {x : Option α} {r : α} (h : x = some r) : ∃ a, x = some a ∧ some a = some r := ⟨r, h, rfl⟩
def S_pick (P : DL.Ctx) (j : Nat) : Prop := ∀ {α : Type} (f : α → D) [Pl f] (w : W) (xs : List α) (x : α) (w' : W), pickW w xs = some (x, w') → P.call j [eW w, eL f xs] = some (f x, [eW w', eL f xs])
def S_pickT (P : DL.Ctx) (j : Nat) : Prop := ∀ {α : Type} (f : α → D) [Pl f] (w : W) (xs : List α) (x : α) (w' : W), pickW w xs = some (x, w') → P.call j [eW w, eT f xs] = some (f x, [eW w', eT f xs])
def S_pickF (P : DL.Ctx) (j : Nat) : Prop := ∀ {α : Type} (f : α → D) (g : D) (w : W) (xs : List α) (x : α) (w' : W), pickW w xs = some (x, w') → (f x).freeze = g → P.call j [eW w, eL f xs] = some (g, [eW w', .lst false (D.freezes (xs.map f))])
theorem c_4T {α β γ δ ε : Type} {f : α → D} {g : β → D} {k : γ → D} {l : δ → D} {h : ε → D} {p : α × β × γ × δ} {x y z w : ε} (h1 : f p.1 = h x) (h2 : g p.2.1 = h y) (h3 : k p.2.2.1 = h z) (h4 : l p.2.2.2 = h w) : e4 f g k l p = eT h [x, y, z, w] := by show D.tup [_, _, _, _] = D.tup [_, _, _, _]; rw [h1, h2, h3, h4]
theorem m_consZ {P : DL.Ctx} {env env1 env2 : EnvD} {e : E} {es : List E} {i : Nat} {d d' : D} {ds : List D} (h0 : AX P false env e (.ref i) env) (g : getE env i = some d) (hz : d.freeze = d') (he : env.set i (some d') = env1) (h2 : MX P false env1 es ds env2) : MX P false env (e :: es) (d' :: ds) env2 := by
  show (((evA P false e env).bind fun x => mat false x.1 x.2).bind _) = _
  rw [h0]
  show (((getE env i).map fun d => (d.freeze, env.set i (some d.freeze))).bind _) = _
  rw [g]
  subst hz
  show ((evMs P false es (env.set i (some d.freeze))).map _) = _
  rw [he, h2]; rfl
theorem x_compSL {α β σ : Type} {P : DL.Ctx} {m : Bool} {env env1 env2 : EnvD} {tg : Tg} {own : List Nat} {k : SrcK} {src : List E} {ifs : List T} {elt : E} {lent : Option (Nat × D)} {m' : Bool} {f : α → D} {g : β → D} {F : α → σ → Option (Option β × σ)} {E0 : σ → EnvD} {s : σ} {xs : List α} {ys : List β × σ} {e3 : EnvD}
    (h1 : SrcOk P m env k src (xs.map f) m' env1 env2 lent) (h0 : wipeE own env2 = E0 s) (hz : xs.length ≤ sizeLine) (hF : compS F xs s = some ys)
    (hs : ∀ x s y, F x s = some y → CY g (E0 y.2) (stepC P m' tg own ifs elt (f x) (E0 s)) y.1) (he : unlend lent (restE own env1 (E0 ys.2)) = e3) :
    AX P m env (.comp tg own k src ifs elt) (.tmp (eL g ys.1)) e3 := x_compS h1 h0 hz hF hs he
theorem S_of {T : List FD} {k k' i : Nat} {f : FD} {ds : List D} {x : D × List D} (hk : k' = k + 1) (hT : T[i]? = some f) (h : runF ⟨evF T k⟩ f ds = some x) : (Ctx.mk (evF T k')).call i ds = some x := by subst hk; exact evF_of hT h
/-! a plain value as a thing of a type -/
def dnT {α : Type} (f : PV → Option α) (v : PV) : Option (List α) := v.asT.bind fun vs => mapO f vs
def dnP {α β : Type} (f : PV → Option α) (g : PV → Option β) (v : PV) : Option (α × β) := v.as2.bind fun p => (f p.1).bind fun a => (g p.2).bind fun b => some (a, b)
def dn3 {α β γ : Type} (f : PV → Option α) (g : PV → Option β) (h : PV → Option γ) (v : PV) : Option (α × β × γ) := v.as3.bind fun p => (f p.1).bind fun a => (g p.2.1).bind fun b => (h p.2.2).bind fun c => some (a, b, c)
theorem mapO_enc {α : Type} {f : PV → Option α} {e : α → D} (h : ∀ v a, f v = some a → PV.enc v = e a) : ∀ {vs : List PV} {xs : List α}, mapO f vs = some xs → vs.map PV.enc = xs.map e
  | [], xs, q => by cases q; rfl
  | v :: vs, xs, q => by
    obtain ⟨a, h1, q⟩ := bnd q
    obtain ⟨ys, h2, q⟩ := bnd q
    cases q
    rw [List.map_cons, List.map_cons, h v a h1, mapO_enc h h2]
theorem dnT_enc {α : Type} {f : PV → Option α} {e : α → D} (h : ∀ v a, f v = some a → PV.enc v = e a) (v : PV) (xs : List α) (q : dnT f v = some xs) : PV.enc v = eT e xs := by
  obtain ⟨vs, h1, q⟩ := bnd q
  rw [asT_enc h1]
  exact congrArg D.tup (mapO_enc h q)
theorem dnTT_enc {α : Type} {f : PV → Option α} {e : α → D} (h : ∀ v a, f v = some a → PV.enc v = e a) (vs : List PV) (xs : List α) (q : mapO f vs = some xs) : eT PV.enc vs = eT e xs := congrArg D.tup (mapO_enc h q)
theorem dnP_enc {α β : Type} {f : PV → Option α} {g : PV → Option β} {e : α → D} {k : β → D} (hf : ∀ v a, f v = some a → PV.enc v = e a) (hg : ∀ v a, g v = some a → PV.enc v = k a) (v : PV) (p : α × β) (q : dnP f g v = some p) : PV.enc v = eP e k p := by
  obtain ⟨x, h1, q⟩ := bnd q
  obtain ⟨a, h2, q⟩ := bnd q
  obtain ⟨b, h3, q⟩ := bnd q
  cases q
  rw [as2_enc h1]
  show D.tup [_, _] = D.tup [_, _]
  rw [hf _ _ h2, hg _ _ h3]
theorem dn3_enc {α β γ : Type} {f : PV → Option α} {g : PV → Option β} {i : PV → Option γ} {e : α → D} {k : β → D} {l : γ → D} (hf : ∀ v a, f v = some a → PV.enc v = e a) (hg : ∀ v a, g v = some a → PV.enc v = k a) (hi : ∀ v a, i v = some a → PV.enc v = l a) (v : PV) (p : α × β × γ) (q : dn3 f g i v = some p) : PV.enc v = e3 e k l p := by
  obtain ⟨x, h1, q⟩ := bnd q
  obtain ⟨a, h2, q⟩ := bnd q
  obtain ⟨b, h3, q⟩ := bnd q
  obtain ⟨c, h4, q⟩ := bnd q
  cases q
  rw [as3_enc h1]
  show D.tup [_, _, _] = D.tup [_, _, _]
  rw [hf _ _ h2, hg _ _ h3, hi _ _ h4]
theorem dnI_enc (v : PV) (i : Int) (h : PV.asI v = some i) : PV.enc v = D.int i := asI_enc h
theorem dnB_enc (v : PV) (i : Bool) (h : PV.asB v = some i) : PV.enc v = D.bl i := asB_enc h
theorem dnV_enc (v : PV) (i : PV) (h : some v = some i) : PV.enc v = PV.enc i := by cases h; rfl
end TL
end

section
/-! TL8: more typed words. -/
namespace TL
open DL
open PySem (Str Operator CmpOp sizeLine)
def PV.as4 : PV → Option (PV × PV × PV × PV)
  | .tup [a, b, c, d] => some (a, b, c, d)
  | _ => none
theorem as4_enc {v : PV} {p : PV × PV × PV × PV} (h : v.as4 = some p) : PV.enc v = e4 PV.enc PV.enc PV.enc PV.enc p := by
  unfold PV.as4 at h
  split at h
  · cases h; rfl
  · cases h
def dn4 {α β γ δ : Type} (f : PV → Option α) (g : PV → Option β) (h : PV → Option γ) (i : PV → Option δ) (v : PV) : Option (α × β × γ × δ) := v.as4.bind fun p => (f p.1).bind fun a => (g p.2.1).bind fun b => (h p.2.2.1).bind fun c => (i p.2.2.2).bind fun d => some (a, b, c, d)
theorem dn4_enc {α β γ δ : Type} {f : PV → Option α} {g : PV → Option β} {i : PV → Option γ} {j : PV → Option δ} {e : α → D} {k : β → D} {l : γ → D} {n : δ → D} (hf : ∀ v a, f v = some a → PV.enc v = e a) (hg : ∀ v a, g v = some a → PV.enc v = k a) (hi : ∀ v a, i v = some a → PV.enc v = l a) (hj : ∀ v a, j v = some a → PV.enc v = n a) (v : PV) (p : α × β × γ × δ) (q : dn4 f g i j v = some p) : PV.enc v = e4 e k l n p := by
  obtain ⟨x, h1, q⟩ := bnd q
  obtain ⟨a, h2, q⟩ := bnd q
  obtain ⟨b, h3, q⟩ := bnd q
  obtain ⟨c, h4, q⟩ := bnd q
  obtain ⟨d, h5, q⟩ := bnd q
  cases q
  rw [as4_enc h1]
  show D.tup [_, _, _, _] = D.tup [_, _, _, _]
  rw [hf _ _ h2, hg _ _ h3, hi _ _ h4, hj _ _ h5]
theorem o_sumT {xs : List Int} : opD .sum [eT D.int xs] = some (.int xs.sum) := by
  show (ints? (xs.map D.int)).map _ = _; rw [ints_m]; rfl
theorem o_minT {xs : List Int} {m : Int} (h : minI xs = some m) : opD .min [eT D.int xs] = some (.int m) := by
  show (ints? (xs.map D.int)).bind _ = _; rw [ints_m]; show (minI xs).map _ = _; rw [h]; rfl
theorem o_maxT {xs : List Int} {m : Int} (h : maxI xs = some m) : opD .max [eT D.int xs] = some (.int m) := by
  show (ints? (xs.map D.int)).bind _ = _; rw [ints_m]; show (maxI xs).map _ = _; rw [h]; rfl
def repTG (xs : List α) (k : Int) : Option (List α) := if (!xs.isEmpty && decide (k ≤ 1000) && decide (-(2 ^ 62) ≤ k) && decide (xs.length ≤ 1000)) = true then some (List.replicate k.toNat xs).flatten else none
theorem repTG_of {x : α} {k : Int} (h0 : -1000000 ≤ k) (h : k ≤ 1000) : repTG [x] k = some (List.replicate k.toNat x) := by
  unfold repTG
  rw [if_pos]
  · congr 1
    induction k.toNat with
    | zero => rfl
    | succ n ih => rw [List.replicate_succ, List.flatten_cons, ih]; rfl
  · rw [Bool.and_eq_true, Bool.and_eq_true, Bool.and_eq_true, decide_eq_true_eq, decide_eq_true_eq, decide_eq_true_eq]
    exact ⟨⟨⟨rfl, h⟩, by omega⟩, by simp⟩
theorem emp_map (f : α → D) (xs : List α) : (xs.map f).isEmpty = xs.isEmpty := by cases xs <;> rfl
theorem o_repT (f : α → D) [Pl f] {xs zs : List α} {k : Int} (h : repTG xs k = some zs) : opD (.bin .Mult) [eT f xs, .int k] = some (eT f zs) := by
  unfold repTG at h
  split at h
  · rename_i hc
    cases h
    show (if D.plains (xs.map f) && !(xs.map f).isEmpty && decide (k ≤ 1000) && decide (-(2 ^ 62) ≤ k) && decide ((xs.map f).length ≤ 1000) then some (D.tup (List.replicate k.toNat (xs.map f)).flatten) else none) = _
    rw [pls_map, List.length_map, flat_map, emp_map, Bool.true_and, if_pos hc]; rfl
  · cases h
section
variable {P : DL.Ctx} {m : Bool} {env env1 env2 : EnvD}
theorem x_cmp3P {o1 o2 o3 : CmpOp} {a b c d : E} {i j : Int} {t w : Bool} (h1 : AX P m env a (.tmp (.int i)) env1) (h2 : AX P m env1 b (.tmp (.int j)) env2) (k1 : cmpI o1 i j = some t) (h3 : t = true → ∃ k u, AX P m env2 c (.tmp (.int k)) env2 ∧ cmpI o2 j k = some u ∧ (u = true → ∃ l, AX P m env2 d (.tmp (.int l)) env2 ∧ cmpI o3 k l = some w) ∧ (u = false → w = false)) (h4 : t = false → w = false) : AX P m env (.cmp3 o1 o2 o3 a b c d) (.tmp (.bl w)) env2 := by
  show ((evA P m a env).bind _) = _
  rw [h1]
  show ((evA P m b env1).bind _) = _
  rw [h2]
  show ((cmpI o1 i j).bind _) = _
  rw [k1]
  cases t with
  | false => rw [h4 rfl]; rfl
  | true =>
    obtain ⟨k, u, g1, g2, g3, g4⟩ := h3 rfl
    show ((evA P m c env2).bind _) = _
    rw [g1]
    show ((cmpI o2 j k).bind _) = _
    rw [g2]
    cases u with
    | false => rw [g4 rfl]; rfl
    | true =>
      obtain ⟨l, g5, g6⟩ := g3 rfl
      show ((evA P m d env2).bind _) = _
      rw [g5]
      show ((cmpI o3 k l).map _) = _
      rw [g6]; rfl
theorem x_cmp2P {o1 o2 : CmpOp} {a b c : E} {dx dy : D} {t w : Bool} (h1 : AX P m env a (.tmp dx) env1) (h2 : AX P (m || false) env1 b (.tmp dy) env2) (k1 : (cmpD o1 dx dy).bind D.bl? = some t) (h3 : t = true → ∃ dz, AX P m env2 c (.tmp dz) env2 ∧ cmpD o2 dy dz = some (.bl w)) (h4 : t = false → w = false) : AX P m env (.cmp2 o1 o2 a b c) (.tmp (.bl w)) env2 := by
  cases t with
  | true =>
    obtain ⟨dz, g1, g2⟩ := h3 rfl
    have := x_cmp2 (P := P) h1 h2 k1 g1 g2
    rwa [Bool.true_and] at this
  | false =>
    rw [h4 rfl]
    show ((evA P m a env).bind _) = _
    rw [h1]
    show ((evA P (m || false) b env1).bind _) = _
    rw [h2]
    show (((cmpD o1 dx dy).bind D.bl?).bind _) = _
    rw [k1]
    rfl
end
def e5 (f : α → D) (g : β → D) (h : γ → D) (i : δ → D) (j : ε → D) (p : α × β × γ × δ × ε) : D := .tup [f p.1, g p.2.1, h p.2.2.1, i p.2.2.2.1, j p.2.2.2.2]
def e6 (f : α → D) (g : β → D) (h : γ → D) (i : δ → D) (j : ε → D) (k : ζ → D) (p : α × β × γ × δ × ε × ζ) : D := .tup [f p.1, g p.2.1, h p.2.2.1, i p.2.2.2.1, j p.2.2.2.2.1, k p.2.2.2.2.2]
instance (f : α → D) (g : β → D) (h : γ → D) (i : δ → D) (j : ε → D) [hf : Pl f] [hg : Pl g] [hh : Pl h] [hi : Pl i] [hj : Pl j] : Pl (e5 f g h i j) := ⟨fun p => by
  show (D.plain (f p.1) && (D.plain (g p.2.1) && (D.plain (h p.2.2.1) && (D.plain (i p.2.2.2.1) && (D.plain (j p.2.2.2.2) && true))))) = true
  rw [hf.pl, hg.pl, hh.pl, hi.pl, hj.pl]; rfl⟩
instance (f : α → D) (g : β → D) (h : γ → D) (i : δ → D) (j : ε → D) (k : ζ → D) [hf : Pl f] [hg : Pl g] [hh : Pl h] [hi : Pl i] [hj : Pl j] [hk : Pl k] : Pl (e6 f g h i j k) := ⟨fun p => by
  show (D.plain (f p.1) && (D.plain (g p.2.1) && (D.plain (h p.2.2.1) && (D.plain (i p.2.2.2.1) && (D.plain (j p.2.2.2.2.1) && (D.plain (k p.2.2.2.2.2) && true)))))) = true
  rw [hf.pl, hg.pl, hh.pl, hi.pl, hj.pl, hk.pl]; rfl⟩
instance (f : α → D) (g : β → D) (h : γ → D) (i : δ → D) (j : ε → D) [hf : Fz f] [hg : Fz g] [hh : Fz h] [hi : Fz i] [hj : Fz j] : Fz (e5 f g h i j) := ⟨fun p => by
  show D.tup [D.freeze (f p.1), D.freeze (g p.2.1), D.freeze (h p.2.2.1), D.freeze (i p.2.2.2.1), D.freeze (j p.2.2.2.2)] = _
  rw [hf.fz, hg.fz, hh.fz, hi.fz, hj.fz]; rfl⟩
instance (f : α → D) (g : β → D) (h : γ → D) (i : δ → D) (j : ε → D) (k : ζ → D) [hf : Fz f] [hg : Fz g] [hh : Fz h] [hi : Fz i] [hj : Fz j] [hk : Fz k] : Fz (e6 f g h i j k) := ⟨fun p => by
  show D.tup [D.freeze (f p.1), D.freeze (g p.2.1), D.freeze (h p.2.2.1), D.freeze (i p.2.2.2.1), D.freeze (j p.2.2.2.2.1), D.freeze (k p.2.2.2.2.2)] = _
  rw [hf.fz, hg.fz, hh.fz, hi.fz, hj.fz, hk.fz]; rfl⟩
instance (f : α → D) (g : β → D) (h : γ → D) (i : δ → D) (j : ε → D) : NN (e5 f g h i j) := ⟨fun _ => rfl⟩
instance (f : α → D) (g : β → D) (h : γ → D) (i : δ → D) (j : ε → D) (k : ζ → D) : NN (e6 f g h i j k) := ⟨fun _ => rfl⟩
section
variable {P : DL.Ctx} {m : Bool} {env env1 : EnvD}
theorem x_tup5 (f : α → D) (g : β → D) (k : γ → D) (l : δ → D) (n : ε → D) (a : α) (b : β) (c : γ) (d : δ) (e : ε) {es : List E} (h : MX P m env es [f a, g b, k c, l d, n e] env1) : AX P m env (.tup es) (.tmp (e5 f g k l n (a, b, c, d, e))) env1 := x_tup h rfl
theorem x_tup6 (f : α → D) (g : β → D) (k : γ → D) (l : δ → D) (n : ε → D) (o : ζ → D) (a : α) (b : β) (c : γ) (d : δ) (e : ε) (z : ζ) {es : List E} (h : MX P m env es [f a, g b, k c, l d, n e, o z] env1) : AX P m env (.tup es) (.tmp (e6 f g k l n o (a, b, c, d, e, z))) env1 := x_tup h rfl
end
theorem c_5 (f : α → D) (g : β → D) (i : γ → D) (j : δ → D) (k : ε → D) (t : α → PV) (u : β → PV) (v : γ → PV) (w : δ → PV) (x : ε → PV) (h1 : ∀ a, f a = PV.enc (t a)) (h2 : ∀ a, g a = PV.enc (u a)) (h3 : ∀ a, i a = PV.enc (v a)) (h4 : ∀ a, j a = PV.enc (w a)) (h5 : ∀ a, k a = PV.enc (x a)) (p : α × β × γ × δ × ε) : e5 f g i j k p = PV.enc (.tup [t p.1, u p.2.1, v p.2.2.1, w p.2.2.2.1, x p.2.2.2.2]) := by
  show D.tup [_, _, _, _, _] = D.tup [_, _, _, _, _]
  rw [h1, h2, h3, h4, h5]
theorem c_5T {f : α → D} {g : β → D} {i : γ → D} {j : δ → D} {k : ε → D} {h : ζ → D} {p : α × β × γ × δ × ε} {x y z w v : ζ} (h1 : f p.1 = h x) (h2 : g p.2.1 = h y) (h3 : i p.2.2.1 = h z) (h4 : j p.2.2.2.1 = h w) (h5 : k p.2.2.2.2 = h v) : e5 f g i j k p = eT h [x, y, z, w, v] := by
  show D.tup [_, _, _, _, _] = D.tup [_, _, _, _, _]; rw [h1, h2, h3, h4, h5]
theorem c_6T {f : α → D} {g : β → D} {i : γ → D} {j : δ → D} {k : ε → D} {l : ζ → D} {h : η → D} {p : α × β × γ × δ × ε × ζ} {x y z w v u : η} (h1 : f p.1 = h x) (h2 : g p.2.1 = h y) (h3 : i p.2.2.1 = h z) (h4 : j p.2.2.2.1 = h w) (h5 : k p.2.2.2.2.1 = h v) (h6 : l p.2.2.2.2.2 = h u) : e6 f g i j k l p = eT h [x, y, z, w, v, u] := by
  show D.tup [_, _, _, _, _, _] = D.tup [_, _, _, _, _, _]; rw [h1, h2, h3, h4, h5, h6]
theorem c_44 {α' β' γ' δ' : Type} (f : α → D) (g : β → D) (i : γ → D) (j : δ → D) (f' : α' → D) (g' : β' → D) (i' : γ' → D) (j' : δ' → D) (t : α → α') (u : β → β') (v : γ → γ') (w : δ → δ') (h1 : ∀ a, f a = f' (t a)) (h2 : ∀ a, g a = g' (u a)) (h3 : ∀ a, i a = i' (v a)) (h4 : ∀ a, j a = j' (w a)) (p : α × β × γ × δ) : e4 f g i j p = e4 f' g' i' j' (t p.1, u p.2.1, v p.2.2.1, w p.2.2.2) := by
  show D.tup [_, _, _, _] = D.tup [_, _, _, _]
  rw [h1, h2, h3, h4]
end TL
end

section
/-! TL9: pops, dicts whose keys are ints. -/
namespace TL
open DL
open PySem (Str Operator CmpOp sizeLine)
theorem o_nisB {b x : Bool} : opD (.nisB b) [D.bl x] = some (.bl (!decide (x = b))) := rfl
def popG (xs : List α) : Option (α × List α) := (xs[xs.length - 1]?).map fun x => (x, xs.eraseIdx (xs.length - 1))
def popAtG (xs : List α) (j : Int) : Option (α × List α) := (if xs.length ≤ sizeLine then L2.ixN xs.length j else none).bind fun k => (xs[k]?).map fun x => (x, xs.eraseIdx k)
theorem erase_map (f : α → D) : ∀ (xs : List α) (k : Nat), (xs.map f).eraseIdx k = (xs.eraseIdx k).map f
  | [], _ => rfl
  | x :: xs, 0 => rfl
  | x :: xs, k + 1 => by
    show f x :: (xs.map f).eraseIdx k = f x :: (xs.eraseIdx k).map f
    rw [erase_map f xs k]
theorem popD_L {f : α → D} [hp : Pl f] {xs : List α} {k : Nat → Option Nat} {j : Nat} {x : α} (h1 : k xs.length = some j) (h2 : xs[j]? = some x) : popD k (eL f xs) = some (f x, eL f (xs.eraseIdx j)) := by
  show ((k (xs.map f).length).bind fun j => ((xs.map f)[j]?).bind fun x => if x.plain then some (x, D.lst true ((xs.map f).eraseIdx j)) else none) = _
  rw [List.length_map, h1, Option.bind_some, List.getElem?_map, h2]
  show (if (f x).plain then _ else _) = _
  rw [hp.pl, if_pos rfl, erase_map]; rfl
section
variable {P : DL.Ctx} {env env1 env2 : EnvD}
theorem x_pop {i : Nat} (f : α → D) [Pl f] {xs : List α} {p : α × List α} (g : getE env i = some (eL f xs)) (h : popG xs = some p) (he : env.set i (some (eL f p.2)) = env1) : AX P false env (.pop i []) (.tmp (f p.1)) env1 := by
  show ((getE env i).bind fun d => (popD (fun n => some (n - 1)) d).map fun r => (A.tmp r.1, env.set i (some r.2))) = _
  rw [g, Option.bind_some]
  unfold popG at h
  cases hx : xs[xs.length - 1]? with
  | none => rw [hx] at h; cases h
  | some x =>
    rw [hx] at h
    cases h
    rw [popD_L (f := f) (j := xs.length - 1) rfl hx, ← he]; rfl
theorem x_popAt {i : Nat} {e : E} {j : Int} (f : α → D) [Pl f] {xs xs0 : List α} {p : α × List α} (g0 : getE env i = some (eL f xs0)) (hk : AX P false env e (.tmp (.int j)) env1) (g : getE env1 i = some (eL f xs)) (h : popAtG xs j = some p) (he : env1.set i (some (eL f p.2)) = env2) : AX P false env (.popAt i [] e) (.tmp (f p.1)) env2 := by
  show (((getE env i).bind D.lst?).bind fun _ => (evA P false e env).bind fun y => (y.1.int?).bind fun j => (getE y.2 i).bind fun d =>
      (popD (fun n => if n ≤ sizeLine then L2.ixN n j else none) d).map fun r => (A.tmp r.1, y.2.set i (some r.2))) = _
  rw [g0]
  show ((evA P false e env).bind fun y => (y.1.int?).bind fun j => (getE y.2 i).bind fun d =>
      (popD (fun n => if n ≤ sizeLine then L2.ixN n j else none) d).map fun r => (A.tmp r.1, y.2.set i (some r.2))) = _
  rw [hk]
  show ((getE env1 i).bind fun d => (popD (fun n => if n ≤ sizeLine then L2.ixN n j else none) d).map fun r => (A.tmp r.1, env1.set i (some r.2))) = _
  rw [g, Option.bind_some]
  obtain ⟨k, h1, h⟩ := bnd h
  cases hx : xs[k]? with
  | none => rw [hx] at h; cases h
  | some x =>
    rw [hx] at h
    cases h
    rw [popD_L (f := f) (k := fun n => if n ≤ sizeLine then L2.ixN n j else none) h1 hx, ← he]; rfl
end
/-! dicts -/
def eD (f : α → D) (m : List (Int × α)) : D := .dK true (m.map fun p => Sum.inl p.1) (m.map fun p => f p.2)
def dIx (m : List (Int × α)) (k : Int) : Option Nat := find k (m.map (·.1)) 0
def dGet (m : List (Int × α)) (k : Int) : Option α := (dIx m k).bind fun j => (m[j]?).map (·.2)
def dHas (m : List (Int × α)) (k : Int) : Bool := (dIx m k).isSome
def dPut (m : List (Int × α)) (k : Int) (v : α) : List (Int × α) := match dIx m k with
  | some j => m.set j (k, v)
  | none => m ++ [(k, v)]
def dSet (m : List (Int × α)) (k : Int) (v : α) : Option (List (Int × α)) := if m.length < sizeLine then some (dPut m k v) else none
theorem dSet_of {m : List (Int × α)} {k : Int} {v : α} (h : m.length ≤ 1000000) : dSet m k v = some (dPut m k v) := if_pos (Nat.lt_of_le_of_lt h (by decide))
theorem find_inl (k : Int) : ∀ (ks : List Int) (n : Nat), find (Sum.inl k : L2.Key) (ks.map Sum.inl) n = find k ks n
  | [], _ => rfl
  | x :: ks, n => by
    show (if (Sum.inl x : L2.Key) = Sum.inl k then some n else find (Sum.inl k : L2.Key) (ks.map Sum.inl) (n + 1)) = (if x = k then some n else find k ks (n + 1))
    rw [find_inl k ks (n + 1)]
    by_cases e : x = k
    · rw [if_pos e, if_pos (by rw [e])]
    · rw [if_neg e, if_neg (fun h => e (Sum.inl.inj h))]
theorem find_dIx (m : List (Int × α)) (k : Int) : find (Sum.inl k : L2.Key) (m.map fun p => Sum.inl p.1) 0 = dIx m k := by
  have := find_inl k (m.map (·.1)) 0
  rw [List.map_map] at this
  exact this
theorem find_ge {k : Int} : ∀ {ks : List Int} {n j : Nat}, find k ks n = some j → n ≤ j ∧ ks[j - n]? = some k
  | [], _, _, h => by cases h
  | x :: ks, n, j, h => by
    have h : (if x = k then some n else find k ks (n + 1)) = some j := h
    split at h
    · cases h
      rename_i e
      exact ⟨Nat.le_refl _, by rw [Nat.sub_self, e]; rfl⟩
    · obtain ⟨g1, g2⟩ := find_ge h
      refine ⟨by omega, ?_⟩
      rw [show j - n = (j - (n + 1)) + 1 by omega]
      exact g2
theorem dIx_at {m : List (Int × α)} {k : Int} {j : Nat} (h : dIx m k = some j) : (m.map (·.1))[j]? = some k := by
  obtain ⟨_, h⟩ := find_ge h
  exact h
theorem s_D {f : α → D} {m : List (Int × α)} {k : Int} {x : α} (h : dGet m k = some x) : subD (eD f m) (.int k) = some (f x) := by
  show ((find (Sum.inl k : L2.Key) (m.map fun p => Sum.inl p.1) 0).bind fun j => (m.map fun p => f p.2)[j]?) = _
  rw [find_dIx]
  cases h1 : dIx m k with
  | none => rw [dGet, h1] at h; cases h
  | some j =>
  rw [dGet, h1] at h
  have h : (m[j]?).map (·.2) = some x := h
  rw [Option.bind_some, List.getElem?_map]
  cases hm : m[j]? with
  | none => rw [hm] at h; cases h
  | some p => rw [hm] at h; cases h; rfl
theorem set_D {f : α → D} {m m' : List (Int × α)} {k : Int} {x : α} (h : dSet m k x = some m') : setD (eD f m) (.int k) (f x) = some (eD f m') := by
  unfold dSet at h
  split at h
  · rename_i hl
    cases h
    show (if (m.map fun p => (Sum.inl p.1 : L2.Key)).length < sizeLine then some (D.dK true (putD (Sum.inl k) (f x) (m.map fun p => Sum.inl p.1) (m.map fun p => f p.2)).1 (putD (Sum.inl k) (f x) (m.map fun p => Sum.inl p.1) (m.map fun p => f p.2)).2) else none) = _
    rw [List.length_map, if_pos hl]
    unfold putD
    rw [find_dIx]
    unfold dPut
    cases hj : dIx m k with
    | none =>
      show some (D.dK true _ _) = some (D.dK true _ _)
      rw [List.map_append, List.map_append]; rfl
    | some j =>
      show some (D.dK true _ _) = some (D.dK true _ _)
      have hk := dIx_at hj
      have e1 : (m.set j (k, x)).map (fun p => (Sum.inl p.1 : L2.Key)) = m.map fun p => Sum.inl p.1 := by
        rw [List.map_set]
        rw [List.getElem?_map] at hk
        cases hm : m[j]? with
        | none => rw [hm] at hk; cases hk
        | some p =>
          rw [hm] at hk
          have hk : p.1 = k := Option.some.inj hk
          refine List.ext_getElem? fun n => ?_
          rw [List.getElem?_set]
          split
          · rename_i e
            subst e
            rw [List.getElem?_map, hm]
            split
            · show some (Sum.inl k : L2.Key) = some (Sum.inl p.1); rw [hk]
            · rename_i hlt
              rw [List.length_map] at hlt
              exact absurd (List.getElem?_eq_some_iff.mp hm).1 hlt
          · rfl
      rw [e1, List.map_set]
  · cases h
theorem o_inD {f : α → D} {m : List (Int × α)} {k : Int} : opD (.cmp .In) [.int k, eD f m] = some (.bl (dHas m k)) := by
  show some (D.bl (find (Sum.inl k : L2.Key) (m.map fun p => Sum.inl p.1) 0).isSome) = _
  rw [find_dIx]; rfl
theorem o_niD {f : α → D} {m : List (Int × α)} {k : Int} : opD (.cmp .NotIn) [.int k, eD f m] = some (.bl (!dHas m k)) := by
  show some (D.bl (!(find (Sum.inl k : L2.Key) (m.map fun p => Sum.inl p.1) 0).isSome)) = _
  rw [find_dIx]; rfl
theorem o_lnD {f : α → D} {m : List (Int × α)} : opD .len [eD f m] = some (.int m.length) := by
  show some (D.int (m.map fun p => (Sum.inl p.1 : L2.Key)).length) = _
  rw [List.length_map]
section
variable {P : DL.Ctx} {m : Bool} {env env1 : EnvD}
theorem x_dnew (f : α → D) : AX P m env (.dK []) (.tmp (eD f [])) env := rfl
theorem x_dK1 (f : α → D) (k : Int) (v : α) {es : List E} (h : MX P m env es [D.int k, f v] env1) : AX P m env (.dK es) (.tmp (eD f [(k, v)])) env1 := x_dict h rfl
end
theorem pl_D (f : α → D) (m : List (Int × α)) : (eD f m).plain = false := rfl
end TL
namespace TL
open DL
def PV.asS : PV → Option PySem.Str
  | .str s => some s
  | _ => none
theorem dnS_enc (v : PV) (i : PySem.Str) (h : PV.asS v = some i) : PV.enc v = D.str i := by
  cases v <;> first | (cases h; done) | (cases h; rfl)
end TL
namespace TL
open DL
open PySem (Str Operator CmpOp sizeLine)
section
variable {P : DL.Ctx} {m : Bool} {env env1 env2 : EnvD}
theorem x_varO {i : Nat} (f : α → D) [h : Pl f] {o : Option α} {a : α} (g : getE env i = Option.map f o) (ho : o = some a) : AX P m env (.var i) (.tmp (f a)) env := by
  rw [ho] at g
  exact x_var f g
end
theorem pick_runsF {α : Type} (P : DL.Ctx) (j : Nat) (hN : S_next P j) (f : α → D) [Pl f] (w : W) (xs : List α) (x : α) (w' : W) (h : pickW w xs = some (x, w')) : runF P (fdPick j) [eW w, eF f xs] = some (f x, [eW w', eF f xs]) := by
  obtain ⟨p, h1, h⟩ := bnd h
  obtain ⟨y, h2, h⟩ := bnd h
  obtain ⟨i, w1⟩ := p
  cases h
  have h1 := hN _ _ _ h1
  refine run_G rfl ?_
  show RetG _ _ _ _ (evSs P _ [some (eW w), some (eF f xs)])
  refine g_rt (s_rtv (x_sub (x_var (eF f) rfl) (x_call (q_cons (x_ref rfl rfl) (q_cons (x_op1 (x_var (eF f) rfl) rfl o_lnF) q_nil)) rfl rfl h1 rfl) rfl rfl (s_F h2) (mk_p f _ _))) ⟨_, _, rfl, .inl rfl, ?_⟩
  exact bk_r rfl rfl rfl (bk_p (Pl.pl (f := eF f) xs) bk_nil)
def S_pickFr (P : DL.Ctx) (j : Nat) : Prop := ∀ {α : Type} (f : α → D) [Pl f] (w : W) (xs : List α) (x : α) (w' : W), pickW w xs = some (x, w') → P.call j [eW w, eF f xs] = some (f x, [eW w', eF f xs])
end TL
namespace TL
open DL
theorem plE_pl {f : α → D} [h : Pl f] {a : α} : plE (some (f a)) = some (f a) := by
  show (if (f a).plain then some (f a) else none) = _
  rw [h.pl]; rfl
theorem plE_o {f : α → D} [h : Pl f] {o : Option α} : plE (Option.map f o) = Option.map f o := by
  cases o with
  | none => rfl
  | some a => exact plE_pl
end TL
end

section
/-! TL10: more words. -/
namespace TL
open DL
open PySem (Str Operator CmpOp sizeLine)
theorem optI_map {xs : List (Option Int)} {ys : List Int} (h : mapO (fun a => a) xs = some ys) : xs.map (eO D.int) = ys.map D.int := by
  induction xs generalizing ys with
  | nil => cases h; rfl
  | cons x xs ih =>
    cases x with
    | none => cases h
    | some i =>
      have h : (mapO (fun a => a) xs).bind (fun zs => some (i :: zs)) = some ys := h
      cases hx : mapO (fun a => a) xs with
      | none => rw [hx] at h; cases h
      | some zs => rw [hx] at h; cases h; rw [List.map_cons, List.map_cons, ih hx]; rfl
theorem o_srtLO {xs : List (Option Int)} {ys : List Int} (h : mapO (fun a => a) xs = some ys) : opD .sorted [eL (eO D.int) xs] = some (eL D.int (sortI ys)) := by
  show opD .sorted [D.lst true (xs.map (eO D.int))] = _
  rw [optI_map h]
  exact o_srtL
theorem o_srtTO {xs : List (Option Int)} {ys : List Int} (h : mapO (fun a => a) xs = some ys) : opD .sorted [eT (eO D.int) xs] = some (eL D.int (sortI ys)) := by
  show opD .sorted [D.tup (xs.map (eO D.int))] = _
  rw [optI_map h]
  exact o_srtT
end TL
namespace TL
open DL
open PySem (Str Operator CmpOp sizeLine)
/-! freezing of lists within lists -/
class FzI (f g : α → D) : Prop where
  fz : ∀ a, (f a).freeze = g a
instance fzi_self (f : α → D) [h : Fz f] : FzI f f := ⟨h.fz⟩
theorem fzs_I (f g : α → D) [h : FzI f g] (xs : List α) : D.freezes (xs.map f) = xs.map g := by
  induction xs with
  | nil => rfl
  | cons x xs ih =>
    show D.freeze (f x) :: D.freezes (xs.map f) = _
    rw [h.fz, ih]; rfl
instance fzi_L (f g : α → D) [h : FzI f g] : FzI (eL f) (eF g) := ⟨fun xs => congrArg (D.lst false) (fzs_I f g xs)⟩
instance fzi_F (f g : α → D) [h : FzI f g] : FzI (eF f) (eF g) := ⟨fun xs => congrArg (D.lst false) (fzs_I f g xs)⟩
instance fzi_T (f g : α → D) [h : FzI f g] : FzI (eT f) (eT g) := ⟨fun xs => congrArg D.tup (fzs_I f g xs)⟩
instance fzi_P (f f' : α → D) (g g' : β → D) [hf : FzI f f'] [hg : FzI g g'] : FzI (eP f g) (eP f' g') := ⟨fun p => by
  show D.tup [D.freeze (f p.1), D.freeze (g p.2)] = _
  rw [hf.fz, hg.fz]; rfl⟩
theorem fz_LI (f g : α → D) [FzI f g] (xs : List α) : (eL f xs).freeze = eF g xs := congrArg (D.lst false) (fzs_I f g xs)
theorem fzs_U (xs : List (Bool × PV)) : D.freezes (xs.map eU) = (xs.map fun a => a.2).map PV.enc := by
  induction xs with
  | nil => rfl
  | cons x xs ih =>
    show D.freeze (eU x) :: D.freezes (xs.map eU) = _
    rw [fz_U, ih]; rfl
theorem fz_LU (xs : List (Bool × PV)) : (eL eU xs).freeze = eF PV.enc (xs.map fun a => a.2) := congrArg (D.lst false) (fzs_U xs)
section
variable {P : DL.Ctx} {m : Bool} {env env1 env2 env3 env4 : EnvD}
theorem x_frz {e : E} {d d' : D} (h : AX P m env e (.tmp d) env1) (hd : d.freeze = d') : AX P m env (.frz e) (.tmp d') env1 := by
  show ((evA P m e env).bind _) = _
  rw [h]
  show some (A.tmp d.freeze, env1) = _
  rw [hd]
theorem x_mth {t : MT} {o : Op} {e : E} {es : List E} {a : A} {as : List A} {d b : D} {ds : List D} {r : D} (h : AX P m env e a env1) (g : a.get env1 = some d) (ht : t.has d = some ()) (h2 : QX P (m || a.isPk) env1 es as env2) (g2 : a.get env2 = some b) (g3 : A.gets env2 as = some ds) (ho : opD o (b :: ds) = some r) :
    AX P m env (.mth t o e es) (.tmp r) env2 := by
  show ((evA P m e env).bind _) = _
  rw [h]
  show (((a.get env1).bind t.has).bind _) = _
  rw [g]
  show ((t.has d).bind _) = _
  rw [ht]
  show ((evAs P (m || a.isPk) es env1).bind _) = _
  rw [h2]
  show (((A.get env2 a).bind fun d => (A.gets env2 as).map fun ds => d :: ds).bind _) = _
  rw [g2, g3]
  show ((opD o (b :: ds)).map _) = _
  rw [ho]; rfl
theorem gets1 {a : A} {d : D} (h : a.get env = some d) : A.gets env [a] = some [d] := by
  show ((A.get env a).bind _) = _
  rw [h]; rfl
theorem gets2 {a b : A} {d e : D} (h : a.get env = some d) (h2 : b.get env = some e) : A.gets env [a, b] = some [d, e] := by
  show ((A.get env a).bind fun d => (A.gets env [b]).map fun ds => d :: ds) = _
  rw [h, gets1 h2]; rfl
/-- xs.index(k) -/
def idxG (xs : List Int) (k : Int) : Option Int := (find k xs 0).map fun (j : Nat) => Int.ofNat j
theorem ints_mm (ns : List Int) : ints? (ns.map D.int) = some ns := ints_m ns
theorem o_idxL {xs : List Int} {k j : Int} (h : idxG xs k = some j) : opD .index [eL D.int xs, .int k] = some (.int j) := by
  show ((ints? (xs.map D.int)).bind fun ns => (find k ns 0).map fun (j : Nat) => D.int (Int.ofNat j)) = _
  rw [ints_m, Option.bind_some]
  unfold idxG at h
  cases hf : find k xs 0 with
  | none => rw [hf] at h; cases h
  | some i => rw [hf] at h; cases h; rfl
theorem o_idxF {xs : List Int} {k j : Int} (h : idxG xs k = some j) : opD .index [eF D.int xs, .int k] = some (.int j) := o_idxL h
theorem o_cntL {xs : List Int} {k : Int} : opD .count [eL D.int xs, .int k] = some (.int (xs.count k : Nat)) := by
  show ((ints? (xs.map D.int)).map fun ns => D.int (ns.count k : Nat)) = _
  rw [ints_m]; rfl
theorem o_cntF {xs : List Int} {k : Int} : opD .count [eF D.int xs, .int k] = some (.int (xs.count k : Nat)) := o_cntL
/-! dicts -/
def dGetD (m : List (Int × α)) (k : Int) (x : α) : α := (dGet m k).getD x
theorem dIx_in {m : List (Int × α)} {k : Int} {j : Nat} (h : dIx m k = some j) : ∃ p, m[j]? = some p := by
  have := dIx_at h
  rw [List.getElem?_map] at this
  cases hm : m[j]? with
  | none => rw [hm] at this; cases this
  | some p => exact ⟨p, rfl⟩
theorem o_get2 {f : α → D} [hp : Pl f] {m : List (Int × α)} {k : Int} {x : α} : opD .get2 [eD f m, .int k, f x] = some (f (dGetD m k x)) := by
  show ((some (Sum.inl k : L2.Key)).bind fun k => (getKD (m.map fun p => Sum.inl p.1) (m.map fun p => f p.2) k (f x)).bind fun d => if d.plain then some d else none) = _
  rw [Option.bind_some]
  unfold getKD dGetD dGet
  rw [find_dIx]
  cases hj : dIx m k with
  | none =>
    show (if (f x).plain then _ else _) = _
    rw [hp.pl, if_pos rfl]; rfl
  | some j =>
    obtain ⟨p, hm⟩ := dIx_in hj
    show ((m.map fun p => f p.2)[j]?).bind _ = _
    rw [List.getElem?_map, hm]
    show (if (f p.2).plain then _ else _) = _
    rw [hp.pl, if_pos rfl, Option.bind_some, hm]; rfl
theorem kints_m (ks : List Int) : kints? (ks.map fun k => (Sum.inl k : L2.Key)) = some ks := by
  induction ks with
  | nil => rfl
  | cons k ks ih =>
    show (kints? (ks.map fun k => (Sum.inl k : L2.Key))).map _ = _
    rw [ih]; rfl
def srtDG (m : List (Int × α)) : Option (List Int) := if m.length < 64 then some (sortI (m.map (·.1))) else none
theorem srtDG_of {m : List (Int × α)} (h : m.length < 64) : srtDG m = some (sortI (m.map (·.1))) := if_pos h
theorem o_srtD {f : α → D} {m : List (Int × α)} {ys : List Int} (h : srtDG m = some ys) : opD .sorted [eD f m] = some (eL D.int ys) := by
  unfold srtDG at h
  split at h
  · cases h
    show ((kints? (m.map fun p => (Sum.inl p.1 : L2.Key))).bind fun ns => if ns.length < 64 then some (D.lst true ((sortI ns).map .int)) else none) = _
    have : (m.map fun p => (Sum.inl p.1 : L2.Key)) = (m.map (·.1)).map fun k => (Sum.inl k : L2.Key) := by rw [List.map_map]; rfl
    rw [this, kints_m, Option.bind_some, List.length_map, if_pos (by assumption)]; rfl
  · cases h
theorem o_lstD {f : α → D} {m : List (Int × α)} : opD .list [eD f m] = some (eL D.int (m.map (·.1))) := by
  show some (D.lst true ((m.map fun p => (Sum.inl p.1 : L2.Key)).map kD)) = some (D.lst true ((m.map (·.1)).map D.int))
  rw [List.map_map, List.map_map]; rfl
def mkD (xs : List (Int × α)) : List (Int × α) := xs.foldl (fun m p => dPut m p.1 p.2) []
theorem prK_m (f : α → D) [hp : Pl f] (xs : List (Int × α)) : prK? (xs.map (eP D.int f)) = some (xs.map fun p => ((Sum.inl p.1 : L2.Key), f p.2)) := by
  induction xs with
  | nil => rfl
  | cons x xs ih =>
    show (if (f x.2).plain then ((some (Sum.inl x.1 : L2.Key)).bind fun k => (prK? (xs.map (eP D.int f))).map fun ps => (k, f x.2) :: ps) else none) = _
    rw [hp.pl, if_pos rfl, Option.bind_some, ih]; rfl
theorem put_dPut (f : α → D) (m : List (Int × α)) (k : Int) (x : α) : putD (Sum.inl k : L2.Key) (f x) (m.map fun p => Sum.inl p.1) (m.map fun p => f p.2) = ((dPut m k x).map fun p => (Sum.inl p.1 : L2.Key), (dPut m k x).map fun p => f p.2) := by
  have h : (if m.length < sizeLine + m.length + 1 then some (dPut m k x) else none) = some (dPut m k x) := if_pos (by omega)
  unfold putD
  rw [find_dIx]
  unfold dPut
  cases hj : dIx m k with
  | none =>
    show (_, _) = _
    rw [List.map_append, List.map_append]; rfl
  | some j =>
    show (_, _) = _
    have hk := dIx_at hj
    have e1 : (m.set j (k, x)).map (fun p => (Sum.inl p.1 : L2.Key)) = m.map fun p => Sum.inl p.1 := by
      rw [List.map_set]
      rw [List.getElem?_map] at hk
      cases hm : m[j]? with
      | none => rw [hm] at hk; cases hk
      | some p =>
        rw [hm] at hk
        have hk : p.1 = k := Option.some.inj hk
        refine List.ext_getElem? fun n => ?_
        rw [List.getElem?_set]
        split
        · rename_i e
          subst e
          rw [List.getElem?_map, hm]
          split
          · show some (Sum.inl k : L2.Key) = some (Sum.inl p.1); rw [hk]
          · rename_i hlt
            rw [List.length_map] at hlt
            exact absurd (List.getElem?_eq_some_iff.mp hm).1 hlt
        · rfl
    rw [e1, List.map_set]
theorem o_dict {f : α → D} [hp : Pl f] {xs : List (Int × α)} : opD .dict [eL (eP D.int f) xs] = some (eD f (mkD xs)) := by
  show (prK? (xs.map (eP D.int f))).map (fun ps => D.dK true (mergeD ps).1 (mergeD ps).2) = _
  rw [prK_m]
  have key : ∀ (ys : List (Int × α)) (m : List (Int × α)), (ys.map fun p => ((Sum.inl p.1 : L2.Key), f p.2)).foldl (fun x p => putD p.1 p.2 x.1 x.2) ((m.map fun p => (Sum.inl p.1 : L2.Key)), (m.map fun p => f p.2)) = (((ys.foldl (fun m p => dPut m p.1 p.2) m).map fun p => (Sum.inl p.1 : L2.Key)), ((ys.foldl (fun m p => dPut m p.1 p.2) m).map fun p => f p.2)) := fun ys => by
    induction ys with
    | nil => intro m; rfl
    | cons y ys ih =>
      intro m
      rw [List.map_cons, List.foldl_cons, List.foldl_cons]
      refine (congrArg (fun z => List.foldl (fun (x : List L2.Key × List D) (p : L2.Key × D) => putD p.1 p.2 x.1 x.2) z _) (put_dPut f m y.1 y.2)).trans ?_
      exact ih _
  show some (D.dK true _ _) = some (D.dK true _ _)
  have := key xs []
  unfold mergeD mkD
  have this : (xs.map fun p => ((Sum.inl p.1 : L2.Key), f p.2)).foldl (fun x p => putD p.1 p.2 x.1 x.2) (([] : List L2.Key), ([] : List D)) = _ := this
  rw [this]
/-! paths -/
def upG (xs : List (List α)) (i : Int) (F : List α → Option (List α)) : Option (List (List α)) := (L2.ixN xs.length i).bind fun a => (xs[a]?).bind fun r => (F r).map fun r' => xs.set a r'
theorem upd1 {f : α → D} {G : D → Option D} {F : List α → Option (List α)} (hF : ∀ r r', F r = some r' → G (eL f r) = some (eL f r')) {xs ys : List (List α)} {i : Int} (h : upG xs i F = some ys) : updD G (eL (eL f) xs) [.int i] = some (eL (eL f) ys) := by
  obtain ⟨a, h1, h⟩ := bnd h
  obtain ⟨r, h2, h⟩ := bnd h
  cases h3 : F r with
  | none => rw [h3] at h; cases h
  | some r' =>
    rw [h3] at h; cases h
    show ((L2.ixN (xs.map (eL f)).length i).bind fun j => ((xs.map (eL f))[j]?).bind fun x => (updD G x []).map fun y => D.lst true ((xs.map (eL f)).set j y)) = _
    rw [List.length_map, h1, Option.bind_some, List.getElem?_map, h2]
    show (updD G (eL f r) []).map _ = _
    have : updD G (eL f r) [] = G (eL f r) := by unfold updD; rfl
    rw [this, hF _ _ h3]
    show some (D.lst true ((xs.map (eL f)).set a (eL f r'))) = _
    rw [← List.map_set]; rfl
theorem path1 {p : E} {kp : D} (hp : AX P true env p (.tmp kp) env1) : evPath P [p] env = some ([kp], env1) := by
  have : evAs P true [p] env = some ([.tmp kp], env1) := by
    show ((evA P true p env).bind _) = _
    rw [hp]; rfl
  unfold evPath
  rw [this]; rfl
theorem s_sto1 {i : Nat} {p k e : E} {d kp kd c1 c2 c c' : D} (h : AX P false env e (.tmp d) env1) (hp : AX P true env1 p (.tmp kp) env2) (g1 : getE env2 i = some c1) (hk : AX P true env2 k (.tmp kd) env3) (g : getE env3 i = some c) (hs : updD (fun c => setD c kd d) c [kp] = some c') (he : env3.set i (some c') = env4) : SX P env (.sto i [p] k e) .nx env4 := by
  show (((evA P false e env).bind fun x => mat false x.1 x.2).bind _) = _
  rw [h]
  show ((evPath P [p] env1).bind _) = _
  rw [path1 hp]
  show ((getE env2 i).bind _) = _
  rw [g1]
  show (((evA P true k env2).bind _).bind _) = _
  rw [hk]
  show (((getE env3 i).bind fun d' => (updD (fun c => setD c kd d) d' [kp]).map _).map _) = _
  rw [g]
  show (((updD (fun c => setD c kd d) c [kp]).map _).map _) = _
  rw [hs, ← he]; rfl
theorem s_app1 {i : Nat} {p e : E} {o : Bool} {ds : List D} {kp x c c' : D} (hp : AX P true env p (.tmp kp) env1) (g : getE env1 i = some (.lst o ds)) (h : AX P true env1 e (.tmp x) env2) (g1 : getE env2 i = some c) (ha : updD (appD x) c [kp] = some c') (he : env2.set i (some c') = env3) : SX P env (.app i [p] e) .nx env3 := by
  show ((evPath P [p] env).bind _) = _
  rw [path1 hp]
  show (((getE env1 i).bind D.lst?).bind _) = _
  rw [g]
  show (((evA P true e env1).bind fun x => mat true x.1 x.2).bind _) = _
  rw [h]
  show (((getE env2 i).bind fun d' => (updD (appD x) d' [kp]).map _).map _) = _
  rw [g1]
  show (((updD (appD x) c [kp]).map _).map _) = _
  rw [ha, ← he]; rfl
/-! t[i], t[j] = .. -/
abbrev LVX (P : DL.Ctx) (env : EnvD) (l : LV) (d : D) (env' : EnvD) : Prop := storeLV P l d env = some env'
abbrev LVXs (P : DL.Ctx) (env : EnvD) (ls : List LV) (ds : List D) (env' : EnvD) : Prop := storeLVs P ls ds env = some env'
theorem lv_nil : LVXs P env [] [] env := rfl
theorem lv_cons {l : LV} {ls : List LV} {d : D} {ds : List D} (h : LVX P env l d env1) (h2 : LVXs P env1 ls ds env2) : LVXs P env (l :: ls) (d :: ds) env2 := by
  show ((storeLV P l d env).bind _) = _
  rw [h]; exact h2
theorem lv_nm {i : Nat} {d : D} (hi : decide (i < env.length) = true) (he : env.set i (some d) = env1) : LVX P env (.nm i) d env1 := by
  show (if i < env.length then some (env.set i (some d)) else none) = _
  rw [if_pos (of_decide_eq_true hi), he]
theorem lv_sb {i : Nat} {k : E} {d kd c c0 c' : D} (g0 : getE env i = some c0) (hk : AX P true env k (.tmp kd) env1) (g : getE env1 i = some c) (hs : setD c kd d = some c') (he : env1.set i (some c') = env2) : LVX P env (.sb i [] k) d env2 := by
  show ((some ([], env)).bind fun x => (getE x.2 i).bind fun _ => (evKey P k x.2).bind fun y => updE i x.1 (fun c => setD c y.1 d) y.2) = _
  rw [Option.bind_some]
  show ((getE env i).bind _) = _
  rw [g0]
  show (((evA P true k env).bind _).bind _) = _
  rw [hk]
  show (((getE env1 i).bind fun d' => (updD (fun c => setD c kd d) d' []).map _)) = _
  rw [g]
  show ((updD (fun c => setD c kd d) c []).map _) = _
  rw [up0, hs, ← he]; rfl
theorem s_stoT {ts : List LV} {e : E} {ds : List D} (h : AX P false env e (.tmp (.tup ds)) env1) (h2 : LVXs P env1 ts ds env2) : SX P env (.stoT ts e) .nx env2 := by
  show (((evA P false e env).bind fun x => mat false x.1 x.2).bind _) = _
  rw [h]
  show ((storeLVs P ts ds env1).map _) = _
  rw [h2]; rfl
end
end TL
namespace TL
open DL
theorem plE_n : plE none = none := rfl
end TL
end

section
/-! U1: plain lemmas about the words of typed texts. -/
namespace TL
open DL K31
section
variable {α β γ σ ρ : Type}
theorem foldO_eq (g : σ → α → σ) (I : σ → Prop) {step : α → σ → Option σ} : ∀ {xs : List α} {s : σ}, (∀ x ∈ xs, ∀ s, I s → step x s = some (g s x) ∧ I (g s x)) → I s → foldO step xs s = some (xs.foldl g s) ∧ I (xs.foldl g s)
  | [], s, _, h => ⟨rfl, h⟩
  | x :: xs, s, hs, h => by
    obtain ⟨h1, h2⟩ := hs x List.mem_cons_self s h
    show ((step x s).bind _ = _) ∧ _
    rw [h1]
    exact foldO_eq g I (fun y hy => hs y (List.mem_cons_of_mem _ hy)) h2
/-- a loop by what holds between its turns; the turn's number, the part that was walked -/
theorem foldO_inv {step : α → σ → Option σ} {xs : List α} (I : Nat → σ → Prop) (hs : ∀ i (h : i < xs.length) s, I i s → ∃ s', step xs[i] s = some s' ∧ I (i + 1) s') {s : σ} (h0 : I 0 s) : ∃ s', foldO step xs s = some s' ∧ I xs.length s' := by
  have key : ∀ n i s, xs.length - i = n → i ≤ xs.length → I i s → ∃ s', foldO step (xs.drop i) s = some s' ∧ I xs.length s' := by
    intro n
    induction n with
    | zero =>
      intro i s hn hi h
      have : i = xs.length := by omega
      subst this
      rw [List.drop_length]
      exact ⟨s, rfl, h⟩
    | succ n ih =>
      intro i s hn hi h
      have hlt : i < xs.length := by omega
      obtain ⟨s1, h1, h2⟩ := hs i hlt s h
      obtain ⟨s2, h3, h4⟩ := ih (i + 1) s1 (by omega) (by omega) h2
      refine ⟨s2, ?_, h4⟩
      rw [List.drop_eq_getElem_cons hlt]
      show (step _ s).bind _ = _
      rw [h1]; exact h3
  have := key xs.length 0 s rfl (Nat.zero_le _) h0
  rwa [List.drop_zero] at this
/-- .. where only membership counts -/
theorem foldO_mem {step : α → σ → Option σ} (I : σ → Prop) : ∀ {xs : List α} {s : σ}, (∀ x ∈ xs, ∀ s, I s → ∃ s', step x s = some s' ∧ I s') → I s → ∃ s', foldO step xs s = some s' ∧ I s'
  | [], s, _, h => ⟨s, rfl, h⟩
  | x :: xs, s, hs, h => by
    obtain ⟨s1, h1, h2⟩ := hs x List.mem_cons_self s h
    obtain ⟨s2, h3, h4⟩ := foldO_mem I (fun y hy => hs y (List.mem_cons_of_mem _ hy)) h2
    exact ⟨s2, by show (step x s).bind _ = _; rw [h1]; exact h3, h4⟩
theorem loopO_mem {step : α → σ → Option (Ct ρ σ)} (I : σ → Prop) : ∀ {xs : List α} {s : σ}, (∀ x ∈ xs, ∀ s, I s → ∃ s', step x s = some (.nx s') ∧ I s') → I s → ∃ s', loopO step xs s = some (.inr s') ∧ I s'
  | [], s, _, h => ⟨s, rfl, h⟩
  | x :: xs, s, hs, h => by
    obtain ⟨s1, h1, h2⟩ := hs x List.mem_cons_self s h
    obtain ⟨s2, h3, h4⟩ := loopO_mem I (fun y hy => hs y (List.mem_cons_of_mem _ hy)) h2
    exact ⟨s2, by show (step x s).bind _ = _; rw [h1]; exact h3, h4⟩
/-- a loop that only looks: no turn returns -/
theorem loopO_none {step : α → Unit → Option (Ct ρ Unit)} {xs : List α} (h : ∀ x ∈ xs, step x () = some (.nx ())) : loopO step xs () = some (.inr ()) := by
  obtain ⟨s, h1, _⟩ := loopO_mem (step := step) (xs := xs) (s := ()) (fun _ => True) (fun x hx s _ => ⟨(), h x hx, trivial⟩) trivial
  exact h1
/-- a search: it returns v at the first item that has p -/
theorem loopO_any {step : α → Unit → Option (Ct ρ Unit)} {xs : List α} (p : α → Bool) (v : ρ) (h : ∀ x ∈ xs, step x () = some (if p x = true then .rt v else .nx ())) : loopO step xs () = some (if xs.any p = true then .inl v else .inr ()) := by
  induction xs with
  | nil => rfl
  | cons x xs ih =>
    show (step x ()).bind _ = _
    rw [h x List.mem_cons_self, List.any_cons]
    cases hp : p x with
    | true => rfl
    | false =>
      rw [Bool.false_or]
      exact ih fun y hy => h y (List.mem_cons_of_mem _ hy)
theorem mapS_mem {F : α → σ → Option (β × σ)} (Q : β → Prop) : ∀ {xs : List α} {s : σ}, (∀ x ∈ xs, ∀ s, ∃ y s', F x s = some (y, s') ∧ Q y) → ∃ ys s', mapS F xs s = some (ys, s') ∧ ys.length = xs.length ∧ ∀ y ∈ ys, Q y
  | [], s, _ => ⟨[], s, rfl, rfl, fun y h => by cases h⟩
  | x :: xs, s, h => by
    obtain ⟨y, s1, h1, h2⟩ := h x List.mem_cons_self s
    obtain ⟨ys, s2, h3, h4, h5⟩ := mapS_mem Q (s := s1) fun z hz => h z (List.mem_cons_of_mem _ hz)
    refine ⟨y :: ys, s2, ?_, by simp [h4], fun z hz => ?_⟩
    · show (F x s).bind _ = _
      rw [h1]
      show (mapS F xs s1).bind _ = _
      rw [h3]; rfl
    · rcases List.mem_cons.mp hz with rfl | hz
      · exact h2
      · exact h5 z hz
theorem mapO_mem {F : α → Option β} (Q : α → β → Prop) : ∀ {xs : List α}, (∀ x ∈ xs, ∃ y, F x = some y ∧ Q x y) → ∃ ys, mapO F xs = some ys ∧ ys.length = xs.length ∧ ∀ y ∈ ys, ∃ x ∈ xs, Q x y
  | [], _ => ⟨[], rfl, rfl, fun y h => by cases h⟩
  | x :: xs, h => by
    obtain ⟨y, h1, h2⟩ := h x List.mem_cons_self
    obtain ⟨ys, h3, h4, h5⟩ := mapO_mem Q fun z hz => h z (List.mem_cons_of_mem _ hz)
    refine ⟨y :: ys, ?_, by simp [h4], fun z hz => ?_⟩
    · show (F x).bind _ = _
      rw [h1]
      show (mapO F xs).bind _ = _
      rw [h3]; rfl
    · rcases List.mem_cons.mp hz with rfl | hz
      · exact ⟨x, List.mem_cons_self, h2⟩
      · obtain ⟨w, hw, q⟩ := h5 z hz
        exact ⟨w, List.mem_cons_of_mem _ hw, q⟩
theorem all_id (G : α → Bool) (xs : List α) : (xs.map G).all id = xs.all G := by rw [List.all_map]; rfl
theorem any_id (G : α → Bool) (xs : List α) : (xs.map G).any id = xs.any G := by rw [List.any_map]; rfl
theorem whileS_stop {c : σ → Option Bool} {b : σ → Option σ} {s : σ} (h : c s = some false) : whileS c b s = some s := by rw [whileS, h]
theorem whileS_next {c : σ → Option Bool} {b : σ → Option σ} {s s' : σ} (h : c s = some true) (h2 : b s = some s') : whileS c b s = whileS c b s' := by
  rw [whileS, h]
  simp only [h2]
/-- a while by an invariant and a number that falls -/
theorem whileS_inv {c : σ → Option Bool} {b : σ → Option σ} (I : σ → Prop) (m : σ → Nat) (hc : ∀ s, I s → ∃ t, c s = some t ∧ (t = true → ∃ s', b s = some s' ∧ I s' ∧ m s' < m s)) : ∀ (n : Nat) (s : σ), m s = n → I s → ∃ s', whileS c b s = some s' ∧ I s' ∧ c s' = some false := by
  intro n
  induction n using Nat.strongRecOn with
  | ind n ih =>
    intro s hn h
    obtain ⟨t, h1, h2⟩ := hc s h
    cases t with
    | false => exact ⟨s, whileS_stop h1, h, h1⟩
    | true =>
      obtain ⟨s1, h3, h4, h5⟩ := h2 rfl
      obtain ⟨s2, h6, h7, h8⟩ := ih (m s1) (by omega) s1 rfl h4
      exact ⟨s2, (whileS_next h1 h3).trans h6, h7, h8⟩
theorem modG_pos {i j : Int} (h : 0 < j) : modG i j = some (i % j) := by
  unfold modG
  rw [if_neg (by omega), modD_pos h]
theorem divG_of {i j : Int} (h : divOk j = true) : divG i j = some (divD i j) := if_pos h
/-! rows by their places -/
theorem rg_map_get {n : Nat} (f : Int → α) : (rg 0 (n : Int)).map f = (List.range n).map fun (k : Nat) => f (k : Int) := by
  unfold rg
  rw [List.map_map, show ((n : Int) - 0).toNat = n by omega]
  refine List.map_congr_left fun k _ => ?_
  show f (0 + (k : Int)) = f k
  rw [Int.zero_add]
theorem rg_getElem {n : Nat} {i : Nat} (h : i < (rg 0 (n : Int)).length) : (rg 0 (n : Int))[i] = (i : Int) := by
  simp [rg]
theorem mem_rg0 {n : Nat} {k : Int} (h : k ∈ rg 0 (n : Int)) : ∃ i : Nat, i < n ∧ k = i := by
  obtain ⟨h1, h2⟩ := mem_rg.mp h
  exact ⟨k.toNat, by omega, by omega⟩
theorem ints_enc (xs : List Int) : (PV.tup (xs.map fun a => PV.int a)).enc = eT D.int xs := by
  show D.tup (PV.encs _) = D.tup _
  rw [encs_map, List.map_map]; rfl
end
/-! fractions -/
theorem gcd_emod' (a b : Int) : Int.gcd b (a % b) = Int.gcd a b := by
  rw [Int.emod_def, Int.gcd_sub_mul_left_right, Int.gcd_comm]
theorem euclidS : ∀ (y x : Nat), whileS (fun (s3 : (Int × Int)) => some (decide (0 < s3.2))) (fun (s3 : (Int × Int)) => (modG s3.1 s3.2).bind fun x4 => some (s3.2, x4)) ((x : Int), (y : Int)) = some ((Nat.gcd x y : Int), 0) := by
  intro y
  induction y using Nat.strongRecOn with
  | ind y ih =>
    intro x
    by_cases hy : y = 0
    · subst hy
      rw [whileS_stop (by simp)]
      simp
    · rw [whileS_next (s' := ((y : Int), ((x % y : Nat) : Int))) (by simp; omega) (by simp only [modG_pos (show (0 : Int) < (y : Int) by omega)]; rfl), ih (x % y) (Nat.mod_lt _ (by omega)) y]
      rw [Nat.gcd_comm x y, Nat.gcd_rec y x, Nat.gcd_comm (x % y) y]
theorem lowStep : ∀ (k : Nat) (xs : List Int) (x y : Nat), y < 2 ^ k → 2 * k ≤ xs.length → loopO (fun i4 (s2 : (Int × Int)) => (if (decide (s2.2 = 0)) = true then some (Ct.bk (s2.1, s2.2)) else (modG s2.1 s2.2).bind fun x5 => some (Ct.nx (s2.2, x5)) : Option (Ct Unit (Int × Int)))) xs ((x : Int), (y : Int)) = some (.inr ((Nat.gcd x y : Int), 0)) := by
  have zero : ∀ (xs : List Int) (x : Nat), loopO (fun i4 (s2 : (Int × Int)) => (if (decide (s2.2 = 0)) = true then some (Ct.bk (s2.1, s2.2)) else (modG s2.1 s2.2).bind fun x5 => some (Ct.nx (s2.2, x5)) : Option (Ct Unit (Int × Int)))) xs ((x : Int), ((0 : Nat) : Int)) = some (.inr ((x : Int), 0)) := by
    intro xs x
    cases xs <;> rfl
  have next : ∀ (d : Int) (xs : List Int) (x y : Nat), y ≠ 0 → loopO (fun i4 (s2 : (Int × Int)) => (if (decide (s2.2 = 0)) = true then some (Ct.bk (s2.1, s2.2)) else (modG s2.1 s2.2).bind fun x5 => some (Ct.nx (s2.2, x5)) : Option (Ct Unit (Int × Int)))) (d :: xs) ((x : Int), (y : Int)) = loopO (fun i4 (s2 : (Int × Int)) => (if (decide (s2.2 = 0)) = true then some (Ct.bk (s2.1, s2.2)) else (modG s2.1 s2.2).bind fun x5 => some (Ct.nx (s2.2, x5)) : Option (Ct Unit (Int × Int)))) xs ((y : Int), ((x % y : Nat) : Int)) := by
    intro d xs x y hy
    rw [loopO]
    have h1 : ¬ (y : Int) = 0 := by omega
    simp only [h1, decide_false, Bool.false_eq_true, if_false, modG_pos (show (0 : Int) < (y : Int) by omega), Option.bind_some]
    rfl
  intro k
  induction k with
  | zero =>
    intro xs x y hy _
    have : y = 0 := by simpa using hy
    subst this
    rw [Nat.gcd_zero_right]; exact zero xs x
  | succ k ih =>
    intro xs x y hy hl
    by_cases h0 : y = 0
    · subst h0
      rw [Nat.gcd_zero_right]; exact zero xs x
    · rcases xs with _ | ⟨d1, _ | ⟨d2, r⟩⟩
      · simp at hl
      · simp at hl; omega
      · simp at hl
        have hr : x % y < y := Nat.mod_lt _ (by omega)
        by_cases h1 : x % y = 0
        · rw [next d1 _ x y h0, h1, zero, Nat.gcd_comm x y, Nat.gcd_rec y x, h1, Nat.gcd_zero_left]
        · have hs : y % (x % y) < 2 ^ k := by
            have h2 : y % (x % y) < x % y := Nat.mod_lt _ (by omega)
            have h3 : y = (x % y) * (y / (x % y)) + y % (x % y) := (Nat.div_add_mod y (x % y)).symm
            have h4 : 1 ≤ y / (x % y) := (Nat.one_le_div_iff (by omega)).mpr (by omega)
            have h5 : x % y ≤ (x % y) * (y / (x % y)) := Nat.le_mul_of_pos_right _ h4
            rw [Nat.pow_succ] at hy
            omega
          rw [next d1 _ x y h0, next d2 _ y (x % y) h1, ih r (x % y) (y % (x % y)) hs (by omega)]
          rw [Nat.gcd_comm x y, Nat.gcd_rec y x, Nat.gcd_comm (x % y) (y % (x % y)), ← Nat.gcd_rec]
theorem lowAll (a b : Int) (hb : 0 < b) (hs : Bd 4999 b) : loopO (fun i4 (s2 : (Int × Int)) => (if (decide (s2.2 = 0)) = true then some (Ct.bk (s2.1, s2.2)) else (modG s2.1 s2.2).bind fun x5 => some (Ct.nx (s2.2, x5)) : Option (Ct Unit (Int × Int)))) (rg 0 9999) (a, b) = some (.inr ((Int.gcd a b : Int), 0)) := by
  have hl := rg_len 0 9999
  rcases hx : rg 0 9999 with _ | ⟨d, r⟩
  · rw [hx] at hl; cases hl
  · rw [hx] at hl
    have hr : r.length = 9998 := by simp at hl; omega
    have hm0 : 0 ≤ a % b := Int.emod_nonneg _ (by omega)
    have hm1 : a % b < b := Int.emod_lt_of_pos _ (by omega)
    have h0 : ¬ b = 0 := by omega
    have h1 := lowStep 4999 r b.toNat (a % b).toNat (by unfold Bd at hs; omega) (by omega)
    rw [loopO]
    simp only [h0, decide_false, Bool.false_eq_true, if_false, modG_pos hb, Option.bind_some]
    rw [show ((b.toNat : Nat) : Int) = b by omega, show (((a % b).toNat : Nat) : Int) = a % b by omega] at h1
    rw [h1]
    have hg : Nat.gcd b.toNat (a % b).toNat = Int.gcd a b := by
      rw [← gcd_emod' a b]
      show _ = Nat.gcd _ _
      rw [show b.natAbs = b.toNat by omega, show (a % b).natAbs = (a % b).toNat by omega]
    rw [hg]
theorem ediv_neg_of' {a g : Int} (hg : 0 < g) (h : g ∣ a) : a.fdiv (-g) = -(a / g) := by
  obtain ⟨k, rfl⟩ := h
  have e : g * k = (-g) * (-k) := by rw [Int.neg_mul_neg]
  have h0 : -g ≠ 0 := by omega
  rw [Int.mul_ediv_cancel_left _ (by omega : g ≠ 0)]
  conv => lhs; rw [e]
  rw [Int.mul_fdiv_cancel_left _ h0]
theorem gcd_bd {a b : Int} {n : Nat} (hb : b ≠ 0) (hs : Bd n b) : Bd n (Int.gcd a b : Int) := by
  have gl : Int.gcd a b ≤ b.natAbs := Nat.le_of_dvd (by omega) (Int.gcd_dvd_natAbs_right a b)
  unfold Bd at *; simp only [Int.natAbs_natCast]; omega
theorem low_divs {a b : Int} (hb : 0 < b) (hs : Bd 4999 b) : divG a (Int.gcd a b : Int) = some (nfN a b) ∧ divG b (Int.gcd a b : Int) = some (nfD a b) := by
  have gp := gcd_pos (a := a) (b := b) (by omega)
  have d1 : divOk (Int.gcd a b : Int) = true := div_of (gcd_bd (a := a) (by omega) hs) (by omega) (by decide) (by decide)
  rw [divG_of d1, divG_of d1, divD_pos (by omega), divD_pos (by omega)]
  unfold nfN nfD
  rw [Int.sign_eq_one_of_pos hb, Int.mul_one, show (b.natAbs : Int) = b by omega]
  exact ⟨rfl, rfl⟩
theorem lowest_divs {a b : Int} (hb : b ≠ 0) (hs : Bd 4999 b) : divG a (if b < 0 then -(Int.gcd a b : Int) else (Int.gcd a b : Int)) = some (nfN a b) ∧ divG b (if b < 0 then -(Int.gcd a b : Int) else (Int.gcd a b : Int)) = some (nfD a b) := by
  by_cases hn : b < 0
  · have gp := gcd_pos (a := a) (b := b) hb
    have hg := gcd_bd (a := a) hb hs
    have d2 : divOk (-(Int.gcd a b : Int)) = true := div_of hg.neg (by omega) (by decide) (by decide)
    have e1 : (Int.gcd a b : Int) ∣ a := Int.gcd_dvd_left ..
    have e2 : (Int.gcd a b : Int) ∣ b := Int.gcd_dvd_right ..
    have gpos : (0 : Int) < Int.gcd a b := by omega
    have q : ∀ x : Int, (Int.gcd a b : Int) ∣ x → divD x (-(Int.gcd a b : Int)) = -(x / (Int.gcd a b : Int)) := fun x hx => by
      unfold divD
      rw [if_neg (by omega), ediv_neg_of' gpos hx]
    rw [if_pos hn, divG_of d2, divG_of d2, q a e1, q b e2]
    constructor
    · unfold nfN
      rw [Int.sign_eq_neg_one_of_neg hn, Int.mul_neg, Int.mul_one, Int.neg_ediv_of_dvd e1]
    · unfold nfD
      rw [show (b.natAbs : Int) = -b by omega, Int.neg_ediv_of_dvd e2]
  · rw [if_neg hn]
    exact low_divs (by omega) hs
end TL
end

section
/-! U2: plain values: what may be compared; loops by places. -/
namespace TL
open DL K31
open PySem (PyData)
section
variable {α β γ σ ρ : Type}
/-- a value that may be compared (it is not nested too deep, its texts are no longer than texts are) -/
def PV.okN (n : Nat) (v : PV) : Prop := v.enc.py.canLay0 = true ∧ v.enc.py.depth ≤ n
theorem okN_mono {n m : Nat} {v : PV} (h : v.okN n) (hm : n ≤ m) : v.okN m := ⟨h.1, Nat.le_trans h.2 hm⟩
theorem okN_int {i : Int} : (PV.int i).okN 1 := ⟨rfl, by show PyData.depth (.int i) ≤ 1; rw [PyData.depth]; omega⟩
theorem okN_bl {b : Bool} : (PV.bl b).okN 1 := ⟨rfl, by show PyData.depth (.bool b) ≤ 1; rw [PyData.depth]; omega⟩
theorem okN_non : (PV.non).okN 1 := ⟨rfl, by show PyData.depth .none ≤ 1; rw [PyData.depth]; omega⟩
theorem pys_encs (vs : List PV) : D.pys (PV.encs vs) = vs.map fun v => v.enc.py := by
  rw [encs_map, pys_map]
theorem lay_all {n : Nat} : ∀ {vs : List PV}, (∀ v ∈ vs, v.okN n) → PyData.canLayAll0 (vs.map fun v => v.enc.py) = true ∧ PyData.depthAll (vs.map fun v => v.enc.py) ≤ n
  | [], _ => ⟨rfl, by rw [List.map_nil, PyData.depthAll]; omega⟩
  | v :: vs, h => by
    obtain ⟨h1, h2⟩ := h v List.mem_cons_self
    obtain ⟨h3, h4⟩ := lay_all (vs := vs) fun w hw => h w (List.mem_cons_of_mem _ hw)
    refine ⟨?_, ?_⟩
    · show (PyData.canLay0 v.enc.py && _) = true
      rw [h1, h3]; rfl
    · rw [List.map_cons, PyData.depthAll]; omega
theorem okN_tup {n : Nat} {vs : List PV} (h : ∀ v ∈ vs, v.okN n) : (PV.tup vs).okN (n + 1) := by
  obtain ⟨h1, h2⟩ := lay_all h
  refine ⟨?_, ?_⟩
  · show PyData.canLayAll0 (D.pys (PV.encs vs)) = true
    rw [pys_encs]; exact h1
  · show PyData.depth (.tuple (D.pys (PV.encs vs))) ≤ n + 1
    rw [PyData.depth, pys_encs]; omega
theorem okN_lst {n : Nat} {vs : List PV} (h : ∀ v ∈ vs, v.okN n) : (PV.lst vs).okN (n + 1) := by
  obtain ⟨h1, h2⟩ := lay_all h
  refine ⟨?_, ?_⟩
  · show PyData.canLayAll0 (D.pys (PV.encs vs)) = true
    rw [pys_encs]; exact h1
  · show PyData.depth (.list (D.pys (PV.encs vs))) ≤ n + 1
    rw [PyData.depth, pys_encs]; omega
theorem shp_of {n : Nat} {v : PV} (h : v.okN n) (hn : n ≤ 64) : v.enc.shp = true := by
  show (v.enc.py.canLay0 && decide (v.enc.py.depth ≤ 64)) = true
  rw [h.1, decide_eq_true (Nat.le_trans h.2 hn)]; rfl
theorem shp_eL {n : Nat} {vs : List PV} (h : ∀ v ∈ vs, v.okN n) (hn : n ≤ 63) : (eL PV.enc vs).shp = true := by
  have := shp_of (okN_lst h) (show n + 1 ≤ 64 by omega)
  unfold D.shp at *
  show PySem.SeqAt.shaped (.list (D.pys (vs.map PV.enc))) = true
  rw [← encs_map]; exact this
theorem shp_eT {n : Nat} {vs : List PV} (h : ∀ v ∈ vs, v.okN n) (hn : n ≤ 63) : (eT PV.enc vs).shp = true := by
  have := shp_of (okN_tup h) (show n + 1 ≤ 64 by omega)
  unfold D.shp at *
  show PySem.SeqAt.shaped (.tuple (D.pys (vs.map PV.enc))) = true
  rw [← encs_map]; exact this
/-- a list of values against the empty one -/
theorem eqG_nilL {n : Nat} {vs : List PV} (h : ∀ v ∈ vs, v.okN n) (hn : n ≤ 63) : eqG (eL PV.enc vs) (eL PV.enc []) = some vs.isEmpty := by
  unfold eqG
  rw [shp_eL h hn, shp_eL (vs := []) (fun v hv => by cases hv) hn, if_pos (by rfl)]
  cases vs <;> rfl
theorem eqG_C (f : α → D) {n : Nat} [DecidableEq α] [h : EqC f n] (hn : n ≤ 64) (a b : α) : eqG (f a) (f b) = some (decide (a = b)) := by
  unfold eqG
  rw [EqC.shp hn a, EqC.shp hn b, h.eqv, if_pos (by rfl)]
/-! loops over places as loops over things -/
theorem rg_succ (lo hi : Int) (h : lo < hi) : rg lo hi = lo :: rg (lo + 1) hi := by
  unfold rg
  obtain ⟨n, hn⟩ : ∃ n : Nat, (hi - lo).toNat = n + 1 := ⟨(hi - lo).toNat - 1, by omega⟩
  rw [hn, show (hi - (lo + 1)).toNat = n by omega, List.range_succ_eq_map, List.map_cons, List.map_map]
  congr 1
  · simp
  · refine List.map_congr_left fun k _ => ?_
    simp only [Function.comp]
    omega
theorem rg_nil {lo hi : Int} (h : hi ≤ lo) : rg lo hi = [] := by
  unfold rg
  rw [show (hi - lo).toNat = 0 by omega]; rfl
theorem foldO_zip_aux (F : α → β → σ → Option σ) (xs0 : List α) (ys0 : List β) : ∀ (xs : List α) (ys : List β) (k : Nat) (s : σ), xs0.drop k = xs → ys0.drop k = ys → xs.length ≤ ys.length →
    foldO (fun (i : Int) s => (L2.atI xs0 i).bind fun x => (L2.atI ys0 i).bind fun y => F x y s) (rg (k : Int) (xs0.length : Int)) s = foldO (fun p s => F p.1 p.2 s) (xs.zip ys) s
  | [], ys, k, s, h1, _, _ => by
    have : xs0.length ≤ k := by have := congrArg List.length h1; simp at this; omega
    rw [rg_nil (by omega)]; rfl
  | x :: xs, [], k, s, _, _, hl => by simp at hl
  | x :: xs, y :: ys, k, s, h1, h2, hl => by
    have l1 : k < xs0.length := by have := congrArg List.length h1; simp at this; omega
    have l2 : k < ys0.length := by have := congrArg List.length h2; simp at this; omega
    have e1 : xs0[k] = x ∧ xs0.drop (k + 1) = xs := by
      rw [List.drop_eq_getElem_cons l1] at h1
      exact List.cons.inj h1
    have e2 : ys0[k] = y ∧ ys0.drop (k + 1) = ys := by
      rw [List.drop_eq_getElem_cons l2] at h2
      exact List.cons.inj h2
    rw [rg_succ _ _ (by omega), foldO, at_in l1, at_in l2, List.zip_cons_cons, foldO, e1.1, e2.1]
    simp only [Option.bind_some]
    cases F x y s with
    | none => rfl
    | some s' =>
      have := foldO_zip_aux F xs0 ys0 xs ys (k + 1) s' e1.2 e2.2 (by simpa using hl)
      rw [show (((k + 1 : Nat)) : Int) = (k : Int) + 1 by omega] at this
      exact this
/-- for i in range(len(xs)) over xs[i], ys[i] -/
theorem foldO_zip (F : α → β → σ → Option σ) (xs : List α) (ys : List β) (s : σ) (h : xs.length ≤ ys.length) : foldO (fun (i : Int) s => (L2.atI xs i).bind fun x => (L2.atI ys i).bind fun y => F x y s) (rg 0 (xs.length : Int)) s = foldO (fun p s => F p.1 p.2 s) (xs.zip ys) s :=
  foldO_zip_aux F xs ys xs ys 0 s rfl rfl h
theorem foldO_map (h : α → β) (step : β → σ → Option σ) : ∀ (xs : List α) (s : σ), foldO step (xs.map h) s = foldO (fun x s => step (h x) s) xs s
  | [], s => rfl
  | x :: xs, s => by
    rw [List.map_cons, foldO, foldO]
    cases step (h x) s with
    | none => rfl
    | some s' => exact foldO_map h step xs s'
theorem foldO_congr {f g : α → σ → Option σ} {xs : List α} {s : σ} (h : ∀ x ∈ xs, ∀ s, f x s = g x s) : foldO f xs s = foldO g xs s := by
  induction xs generalizing s with
  | nil => rfl
  | cons x xs ih =>
    rw [foldO, foldO, h x List.mem_cons_self]
    cases g x s with
    | none => rfl
    | some s' => exact ih fun y hy => h y (List.mem_cons_of_mem _ hy)
theorem at_toNat {xs : List α} {i : Int} (h0 : 0 ≤ i) (h : i < xs.length) : L2.atI xs i = some (xs[i.toNat]'(by omega)) := by
  have := at_in (xs := xs) (i := i.toNat) (by omega)
  rw [show ((i.toNat : Nat) : Int) = i by omega] at this
  exact this
theorem compM_filter {F : α → Option (Option α)} {c : α → Bool} {xs : List α} (h : ∀ x ∈ xs, F x = some (if c x = true then some x else none)) : compM F xs = some (xs.filter c) := by
  rw [compM_fm (G := fun x => if c x = true then some x else none) h, fm_if c (fun x => x), List.map_id']
theorem filter_nil {c : α → Bool} {xs : List α} : (xs.filter c).isEmpty = xs.all fun x => !c x := by
  induction xs with
  | nil => rfl
  | cons x xs ih =>
    rw [List.all_cons, ← ih, List.filter_cons]
    cases c x <;> rfl
theorem filter_dec [DecidableEq α] {c : α → Bool} {xs : List α} : decide (xs.filter c = []) = xs.all fun x => !c x := by
  rw [← filter_nil]
  cases xs.filter c <;> rfl
end
end TL
namespace TL
open DL K31
section
variable {α β γ σ ρ : Type}
theorem mem_cutL {xs : List α} {l h : Option Int} {x : α} (hx : x ∈ cutL xs l h) : x ∈ xs := List.mem_of_mem_drop (List.mem_of_mem_take hx)
theorem len_cutL {xs : List α} {l h : Option Int} : (cutL xs l h).length ≤ xs.length := by
  unfold cutL
  rw [List.length_take, List.length_drop]; omega
theorem cut_to {xs : List α} {k : Nat} (h : k ≤ xs.length) : cutL xs none (some (k : Int)) = xs.take k := by
  unfold cutL
  rw [HT.sIx_none, HT.sIx_nat, List.drop_zero, Nat.sub_zero, Nat.min_eq_left h]
theorem cut_from {xs : List α} {k : Nat} (h : k ≤ xs.length) : cutL xs (some (k : Int)) none = xs.drop k := by
  unfold cutL
  rw [HT.sIx_none, HT.sIx_nat, Nat.min_eq_left h, List.take_of_length_le (by rw [List.length_drop]; omega)]
theorem at_last {xs : List α} (h : xs ≠ []) : L2.atI xs (-1) = some (xs.getLast h) := by
  have hl := List.length_pos_iff.mpr h
  unfold L2.atI L2.ixN
  rw [if_neg (by omega), if_pos (by omega)]
  show xs[((-1 : Int) + (xs.length : Int)).toNat]? = _
  rw [List.getLast_eq_getElem, show ((-1 : Int) + (xs.length : Int)).toNat = xs.length - 1 by omega, List.getElem?_eq_getElem (by omega)]
end
theorem Bd_of {n : Nat} {i m : Int} (h : -m ≤ i ∧ i ≤ m) (hm : m.toNat < 2 ^ n) : Bd n i := by unfold Bd; omega
end TL
end

section
/-! U3: plain values as rows of ints; ascending rows. -/
namespace TL
open DL K31
def isNm : PV → Bool
  | .int _ => true
  | _ => false
theorem isnum_eq (v : PV) : (v.isI && !v.isB) = isNm v := by cases v <;> rfl
def pvI (ns : List Int) : List PV := ns.map fun a => PV.int a
theorem nm_cases : ∀ {vs : List PV}, vs.all isNm = true → ∃ ns, vs = pvI ns
  | [], _ => ⟨[], rfl⟩
  | v :: vs, h => by
    rw [List.all_cons, Bool.and_eq_true] at h
    obtain ⟨ns, rfl⟩ := nm_cases h.2
    cases v with
    | int i => exact ⟨i :: ns, rfl⟩
    | _ => cases h.1
theorem nm_all (ns : List Int) : (pvI ns).all isNm = true := by
  induction ns with
  | nil => rfl
  | cons n ns ih => exact ih
theorem asI_pvI (ns : List Int) : mapO PV.asI (pvI ns) = some ns := by
  induction ns with
  | nil => rfl
  | cons n ns ih => show (some n).bind _ = _; rw [Option.bind_some]; show (mapO PV.asI (pvI ns)).bind _ = _; rw [ih]; rfl
theorem dn_pvI (ns : List Int) : dnT PV.asI (.tup (pvI ns)) = some ns := asI_pvI ns
theorem pvI_len (ns : List Int) : (pvI ns).length = ns.length := List.length_map ..
theorem pvI_ok (ns : List Int) : ∀ v ∈ pvI ns, v.okN 1 := fun v hv => by
  obtain ⟨n, _, rfl⟩ := List.mem_map.mp hv
  exact okN_int
theorem pvI_at {ns : List Int} {k : Nat} (h : k < ns.length) : (PV.tup (pvI ns)).at (k : Int) = some (.int ns[k]) := by
  show (some (pvI ns)).bind _ = _
  rw [Option.bind_some, at_in (by rw [pvI_len]; exact h)]
  simp [pvI]
theorem eL_pvI (ns : List Int) : eL PV.enc (pvI ns) = eL D.int ns := by
  show D.lst true _ = D.lst true _
  unfold pvI
  rw [List.map_map]; rfl
theorem eT_pvI (ns : List Int) : PV.enc (.tup (pvI ns)) = eT D.int ns := ints_enc ns
theorem pvI_inj {xs ys : List Int} (h : pvI xs = pvI ys) : xs = ys := by
  have := asI_pvI xs
  rw [h, asI_pvI] at this
  exact (Option.some.inj this).symm
/-- neighbours ascend -/
def asc : List Int → Bool
  | x :: y :: r => decide (x < y) && asc (y :: r)
  | _ => true
theorem asc_iff : ∀ {xs : List Int}, asc xs = true ↔ xs.Pairwise (· < ·)
  | [] => ⟨fun _ => List.Pairwise.nil, fun _ => rfl⟩
  | [x] => ⟨fun _ => List.pairwise_singleton _ _, fun _ => rfl⟩
  | x :: y :: r => by
    rw [asc, Bool.and_eq_true, decide_eq_true_eq]
    constructor
    · rintro ⟨h1, h2⟩
      have h2 := asc_iff.mp h2
      refine List.pairwise_cons.mpr ⟨fun z hz => ?_, h2⟩
      rcases List.mem_cons.mp hz with rfl | hz
      · exact h1
      · have := (List.pairwise_cons.mp h2).1 z hz; omega
    · intro h
      obtain ⟨h1, h2⟩ := List.pairwise_cons.mp h
      exact ⟨h1 y List.mem_cons_self, asc_iff.mpr h2⟩
theorem asc_places : ∀ (xs : List Int), ((rg 0 ((xs.length : Int) - 1)).all fun k => decide (xs.getD k.toNat 0 < xs.getD (k.toNat + 1) 0)) = asc xs := by
  intro xs
  rw [Bool.eq_iff_iff, asc_iff, List.all_eq_true]
  constructor
  · intro h
    have adj : ∀ k, k + 1 < xs.length → xs.getD k 0 < xs.getD (k + 1) 0 := fun k hk => by
      have := h (k : Int) (mem_rg.mpr ⟨by omega, by omega⟩)
      simpa using this
    rw [List.pairwise_iff_getElem]
    intro i j hi hj hij
    have key : ∀ d, i + d + 1 < xs.length → xs.getD i 0 < xs.getD (i + d + 1) 0 := fun d => by
      induction d with
      | zero => intro hd; exact adj i hd
      | succ d ih => intro hd; have a := ih (by omega); have b := adj (i + d + 1) (by omega); rw [show i + (d + 1) + 1 = i + d + 1 + 1 by omega]; omega
    have := key (j - i - 1) (by omega)
    rw [show i + (j - i - 1) + 1 = j by omega] at this
    simpa [List.getD_eq_getElem?_getD, hi, hj] using this
  · intro h k hk
    obtain ⟨h0, h1⟩ := mem_rg.mp hk
    have hl : k.toNat + 1 < xs.length := by omega
    have := List.pairwise_iff_getElem.mp h k.toNat (k.toNat + 1) (by omega) hl (by omega)
    simpa [List.getD_eq_getElem?_getD, hl, show k.toNat < xs.length by omega] using this
theorem sorted_of_asc {xs : List Int} (h : xs.Pairwise (· < ·)) : sortI (dedup xs) = xs := by
  refine (strict_eq ?_ h fun k => ?_)
  · exact (List.pairwise_and_iff.mpr ⟨sortI_sorted _, (sortI_perm _).nodup_iff.mpr dedup_nd⟩).imp fun h => by omega
  · rw [(sortI_perm _).mem_iff, dedup_mem]
theorem asc_sorted (xs : List Int) : asc xs = decide (xs = sortI (dedup xs)) := by
  rw [Bool.eq_iff_iff, asc_iff, decide_eq_true_eq]
  constructor
  · intro h; exact (sorted_of_asc h).symm
  · intro h
    rw [h]
    exact (List.pairwise_and_iff.mpr ⟨sortI_sorted _, (sortI_perm _).nodup_iff.mpr dedup_nd⟩).imp fun h => by omega
/-- whether ints are below a bound, from 0 on -/
def inB (n : Int) (x : Int) : Bool := decide (0 ≤ x) && decide (x < n)
/-- a value that may be looked at: its row is short -/
def Nice (v : PV) : Prop := v.okN 4 ∧ ∀ vs, v = .tup vs → vs.length ≤ 60 ∧ ∀ x ∈ vs, x.okN 3
theorem eqG_nilT {v : PV} (h : v.okN 4) : eqG (PV.enc v) (eT PV.enc []) = some (match v with | .tup vs => vs.isEmpty | _ => false) := by
  unfold eqG
  have h2 : (eT PV.enc ([] : List PV)).shp = true := shp_eT (n := 4) (fun v hv => by cases hv) (by decide)
  rw [shp_of h (by decide), h2, if_pos (by rfl)]
  cases v with
  | tup vs => cases vs <;> rfl
  | _ => rfl
theorem eqG_intV {v : PV} (h : v.okN 4) (i : Int) (hv : isNm v = true) : eqG (D.int i) (PV.enc v) = some (decide (PV.asI v = some i)) := by
  cases v with
  | int j =>
    have := eqG_C D.int (by decide) i j
    refine this.trans ?_
    show some (decide (i = j)) = some (decide (some j = some i))
    congr 1
    by_cases e : i = j
    · subst e; simp
    · simp [e, Ne.symm e]
  | _ => cases hv
end TL
end

section
/-! U4: looks as propositions; plain values that are bent; keys of dicts; what can be come to. -/
namespace TL
open DL K31
section
variable {α β γ σ ρ : Type}
/-- a look's answer says just p -/
def Sp (o : Option Bool) (p : Prop) : Prop := ∃ b, o = some b ∧ (b = true ↔ p)
theorem Sp.mk {b : Bool} {p : Prop} (h : b = true ↔ p) : Sp (some b) p := ⟨b, rfl, h⟩
theorem Sp.iff {o : Option Bool} {p q : Prop} (h : Sp o p) (e : p ↔ q) : Sp o q := by
  obtain ⟨b, h1, h2⟩ := h; exact ⟨b, h1, h2.trans e⟩
theorem Sp.tt {p : Prop} (h : p) : Sp (some true) p := ⟨true, rfl, ⟨fun _ => h, fun _ => rfl⟩⟩
theorem Sp.ff {p : Prop} (h : ¬ p) : Sp (some false) p := ⟨false, rfl, ⟨fun e => (Bool.false_ne_true e).elim, fun e => (h e).elim⟩⟩
theorem Sp.dec {p : Prop} [Decidable p] : Sp (some (decide p)) p := ⟨_, rfl, decide_eq_true_iff⟩
theorem Sp.ndec {p : Prop} [Decidable p] : Sp (some (!decide p)) (¬ p) := ⟨_, rfl, by simp⟩
/-- two looks that say the same answer alike -/
theorem Sp.same {o o' : Option Bool} {p : Prop} (h : Sp o p) (h' : Sp o' p) : ∃ b, o = some b ∧ o' = some b := by
  obtain ⟨b, h1, h2⟩ := h
  obtain ⟨c, h3, h4⟩ := h'
  have : b = c := by rw [Bool.eq_iff_iff, h2, h4]
  subst this
  exact ⟨b, h1, h3⟩
theorem Sp.yes {o : Option Bool} {p : Prop} (h : Sp o p) (hp : p) : o = some true := by
  obtain ⟨b, h1, h2⟩ := h
  rw [h1, h2.mpr hp]
theorem Sp.no {o : Option Bool} {p : Prop} (h : Sp o p) (hp : ¬ p) : o = some false := by
  obtain ⟨b, h1, h2⟩ := h
  cases b with
  | false => exact h1
  | true => exact (hp (h2.mp rfl)).elim
theorem compM_sp {F : α → Option (Option β)} {p : α → Prop} {xs : List α} (h : ∀ x ∈ xs, (F x = some none ∧ p x) ∨ (∃ y, F x = some (some y) ∧ ¬ p x)) : ∃ ys, compM F xs = some ys ∧ (ys = [] ↔ ∀ x ∈ xs, p x) ∧ ys.length ≤ xs.length := by
  induction xs with
  | nil => exact ⟨[], rfl, by simp, Nat.le_refl _⟩
  | cons x xs ih =>
    obtain ⟨ys, h1, h2, h3⟩ := ih fun y hy => h y (List.mem_cons_of_mem _ hy)
    rcases h x List.mem_cons_self with ⟨e, hp⟩ | ⟨y, e, hp⟩
    · refine ⟨ys, by rw [compM, e, Option.bind_some]; exact h1, ?_, by rw [List.length_cons]; omega⟩
      rw [h2]
      simp [hp]
    · refine ⟨y :: ys, by rw [compM, e, Option.bind_some]; show (compM F xs).bind _ = _; rw [h1]; rfl, ?_, by rw [List.length_cons, List.length_cons]; omega⟩
      simp [hp]
theorem mapO_sp {F : α → Option Bool} {p : α → Prop} {xs : List α} (h : ∀ x ∈ xs, Sp (F x) (p x)) : ∃ ys, mapO F xs = some ys ∧ (ys.all id = true ↔ ∀ x ∈ xs, p x) := by
  induction xs with
  | nil => exact ⟨[], rfl, by simp⟩
  | cons x xs ih =>
    obtain ⟨ys, h1, h2⟩ := ih fun y hy => h y (List.mem_cons_of_mem _ hy)
    obtain ⟨b, e, hp⟩ := h x List.mem_cons_self
    refine ⟨b :: ys, by rw [mapO, e, Option.bind_some, h1]; rfl, ?_⟩
    rw [List.all_cons, Bool.and_eq_true, h2]
    show (b = true ∧ _) ↔ _
    rw [hp]; simp
/-- a loop that ends at the first thing that has not p -/
theorem loopO_sp {step : α → Unit → Option (Ct ρ Unit)} {p : α → Prop} {v : ρ} {xs : List α} (h : ∀ x ∈ xs, (step x () = some (.nx ()) ∧ p x) ∨ (step x () = some (.rt v) ∧ ¬ p x)) : (loopO step xs () = some (.inr ()) ∧ ∀ x ∈ xs, p x) ∨ (loopO step xs () = some (.inl v) ∧ ¬ ∀ x ∈ xs, p x) := by
  induction xs with
  | nil => exact .inl ⟨rfl, by simp⟩
  | cons x xs ih =>
    rcases h x List.mem_cons_self with ⟨e, hp⟩ | ⟨e, hp⟩
    · rcases ih fun y hy => h y (List.mem_cons_of_mem _ hy) with ⟨h1, h2⟩ | ⟨h1, h2⟩
      · exact .inl ⟨by rw [loopO, e]; exact h1, by simp [hp]; exact h2⟩
      · exact .inr ⟨by rw [loopO, e]; exact h1, fun hh => h2 fun y hy => hh y (List.mem_cons_of_mem _ hy)⟩
    · exact .inr ⟨by rw [loopO, e]; rfl, fun hh => hp (hh x List.mem_cons_self)⟩
/-- a place less one, where the first one's is the last -/
def prv (n k : Nat) : Nat := if k = 0 then n - 1 else k - 1
theorem prv_lt {n k : Nat} (h : k < n) : prv n k < n := by unfold prv; split <;> omega
theorem at_prv {xs : List α} {k : Nat} (h : k < xs.length) : L2.atI xs ((k : Int) - 1) = some (xs[prv xs.length k]'(prv_lt h)) := by
  unfold prv
  by_cases e : k = 0
  · subst e
    have hne : xs ≠ [] := fun e => by subst e; exact absurd h (by simp)
    rw [show ((0 : Nat) : Int) - 1 = -1 by omega, at_last hne, List.getLast_eq_getElem]
    simp
  · rw [show (k : Int) - 1 = ((k - 1 : Nat) : Int) by omega, at_in (by omega)]
    simp [e]
theorem countP_less {p q : α → Bool} {xs : List α} (h : ∀ x ∈ xs, q x = true → p x = true) {a : α} (ha : a ∈ xs) (h1 : p a = true) (h2 : q a = false) : xs.countP q < xs.countP p := by
  induction xs with
  | nil => cases ha
  | cons x xs ih =>
    have hle : ∀ ys : List α, (∀ y ∈ ys, q y = true → p y = true) → ys.countP q ≤ ys.countP p := fun ys hy => List.countP_mono_left hy
    rw [List.countP_cons, List.countP_cons]
    rcases List.mem_cons.mp ha with rfl | ha
    · have := hle xs fun y hy => h y (List.mem_cons_of_mem _ hy)
      rw [h1, h2]; simp; omega
    · have := ih (fun y hy => h y (List.mem_cons_of_mem _ hy)) ha
      have hx := h x List.mem_cons_self
      cases hq : q x with
      | false => simp; split <;> omega
      | true => rw [hx hq]; simp; omega
theorem sumO_inl {α β γ : Type} {a : α} {f : α → Option γ} {g : β → Option γ} : sumO (.inl a) f g = f a := rfl
theorem sumO_inr {α β γ : Type} {b : β} {f : α → Option γ} {g : β → Option γ} : sumO (.inr b) f g = g b := rfl
end
/-! plain values that are bent -/
theorem lay_elem {n : Nat} : ∀ {vs : List PV}, PySem.PyData.canLayAll0 (vs.map fun v => v.enc.py) = true → PySem.PyData.depthAll (vs.map fun v => v.enc.py) ≤ n → ∀ v ∈ vs, v.okN n
  | [], _, _, v, hv => by cases hv
  | w :: vs, h1, h2, v, hv => by
    rw [List.map_cons] at h1 h2
    have h1 : (PySem.PyData.canLay0 w.enc.py && PySem.PyData.canLayAll0 (vs.map fun v => v.enc.py)) = true := h1
    rw [Bool.and_eq_true] at h1
    rw [PySem.PyData.depthAll] at h2
    rcases List.mem_cons.mp hv with rfl | hv
    · exact ⟨h1.1, by omega⟩
    · exact lay_elem h1.2 (by omega) v hv
theorem okN_elem {n : Nat} {vs : List PV} (h : (PV.tup vs).okN n) : ∀ v ∈ vs, v.okN n := by
  obtain ⟨h1, h2⟩ := h
  have h1 : PySem.PyData.canLayAll0 (D.pys (PV.encs vs)) = true := h1
  have h2 : PySem.PyData.depth (.tuple (D.pys (PV.encs vs))) ≤ n := h2
  rw [PySem.PyData.depth, pys_encs] at h2
  rw [pys_encs] at h1
  exact lay_elem h1 (by omega)
/-- a value that may be bent and looked at: how deep, how long at most -/
def Nc (d n : Nat) (v : PV) : Prop := v.okN d ∧ ∀ vs, v = .tup vs → vs.length ≤ n
theorem Nc.mono {d n d' n' : Nat} {v : PV} (h : Nc d n v) (hd : d ≤ d') (hn : n ≤ n') : Nc d' n' v := ⟨okN_mono h.1 hd, fun vs e => Nat.le_trans (h.2 vs e) hn⟩
theorem Nc.elem {d n : Nat} {vs : List PV} (h : Nc d n (.tup vs)) : ∀ v ∈ vs, v.okN d := okN_elem h.1
theorem Nc.len {d n : Nat} {vs : List PV} (h : Nc d n (.tup vs)) : vs.length ≤ n := h.2 vs rfl
theorem nc_tup {d n : Nat} {vs : List PV} (h : ∀ v ∈ vs, v.okN d) (hn : vs.length ≤ n) : Nc (d + 1) n (.tup vs) := ⟨okN_tup h, fun us e => by cases e; exact hn⟩
theorem nc_ints {n : Nat} {ns : List Int} (h : ns.length ≤ n) : Nc 2 n (.tup (pvI ns)) := nc_tup (pvI_ok ns) (by rw [pvI_len]; exact h)
/-- no tuple: it is as long as you like -/
theorem nc_of {d n : Nat} {v : PV} (h : v.okN d) (hv : ∀ vs, v ≠ .tup vs) : Nc d n v := ⟨h, fun vs e => (hv vs e).elim⟩
/-- an option of an int as a plain value -/
def oV (x : Option Int) : PV := x.elim PV.non fun a => PV.int a
theorem oV_ok (x : Option Int) : (oV x).okN 1 := by cases x with | none => exact okN_non | some i => exact okN_int
theorem oV_inj {x y : Option Int} (h : oV x = oV y) : x = y := by
  cases x <;> cases y <;> first | rfl | (cases h; done) | (injection h with h; rw [h])
def oVs (M : List (Option Int)) : PV := .tup (M.map oV)
theorem oVs_nc {M : List (Option Int)} {n : Nat} (h : M.length ≤ n) : Nc 2 n (oVs M) := nc_tup (fun v hv => by obtain ⟨x, _, rfl⟩ := List.mem_map.mp hv; exact oV_ok x) (by rw [List.length_map]; exact h)
theorem map_inj {f : α → β} (hf : ∀ x y, f x = f y → x = y) : ∀ {xs ys : List α}, xs.map f = ys.map f → xs = ys
  | [], [], _ => rfl
  | [], _ :: _, h => by cases h
  | _ :: _, [], h => by cases h
  | x :: xs, y :: ys, h => by
    rw [List.map_cons, List.map_cons] at h
    injection h with h1 h2
    rw [hf _ _ h1, map_inj hf h2]
theorem oVs_inj {M N : List (Option Int)} (h : oVs M = oVs N) : M = N := by
  injection h with h
  exact map_inj (fun _ _ => oV_inj) h
theorem oVs_at {M : List (Option Int)} {i : Nat} (h : i < M.length) : (oVs M).at (i : Int) = some (oV M[i]) := by
  show (some (M.map oV)).bind _ = _
  rw [Option.bind_some, at_in (by rw [List.length_map]; exact h), List.getElem_map]
theorem oVs_some (ns : List Int) : oVs (ns.map some) = .tup (pvI ns) := by
  unfold oVs pvI
  rw [List.map_map]; rfl
theorem pvI_prv {ns : List Int} {k : Nat} (h : k < ns.length) : (PV.tup (pvI ns)).at ((k : Int) - 1) = some (.int (ns[prv ns.length k]'(prv_lt h))) := by
  show (some (pvI ns)).bind _ = _
  rw [Option.bind_some, at_prv (by rw [pvI_len]; exact h)]
  simp [pvI]
/-! comparing -/
theorem eqG_tupNil {d : Nat} {v : PV} (h : v.okN d) (hd : d ≤ 60) : eqG (PV.enc v) (eT PV.enc []) = some (match v with | .tup vs => vs.isEmpty | _ => false) := by
  unfold eqG
  have h2 : (eT PV.enc ([] : List PV)).shp = true := shp_eT (n := 4) (fun v hv => by cases hv) (by decide)
  rw [shp_of h (by omega), h2, if_pos (by rfl)]
  cases v with
  | tup vs => cases vs <;> rfl
  | _ => rfl
theorem eqG_oV (x : Option Int) (i : Int) : eqG (PV.enc (oV x)) (D.int i) = some (decide (x = some i)) := by
  cases x with
  | none => rfl
  | some j =>
    refine (eqG_C D.int (by decide) j i).trans ?_
    congr 1
    by_cases e : j = i
    · subst e; simp
    · simp [e]
/-! keys of dicts -/
theorem find_none {k : Int} : ∀ {ks : List Int} {n : Nat}, find k ks n = none ↔ k ∉ ks
  | [], n => by simp [find]
  | x :: ks, n => by
    show (if x = k then some n else find k ks (n + 1)) = none ↔ _
    by_cases e : x = k
    · rw [if_pos e]; simp [e]
    · rw [if_neg e, find_none]
      simp [Ne.symm e]
theorem dHas_iff {m : List (Int × α)} {k : Int} : dHas m k = true ↔ k ∈ m.map (·.1) := by
  unfold dHas dIx
  cases h : find k (m.map (·.1)) 0 with
  | none => have := find_none.mp h; simp at this ⊢; exact this
  | some j =>
    refine ⟨fun _ => ?_, fun _ => rfl⟩
    exact Classical.byContradiction fun hn => by rw [find_none.mpr hn] at h; cases h
theorem dHas_dec {m : List (Int × α)} {k : Int} : dHas m k = decide (k ∈ m.map (·.1)) := by
  rw [Bool.eq_iff_iff, dHas_iff, decide_eq_true_iff]
theorem dPut_new {m : List (Int × α)} {k : Int} {v : α} (h : k ∉ m.map (·.1)) : dPut m k v = m ++ [(k, v)] := by
  unfold dPut
  have : dIx m k = none := find_none.mpr h
  rw [this]
theorem popG_snoc {xs : List α} {x : α} : popG (xs ++ [x]) = some (x, xs) := by
  unfold popG
  rw [List.length_append, List.length_singleton, Nat.add_sub_cancel, List.getElem?_append_right (Nat.le_refl _), Nat.sub_self]
  show some (x, (xs ++ [x]).eraseIdx xs.length) = _
  rw [List.eraseIdx_append_of_length_le (Nat.le_refl _), Nat.sub_self]
  simp
/-- what can be come to -/
inductive Rch (E : Int → Int → Prop) (s : Int) : Int → Prop where
  | nil : Rch E s s
  | snoc {a b : Int} : Rch E s a → E a b → Rch E s b
theorem Rch.sub {E F : Int → Int → Prop} (h : ∀ a b, E a b → F a b) {s v : Int} (r : Rch E s v) : Rch F s v := by
  induction r with
  | nil => exact .nil
  | snoc _ e ih => exact ih.snoc (h _ _ e)
theorem Rch.closed {E : Int → Int → Prop} {s : Int} {K : Int → Prop} (h0 : K s) (hc : ∀ a b, K a → E a b → K b) {v : Int} (r : Rch E s v) : K v := by
  induction r with
  | nil => exact h0
  | snoc _ e ih => exact hc _ _ ih e
end TL
end

section
/-! U5: runs and what holds behind them. -/
namespace TL
open DL K31
section
variable {α β γ σ ρ τ : Type}
/-- it gives something, and P holds of it -/
def Rn (o : Option α) (P : α → Prop) : Prop := ∃ a, o = some a ∧ P a
theorem Rn.pure {a : α} {P : α → Prop} (h : P a) : Rn (some a) P := ⟨a, rfl, h⟩
theorem Rn.eq {o : Option α} {a : α} (h : o = some a) : Rn o (fun x => x = a) := ⟨a, h, rfl⟩
theorem Rn.to {o : Option α} {a : α} (h : Rn o fun x => x = a) : o = some a := by obtain ⟨b, h, rfl⟩ := h; exact h
theorem Rn.imp {o : Option α} {P Q : α → Prop} (h : Rn o P) (f : ∀ a, P a → Q a) : Rn o Q := by obtain ⟨a, h1, h2⟩ := h; exact ⟨a, h1, f a h2⟩
theorem Rn.bind {o : Option α} {P : α → Prop} {f : α → Option β} {Q : β → Prop} (h : Rn o P) (g : ∀ a, P a → Rn (f a) Q) : Rn (o.bind f) Q := by
  obtain ⟨a, rfl, h2⟩ := h
  exact g a h2
/-- .. where what is given is known -/
theorem Rn.step {o : Option α} {a : α} {f : α → Option β} {Q : β → Prop} (h : o = some a) (g : Rn (f a) Q) : Rn (o.bind f) Q := by
  subst h; exact g
theorem Rn.sp {o : Option Bool} {p : Prop} {f : Bool → Option β} {Q : β → Prop} (h : Sp o p) (g1 : p → Rn (f true) Q) (g0 : ¬ p → Rn (f false) Q) : Rn (o.bind f) Q := by
  obtain ⟨b, rfl, h2⟩ := h
  cases b with
  | true => exact g1 (h2.mp rfl)
  | false => exact g0 fun h => Bool.false_ne_true (h2.mpr h)
theorem Sp.rn {o : Option Bool} {p : Prop} (h : Sp o p) : Rn o fun b => b = true ↔ p := h
theorem Rn.isp {o : Option Bool} {p : Prop} (h : Rn o fun b => b = true ↔ p) : Sp o p := h
theorem Rn.ite {c : Bool} {a b : Option α} {P : α → Prop} (h1 : c = true → Rn a P) (h2 : c = false → Rn b P) : Rn (if c = true then a else b) P := by
  cases c with
  | true => exact h1 rfl
  | false => exact h2 rfl
theorem Rn.next (w : W) {n : Int} (h : 0 < n) : Rn (nextW w n) fun p => 0 ≤ p.1 ∧ p.1 < n := by
  obtain ⟨r, w', h1, h2⟩ := nextW_ok w h
  exact ⟨_, h1, h2⟩
theorem Rn.pick (w : W) {xs : List α} (h : xs ≠ []) : Rn (pickW w xs) fun p => p.1 ∈ xs := by
  obtain ⟨x, w', h1, h2⟩ := pickW_ok w h
  exact ⟨_, h1, h2⟩
theorem Rn.rng {lo hi : Int} (h1 : -1000000000000 ≤ lo ∧ lo ≤ 1000000000000) (h2 : -1000000000000 ≤ hi ∧ hi ≤ 1000000000000) : Rn (rngG lo hi) fun r => r = rg lo hi := Rn.eq (rngG_of h1 h2)
theorem Rn.sz {xs : List α} {f : Unit → Option β} {Q : β → Prop} (h : xs.length ≤ 1000000) (g : Rn (f ()) Q) : Rn ((szG xs).bind f) Q := Rn.step (szG_of h) g
theorem Rn.rngS {lo hi : Int} {f : List Int → Option β} {Q : β → Prop} (h1 : -1000000000000 ≤ lo ∧ lo ≤ 1000000000000) (h2 : -1000000000000 ≤ hi ∧ hi ≤ 1000000000000) (g : Rn (f (rg lo hi)) Q) : Rn ((rngG lo hi).bind f) Q := Rn.step (rngG_of h1 h2) g
theorem Rn.cat {xs ys : List α} {f : List α → Option β} {Q : β → Prop} (h : xs.length + ys.length ≤ 1000000) (g : Rn (f (xs ++ ys)) Q) : Rn ((catG xs ys).bind f) Q := Rn.step (catG_of h) g
theorem Rn.app {xs : List α} {x : α} {f : List α → Option β} {Q : β → Prop} (h : xs.length ≤ 1000000) (g : Rn (f (xs ++ [x])) Q) : Rn ((appG xs x).bind f) Q := Rn.step (appG_of h) g
theorem Rn.mapS {F : α → σ → Option (β × σ)} (Q : β → Prop) : ∀ {xs : List α} {s : σ}, (∀ x ∈ xs, ∀ s, Rn (F x s) fun p => Q p.1) → Rn (TL.mapS F xs s) fun p => p.1.length = xs.length ∧ ∀ y ∈ p.1, Q y
  | [], s, _ => ⟨([], s), rfl, rfl, fun y h => by cases h⟩
  | x :: xs, s, h => by
    obtain ⟨⟨y, s1⟩, h1, h2⟩ := h x List.mem_cons_self s
    obtain ⟨⟨ys, s2⟩, h3, h4, h5⟩ := Rn.mapS Q (xs := xs) (s := s1) fun z hz => h z (List.mem_cons_of_mem _ hz)
    refine ⟨(y :: ys, s2), ?_, by simp at h4 ⊢; exact h4, fun z hz => ?_⟩
    · show (F x s).bind _ = _
      rw [h1]
      show (TL.mapS F xs s1).bind _ = _
      rw [h3]; rfl
    · rcases List.mem_cons.mp hz with rfl | hz
      · exact h2
      · exact h5 z hz
theorem Rn.mapO {F : α → Option β} (Q : α → β → Prop) : ∀ {xs : List α}, (∀ x ∈ xs, Rn (F x) (Q x)) → Rn (TL.mapO F xs) fun ys => ys.length = xs.length ∧ ∀ i (h1 : i < xs.length) (h2 : i < ys.length), Q xs[i] ys[i]
  | [], _ => ⟨[], rfl, rfl, fun i h => by simp at h⟩
  | x :: xs, h => by
    obtain ⟨y, h1, h2⟩ := h x List.mem_cons_self
    obtain ⟨ys, h3, h4, h5⟩ := Rn.mapO Q (xs := xs) fun z hz => h z (List.mem_cons_of_mem _ hz)
    refine ⟨y :: ys, ?_, by simp [h4], fun i g1 g2 => ?_⟩
    · show (F x).bind _ = _
      rw [h1]
      show (TL.mapO F xs).bind _ = _
      rw [h3]; rfl
    · cases i with
      | zero => exact h2
      | succ i => exact h5 i (by simpa using g1) (by simpa using g2)
theorem Rn.compS {F : α → σ → Option (Option β × σ)} (Q : β → Prop) : ∀ {xs : List α} {s : σ}, (∀ x ∈ xs, ∀ s, Rn (F x s) fun p => ∀ y, p.1 = some y → Q y) → Rn (TL.compS F xs s) fun p => p.1.length ≤ xs.length ∧ ∀ y ∈ p.1, Q y
  | [], s, _ => ⟨([], s), rfl, Nat.le_refl _, fun y h => by cases h⟩
  | x :: xs, s, h => by
    obtain ⟨⟨y, s1⟩, h1, h2⟩ := h x List.mem_cons_self s
    obtain ⟨⟨ys, s2⟩, h3, h4, h5⟩ := Rn.compS Q (xs := xs) (s := s1) fun z hz => h z (List.mem_cons_of_mem _ hz)
    dsimp only at h4 h5 h2
    show Rn (TL.compS F (x :: xs) s) _
    rw [TL.compS, h1, Option.bind_some]
    cases y with
    | none => exact ⟨(ys, s2), h3, by rw [List.length_cons]; exact Nat.le_succ_of_le h4, h5⟩
    | some y =>
      refine ⟨(y :: ys, s2), by dsimp only; rw [h3]; rfl, Nat.succ_le_succ h4, fun z hz => ?_⟩
      rcases List.mem_cons.mp hz with rfl | hz
      · exact h2 _ rfl
      · exact h5 z hz
/-- a for that no turn of leaves; what holds behind i turns -/
theorem Rn.loop {F : α → σ → Option (Ct ρ σ)} (I : Nat → σ → Prop) {xs : List α} {s : σ} (h0 : I 0 s) (hs : ∀ i (h : i < xs.length) s, I i s → Rn (F xs[i] s) fun t => ∃ s', t = .nx s' ∧ I (i + 1) s') : Rn (loopO F xs s) fun z => ∃ s', z = .inr s' ∧ I xs.length s' := by
  have key : ∀ n i s, xs.length - i = n → i ≤ xs.length → I i s → Rn (loopO F (xs.drop i) s) fun z => ∃ s', z = .inr s' ∧ I xs.length s' := by
    intro n
    induction n with
    | zero =>
      intro i s hn hi h
      have : i = xs.length := by omega
      subst this
      rw [List.drop_length]
      exact ⟨_, rfl, s, rfl, h⟩
    | succ n ih =>
      intro i s hn hi h
      have hlt : i < xs.length := by omega
      obtain ⟨_, h1, s1, rfl, h2⟩ := hs i hlt s h
      obtain ⟨z, h3, h4⟩ := ih (i + 1) s1 (by omega) (by omega) h2
      refine ⟨z, ?_, h4⟩
      rw [List.drop_eq_getElem_cons hlt]
      show (F _ s).bind _ = _
      rw [h1]; exact h3
  have := key xs.length 0 s rfl (Nat.zero_le _) h0
  rwa [List.drop_zero] at this
theorem Rn.loopM {F : α → σ → Option (Ct ρ σ)} (I : σ → Prop) {xs : List α} {s : σ} (h0 : I s) (hs : ∀ x ∈ xs, ∀ s, I s → Rn (F x s) fun t => ∃ s', t = .nx s' ∧ I s') : Rn (loopO F xs s) fun z => ∃ s', z = .inr s' ∧ I s' := Rn.loop (fun _ => I) h0 fun i h s hI => hs _ (List.getElem_mem h) s hI
/-- a for without a way out -/
theorem Rn.fold {F : α → σ → Option σ} (I : Nat → σ → Prop) {xs : List α} {s : σ} (h0 : I 0 s) (hs : ∀ i (h : i < xs.length) s, I i s → Rn (F xs[i] s) (I (i + 1))) : Rn (foldO F xs s) (I xs.length) := foldO_inv I hs h0
theorem Rn.foldM {F : α → σ → Option σ} (I : σ → Prop) {xs : List α} {s : σ} (h0 : I s) (hs : ∀ x ∈ xs, ∀ s, I s → Rn (F x s) I) : Rn (foldO F xs s) I := Rn.fold (fun _ => I) h0 fun i h s hI => hs _ (List.getElem_mem h) s hI
/-- for i in range(n) -/
theorem Rn.loopR {F : Int → σ → Option (Ct ρ σ)} (n : Nat) (I : Nat → σ → Prop) {s : σ} (h0 : I 0 s) (hs : ∀ i : Nat, i < n → ∀ s, I i s → Rn (F (i : Int) s) fun t => ∃ s', t = .nx s' ∧ I (i + 1) s') : Rn (loopO F (rg 0 (n : Int)) s) fun z => ∃ s', z = .inr s' ∧ I n s' := by
  have := Rn.loop (F := F) (xs := rg 0 (n : Int)) I h0 fun i h s hI => by
    rw [rg_getElem]
    exact hs i (by rw [rg_len] at h; omega) s hI
  rwa [rg_len, show ((n : Int) - 0).toNat = n by omega] at this
theorem Rn.foldR {F : Int → σ → Option σ} (n : Nat) (I : Nat → σ → Prop) {s : σ} (h0 : I 0 s) (hs : ∀ i : Nat, i < n → ∀ s, I i s → Rn (F (i : Int) s) (I (i + 1))) : Rn (foldO F (rg 0 (n : Int)) s) (I n) := by
  have := Rn.fold (F := F) (xs := rg 0 (n : Int)) I h0 fun i h s hI => by
    rw [rg_getElem]
    exact hs i (by rw [rg_len] at h; omega) s hI
  rwa [rg_len, show ((n : Int) - 0).toNat = n by omega] at this
/-- a while by what holds and a number that falls -/
theorem Rn.whl {c : σ → Option Bool} {b : σ → Option σ} (I : σ → Prop) (m : σ → Nat) {s : σ} (h0 : I s) (hc : ∀ s, I s → Rn (c s) fun t => t = true → Rn (b s) fun s' => I s' ∧ m s' < m s) : Rn (whileS c b s) fun s' => I s' ∧ c s' = some false := whileS_inv I m hc _ s rfl h0
theorem Rn.at {xs : List α} {i : Nat} {f : α → Option β} {Q : β → Prop} (h : i < xs.length) (g : Rn (f xs[i]) Q) : Rn ((L2.atI xs (i : Int)).bind f) Q := Rn.step (at_in h) g
theorem Rn.set {xs : List α} {i : Nat} {x : α} {f : List α → Option β} {Q : β → Prop} (h : i < xs.length) (g : Rn (f (xs.set i x)) Q) : Rn ((setG xs (i : Int) x).bind f) Q := Rn.step (setG_of h) g
theorem Sp.bnd {o : Option α} {a : α} {f : α → Option Bool} {p : Prop} (h : o = some a) (g : Sp (f a) p) : Sp (o.bind f) p := by subst h; exact g
theorem str_ok {s : PySem.Str} (h : PySem.PyData.strOk s = true) : (PV.str s).okN 1 := ⟨by show PySem.PyData.canLay0 (.str s) = true; rw [PySem.PyData.canLay0]; exact h, by show PySem.PyData.depth (.str _) ≤ 1; rw [PySem.PyData.depth]; omega⟩
theorem Sp.bind {o : Option Bool} {p q : Prop} {f : Bool → Option Bool} (h : Sp o p) (g1 : p → Sp (f true) q) (g0 : ¬ p → Sp (f false) q) : Sp (o.bind f) q := by
  obtain ⟨b, rfl, h2⟩ := h
  cases b with
  | true => exact g1 (h2.mp rfl)
  | false => exact g0 fun h => Bool.false_ne_true (h2.mpr h)
theorem Sp.not {o : Option Bool} {p : Prop} (h : Sp o p) : Sp (o.bind fun x => some (!x)) (¬ p) := h.bind (fun hp => Sp.ff fun h => h hp) (fun hp => Sp.tt hp)
theorem eqG_str {s t : PySem.Str} (hs : PySem.PyData.strOk s = true) (ht : PySem.PyData.strOk t = true) : eqG (D.str s) (D.str t) = some (decide (s = t)) := by
  unfold eqG
  rw [show (D.str s).shp = true from TL.shp_of (str_ok hs) (by decide), show (D.str t).shp = true from TL.shp_of (str_ok ht) (by decide), if_pos (by rfl)]
  have e : (D.str s).eqv (D.str t) = decide (s = t) := by
    rw [Bool.eq_iff_iff, decide_eq_true_iff]
    show PySem.PyData.eqv (.str s) (.str t) = true ↔ _
    simp [PySem.PyData.eqv]
  rw [e]
theorem yes_s : PySem.PyData.strOk ("yes" : PySem.Str) = true := by decide +kernel
theorem no_s : PySem.PyData.strOk ("no" : PySem.Str) = true := by decide +kernel
theorem no_yes : ¬ (("no" : PySem.Str) = ("yes" : PySem.Str)) := by decide +kernel
/-- how long what is bent gets -/
def bnL (k : Nat) : Nat → Nat
  | 0 => k
  | i + 1 => 2 * bnL k i + 1
end
end TL
end

section
/-! U6: more runs; rows of ints by place. -/
namespace TL
open DL K31
section
variable {α β γ σ ρ τ : Type}
/-- a for that may be left by break -/
theorem Rn.loopB {F : α → σ → Option (Ct ρ σ)} (I : Nat → σ → Prop) (J : σ → Prop) {xs : List α} {s : σ} (h0 : I 0 s) (hs : ∀ i (h : i < xs.length) s, I i s → Rn (F xs[i] s) fun t => (∃ s', t = .nx s' ∧ I (i + 1) s') ∨ ∃ s', t = .bk s' ∧ J s') (hJ : ∀ s, I xs.length s → J s) : Rn (loopO F xs s) fun z => ∃ s', z = .inr s' ∧ J s' := by
  have key : ∀ n i s, xs.length - i = n → i ≤ xs.length → I i s → Rn (loopO F (xs.drop i) s) fun z => ∃ s', z = .inr s' ∧ J s' := by
    intro n
    induction n with
    | zero =>
      intro i s hn hi h
      have : i = xs.length := by omega
      subst this
      rw [List.drop_length]
      exact ⟨_, rfl, s, rfl, hJ s h⟩
    | succ n ih =>
      intro i s hn hi h
      have hlt : i < xs.length := by omega
      rw [List.drop_eq_getElem_cons hlt]
      obtain ⟨_, h1, ⟨s1, rfl, h2⟩ | ⟨s1, rfl, h2⟩⟩ := hs i hlt s h
      · obtain ⟨z, h3, h4⟩ := ih (i + 1) s1 (by omega) (by omega) h2
        refine ⟨z, ?_, h4⟩
        show (F _ s).bind _ = _
        rw [h1]; exact h3
      · refine ⟨.inr s1, ?_, s1, rfl, h2⟩
        show (F _ s).bind _ = _
        rw [h1]; rfl
  have := key xs.length 0 s rfl (Nat.zero_le _) h0
  rwa [List.drop_zero] at this
theorem Rn.compM {F : α → Option (Option β)} (Q : β → Prop) : ∀ {xs : List α}, (∀ x ∈ xs, Rn (F x) fun o => ∀ y, o = some y → Q y) → Rn (TL.compM F xs) fun ys => ys.length ≤ xs.length ∧ ∀ y ∈ ys, Q y
  | [], _ => ⟨[], rfl, Nat.le_refl _, fun y h => by cases h⟩
  | x :: xs, h => by
    obtain ⟨o, h1, h2⟩ := h x List.mem_cons_self
    obtain ⟨ys, h3, h4, h5⟩ := Rn.compM Q (xs := xs) fun z hz => h z (List.mem_cons_of_mem _ hz)
    show Rn (TL.compM F (x :: xs)) _
    rw [TL.compM, h1, Option.bind_some]
    cases o with
    | none => exact ⟨ys, h3, Nat.le_succ_of_le h4, h5⟩
    | some y =>
      refine ⟨y :: ys, by dsimp only; rw [h3]; rfl, Nat.succ_le_succ h4, fun z hz => ?_⟩
      rcases List.mem_cons.mp hz with rfl | hz
      · exact h2 _ rfl
      · exact h5 z hz
/-- .. where all that is told may depend on what it comes from -/
theorem Rn.and {o : Option α} {P Q : α → Prop} (h : Rn o P) (h2 : ∀ a, o = some a → Q a) : Rn o fun a => P a ∧ Q a := by
  obtain ⟨a, e, p⟩ := h
  exact ⟨a, e, p, h2 a e⟩
theorem Rn.ob {o : Option Bool} : Rn o (fun _ => True) → ∃ b, o = some b := fun ⟨b, h, _⟩ => ⟨b, h⟩
end
/-- a row's number at a place -/
def ge (f : List Int) (v : Int) : Int := f.getD v.toNat 0
theorem ge_at {f : List Int} {v : Int} (h0 : 0 ≤ v) (h : v < f.length) : L2.atI f v = some (ge f v) := by
  rw [at_toNat h0 h]
  unfold ge
  rw [List.getD_eq_getElem?_getD, List.getElem?_eq_getElem (show v.toNat < f.length by omega)]; rfl
theorem ge_nat {f : List Int} {i : Nat} (h : i < f.length) : ge f (i : Int) = f[i] := by
  unfold ge
  rw [Int.toNat_natCast, List.getD_eq_getElem?_getD, List.getElem?_eq_getElem h]; rfl
theorem ge_set {f : List Int} {v w : Int} {x : Int} (h0 : 0 ≤ v) (h : v < f.length) (hw : 0 ≤ w) : ge (f.set v.toNat x) w = if w = v then x else ge f w := by
  unfold ge
  rw [List.getD_eq_getElem?_getD, List.getD_eq_getElem?_getD, List.getElem?_set]
  by_cases e : w = v
  · subst e
    rw [if_pos rfl, if_pos (by omega), if_pos rfl]; rfl
  · rw [if_neg (by omega), if_neg e]
theorem ge_ext {f g : List Int} (hl : f.length = g.length) (h : ∀ v : Int, 0 ≤ v → v < f.length → ge f v = ge g v) : f = g := by
  refine List.ext_getElem hl fun i h1 h2 => ?_
  have := h (i : Int) (by omega) (by omega)
  rwa [ge_nat h1, ge_nat h2] at this
theorem ge_rep {n : Nat} {v : Int} : ge (List.replicate n 0) v = 0 := by
  unfold ge
  rw [List.getD_eq_getElem?_getD, List.getElem?_replicate]
  split <;> rfl
theorem ge_mem {f : List Int} {v : Int} (h0 : 0 ≤ v) (h : v < f.length) : ge f v ∈ f := by
  have := ge_nat (f := f) (i := v.toNat) (by omega)
  rw [show ((v.toNat : Nat) : Int) = v by omega] at this
  rw [this]; exact List.getElem_mem _
theorem setG_ge {f : List Int} {v x : Int} (h0 : 0 ≤ v) (h : v < f.length) : setG f v x = some (f.set v.toNat x) := by
  have := setG_of (xs := f) (i := v.toNat) (x := x) (by omega)
  rwa [show ((v.toNat : Nat) : Int) = v by omega] at this
section
variable {β : Type}
theorem Rn.ge {f : List Int} {v : Int} {F : Int → Option β} {Q : β → Prop} (h : 0 ≤ v ∧ v < f.length) (g : Rn (F (ge f v)) Q) : Rn ((L2.atI f v).bind F) Q := Rn.step (ge_at h.1 h.2) g
theorem Rn.put {f : List Int} {v x : Int} {F : List Int → Option β} {Q : β → Prop} (h : 0 ≤ v ∧ v < f.length) (g : Rn (F (f.set v.toNat x)) Q) : Rn ((setG f v x).bind F) Q := Rn.step (setG_ge h.1 h.2) g
/-- at any place of any row -/
theorem Rn.atN {α : Type} {xs : List α} {v : Int} {F : α → Option β} {Q : β → Prop} (h : 0 ≤ v ∧ v < xs.length) (g : ∀ x, xs[v.toNat]? = some x → x ∈ xs → Rn (F x) Q) : Rn ((L2.atI xs v).bind F) Q := by
  have e : xs[v.toNat]? = some (xs[v.toNat]'(by omega)) := List.getElem?_eq_getElem (by omega)
  have := L2.atI_nat e
  rw [show ((v.toNat : Nat) : Int) = v by omega] at this
  exact Rn.step this (g _ e (List.getElem_mem _))
end
theorem pvI_ge {ns : List Int} {v : Int} (h0 : 0 ≤ v) (h : v < ns.length) : (PV.tup (pvI ns)).at v = some (.int (ge ns v)) := by
  have := pvI_at (ns := ns) (k := v.toNat) (by omega)
  rw [show ((v.toNat : Nat) : Int) = v by omega] at this
  rw [this]
  unfold ge
  rw [List.getD_eq_getElem?_getD, List.getElem?_eq_getElem (show v.toNat < ns.length by omega)]; rfl
end TL
end

section
/-! U7: dicts by their keys. -/
namespace Sh
open DL TL K31
variable {α : Type}
theorem find_succ {k : Int} : ∀ {ks : List Int} {n : Nat}, find k ks (n + 1) = (find k ks n).map (· + 1)
  | [], _ => rfl
  | x :: ks, n => by
    show (if x = k then some (n + 1) else find k ks (n + 1 + 1)) = ((if x = k then some n else find k ks (n + 1)) : Option Nat).map (· + 1)
    by_cases e : x = k
    · rw [if_pos e, if_pos e]; rfl
    · rw [if_neg e, if_neg e, find_succ]
theorem dIx_cons {p : Int × α} {m : List (Int × α)} {k : Int} : dIx (p :: m) k = if p.1 = k then some 0 else (dIx m k).map (· + 1) := by
  show (if p.1 = k then some 0 else find k (m.map (·.1)) (0 + 1)) = _
  rw [find_succ]; rfl
theorem dGet_nil {k : Int} : dGet ([] : List (Int × α)) k = none := rfl
theorem dGet_cons {p : Int × α} {m : List (Int × α)} {k : Int} : dGet (p :: m) k = if p.1 = k then some p.2 else dGet m k := by
  unfold dGet
  rw [dIx_cons]
  by_cases e : p.1 = k
  · rw [if_pos e, if_pos e]; rfl
  · rw [if_neg e, if_neg e]
    cases dIx m k with
    | none => rfl
    | some j => rfl
theorem dPut_cons {p : Int × α} {m : List (Int × α)} {k : Int} {v : α} : dPut (p :: m) k v = if p.1 = k then (k, v) :: m else p :: dPut m k v := by
  unfold dPut
  rw [dIx_cons]
  by_cases e : p.1 = k
  · rw [if_pos e, if_pos e]; rfl
  · rw [if_neg e, if_neg e]
    cases dIx m k with
    | none => rfl
    | some j => rfl
theorem dGet_put {k w : Int} {v : α} : ∀ {m : List (Int × α)}, dGet (dPut m k v) w = if w = k then some v else dGet m w
  | [] => by
    show dGet [(k, v)] w = _
    rw [dGet_cons]
    by_cases e : k = w
    · rw [if_pos e, if_pos e.symm]
    · rw [if_neg e, if_neg (fun h => e h.symm)]
  | p :: m => by
    rw [dPut_cons, dGet_cons]
    by_cases e : p.1 = k
    · rw [if_pos e, dGet_cons]
      by_cases e2 : k = w
      · rw [if_pos e2, if_pos e2.symm]
      · rw [if_neg e2, if_neg (fun h => e2 h.symm), if_neg (by rw [e]; exact e2)]
    · rw [if_neg e, dGet_cons, dGet_put]
      by_cases e2 : p.1 = w
      · rw [if_pos e2, if_neg (by rw [← e2]; exact e), if_pos e2]
      · rw [if_neg e2, if_neg e2]
theorem dPut_keys {k : Int} {v : α} : ∀ {m : List (Int × α)}, (dPut m k v).map (·.1) = if k ∈ m.map (·.1) then m.map (·.1) else m.map (·.1) ++ [k]
  | [] => rfl
  | p :: m => by
    rw [dPut_cons]
    by_cases e : p.1 = k
    · rw [if_pos e, if_pos (by rw [List.map_cons, e]; exact List.mem_cons_self), List.map_cons, List.map_cons, e]
    · rw [if_neg e, List.map_cons, dPut_keys]
      by_cases h : k ∈ m.map (·.1)
      · rw [if_pos h, if_pos (by rw [List.map_cons]; exact List.mem_cons_of_mem _ h)]; rfl
      · rw [if_neg h, if_neg (by rw [List.map_cons, List.mem_cons, not_or]; exact ⟨fun h => e h.symm, h⟩)]; rfl
/-- keys: each once, points below n -/
def DKs (n : Nat) (m : List (Int × α)) : Prop := (m.map (·.1)).Nodup ∧ ∀ k ∈ m.map (·.1), 0 ≤ k ∧ k < (n : Int)
theorem DKs.nil {n : Nat} : DKs n ([] : List (Int × α)) := ⟨List.nodup_nil, fun k h => by cases h⟩
theorem DKs.len {n : Nat} {m : List (Int × α)} (h : DKs n m) : m.length ≤ n := by
  have := nd_len _ (rg 0 (n : Int)) h.1 fun x hx => mem_rg.mpr (h.2 x hx)
  rw [List.length_map, rg_len] at this
  omega
theorem DKs.put {n : Nat} {m : List (Int × α)} {k : Int} {v : α} (h : DKs n m) (hk : 0 ≤ k ∧ k < (n : Int)) : DKs n (dPut m k v) := by
  unfold DKs
  rw [dPut_keys]
  by_cases e : k ∈ m.map (·.1)
  · rw [if_pos e]; exact h
  · rw [if_neg e]
    refine ⟨List.nodup_append.mpr ⟨h.1, by simp, fun a ha b hb => ?_⟩, fun x hx => ?_⟩
    · rw [List.mem_singleton.mp hb]; exact fun e2 => e (e2 ▸ ha)
    · rcases List.mem_append.mp hx with hx | hx
      · exact h.2 x hx
      · rw [List.mem_singleton.mp hx]; exact hk
end Sh
end

section
namespace Pg
open DL TL
/-- _law_draws: 0=script 1=many 2=draws 3=mixed 4=k 5=cell 6=rest 7=turn -/
abbrev f0 : FD := K31.fdDraws
/-- _law_next: 0=w 1=many -/
abbrev f1 : FD := fdNext
/-- _law_pick: 0=w 1=rows -/
abbrev f2 : FD := (fdPick 1)
/-- plan_side_by_side: 0=hours 1=hands 2=length 3=plan 4=k 5=hand 6=at 7=left 8=many -/
def f3 : FD := ⟨2, 9, [], [
    .asg (.nm 2) (.op .max [(.op (.bin .Add) [(.op (.bin .Add) [(.lst [(.int 0)]), (.op .list [(.var 0)])]), (.lst [(.op .neg [(.op (.bin .FloorDiv) [(.op .neg [(.op .sum [(.var 0)])]), (.var 1)])])])])]),
    .asg (.nm 3) (.lst []),
    .asg (.tp [(.nm 5), (.nm 6)]) (.tup [(.int 0), (.int 0)]),
    .for_ (.nm 4) .rng [(.op .len [(.var 0)])] [.asg (.nm 7) (.sub (.var 0) (.var 4)), .whl (.val (.op (.cmp .Gt) [(.var 7), (.int 0)])) [.asg (.nm 8) (.op .min2 [(.var 7), (.op (.bin .Sub) [(.var 2), (.var 6)])]), .app 3 [] (.tup [(.var 5), (.var 6), (.op (.bin .Add) [(.var 6), (.var 8)]), (.var 4)]), .aug 7 .Sub (.var 8), .aug 6 .Add (.var 8), .ite (.val (.op (.cmp .Eq) [(.var 6), (.var 2)])) [.par [5, 6] [(.op (.bin .Add) [(.var 5), (.int 1)]), (.int 0)]] []]],
    .ret (.tup [(.var 2), (.op .tuple [(.var 3)])])]⟩
/-- _law_is_number: 0=thing -/
def f4 : FD := ⟨1, 1, [], [
    .ret (.and [(.op (.isi .int) [(.var 0)]), (.not (.op (.isi .bool) [(.var 0)]))])]⟩
/-- _law_clash: 0=one 1=other 2=meet -/
def f5 : FD := ⟨2, 3, [], [
    .asg (.nm 2) (.and [(.op (.cmp .Lt) [(.sub (.var 0) (.int 1)), (.sub (.var 1) (.int 2))]), (.op (.cmp .Lt) [(.sub (.var 1) (.int 1)), (.sub (.var 0) (.int 2))])]),
    .ret (.and [(.var 2), (.or [(.op (.cmp .Eq) [(.sub (.var 0) (.int 0)), (.sub (.var 1) (.int 0))]), (.op (.cmp .Eq) [(.sub (.var 0) (.int 3)), (.sub (.var 1) (.int 3))])])])]⟩
/-- _law_is_planned: 0=hours 1=hands 2=length 3=plan 4=piece 5=k 6=m 7=one 8=hand 9=a 10=b 11=work -/
def f6 : FD := ⟨4, 12, [], [
    .ite (.or [(.not (.val (.call 4 [(.var 2)]))), (.val (.op (.cmp .NotEq) [(.var 2), (.op .max [(.op (.bin .Add) [(.op (.bin .Add) [(.lst [(.int 0)]), (.op .list [(.var 0)])]), (.lst [(.op (.bin .FloorDiv) [(.op (.bin .Sub) [(.op (.bin .Add) [(.op .sum [(.var 0)]), (.var 1)]), (.int 1)]), (.var 1)])])])])])), (.not (.val (.op (.isi .tuple) [(.var 3)])))]) [.ret (.bl false)] [],
    .for_ (.nm 4) (.it false) [(.var 3)] [.ite (.or [(.not (.val (.op (.isi .tuple) [(.var 4)]))), (.val (.op (.cmp .NotEq) [(.op .len [(.var 4)]), (.int 4)])), (.val (.op (.cmp .NotEq) [(.comp (.nm 7) [7] (.it false) [(.var 4)] [(.not (.val (.call 4 [(.var 7)])))] (.var 7)), (.lst [])]))]) [.ret (.bl false)] [], .ite (.or [(.not (.val (.cmp2 .LtE .Lt (.int 0) (.sub (.var 4) (.int 0)) (.var 1)))), (.not (.val (.cmp2 .LtE .Lt (.int 0) (.sub (.var 4) (.int 3)) (.op .len [(.var 0)])))), (.not (.val (.cmp3 .LtE .Lt .LtE (.int 0) (.sub (.var 4) (.int 1)) (.sub (.var 4) (.int 2)) (.var 2))))]) [.ret (.bl false)] []],
    .for_ (.nm 5) .rng [(.op .len [(.var 3)])] [.ite (.val (.op (.cmp .NotEq) [(.comp (.nm 6) [6] .rng [(.var 5)] [(.val (.call 5 [(.sub (.var 3) (.var 6)), (.sub (.var 3) (.var 5))]))] (.var 6)), (.lst [])])) [.ret (.bl false)] []],
    .ret (.op (.cmp .Eq) [(.comp (.nm 5) [5] .rng [(.op .len [(.var 0)])] [(.val (.op (.cmp .NotEq) [(.op .sum [(.comp (.tp [(.nm 8), (.nm 9), (.nm 10), (.nm 11)]) [8, 9, 10, 11] (.it false) [(.var 3)] [(.val (.op (.cmp .Eq) [(.var 11), (.var 5)]))] (.op (.bin .Sub) [(.var 10), (.var 9)]))]), (.sub (.var 0) (.var 5))]))] (.var 5)), (.lst [])])]⟩
/-- is_number: 0=thing -/
def f7 : FD := ⟨1, 1, [], [
    .ret (.and [(.op (.isi .int) [(.var 0)]), (.not (.op (.isi .bool) [(.var 0)]))])]⟩
/-- is_piece: 0=piece 1=many 2=hands 3=length 4=one -/
def f8 : FD := ⟨4, 5, [], [
    .ite (.or [(.not (.val (.op (.isi .tuple) [(.var 0)]))), (.val (.op (.cmp .NotEq) [(.op .len [(.var 0)]), (.int 4)])), (.not (.val (.op .all [(.comp (.nm 4) [4] (.it false) [(.var 0)] [] (.call 7 [(.var 4)]))])))]) [.ret (.bl false)] [],
    .ret (.and [(.cmp2 .LtE .Lt (.int 0) (.sub (.var 0) (.int 0)) (.var 2)), (.cmp3 .LtE .Lt .LtE (.int 0) (.sub (.var 0) (.int 1)) (.sub (.var 0) (.int 2)) (.var 3)), (.cmp2 .LtE .Lt (.int 0) (.sub (.var 0) (.int 3)) (.var 1))])]⟩
/-- do_meet: 0=one 1=other -/
def f9 : FD := ⟨2, 2, [], [
    .ite (.and [(.val (.op (.cmp .NotEq) [(.sub (.var 0) (.int 0)), (.sub (.var 1) (.int 0))])), (.val (.op (.cmp .NotEq) [(.sub (.var 0) (.int 3)), (.sub (.var 1) (.int 3))]))]) [.ret (.bl false)] [],
    .ret (.and [(.op (.cmp .Lt) [(.sub (.var 0) (.int 1)), (.sub (.var 1) (.int 2))]), (.op (.cmp .Lt) [(.sub (.var 1) (.int 1)), (.sub (.var 0) (.int 2))])])]⟩
/-- is_side_by_side: 0=hours 1=hands 2=length 3=plan 4=i 5=k 6=j 7=piece 8=p -/
def f10 : FD := ⟨4, 9, [], [
    .ite (.or [(.val (.op (.cmp .NotEq) [(.var 2), (.op .max [(.op (.bin .Add) [(.op (.bin .Add) [(.lst [(.int 0)]), (.op .list [(.var 0)])]), (.lst [(.op .neg [(.op (.bin .FloorDiv) [(.op .neg [(.op .sum [(.var 0)])]), (.var 1)])])])])])])), (.not (.val (.call 7 [(.var 2)])))]) [.ret (.bl false)] [],
    .ite (.or [(.not (.val (.op (.isi .tuple) [(.var 3)]))), (.not (.val (.op .all [(.comp (.nm 7) [7] (.it false) [(.var 3)] [] (.call 8 [(.var 7), (.op .len [(.var 0)]), (.var 1), (.var 2)]))])))]) [.ret (.bl false)] [],
    .for_ (.nm 4) .rng [(.op .len [(.var 3)])] [.ite (.val (.op (.cmp .NotEq) [(.comp (.nm 6) [6] .rng [(.op (.bin .Add) [(.var 4), (.int 1)]), (.op .len [(.var 3)])] [(.val (.call 9 [(.sub (.var 3) (.var 4)), (.sub (.var 3) (.var 6))]))] (.var 6)), (.lst [])])) [.ret (.bl false)] []],
    .ret (.op .all [(.comp (.nm 5) [5] .rng [(.op .len [(.var 0)])] [] (.op (.cmp .Eq) [(.op .sum [(.comp (.nm 8) [8] (.it false) [(.var 3)] [(.val (.op (.cmp .Eq) [(.sub (.var 8) (.int 3)), (.var 5)]))] (.op (.bin .Sub) [(.sub (.var 8) (.int 2)), (.sub (.var 8) (.int 1))]))]), (.sub (.var 0) (.var 5))]))])]⟩
/-- _law_bent: 0=w 1=value 2=at 3=some -/
def f11 : FD := ⟨2, 4, [], [
    .ite (.and [(.val (.op (.isi .tuple) [(.var 1)])), (.val (.op (.cmp .NotEq) [(.var 1), (.tup [])])), (.val (.op (.cmp .Gt) [(.call 1 [(.var 0), (.int 4)]), (.int 0)]))]) [.asg (.nm 2) (.call 1 [(.var 0), (.op .len [(.var 1)])]), .ret (.op (.bin .Add) [(.op (.bin .Add) [(.sli (.var 1) [] [(.var 2)]), (.tup [(.call 11 [(.var 0), (.sub (.var 1) (.var 2))])])]), (.sli (.var 1) [(.op (.bin .Add) [(.var 2), (.int 1)])] [])])] [],
    .ite (.val (.op (.isi .tuple) [(.var 1)])) [.asg (.nm 2) (.call 1 [(.var 0), (.op (.bin .Add) [(.op .len [(.var 1)]), (.int 1)])]), .asg (.nm 3) (.lst [(.op (.bin .Add) [(.sli (.var 1) [] [(.var 2)]), (.sli (.var 1) [(.op (.bin .Add) [(.var 2), (.int 1)])] [])]), (.op (.bin .Add) [(.var 1), (.tup [(.int 0)])]), (.op .rev [(.var 1)]), (.op (.bin .Add) [(.var 1), (.sli (.var 1) [(.op .neg [(.int 1)])] [])]), .non, (.tup [])]), .ret (.call 2 [(.var 0), (.op (.bin .Add) [(.var 3), (.lst [(.op (.bin .Add) [(.op (.bin .Add) [(.sli (.var 1) [] [(.var 2)]), (.tup [(.call 1 [(.var 0), (.int 5)])])]), (.sli (.var 1) [(.var 2)] [])]), (.op (.bin .Add) [(.sli (.var 1) [] [(.var 2)]), (.sli (.var 1) [(.op (.bin .Add) [(.var 2), (.int 1)])] [])])])])])] [],
    .ite (.val (.op (.isi .int) [(.var 1)])) [.ret (.call 2 [(.var 0), (.lst [(.op (.bin .Add) [(.var 1), (.int 1)]), (.op (.bin .Sub) [(.var 1), (.int 1)]), (.int 0), (.op (.bin .Add) [(.var 1), (.int 3)]), (.op (.bin .Add) [(.var 1), (.int 1)]), (.op (.bin .Sub) [(.var 1), (.int 1)]), .non, (.str "x"), (.bl true), (.tup [(.var 1)])])])] [],
    .ret (.call 2 [(.var 0), (.lst [(.int 0), (.tup []), .non])])]⟩
/-- _law_is_empty_piece: 0=plan 1=some 2=piece -/
def f12 : FD := ⟨1, 3, [], [
    .asg (.nm 1) (.ite (.val (.op (.isi .tuple) [(.var 0)])) (.comp (.nm 2) [2] (.it false) [(.var 0)] [(.and [(.val (.op (.isi .tuple) [(.var 2)])), (.val (.op (.cmp .Eq) [(.op .len [(.var 2)]), (.int 4)]))])] (.var 2)) (.lst [])),
    .asg (.nm 1) (.comp (.nm 2) [2] (.it true) [(.var 1)] [(.and [(.val (.call 4 [(.sub (.var 2) (.int 1))])), (.val (.call 4 [(.sub (.var 2) (.int 2))]))])] (.var 2)),
    .ret (.op (.cmp .NotEq) [(.comp (.nm 2) [2] (.it true) [(.var 1)] [(.or [(.val (.op (.cmp .GtE) [(.sub (.var 2) (.int 1)), (.sub (.var 2) (.int 2))])), (.val (.op (.cmp .Lt) [(.sub (.var 2) (.int 1)), (.int 0)]))])] (.var 2)), (.lst [])])]⟩
/-- _law_says: 0=told 1=due -/
def f13 : FD := ⟨2, 2, [], [
    .ret (.and [(.op (.isi .bool) [(.var 0)]), (.op (.cmp .Eq) [(.var 0), (.var 1)])])]⟩
/-- law: 0=script 1=w 2=turn 3=hands 4=hours 5=told 6=time 7=due 8=length 9=plan 10=k -/
def f14 : FD := ⟨1, 11, [], [
    .asg (.nm 1) (.dK [(.str "draws"), (.call 0 [(.var 0), (.int 900)]), (.str "at"), (.int 0)]),
    .for_ (.nm 2) .rng [(.int 5)] [.asg (.nm 3) (.op (.bin .Add) [(.int 1), (.call 1 [(.var 1), (.int 4)])]), .asg (.nm 4) (.op .tuple [(.comp (.nm 10) [10] .rng [(.call 1 [(.var 1), (.int 8)])] [] (.op (.bin .Add) [(.int 1), (.call 2 [(.var 1), (.lst [(.int 0), (.int 1), (.int 2), (.int 2), (.int 4), (.int 8)])])]))]), .asg (.nm 5) (.call 3 [(.var 4), (.var 3)]), .ite (.or [(.not (.val (.op (.isi .tuple) [(.var 5)]))), (.val (.op (.cmp .NotEq) [(.op .len [(.var 5)]), (.int 2)])), (.not (.val (.call 6 [(.var 4), (.var 3), (.sub (.var 5) (.int 0)), (.sub (.var 5) (.int 1))])))]) [.ret (.bl false)] [], .ite (.val (.op (.nisB true) [(.call 10 [(.var 4), (.var 3), (.sub (.var 5) (.int 0)), (.sub (.var 5) (.int 1))])])) [.ret (.bl false)] [], .for_ (.nm 6) .rng [(.int 6)] [.asg (.tp [(.nm 8), (.nm 9)]) (.var 5), .ite (.val (.op (.cmp .Eq) [(.call 1 [(.var 1), (.int 4)]), (.int 0)])) [.asg (.nm 8) (.call 11 [(.var 1), (.var 8)])] [.asg (.nm 9) (.call 11 [(.var 1), (.var 9)])], .asg (.nm 7) (.call 6 [(.var 4), (.var 3), (.var 8), (.var 9)]), .ite (.and [(.not (.val (.call 12 [(.var 9)]))), (.not (.val (.call 13 [(.call 10 [(.var 4), (.var 3), (.var 8), (.var 9)]), (.var 7)])))]) [.ret (.bl false)] []]],
    .ret (.bl true)]⟩
def T : List FD := [f0, f1, f2, f3, f4, f5, f6, f7, f8, f9, f10, f11, f12, f13, f14]
end Pg
end

section
namespace Sh
open DL TL
/-- plan_side_by_side -/
def plan_side_by_side (hours : (List Int)) (hands : Int) : Option (Int × (List (Int × Int × Int × Int))) :=
  (catG ([0] : List Int) hours).bind fun x1 => (divG (-(hours.sum)) hands).bind fun x2 => (catG x1 ([(-x2)] : List Int)).bind fun x3 => (maxI x3).bind fun x4 => (some (([] : List (Int × Int × Int × Int)))).bind fun plan5 => (rngG 0 ((hours).length : Int)).bind fun r6 => (foldO (fun i11 (s7 : ((List (Int × Int × Int × Int)) × Int × Int)) => (L2.atI hours i11).bind fun x12 => (whileS (fun (s13 : ((List (Int × Int × Int × Int)) × Int × Int × Int)) => some (decide (0 < s13.2.2.2))) (fun (s13 : ((List (Int × Int × Int × Int)) × Int × Int × Int)) => (some ((min2 s13.2.2.2 (x4 - s13.2.2.1)))).bind fun many15 => (appG s13.1 (s13.2.1, s13.2.2.1, (s13.2.2.1 + many15), i11)).bind fun l16 => ((if (decide ((s13.2.2.1 + many15) = x4)) = true then some ((s13.2.1 + 1), 0) else some (s13.2.1, (s13.2.2.1 + many15)) : Option (Int × Int))).bind fun s17 => some (l16, s17.1, s17.2, (s13.2.2.2 - many15))) (s7.1, s7.2.1, s7.2.2, x12)).bind fun s19 => some (s19.1, s19.2.1, s19.2.2.1)) r6 (plan5, 0, 0)).bind fun s23 => some (x4, s23.1)

/-- _law_is_number -/
def _law_is_number (thing : PV) : Option Bool :=
  some ((thing).isI && (!(thing).isB))

/-- _law_clash -/
def _law_clash (one : PV) (other : PV) : Option Bool :=
  ((one).at 1).bind fun x1 => ((other).at 2).bind fun x2 => ((x1).asI).bind fun x3 => ((x2).asI).bind fun x4 => (if (decide (x3 < x4)) = true then ((other).at 1).bind fun x5 => ((one).at 2).bind fun x6 => ((x5).asI).bind fun x7 => ((x6).asI).bind fun x8 => some (decide (x7 < x8)) else some false).bind fun t9 => if t9 = true then ((one).at 0).bind fun x10 => ((other).at 0).bind fun x11 => (eqG (PV.enc x10) (PV.enc x11)).bind fun x12 => if x12 = true then some true else ((one).at 3).bind fun x13 => ((other).at 3).bind fun x14 => eqG (PV.enc x13) (PV.enc x14) else some false

/-- _law_is_planned -/
def _law_is_planned (hours : (List Int)) (hands : Int) (length : PV) (plan : PV) : Option Bool :=
  (_law_is_number length).bind fun x1 => (if (!x1) = true then some true else (catG ([0] : List Int) hours).bind fun x2 => (divG (((hours.sum) + hands) - 1) hands).bind fun x3 => (catG x2 ([x3] : List Int)).bind fun x4 => (maxI x4).bind fun x5 => (eqG (PV.enc length) (D.int x5)).bind fun x6 => if (!x6) = true then some true else some (!(plan).isT)).bind fun t7 => if t7 = true then some false else ((plan).asQ).bind fun q8 => (loopO (fun i11 (s9 : Unit) => ((if (!(i11).isT) = true then some true else ((i11).len).bind fun x20 => if (!decide (x20 = 4)) = true then some true else ((i11).asQ).bind fun q21 => (szG q21).bind fun u22 => (compM (fun a23 => (_law_is_number a23).bind fun x24 => if (!x24) = true then some (some a23) else some none) q21).bind fun y25 => (eqG ((eL PV.enc) y25) ((eL PV.enc) ([] : List PV))).bind fun x26 => some (!x26)).bind fun t27 => if t27 = true then some (Ct.rt false) else ((i11).at 0).bind fun x28 => ((x28).asI).bind fun x29 => (if (!(decide (0 ≤ x29) && decide (x29 < hands))) = true then some true else ((i11).at 3).bind fun x30 => ((x30).asI).bind fun x31 => if (!(decide (0 ≤ x31) && decide (x31 < ((hours).length : Int)))) = true then some true else ((i11).at 1).bind fun x32 => ((x32).asI).bind fun x33 => (if decide (0 ≤ x33) = true then ((i11).at 2).bind fun x34 => ((x34).asI).bind fun x35 => if decide (x33 < x35) = true then ((length).asI).bind fun x36 => some (decide (x35 ≤ x36)) else some false else some false).bind fun v37 => some (!v37)).bind fun t38 => if t38 = true then some (Ct.rt false) else some (Ct.nx ()) : Option (Ct Bool Unit))) q8 ()).bind fun z41 => sumO z41 (fun q => some q) (fun s40 => ((plan).len).bind fun x42 => (rngG 0 x42).bind fun r43 => (loopO (fun i46 (s44 : Unit) => ((rngG 0 i46).bind fun r55 => (szG r55).bind fun u56 => (compM (fun a57 => ((plan).at a57).bind fun x58 => ((plan).at i46).bind fun x59 => (_law_clash x58 x59).bind fun x60 => if x60 = true then some (some a57) else some none) r55).bind fun y61 => if (!decide (y61 = [])) = true then some (Ct.rt false) else some (Ct.nx ()) : Option (Ct Bool Unit))) r43 ()).bind fun z64 => sumO z64 (fun q => some q) (fun s63 => (rngG 0 ((hours).length : Int)).bind fun r65 => (szG r65).bind fun u66 => (compM (fun a67 => ((dnT (dn4 PV.asI PV.asI PV.asI PV.asI)) plan).bind fun x68 => (szG x68).bind fun u69 => (L2.atI hours a67).bind fun x71 => if (!decide ((((x68.filter fun a70 => (decide (a70.2.2.2 = a67))).map fun a70 => (a70.2.2.1 - a70.2.1)).sum) = x71)) = true then some (some a67) else some none) r65).bind fun y72 => some (decide (y72 = []))))

/-- is_number -/
def is_number (thing : PV) : Option Bool :=
  some ((thing).isI && (!(thing).isB))

/-- is_piece -/
def is_piece (piece : PV) (many : Int) (hands : Int) (length : Int) : Option Bool :=
  (if (!(piece).isT) = true then some true else ((piece).len).bind fun x1 => if (!decide (x1 = 4)) = true then some true else ((piece).asQ).bind fun q2 => (szG q2).bind fun u3 => (mapO (fun a4 => is_number a4) q2).bind fun y6 => some (!(y6.all id))).bind fun t7 => if t7 = true then some false else ((piece).at 0).bind fun x8 => ((x8).asI).bind fun x9 => if (decide (0 ≤ x9) && decide (x9 < hands)) = true then ((piece).at 1).bind fun x10 => ((x10).asI).bind fun x11 => (if decide (0 ≤ x11) = true then ((piece).at 2).bind fun x12 => ((x12).asI).bind fun x13 => if decide (x11 < x13) = true then some (decide (x13 ≤ length)) else some false else some false).bind fun v14 => if v14 = true then ((piece).at 3).bind fun x15 => ((x15).asI).bind fun x16 => some (decide (0 ≤ x16) && decide (x16 < many)) else some false else some false

/-- do_meet -/
def do_meet (one : PV) (other : PV) : Option Bool :=
  ((one).at 0).bind fun x1 => ((other).at 0).bind fun x2 => (eqG (PV.enc x1) (PV.enc x2)).bind fun x3 => (if (!x3) = true then ((one).at 3).bind fun x4 => ((other).at 3).bind fun x5 => (eqG (PV.enc x4) (PV.enc x5)).bind fun x6 => some (!x6) else some false).bind fun t7 => if t7 = true then some false else ((one).at 1).bind fun x8 => ((other).at 2).bind fun x9 => ((x8).asI).bind fun x10 => ((x9).asI).bind fun x11 => if (decide (x10 < x11)) = true then ((other).at 1).bind fun x12 => ((one).at 2).bind fun x13 => ((x12).asI).bind fun x14 => ((x13).asI).bind fun x15 => some (decide (x14 < x15)) else some false

/-- is_side_by_side -/
def is_side_by_side (hours : (List Int)) (hands : Int) (length : PV) (plan : PV) : Option Bool :=
  (catG ([0] : List Int) hours).bind fun x1 => (divG (-(hours.sum)) hands).bind fun x2 => (catG x1 ([(-x2)] : List Int)).bind fun x3 => (maxI x3).bind fun x4 => (eqG (PV.enc length) (D.int x4)).bind fun x5 => (if (!x5) = true then some true else (is_number length).bind fun x6 => some (!x6)).bind fun t7 => if t7 = true then some false else (if (!(plan).isT) = true then some true else ((plan).asQ).bind fun q8 => (szG q8).bind fun u9 => (mapO (fun a10 => ((length).asI).bind fun x11 => is_piece a10 ((hours).length : Int) hands x11) q8).bind fun y13 => some (!(y13.all id))).bind fun t14 => if t14 = true then some false else ((plan).len).bind fun x15 => (rngG 0 x15).bind fun r16 => (loopO (fun i19 (s17 : Unit) => (((plan).len).bind fun x25 => (rngG (i19 + 1) x25).bind fun r26 => (szG r26).bind fun u27 => (compM (fun a28 => ((plan).at i19).bind fun x29 => ((plan).at a28).bind fun x30 => (do_meet x29 x30).bind fun x31 => if x31 = true then some (some a28) else some none) r26).bind fun y32 => if (!decide (y32 = [])) = true then some (Ct.rt false) else some (Ct.nx ()) : Option (Ct Bool Unit))) r16 ()).bind fun z35 => sumO z35 (fun q => some q) (fun s34 => (rngG 0 ((hours).length : Int)).bind fun r36 => (szG r36).bind fun u37 => (mapO (fun a38 => ((plan).asQ).bind fun q39 => (szG q39).bind fun u40 => (compM (fun a41 => ((a41).at 3).bind fun x42 => (eqG (PV.enc x42) (D.int a38)).bind fun x43 => if x43 = true then ((a41).at 2).bind fun x44 => ((a41).at 1).bind fun x45 => ((x44).asI).bind fun x46 => ((x45).asI).bind fun x47 => some (some (x46 - x47)) else some none) q39).bind fun y48 => (L2.atI hours a38).bind fun x49 => some (decide ((y48.sum) = x49))) r36).bind fun y50 => some (y50.all id))

/-- _law_bent -/
def _law_bent : Nat → W → PV → Option (PV × W)
  | 0, _, _ => none
  | fu + 1, w, value =>
  (if (value).isT = true then (eqG (PV.enc value) ((eT PV.enc) ([] : List PV))).bind fun x1 => if (!x1) = true then (nextW w 4).bind fun p2 => some ((decide (0 < p2.1)), p2.2) else some (false, w) else some (false, w)).bind fun t3 => if t3.1 = true then ((value).len).bind fun x4 => (nextW t3.2 x4).bind fun p5 => ((value).asT).bind fun x6 => ((value).at p5.1).bind fun x7 => (_law_bent fu p5.2 x7).bind fun x8 => (catG (cutL x6 none (some p5.1)) ([x8.1] : List PV)).bind fun x9 => ((value).asT).bind fun x10 => (catG x9 (cutL x10 (some (p5.1 + 1)) none)).bind fun x11 => some ((PV.tup x11), x8.2) else if (value).isT = true then ((value).len).bind fun x12 => (nextW t3.2 (x12 + 1)).bind fun p13 => ((value).asT).bind fun x14 => ((value).asT).bind fun x15 => (catG (cutL x14 none (some p13.1)) (cutL x15 (some (p13.1 + 1)) none)).bind fun x16 => ((value).asT).bind fun x17 => (catG x17 (([0] : List Int).map fun a => (PV.int a))).bind fun x18 => ((value).asT).bind fun x19 => ((value).asT).bind fun x20 => ((value).asT).bind fun x21 => (catG x21 (cutL x20 (some (-1)) none)).bind fun x22 => (some (([(some x16), (some x18), (some ((x19).reverse)), (some x22), none, (some [])] : List (Option (List PV))))).bind fun some23 => ((value).asT).bind fun x24 => (nextW p13.2 5).bind fun p25 => (catG (cutL x24 none (some p13.1)) (([p25.1] : List Int).map fun a => (PV.int a))).bind fun x26 => ((value).asT).bind fun x27 => (catG x26 (cutL x27 (some p13.1) none)).bind fun x28 => ((value).asT).bind fun x29 => ((value).asT).bind fun x30 => (catG (cutL x29 none (some p13.1)) (cutL x30 (some (p13.1 + 1)) none)).bind fun x31 => (catG some23 (([x28, x31] : List (List PV)).map fun a => (some a))).bind fun x32 => (pickW p25.2 x32).bind fun p33 => some ((p33.1.elim PV.non fun a => (PV.tup a)), p33.2) else if (value).isI = true then ((value).asI).bind fun x34 => ((value).asI).bind fun x35 => ((value).asI).bind fun x36 => ((value).asI).bind fun x37 => ((value).asI).bind fun x38 => (pickW t3.2 ([(PV.int (x34 + 1)), (PV.int (x35 - 1)), (PV.int 0), (PV.int (x36 + 3)), (PV.int (x37 + 1)), (PV.int (x38 - 1)), PV.non, (PV.str ("x" : PySem.Str)), (PV.bl true), (PV.tup ([value] : List PV))] : List PV)).bind fun p39 => some (p39.1, p39.2) else (pickW t3.2 ([(PV.int 0), (PV.tup []), PV.non] : List PV)).bind fun p40 => some (p40.1, p40.2)

/-- _law_is_empty_piece -/
def _law_is_empty_piece (plan : PV) : Option Bool :=
  (if (plan).isT = true then ((plan).asQ).bind fun q1 => (szG q1).bind fun u2 => compM (fun a3 => (if (a3).isT = true then ((a3).len).bind fun x4 => some (decide (x4 = 4)) else some false).bind fun t5 => if t5 = true then some (some a3) else some none) q1 else some []).bind fun v7 => (szG v7).bind fun u8 => (compM (fun a9 => ((a9).at 1).bind fun x10 => (_law_is_number x10).bind fun x11 => (if x11 = true then ((a9).at 2).bind fun x12 => _law_is_number x12 else some false).bind fun t14 => if t14 = true then some (some a9) else some none) v7).bind fun y15 => (szG y15).bind fun u16 => (compM (fun a17 => ((a17).at 1).bind fun x18 => ((a17).at 2).bind fun x19 => ((x18).asI).bind fun x20 => ((x19).asI).bind fun x21 => (if (decide (x21 ≤ x20)) = true then some true else ((a17).at 1).bind fun x22 => ((x22).asI).bind fun x23 => some (decide (x23 < 0))).bind fun t24 => if t24 = true then some (some a17) else some none) y15).bind fun y25 => (eqG ((eL PV.enc) y25) ((eL PV.enc) ([] : List PV))).bind fun x26 => some (!x26)

/-- _law_says -/
def _law_says (told : Bool) (due : Bool) : Option Bool :=
  some (true && (decide (told = due)))

/-- law -/
def law (L : List Int) : Option Bool :=
  (rngG 0 5).bind fun r1 => (loopO (fun i11 (s2 : (W)) => ((nextW s2 4).bind fun p22 => (nextW p22.2 8).bind fun p23 => (rngG 0 p23.1).bind fun r24 => (szG r24).bind fun u25 => (mapS (fun a26 w => (pickW w ([0, 1, 2, 2, 4, 8] : List Int)).bind fun p28 => some ((1 + p28.1), p28.2)) r24 p23.2).bind fun y29 => (plan_side_by_side y29.1 (1 + p22.1)).bind fun x30 => (if (!true) = true then some true else if (!decide ((2 : Int) = 2)) = true then some true else (_law_is_planned y29.1 (1 + p22.1) (PV.int x30.1) (PV.tup (x30.2.map fun a => (PV.tup [(PV.int a.1), (PV.int a.2.1), (PV.int a.2.2.1), (PV.int a.2.2.2)])))).bind fun x31 => some (!x31)).bind fun t32 => if t32 = true then some (Ct.rt false) else (is_side_by_side y29.1 (1 + p22.1) (PV.int x30.1) (PV.tup (x30.2.map fun a => (PV.tup [(PV.int a.1), (PV.int a.2.1), (PV.int a.2.2.1), (PV.int a.2.2.2)])))).bind fun x33 => if (!decide (x33 = true)) = true then some (Ct.rt false) else (rngG 0 6).bind fun r34 => (loopO (fun i40 (s35 : (W)) => ((nextW s35 4).bind fun p51 => ((if (decide (p51.1 = 0)) = true then (_law_bent 6 p51.2 (PV.int x30.1)).bind fun x55 => some (x55.2, x55.1, (PV.tup (x30.2.map fun a => (PV.tup [(PV.int a.1), (PV.int a.2.1), (PV.int a.2.2.1), (PV.int a.2.2.2)])))) else (_law_bent 6 p51.2 (PV.tup (x30.2.map fun a => (PV.tup [(PV.int a.1), (PV.int a.2.1), (PV.int a.2.2.1), (PV.int a.2.2.2)])))).bind fun x56 => some (x56.2, (PV.int x30.1), x56.1) : Option (W × PV × PV))).bind fun s54 => (_law_is_planned y29.1 (1 + p22.1) s54.2.1 s54.2.2).bind fun x57 => (_law_is_empty_piece s54.2.2).bind fun x58 => (if (!x58) = true then (is_side_by_side y29.1 (1 + p22.1) s54.2.1 s54.2.2).bind fun x59 => (_law_says x59 x57).bind fun x60 => some (!x60) else some false).bind fun t61 => if t61 = true then some (Ct.rt false) else some (Ct.nx s54.1) : Option (Ct Bool (W)))) r34 y29.2).bind fun z67 => sumO z67 (fun q => some (Ct.rt q)) (fun s66 => some (Ct.nx s66)) : Option (Ct Bool (W)))) r1 (W.mk L 0)).bind fun z77 => sumO z77 (fun q => some q) (fun s76 => some true)

end Sh
end

section
namespace Sh
open DL TL
def S_plan_side_by_side (P : Ctx) : Prop := ∀ (hours : (List Int)) (hands : Int) (r : (Int × (List (Int × Int × Int × Int)))), plan_side_by_side hours hands = some r → P.call 3 [(eT D.int) hours, D.int hands] = some ((eP D.int (eT (e4 D.int D.int D.int D.int))) r, [(eT D.int) hours, D.int hands])

def S__law_is_number (P : Ctx) : Prop := ∀ (thing : PV) (r : Bool), _law_is_number thing = some r → P.call 4 [PV.enc thing] = some (D.bl r, [PV.enc thing])

def S__law_clash (P : Ctx) : Prop := ∀ (one : PV) (other : PV) (r : Bool), _law_clash one other = some r → P.call 5 [PV.enc one, PV.enc other] = some (D.bl r, [PV.enc one, PV.enc other])

def S__law_is_planned (P : Ctx) : Prop := ∀ (hours : (List Int)) (hands : Int) (length : PV) (plan : PV) (r : Bool), _law_is_planned hours hands length plan = some r → P.call 6 [(eT D.int) hours, D.int hands, PV.enc length, PV.enc plan] = some (D.bl r, [(eT D.int) hours, D.int hands, PV.enc length, PV.enc plan])

def S_is_number (P : Ctx) : Prop := ∀ (thing : PV) (r : Bool), is_number thing = some r → P.call 7 [PV.enc thing] = some (D.bl r, [PV.enc thing])

def S_is_piece (P : Ctx) : Prop := ∀ (piece : PV) (many : Int) (hands : Int) (length : Int) (r : Bool), is_piece piece many hands length = some r → P.call 8 [PV.enc piece, D.int many, D.int hands, D.int length] = some (D.bl r, [PV.enc piece, D.int many, D.int hands, D.int length])

def S_do_meet (P : Ctx) : Prop := ∀ (one : PV) (other : PV) (r : Bool), do_meet one other = some r → P.call 9 [PV.enc one, PV.enc other] = some (D.bl r, [PV.enc one, PV.enc other])

def S_is_side_by_side (P : Ctx) : Prop := ∀ (hours : (List Int)) (hands : Int) (length : PV) (plan : PV) (r : Bool), is_side_by_side hours hands length plan = some r → P.call 10 [(eT D.int) hours, D.int hands, PV.enc length, PV.enc plan] = some (D.bl r, [(eT D.int) hours, D.int hands, PV.enc length, PV.enc plan])

def S__law_bent (P : Ctx) (fu : Nat) : Prop := ∀ (w : W) (value : PV) (r : (PV × W)), _law_bent fu w value = some r → P.call 11 [eW w, PV.enc value] = some (PV.enc r.1, [eW r.2, PV.enc value])

def S__law_is_empty_piece (P : Ctx) : Prop := ∀ (plan : PV) (r : Bool), _law_is_empty_piece plan = some r → P.call 12 [PV.enc plan] = some (D.bl r, [PV.enc plan])

def S__law_says (P : Ctx) : Prop := ∀ (told : Bool) (due : Bool) (r : Bool), _law_says told due = some r → P.call 13 [D.bl told, D.bl due] = some (D.bl r, [D.bl told, D.bl due])

theorem b_plan_side_by_side (P : Ctx)  (hours : (List Int)) (hands : Int) (r : (Int × (List (Int × Int × Int × Int)))) (h : plan_side_by_side hours hands = some r) : runF P Pg.f3 [(eT D.int) hours, D.int hands] = some ((eP D.int (eT (e4 D.int D.int D.int D.int))) r, [(eT D.int) hours, D.int hands]) := by
  unfold plan_side_by_side at h
  refine run_G rfl ?_
  show RetG _ _ _ _ (evSs P _ [some ((eT D.int) hours), some (D.int hands), none, none, none, none, none, none, none])
  obtain ⟨x1, h_x1, h⟩ := bnd h
  obtain ⟨x2, h_x2, h⟩ := bnd h
  obtain ⟨x3, h_x3, h⟩ := bnd h
  obtain ⟨x4, h_x4, h⟩ := bnd h
  refine g_nx (e := [some ((eT D.int) hours), some (D.int hands), some (D.int x4), none, none, none, none, none, none]) (s_asg (x_op1 (x_op2 (x_op2 (x_lstL D.int ([0] : List Int) (m_cons x_int m_nil) rfl) (x_op1 (x_var (eT D.int) (a := hours) rfl) rfl (o_lstT D.int)) rfl rfl (o_catL D.int h_x1)) (x_lstL D.int ([(-x2)] : List Int) (m_cons (x_op1 (x_op2 (x_op1 (x_op1 (x_var (eT D.int) (a := hours) rfl) rfl o_sumT) rfl o_neg) (x_var D.int (a := hands) rfl) rfl rfl (o_divG h_x2)) rfl o_neg) m_nil) rfl) rfl rfl (o_catL D.int h_x3)) rfl (o_maxL h_x4)) rfl) ?_
  obtain ⟨plan5, h_plan5, h⟩ := bnd h
  refine g_nx (e := [some ((eT D.int) hours), some (D.int hands), some (D.int x4), some ((eL (e4 D.int D.int D.int D.int)) plan5), none, none, none, none, none]) (s_asg (x_cast (d' := (eL (e4 D.int D.int D.int D.int)) plan5) (x_lstL (e4 D.int D.int D.int D.int) ([] : List (Int × Int × Int × Int)) m_nil rfl) (congrArg (eL (e4 D.int D.int D.int D.int)) (sj h_plan5))) rfl) ?_
  refine g_nx (e := [some ((eT D.int) hours), some (D.int hands), some (D.int x4), some ((eL (e4 D.int D.int D.int D.int)) plan5), none, some (D.int 0), some (D.int 0), none, none]) (s_asg (x_tupP D.int D.int 0 0 (m_cons x_int (m_cons x_int m_nil))) rfl) ?_
  obtain ⟨r6, h_r6, h⟩ := bnd h
  obtain ⟨s23, h_s23, h⟩ := bnd h
  refine g_forF (f := D.int) (fun (s7 : ((List (Int × Int × Int × Int)) × Int × Int)) e => ∃ (d8 d9 d10 : Option D), e = [some ((eT D.int) hours), some (D.int hands), some (D.int x4), some ((eL (e4 D.int D.int D.int D.int)) s7.1), d8, some (D.int s7.2.1), some (D.int s7.2.2), d9, d10]) (fo_rng1 (q_cons (x_op1 (x_var (eT D.int) (a := hours) rfl) rfl o_lnT) q_nil) h_r6) ⟨_, _, _, rfl⟩ h_s23 (fun i11 s7 s' e he h => by (obtain ⟨d8, d9, d10, rfl⟩ := he; refine g_bind (e1 := [some ((eT D.int) hours), some (D.int hands), some (D.int x4), some ((eL (e4 D.int D.int D.int D.int)) s7.1), some (D.int i11), some (D.int s7.2.1), some (D.int s7.2.2), d9, d10]) rfl ?_; obtain ⟨x12, h_x12, h⟩ := bnd h; refine g_nx (e := [some ((eT D.int) hours), some (D.int hands), some (D.int x4), some ((eL (e4 D.int D.int D.int D.int)) s7.1), some (D.int i11), some (D.int s7.2.1), some (D.int s7.2.2), some (D.int x12), d10]) (s_asg (x_sub (x_var (eT D.int) (a := hours) rfl) (x_var D.int (a := i11) rfl) rfl rfl (s_T h_x12) (mk_p D.int _ _)) rfl) ?_; obtain ⟨s19, h_s19, h⟩ := bnd h; refine g_whlS (fun (s13 : ((List (Int × Int × Int × Int)) × Int × Int × Int)) e => ∃ (d14 : Option D), e = [some ((eT D.int) hours), some (D.int hands), some (D.int x4), some ((eL (e4 D.int D.int D.int D.int)) s13.1), some (D.int i11), some (D.int s13.2.1), some (D.int s13.2.2.1), some (D.int s13.2.2.2), d14]) ⟨_, rfl⟩ h_s19 (fun s13 t e he h => by (obtain ⟨d14, rfl⟩ := he; have h := sj h; subst h; exact (t_bl (x_op2 (x_var D.int (a := s13.2.2.2) rfl) x_int rfl rfl o_gt)))) (fun s13 s' e he _ h => by (obtain ⟨d14, rfl⟩ := he; obtain ⟨many15, h_many15, h⟩ := bnd h; refine g_nx (e := [some ((eT D.int) hours), some (D.int hands), some (D.int x4), some ((eL (e4 D.int D.int D.int D.int)) s13.1), some (D.int i11), some (D.int s13.2.1), some (D.int s13.2.2.1), some (D.int s13.2.2.2), some (D.int many15)]) (s_asg (x_cast (d' := D.int many15) (x_op2 (x_var D.int (a := s13.2.2.2) rfl) (x_op2 (x_var D.int (a := x4) rfl) (x_var D.int (a := s13.2.2.1) rfl) rfl rfl o_sub) rfl rfl o_min2) (congrArg D.int (sj h_many15))) rfl) ?_; obtain ⟨l16, h_l16, h⟩ := bnd h; refine g_nx (e := [some ((eT D.int) hours), some (D.int hands), some (D.int x4), some ((eL (e4 D.int D.int D.int D.int)) l16), some (D.int i11), some (D.int s13.2.1), some (D.int s13.2.2.1), some (D.int s13.2.2.2), some (D.int many15)]) (s_app rfl (x_tup4 D.int D.int D.int D.int s13.2.1 s13.2.2.1 (s13.2.2.1 + many15) i11 (m_cons (x_var D.int (a := s13.2.1) rfl) (m_cons (x_var D.int (a := s13.2.2.1) rfl) (m_cons (x_op2 (x_var D.int (a := s13.2.2.1) rfl) (x_var D.int (a := many15) rfl) rfl rfl o_add) (m_cons (x_var D.int (a := i11) rfl) m_nil))))) rfl (app_L (f := (e4 D.int D.int D.int D.int)) h_l16) rfl) ?_; refine g_nx (e := [some ((eT D.int) hours), some (D.int hands), some (D.int x4), some ((eL (e4 D.int D.int D.int D.int)) l16), some (D.int i11), some (D.int s13.2.1), some (D.int s13.2.2.1), some (D.int (s13.2.2.2 - many15)), some (D.int many15)]) (s_aug rfl (x_var D.int (a := many15) rfl) rfl a_sub rfl rfl) ?_; refine g_nx (e := [some ((eT D.int) hours), some (D.int hands), some (D.int x4), some ((eL (e4 D.int D.int D.int D.int)) l16), some (D.int i11), some (D.int s13.2.1), some (D.int (s13.2.2.1 + many15)), some (D.int (s13.2.2.2 - many15)), some (D.int many15)]) (s_aug rfl (x_var D.int (a := many15) rfl) rfl a_add rfl rfl) ?_; obtain ⟨s17, h_s17, h⟩ := bnd h; refine g_joinI (I := fun e => e = [some ((eT D.int) hours), some (D.int hands), some (D.int x4), some ((eL (e4 D.int D.int D.int D.int)) l16), some (D.int i11), some (D.int s17.1), some (D.int s17.2), some (D.int (s13.2.2.2 - many15)), some (D.int many15)]) (t_bl (x_op2 (x_var D.int (a := (s13.2.2.1 + many15)) rfl) (x_var D.int (a := x4) rfl) rfl rfl o_eq)) (fun hc => by (have h := itT hc h_s17; refine g_nx (e := [some ((eT D.int) hours), some (D.int hands), some (D.int x4), some ((eL (e4 D.int D.int D.int D.int)) l16), some (D.int i11), some (D.int (s13.2.1 + 1)), some (D.int 0), some (D.int (s13.2.2.2 - many15)), some (D.int many15)]) (s_par (m_cons (x_op2 (x_var D.int (a := s13.2.1) rfl) x_int rfl rfl o_add) (m_cons x_int m_nil)) rfl) ?_; have h := sj h; subst h; exact g_end ⟨_, rfl, rfl⟩)) (fun hc => by (have h := itF hc h_s17; have h := sj h; subst h; exact g_end ⟨_, rfl, rfl⟩)) ?_; intro e hI; subst hI; have h := sj h; subst h; exact g_end ⟨_, _, rfl, .inl rfl, ⟨_, rfl⟩⟩)) ?_; intro e hI; obtain ⟨d18, rfl⟩ := hI; have h := sj h; subst h; exact g_end ⟨_, _, rfl, .inl rfl, ⟨_, _, _, rfl⟩⟩)) ?_
  intro e hI; obtain ⟨d20, d21, d22, rfl⟩ := hI
  have h := sj h
  subst h
  exact g_rt (s_rtv (x_tupP D.int (eT (e4 D.int D.int D.int D.int)) x4 s23.1 (m_cons (x_var D.int (a := x4) rfl) (m_cons (x_op1 (x_ref rfl rfl) rfl (o_tupL (e4 D.int D.int D.int D.int))) m_nil)))) ⟨_, _, rfl, .inl rfl, (bk_p (Pl.pl (f := (eT D.int)) _) (bk_p (Pl.pl (f := D.int) _) bk_nil))⟩

theorem b__law_is_number (P : Ctx)  (thing : PV) (r : Bool) (h : _law_is_number thing = some r) : runF P Pg.f4 [PV.enc thing] = some (D.bl r, [PV.enc thing]) := by
  unfold _law_is_number at h
  refine run_G rfl ?_
  show RetG _ _ _ _ (evSs P _ [some (PV.enc thing)])
  have h := sj h
  subst h
  exact g_rt (s_rtv (x_and (x_andT (x_op1 (x_var PV.enc (a := thing) rfl) rfl o_isiI) (x_and1 (x_not (x_op1 (x_var PV.enc (a := thing) rfl) rfl o_isiB) rfl rfl))))) ⟨_, _, rfl, .inl rfl, (bk_p (Pl.pl (f := PV.enc) _) bk_nil)⟩

theorem b__law_clash (P : Ctx)  (one : PV) (other : PV) (r : Bool) (h : _law_clash one other = some r) : runF P Pg.f5 [PV.enc one, PV.enc other] = some (D.bl r, [PV.enc one, PV.enc other]) := by
  unfold _law_clash at h
  refine run_G rfl ?_
  show RetG _ _ _ _ (evSs P _ [some (PV.enc one), some (PV.enc other), none])
  obtain ⟨x1, h_x1, h⟩ := bnd h
  obtain ⟨x2, h_x2, h⟩ := bnd h
  obtain ⟨x3, h_x3, h⟩ := bnd h
  obtain ⟨x4, h_x4, h⟩ := bnd h
  obtain ⟨t9, h_t9, h⟩ := bnd h
  refine g_nx (e := [some (PV.enc one), some (PV.enc other), some (D.bl t9)]) (s_asg (show AX P false _ (.and [(.op (.cmp .Lt) [(.sub (.var 0) (.int 1)), (.sub (.var 1) (.int 2))]), (.op (.cmp .Lt) [(.sub (.var 1) (.int 1)), (.sub (.var 0) (.int 2))])]) (.tmp (.bl t9)) [some (PV.enc one), some (PV.enc other), none] from (x_and (x_andC (x_op2 (x_cast (d' := D.int x3) (x_sub (x_var PV.enc (a := one) rfl) x_int rfl rfl (s_V h_x1) (mk_p PV.enc _ _)) (asI_enc h_x3)) (x_cast (d' := D.int x4) (x_sub (x_var PV.enc (a := other) rfl) x_int rfl rfl (s_V h_x2) (mk_p PV.enc _ _)) (asI_enc h_x4)) rfl rfl o_lt) (fun hc => by (have h := itT hc h_t9; obtain ⟨x5, h_x5, h⟩ := bnd h; obtain ⟨x6, h_x6, h⟩ := bnd h; obtain ⟨x7, h_x7, h⟩ := bnd h; obtain ⟨x8, h_x8, h⟩ := bnd h; have h := sj h; subst h; exact (x_and1 (x_op2 (x_cast (d' := D.int x7) (x_sub (x_var PV.enc (a := other) rfl) x_int rfl rfl (s_V h_x5) (mk_p PV.enc _ _)) (asI_enc h_x7)) (x_cast (d' := D.int x8) (x_sub (x_var PV.enc (a := one) rfl) x_int rfl rfl (s_V h_x6) (mk_p PV.enc _ _)) (asI_enc h_x8)) rfl rfl o_lt)))) (fun hc => by (have h := itF hc h_t9; cases h; exact ⟨rfl, rfl⟩))))) rfl) ?_
  obtain ⟨t17, h_t17, h⟩ := bnde h
  have h := sj h
  subst h
  exact g_rt (s_rtv (show AX P false _ (.and [(.var 2), (.or [(.op (.cmp .Eq) [(.sub (.var 0) (.int 0)), (.sub (.var 1) (.int 0))]), (.op (.cmp .Eq) [(.sub (.var 0) (.int 3)), (.sub (.var 1) (.int 3))])])]) (.tmp (.bl t17)) [some (PV.enc one), some (PV.enc other), some (D.bl t9)] from (x_and (x_andC (x_var D.bl (a := t9) rfl) (fun hc => by (have h := itT hc h_t17; obtain ⟨x10, h_x10, h⟩ := bnd h; obtain ⟨x11, h_x11, h⟩ := bnd h; obtain ⟨x12, h_x12, h⟩ := bnd h; obtain ⟨t16, h_t16, h⟩ := bnde h; have h := sj h; subst h; exact (x_and1 (show AX P false _ (.or [(.op (.cmp .Eq) [(.sub (.var 0) (.int 0)), (.sub (.var 1) (.int 0))]), (.op (.cmp .Eq) [(.sub (.var 0) (.int 3)), (.sub (.var 1) (.int 3))])]) (.tmp (.bl t16)) [some (PV.enc one), some (PV.enc other), some (D.bl t9)] from (x_or (x_orC (x_op2 (x_sub (x_var PV.enc (a := one) rfl) x_int rfl rfl (s_V h_x10) (mk_p PV.enc _ _)) (x_sub (x_var PV.enc (a := other) rfl) x_int rfl rfl (s_V h_x11) (mk_p PV.enc _ _)) rfl rfl (o_eqG h_x12)) (fun hc => by (have h := itF hc h_t16; obtain ⟨x13, h_x13, h⟩ := bnd h; obtain ⟨x14, h_x14, h⟩ := bnd h; obtain ⟨x15, h_x15, h⟩ := bnde h; have h := sj h; subst h; exact (x_or1 (x_op2 (x_sub (x_var PV.enc (a := one) rfl) x_int rfl rfl (s_V h_x13) (mk_p PV.enc _ _)) (x_sub (x_var PV.enc (a := other) rfl) x_int rfl rfl (s_V h_x14) (mk_p PV.enc _ _)) rfl rfl (o_eqG h_x15))))) (fun hc => by (have h := itT hc h_t16; cases h; exact ⟨rfl, rfl⟩)))))))) (fun hc => by (have h := itF hc h_t17; cases h; exact ⟨rfl, rfl⟩)))))) ⟨_, _, rfl, .inl rfl, (bk_p (Pl.pl (f := PV.enc) _) (bk_p (Pl.pl (f := PV.enc) _) bk_nil))⟩

theorem b__law_is_planned (P : Ctx) (hS__law_is_number : S__law_is_number P) (hS__law_clash : S__law_clash P) (hours : (List Int)) (hands : Int) (length : PV) (plan : PV) (r : Bool) (h : _law_is_planned hours hands length plan = some r) : runF P Pg.f6 [(eT D.int) hours, D.int hands, PV.enc length, PV.enc plan] = some (D.bl r, [(eT D.int) hours, D.int hands, PV.enc length, PV.enc plan]) := by
  unfold _law_is_planned at h
  refine run_G rfl ?_
  show RetG _ _ _ _ (evSs P _ [some ((eT D.int) hours), some (D.int hands), some (PV.enc length), some (PV.enc plan), none, none, none, none, none, none, none, none])
  obtain ⟨x1, h_x1, h⟩ := bnd h
  obtain ⟨t7, h_t7, h⟩ := bnd h
  rcases iteo h with ⟨hc, h⟩ | ⟨hc, h⟩
  (refine g_iteT (show TX P false _ (.or [(.not (.val (.call 4 [(.var 2)]))), (.val (.op (.cmp .NotEq) [(.var 2), (.op .max [(.op (.bin .Add) [(.op (.bin .Add) [(.lst [(.int 0)]), (.op .list [(.var 0)])]), (.lst [(.op (.bin .FloorDiv) [(.op (.bin .Sub) [(.op (.bin .Add) [(.op .sum [(.var 0)]), (.var 1)]), (.int 1)]), (.var 1)])])])])])), (.not (.val (.op (.isi .tuple) [(.var 3)])))]) t7 [some ((eT D.int) hours), some (D.int hands), some (PV.enc length), some (PV.enc plan), none, none, none, none, none, none, none, none] from (t_or (t_orC (t_not (t_bl (x_call (q_cons (x_var PV.enc (a := length) rfl) q_nil) rfl rfl (hS__law_is_number _ _ h_x1) rfl))) (fun hc => by (have h := itF hc h_t7; obtain ⟨x2, h_x2, h⟩ := bnd h; obtain ⟨x3, h_x3, h⟩ := bnd h; obtain ⟨x4, h_x4, h⟩ := bnd h; obtain ⟨x5, h_x5, h⟩ := bnd h; obtain ⟨x6, h_x6, h⟩ := bnd h; exact (t_orC (t_bl (x_op2 (x_var PV.enc (a := length) rfl) (x_op1 (x_op2 (x_op2 (x_lstL D.int ([0] : List Int) (m_cons x_int m_nil) rfl) (x_op1 (x_var (eT D.int) (a := hours) rfl) rfl (o_lstT D.int)) rfl rfl (o_catL D.int h_x2)) (x_lstL D.int ([x3] : List Int) (m_cons (x_op2 (x_op2 (x_op2 (x_op1 (x_var (eT D.int) (a := hours) rfl) rfl o_sumT) (x_var D.int (a := hands) rfl) rfl rfl o_add) x_int rfl rfl o_sub) (x_var D.int (a := hands) rfl) rfl rfl (o_divG h_x3)) m_nil) rfl) rfl rfl (o_catL D.int h_x4)) rfl (o_maxL h_x5)) rfl rfl (o_neG h_x6))) (fun hc => by (have h := itF hc h; have h := sj h; subst h; exact (t_or1 (t_not (t_bl (x_op1 (x_var PV.enc (a := plan) rfl) rfl o_isiT)))))) (fun hc => by (have h := itT hc h; cases h; exact ⟨rfl, rfl⟩))))) (fun hc => by (have h := itT hc h_t7; cases h; exact ⟨rfl, rfl⟩))))) hc ?_; have h := sj h; subst h; exact g_rt (s_rtv x_bl) ⟨_, _, rfl, .inl rfl, (bk_p (Pl.pl (f := (eT D.int)) _) (bk_p (Pl.pl (f := D.int) _) (bk_p (Pl.pl (f := PV.enc) _) (bk_p (Pl.pl (f := PV.enc) _) bk_nil))))⟩)
  (refine g_iteF (show TX P false _ (.or [(.not (.val (.call 4 [(.var 2)]))), (.val (.op (.cmp .NotEq) [(.var 2), (.op .max [(.op (.bin .Add) [(.op (.bin .Add) [(.lst [(.int 0)]), (.op .list [(.var 0)])]), (.lst [(.op (.bin .FloorDiv) [(.op (.bin .Sub) [(.op (.bin .Add) [(.op .sum [(.var 0)]), (.var 1)]), (.int 1)]), (.var 1)])])])])])), (.not (.val (.op (.isi .tuple) [(.var 3)])))]) t7 [some ((eT D.int) hours), some (D.int hands), some (PV.enc length), some (PV.enc plan), none, none, none, none, none, none, none, none] from (t_or (t_orC (t_not (t_bl (x_call (q_cons (x_var PV.enc (a := length) rfl) q_nil) rfl rfl (hS__law_is_number _ _ h_x1) rfl))) (fun hc => by (have h := itF hc h_t7; obtain ⟨x2, h_x2, h⟩ := bnd h; obtain ⟨x3, h_x3, h⟩ := bnd h; obtain ⟨x4, h_x4, h⟩ := bnd h; obtain ⟨x5, h_x5, h⟩ := bnd h; obtain ⟨x6, h_x6, h⟩ := bnd h; exact (t_orC (t_bl (x_op2 (x_var PV.enc (a := length) rfl) (x_op1 (x_op2 (x_op2 (x_lstL D.int ([0] : List Int) (m_cons x_int m_nil) rfl) (x_op1 (x_var (eT D.int) (a := hours) rfl) rfl (o_lstT D.int)) rfl rfl (o_catL D.int h_x2)) (x_lstL D.int ([x3] : List Int) (m_cons (x_op2 (x_op2 (x_op2 (x_op1 (x_var (eT D.int) (a := hours) rfl) rfl o_sumT) (x_var D.int (a := hands) rfl) rfl rfl o_add) x_int rfl rfl o_sub) (x_var D.int (a := hands) rfl) rfl rfl (o_divG h_x3)) m_nil) rfl) rfl rfl (o_catL D.int h_x4)) rfl (o_maxL h_x5)) rfl rfl (o_neG h_x6))) (fun hc => by (have h := itF hc h; have h := sj h; subst h; exact (t_or1 (t_not (t_bl (x_op1 (x_var PV.enc (a := plan) rfl) rfl o_isiT)))))) (fun hc => by (have h := itT hc h; cases h; exact ⟨rfl, rfl⟩))))) (fun hc => by (have h := itT hc h_t7; cases h; exact ⟨rfl, rfl⟩))))) hc ?_; obtain ⟨q8, h_q8, h⟩ := bnd h; obtain ⟨z41, h_z41, h⟩ := bnd h; refine g_forC (f := PV.enc) (fun (s9 : Unit) e => ∃ (d10 : Option D), e = [some ((eT D.int) hours), some (D.int hands), some (PV.enc length), some (PV.enc plan), d10, none, none, none, none, none, none, none]) (fun (q : Bool) d e => d = D.bl q ∧ ∃ (d12 d13 d14 d15 d16 d17 d18 d19 : Option D), e = [some ((eT D.int) hours), some (D.int hands), some (PV.enc length), some (PV.enc plan), d12, d13, d14, d15, d16, d17, d18, d19]) (fo_it (f := PV.enc) (q_cons (x_var PV.enc (a := plan) rfl) q_nil) (asQ_items h_q8)) ⟨_, rfl⟩ h_z41 (fun i11 s9 c e he h => by (obtain ⟨d10, rfl⟩ := he; refine g_bind (e1 := [some ((eT D.int) hours), some (D.int hands), some (PV.enc length), some (PV.enc plan), some (PV.enc i11), none, none, none, none, none, none, none]) rfl ?_; obtain ⟨t27, h_t27, h⟩ := bnd h; rcases iteo h with ⟨hc, h⟩ | ⟨hc, h⟩; (refine g_iteT (show TX P false _ (.or [(.not (.val (.op (.isi .tuple) [(.var 4)]))), (.val (.op (.cmp .NotEq) [(.op .len [(.var 4)]), (.int 4)])), (.val (.op (.cmp .NotEq) [(.comp (.nm 7) [7] (.it false) [(.var 4)] [(.not (.val (.call 4 [(.var 7)])))] (.var 7)), (.lst [])]))]) t27 [some ((eT D.int) hours), some (D.int hands), some (PV.enc length), some (PV.enc plan), some (PV.enc i11), none, none, none, none, none, none, none] from (t_or (t_orC (t_not (t_bl (x_op1 (x_var PV.enc (a := i11) rfl) rfl o_isiT))) (fun hc => by (have h := itF hc h_t27; obtain ⟨x20, h_x20, h⟩ := bnd h; exact (t_orC (t_bl (x_op2 (x_op1 (x_var PV.enc (a := i11) rfl) rfl (o_lnV h_x20)) x_int rfl rfl o_ne)) (fun hc => by (have h := itF hc h; obtain ⟨q21, h_q21, h⟩ := bnd h; obtain ⟨u22, h_u22, h⟩ := bnd h; obtain ⟨y25, h_y25, h⟩ := bnd h; obtain ⟨x26, h_x26, h⟩ := bnd h; have h := sj h; subst h; exact (t_or1 (t_bl (x_op2 (x_compM (f := PV.enc) (g := PV.enc) (E0 := [some ((eT D.int) hours), some (D.int hands), some (PV.enc length), some (PV.enc plan), some (PV.enc i11), none, none, none, none, none, none, none]) (so_it (f := PV.enc) (q_cons (x_var PV.enc (a := i11) rfl) q_nil) (asQ_items h_q21)) rfl (szG_le h_u22) h_y25 (fun a23 y h => by (obtain ⟨x24, h_x24, h⟩ := bnd h; rcases iteo h with ⟨hc, h⟩ | ⟨hc, h⟩; (have h := sj h; subst h; have ht : TX P false [some ((eT D.int) hours), some (D.int hands), some (PV.enc length), some (PV.enc plan), some (PV.enc i11), none, none, some (PV.enc a23), none, none, none, none] (.not (.val (.call 4 [(.var 7)]))) (!x24) [some ((eT D.int) hours), some (D.int hands), some (PV.enc length), some (PV.enc plan), some (PV.enc i11), none, none, some (PV.enc a23), none, none, none, none] := (t_not (t_bl (x_call (q_cons (x_var PV.enc (a := a23) rfl) q_nil) rfl rfl (hS__law_is_number _ _ h_x24) rfl))); rw [hc] at ht; exact stepC_y (e1 := [some ((eT D.int) hours), some (D.int hands), some (PV.enc length), some (PV.enc plan), some (PV.enc i11), none, none, some (PV.enc a23), none, none, none, none]) rfl (t_and1 ht) (x_var PV.enc (a := a23) rfl) rfl); (have h := sj h; subst h; have ht : TX P false [some ((eT D.int) hours), some (D.int hands), some (PV.enc length), some (PV.enc plan), some (PV.enc i11), none, none, some (PV.enc a23), none, none, none, none] (.not (.val (.call 4 [(.var 7)]))) (!x24) [some ((eT D.int) hours), some (D.int hands), some (PV.enc length), some (PV.enc plan), some (PV.enc i11), none, none, some (PV.enc a23), none, none, none, none] := (t_not (t_bl (x_call (q_cons (x_var PV.enc (a := a23) rfl) q_nil) rfl rfl (hS__law_is_number _ _ h_x24) rfl))); rw [hc] at ht; exact stepC_n (e1 := [some ((eT D.int) hours), some (D.int hands), some (PV.enc length), some (PV.enc plan), some (PV.enc i11), none, none, some (PV.enc a23), none, none, none, none]) rfl (t_and1 ht) rfl))) rfl) (x_lstL PV.enc ([] : List PV) m_nil rfl) rfl rfl (o_neG h_x26)))))) (fun hc => by (have h := itT hc h; cases h; exact ⟨rfl, rfl⟩))))) (fun hc => by (have h := itT hc h_t27; cases h; exact ⟨rfl, rfl⟩))))) hc ?_; have h := sj h; subst h; exact g_rt (s_rtv x_bl) ⟨_, _, rfl, rfl, _, _, _, _, _, _, _, _, rfl⟩); (refine g_iteF (show TX P false _ (.or [(.not (.val (.op (.isi .tuple) [(.var 4)]))), (.val (.op (.cmp .NotEq) [(.op .len [(.var 4)]), (.int 4)])), (.val (.op (.cmp .NotEq) [(.comp (.nm 7) [7] (.it false) [(.var 4)] [(.not (.val (.call 4 [(.var 7)])))] (.var 7)), (.lst [])]))]) t27 [some ((eT D.int) hours), some (D.int hands), some (PV.enc length), some (PV.enc plan), some (PV.enc i11), none, none, none, none, none, none, none] from (t_or (t_orC (t_not (t_bl (x_op1 (x_var PV.enc (a := i11) rfl) rfl o_isiT))) (fun hc => by (have h := itF hc h_t27; obtain ⟨x20, h_x20, h⟩ := bnd h; exact (t_orC (t_bl (x_op2 (x_op1 (x_var PV.enc (a := i11) rfl) rfl (o_lnV h_x20)) x_int rfl rfl o_ne)) (fun hc => by (have h := itF hc h; obtain ⟨q21, h_q21, h⟩ := bnd h; obtain ⟨u22, h_u22, h⟩ := bnd h; obtain ⟨y25, h_y25, h⟩ := bnd h; obtain ⟨x26, h_x26, h⟩ := bnd h; have h := sj h; subst h; exact (t_or1 (t_bl (x_op2 (x_compM (f := PV.enc) (g := PV.enc) (E0 := [some ((eT D.int) hours), some (D.int hands), some (PV.enc length), some (PV.enc plan), some (PV.enc i11), none, none, none, none, none, none, none]) (so_it (f := PV.enc) (q_cons (x_var PV.enc (a := i11) rfl) q_nil) (asQ_items h_q21)) rfl (szG_le h_u22) h_y25 (fun a23 y h => by (obtain ⟨x24, h_x24, h⟩ := bnd h; rcases iteo h with ⟨hc, h⟩ | ⟨hc, h⟩; (have h := sj h; subst h; have ht : TX P false [some ((eT D.int) hours), some (D.int hands), some (PV.enc length), some (PV.enc plan), some (PV.enc i11), none, none, some (PV.enc a23), none, none, none, none] (.not (.val (.call 4 [(.var 7)]))) (!x24) [some ((eT D.int) hours), some (D.int hands), some (PV.enc length), some (PV.enc plan), some (PV.enc i11), none, none, some (PV.enc a23), none, none, none, none] := (t_not (t_bl (x_call (q_cons (x_var PV.enc (a := a23) rfl) q_nil) rfl rfl (hS__law_is_number _ _ h_x24) rfl))); rw [hc] at ht; exact stepC_y (e1 := [some ((eT D.int) hours), some (D.int hands), some (PV.enc length), some (PV.enc plan), some (PV.enc i11), none, none, some (PV.enc a23), none, none, none, none]) rfl (t_and1 ht) (x_var PV.enc (a := a23) rfl) rfl); (have h := sj h; subst h; have ht : TX P false [some ((eT D.int) hours), some (D.int hands), some (PV.enc length), some (PV.enc plan), some (PV.enc i11), none, none, some (PV.enc a23), none, none, none, none] (.not (.val (.call 4 [(.var 7)]))) (!x24) [some ((eT D.int) hours), some (D.int hands), some (PV.enc length), some (PV.enc plan), some (PV.enc i11), none, none, some (PV.enc a23), none, none, none, none] := (t_not (t_bl (x_call (q_cons (x_var PV.enc (a := a23) rfl) q_nil) rfl rfl (hS__law_is_number _ _ h_x24) rfl))); rw [hc] at ht; exact stepC_n (e1 := [some ((eT D.int) hours), some (D.int hands), some (PV.enc length), some (PV.enc plan), some (PV.enc i11), none, none, some (PV.enc a23), none, none, none, none]) rfl (t_and1 ht) rfl))) rfl) (x_lstL PV.enc ([] : List PV) m_nil rfl) rfl rfl (o_neG h_x26)))))) (fun hc => by (have h := itT hc h; cases h; exact ⟨rfl, rfl⟩))))) (fun hc => by (have h := itT hc h_t27; cases h; exact ⟨rfl, rfl⟩))))) hc ?_; obtain ⟨x28, h_x28, h⟩ := bnd h; obtain ⟨x29, h_x29, h⟩ := bnd h; obtain ⟨t38, h_t38, h⟩ := bnd h; rcases iteo h with ⟨hc, h⟩ | ⟨hc, h⟩; (refine g_iteT (show TX P false _ (.or [(.not (.val (.cmp2 .LtE .Lt (.int 0) (.sub (.var 4) (.int 0)) (.var 1)))), (.not (.val (.cmp2 .LtE .Lt (.int 0) (.sub (.var 4) (.int 3)) (.op .len [(.var 0)])))), (.not (.val (.cmp3 .LtE .Lt .LtE (.int 0) (.sub (.var 4) (.int 1)) (.sub (.var 4) (.int 2)) (.var 2))))]) t38 [some ((eT D.int) hours), some (D.int hands), some (PV.enc length), some (PV.enc plan), some (PV.enc i11), none, none, none, none, none, none, none] from (t_or (t_orC (t_not (t_bl (x_cmp2 x_int (x_cast (d' := D.int x29) (x_sub (x_var PV.enc (a := i11) rfl) x_int rfl rfl (s_V h_x28) (mk_p PV.enc _ _)) (asI_enc h_x29)) rfl (x_var D.int (a := hands) rfl) rfl))) (fun hc => by (have h := itF hc h_t38; obtain ⟨x30, h_x30, h⟩ := bnd h; obtain ⟨x31, h_x31, h⟩ := bnd h; exact (t_orC (t_not (t_bl (x_cmp2 x_int (x_cast (d' := D.int x31) (x_sub (x_var PV.enc (a := i11) rfl) x_int rfl rfl (s_V h_x30) (mk_p PV.enc _ _)) (asI_enc h_x31)) rfl (x_op1 (x_var (eT D.int) (a := hours) rfl) rfl o_lnT) rfl))) (fun hc => by (have h := itF hc h; obtain ⟨x32, h_x32, h⟩ := bnd h; obtain ⟨x33, h_x33, h⟩ := bnd h; obtain ⟨v37, h_v37, h⟩ := bnd h; have h := sj h; subst h; exact (t_or1 (t_not (t_bl (show AX P false _ (.cmp3 .LtE .Lt .LtE (.int 0) (.sub (.var 4) (.int 1)) (.sub (.var 4) (.int 2)) (.var 2)) (.tmp (.bl v37)) _ from (x_cmp3P x_int (x_cast (d' := D.int x33) (x_sub (x_var PV.enc (a := i11) rfl) x_int rfl rfl (s_V h_x32) (mk_p PV.enc _ _)) (asI_enc h_x33)) rfl (fun hc => by (have h := itT hc h_v37; obtain ⟨x34, h_x34, h⟩ := bnd h; obtain ⟨x35, h_x35, h⟩ := bnd h; exact ⟨_, _, (x_cast (d' := D.int x35) (x_sub (x_var PV.enc (a := i11) rfl) x_int rfl rfl (s_V h_x34) (mk_p PV.enc _ _)) (asI_enc h_x35)), rfl, (fun hc => by (have h := itT hc h; obtain ⟨x36, h_x36, h⟩ := bnd h; have h := sj h; subst h; exact ⟨_, (x_cast (d' := D.int x36) (x_var PV.enc (a := length) rfl) (asI_enc h_x36)), rfl⟩)), (fun hc => by (have h := itF hc h; exact (sj h).symm))⟩)) (fun hc => by (have h := itF hc h_v37; exact (sj h).symm))))))))) (fun hc => by (have h := itT hc h; cases h; exact ⟨rfl, rfl⟩))))) (fun hc => by (have h := itT hc h_t38; cases h; exact ⟨rfl, rfl⟩))))) hc ?_; have h := sj h; subst h; exact g_rt (s_rtv x_bl) ⟨_, _, rfl, rfl, _, _, _, _, _, _, _, _, rfl⟩); (refine g_iteF (show TX P false _ (.or [(.not (.val (.cmp2 .LtE .Lt (.int 0) (.sub (.var 4) (.int 0)) (.var 1)))), (.not (.val (.cmp2 .LtE .Lt (.int 0) (.sub (.var 4) (.int 3)) (.op .len [(.var 0)])))), (.not (.val (.cmp3 .LtE .Lt .LtE (.int 0) (.sub (.var 4) (.int 1)) (.sub (.var 4) (.int 2)) (.var 2))))]) t38 [some ((eT D.int) hours), some (D.int hands), some (PV.enc length), some (PV.enc plan), some (PV.enc i11), none, none, none, none, none, none, none] from (t_or (t_orC (t_not (t_bl (x_cmp2 x_int (x_cast (d' := D.int x29) (x_sub (x_var PV.enc (a := i11) rfl) x_int rfl rfl (s_V h_x28) (mk_p PV.enc _ _)) (asI_enc h_x29)) rfl (x_var D.int (a := hands) rfl) rfl))) (fun hc => by (have h := itF hc h_t38; obtain ⟨x30, h_x30, h⟩ := bnd h; obtain ⟨x31, h_x31, h⟩ := bnd h; exact (t_orC (t_not (t_bl (x_cmp2 x_int (x_cast (d' := D.int x31) (x_sub (x_var PV.enc (a := i11) rfl) x_int rfl rfl (s_V h_x30) (mk_p PV.enc _ _)) (asI_enc h_x31)) rfl (x_op1 (x_var (eT D.int) (a := hours) rfl) rfl o_lnT) rfl))) (fun hc => by (have h := itF hc h; obtain ⟨x32, h_x32, h⟩ := bnd h; obtain ⟨x33, h_x33, h⟩ := bnd h; obtain ⟨v37, h_v37, h⟩ := bnd h; have h := sj h; subst h; exact (t_or1 (t_not (t_bl (show AX P false _ (.cmp3 .LtE .Lt .LtE (.int 0) (.sub (.var 4) (.int 1)) (.sub (.var 4) (.int 2)) (.var 2)) (.tmp (.bl v37)) _ from (x_cmp3P x_int (x_cast (d' := D.int x33) (x_sub (x_var PV.enc (a := i11) rfl) x_int rfl rfl (s_V h_x32) (mk_p PV.enc _ _)) (asI_enc h_x33)) rfl (fun hc => by (have h := itT hc h_v37; obtain ⟨x34, h_x34, h⟩ := bnd h; obtain ⟨x35, h_x35, h⟩ := bnd h; exact ⟨_, _, (x_cast (d' := D.int x35) (x_sub (x_var PV.enc (a := i11) rfl) x_int rfl rfl (s_V h_x34) (mk_p PV.enc _ _)) (asI_enc h_x35)), rfl, (fun hc => by (have h := itT hc h; obtain ⟨x36, h_x36, h⟩ := bnd h; have h := sj h; subst h; exact ⟨_, (x_cast (d' := D.int x36) (x_var PV.enc (a := length) rfl) (asI_enc h_x36)), rfl⟩)), (fun hc => by (have h := itF hc h; exact (sj h).symm))⟩)) (fun hc => by (have h := itF hc h_v37; exact (sj h).symm))))))))) (fun hc => by (have h := itT hc h; cases h; exact ⟨rfl, rfl⟩))))) (fun hc => by (have h := itT hc h_t38; cases h; exact ⟨rfl, rfl⟩))))) hc ?_; have h := sj h; subst h; exact g_end ⟨_, _, rfl, .inl rfl, ⟨_, rfl⟩⟩)))) ?_ ?_; (intro s40 e hz hI; subst hz; obtain ⟨d39, rfl⟩ := hI; replace h := sumO_r h; obtain ⟨x42, h_x42, h⟩ := bnd h; obtain ⟨r43, h_r43, h⟩ := bnd h; obtain ⟨z64, h_z64, h⟩ := bnd h; refine g_forC (f := D.int) (fun (s44 : Unit) e => ∃ (d45 : Option D), (plE d45 = d45) ∧ e = [some ((eT D.int) hours), some (D.int hands), some (PV.enc length), some (PV.enc plan), d39, d45, none, none, none, none, none, none]) (fun (q : Bool) d e => d = D.bl q ∧ ∃ (d47 d48 d49 d50 d51 d52 d53 d54 : Option D), e = [some ((eT D.int) hours), some (D.int hands), some (PV.enc length), some (PV.enc plan), d47, d48, d49, d50, d51, d52, d53, d54]) (fo_rng1 (q_cons (x_op1 (x_var PV.enc (a := plan) rfl) rfl (o_lnV h_x42)) q_nil) h_r43) ⟨_, (by first | with_reducible assumption | with_reducible exact plE_n | with_reducible exact plE_pl | with_reducible exact plE_o | rfl), rfl⟩ h_z64 (fun i46 s44 c e he h => by (obtain ⟨d45, hp_d45, rfl⟩ := he; refine g_bind (e1 := [some ((eT D.int) hours), some (D.int hands), some (PV.enc length), some (PV.enc plan), d39, some (D.int i46), none, none, none, none, none, none]) rfl ?_; obtain ⟨r55, h_r55, h⟩ := bnd h; obtain ⟨u56, h_u56, h⟩ := bnd h; obtain ⟨y61, h_y61, h⟩ := bnd h; rcases iteo h with ⟨hc, h⟩ | ⟨hc, h⟩; (refine g_iteT (t_bl (x_op2 (x_compM (f := D.int) (g := D.int) (E0 := [some ((eT D.int) hours), some (D.int hands), some (PV.enc length), some (PV.enc plan), d39, some (D.int i46), none, none, none, none, none, none]) (so_rng1 (q_cons (x_var D.int (a := i46) rfl) q_nil) h_r55) rfl (szG_le h_u56) h_y61 (fun a57 y h => by (obtain ⟨x58, h_x58, h⟩ := bnd h; obtain ⟨x59, h_x59, h⟩ := bnd h; obtain ⟨x60, h_x60, h⟩ := bnd h; rcases iteo h with ⟨hc, h⟩ | ⟨hc, h⟩; (have h := sj h; subst h; have ht : TX P false [some ((eT D.int) hours), some (D.int hands), some (PV.enc length), some (PV.enc plan), d39, some (D.int i46), some (D.int a57), none, none, none, none, none] (.val (.call 5 [(.sub (.var 3) (.var 6)), (.sub (.var 3) (.var 5))])) x60 [some ((eT D.int) hours), some (D.int hands), some (PV.enc length), some (PV.enc plan), d39, some (D.int i46), some (D.int a57), none, none, none, none, none] := (t_bl (x_call (q_cons (x_sub (x_var PV.enc (a := plan) rfl) (x_var D.int (a := a57) rfl) rfl rfl (s_V h_x58) (mk_p PV.enc _ _)) (q_cons (x_sub (x_var PV.enc (a := plan) rfl) (x_var D.int (a := i46) rfl) rfl rfl (s_V h_x59) (mk_p PV.enc _ _)) q_nil)) rfl rfl (hS__law_clash _ _ _ h_x60) rfl)); rw [hc] at ht; exact stepC_y (e1 := [some ((eT D.int) hours), some (D.int hands), some (PV.enc length), some (PV.enc plan), d39, some (D.int i46), some (D.int a57), none, none, none, none, none]) rfl (t_and1 ht) (x_var D.int (a := a57) rfl) rfl); (have h := sj h; subst h; have ht : TX P false [some ((eT D.int) hours), some (D.int hands), some (PV.enc length), some (PV.enc plan), d39, some (D.int i46), some (D.int a57), none, none, none, none, none] (.val (.call 5 [(.sub (.var 3) (.var 6)), (.sub (.var 3) (.var 5))])) x60 [some ((eT D.int) hours), some (D.int hands), some (PV.enc length), some (PV.enc plan), d39, some (D.int i46), some (D.int a57), none, none, none, none, none] := (t_bl (x_call (q_cons (x_sub (x_var PV.enc (a := plan) rfl) (x_var D.int (a := a57) rfl) rfl rfl (s_V h_x58) (mk_p PV.enc _ _)) (q_cons (x_sub (x_var PV.enc (a := plan) rfl) (x_var D.int (a := i46) rfl) rfl rfl (s_V h_x59) (mk_p PV.enc _ _)) q_nil)) rfl rfl (hS__law_clash _ _ _ h_x60) rfl)); rw [hc] at ht; exact stepC_n (e1 := [some ((eT D.int) hours), some (D.int hands), some (PV.enc length), some (PV.enc plan), d39, some (D.int i46), some (D.int a57), none, none, none, none, none]) rfl (t_and1 ht) rfl))) rfl) (x_cast (d' := (eL D.int) []) (x_lstL PV.enc ([] : List PV) m_nil rfl) rfl) rfl rfl (o_neC (eL D.int) rfl _ _))) hc ?_; have h := sj h; subst h; exact g_rt (s_rtv x_bl) ⟨_, _, rfl, rfl, _, _, _, _, _, _, _, _, rfl⟩); (refine g_iteF (t_bl (x_op2 (x_compM (f := D.int) (g := D.int) (E0 := [some ((eT D.int) hours), some (D.int hands), some (PV.enc length), some (PV.enc plan), d39, some (D.int i46), none, none, none, none, none, none]) (so_rng1 (q_cons (x_var D.int (a := i46) rfl) q_nil) h_r55) rfl (szG_le h_u56) h_y61 (fun a57 y h => by (obtain ⟨x58, h_x58, h⟩ := bnd h; obtain ⟨x59, h_x59, h⟩ := bnd h; obtain ⟨x60, h_x60, h⟩ := bnd h; rcases iteo h with ⟨hc, h⟩ | ⟨hc, h⟩; (have h := sj h; subst h; have ht : TX P false [some ((eT D.int) hours), some (D.int hands), some (PV.enc length), some (PV.enc plan), d39, some (D.int i46), some (D.int a57), none, none, none, none, none] (.val (.call 5 [(.sub (.var 3) (.var 6)), (.sub (.var 3) (.var 5))])) x60 [some ((eT D.int) hours), some (D.int hands), some (PV.enc length), some (PV.enc plan), d39, some (D.int i46), some (D.int a57), none, none, none, none, none] := (t_bl (x_call (q_cons (x_sub (x_var PV.enc (a := plan) rfl) (x_var D.int (a := a57) rfl) rfl rfl (s_V h_x58) (mk_p PV.enc _ _)) (q_cons (x_sub (x_var PV.enc (a := plan) rfl) (x_var D.int (a := i46) rfl) rfl rfl (s_V h_x59) (mk_p PV.enc _ _)) q_nil)) rfl rfl (hS__law_clash _ _ _ h_x60) rfl)); rw [hc] at ht; exact stepC_y (e1 := [some ((eT D.int) hours), some (D.int hands), some (PV.enc length), some (PV.enc plan), d39, some (D.int i46), some (D.int a57), none, none, none, none, none]) rfl (t_and1 ht) (x_var D.int (a := a57) rfl) rfl); (have h := sj h; subst h; have ht : TX P false [some ((eT D.int) hours), some (D.int hands), some (PV.enc length), some (PV.enc plan), d39, some (D.int i46), some (D.int a57), none, none, none, none, none] (.val (.call 5 [(.sub (.var 3) (.var 6)), (.sub (.var 3) (.var 5))])) x60 [some ((eT D.int) hours), some (D.int hands), some (PV.enc length), some (PV.enc plan), d39, some (D.int i46), some (D.int a57), none, none, none, none, none] := (t_bl (x_call (q_cons (x_sub (x_var PV.enc (a := plan) rfl) (x_var D.int (a := a57) rfl) rfl rfl (s_V h_x58) (mk_p PV.enc _ _)) (q_cons (x_sub (x_var PV.enc (a := plan) rfl) (x_var D.int (a := i46) rfl) rfl rfl (s_V h_x59) (mk_p PV.enc _ _)) q_nil)) rfl rfl (hS__law_clash _ _ _ h_x60) rfl)); rw [hc] at ht; exact stepC_n (e1 := [some ((eT D.int) hours), some (D.int hands), some (PV.enc length), some (PV.enc plan), d39, some (D.int i46), some (D.int a57), none, none, none, none, none]) rfl (t_and1 ht) rfl))) rfl) (x_cast (d' := (eL D.int) []) (x_lstL PV.enc ([] : List PV) m_nil rfl) rfl) rfl rfl (o_neC (eL D.int) rfl _ _))) hc ?_; have h := sj h; subst h; exact g_end ⟨_, _, rfl, .inl rfl, ⟨_, (by first | with_reducible assumption | with_reducible exact plE_n | with_reducible exact plE_pl | with_reducible exact plE_o | rfl), rfl⟩⟩))) ?_ ?_; (intro s63 e hz hI; subst hz; obtain ⟨d62, hp_d62, rfl⟩ := hI; replace h := sumO_r h; obtain ⟨r65, h_r65, h⟩ := bnd h; obtain ⟨u66, h_u66, h⟩ := bnd h; obtain ⟨y72, h_y72, h⟩ := bnd h; have h := sj h; subst h; exact g_rt (s_rtv (x_op2 (x_compM (f := D.int) (g := D.int) (E0 := [some ((eT D.int) hours), some (D.int hands), some (PV.enc length), some (PV.enc plan), d39, none, none, none, none, none, none, none]) (so_rng1 (q_cons (x_op1 (x_var (eT D.int) (a := hours) rfl) rfl o_lnT) q_nil) h_r65) rfl (szG_le h_u66) h_y72 (fun a67 y h => by (obtain ⟨x68, h_x68, h⟩ := bnd h; obtain ⟨u69, h_u69, h⟩ := bnd h; obtain ⟨x71, h_x71, h⟩ := bnd h; rcases iteo h with ⟨hc, h⟩ | ⟨hc, h⟩; (have h := sj h; subst h; have ht : TX P false [some ((eT D.int) hours), some (D.int hands), some (PV.enc length), some (PV.enc plan), d39, some (D.int a67), none, none, none, none, none, none] (.val (.op (.cmp .NotEq) [(.op .sum [(.comp (.tp [(.nm 8), (.nm 9), (.nm 10), (.nm 11)]) [8, 9, 10, 11] (.it false) [(.var 3)] [(.val (.op (.cmp .Eq) [(.var 11), (.var 5)]))] (.op (.bin .Sub) [(.var 10), (.var 9)]))]), (.sub (.var 0) (.var 5))])) (!decide ((((x68.filter fun a70 => (decide (a70.2.2.2 = a67))).map fun a70 => (a70.2.2.1 - a70.2.1)).sum) = x71)) [some ((eT D.int) hours), some (D.int hands), some (PV.enc length), some (PV.enc plan), d39, some (D.int a67), none, none, none, none, none, none] := (t_bl (x_op2 (x_op1 (x_filt (f := (e4 D.int D.int D.int D.int)) (g := D.int) (F := fun a70 => (a70.2.2.1 - a70.2.1)) (C := fun a70 => (decide (a70.2.2.2 = a67))) (E0 := [some ((eT D.int) hours), some (D.int hands), some (PV.enc length), some (PV.enc plan), d39, some (D.int a67), none, none, none, none, none, none]) (so_it (f := (e4 D.int D.int D.int D.int)) (xs := x68) (q_cons (x_cast (d' := (eT (e4 D.int D.int D.int D.int)) x68) (x_var PV.enc (a := plan) rfl) ((dnT_enc (dn4_enc dnI_enc dnI_enc dnI_enc dnI_enc)) _ _ h_x68)) q_nil) it_T) rfl (szG_le h_u69) (fun a70 => ⟨[some ((eT D.int) hours), some (D.int hands), some (PV.enc length), some (PV.enc plan), d39, some (D.int a67), none, none, some (D.int a70.1), some (D.int a70.2.1), some (D.int a70.2.2.1), some (D.int a70.2.2.2)], rfl, (t_and1 (t_bl (x_op2 (x_var D.int (a := a70.2.2.2) rfl) (x_var D.int (a := a67) rfl) rfl rfl o_eq))), (x_op2 (x_var D.int (a := a70.2.2.1) rfl) (x_var D.int (a := a70.2.1) rfl) rfl rfl o_sub), rfl⟩) rfl) rfl o_sumL) (x_sub (x_var (eT D.int) (a := hours) rfl) (x_var D.int (a := a67) rfl) rfl rfl (s_T h_x71) (mk_p D.int _ _)) rfl rfl o_ne)); rw [hc] at ht; exact stepC_y (e1 := [some ((eT D.int) hours), some (D.int hands), some (PV.enc length), some (PV.enc plan), d39, some (D.int a67), none, none, none, none, none, none]) rfl (t_and1 ht) (x_var D.int (a := a67) rfl) rfl); (have h := sj h; subst h; have ht : TX P false [some ((eT D.int) hours), some (D.int hands), some (PV.enc length), some (PV.enc plan), d39, some (D.int a67), none, none, none, none, none, none] (.val (.op (.cmp .NotEq) [(.op .sum [(.comp (.tp [(.nm 8), (.nm 9), (.nm 10), (.nm 11)]) [8, 9, 10, 11] (.it false) [(.var 3)] [(.val (.op (.cmp .Eq) [(.var 11), (.var 5)]))] (.op (.bin .Sub) [(.var 10), (.var 9)]))]), (.sub (.var 0) (.var 5))])) (!decide ((((x68.filter fun a70 => (decide (a70.2.2.2 = a67))).map fun a70 => (a70.2.2.1 - a70.2.1)).sum) = x71)) [some ((eT D.int) hours), some (D.int hands), some (PV.enc length), some (PV.enc plan), d39, some (D.int a67), none, none, none, none, none, none] := (t_bl (x_op2 (x_op1 (x_filt (f := (e4 D.int D.int D.int D.int)) (g := D.int) (F := fun a70 => (a70.2.2.1 - a70.2.1)) (C := fun a70 => (decide (a70.2.2.2 = a67))) (E0 := [some ((eT D.int) hours), some (D.int hands), some (PV.enc length), some (PV.enc plan), d39, some (D.int a67), none, none, none, none, none, none]) (so_it (f := (e4 D.int D.int D.int D.int)) (xs := x68) (q_cons (x_cast (d' := (eT (e4 D.int D.int D.int D.int)) x68) (x_var PV.enc (a := plan) rfl) ((dnT_enc (dn4_enc dnI_enc dnI_enc dnI_enc dnI_enc)) _ _ h_x68)) q_nil) it_T) rfl (szG_le h_u69) (fun a70 => ⟨[some ((eT D.int) hours), some (D.int hands), some (PV.enc length), some (PV.enc plan), d39, some (D.int a67), none, none, some (D.int a70.1), some (D.int a70.2.1), some (D.int a70.2.2.1), some (D.int a70.2.2.2)], rfl, (t_and1 (t_bl (x_op2 (x_var D.int (a := a70.2.2.2) rfl) (x_var D.int (a := a67) rfl) rfl rfl o_eq))), (x_op2 (x_var D.int (a := a70.2.2.1) rfl) (x_var D.int (a := a70.2.1) rfl) rfl rfl o_sub), rfl⟩) rfl) rfl o_sumL) (x_sub (x_var (eT D.int) (a := hours) rfl) (x_var D.int (a := a67) rfl) rfl rfl (s_T h_x71) (mk_p D.int _ _)) rfl rfl o_ne)); rw [hc] at ht; exact stepC_n (e1 := [some ((eT D.int) hours), some (D.int hands), some (PV.enc length), some (PV.enc plan), d39, some (D.int a67), none, none, none, none, none, none]) rfl (t_and1 ht) rfl))) (show _ = [some ((eT D.int) hours), some (D.int hands), some (PV.enc length), some (PV.enc plan), d39, d62, none, none, none, none, none, none] from (by show [some ((eT D.int) hours), some (D.int hands), some (PV.enc length), some (PV.enc plan), d39, (plE (d62)), none, none, none, none, none, none] = [some ((eT D.int) hours), some (D.int hands), some (PV.enc length), some (PV.enc plan), d39, d62, none, none, none, none, none, none]; rw [hp_d62]))) (x_cast (d' := (eL D.int) []) (x_lstL PV.enc ([] : List PV) m_nil rfl) rfl) rfl rfl (o_eqC (eL D.int) rfl _ _))) ⟨_, _, rfl, .inl rfl, (bk_p (Pl.pl (f := (eT D.int)) _) (bk_p (Pl.pl (f := D.int) _) (bk_p (Pl.pl (f := PV.enc) _) (bk_p (Pl.pl (f := PV.enc) _) bk_nil))))⟩); (intro q d e hz hR; subst hz; obtain ⟨rfl, d47, d48, d49, d50, d51, d52, d53, d54, rfl⟩ := hR; replace h := sumO_l h; have h := sj h; subst h; exact ⟨_, _, rfl, .inl rfl, (bk_p (Pl.pl (f := (eT D.int)) _) (bk_p (Pl.pl (f := D.int) _) (bk_p (Pl.pl (f := PV.enc) _) (bk_p (Pl.pl (f := PV.enc) _) bk_nil))))⟩)); (intro q d e hz hR; subst hz; obtain ⟨rfl, d12, d13, d14, d15, d16, d17, d18, d19, rfl⟩ := hR; replace h := sumO_l h; have h := sj h; subst h; exact ⟨_, _, rfl, .inl rfl, (bk_p (Pl.pl (f := (eT D.int)) _) (bk_p (Pl.pl (f := D.int) _) (bk_p (Pl.pl (f := PV.enc) _) (bk_p (Pl.pl (f := PV.enc) _) bk_nil))))⟩))

theorem b_is_number (P : Ctx)  (thing : PV) (r : Bool) (h : is_number thing = some r) : runF P Pg.f7 [PV.enc thing] = some (D.bl r, [PV.enc thing]) := by
  unfold is_number at h
  refine run_G rfl ?_
  show RetG _ _ _ _ (evSs P _ [some (PV.enc thing)])
  have h := sj h
  subst h
  exact g_rt (s_rtv (x_and (x_andT (x_op1 (x_var PV.enc (a := thing) rfl) rfl o_isiI) (x_and1 (x_not (x_op1 (x_var PV.enc (a := thing) rfl) rfl o_isiB) rfl rfl))))) ⟨_, _, rfl, .inl rfl, (bk_p (Pl.pl (f := PV.enc) _) bk_nil)⟩

theorem b_is_piece (P : Ctx) (hS_is_number : S_is_number P) (piece : PV) (many : Int) (hands : Int) (length : Int) (r : Bool) (h : is_piece piece many hands length = some r) : runF P Pg.f8 [PV.enc piece, D.int many, D.int hands, D.int length] = some (D.bl r, [PV.enc piece, D.int many, D.int hands, D.int length]) := by
  unfold is_piece at h
  refine run_G rfl ?_
  show RetG _ _ _ _ (evSs P _ [some (PV.enc piece), some (D.int many), some (D.int hands), some (D.int length), none])
  obtain ⟨t7, h_t7, h⟩ := bnd h
  rcases iteo h with ⟨hc, h⟩ | ⟨hc, h⟩
  (refine g_iteT (show TX P false _ (.or [(.not (.val (.op (.isi .tuple) [(.var 0)]))), (.val (.op (.cmp .NotEq) [(.op .len [(.var 0)]), (.int 4)])), (.not (.val (.op .all [(.comp (.nm 4) [4] (.it false) [(.var 0)] [] (.call 7 [(.var 4)]))])))]) t7 [some (PV.enc piece), some (D.int many), some (D.int hands), some (D.int length), none] from (t_or (t_orC (t_not (t_bl (x_op1 (x_var PV.enc (a := piece) rfl) rfl o_isiT))) (fun hc => by (have h := itF hc h_t7; obtain ⟨x1, h_x1, h⟩ := bnd h; exact (t_orC (t_bl (x_op2 (x_op1 (x_var PV.enc (a := piece) rfl) rfl (o_lnV h_x1)) x_int rfl rfl o_ne)) (fun hc => by (have h := itF hc h; obtain ⟨q2, h_q2, h⟩ := bnd h; obtain ⟨u3, h_u3, h⟩ := bnd h; obtain ⟨y6, h_y6, h⟩ := bnd h; have h := sj h; subst h; exact (t_or1 (t_not (t_bl (x_op1 (x_mapO (f := PV.enc) (g := D.bl) (E0 := [some (PV.enc piece), some (D.int many), some (D.int hands), some (D.int length), none]) (so_it (f := PV.enc) (q_cons (x_var PV.enc (a := piece) rfl) q_nil) (asQ_items h_q2)) rfl (szG_le h_u3) h_y6 (fun a4 y h => by (obtain ⟨x5, h_x5, h⟩ := bnde h; have h := sj h; subst h; exact ⟨[some (PV.enc piece), some (D.int many), some (D.int hands), some (D.int length), some (PV.enc a4)], _, rfl, (x_call (q_cons (x_var PV.enc (a := a4) rfl) q_nil) rfl rfl (hS_is_number _ _ h_x5) rfl), rfl⟩)) rfl) rfl o_allL)))))) (fun hc => by (have h := itT hc h; cases h; exact ⟨rfl, rfl⟩))))) (fun hc => by (have h := itT hc h_t7; cases h; exact ⟨rfl, rfl⟩))))) hc ?_; have h := sj h; subst h; exact g_rt (s_rtv x_bl) ⟨_, _, rfl, .inl rfl, (bk_p (Pl.pl (f := PV.enc) _) (bk_p (Pl.pl (f := D.int) _) (bk_p (Pl.pl (f := D.int) _) (bk_p (Pl.pl (f := D.int) _) bk_nil))))⟩)
  (refine g_iteF (show TX P false _ (.or [(.not (.val (.op (.isi .tuple) [(.var 0)]))), (.val (.op (.cmp .NotEq) [(.op .len [(.var 0)]), (.int 4)])), (.not (.val (.op .all [(.comp (.nm 4) [4] (.it false) [(.var 0)] [] (.call 7 [(.var 4)]))])))]) t7 [some (PV.enc piece), some (D.int many), some (D.int hands), some (D.int length), none] from (t_or (t_orC (t_not (t_bl (x_op1 (x_var PV.enc (a := piece) rfl) rfl o_isiT))) (fun hc => by (have h := itF hc h_t7; obtain ⟨x1, h_x1, h⟩ := bnd h; exact (t_orC (t_bl (x_op2 (x_op1 (x_var PV.enc (a := piece) rfl) rfl (o_lnV h_x1)) x_int rfl rfl o_ne)) (fun hc => by (have h := itF hc h; obtain ⟨q2, h_q2, h⟩ := bnd h; obtain ⟨u3, h_u3, h⟩ := bnd h; obtain ⟨y6, h_y6, h⟩ := bnd h; have h := sj h; subst h; exact (t_or1 (t_not (t_bl (x_op1 (x_mapO (f := PV.enc) (g := D.bl) (E0 := [some (PV.enc piece), some (D.int many), some (D.int hands), some (D.int length), none]) (so_it (f := PV.enc) (q_cons (x_var PV.enc (a := piece) rfl) q_nil) (asQ_items h_q2)) rfl (szG_le h_u3) h_y6 (fun a4 y h => by (obtain ⟨x5, h_x5, h⟩ := bnde h; have h := sj h; subst h; exact ⟨[some (PV.enc piece), some (D.int many), some (D.int hands), some (D.int length), some (PV.enc a4)], _, rfl, (x_call (q_cons (x_var PV.enc (a := a4) rfl) q_nil) rfl rfl (hS_is_number _ _ h_x5) rfl), rfl⟩)) rfl) rfl o_allL)))))) (fun hc => by (have h := itT hc h; cases h; exact ⟨rfl, rfl⟩))))) (fun hc => by (have h := itT hc h_t7; cases h; exact ⟨rfl, rfl⟩))))) hc ?_; obtain ⟨x8, h_x8, h⟩ := bnd h; obtain ⟨x9, h_x9, h⟩ := bnd h; obtain ⟨t17, h_t17, h⟩ := bnde h; have h := sj h; subst h; exact g_rt (s_rtv (show AX P false _ (.and [(.cmp2 .LtE .Lt (.int 0) (.sub (.var 0) (.int 0)) (.var 2)), (.cmp3 .LtE .Lt .LtE (.int 0) (.sub (.var 0) (.int 1)) (.sub (.var 0) (.int 2)) (.var 3)), (.cmp2 .LtE .Lt (.int 0) (.sub (.var 0) (.int 3)) (.var 1))]) (.tmp (.bl t17)) [some (PV.enc piece), some (D.int many), some (D.int hands), some (D.int length), none] from (x_and (x_andC (x_cmp2 x_int (x_cast (d' := D.int x9) (x_sub (x_var PV.enc (a := piece) rfl) x_int rfl rfl (s_V h_x8) (mk_p PV.enc _ _)) (asI_enc h_x9)) rfl (x_var D.int (a := hands) rfl) rfl) (fun hc => by (have h := itT hc h_t17; obtain ⟨x10, h_x10, h⟩ := bnd h; obtain ⟨x11, h_x11, h⟩ := bnd h; obtain ⟨v14, h_v14, h⟩ := bnd h; exact (x_andC (show AX P false _ (.cmp3 .LtE .Lt .LtE (.int 0) (.sub (.var 0) (.int 1)) (.sub (.var 0) (.int 2)) (.var 3)) (.tmp (.bl v14)) _ from (x_cmp3P x_int (x_cast (d' := D.int x11) (x_sub (x_var PV.enc (a := piece) rfl) x_int rfl rfl (s_V h_x10) (mk_p PV.enc _ _)) (asI_enc h_x11)) rfl (fun hc => by (have h := itT hc h_v14; obtain ⟨x12, h_x12, h⟩ := bnd h; obtain ⟨x13, h_x13, h⟩ := bnd h; exact ⟨_, _, (x_cast (d' := D.int x13) (x_sub (x_var PV.enc (a := piece) rfl) x_int rfl rfl (s_V h_x12) (mk_p PV.enc _ _)) (asI_enc h_x13)), rfl, (fun hc => by (have h := itT hc h; have h := sj h; subst h; exact ⟨_, (x_var D.int (a := length) rfl), rfl⟩)), (fun hc => by (have h := itF hc h; exact (sj h).symm))⟩)) (fun hc => by (have h := itF hc h_v14; exact (sj h).symm)))) (fun hc => by (have h := itT hc h; obtain ⟨x15, h_x15, h⟩ := bnd h; obtain ⟨x16, h_x16, h⟩ := bnd h; have h := sj h; subst h; exact (x_and1 (x_cmp2 x_int (x_cast (d' := D.int x16) (x_sub (x_var PV.enc (a := piece) rfl) x_int rfl rfl (s_V h_x15) (mk_p PV.enc _ _)) (asI_enc h_x16)) rfl (x_var D.int (a := many) rfl) rfl)))) (fun hc => by (have h := itF hc h; cases h; exact ⟨rfl, rfl⟩))))) (fun hc => by (have h := itF hc h_t17; cases h; exact ⟨rfl, rfl⟩)))))) ⟨_, _, rfl, .inl rfl, (bk_p (Pl.pl (f := PV.enc) _) (bk_p (Pl.pl (f := D.int) _) (bk_p (Pl.pl (f := D.int) _) (bk_p (Pl.pl (f := D.int) _) bk_nil))))⟩)

theorem b_do_meet (P : Ctx)  (one : PV) (other : PV) (r : Bool) (h : do_meet one other = some r) : runF P Pg.f9 [PV.enc one, PV.enc other] = some (D.bl r, [PV.enc one, PV.enc other]) := by
  unfold do_meet at h
  refine run_G rfl ?_
  show RetG _ _ _ _ (evSs P _ [some (PV.enc one), some (PV.enc other)])
  obtain ⟨x1, h_x1, h⟩ := bnd h
  obtain ⟨x2, h_x2, h⟩ := bnd h
  obtain ⟨x3, h_x3, h⟩ := bnd h
  obtain ⟨t7, h_t7, h⟩ := bnd h
  rcases iteo h with ⟨hc, h⟩ | ⟨hc, h⟩
  (refine g_iteT (show TX P false _ (.and [(.val (.op (.cmp .NotEq) [(.sub (.var 0) (.int 0)), (.sub (.var 1) (.int 0))])), (.val (.op (.cmp .NotEq) [(.sub (.var 0) (.int 3)), (.sub (.var 1) (.int 3))]))]) t7 [some (PV.enc one), some (PV.enc other)] from (t_and (t_andC (t_bl (x_op2 (x_sub (x_var PV.enc (a := one) rfl) x_int rfl rfl (s_V h_x1) (mk_p PV.enc _ _)) (x_sub (x_var PV.enc (a := other) rfl) x_int rfl rfl (s_V h_x2) (mk_p PV.enc _ _)) rfl rfl (o_neG h_x3))) (fun hc => by (have h := itT hc h_t7; obtain ⟨x4, h_x4, h⟩ := bnd h; obtain ⟨x5, h_x5, h⟩ := bnd h; obtain ⟨x6, h_x6, h⟩ := bnd h; have h := sj h; subst h; exact (t_and1 (t_bl (x_op2 (x_sub (x_var PV.enc (a := one) rfl) x_int rfl rfl (s_V h_x4) (mk_p PV.enc _ _)) (x_sub (x_var PV.enc (a := other) rfl) x_int rfl rfl (s_V h_x5) (mk_p PV.enc _ _)) rfl rfl (o_neG h_x6)))))) (fun hc => by (have h := itF hc h_t7; cases h; exact ⟨rfl, rfl⟩))))) hc ?_; have h := sj h; subst h; exact g_rt (s_rtv x_bl) ⟨_, _, rfl, .inl rfl, (bk_p (Pl.pl (f := PV.enc) _) (bk_p (Pl.pl (f := PV.enc) _) bk_nil))⟩)
  (refine g_iteF (show TX P false _ (.and [(.val (.op (.cmp .NotEq) [(.sub (.var 0) (.int 0)), (.sub (.var 1) (.int 0))])), (.val (.op (.cmp .NotEq) [(.sub (.var 0) (.int 3)), (.sub (.var 1) (.int 3))]))]) t7 [some (PV.enc one), some (PV.enc other)] from (t_and (t_andC (t_bl (x_op2 (x_sub (x_var PV.enc (a := one) rfl) x_int rfl rfl (s_V h_x1) (mk_p PV.enc _ _)) (x_sub (x_var PV.enc (a := other) rfl) x_int rfl rfl (s_V h_x2) (mk_p PV.enc _ _)) rfl rfl (o_neG h_x3))) (fun hc => by (have h := itT hc h_t7; obtain ⟨x4, h_x4, h⟩ := bnd h; obtain ⟨x5, h_x5, h⟩ := bnd h; obtain ⟨x6, h_x6, h⟩ := bnd h; have h := sj h; subst h; exact (t_and1 (t_bl (x_op2 (x_sub (x_var PV.enc (a := one) rfl) x_int rfl rfl (s_V h_x4) (mk_p PV.enc _ _)) (x_sub (x_var PV.enc (a := other) rfl) x_int rfl rfl (s_V h_x5) (mk_p PV.enc _ _)) rfl rfl (o_neG h_x6)))))) (fun hc => by (have h := itF hc h_t7; cases h; exact ⟨rfl, rfl⟩))))) hc ?_; obtain ⟨x8, h_x8, h⟩ := bnd h; obtain ⟨x9, h_x9, h⟩ := bnd h; obtain ⟨x10, h_x10, h⟩ := bnd h; obtain ⟨x11, h_x11, h⟩ := bnd h; obtain ⟨t16, h_t16, h⟩ := bnde h; have h := sj h; subst h; exact g_rt (s_rtv (show AX P false _ (.and [(.op (.cmp .Lt) [(.sub (.var 0) (.int 1)), (.sub (.var 1) (.int 2))]), (.op (.cmp .Lt) [(.sub (.var 1) (.int 1)), (.sub (.var 0) (.int 2))])]) (.tmp (.bl t16)) [some (PV.enc one), some (PV.enc other)] from (x_and (x_andC (x_op2 (x_cast (d' := D.int x10) (x_sub (x_var PV.enc (a := one) rfl) x_int rfl rfl (s_V h_x8) (mk_p PV.enc _ _)) (asI_enc h_x10)) (x_cast (d' := D.int x11) (x_sub (x_var PV.enc (a := other) rfl) x_int rfl rfl (s_V h_x9) (mk_p PV.enc _ _)) (asI_enc h_x11)) rfl rfl o_lt) (fun hc => by (have h := itT hc h_t16; obtain ⟨x12, h_x12, h⟩ := bnd h; obtain ⟨x13, h_x13, h⟩ := bnd h; obtain ⟨x14, h_x14, h⟩ := bnd h; obtain ⟨x15, h_x15, h⟩ := bnd h; have h := sj h; subst h; exact (x_and1 (x_op2 (x_cast (d' := D.int x14) (x_sub (x_var PV.enc (a := other) rfl) x_int rfl rfl (s_V h_x12) (mk_p PV.enc _ _)) (asI_enc h_x14)) (x_cast (d' := D.int x15) (x_sub (x_var PV.enc (a := one) rfl) x_int rfl rfl (s_V h_x13) (mk_p PV.enc _ _)) (asI_enc h_x15)) rfl rfl o_lt)))) (fun hc => by (have h := itF hc h_t16; cases h; exact ⟨rfl, rfl⟩)))))) ⟨_, _, rfl, .inl rfl, (bk_p (Pl.pl (f := PV.enc) _) (bk_p (Pl.pl (f := PV.enc) _) bk_nil))⟩)

theorem b_is_side_by_side (P : Ctx) (hS_is_number : S_is_number P) (hS_is_piece : S_is_piece P) (hS_do_meet : S_do_meet P) (hours : (List Int)) (hands : Int) (length : PV) (plan : PV) (r : Bool) (h : is_side_by_side hours hands length plan = some r) : runF P Pg.f10 [(eT D.int) hours, D.int hands, PV.enc length, PV.enc plan] = some (D.bl r, [(eT D.int) hours, D.int hands, PV.enc length, PV.enc plan]) := by
  unfold is_side_by_side at h
  refine run_G rfl ?_
  show RetG _ _ _ _ (evSs P _ [some ((eT D.int) hours), some (D.int hands), some (PV.enc length), some (PV.enc plan), none, none, none, none, none])
  obtain ⟨x1, h_x1, h⟩ := bnd h
  obtain ⟨x2, h_x2, h⟩ := bnd h
  obtain ⟨x3, h_x3, h⟩ := bnd h
  obtain ⟨x4, h_x4, h⟩ := bnd h
  obtain ⟨x5, h_x5, h⟩ := bnd h
  obtain ⟨t7, h_t7, h⟩ := bnd h
  rcases iteo h with ⟨hc, h⟩ | ⟨hc, h⟩
  (refine g_iteT (show TX P false _ (.or [(.val (.op (.cmp .NotEq) [(.var 2), (.op .max [(.op (.bin .Add) [(.op (.bin .Add) [(.lst [(.int 0)]), (.op .list [(.var 0)])]), (.lst [(.op .neg [(.op (.bin .FloorDiv) [(.op .neg [(.op .sum [(.var 0)])]), (.var 1)])])])])])])), (.not (.val (.call 7 [(.var 2)])))]) t7 [some ((eT D.int) hours), some (D.int hands), some (PV.enc length), some (PV.enc plan), none, none, none, none, none] from (t_or (t_orC (t_bl (x_op2 (x_var PV.enc (a := length) rfl) (x_op1 (x_op2 (x_op2 (x_lstL D.int ([0] : List Int) (m_cons x_int m_nil) rfl) (x_op1 (x_var (eT D.int) (a := hours) rfl) rfl (o_lstT D.int)) rfl rfl (o_catL D.int h_x1)) (x_lstL D.int ([(-x2)] : List Int) (m_cons (x_op1 (x_op2 (x_op1 (x_op1 (x_var (eT D.int) (a := hours) rfl) rfl o_sumT) rfl o_neg) (x_var D.int (a := hands) rfl) rfl rfl (o_divG h_x2)) rfl o_neg) m_nil) rfl) rfl rfl (o_catL D.int h_x3)) rfl (o_maxL h_x4)) rfl rfl (o_neG h_x5))) (fun hc => by (have h := itF hc h_t7; obtain ⟨x6, h_x6, h⟩ := bnd h; have h := sj h; subst h; exact (t_or1 (t_not (t_bl (x_call (q_cons (x_var PV.enc (a := length) rfl) q_nil) rfl rfl (hS_is_number _ _ h_x6) rfl)))))) (fun hc => by (have h := itT hc h_t7; cases h; exact ⟨rfl, rfl⟩))))) hc ?_; have h := sj h; subst h; exact g_rt (s_rtv x_bl) ⟨_, _, rfl, .inl rfl, (bk_p (Pl.pl (f := (eT D.int)) _) (bk_p (Pl.pl (f := D.int) _) (bk_p (Pl.pl (f := PV.enc) _) (bk_p (Pl.pl (f := PV.enc) _) bk_nil))))⟩)
  (refine g_iteF (show TX P false _ (.or [(.val (.op (.cmp .NotEq) [(.var 2), (.op .max [(.op (.bin .Add) [(.op (.bin .Add) [(.lst [(.int 0)]), (.op .list [(.var 0)])]), (.lst [(.op .neg [(.op (.bin .FloorDiv) [(.op .neg [(.op .sum [(.var 0)])]), (.var 1)])])])])])])), (.not (.val (.call 7 [(.var 2)])))]) t7 [some ((eT D.int) hours), some (D.int hands), some (PV.enc length), some (PV.enc plan), none, none, none, none, none] from (t_or (t_orC (t_bl (x_op2 (x_var PV.enc (a := length) rfl) (x_op1 (x_op2 (x_op2 (x_lstL D.int ([0] : List Int) (m_cons x_int m_nil) rfl) (x_op1 (x_var (eT D.int) (a := hours) rfl) rfl (o_lstT D.int)) rfl rfl (o_catL D.int h_x1)) (x_lstL D.int ([(-x2)] : List Int) (m_cons (x_op1 (x_op2 (x_op1 (x_op1 (x_var (eT D.int) (a := hours) rfl) rfl o_sumT) rfl o_neg) (x_var D.int (a := hands) rfl) rfl rfl (o_divG h_x2)) rfl o_neg) m_nil) rfl) rfl rfl (o_catL D.int h_x3)) rfl (o_maxL h_x4)) rfl rfl (o_neG h_x5))) (fun hc => by (have h := itF hc h_t7; obtain ⟨x6, h_x6, h⟩ := bnd h; have h := sj h; subst h; exact (t_or1 (t_not (t_bl (x_call (q_cons (x_var PV.enc (a := length) rfl) q_nil) rfl rfl (hS_is_number _ _ h_x6) rfl)))))) (fun hc => by (have h := itT hc h_t7; cases h; exact ⟨rfl, rfl⟩))))) hc ?_; obtain ⟨t14, h_t14, h⟩ := bnd h; rcases iteo h with ⟨hc, h⟩ | ⟨hc, h⟩; (refine g_iteT (show TX P false _ (.or [(.not (.val (.op (.isi .tuple) [(.var 3)]))), (.not (.val (.op .all [(.comp (.nm 7) [7] (.it false) [(.var 3)] [] (.call 8 [(.var 7), (.op .len [(.var 0)]), (.var 1), (.var 2)]))])))]) t14 [some ((eT D.int) hours), some (D.int hands), some (PV.enc length), some (PV.enc plan), none, none, none, none, none] from (t_or (t_orC (t_not (t_bl (x_op1 (x_var PV.enc (a := plan) rfl) rfl o_isiT))) (fun hc => by (have h := itF hc h_t14; obtain ⟨q8, h_q8, h⟩ := bnd h; obtain ⟨u9, h_u9, h⟩ := bnd h; obtain ⟨y13, h_y13, h⟩ := bnd h; have h := sj h; subst h; exact (t_or1 (t_not (t_bl (x_op1 (x_mapO (f := PV.enc) (g := D.bl) (E0 := [some ((eT D.int) hours), some (D.int hands), some (PV.enc length), some (PV.enc plan), none, none, none, none, none]) (so_it (f := PV.enc) (q_cons (x_var PV.enc (a := plan) rfl) q_nil) (asQ_items h_q8)) rfl (szG_le h_u9) h_y13 (fun a10 y h => by (obtain ⟨x11, h_x11, h⟩ := bnd h; obtain ⟨x12, h_x12, h⟩ := bnde h; have h := sj h; subst h; exact ⟨[some ((eT D.int) hours), some (D.int hands), some (PV.enc length), some (PV.enc plan), none, none, none, some (PV.enc a10), none], _, rfl, (x_call (q_cons (x_var PV.enc (a := a10) rfl) (q_cons (x_op1 (x_var (eT D.int) (a := hours) rfl) rfl o_lnT) (q_cons (x_var D.int (a := hands) rfl) (q_cons (x_cast (d' := D.int x11) (x_var PV.enc (a := length) rfl) (asI_enc h_x11)) q_nil)))) rfl rfl (hS_is_piece _ _ _ _ _ h_x12) rfl), rfl⟩)) rfl) rfl o_allL)))))) (fun hc => by (have h := itT hc h_t14; cases h; exact ⟨rfl, rfl⟩))))) hc ?_; have h := sj h; subst h; exact g_rt (s_rtv x_bl) ⟨_, _, rfl, .inl rfl, (bk_p (Pl.pl (f := (eT D.int)) _) (bk_p (Pl.pl (f := D.int) _) (bk_p (Pl.pl (f := PV.enc) _) (bk_p (Pl.pl (f := PV.enc) _) bk_nil))))⟩); (refine g_iteF (show TX P false _ (.or [(.not (.val (.op (.isi .tuple) [(.var 3)]))), (.not (.val (.op .all [(.comp (.nm 7) [7] (.it false) [(.var 3)] [] (.call 8 [(.var 7), (.op .len [(.var 0)]), (.var 1), (.var 2)]))])))]) t14 [some ((eT D.int) hours), some (D.int hands), some (PV.enc length), some (PV.enc plan), none, none, none, none, none] from (t_or (t_orC (t_not (t_bl (x_op1 (x_var PV.enc (a := plan) rfl) rfl o_isiT))) (fun hc => by (have h := itF hc h_t14; obtain ⟨q8, h_q8, h⟩ := bnd h; obtain ⟨u9, h_u9, h⟩ := bnd h; obtain ⟨y13, h_y13, h⟩ := bnd h; have h := sj h; subst h; exact (t_or1 (t_not (t_bl (x_op1 (x_mapO (f := PV.enc) (g := D.bl) (E0 := [some ((eT D.int) hours), some (D.int hands), some (PV.enc length), some (PV.enc plan), none, none, none, none, none]) (so_it (f := PV.enc) (q_cons (x_var PV.enc (a := plan) rfl) q_nil) (asQ_items h_q8)) rfl (szG_le h_u9) h_y13 (fun a10 y h => by (obtain ⟨x11, h_x11, h⟩ := bnd h; obtain ⟨x12, h_x12, h⟩ := bnde h; have h := sj h; subst h; exact ⟨[some ((eT D.int) hours), some (D.int hands), some (PV.enc length), some (PV.enc plan), none, none, none, some (PV.enc a10), none], _, rfl, (x_call (q_cons (x_var PV.enc (a := a10) rfl) (q_cons (x_op1 (x_var (eT D.int) (a := hours) rfl) rfl o_lnT) (q_cons (x_var D.int (a := hands) rfl) (q_cons (x_cast (d' := D.int x11) (x_var PV.enc (a := length) rfl) (asI_enc h_x11)) q_nil)))) rfl rfl (hS_is_piece _ _ _ _ _ h_x12) rfl), rfl⟩)) rfl) rfl o_allL)))))) (fun hc => by (have h := itT hc h_t14; cases h; exact ⟨rfl, rfl⟩))))) hc ?_; obtain ⟨x15, h_x15, h⟩ := bnd h; obtain ⟨r16, h_r16, h⟩ := bnd h; obtain ⟨z35, h_z35, h⟩ := bnd h; refine g_forC (f := D.int) (fun (s17 : Unit) e => ∃ (d18 : Option D), e = [some ((eT D.int) hours), some (D.int hands), some (PV.enc length), some (PV.enc plan), d18, none, none, none, none]) (fun (q : Bool) d e => d = D.bl q ∧ ∃ (d20 d21 d22 d23 d24 : Option D), e = [some ((eT D.int) hours), some (D.int hands), some (PV.enc length), some (PV.enc plan), d20, d21, d22, d23, d24]) (fo_rng1 (q_cons (x_op1 (x_var PV.enc (a := plan) rfl) rfl (o_lnV h_x15)) q_nil) h_r16) ⟨_, rfl⟩ h_z35 (fun i19 s17 c e he h => by (obtain ⟨d18, rfl⟩ := he; refine g_bind (e1 := [some ((eT D.int) hours), some (D.int hands), some (PV.enc length), some (PV.enc plan), some (D.int i19), none, none, none, none]) rfl ?_; obtain ⟨x25, h_x25, h⟩ := bnd h; obtain ⟨r26, h_r26, h⟩ := bnd h; obtain ⟨u27, h_u27, h⟩ := bnd h; obtain ⟨y32, h_y32, h⟩ := bnd h; rcases iteo h with ⟨hc, h⟩ | ⟨hc, h⟩; (refine g_iteT (t_bl (x_op2 (x_compM (f := D.int) (g := D.int) (E0 := [some ((eT D.int) hours), some (D.int hands), some (PV.enc length), some (PV.enc plan), some (D.int i19), none, none, none, none]) (so_rng2 (q_cons (x_op2 (x_var D.int (a := i19) rfl) x_int rfl rfl o_add) (q_cons (x_op1 (x_var PV.enc (a := plan) rfl) rfl (o_lnV h_x25)) q_nil)) h_r26) rfl (szG_le h_u27) h_y32 (fun a28 y h => by (obtain ⟨x29, h_x29, h⟩ := bnd h; obtain ⟨x30, h_x30, h⟩ := bnd h; obtain ⟨x31, h_x31, h⟩ := bnd h; rcases iteo h with ⟨hc, h⟩ | ⟨hc, h⟩; (have h := sj h; subst h; have ht : TX P false [some ((eT D.int) hours), some (D.int hands), some (PV.enc length), some (PV.enc plan), some (D.int i19), none, some (D.int a28), none, none] (.val (.call 9 [(.sub (.var 3) (.var 4)), (.sub (.var 3) (.var 6))])) x31 [some ((eT D.int) hours), some (D.int hands), some (PV.enc length), some (PV.enc plan), some (D.int i19), none, some (D.int a28), none, none] := (t_bl (x_call (q_cons (x_sub (x_var PV.enc (a := plan) rfl) (x_var D.int (a := i19) rfl) rfl rfl (s_V h_x29) (mk_p PV.enc _ _)) (q_cons (x_sub (x_var PV.enc (a := plan) rfl) (x_var D.int (a := a28) rfl) rfl rfl (s_V h_x30) (mk_p PV.enc _ _)) q_nil)) rfl rfl (hS_do_meet _ _ _ h_x31) rfl)); rw [hc] at ht; exact stepC_y (e1 := [some ((eT D.int) hours), some (D.int hands), some (PV.enc length), some (PV.enc plan), some (D.int i19), none, some (D.int a28), none, none]) rfl (t_and1 ht) (x_var D.int (a := a28) rfl) rfl); (have h := sj h; subst h; have ht : TX P false [some ((eT D.int) hours), some (D.int hands), some (PV.enc length), some (PV.enc plan), some (D.int i19), none, some (D.int a28), none, none] (.val (.call 9 [(.sub (.var 3) (.var 4)), (.sub (.var 3) (.var 6))])) x31 [some ((eT D.int) hours), some (D.int hands), some (PV.enc length), some (PV.enc plan), some (D.int i19), none, some (D.int a28), none, none] := (t_bl (x_call (q_cons (x_sub (x_var PV.enc (a := plan) rfl) (x_var D.int (a := i19) rfl) rfl rfl (s_V h_x29) (mk_p PV.enc _ _)) (q_cons (x_sub (x_var PV.enc (a := plan) rfl) (x_var D.int (a := a28) rfl) rfl rfl (s_V h_x30) (mk_p PV.enc _ _)) q_nil)) rfl rfl (hS_do_meet _ _ _ h_x31) rfl)); rw [hc] at ht; exact stepC_n (e1 := [some ((eT D.int) hours), some (D.int hands), some (PV.enc length), some (PV.enc plan), some (D.int i19), none, some (D.int a28), none, none]) rfl (t_and1 ht) rfl))) rfl) (x_cast (d' := (eL D.int) []) (x_lstL PV.enc ([] : List PV) m_nil rfl) rfl) rfl rfl (o_neC (eL D.int) rfl _ _))) hc ?_; have h := sj h; subst h; exact g_rt (s_rtv x_bl) ⟨_, _, rfl, rfl, _, _, _, _, _, rfl⟩); (refine g_iteF (t_bl (x_op2 (x_compM (f := D.int) (g := D.int) (E0 := [some ((eT D.int) hours), some (D.int hands), some (PV.enc length), some (PV.enc plan), some (D.int i19), none, none, none, none]) (so_rng2 (q_cons (x_op2 (x_var D.int (a := i19) rfl) x_int rfl rfl o_add) (q_cons (x_op1 (x_var PV.enc (a := plan) rfl) rfl (o_lnV h_x25)) q_nil)) h_r26) rfl (szG_le h_u27) h_y32 (fun a28 y h => by (obtain ⟨x29, h_x29, h⟩ := bnd h; obtain ⟨x30, h_x30, h⟩ := bnd h; obtain ⟨x31, h_x31, h⟩ := bnd h; rcases iteo h with ⟨hc, h⟩ | ⟨hc, h⟩; (have h := sj h; subst h; have ht : TX P false [some ((eT D.int) hours), some (D.int hands), some (PV.enc length), some (PV.enc plan), some (D.int i19), none, some (D.int a28), none, none] (.val (.call 9 [(.sub (.var 3) (.var 4)), (.sub (.var 3) (.var 6))])) x31 [some ((eT D.int) hours), some (D.int hands), some (PV.enc length), some (PV.enc plan), some (D.int i19), none, some (D.int a28), none, none] := (t_bl (x_call (q_cons (x_sub (x_var PV.enc (a := plan) rfl) (x_var D.int (a := i19) rfl) rfl rfl (s_V h_x29) (mk_p PV.enc _ _)) (q_cons (x_sub (x_var PV.enc (a := plan) rfl) (x_var D.int (a := a28) rfl) rfl rfl (s_V h_x30) (mk_p PV.enc _ _)) q_nil)) rfl rfl (hS_do_meet _ _ _ h_x31) rfl)); rw [hc] at ht; exact stepC_y (e1 := [some ((eT D.int) hours), some (D.int hands), some (PV.enc length), some (PV.enc plan), some (D.int i19), none, some (D.int a28), none, none]) rfl (t_and1 ht) (x_var D.int (a := a28) rfl) rfl); (have h := sj h; subst h; have ht : TX P false [some ((eT D.int) hours), some (D.int hands), some (PV.enc length), some (PV.enc plan), some (D.int i19), none, some (D.int a28), none, none] (.val (.call 9 [(.sub (.var 3) (.var 4)), (.sub (.var 3) (.var 6))])) x31 [some ((eT D.int) hours), some (D.int hands), some (PV.enc length), some (PV.enc plan), some (D.int i19), none, some (D.int a28), none, none] := (t_bl (x_call (q_cons (x_sub (x_var PV.enc (a := plan) rfl) (x_var D.int (a := i19) rfl) rfl rfl (s_V h_x29) (mk_p PV.enc _ _)) (q_cons (x_sub (x_var PV.enc (a := plan) rfl) (x_var D.int (a := a28) rfl) rfl rfl (s_V h_x30) (mk_p PV.enc _ _)) q_nil)) rfl rfl (hS_do_meet _ _ _ h_x31) rfl)); rw [hc] at ht; exact stepC_n (e1 := [some ((eT D.int) hours), some (D.int hands), some (PV.enc length), some (PV.enc plan), some (D.int i19), none, some (D.int a28), none, none]) rfl (t_and1 ht) rfl))) rfl) (x_cast (d' := (eL D.int) []) (x_lstL PV.enc ([] : List PV) m_nil rfl) rfl) rfl rfl (o_neC (eL D.int) rfl _ _))) hc ?_; have h := sj h; subst h; exact g_end ⟨_, _, rfl, .inl rfl, ⟨_, rfl⟩⟩))) ?_ ?_; (intro s34 e hz hI; subst hz; obtain ⟨d33, rfl⟩ := hI; replace h := sumO_r h; obtain ⟨r36, h_r36, h⟩ := bnd h; obtain ⟨u37, h_u37, h⟩ := bnd h; obtain ⟨y50, h_y50, h⟩ := bnd h; have h := sj h; subst h; exact g_rt (s_rtv (x_op1 (x_mapO (f := D.int) (g := D.bl) (E0 := [some ((eT D.int) hours), some (D.int hands), some (PV.enc length), some (PV.enc plan), d33, none, none, none, none]) (so_rng1 (q_cons (x_op1 (x_var (eT D.int) (a := hours) rfl) rfl o_lnT) q_nil) h_r36) rfl (szG_le h_u37) h_y50 (fun a38 y h => by (obtain ⟨q39, h_q39, h⟩ := bnd h; obtain ⟨u40, h_u40, h⟩ := bnd h; obtain ⟨y48, h_y48, h⟩ := bnd h; obtain ⟨x49, h_x49, h⟩ := bnd h; have h := sj h; subst h; exact ⟨[some ((eT D.int) hours), some (D.int hands), some (PV.enc length), some (PV.enc plan), d33, some (D.int a38), none, none, none], _, rfl, (x_op2 (x_op1 (x_compM (f := PV.enc) (g := D.int) (E0 := [some ((eT D.int) hours), some (D.int hands), some (PV.enc length), some (PV.enc plan), d33, some (D.int a38), none, none, none]) (so_it (f := PV.enc) (q_cons (x_var PV.enc (a := plan) rfl) q_nil) (asQ_items h_q39)) rfl (szG_le h_u40) h_y48 (fun a41 y h => by (obtain ⟨x42, h_x42, h⟩ := bnd h; obtain ⟨x43, h_x43, h⟩ := bnd h; rcases iteo h with ⟨hc, h⟩ | ⟨hc, h⟩; (obtain ⟨x44, h_x44, h⟩ := bnd h; obtain ⟨x45, h_x45, h⟩ := bnd h; obtain ⟨x46, h_x46, h⟩ := bnd h; obtain ⟨x47, h_x47, h⟩ := bnd h; have h := sj h; subst h; have ht : TX P false [some ((eT D.int) hours), some (D.int hands), some (PV.enc length), some (PV.enc plan), d33, some (D.int a38), none, none, some (PV.enc a41)] (.val (.op (.cmp .Eq) [(.sub (.var 8) (.int 3)), (.var 5)])) x43 [some ((eT D.int) hours), some (D.int hands), some (PV.enc length), some (PV.enc plan), d33, some (D.int a38), none, none, some (PV.enc a41)] := (t_bl (x_op2 (x_sub (x_var PV.enc (a := a41) rfl) x_int rfl rfl (s_V h_x42) (mk_p PV.enc _ _)) (x_var D.int (a := a38) rfl) rfl rfl (o_eqG h_x43))); rw [hc] at ht; exact stepC_y (e1 := [some ((eT D.int) hours), some (D.int hands), some (PV.enc length), some (PV.enc plan), d33, some (D.int a38), none, none, some (PV.enc a41)]) rfl (t_and1 ht) (x_op2 (x_cast (d' := D.int x46) (x_sub (x_var PV.enc (a := a41) rfl) x_int rfl rfl (s_V h_x44) (mk_p PV.enc _ _)) (asI_enc h_x46)) (x_cast (d' := D.int x47) (x_sub (x_var PV.enc (a := a41) rfl) x_int rfl rfl (s_V h_x45) (mk_p PV.enc _ _)) (asI_enc h_x47)) rfl rfl o_sub) rfl); (have h := sj h; subst h; have ht : TX P false [some ((eT D.int) hours), some (D.int hands), some (PV.enc length), some (PV.enc plan), d33, some (D.int a38), none, none, some (PV.enc a41)] (.val (.op (.cmp .Eq) [(.sub (.var 8) (.int 3)), (.var 5)])) x43 [some ((eT D.int) hours), some (D.int hands), some (PV.enc length), some (PV.enc plan), d33, some (D.int a38), none, none, some (PV.enc a41)] := (t_bl (x_op2 (x_sub (x_var PV.enc (a := a41) rfl) x_int rfl rfl (s_V h_x42) (mk_p PV.enc _ _)) (x_var D.int (a := a38) rfl) rfl rfl (o_eqG h_x43))); rw [hc] at ht; exact stepC_n (e1 := [some ((eT D.int) hours), some (D.int hands), some (PV.enc length), some (PV.enc plan), d33, some (D.int a38), none, none, some (PV.enc a41)]) rfl (t_and1 ht) rfl))) rfl) rfl o_sumL) (x_sub (x_var (eT D.int) (a := hours) rfl) (x_var D.int (a := a38) rfl) rfl rfl (s_T h_x49) (mk_p D.int _ _)) rfl rfl o_eq), rfl⟩)) rfl) rfl o_allL)) ⟨_, _, rfl, .inl rfl, (bk_p (Pl.pl (f := (eT D.int)) _) (bk_p (Pl.pl (f := D.int) _) (bk_p (Pl.pl (f := PV.enc) _) (bk_p (Pl.pl (f := PV.enc) _) bk_nil))))⟩); (intro q d e hz hR; subst hz; obtain ⟨rfl, d20, d21, d22, d23, d24, rfl⟩ := hR; replace h := sumO_l h; have h := sj h; subst h; exact ⟨_, _, rfl, .inl rfl, (bk_p (Pl.pl (f := (eT D.int)) _) (bk_p (Pl.pl (f := D.int) _) (bk_p (Pl.pl (f := PV.enc) _) (bk_p (Pl.pl (f := PV.enc) _) bk_nil))))⟩)))

theorem b__law_bent (P : Ctx) (hS_next : S_next P 1) (hS_pick : S_pick P 2) (fu : Nat) (hS__law_bent : S__law_bent P fu) (w : W) (value : PV) (r : (PV × W)) (h : _law_bent (fu + 1) w value = some r) : runF P Pg.f11 [eW w, PV.enc value] = some (PV.enc r.1, [eW r.2, PV.enc value]) := by
  unfold _law_bent at h
  refine run_G rfl ?_
  show RetG _ _ _ _ (evSs P _ [some (eW w), some (PV.enc value), none, none])
  obtain ⟨t3, h_t3, h⟩ := bnd h
  rcases iteo h with ⟨hc, h⟩ | ⟨hc, h⟩
  (refine g_iteT (show TX P false _ (.and [(.val (.op (.isi .tuple) [(.var 1)])), (.val (.op (.cmp .NotEq) [(.var 1), (.tup [])])), (.val (.op (.cmp .Gt) [(.call 1 [(.var 0), (.int 4)]), (.int 0)]))]) t3.1 [some (eW t3.2), some (PV.enc value), none, none] from (t_and (t_andC (t_bl (x_op1 (x_var PV.enc (a := value) rfl) rfl o_isiT)) (fun hc => by (have h := itT hc h_t3; obtain ⟨x1, h_x1, h⟩ := bnd h; exact (t_andC (t_bl (x_op2 (x_var PV.enc (a := value) rfl) (x_tupT PV.enc [] m_nil rfl) rfl rfl (o_neG h_x1))) (fun hc => by (have h := itT hc h; obtain ⟨p2, h_p2, h⟩ := bnd h; have h := sj h; subst h; exact (t_and1 (t_bl (x_op2 (x_call (q_cons (x_ref rfl rfl) (q_cons x_int q_nil)) rfl rfl (hS_next _ _ _ h_p2) rfl) x_int rfl rfl o_gt))))) (fun hc => by (have h := itF hc h; cases h; exact ⟨rfl, rfl⟩))))) (fun hc => by (have h := itF hc h_t3; cases h; exact ⟨rfl, rfl⟩))))) hc ?_; obtain ⟨x4, h_x4, h⟩ := bnd h; obtain ⟨p5, h_p5, h⟩ := bnd h; refine g_nx (e := [some (eW p5.2), some (PV.enc value), some (D.int p5.1), none]) (s_asg (x_call (q_cons (x_ref rfl rfl) (q_cons (x_op1 (x_var PV.enc (a := value) rfl) rfl (o_lnV h_x4)) q_nil)) rfl rfl (hS_next _ _ _ h_p5) rfl) rfl) ?_; obtain ⟨x6, h_x6, h⟩ := bnd h; obtain ⟨x7, h_x7, h⟩ := bnd h; obtain ⟨x8, h_x8, h⟩ := bnd h; obtain ⟨x9, h_x9, h⟩ := bnd h; obtain ⟨x10, h_x10, h⟩ := bnd h; obtain ⟨x11, h_x11, h⟩ := bnd h; have h := sj h; subst h; exact g_rt (s_rtv (x_cast (d' := PV.enc (PV.tup x11)) (x_op2 (x_op2 (x_sli (x_cast (d' := eT PV.enc x6) (x_var PV.enc (a := value) rfl) (asT_enc h_x6)) i_none (i_some (x_var D.int (a := p5.1) rfl)) rfl (k_T PV.enc)) (x_tupT PV.enc ([x8.1] : List PV) (m_cons (x_call (q_cons (x_ref rfl rfl) (q_cons (x_sub (x_var PV.enc (a := value) rfl) (x_var D.int (a := p5.1) rfl) rfl rfl (s_V h_x7) (mk_p PV.enc _ _)) q_nil)) rfl rfl (hS__law_bent p5.2 x7 _ h_x8) rfl) m_nil) rfl) rfl rfl (o_catT PV.enc h_x9)) (x_sli (x_cast (d' := eT PV.enc x10) (x_var PV.enc (a := value) rfl) (asT_enc h_x10)) (i_some (x_op2 (x_var D.int (a := p5.1) rfl) x_int rfl rfl o_add)) i_none rfl (k_T PV.enc)) rfl rfl (o_catT PV.enc h_x11)) (c_VT x11))) ⟨_, _, rfl, .inl rfl, (bk_r rfl rfl rfl (bk_p (Pl.pl (f := PV.enc) _) bk_nil))⟩)
  (refine g_iteF (show TX P false _ (.and [(.val (.op (.isi .tuple) [(.var 1)])), (.val (.op (.cmp .NotEq) [(.var 1), (.tup [])])), (.val (.op (.cmp .Gt) [(.call 1 [(.var 0), (.int 4)]), (.int 0)]))]) t3.1 [some (eW t3.2), some (PV.enc value), none, none] from (t_and (t_andC (t_bl (x_op1 (x_var PV.enc (a := value) rfl) rfl o_isiT)) (fun hc => by (have h := itT hc h_t3; obtain ⟨x1, h_x1, h⟩ := bnd h; exact (t_andC (t_bl (x_op2 (x_var PV.enc (a := value) rfl) (x_tupT PV.enc [] m_nil rfl) rfl rfl (o_neG h_x1))) (fun hc => by (have h := itT hc h; obtain ⟨p2, h_p2, h⟩ := bnd h; have h := sj h; subst h; exact (t_and1 (t_bl (x_op2 (x_call (q_cons (x_ref rfl rfl) (q_cons x_int q_nil)) rfl rfl (hS_next _ _ _ h_p2) rfl) x_int rfl rfl o_gt))))) (fun hc => by (have h := itF hc h; cases h; exact ⟨rfl, rfl⟩))))) (fun hc => by (have h := itF hc h_t3; cases h; exact ⟨rfl, rfl⟩))))) hc ?_; rcases iteo h with ⟨hc, h⟩ | ⟨hc, h⟩; (refine g_iteT (t_bl (x_op1 (x_var PV.enc (a := value) rfl) rfl o_isiT)) hc ?_; obtain ⟨x12, h_x12, h⟩ := bnd h; obtain ⟨p13, h_p13, h⟩ := bnd h; refine g_nx (e := [some (eW p13.2), some (PV.enc value), some (D.int p13.1), none]) (s_asg (x_call (q_cons (x_ref rfl rfl) (q_cons (x_op2 (x_op1 (x_var PV.enc (a := value) rfl) rfl (o_lnV h_x12)) x_int rfl rfl o_add) q_nil)) rfl rfl (hS_next _ _ _ h_p13) rfl) rfl) ?_; obtain ⟨x14, h_x14, h⟩ := bnd h; obtain ⟨x15, h_x15, h⟩ := bnd h; obtain ⟨x16, h_x16, h⟩ := bnd h; obtain ⟨x17, h_x17, h⟩ := bnd h; obtain ⟨x18, h_x18, h⟩ := bnd h; obtain ⟨x19, h_x19, h⟩ := bnd h; obtain ⟨x20, h_x20, h⟩ := bnd h; obtain ⟨x21, h_x21, h⟩ := bnd h; obtain ⟨x22, h_x22, h⟩ := bnd h; obtain ⟨some23, h_some23, h⟩ := bnd h; refine g_nx (e := [some (eW p13.2), some (PV.enc value), some (D.int p13.1), some ((eL (eO (eT PV.enc))) some23)]) (s_asg (x_cast (d' := (eL (eO (eT PV.enc))) some23) (x_lstL (eO (eT PV.enc)) ([(some x16), (some x18), (some ((x19).reverse)), (some x22), none, (some [])] : List (Option (List PV))) (m_cons (x_cast (d' := (eO (eT PV.enc)) (some x16)) (x_op2 (x_sli (x_cast (d' := eT PV.enc x14) (x_var PV.enc (a := value) rfl) (asT_enc h_x14)) i_none (i_some (x_var D.int (a := p13.1) rfl)) rfl (k_T PV.enc)) (x_sli (x_cast (d' := eT PV.enc x15) (x_var PV.enc (a := value) rfl) (asT_enc h_x15)) (i_some (x_op2 (x_var D.int (a := p13.1) rfl) x_int rfl rfl o_add)) i_none rfl (k_T PV.enc)) rfl rfl (o_catT PV.enc h_x16)) rfl) (m_cons (x_cast (d' := (eO (eT PV.enc)) (some x18)) (x_op2 (x_cast (d' := eT PV.enc x17) (x_var PV.enc (a := value) rfl) (asT_enc h_x17)) (x_cast (d' := (eT PV.enc) (([0] : List Int).map fun a => (PV.int a))) (x_tupT D.int ([0] : List Int) (m_cons x_int m_nil) rfl) (c_T D.int PV.enc (fun a => (PV.int a)) (fun a => rfl) ([0] : List Int))) rfl rfl (o_catT PV.enc h_x18)) rfl) (m_cons (x_cast (d' := (eO (eT PV.enc)) (some ((x19).reverse))) (x_op1 (x_cast (d' := eT PV.enc x19) (x_var PV.enc (a := value) rfl) (asT_enc h_x19)) rfl (o_revT PV.enc)) rfl) (m_cons (x_cast (d' := (eO (eT PV.enc)) (some x22)) (x_op2 (x_cast (d' := eT PV.enc x21) (x_var PV.enc (a := value) rfl) (asT_enc h_x21)) (x_sli (x_cast (d' := eT PV.enc x20) (x_var PV.enc (a := value) rfl) (asT_enc h_x20)) (i_some (x_op1 x_int rfl o_neg)) i_none rfl (k_T PV.enc)) rfl rfl (o_catT PV.enc h_x22)) rfl) (m_cons (x_cast (d' := (eO (eT PV.enc)) none) x_non rfl) (m_cons (x_cast (d' := (eO (eT PV.enc)) (some [])) (x_tupT PV.enc [] m_nil rfl) rfl) m_nil)))))) rfl) (congrArg (eL (eO (eT PV.enc))) (sj h_some23))) rfl) ?_; obtain ⟨x24, h_x24, h⟩ := bnd h; obtain ⟨p25, h_p25, h⟩ := bnd h; obtain ⟨x26, h_x26, h⟩ := bnd h; obtain ⟨x27, h_x27, h⟩ := bnd h; obtain ⟨x28, h_x28, h⟩ := bnd h; obtain ⟨x29, h_x29, h⟩ := bnd h; obtain ⟨x30, h_x30, h⟩ := bnd h; obtain ⟨x31, h_x31, h⟩ := bnd h; obtain ⟨x32, h_x32, h⟩ := bnd h; obtain ⟨p33, h_p33, h⟩ := bnd h; have h := sj h; subst h; exact g_rt (s_rtv (x_cast (d' := PV.enc (p33.1.elim PV.non fun a => (PV.tup a))) (x_call (q_cons (x_ref rfl rfl) (q_cons (x_op2 (x_ref rfl rfl) (x_cast (d' := (eL (eO (eT PV.enc))) (([x28, x31] : List (List PV)).map fun a => (some a))) (x_lstL (eT PV.enc) ([x28, x31] : List (List PV)) (m_cons (x_op2 (x_op2 (x_sli (x_cast (d' := eT PV.enc x24) (x_var PV.enc (a := value) rfl) (asT_enc h_x24)) i_none (i_some (x_var D.int (a := p13.1) rfl)) rfl (k_T PV.enc)) (x_cast (d' := (eT PV.enc) (([p25.1] : List Int).map fun a => (PV.int a))) (x_tupT D.int ([p25.1] : List Int) (m_cons (x_call (q_cons (x_ref rfl rfl) (q_cons x_int q_nil)) rfl rfl (hS_next _ _ _ h_p25) rfl) m_nil) rfl) (c_T D.int PV.enc (fun a => (PV.int a)) (fun a => rfl) ([p25.1] : List Int))) rfl rfl (o_catT PV.enc h_x26)) (x_sli (x_cast (d' := eT PV.enc x27) (x_var PV.enc (a := value) rfl) (asT_enc h_x27)) (i_some (x_var D.int (a := p13.1) rfl)) i_none rfl (k_T PV.enc)) rfl rfl (o_catT PV.enc h_x28)) (m_cons (x_op2 (x_sli (x_cast (d' := eT PV.enc x29) (x_var PV.enc (a := value) rfl) (asT_enc h_x29)) i_none (i_some (x_var D.int (a := p13.1) rfl)) rfl (k_T PV.enc)) (x_sli (x_cast (d' := eT PV.enc x30) (x_var PV.enc (a := value) rfl) (asT_enc h_x30)) (i_some (x_op2 (x_var D.int (a := p13.1) rfl) x_int rfl rfl o_add)) i_none rfl (k_T PV.enc)) rfl rfl (o_catT PV.enc h_x31)) m_nil)) rfl) (c_L (eT PV.enc) (eO (eT PV.enc)) (fun a => (some a)) (fun a => rfl) ([x28, x31] : List (List PV)))) rfl rfl (o_catL (eO (eT PV.enc)) h_x32)) q_nil)) rfl rfl (hS_pick (eO (eT PV.enc)) _ _ _ _ h_p33) rfl) (c_O (eT PV.enc) (fun a => (PV.tup a)) (fun a => (c_VT a)) p33.1))) ⟨_, _, rfl, .inl rfl, (bk_r rfl rfl rfl (bk_p (Pl.pl (f := PV.enc) _) bk_nil))⟩); (refine g_iteF (t_bl (x_op1 (x_var PV.enc (a := value) rfl) rfl o_isiT)) hc ?_; rcases iteo h with ⟨hc, h⟩ | ⟨hc, h⟩; (refine g_iteT (t_bl (x_op1 (x_var PV.enc (a := value) rfl) rfl o_isiI)) hc ?_; obtain ⟨x34, h_x34, h⟩ := bnd h; obtain ⟨x35, h_x35, h⟩ := bnd h; obtain ⟨x36, h_x36, h⟩ := bnd h; obtain ⟨x37, h_x37, h⟩ := bnd h; obtain ⟨x38, h_x38, h⟩ := bnd h; obtain ⟨p39, h_p39, h⟩ := bnd h; have h := sj h; subst h; exact g_rt (s_rtv (x_call (q_cons (x_ref rfl rfl) (q_cons (x_lstL PV.enc ([(PV.int (x34 + 1)), (PV.int (x35 - 1)), (PV.int 0), (PV.int (x36 + 3)), (PV.int (x37 + 1)), (PV.int (x38 - 1)), PV.non, (PV.str ("x" : PySem.Str)), (PV.bl true), (PV.tup ([value] : List PV))] : List PV) (m_cons (x_cast (d' := PV.enc (PV.int (x34 + 1))) (x_op2 (x_cast (d' := D.int x34) (x_var PV.enc (a := value) rfl) (asI_enc h_x34)) x_int rfl rfl o_add) rfl) (m_cons (x_cast (d' := PV.enc (PV.int (x35 - 1))) (x_op2 (x_cast (d' := D.int x35) (x_var PV.enc (a := value) rfl) (asI_enc h_x35)) x_int rfl rfl o_sub) rfl) (m_cons (x_cast (d' := PV.enc (PV.int 0)) x_int rfl) (m_cons (x_cast (d' := PV.enc (PV.int (x36 + 3))) (x_op2 (x_cast (d' := D.int x36) (x_var PV.enc (a := value) rfl) (asI_enc h_x36)) x_int rfl rfl o_add) rfl) (m_cons (x_cast (d' := PV.enc (PV.int (x37 + 1))) (x_op2 (x_cast (d' := D.int x37) (x_var PV.enc (a := value) rfl) (asI_enc h_x37)) x_int rfl rfl o_add) rfl) (m_cons (x_cast (d' := PV.enc (PV.int (x38 - 1))) (x_op2 (x_cast (d' := D.int x38) (x_var PV.enc (a := value) rfl) (asI_enc h_x38)) x_int rfl rfl o_sub) rfl) (m_cons (x_cast (d' := PV.enc PV.non) x_non rfl) (m_cons (x_cast (d' := PV.enc (PV.str ("x" : PySem.Str))) x_str rfl) (m_cons (x_cast (d' := PV.enc (PV.bl true)) x_bl rfl) (m_cons (x_cast (d' := PV.enc (PV.tup ([value] : List PV))) (x_tupT PV.enc ([value] : List PV) (m_cons (x_var PV.enc (a := value) rfl) m_nil) rfl) (c_VT ([value] : List PV))) m_nil)))))))))) rfl) q_nil)) rfl rfl (hS_pick PV.enc _ _ _ _ h_p39) rfl)) ⟨_, _, rfl, .inl rfl, (bk_r rfl rfl rfl (bk_p (Pl.pl (f := PV.enc) _) bk_nil))⟩); (refine g_iteF (t_bl (x_op1 (x_var PV.enc (a := value) rfl) rfl o_isiI)) hc ?_; obtain ⟨p40, h_p40, h⟩ := bnd h; have h := sj h; subst h; exact g_rt (s_rtv (x_call (q_cons (x_ref rfl rfl) (q_cons (x_lstL PV.enc ([(PV.int 0), (PV.tup []), PV.non] : List PV) (m_cons (x_cast (d' := PV.enc (PV.int 0)) x_int rfl) (m_cons (x_cast (d' := PV.enc (PV.tup [])) (x_tupT PV.enc [] m_nil rfl) rfl) (m_cons (x_cast (d' := PV.enc PV.non) x_non rfl) m_nil))) rfl) q_nil)) rfl rfl (hS_pick PV.enc _ _ _ _ h_p40) rfl)) ⟨_, _, rfl, .inl rfl, (bk_r rfl rfl rfl (bk_p (Pl.pl (f := PV.enc) _) bk_nil))⟩)))

theorem b__law_is_empty_piece (P : Ctx) (hS__law_is_number : S__law_is_number P) (plan : PV) (r : Bool) (h : _law_is_empty_piece plan = some r) : runF P Pg.f12 [PV.enc plan] = some (D.bl r, [PV.enc plan]) := by
  unfold _law_is_empty_piece at h
  refine run_G rfl ?_
  show RetG _ _ _ _ (evSs P _ [some (PV.enc plan), none, none])
  obtain ⟨v7, h_v7, h⟩ := bnd h
  refine g_nx (e := [some (PV.enc plan), some ((eL PV.enc) v7), none]) (s_asg (show AX P false _ (.ite (.val (.op (.isi .tuple) [(.var 0)])) (.comp (.nm 2) [2] (.it false) [(.var 0)] [(.and [(.val (.op (.isi .tuple) [(.var 2)])), (.val (.op (.cmp .Eq) [(.op .len [(.var 2)]), (.int 4)]))])] (.var 2)) (.lst [])) (.tmp ((eL PV.enc) v7)) _ from (x_ite (t_bl (x_op1 (x_var PV.enc (a := plan) rfl) rfl o_isiT)) (fun hc => by (have h := itT hc h_v7; obtain ⟨q1, h_q1, h⟩ := bnd h; obtain ⟨u2, h_u2, h⟩ := bnd h; obtain ⟨y6, h_y6, h⟩ := bnde h; have h := sj h; subst h; exact (x_compM (f := PV.enc) (g := PV.enc) (E0 := [some (PV.enc plan), none, none]) (so_it (f := PV.enc) (q_cons (x_var PV.enc (a := plan) rfl) q_nil) (asQ_items h_q1)) rfl (szG_le h_u2) h_y6 (fun a3 y h => by (obtain ⟨t5, h_t5, h⟩ := bnd h; rcases iteo h with ⟨hc, h⟩ | ⟨hc, h⟩; (have h := sj h; subst h; have ht : TX P false [some (PV.enc plan), none, some (PV.enc a3)] (.and [(.val (.op (.isi .tuple) [(.var 2)])), (.val (.op (.cmp .Eq) [(.op .len [(.var 2)]), (.int 4)]))]) t5 [some (PV.enc plan), none, some (PV.enc a3)] := (show TX P false _ (.and [(.val (.op (.isi .tuple) [(.var 2)])), (.val (.op (.cmp .Eq) [(.op .len [(.var 2)]), (.int 4)]))]) t5 [some (PV.enc plan), none, some (PV.enc a3)] from (t_and (t_andC (t_bl (x_op1 (x_var PV.enc (a := a3) rfl) rfl o_isiT)) (fun hc => by (have h := itT hc h_t5; obtain ⟨x4, h_x4, h⟩ := bnd h; have h := sj h; subst h; exact (t_and1 (t_bl (x_op2 (x_op1 (x_var PV.enc (a := a3) rfl) rfl (o_lnV h_x4)) x_int rfl rfl o_eq))))) (fun hc => by (have h := itF hc h_t5; cases h; exact ⟨rfl, rfl⟩))))); rw [hc] at ht; exact stepC_y (e1 := [some (PV.enc plan), none, some (PV.enc a3)]) rfl (t_and1 ht) (x_var PV.enc (a := a3) rfl) rfl); (have h := sj h; subst h; have ht : TX P false [some (PV.enc plan), none, some (PV.enc a3)] (.and [(.val (.op (.isi .tuple) [(.var 2)])), (.val (.op (.cmp .Eq) [(.op .len [(.var 2)]), (.int 4)]))]) t5 [some (PV.enc plan), none, some (PV.enc a3)] := (show TX P false _ (.and [(.val (.op (.isi .tuple) [(.var 2)])), (.val (.op (.cmp .Eq) [(.op .len [(.var 2)]), (.int 4)]))]) t5 [some (PV.enc plan), none, some (PV.enc a3)] from (t_and (t_andC (t_bl (x_op1 (x_var PV.enc (a := a3) rfl) rfl o_isiT)) (fun hc => by (have h := itT hc h_t5; obtain ⟨x4, h_x4, h⟩ := bnd h; have h := sj h; subst h; exact (t_and1 (t_bl (x_op2 (x_op1 (x_var PV.enc (a := a3) rfl) rfl (o_lnV h_x4)) x_int rfl rfl o_eq))))) (fun hc => by (have h := itF hc h_t5; cases h; exact ⟨rfl, rfl⟩))))); rw [hc] at ht; exact stepC_n (e1 := [some (PV.enc plan), none, some (PV.enc a3)]) rfl (t_and1 ht) rfl))) rfl))) (fun hc => by (have h := itF hc h_v7; have h := sj h; subst h; exact (x_cast (d' := (eL PV.enc) []) (x_lstL PV.enc ([] : List PV) m_nil rfl) rfl))))) rfl) ?_
  obtain ⟨u8, h_u8, h⟩ := bnd h
  obtain ⟨y15, h_y15, h⟩ := bnd h
  refine g_nx (e := [some (PV.enc plan), some ((eL PV.enc) y15), none]) (s_asg (x_compM (f := PV.enc) (g := PV.enc) (E0 := [some (PV.enc plan), none, none]) (so_lend (f := PV.enc) (q_cons (x_ref rfl rfl) q_nil) rfl it_L rfl) rfl (szG_le h_u8) h_y15 (fun a9 y h => by (obtain ⟨x10, h_x10, h⟩ := bnd h; obtain ⟨x11, h_x11, h⟩ := bnd h; obtain ⟨t14, h_t14, h⟩ := bnd h; rcases iteo h with ⟨hc, h⟩ | ⟨hc, h⟩; (have h := sj h; subst h; have ht : TX P false [some (PV.enc plan), none, some (PV.enc a9)] (.and [(.val (.call 4 [(.sub (.var 2) (.int 1))])), (.val (.call 4 [(.sub (.var 2) (.int 2))]))]) t14 [some (PV.enc plan), none, some (PV.enc a9)] := (show TX P false _ (.and [(.val (.call 4 [(.sub (.var 2) (.int 1))])), (.val (.call 4 [(.sub (.var 2) (.int 2))]))]) t14 [some (PV.enc plan), none, some (PV.enc a9)] from (t_and (t_andC (t_bl (x_call (q_cons (x_sub (x_var PV.enc (a := a9) rfl) x_int rfl rfl (s_V h_x10) (mk_p PV.enc _ _)) q_nil) rfl rfl (hS__law_is_number _ _ h_x11) rfl)) (fun hc => by (have h := itT hc h_t14; obtain ⟨x12, h_x12, h⟩ := bnd h; obtain ⟨x13, h_x13, h⟩ := bnde h; have h := sj h; subst h; exact (t_and1 (t_bl (x_call (q_cons (x_sub (x_var PV.enc (a := a9) rfl) x_int rfl rfl (s_V h_x12) (mk_p PV.enc _ _)) q_nil) rfl rfl (hS__law_is_number _ _ h_x13) rfl))))) (fun hc => by (have h := itF hc h_t14; cases h; exact ⟨rfl, rfl⟩))))); rw [hc] at ht; exact stepC_y (e1 := [some (PV.enc plan), none, some (PV.enc a9)]) rfl (t_and1 ht) (x_var PV.enc (a := a9) rfl) rfl); (have h := sj h; subst h; have ht : TX P false [some (PV.enc plan), none, some (PV.enc a9)] (.and [(.val (.call 4 [(.sub (.var 2) (.int 1))])), (.val (.call 4 [(.sub (.var 2) (.int 2))]))]) t14 [some (PV.enc plan), none, some (PV.enc a9)] := (show TX P false _ (.and [(.val (.call 4 [(.sub (.var 2) (.int 1))])), (.val (.call 4 [(.sub (.var 2) (.int 2))]))]) t14 [some (PV.enc plan), none, some (PV.enc a9)] from (t_and (t_andC (t_bl (x_call (q_cons (x_sub (x_var PV.enc (a := a9) rfl) x_int rfl rfl (s_V h_x10) (mk_p PV.enc _ _)) q_nil) rfl rfl (hS__law_is_number _ _ h_x11) rfl)) (fun hc => by (have h := itT hc h_t14; obtain ⟨x12, h_x12, h⟩ := bnd h; obtain ⟨x13, h_x13, h⟩ := bnde h; have h := sj h; subst h; exact (t_and1 (t_bl (x_call (q_cons (x_sub (x_var PV.enc (a := a9) rfl) x_int rfl rfl (s_V h_x12) (mk_p PV.enc _ _)) q_nil) rfl rfl (hS__law_is_number _ _ h_x13) rfl))))) (fun hc => by (have h := itF hc h_t14; cases h; exact ⟨rfl, rfl⟩))))); rw [hc] at ht; exact stepC_n (e1 := [some (PV.enc plan), none, some (PV.enc a9)]) rfl (t_and1 ht) rfl))) rfl) rfl) ?_
  obtain ⟨u16, h_u16, h⟩ := bnd h
  obtain ⟨y25, h_y25, h⟩ := bnd h
  obtain ⟨x26, h_x26, h⟩ := bnd h
  have h := sj h
  subst h
  exact g_rt (s_rtv (x_op2 (x_compM (f := PV.enc) (g := PV.enc) (E0 := [some (PV.enc plan), none, none]) (so_lend (f := PV.enc) (q_cons (x_ref rfl rfl) q_nil) rfl it_L rfl) rfl (szG_le h_u16) h_y25 (fun a17 y h => by (obtain ⟨x18, h_x18, h⟩ := bnd h; obtain ⟨x19, h_x19, h⟩ := bnd h; obtain ⟨x20, h_x20, h⟩ := bnd h; obtain ⟨x21, h_x21, h⟩ := bnd h; obtain ⟨t24, h_t24, h⟩ := bnd h; rcases iteo h with ⟨hc, h⟩ | ⟨hc, h⟩; (have h := sj h; subst h; have ht : TX P false [some (PV.enc plan), none, some (PV.enc a17)] (.or [(.val (.op (.cmp .GtE) [(.sub (.var 2) (.int 1)), (.sub (.var 2) (.int 2))])), (.val (.op (.cmp .Lt) [(.sub (.var 2) (.int 1)), (.int 0)]))]) t24 [some (PV.enc plan), none, some (PV.enc a17)] := (show TX P false _ (.or [(.val (.op (.cmp .GtE) [(.sub (.var 2) (.int 1)), (.sub (.var 2) (.int 2))])), (.val (.op (.cmp .Lt) [(.sub (.var 2) (.int 1)), (.int 0)]))]) t24 [some (PV.enc plan), none, some (PV.enc a17)] from (t_or (t_orC (t_bl (x_op2 (x_cast (d' := D.int x20) (x_sub (x_var PV.enc (a := a17) rfl) x_int rfl rfl (s_V h_x18) (mk_p PV.enc _ _)) (asI_enc h_x20)) (x_cast (d' := D.int x21) (x_sub (x_var PV.enc (a := a17) rfl) x_int rfl rfl (s_V h_x19) (mk_p PV.enc _ _)) (asI_enc h_x21)) rfl rfl o_ge)) (fun hc => by (have h := itF hc h_t24; obtain ⟨x22, h_x22, h⟩ := bnd h; obtain ⟨x23, h_x23, h⟩ := bnd h; have h := sj h; subst h; exact (t_or1 (t_bl (x_op2 (x_cast (d' := D.int x23) (x_sub (x_var PV.enc (a := a17) rfl) x_int rfl rfl (s_V h_x22) (mk_p PV.enc _ _)) (asI_enc h_x23)) x_int rfl rfl o_lt))))) (fun hc => by (have h := itT hc h_t24; cases h; exact ⟨rfl, rfl⟩))))); rw [hc] at ht; exact stepC_y (e1 := [some (PV.enc plan), none, some (PV.enc a17)]) rfl (t_and1 ht) (x_var PV.enc (a := a17) rfl) rfl); (have h := sj h; subst h; have ht : TX P false [some (PV.enc plan), none, some (PV.enc a17)] (.or [(.val (.op (.cmp .GtE) [(.sub (.var 2) (.int 1)), (.sub (.var 2) (.int 2))])), (.val (.op (.cmp .Lt) [(.sub (.var 2) (.int 1)), (.int 0)]))]) t24 [some (PV.enc plan), none, some (PV.enc a17)] := (show TX P false _ (.or [(.val (.op (.cmp .GtE) [(.sub (.var 2) (.int 1)), (.sub (.var 2) (.int 2))])), (.val (.op (.cmp .Lt) [(.sub (.var 2) (.int 1)), (.int 0)]))]) t24 [some (PV.enc plan), none, some (PV.enc a17)] from (t_or (t_orC (t_bl (x_op2 (x_cast (d' := D.int x20) (x_sub (x_var PV.enc (a := a17) rfl) x_int rfl rfl (s_V h_x18) (mk_p PV.enc _ _)) (asI_enc h_x20)) (x_cast (d' := D.int x21) (x_sub (x_var PV.enc (a := a17) rfl) x_int rfl rfl (s_V h_x19) (mk_p PV.enc _ _)) (asI_enc h_x21)) rfl rfl o_ge)) (fun hc => by (have h := itF hc h_t24; obtain ⟨x22, h_x22, h⟩ := bnd h; obtain ⟨x23, h_x23, h⟩ := bnd h; have h := sj h; subst h; exact (t_or1 (t_bl (x_op2 (x_cast (d' := D.int x23) (x_sub (x_var PV.enc (a := a17) rfl) x_int rfl rfl (s_V h_x22) (mk_p PV.enc _ _)) (asI_enc h_x23)) x_int rfl rfl o_lt))))) (fun hc => by (have h := itT hc h_t24; cases h; exact ⟨rfl, rfl⟩))))); rw [hc] at ht; exact stepC_n (e1 := [some (PV.enc plan), none, some (PV.enc a17)]) rfl (t_and1 ht) rfl))) rfl) (x_lstL PV.enc ([] : List PV) m_nil rfl) rfl rfl (o_neG h_x26))) ⟨_, _, rfl, .inl rfl, (bk_p (Pl.pl (f := PV.enc) _) bk_nil)⟩

theorem b__law_says (P : Ctx)  (told : Bool) (due : Bool) (r : Bool) (h : _law_says told due = some r) : runF P Pg.f13 [D.bl told, D.bl due] = some (D.bl r, [D.bl told, D.bl due]) := by
  unfold _law_says at h
  refine run_G rfl ?_
  show RetG _ _ _ _ (evSs P _ [some (D.bl told), some (D.bl due)])
  have h := sj h
  subst h
  exact g_rt (s_rtv (x_and (x_andT (x_op1 (x_var D.bl (a := told) rfl) rfl rfl) (x_and1 (x_op2 (x_var D.bl (a := told) rfl) (x_var D.bl (a := due) rfl) rfl rfl (o_eqC D.bl rfl _ _)))))) ⟨_, _, rfl, .inl rfl, (bk_p (Pl.pl (f := D.bl) _) (bk_p (Pl.pl (f := D.bl) _) bk_nil))⟩

theorem b_law (P : Ctx) (hS_next : S_next P 1) (hS_pick : S_pick P 2) (hS_plan_side_by_side : S_plan_side_by_side P) (hS__law_is_planned : S__law_is_planned P) (hS_is_side_by_side : S_is_side_by_side P) (hS__law_bent : S__law_bent P 6) (hS__law_is_empty_piece : S__law_is_empty_piece P) (hS__law_says : S__law_says P) (L ns : List Int) (hD : P.call 0 [.scr ns, .int 900] = some (eL D.int L, [.scr ns, .int 900])) (r : Bool) (h : law L = some r) : runF P Pg.f14 [.scr ns] = some (D.bl r, [.scr ns]) := by
  unfold law at h
  refine run_G rfl ?_
  show RetG _ _ _ _ (evSs P _ [some (D.scr ns), none, none, none, none, none, none, none, none, none, none])
  refine g_nx (e := [some (D.scr ns), some (eW (W.mk L 0)), none, none, none, none, none, none, none, none, none]) (s_asg (x_dict (d := eW (W.mk L 0)) (m_cons x_str (m_cons (x_call (q_cons (x_varp rfl rfl) (q_cons x_int q_nil)) rfl rfl hD rfl) (m_cons x_str (m_cons x_int m_nil)))) rfl) rfl) ?_
  obtain ⟨r1, h_r1, h⟩ := bnd h
  obtain ⟨z77, h_z77, h⟩ := bnd h
  refine g_forC (f := D.int) (fun (s2 : (W)) e => ∃ (d3 d4 d5 d6 d7 d8 d9 d10 : Option D), e = [some (D.scr ns), some (eW s2), d3, d4, d5, d6, d7, d8, d9, d10, none]) (fun (q : Bool) d e => d = D.bl q ∧ ∃ (d12 d13 d14 d15 d16 d17 d18 d19 d20 d21 : Option D), e = [some (D.scr ns), d12, d13, d14, d15, d16, d17, d18, d19, d20, d21]) (fo_rng1 (q_cons x_int q_nil) h_r1) ⟨_, _, _, _, _, _, _, _, rfl⟩ h_z77 (fun i11 s2 c e he h => by (obtain ⟨d3, d4, d5, d6, d7, d8, d9, d10, rfl⟩ := he; refine g_bind (e1 := [some (D.scr ns), some (eW s2), some (D.int i11), d4, d5, d6, d7, d8, d9, d10, none]) rfl ?_; obtain ⟨p22, h_p22, h⟩ := bnd h; refine g_nx (e := [some (D.scr ns), some (eW p22.2), some (D.int i11), some (D.int (1 + p22.1)), d5, d6, d7, d8, d9, d10, none]) (s_asg (x_op2 x_int (x_call (q_cons (x_ref rfl rfl) (q_cons x_int q_nil)) rfl rfl (hS_next _ _ _ h_p22) rfl) rfl rfl o_add) rfl) ?_; obtain ⟨p23, h_p23, h⟩ := bnd h; obtain ⟨r24, h_r24, h⟩ := bnd h; obtain ⟨u25, h_u25, h⟩ := bnd h; obtain ⟨y29, h_y29, h⟩ := bnd h; refine g_nx (e := [some (D.scr ns), some (eW y29.2), some (D.int i11), some (D.int (1 + p22.1)), some ((eT D.int) y29.1), d6, d7, d8, d9, d10, none]) (s_asg (x_op1 (x_mapS (f := D.int) (g := D.int) (E0 := fun (w : W) => [some (D.scr ns), some (eW w), some (D.int i11), some (D.int (1 + p22.1)), d5, d6, d7, d8, d9, d10, none]) (so_rng1 (q_cons (x_call (q_cons (x_ref rfl rfl) (q_cons x_int q_nil)) rfl rfl (hS_next _ _ _ h_p23) rfl) q_nil) h_r24) rfl (szG_le h_u25) h_y29 (fun a26 w y h => by (obtain ⟨p28, h_p28, h⟩ := bnd h; have h := sj h; subst h; exact ⟨[some (D.scr ns), some (eW w), some (D.int i11), some (D.int (1 + p22.1)), d5, d6, d7, d8, d9, d10, some (D.int a26)], _, rfl, (x_op2 x_int (x_call (q_cons (x_ref rfl rfl) (q_cons (x_lstL D.int ([0, 1, 2, 2, 4, 8] : List Int) (m_cons x_int (m_cons x_int (m_cons x_int (m_cons x_int (m_cons x_int (m_cons x_int m_nil)))))) rfl) q_nil)) rfl rfl (hS_pick D.int _ _ _ _ h_p28) rfl) rfl rfl o_add), rfl⟩)) rfl) rfl (o_tupL D.int)) rfl) ?_; obtain ⟨x30, h_x30, h⟩ := bnd h; refine g_nx (e := [some (D.scr ns), some (eW y29.2), some (D.int i11), some (D.int (1 + p22.1)), some ((eT D.int) y29.1), some ((eP D.int (eT (e4 D.int D.int D.int D.int))) x30), d7, d8, d9, d10, none]) (s_asg (x_call (q_cons (x_var (eT D.int) (a := y29.1) rfl) (q_cons (x_var D.int (a := (1 + p22.1)) rfl) q_nil)) rfl rfl (hS_plan_side_by_side _ _ _ h_x30) rfl) rfl) ?_; obtain ⟨t32, h_t32, h⟩ := bnd h; rcases iteo h with ⟨hc, h⟩ | ⟨hc, h⟩; (refine g_iteT (show TX P false _ (.or [(.not (.val (.op (.isi .tuple) [(.var 5)]))), (.val (.op (.cmp .NotEq) [(.op .len [(.var 5)]), (.int 2)])), (.not (.val (.call 6 [(.var 4), (.var 3), (.sub (.var 5) (.int 0)), (.sub (.var 5) (.int 1))])))]) t32 [some (D.scr ns), some (eW y29.2), some (D.int i11), some (D.int (1 + p22.1)), some ((eT D.int) y29.1), some ((eP D.int (eT (e4 D.int D.int D.int D.int))) x30), d7, d8, d9, d10, none] from (t_or (t_orC (t_not (t_bl (x_op1 (x_var (eP D.int (eT (e4 D.int D.int D.int D.int))) (a := x30) rfl) rfl rfl))) (fun hc => by (have h := itF hc h_t32; exact (t_orC (t_bl (x_op2 (x_op1 (x_var (eP D.int (eT (e4 D.int D.int D.int D.int))) (a := x30) rfl) rfl rfl) x_int rfl rfl o_ne)) (fun hc => by (have h := itF hc h; obtain ⟨x31, h_x31, h⟩ := bnd h; have h := sj h; subst h; exact (t_or1 (t_not (t_bl (x_call (q_cons (x_var (eT D.int) (a := y29.1) rfl) (q_cons (x_var D.int (a := (1 + p22.1)) rfl) (q_cons (x_cast (d' := PV.enc (PV.int x30.1)) (x_sub (x_var (eP D.int (eT (e4 D.int D.int D.int D.int))) (a := x30) rfl) x_int rfl rfl rfl (mk_p D.int _ _)) rfl) (q_cons (x_cast (d' := PV.enc (PV.tup (x30.2.map fun a => (PV.tup [(PV.int a.1), (PV.int a.2.1), (PV.int a.2.2.1), (PV.int a.2.2.2)])))) (x_sub (x_var (eP D.int (eT (e4 D.int D.int D.int D.int))) (a := x30) rfl) x_int rfl rfl rfl (mk_p (eT (e4 D.int D.int D.int D.int)) _ _)) (c_V (e4 D.int D.int D.int D.int) (fun a => (PV.tup [(PV.int a.1), (PV.int a.2.1), (PV.int a.2.2.1), (PV.int a.2.2.2)])) (fun a => (c_4 D.int D.int D.int D.int (fun a => (PV.int a)) (fun a => (PV.int a)) (fun a => (PV.int a)) (fun a => (PV.int a)) (fun a => rfl) (fun a => rfl) (fun a => rfl) (fun a => rfl) a)) x30.2)) q_nil)))) rfl rfl (hS__law_is_planned _ _ _ _ _ h_x31) rfl)))))) (fun hc => by (have h := itT hc h; cases h; exact ⟨rfl, rfl⟩))))) (fun hc => by (have h := itT hc h_t32; cases h; exact ⟨rfl, rfl⟩))))) hc ?_; have h := sj h; subst h; exact g_rt (s_rtv x_bl) ⟨_, _, rfl, rfl, _, _, _, _, _, _, _, _, _, _, rfl⟩); (refine g_iteF (show TX P false _ (.or [(.not (.val (.op (.isi .tuple) [(.var 5)]))), (.val (.op (.cmp .NotEq) [(.op .len [(.var 5)]), (.int 2)])), (.not (.val (.call 6 [(.var 4), (.var 3), (.sub (.var 5) (.int 0)), (.sub (.var 5) (.int 1))])))]) t32 [some (D.scr ns), some (eW y29.2), some (D.int i11), some (D.int (1 + p22.1)), some ((eT D.int) y29.1), some ((eP D.int (eT (e4 D.int D.int D.int D.int))) x30), d7, d8, d9, d10, none] from (t_or (t_orC (t_not (t_bl (x_op1 (x_var (eP D.int (eT (e4 D.int D.int D.int D.int))) (a := x30) rfl) rfl rfl))) (fun hc => by (have h := itF hc h_t32; exact (t_orC (t_bl (x_op2 (x_op1 (x_var (eP D.int (eT (e4 D.int D.int D.int D.int))) (a := x30) rfl) rfl rfl) x_int rfl rfl o_ne)) (fun hc => by (have h := itF hc h; obtain ⟨x31, h_x31, h⟩ := bnd h; have h := sj h; subst h; exact (t_or1 (t_not (t_bl (x_call (q_cons (x_var (eT D.int) (a := y29.1) rfl) (q_cons (x_var D.int (a := (1 + p22.1)) rfl) (q_cons (x_cast (d' := PV.enc (PV.int x30.1)) (x_sub (x_var (eP D.int (eT (e4 D.int D.int D.int D.int))) (a := x30) rfl) x_int rfl rfl rfl (mk_p D.int _ _)) rfl) (q_cons (x_cast (d' := PV.enc (PV.tup (x30.2.map fun a => (PV.tup [(PV.int a.1), (PV.int a.2.1), (PV.int a.2.2.1), (PV.int a.2.2.2)])))) (x_sub (x_var (eP D.int (eT (e4 D.int D.int D.int D.int))) (a := x30) rfl) x_int rfl rfl rfl (mk_p (eT (e4 D.int D.int D.int D.int)) _ _)) (c_V (e4 D.int D.int D.int D.int) (fun a => (PV.tup [(PV.int a.1), (PV.int a.2.1), (PV.int a.2.2.1), (PV.int a.2.2.2)])) (fun a => (c_4 D.int D.int D.int D.int (fun a => (PV.int a)) (fun a => (PV.int a)) (fun a => (PV.int a)) (fun a => (PV.int a)) (fun a => rfl) (fun a => rfl) (fun a => rfl) (fun a => rfl) a)) x30.2)) q_nil)))) rfl rfl (hS__law_is_planned _ _ _ _ _ h_x31) rfl)))))) (fun hc => by (have h := itT hc h; cases h; exact ⟨rfl, rfl⟩))))) (fun hc => by (have h := itT hc h_t32; cases h; exact ⟨rfl, rfl⟩))))) hc ?_; obtain ⟨x33, h_x33, h⟩ := bnd h; rcases iteo h with ⟨hc, h⟩ | ⟨hc, h⟩; (refine g_iteT (t_bl (x_op1 (x_call (q_cons (x_var (eT D.int) (a := y29.1) rfl) (q_cons (x_var D.int (a := (1 + p22.1)) rfl) (q_cons (x_cast (d' := PV.enc (PV.int x30.1)) (x_sub (x_var (eP D.int (eT (e4 D.int D.int D.int D.int))) (a := x30) rfl) x_int rfl rfl rfl (mk_p D.int _ _)) rfl) (q_cons (x_cast (d' := PV.enc (PV.tup (x30.2.map fun a => (PV.tup [(PV.int a.1), (PV.int a.2.1), (PV.int a.2.2.1), (PV.int a.2.2.2)])))) (x_sub (x_var (eP D.int (eT (e4 D.int D.int D.int D.int))) (a := x30) rfl) x_int rfl rfl rfl (mk_p (eT (e4 D.int D.int D.int D.int)) _ _)) (c_V (e4 D.int D.int D.int D.int) (fun a => (PV.tup [(PV.int a.1), (PV.int a.2.1), (PV.int a.2.2.1), (PV.int a.2.2.2)])) (fun a => (c_4 D.int D.int D.int D.int (fun a => (PV.int a)) (fun a => (PV.int a)) (fun a => (PV.int a)) (fun a => (PV.int a)) (fun a => rfl) (fun a => rfl) (fun a => rfl) (fun a => rfl) a)) x30.2)) q_nil)))) rfl rfl (hS_is_side_by_side _ _ _ _ _ h_x33) rfl) rfl o_nisB)) hc ?_; have h := sj h; subst h; exact g_rt (s_rtv x_bl) ⟨_, _, rfl, rfl, _, _, _, _, _, _, _, _, _, _, rfl⟩); (refine g_iteF (t_bl (x_op1 (x_call (q_cons (x_var (eT D.int) (a := y29.1) rfl) (q_cons (x_var D.int (a := (1 + p22.1)) rfl) (q_cons (x_cast (d' := PV.enc (PV.int x30.1)) (x_sub (x_var (eP D.int (eT (e4 D.int D.int D.int D.int))) (a := x30) rfl) x_int rfl rfl rfl (mk_p D.int _ _)) rfl) (q_cons (x_cast (d' := PV.enc (PV.tup (x30.2.map fun a => (PV.tup [(PV.int a.1), (PV.int a.2.1), (PV.int a.2.2.1), (PV.int a.2.2.2)])))) (x_sub (x_var (eP D.int (eT (e4 D.int D.int D.int D.int))) (a := x30) rfl) x_int rfl rfl rfl (mk_p (eT (e4 D.int D.int D.int D.int)) _ _)) (c_V (e4 D.int D.int D.int D.int) (fun a => (PV.tup [(PV.int a.1), (PV.int a.2.1), (PV.int a.2.2.1), (PV.int a.2.2.2)])) (fun a => (c_4 D.int D.int D.int D.int (fun a => (PV.int a)) (fun a => (PV.int a)) (fun a => (PV.int a)) (fun a => (PV.int a)) (fun a => rfl) (fun a => rfl) (fun a => rfl) (fun a => rfl) a)) x30.2)) q_nil)))) rfl rfl (hS_is_side_by_side _ _ _ _ _ h_x33) rfl) rfl o_nisB)) hc ?_; obtain ⟨r34, h_r34, h⟩ := bnd h; obtain ⟨z67, h_z67, h⟩ := bnd h; refine g_forC (f := D.int) (fun (s35 : (W)) e => ∃ (d36 d37 d38 d39 : Option D), e = [some (D.scr ns), some (eW s35), some (D.int i11), some (D.int (1 + p22.1)), some ((eT D.int) y29.1), some ((eP D.int (eT (e4 D.int D.int D.int D.int))) x30), d36, d37, d38, d39, none]) (fun (q : Bool) d e => d = D.bl q ∧ ∃ (d41 d42 d43 d44 d45 d46 d47 d48 d49 d50 : Option D), e = [some (D.scr ns), d41, d42, d43, d44, d45, d46, d47, d48, d49, d50]) (fo_rng1 (q_cons x_int q_nil) h_r34) ⟨_, _, _, _, rfl⟩ h_z67 (fun i40 s35 c e he h => by (obtain ⟨d36, d37, d38, d39, rfl⟩ := he; refine g_bind (e1 := [some (D.scr ns), some (eW s35), some (D.int i11), some (D.int (1 + p22.1)), some ((eT D.int) y29.1), some ((eP D.int (eT (e4 D.int D.int D.int D.int))) x30), some (D.int i40), d37, d38, d39, none]) rfl ?_; refine g_nx (e := [some (D.scr ns), some (eW s35), some (D.int i11), some (D.int (1 + p22.1)), some ((eT D.int) y29.1), some ((eP D.int (eT (e4 D.int D.int D.int D.int))) x30), some (D.int i40), d37, some (D.int x30.1), some ((eT (e4 D.int D.int D.int D.int)) x30.2), none]) (s_asg (x_var (eP D.int (eT (e4 D.int D.int D.int D.int))) (a := x30) rfl) rfl) ?_; obtain ⟨p51, h_p51, h⟩ := bnd h; obtain ⟨s54, h_s54, h⟩ := bnd h; refine g_joinI (I := fun e => e = [some (D.scr ns), some (eW s54.1), some (D.int i11), some (D.int (1 + p22.1)), some ((eT D.int) y29.1), some ((eP D.int (eT (e4 D.int D.int D.int D.int))) x30), some (D.int i40), d37, some (PV.enc s54.2.1), some (PV.enc s54.2.2), none]) (t_bl (x_op2 (x_call (q_cons (x_ref rfl rfl) (q_cons x_int q_nil)) rfl rfl (hS_next _ _ _ h_p51) rfl) x_int rfl rfl o_eq)) (fun hc => by (have h := itT hc h_s54; obtain ⟨x55, h_x55, h⟩ := bnd h; refine g_nx (e := [some (D.scr ns), some (eW x55.2), some (D.int i11), some (D.int (1 + p22.1)), some ((eT D.int) y29.1), some ((eP D.int (eT (e4 D.int D.int D.int D.int))) x30), some (D.int i40), d37, some (PV.enc x55.1), some ((eT (e4 D.int D.int D.int D.int)) x30.2), none]) (s_asg (x_call (q_cons (x_ref rfl rfl) (q_cons (x_cast (d' := PV.enc (PV.int x30.1)) (x_var D.int (a := x30.1) rfl) rfl) q_nil)) rfl rfl (hS__law_bent p51.2 (PV.int x30.1) _ h_x55) rfl) rfl) ?_; have h := sj h; subst h; exact g_end ⟨_, rfl, (by rw [← (c_V (e4 D.int D.int D.int D.int) (fun a => (PV.tup [(PV.int a.1), (PV.int a.2.1), (PV.int a.2.2.1), (PV.int a.2.2.2)])) (fun a => (c_4 D.int D.int D.int D.int (fun a => (PV.int a)) (fun a => (PV.int a)) (fun a => (PV.int a)) (fun a => (PV.int a)) (fun a => rfl) (fun a => rfl) (fun a => rfl) (fun a => rfl) a)) x30.2)])⟩)) (fun hc => by (have h := itF hc h_s54; obtain ⟨x56, h_x56, h⟩ := bnd h; refine g_nx (e := [some (D.scr ns), some (eW x56.2), some (D.int i11), some (D.int (1 + p22.1)), some ((eT D.int) y29.1), some ((eP D.int (eT (e4 D.int D.int D.int D.int))) x30), some (D.int i40), d37, some (D.int x30.1), some (PV.enc x56.1), none]) (s_asg (x_call (q_cons (x_ref rfl rfl) (q_cons (x_cast (d' := PV.enc (PV.tup (x30.2.map fun a => (PV.tup [(PV.int a.1), (PV.int a.2.1), (PV.int a.2.2.1), (PV.int a.2.2.2)])))) (x_var (eT (e4 D.int D.int D.int D.int)) (a := x30.2) rfl) (c_V (e4 D.int D.int D.int D.int) (fun a => (PV.tup [(PV.int a.1), (PV.int a.2.1), (PV.int a.2.2.1), (PV.int a.2.2.2)])) (fun a => (c_4 D.int D.int D.int D.int (fun a => (PV.int a)) (fun a => (PV.int a)) (fun a => (PV.int a)) (fun a => (PV.int a)) (fun a => rfl) (fun a => rfl) (fun a => rfl) (fun a => rfl) a)) x30.2)) q_nil)) rfl rfl (hS__law_bent p51.2 (PV.tup (x30.2.map fun a => (PV.tup [(PV.int a.1), (PV.int a.2.1), (PV.int a.2.2.1), (PV.int a.2.2.2)]))) _ h_x56) rfl) rfl) ?_; have h := sj h; subst h; exact g_end ⟨_, rfl, rfl⟩)) ?_; intro e hI; subst hI; obtain ⟨x57, h_x57, h⟩ := bnd h; refine g_nx (e := [some (D.scr ns), some (eW s54.1), some (D.int i11), some (D.int (1 + p22.1)), some ((eT D.int) y29.1), some ((eP D.int (eT (e4 D.int D.int D.int D.int))) x30), some (D.int i40), some (D.bl x57), some (PV.enc s54.2.1), some (PV.enc s54.2.2), none]) (s_asg (x_call (q_cons (x_var (eT D.int) (a := y29.1) rfl) (q_cons (x_var D.int (a := (1 + p22.1)) rfl) (q_cons (x_var PV.enc (a := s54.2.1) rfl) (q_cons (x_var PV.enc (a := s54.2.2) rfl) q_nil)))) rfl rfl (hS__law_is_planned _ _ _ _ _ h_x57) rfl) rfl) ?_; obtain ⟨x58, h_x58, h⟩ := bnd h; obtain ⟨t61, h_t61, h⟩ := bnd h; rcases iteo h with ⟨hc, h⟩ | ⟨hc, h⟩; (refine g_iteT (show TX P false _ (.and [(.not (.val (.call 12 [(.var 9)]))), (.not (.val (.call 13 [(.call 10 [(.var 4), (.var 3), (.var 8), (.var 9)]), (.var 7)])))]) t61 [some (D.scr ns), some (eW s54.1), some (D.int i11), some (D.int (1 + p22.1)), some ((eT D.int) y29.1), some ((eP D.int (eT (e4 D.int D.int D.int D.int))) x30), some (D.int i40), some (D.bl x57), some (PV.enc s54.2.1), some (PV.enc s54.2.2), none] from (t_and (t_andC (t_not (t_bl (x_call (q_cons (x_var PV.enc (a := s54.2.2) rfl) q_nil) rfl rfl (hS__law_is_empty_piece _ _ h_x58) rfl))) (fun hc => by (have h := itT hc h_t61; obtain ⟨x59, h_x59, h⟩ := bnd h; obtain ⟨x60, h_x60, h⟩ := bnd h; have h := sj h; subst h; exact (t_and1 (t_not (t_bl (x_call (q_cons (x_call (q_cons (x_var (eT D.int) (a := y29.1) rfl) (q_cons (x_var D.int (a := (1 + p22.1)) rfl) (q_cons (x_var PV.enc (a := s54.2.1) rfl) (q_cons (x_var PV.enc (a := s54.2.2) rfl) q_nil)))) rfl rfl (hS_is_side_by_side _ _ _ _ _ h_x59) rfl) (q_cons (x_var D.bl (a := x57) rfl) q_nil)) rfl rfl (hS__law_says _ _ _ h_x60) rfl)))))) (fun hc => by (have h := itF hc h_t61; cases h; exact ⟨rfl, rfl⟩))))) hc ?_; have h := sj h; subst h; exact g_rt (s_rtv x_bl) ⟨_, _, rfl, rfl, _, _, _, _, _, _, _, _, _, _, rfl⟩); (refine g_iteF (show TX P false _ (.and [(.not (.val (.call 12 [(.var 9)]))), (.not (.val (.call 13 [(.call 10 [(.var 4), (.var 3), (.var 8), (.var 9)]), (.var 7)])))]) t61 [some (D.scr ns), some (eW s54.1), some (D.int i11), some (D.int (1 + p22.1)), some ((eT D.int) y29.1), some ((eP D.int (eT (e4 D.int D.int D.int D.int))) x30), some (D.int i40), some (D.bl x57), some (PV.enc s54.2.1), some (PV.enc s54.2.2), none] from (t_and (t_andC (t_not (t_bl (x_call (q_cons (x_var PV.enc (a := s54.2.2) rfl) q_nil) rfl rfl (hS__law_is_empty_piece _ _ h_x58) rfl))) (fun hc => by (have h := itT hc h_t61; obtain ⟨x59, h_x59, h⟩ := bnd h; obtain ⟨x60, h_x60, h⟩ := bnd h; have h := sj h; subst h; exact (t_and1 (t_not (t_bl (x_call (q_cons (x_call (q_cons (x_var (eT D.int) (a := y29.1) rfl) (q_cons (x_var D.int (a := (1 + p22.1)) rfl) (q_cons (x_var PV.enc (a := s54.2.1) rfl) (q_cons (x_var PV.enc (a := s54.2.2) rfl) q_nil)))) rfl rfl (hS_is_side_by_side _ _ _ _ _ h_x59) rfl) (q_cons (x_var D.bl (a := x57) rfl) q_nil)) rfl rfl (hS__law_says _ _ _ h_x60) rfl)))))) (fun hc => by (have h := itF hc h_t61; cases h; exact ⟨rfl, rfl⟩))))) hc ?_; have h := sj h; subst h; exact g_end ⟨_, _, rfl, .inl rfl, ⟨_, _, _, _, rfl⟩⟩))) ?_ ?_; (intro s66 e hz hI; subst hz; obtain ⟨d62, d63, d64, d65, rfl⟩ := hI; replace h := sumO_r h; have h := sj h; subst h; exact g_end ⟨_, _, rfl, .inl rfl, ⟨_, _, _, _, _, _, _, _, rfl⟩⟩); (intro q d e hz hR; subst hz; obtain ⟨rfl, d41, d42, d43, d44, d45, d46, d47, d48, d49, d50, rfl⟩ := hR; replace h := sumO_l h; have h := sj h; subst h; exact ⟨_, _, rfl, rfl, _, _, _, _, _, _, _, _, _, _, rfl⟩))))) ?_ ?_
  (intro s76 e hz hI; subst hz; obtain ⟨d68, d69, d70, d71, d72, d73, d74, d75, rfl⟩ := hI; replace h := sumO_r h; have h := sj h; subst h; exact g_rt (s_rtv x_bl) ⟨_, _, rfl, .inl rfl, (bk_p (Pl.pl (f := D.scr) _) bk_nil)⟩)
  (intro q d e hz hR; subst hz; obtain ⟨rfl, d12, d13, d14, d15, d16, d17, d18, d19, d20, d21, rfl⟩ := hR; replace h := sumO_l h; have h := sj h; subst h; exact ⟨_, _, rfl, .inl rfl, (bk_p (Pl.pl (f := D.scr) _) bk_nil)⟩)

end Sh
end

section
namespace Sh
open DL TL
theorem l_next (k : Nat) : S_next ⟨evF Pg.T (k + 1)⟩ 1 := fun w n r h => S_of (k := k) rfl (f := Pg.f1) rfl (nextW_runs ⟨evF Pg.T k⟩ w n r h)

theorem l_pick (k : Nat) : S_pick ⟨evF Pg.T (k + 2)⟩ 2 := fun f _ w xs x w' h => S_of (k := k + 1) rfl (f := Pg.f2) rfl (pick_runs ⟨evF Pg.T (k + 1)⟩ 1 (l_next k) f w xs x w' h)

theorem l_pickT (k : Nat) : S_pickT ⟨evF Pg.T (k + 2)⟩ 2 := fun f _ w xs x w' h => S_of (k := k + 1) rfl (f := Pg.f2) rfl (pick_runsT ⟨evF Pg.T (k + 1)⟩ 1 (l_next k) f w xs x w' h)

theorem l_pickFr (k : Nat) : S_pickFr ⟨evF Pg.T (k + 2)⟩ 2 := fun f _ w xs x w' h => S_of (k := k + 1) rfl (f := Pg.f2) rfl (pick_runsF ⟨evF Pg.T (k + 1)⟩ 1 (l_next k) f w xs x w' h)

theorem l_plan_side_by_side (k : Nat) : S_plan_side_by_side ⟨evF Pg.T (k + 1)⟩ := by
  intro x0 x1 r h
  exact S_of (k := k + 0) rfl (f := Pg.f3) rfl (b_plan_side_by_side ⟨evF Pg.T (k + 0)⟩  x0 x1 r h)

theorem l__law_is_number (k : Nat) : S__law_is_number ⟨evF Pg.T (k + 1)⟩ := by
  intro x0 r h
  exact S_of (k := k + 0) rfl (f := Pg.f4) rfl (b__law_is_number ⟨evF Pg.T (k + 0)⟩  x0 r h)

theorem l__law_clash (k : Nat) : S__law_clash ⟨evF Pg.T (k + 1)⟩ := by
  intro x0 x1 r h
  exact S_of (k := k + 0) rfl (f := Pg.f5) rfl (b__law_clash ⟨evF Pg.T (k + 0)⟩  x0 x1 r h)

theorem l__law_is_planned (k : Nat) : S__law_is_planned ⟨evF Pg.T (k + 2)⟩ := by
  intro x0 x1 x2 x3 r h
  exact S_of (k := k + 1) rfl (f := Pg.f6) rfl (b__law_is_planned ⟨evF Pg.T (k + 1)⟩ (l__law_is_number k) (l__law_clash k) x0 x1 x2 x3 r h)

theorem l_is_number (k : Nat) : S_is_number ⟨evF Pg.T (k + 1)⟩ := by
  intro x0 r h
  exact S_of (k := k + 0) rfl (f := Pg.f7) rfl (b_is_number ⟨evF Pg.T (k + 0)⟩  x0 r h)

theorem l_is_piece (k : Nat) : S_is_piece ⟨evF Pg.T (k + 2)⟩ := by
  intro x0 x1 x2 x3 r h
  exact S_of (k := k + 1) rfl (f := Pg.f8) rfl (b_is_piece ⟨evF Pg.T (k + 1)⟩ (l_is_number k) x0 x1 x2 x3 r h)

theorem l_do_meet (k : Nat) : S_do_meet ⟨evF Pg.T (k + 1)⟩ := by
  intro x0 x1 r h
  exact S_of (k := k + 0) rfl (f := Pg.f9) rfl (b_do_meet ⟨evF Pg.T (k + 0)⟩  x0 x1 r h)

theorem l_is_side_by_side (k : Nat) : S_is_side_by_side ⟨evF Pg.T (k + 3)⟩ := by
  intro x0 x1 x2 x3 r h
  exact S_of (k := k + 2) rfl (f := Pg.f10) rfl (b_is_side_by_side ⟨evF Pg.T (k + 2)⟩ (l_is_number (k + 1)) (l_is_piece k) (l_do_meet (k + 1)) x0 x1 x2 x3 r h)

theorem lr__law_bent : ∀ (fu k : Nat), S__law_bent ⟨evF Pg.T (k + fu + 2)⟩ fu
  | 0, k => by
    intro x0 x1 r h
    exact nomatch (show (none : Option _) = some r from h)
  | fu + 1, k => by
    intro x0 x1 r h
    exact S_of (k := k + fu + 2) rfl (f := Pg.f11) rfl (b__law_bent ⟨evF Pg.T (k + fu + 2)⟩ (l_next (k + fu + 1)) (l_pick (k + fu)) fu (lr__law_bent fu k) x0 x1 r h)
theorem l__law_bent (k : Nat) : S__law_bent ⟨evF Pg.T (k + 8)⟩ 6 := lr__law_bent 6 k

theorem l__law_is_empty_piece (k : Nat) : S__law_is_empty_piece ⟨evF Pg.T (k + 2)⟩ := by
  intro x0 r h
  exact S_of (k := k + 1) rfl (f := Pg.f12) rfl (b__law_is_empty_piece ⟨evF Pg.T (k + 1)⟩ (l__law_is_number k) x0 r h)

theorem l__law_says (k : Nat) : S__law_says ⟨evF Pg.T (k + 1)⟩ := by
  intro x0 x1 r h
  exact S_of (k := k + 0) rfl (f := Pg.f13) rfl (b__law_says ⟨evF Pg.T (k + 0)⟩  x0 x1 r h)


theorem law_k (k k' : Nat) (hk : k' = k + 9) (H : ∀ L, law L = some true) (ns : List Int) (h : ns.length ≤ 63) : ∃ ds', evF Pg.T k' 14 [.scr ns] = some (.bl true, ds') := by
  show ∃ ds', (Ctx.mk (evF Pg.T k')).call 14 [.scr ns] = some (.bl true, ds')
  obtain ⟨L, hL⟩ := K31.draws_runs ⟨evF Pg.T (k + 7)⟩ ns 900 h (by decide) (by decide)
  exact ⟨_, S_of (k := k + 8) hk (f := Pg.f14) rfl (b_law ⟨evF Pg.T (k + 8)⟩ (l_next (k + 7)) (l_pick (k + 6)) (l_plan_side_by_side (k + 7)) (l__law_is_planned (k + 6)) (l_is_side_by_side (k + 5)) (l__law_bent k) (l__law_is_empty_piece (k + 6)) (l__law_says (k + 7)) L ns (S_of (k := k + 7) rfl (f := Pg.f0) rfl hL) true (H L))⟩

theorem law_true (H : ∀ L, law L = some true) (ns : List Int) (h : ns.length ≤ 63) : ∃ ds', evF Pg.T 9 14 [.scr ns] = some (.bl true, ds') := law_k 0 9 rfl H ns h
end Sh
end

section
/-! k75 C1: pieces, the looks at them. -/
namespace Sh
open DL TL K31
abbrev Q4 := Int × Int × Int × Int
def pv4 (p : Q4) : PV := .tup [.int p.1, .int p.2.1, .int p.2.2.1, .int p.2.2.2]
theorem pv4_inj {p q : Q4} (h : pv4 p = pv4 q) : p = q := by
  unfold pv4 at h
  injection h with h
  injection h with h1 h
  injection h with h2 h
  injection h with h3 h
  injection h with h4 h
  injection h1 with h1
  injection h2 with h2
  injection h3 with h3
  injection h4 with h4
  exact Prod.ext h1 (Prod.ext h2 (Prod.ext h3 h4))
theorem pv4_ok (p : Q4) : (pv4 p).okN 2 := okN_tup (n := 1) fun v hv => by
  simp only [List.mem_cons, List.not_mem_nil, or_false] at hv
  rcases hv with rfl | rfl | rfl | rfl <;> exact okN_int
def OkP (many hands L : Int) (p : Q4) : Prop := (0 ≤ p.1 ∧ p.1 < hands) ∧ (0 ≤ p.2.1 ∧ p.2.1 < p.2.2.1 ∧ p.2.2.1 ≤ L) ∧ (0 ≤ p.2.2.2 ∧ p.2.2.2 < many)
def PcP (many hands L : Int) (v : PV) : Prop := ∃ p, v = pv4 p ∧ OkP many hands L p
theorem num_eq (v : PV) : is_number v = some (isNm v) := by cases v <;> rfl
theorem lnum_eq (v : PV) : _law_is_number v = some (isNm v) := by cases v <;> rfl
theorem four {vs : List PV} (hl : vs.length = 4) (h : vs.all isNm = true) : ∃ p, PV.tup vs = pv4 p := by
  obtain ⟨ns, rfl⟩ := nm_cases h
  rw [pvI_len] at hl
  rcases ns with _ | ⟨a, _ | ⟨b, _ | ⟨c, _ | ⟨d, _ | ⟨e, r⟩⟩⟩⟩⟩
  · cases hl
  · cases hl
  · cases hl
  · cases hl
  · exact ⟨(a, b, c, d), rfl⟩
  · simp at hl
theorem not_four {vs : List PV} {p : Q4} (e : PV.tup vs = pv4 p) : vs.length = 4 ∧ vs.all isNm = true := by
  unfold pv4 at e
  injection e with e
  rw [e]
  exact ⟨rfl, rfl⟩
theorem at0 (p : Q4) : (pv4 p).at 0 = some (.int p.1) := rfl
theorem at1 (p : Q4) : (pv4 p).at 1 = some (.int p.2.1) := rfl
theorem at2 (p : Q4) : (pv4 p).at 2 = some (.int p.2.2.1) := rfl
theorem at3 (p : Q4) : (pv4 p).at 3 = some (.int p.2.2.2) := rfl
theorem aI (i : Int) : (PV.int i).asI = some i := rfl
theorem is_piece_sp (v : PV) (many hands L : Int) : Sp (is_piece v many hands L) (PcP many hands L v) := by
  unfold is_piece
  cases v with
  | tup vs =>
    by_cases hl : vs.length = 4
    · refine Sp.bind (p := ¬ vs.all isNm = true) ?_ (fun hn => Sp.ff fun ⟨p, e, _⟩ => hn (not_four e).2) fun hn => ?_
      · rw [if_neg (show ¬ (!(PV.tup vs).isT) = true from fun h => by cases h)]
        show Sp ((some (vs.length : Int)).bind _) _
        rw [Option.bind_some, if_neg (by rw [decide_eq_true (show (vs.length : Int) = 4 by omega)]; decide)]
        show Sp ((some vs).bind _) _
        rw [Option.bind_some, szG_of (by omega), Option.bind_some, mapO_map (G := isNm) fun x _ => num_eq x, Option.bind_some, all_id]
        refine Sp.mk ?_
        cases vs.all isNm <;> simp
      · obtain ⟨p, e⟩ := four hl (Classical.byContradiction hn)
        rw [e, if_neg Bool.false_ne_true]
        have uni : PcP many hands L (pv4 p) ↔ OkP many hands L p := ⟨fun ⟨q, e, h⟩ => by rw [pv4_inj e]; exact h, fun h => ⟨p, rfl, h⟩⟩
        refine (Sp.iff ?_ uni.symm)
        refine Sp.bnd (at0 p) (Sp.bnd (aI _) ?_)
        by_cases h1 : 0 ≤ p.1 ∧ p.1 < hands
        · rw [if_pos (by rw [decide_eq_true h1.1, decide_eq_true h1.2]; rfl)]
          refine Sp.bnd (at1 p) (Sp.bnd (aI _) (Sp.bind (p := 0 ≤ p.2.1 ∧ p.2.1 < p.2.2.1 ∧ p.2.2.1 ≤ L) ?_ (fun h2 => ?_) fun h2 => Sp.ff fun h => h2 h.2.1))
          · by_cases h3 : 0 ≤ p.2.1
            · rw [if_pos (decide_eq_true h3)]
              refine Sp.bnd (at2 p) (Sp.bnd (aI _) ?_)
              by_cases h4 : p.2.1 < p.2.2.1
              · rw [if_pos (decide_eq_true h4)]
                exact Sp.dec.iff ⟨fun h => ⟨h3, h4, h⟩, fun h => h.2.2⟩
              · rw [if_neg (by simpa using h4)]
                exact Sp.ff fun h => h4 h.2.1
            · rw [if_neg (by simpa using h3)]
              exact Sp.ff fun h => h3 h.1
          · rw [if_pos rfl]
            refine Sp.bnd (at3 p) (Sp.bnd (aI _) (Sp.mk ?_))
            rw [Bool.and_eq_true, decide_eq_true_iff, decide_eq_true_iff]
            exact ⟨fun h => ⟨h1, h2, h⟩, fun h => h.2.2⟩
        · rw [if_neg (by rw [Bool.and_eq_true, decide_eq_true_iff, decide_eq_true_iff]; exact h1)]
          exact Sp.ff fun h => h1 h.1
    · rw [if_neg (show ¬ (!(PV.tup vs).isT) = true from fun h => by cases h)]
      show Sp (((some (vs.length : Int)).bind _).bind _) _
      rw [Option.bind_some, if_pos (by rw [decide_eq_false (show ¬ (vs.length : Int) = 4 by omega)]; rfl), Option.bind_some, if_pos rfl]
      exact Sp.ff fun ⟨p, e, _⟩ => hl (not_four e).1
  | _ => exact Sp.ff fun ⟨p, e, _⟩ => by unfold pv4 at e; cases e
theorem law_piece {d : Nat} {v : PV} (hv : v.okN d) (hd : d ≤ 60) (many hands L : Int) :
    (((if (!(v).isT) = true then some true else ((v).len).bind fun x20 => if (!decide (x20 = 4)) = true then some true else ((v).asQ).bind fun q21 => (szG q21).bind fun u22 => (compM (fun a23 => (_law_is_number a23).bind fun x24 => if (!x24) = true then some (some a23) else some none) q21).bind fun y25 => (eqG ((eL PV.enc) y25) ((eL PV.enc) ([] : List PV))).bind fun x26 => some (!x26)).bind fun t27 => if t27 = true then some (Ct.rt false) else ((v).at 0).bind fun x28 => ((x28).asI).bind fun x29 => (if (!(decide (0 ≤ x29) && decide (x29 < hands))) = true then some true else ((v).at 3).bind fun x30 => ((x30).asI).bind fun x31 => if (!(decide (0 ≤ x31) && decide (x31 < many))) = true then some true else ((v).at 1).bind fun x32 => ((x32).asI).bind fun x33 => (if decide (0 ≤ x33) = true then ((v).at 2).bind fun x34 => ((x34).asI).bind fun x35 => if decide (x33 < x35) = true then ((PV.int L).asI).bind fun x36 => some (decide (x35 ≤ x36)) else some false else some false).bind fun v37 => some (!v37)).bind fun t38 => if t38 = true then some (Ct.rt false) else some (Ct.nx ()) : Option (Ct Bool Unit)) = some (.nx ()) ∧ PcP many hands L v) ∨
    (((if (!(v).isT) = true then some true else ((v).len).bind fun x20 => if (!decide (x20 = 4)) = true then some true else ((v).asQ).bind fun q21 => (szG q21).bind fun u22 => (compM (fun a23 => (_law_is_number a23).bind fun x24 => if (!x24) = true then some (some a23) else some none) q21).bind fun y25 => (eqG ((eL PV.enc) y25) ((eL PV.enc) ([] : List PV))).bind fun x26 => some (!x26)).bind fun t27 => if t27 = true then some (Ct.rt false) else ((v).at 0).bind fun x28 => ((x28).asI).bind fun x29 => (if (!(decide (0 ≤ x29) && decide (x29 < hands))) = true then some true else ((v).at 3).bind fun x30 => ((x30).asI).bind fun x31 => if (!(decide (0 ≤ x31) && decide (x31 < many))) = true then some true else ((v).at 1).bind fun x32 => ((x32).asI).bind fun x33 => (if decide (0 ≤ x33) = true then ((v).at 2).bind fun x34 => ((x34).asI).bind fun x35 => if decide (x33 < x35) = true then ((PV.int L).asI).bind fun x36 => some (decide (x35 ≤ x36)) else some false else some false).bind fun v37 => some (!v37)).bind fun t38 => if t38 = true then some (Ct.rt false) else some (Ct.nx ()) : Option (Ct Bool Unit)) = some (.rt false) ∧ ¬ PcP many hands L v) := by
  cases v with
  | tup vs =>
    rw [if_neg (show ¬ (!(PV.tup vs).isT) = true from fun h => by cases h)]
    have e1 : (PV.tup vs).len = some (vs.length : Int) := rfl
    rw [e1, Option.bind_some]
    by_cases hl : vs.length = 4
    · rw [if_neg (by rw [decide_eq_true (show (vs.length : Int) = 4 by omega)]; decide)]
      have e2 : (PV.tup vs).asQ = some vs := rfl
      rw [e2, Option.bind_some, szG_of (by omega), Option.bind_some, compM_filter (c := fun a => !isNm a) fun x _ => by rw [lnum_eq, Option.bind_some]; cases isNm x <;> rfl, Option.bind_some]
      have el := okN_elem hv
      rw [eqG_nilL (n := d) (fun x hx => el x ((List.mem_filter.mp hx).1)) (by omega), filter_nil, Option.bind_some, Option.bind_some]
      have ea : (vs.all fun x => !!isNm x) = vs.all isNm := by congr 1; funext x; rw [Bool.not_not]
      rw [ea]
      cases ha : vs.all isNm with
      | false => exact .inr ⟨rfl, fun ⟨p, e, _⟩ => by rw [(not_four e).2] at ha; cases ha⟩
      | true =>
        obtain ⟨p, e⟩ := four hl ha
        rw [if_neg (show ¬ (!true) = true by decide), e, at0, Option.bind_some, aI, Option.bind_some]
        have uni : PcP many hands L (pv4 p) ↔ OkP many hands L p := ⟨fun ⟨q, e, h⟩ => by rw [pv4_inj e]; exact h, fun h => ⟨p, rfl, h⟩⟩
        rw [uni]
        by_cases h1 : 0 ≤ p.1 ∧ p.1 < hands
        · rw [if_neg (by rw [decide_eq_true h1.1, decide_eq_true h1.2]; decide), at3, Option.bind_some, aI, Option.bind_some]
          by_cases h2 : 0 ≤ p.2.2.2 ∧ p.2.2.2 < many
          · rw [if_neg (by rw [decide_eq_true h2.1, decide_eq_true h2.2]; decide), at1, Option.bind_some, aI, Option.bind_some]
            by_cases h3 : 0 ≤ p.2.1
            · rw [if_pos (decide_eq_true h3), at2, Option.bind_some, aI, Option.bind_some]
              by_cases h4 : p.2.1 < p.2.2.1
              · rw [if_pos (decide_eq_true h4), aI, Option.bind_some]
                by_cases h5 : p.2.2.1 ≤ L
                · rw [decide_eq_true h5]
                  exact .inl ⟨rfl, h1, ⟨h3, h4, h5⟩, h2⟩
                · rw [decide_eq_false h5]
                  exact .inr ⟨rfl, fun h => h5 h.2.1.2.2⟩
              · rw [if_neg (by simpa using h4)]
                exact .inr ⟨rfl, fun h => h4 h.2.1.2.1⟩
            · rw [if_neg (by simpa using h3)]
              exact .inr ⟨rfl, fun h => h3 h.2.1.1⟩
          · rw [if_pos (by rw [Bool.not_eq_true', Bool.and_eq_false_iff, decide_eq_false_iff_not, decide_eq_false_iff_not]; omega)]
            exact .inr ⟨rfl, fun h => h2 h.2.2⟩
        · rw [if_pos (by rw [Bool.not_eq_true', Bool.and_eq_false_iff, decide_eq_false_iff_not, decide_eq_false_iff_not]; omega)]
          exact .inr ⟨rfl, fun h => h1 h.1⟩
    · rw [if_pos (by rw [decide_eq_false (show ¬ (vs.length : Int) = 4 by omega)]; rfl)]
      exact .inr ⟨rfl, fun ⟨p, e, _⟩ => hl (not_four e).1⟩
  | _ => exact .inr ⟨rfl, fun ⟨p, e, _⟩ => by unfold pv4 at e; cases e⟩
/-! two pieces -/
def Meet (p q : Q4) : Prop := (p.1 = q.1 ∨ p.2.2.2 = q.2.2.2) ∧ p.2.1 < q.2.2.1 ∧ q.2.1 < p.2.2.1
theorem Meet.symm {p q : Q4} (h : Meet p q) : Meet q p := ⟨h.1.imp Eq.symm Eq.symm, h.2.2, h.2.1⟩
theorem eq_ii (i j : Int) : eqG (PV.enc (.int i)) (PV.enc (.int j)) = some (decide (i = j)) := eqG_C D.int (by decide) i j
theorem do_meet_sp (p q : Q4) : Sp (do_meet (pv4 p) (pv4 q)) (Meet p q) := by
  unfold do_meet
  refine Sp.bnd (at0 p) (Sp.bnd (at0 q) (Sp.bnd (eq_ii _ _) (Sp.bind (p := ¬ (p.1 = q.1 ∨ p.2.2.2 = q.2.2.2)) ?_ (fun hn => Sp.ff fun h => hn h.1) fun hn => ?_)))
  · by_cases h1 : p.1 = q.1
    · rw [if_neg (by rw [decide_eq_true h1]; decide)]
      exact Sp.ff fun h => h (.inl h1)
    · rw [if_pos (by rw [decide_eq_false h1]; rfl)]
      refine Sp.bnd (at3 p) (Sp.bnd (at3 q) (Sp.bnd (eq_ii _ _) ?_))
      exact Sp.ndec.iff ⟨fun h k => k.elim h1 h, fun h k => h (.inr k)⟩
  · have hn := Classical.byContradiction hn
    rw [if_neg Bool.false_ne_true]
    refine Sp.bnd (at1 p) (Sp.bnd (at2 q) (Sp.bnd (aI _) (Sp.bnd (aI _) ?_)))
    by_cases h1 : p.2.1 < q.2.2.1
    · rw [if_pos (decide_eq_true h1)]
      refine Sp.bnd (at1 q) (Sp.bnd (at2 p) (Sp.bnd (aI _) (Sp.bnd (aI _) ?_)))
      exact Sp.dec.iff ⟨fun h => ⟨hn, h1, h⟩, fun h => h.2.2⟩
    · rw [if_neg (by simpa using h1)]
      exact Sp.ff fun h => h1 h.2.1
theorem clash_sp (p q : Q4) : Sp (_law_clash (pv4 p) (pv4 q)) (Meet p q) := by
  unfold _law_clash
  refine Sp.bnd (at1 p) (Sp.bnd (at2 q) (Sp.bnd (aI _) (Sp.bnd (aI _) (Sp.bind (p := p.2.1 < q.2.2.1 ∧ q.2.1 < p.2.2.1) ?_ (fun h2 => ?_) fun hn => Sp.ff fun h => hn h.2))))
  · by_cases h1 : p.2.1 < q.2.2.1
    · rw [if_pos (decide_eq_true h1)]
      refine Sp.bnd (at1 q) (Sp.bnd (at2 p) (Sp.bnd (aI _) (Sp.bnd (aI _) ?_)))
      exact Sp.dec.iff ⟨fun h => ⟨h1, h⟩, fun h => h.2⟩
    · rw [if_neg (by simpa using h1)]
      exact Sp.ff fun h => h1 h.1
  · rw [if_pos rfl]
    refine Sp.bnd (at0 p) (Sp.bnd (at0 q) (Sp.bnd (eq_ii _ _) ?_))
    by_cases h1 : p.1 = q.1
    · rw [if_pos (decide_eq_true h1)]
      exact Sp.tt ⟨.inl h1, h2⟩
    · rw [if_neg (by simpa using h1)]
      refine Sp.bnd (at3 p) (Sp.bnd (at3 q) ?_)
      rw [eq_ii]
      exact Sp.dec.iff ⟨fun h => ⟨.inr h, h2⟩, fun h => h.1.resolve_left h1⟩
end Sh
end

section
/-! k75 C2: the looks agree. -/
namespace Sh
open DL TL K31
theorem ceil_eq {s h : Int} (hh : 1 ≤ h ∧ h ≤ 4) : -divD (-s) h = divD (s + h - 1) h := by
  unfold divD
  rw [if_pos (by omega), if_pos (by omega)]
  have : h = 1 ∨ h = 2 ∨ h = 3 ∨ h = 4 := by omega
  rcases this with e | e | e | e <;> rw [e] <;> omega
theorem divOk4 {h : Int} (hh : 1 ≤ h ∧ h ≤ 4) : divOk h = true := by
  have : h = 1 ∨ h = 2 ∨ h = 3 ∨ h = 4 := by omega
  rcases this with e | e | e | e <;> rw [e] <;> decide
def LL (hours : List Int) (h : Int) : Int := (maxI ([0] ++ hours ++ [divD (hours.sum + h - 1) h])).getD 0
theorem maxI_LL (hours : List Int) (h : Int) : maxI ([0] ++ hours ++ [divD (hours.sum + h - 1) h]) = some (LL hours h) := rfl
def SP (hours : List Int) (h : Int) (ps : List Q4) : Prop := (∀ p ∈ ps, OkP hours.length h (LL hours h) p) ∧ (∀ (i j : Nat) (hi : i < j) (hj : j < ps.length), ¬ Meet ps[i] ps[j]) ∧
  ∀ k : Nat, k < hours.length → (((ps.filter fun q => decide (q.2.2.2 = (k : Int))).map fun q => q.2.2.1 - q.2.1).sum) = ge hours k
def PlanP (hours : List Int) (h : Int) (len plan : PV) : Prop := len = .int (LL hours h) ∧ ∃ ps, plan = .tup (ps.map pv4) ∧ SP hours h ps
theorem eq_int {d : Nat} {v : PV} (hv : v.okN d) (hd : d ≤ 60) (i : Int) : ∃ b, eqG (PV.enc v) (D.int i) = some b ∧ (isNm v = true → (b = true ↔ v = .int i)) := by
  have hs : eqG (PV.enc v) (D.int i) = some ((PV.enc v).eqv (D.int i)) := by
    unfold eqG
    rw [if_pos (by rw [TL.shp_of hv (by omega)]; rfl)]
  refine ⟨_, hs, fun hn => ?_⟩
  cases v with
  | int j =>
    have e : eqG (PV.enc (.int j)) (D.int i) = some (decide (j = i)) := eqG_C D.int (by decide) j i
    rw [hs] at e
    rw [Option.some.inj e, decide_eq_true_iff]
    exact ⟨fun h => by rw [h], fun h => by injection h⟩
  | _ => cases hn
theorem at_pv {ps : List Q4} {k : Nat} (h : k < ps.length) : (PV.tup (ps.map pv4)).at (k : Int) = some (pv4 ps[k]) := by
  show L2.atI (ps.map pv4) (k : Int) = _
  rw [at_in (by rw [List.length_map]; exact h), List.getElem_map]
theorem pcs {many hands L : Int} : ∀ {vs : List PV}, (∀ v ∈ vs, PcP many hands L v) ↔ ∃ ps : List Q4, vs = ps.map pv4 ∧ ∀ p ∈ ps, OkP many hands L p
  | [] => ⟨fun _ => ⟨[], rfl, fun p h => by cases h⟩, fun _ v h => by cases h⟩
  | v :: vs => by
    constructor
    · intro h
      obtain ⟨p, rfl, hp⟩ := h v List.mem_cons_self
      obtain ⟨ps, rfl, hps⟩ := pcs.mp fun w hw => h w (List.mem_cons_of_mem _ hw)
      refine ⟨p :: ps, rfl, fun q hq => ?_⟩
      rcases List.mem_cons.mp hq with rfl | hq
      · exact hp
      · exact hps q hq
    · rintro ⟨ps, e, h⟩ w hw
      rw [e] at hw
      obtain ⟨p, hp, rfl⟩ := List.mem_map.mp hw
      exact ⟨p, rfl, h p hp⟩
theorem map_inj4 : ∀ {ps qs : List Q4}, ps.map pv4 = qs.map pv4 → ps = qs
  | [], [], _ => rfl
  | [], _ :: _, h => by cases h
  | _ :: _, [], h => by cases h
  | p :: ps, q :: qs, h => by
    rw [List.map_cons, List.map_cons] at h
    injection h with h1 h2
    rw [pv4_inj h1, map_inj4 h2]
theorem own_eq (ps : List Q4) (k : Int) : compM (fun a41 => ((a41).at 3).bind fun x42 => (eqG (PV.enc x42) (D.int k)).bind fun x43 => if x43 = true then ((a41).at 2).bind fun x44 => ((a41).at 1).bind fun x45 => ((x44).asI).bind fun x46 => ((x45).asI).bind fun x47 => some (some (x46 - x47)) else some none) (ps.map pv4) = some ((ps.filter fun q => decide (q.2.2.2 = k)).map fun q => q.2.2.1 - q.2.1) := by
  induction ps with
  | nil => rfl
  | cons p ps ih =>
    rw [List.map_cons, compM]
    have e : eqG (PV.enc (.int p.2.2.2)) (D.int k) = some (decide (p.2.2.2 = k)) := eqG_C D.int (by decide) _ _
    rw [at3, Option.bind_some, e, Option.bind_some]
    by_cases c : p.2.2.2 = k
    · rw [if_pos (decide_eq_true c), at2, Option.bind_some, at1, Option.bind_some, aI, Option.bind_some, aI, Option.bind_some, Option.bind_some, ih, List.filter_cons_of_pos (by simpa using c)]
      rfl
    · rw [if_neg (by simpa using c), Option.bind_some, ih, List.filter_cons_of_neg (by simpa using c)]
      try rfl
theorem dn_pv (ps : List Q4) : dnT (dn4 PV.asI PV.asI PV.asI PV.asI) (.tup (ps.map pv4)) = some ps := by
  show mapO (dn4 PV.asI PV.asI PV.asI PV.asI) (ps.map pv4) = some ps
  induction ps with
  | nil => rfl
  | cons p ps ih =>
    show (some (p.1, p.2.1, p.2.2.1, p.2.2.2)).bind _ = _
    rw [Option.bind_some]
    show (mapO (dn4 PV.asI PV.asI PV.asI PV.asI) (ps.map pv4)).bind _ = _
    rw [ih]; rfl
section
variable {hours : List Int} {h : Int} (hh : 1 ≤ h ∧ h ≤ 4) (hl : hours.length ≤ 1000)
include hh hl
theorem is_side_sp {d k d2 : Nat} {len plan : PV} (hv : len.okN d2) (hd2 : d2 ≤ 60) (hp : Nc d k plan) (hk : k ≤ 100000) : Sp (is_side_by_side hours h len plan) (PlanP hours h len plan) := by
  unfold is_side_by_side
  refine Sp.bnd (catG_of (by simp; omega)) (Sp.bnd (divG_of (divOk4 hh)) (Sp.bnd (catG_of (by simp; omega)) ?_))
  rw [ceil_eq hh]
  obtain ⟨b, e1, e2⟩ := eq_int hv hd2 (LL hours h)
  refine Sp.bnd (maxI_LL hours h) (Sp.bnd e1 (Sp.bind (p := ¬ len = .int (LL hours h)) ?_ (fun hn => Sp.ff fun H => hn H.1) fun hn => ?_))
  · cases b with
    | false =>
      rw [if_pos (by rfl)]
      exact Sp.tt fun e => by rw [e] at e2; have := (e2 rfl).mpr rfl; cases this
    | true =>
      rw [if_neg (by decide), num_eq, Option.bind_some]
      refine Sp.mk ?_
      cases hm : isNm len with
      | false => exact ⟨(fun _ e => by rw [e] at hm; cases hm), fun _ => rfl⟩
      | true => exact ⟨(fun e => by cases e), fun e => (e ((e2 hm).mp rfl)).elim⟩
  · have hn := Classical.byContradiction hn
    subst hn
    rw [if_neg Bool.false_ne_true]
    refine Sp.bind (p := ¬ ∃ ps : List Q4, plan = .tup (ps.map pv4) ∧ ∀ p ∈ ps, OkP hours.length h (LL hours h) p) ?_ (fun hn => Sp.ff fun ⟨_, ps, e, H⟩ => hn ⟨ps, e, H.1⟩) fun hn => ?_
    · cases plan with
      | tup vs =>
        have hlen := hp.len
        rw [if_neg (show ¬ (!(PV.tup vs).isT) = true from fun h => by cases h)]
        show Sp ((some vs).bind _) _
        obtain ⟨ys, g1, g2⟩ := mapO_sp (F := fun a10 => ((PV.int (LL hours h)).asI).bind fun x11 => is_piece a10 (hours.length : Int) h x11) (p := PcP hours.length h (LL hours h)) (xs := vs) fun v _ => Sp.bnd (aI _) (is_piece_sp v _ _ _)
        rw [Option.bind_some, szG_of (by omega), Option.bind_some, g1, Option.bind_some]
        refine Sp.mk ?_
        have e : (∃ ps : List Q4, PV.tup vs = .tup (ps.map pv4) ∧ ∀ p ∈ ps, OkP hours.length h (LL hours h) p) ↔ ys.all id = true := by
          rw [g2, pcs]
          exact ⟨fun ⟨ps, e, H⟩ => ⟨ps, by injection e, H⟩, fun ⟨ps, e, H⟩ => ⟨ps, by rw [e], H⟩⟩
        rw [e]
        cases ys.all id <;> simp
      | _ => exact Sp.tt fun ⟨ps, e, _⟩ => by cases e
    · obtain ⟨ps, rfl, hok⟩ := Classical.byContradiction hn
      have hpl : ps.length ≤ k := by have := hp.len; rw [List.length_map] at this; exact this
      rw [if_neg Bool.false_ne_true]
      have uni : ∀ qs : List Q4, PV.tup (ps.map pv4) = .tup (qs.map pv4) → qs = ps := fun qs e => by injection e with e; exact (map_inj4 e).symm
      have el : (PV.tup (ps.map pv4)).len = some (ps.length : Int) := by
        show some (((ps.map pv4).length : Nat) : Int) = _
        rw [List.length_map]
      rw [el, Option.bind_some, rngG_of (by omega) (by omega), Option.bind_some]
      rcases loopO_sp (step := fun (i19 : Int) (s17 : Unit) => ((some (ps.length : Int)).bind fun x25 => (rngG (i19 + 1) x25).bind fun r26 => (szG r26).bind fun u27 => (compM (fun a28 => ((PV.tup (ps.map pv4)).at i19).bind fun x29 => ((PV.tup (ps.map pv4)).at a28).bind fun x30 => (do_meet x29 x30).bind fun x31 => if x31 = true then some (some a28) else some none) r26).bind fun y32 => if (!decide (y32 = [])) = true then some (Ct.rt false) else some (Ct.nx ()) : Option (Ct Bool Unit))) (p := fun i => ∀ (j : Nat) (hi : i.toNat < j) (hj : j < ps.length), ¬ Meet ps[i.toNat] ps[j]) (v := false) (xs := rg 0 (ps.length : Int)) (fun i hi => by
        obtain ⟨i, hil, rfl⟩ := mem_rg0 hi
        obtain ⟨ys, g1, g2, _⟩ := compM_sp (F := fun a28 => ((PV.tup (ps.map pv4)).at (i : Int)).bind fun x29 => ((PV.tup (ps.map pv4)).at a28).bind fun x30 => (do_meet x29 x30).bind fun x31 => if x31 = true then some (some a28) else some none) (p := fun a => ∀ (hj : a.toNat < ps.length), ¬ Meet ps[i] ps[a.toNat]) (xs := rg ((i : Int) + 1) (ps.length : Int)) fun a ha => by
          have ha := mem_rg.mp ha
          obtain ⟨j, rfl⟩ : ∃ j : Nat, a = j := ⟨a.toNat, by omega⟩
          have hj : j < ps.length := by omega
          obtain ⟨b, m1, m2⟩ := do_meet_sp ps[i] ps[j]
          rw [at_pv hil, Option.bind_some, at_pv hj, Option.bind_some, m1, Option.bind_some]
          cases b with
          | false => exact .inl ⟨rfl, fun _ hm => by have := m2.mpr hm; cases this⟩
          | true => exact .inr ⟨(j : Int), rfl, fun hm => hm hj (m2.mp rfl)⟩
        rw [Option.bind_some, rngG_of (by omega) (by omega), Option.bind_some, szG_of (by rw [rg_len]; omega), Option.bind_some, g1, Option.bind_some]
        have e : ys = [] ↔ ∀ (j : Nat) (hi : i < j) (hj : j < ps.length), ¬ Meet ps[i] ps[j] := g2.trans ⟨fun H j hij hj => H (j : Int) (mem_rg.mpr ⟨by omega, by omega⟩) hj, fun H a ha hj => by
          have ha := mem_rg.mp ha
          exact H a.toNat (by omega) hj⟩
        by_cases c : ys = []
        · exact .inl ⟨by rw [decide_eq_true c]; rfl, e.mp c⟩
        · exact .inr ⟨by rw [decide_eq_false c]; rfl, fun H => c (e.mpr H)⟩) with ⟨e, H⟩ | ⟨e, H⟩
      · rw [e, Option.bind_some, sumO_inr, rngG_of (by omega) (by omega), Option.bind_some, szG_of (by rw [rg_len]; omega), Option.bind_some]
        obtain ⟨zs, k1, k2⟩ := mapO_sp (F := fun a38 => ((PV.tup (ps.map pv4)).asQ).bind fun q39 => (szG q39).bind fun u40 => (compM (fun a41 => ((a41).at 3).bind fun x42 => (eqG (PV.enc x42) (D.int a38)).bind fun x43 => if x43 = true then ((a41).at 2).bind fun x44 => ((a41).at 1).bind fun x45 => ((x44).asI).bind fun x46 => ((x45).asI).bind fun x47 => some (some (x46 - x47)) else some none) q39).bind fun y48 => (L2.atI hours a38).bind fun x49 => some (decide ((y48.sum) = x49))) (p := fun a => (((ps.filter fun q => decide (q.2.2.2 = a)).map fun q => q.2.2.1 - q.2.1).sum) = ge hours a) (xs := rg 0 (hours.length : Int)) fun a ha => by
          have ha := mem_rg.mp ha
          refine Sp.bnd (show (PV.tup (ps.map pv4)).asQ = some (ps.map pv4) from rfl) (Sp.bnd (szG_of (by rw [List.length_map]; omega)) (Sp.bnd (own_eq ps a) (Sp.bnd (ge_at ha.1 ha.2) Sp.dec)))
        rw [k1, Option.bind_some]
        refine Sp.mk (k2.trans ⟨fun K => ⟨rfl, ps, rfl, hok, fun i j hij hj => ?_, fun k hk => K (k : Int) (mem_rg.mpr ⟨by omega, by omega⟩)⟩, fun ⟨_, qs, e, K⟩ a ha => ?_⟩)
        · exact H (i : Int) (mem_rg.mpr ⟨by omega, by omega⟩) j hij hj
        · have ha := mem_rg.mp ha
          rw [uni qs e] at K
          have := K.2.2 a.toNat (by omega)
          rwa [show ((a.toNat : Nat) : Int) = a by omega] at this
      · rw [e, Option.bind_some]
        refine Sp.ff fun ⟨_, qs, e, K⟩ => H fun i hi j hij hj => ?_
        rw [uni qs e] at K
        exact K.2.1 i.toNat j hij hj
theorem law_plan_sp {d k d2 : Nat} {len plan : PV} (hv : len.okN d2) (hd2 : d2 ≤ 60) (hp : Nc d k plan) (hd : d ≤ 60) (hk : k ≤ 100000) : Sp (_law_is_planned hours h len plan) (PlanP hours h len plan) := by
  unfold _law_is_planned
  obtain ⟨b, e1, e2⟩ := eq_int hv hd2 (LL hours h)
  rw [lnum_eq, Option.bind_some]
  refine Sp.bind (p := ¬ (len = .int (LL hours h) ∧ ∃ vs, plan = .tup vs)) ?_ (fun hn => Sp.ff fun ⟨H1, ps, e, _⟩ => hn ⟨H1, _, e⟩) fun hn => ?_
  · cases hm : isNm len with
    | false => exact Sp.tt fun H => by rw [H.1] at hm; cases hm
    | true =>
      rw [if_neg (show ¬ (!true) = true by decide)]
      refine Sp.bnd (catG_of (by simp; omega)) (Sp.bnd (divG_of (divOk4 hh)) (Sp.bnd (catG_of (by simp; omega)) (Sp.bnd (maxI_LL hours h) (Sp.bnd e1 ?_))))
      cases b with
      | false =>
        rw [if_pos (by rfl)]
        exact Sp.tt fun e => by have := (e2 hm).mpr e.1; cases this
      | true =>
        rw [if_neg (by decide)]
        have el := (e2 hm).mp rfl
        refine Sp.mk ?_
        cases plan with
        | tup vs => exact ⟨fun e => (by cases e), fun e => (e ⟨el, vs, rfl⟩).elim⟩
        | _ => exact ⟨(fun _ H => by obtain ⟨_, vs, e⟩ := H; cases e), fun _ => rfl⟩
  · obtain ⟨rfl, vs, rfl⟩ := Classical.byContradiction hn
    have hlen := hp.len
    rw [if_neg Bool.false_ne_true]
    show Sp ((some vs).bind _) _
    rw [Option.bind_some]
    rcases loopO_sp (step := fun (i11 : PV) (s9 : Unit) => ((if (!(i11).isT) = true then some true else ((i11).len).bind fun x20 => if (!decide (x20 = 4)) = true then some true else ((i11).asQ).bind fun q21 => (szG q21).bind fun u22 => (compM (fun a23 => (_law_is_number a23).bind fun x24 => if (!x24) = true then some (some a23) else some none) q21).bind fun y25 => (eqG ((eL PV.enc) y25) ((eL PV.enc) ([] : List PV))).bind fun x26 => some (!x26)).bind fun t27 => if t27 = true then some (Ct.rt false) else ((i11).at 0).bind fun x28 => ((x28).asI).bind fun x29 => (if (!(decide (0 ≤ x29) && decide (x29 < h))) = true then some true else ((i11).at 3).bind fun x30 => ((x30).asI).bind fun x31 => if (!(decide (0 ≤ x31) && decide (x31 < (hours.length : Int)))) = true then some true else ((i11).at 1).bind fun x32 => ((x32).asI).bind fun x33 => (if decide (0 ≤ x33) = true then ((i11).at 2).bind fun x34 => ((x34).asI).bind fun x35 => if decide (x33 < x35) = true then ((PV.int (LL hours h)).asI).bind fun x36 => some (decide (x35 ≤ x36)) else some false else some false).bind fun v37 => some (!v37)).bind fun t38 => if t38 = true then some (Ct.rt false) else some (Ct.nx ()) : Option (Ct Bool Unit))) (p := PcP hours.length h (LL hours h)) (v := false) (xs := vs) (fun v hv => law_piece (hp.elem v hv) hd hours.length h (LL hours h)) with ⟨e, H⟩ | ⟨e, H⟩
    · rw [e, Option.bind_some, sumO_inr]
      obtain ⟨ps, rfl, hok⟩ := pcs.mp H
      have hpl : ps.length ≤ k := by rw [List.length_map] at hlen; exact hlen
      have uni : ∀ qs : List Q4, PV.tup (ps.map pv4) = .tup (qs.map pv4) → qs = ps := fun qs e => by injection e with e; exact (map_inj4 e).symm
      have el : (PV.tup (ps.map pv4)).len = some (ps.length : Int) := by
        show some (((ps.map pv4).length : Nat) : Int) = _
        rw [List.length_map]
      rw [el, Option.bind_some, rngG_of (by omega) (by omega), Option.bind_some]
      rcases loopO_sp (step := fun (i46 : Int) (s44 : Unit) => ((rngG 0 i46).bind fun r55 => (szG r55).bind fun u56 => (compM (fun a57 => ((PV.tup (ps.map pv4)).at a57).bind fun x58 => ((PV.tup (ps.map pv4)).at i46).bind fun x59 => (_law_clash x58 x59).bind fun x60 => if x60 = true then some (some a57) else some none) r55).bind fun y61 => if (!decide (y61 = [])) = true then some (Ct.rt false) else some (Ct.nx ()) : Option (Ct Bool Unit))) (p := fun j => ∀ (hj : j.toNat < ps.length) (i : Nat) (hi : i < j.toNat), ¬ Meet ps[i] ps[j.toNat]) (v := false) (xs := rg 0 (ps.length : Int)) (fun j hj => by
        obtain ⟨j, hjl, rfl⟩ := mem_rg0 hj
        obtain ⟨ys, g1, g2, _⟩ := compM_sp (F := fun a57 => ((PV.tup (ps.map pv4)).at a57).bind fun x58 => ((PV.tup (ps.map pv4)).at (j : Int)).bind fun x59 => (_law_clash x58 x59).bind fun x60 => if x60 = true then some (some a57) else some none) (p := fun a => ∀ (hi : a.toNat < ps.length), ¬ Meet ps[a.toNat] ps[j]) (xs := rg 0 (j : Int)) fun a ha => by
          obtain ⟨i, hi, rfl⟩ := mem_rg0 ha
          obtain ⟨b, m1, m2⟩ := clash_sp (ps[i]'(by omega)) ps[j]
          rw [at_pv (show i < ps.length by omega), Option.bind_some, at_pv hjl, Option.bind_some, m1, Option.bind_some]
          cases b with
          | false => exact .inl ⟨rfl, fun _ hm => by have := m2.mpr hm; cases this⟩
          | true => exact .inr ⟨(i : Int), rfl, fun hm => hm (show i < ps.length by omega) (m2.mp rfl)⟩
        rw [rngG_of (by omega) (by omega), Option.bind_some, szG_of (by rw [rg_len]; omega), Option.bind_some, g1, Option.bind_some]
        have e : ys = [] ↔ ∀ (hj : j < ps.length) (i : Nat) (hi : i < j), ¬ Meet ps[i] ps[j] := g2.trans ⟨fun H hj i hij => H (i : Int) (mem_rg.mpr ⟨by omega, by omega⟩) (show i < ps.length by omega), fun H a ha hi => by
          have ha := mem_rg.mp ha
          exact H hjl a.toNat (by omega)⟩
        by_cases c : ys = []
        · exact .inl ⟨by rw [decide_eq_true c]; rfl, e.mp c⟩
        · exact .inr ⟨by rw [decide_eq_false c]; rfl, fun H => c (e.mpr H)⟩) with ⟨e, H⟩ | ⟨e, H⟩
      · rw [e, Option.bind_some, sumO_inr, rngG_of (by omega) (by omega), Option.bind_some, szG_of (by rw [rg_len]; omega), Option.bind_some]
        obtain ⟨ys, k1, k2, _⟩ := compM_sp (F := fun a67 => ((dnT (dn4 PV.asI PV.asI PV.asI PV.asI)) (PV.tup (ps.map pv4))).bind fun x68 => (szG x68).bind fun u69 => (L2.atI hours a67).bind fun x71 => if (!decide ((((x68.filter fun a70 => (decide (a70.2.2.2 = a67))).map fun a70 => (a70.2.2.1 - a70.2.1)).sum) = x71)) = true then some (some a67) else some none) (p := fun a => (((ps.filter fun q => decide (q.2.2.2 = a)).map fun q => q.2.2.1 - q.2.1).sum) = ge hours a) (xs := rg 0 (hours.length : Int)) fun a ha => by
          have ha := mem_rg.mp ha
          rw [dn_pv, Option.bind_some, szG_of (by omega), Option.bind_some, ge_at ha.1 ha.2, Option.bind_some]
          by_cases c : (((ps.filter fun q => decide (q.2.2.2 = a)).map fun q => q.2.2.1 - q.2.1).sum) = ge hours a
          · exact .inl ⟨by rw [decide_eq_true c]; rfl, c⟩
          · exact .inr ⟨a, by rw [decide_eq_false c]; rfl, c⟩
        rw [k1, Option.bind_some]
        refine Sp.mk (decide_eq_true_iff.trans (k2.trans ⟨fun K => ⟨rfl, ps, rfl, hok, fun i j hij hj => ?_, fun k hk => K (k : Int) (mem_rg.mpr ⟨by omega, by omega⟩)⟩, fun ⟨_, qs, e, K⟩ a ha => ?_⟩))
        · exact H (j : Int) (mem_rg.mpr ⟨by omega, by omega⟩) hj i hij
        · have ha := mem_rg.mp ha
          rw [uni qs e] at K
          have := K.2.2 a.toNat (by omega)
          rwa [show ((a.toNat : Nat) : Int) = a by omega] at this
      · rw [e, Option.bind_some]
        refine Sp.ff fun ⟨_, qs, e, K⟩ => H fun j hj hjl i hij => ?_
        rw [uni qs e] at K
        exact K.2.1 i j.toNat hij hjl
    · rw [e, Option.bind_some]
      refine Sp.ff fun ⟨_, ps, e, K⟩ => H (pcs.mpr ⟨ps, by injection e, K.1⟩)
end
end Sh
end

section
/-! k75 C3: the plan that is told. -/
namespace Sh
open DL TL K31
theorem foldmax : ∀ (xs : List Int) (a : Int), a ≤ xs.foldl (fun a b => if b > a then b else a) a ∧ ∀ x ∈ xs, x ≤ xs.foldl (fun a b => if b > a then b else a) a
  | [], a => ⟨Int.le_refl _, fun x h => by cases h⟩
  | y :: xs, a => by
    obtain ⟨h1, h2⟩ := foldmax xs (if y > a then y else a)
    rw [List.foldl_cons]
    refine ⟨Int.le_trans ?_ h1, fun x hx => ?_⟩
    · split <;> omega
    · rcases List.mem_cons.mp hx with rfl | hx
      · exact Int.le_trans (by split <;> omega) h1
      · exact h2 x hx
theorem LL_eq (hours : List Int) (h : Int) : LL hours h = (hours ++ [divD (hours.sum + h - 1) h]).foldl (fun a b => if b > a then b else a) 0 := rfl
theorem LL_ok {hours : List Int} {h : Int} (hh : 1 ≤ h ∧ h ≤ 4) : 0 ≤ LL hours h ∧ (∀ x ∈ hours, x ≤ LL hours h) ∧ hours.sum ≤ h * LL hours h := by
  obtain ⟨h1, h2⟩ := foldmax (hours ++ [divD (hours.sum + h - 1) h]) 0
  rw [← LL_eq] at h1 h2
  refine ⟨h1, fun x hx => h2 x (List.mem_append_left _ hx), ?_⟩
  have h3 := h2 (divD (hours.sum + h - 1) h) (List.mem_append_right _ List.mem_cons_self)
  unfold divD at h3
  rw [if_pos (by omega)] at h3
  have : h = 1 ∨ h = 2 ∨ h = 3 ∨ h = 4 := by omega
  rcases this with e | e | e | e <;> rw [e] at h3 ⊢ <;> omega
def Sf (hours : List Int) (i : Nat) : Int := (hours.take i).sum
theorem Sf_succ {hours : List Int} {i : Nat} (h : i < hours.length) : Sf hours (i + 1) = Sf hours i + ge hours i := by
  unfold Sf
  rw [List.take_succ_eq_append_getElem h, List.sum_append, ge_nat h]
  simp
theorem Sf_all {hours : List Int} : Sf hours hours.length = hours.sum := by unfold Sf; rw [List.take_length]
def own (ps : List Q4) (k : Int) : Int := ((ps.filter fun q => decide (q.2.2.2 = k)).map fun q => q.2.2.1 - q.2.1).sum
theorem own_app (ps : List Q4) (p : Q4) (k : Int) : own (ps ++ [p]) k = own ps k + if p.2.2.2 = k then p.2.2.1 - p.2.1 else 0 := by
  unfold own
  rw [List.filter_append, List.map_append, List.sum_append]
  by_cases c : p.2.2.2 = k
  · rw [if_pos c, List.filter_cons_of_pos (by simpa using c)]; simp
  · rw [if_neg c, List.filter_cons_of_neg (by simpa using c)]; simp
theorem own_none {ps : List Q4} {k : Int} (h : ∀ p ∈ ps, p.2.2.2 < k) : own ps k = 0 := by
  unfold own
  rw [List.filter_eq_nil_iff.mpr fun p hp => by have := h p hp; simp; omega]; rfl
abbrev St4 := List Q4 × Int × Int
/-- pieces, the hand and hour that come next; X: the hour on the line -/
structure Pl (hours : List Int) (L : Int) (k : Nat) (lim : Int) (ps : List Q4) (hand at_ left : Int) : Prop where
  h0 : 0 ≤ hand
  a0 : 0 ≤ at_
  aL : 0 < L → at_ < L
  X : hand * L + at_ + left = Sf hours lim.toNat
  len : (ps.length : Int) ≤ hand * L + at_
  pc : ∀ p ∈ ps, 0 ≤ p.1 ∧ (0 ≤ p.2.1 ∧ p.2.1 < p.2.2.1 ∧ p.2.2.1 ≤ L) ∧ (0 ≤ p.2.2.2 ∧ p.2.2.2 < lim) ∧ p.1 * L + p.2.2.1 ≤ hand * L + at_ ∧ (p.2.2.2 = (k : Int) → Sf hours k ≤ p.1 * L + p.2.1)
  nm : ∀ (i j : Nat) (hi : i < j) (hj : j < ps.length), ¬ Meet ps[i] ps[j]
theorem nm_app {ps : List Q4} {n : Q4} (h : ∀ (i j : Nat) (hi : i < j) (hj : j < ps.length), ¬ Meet ps[i] ps[j]) (hn : ∀ q ∈ ps, ¬ Meet q n) : ∀ (i j : Nat) (hi : i < j) (hj : j < (ps ++ [n]).length), ¬ Meet (ps ++ [n])[i] (ps ++ [n])[j] := fun i j hi hj => by
  rw [List.length_append, List.length_singleton] at hj
  have ei : (ps ++ [n])[i] = ps[i]'(by omega) := List.getElem_append_left (by omega)
  rw [ei]
  by_cases c : j < ps.length
  · have ej : (ps ++ [n])[j] = ps[j] := List.getElem_append_left c
    rw [ej]
    exact h i j hi c
  · have ej : (ps ++ [n])[j] = n := by
      rw [List.getElem_append_right (by omega)]
      simp
    rw [ej]
    exact hn _ (List.getElem_mem _)
theorem mulmono {a b L : Int} (hL : 0 ≤ L) (h : a ≤ b) : a * L ≤ b * L := Int.mul_le_mul_of_nonneg_right h hL
theorem plan_ok {hours : List Int} {h : Int} (hh : 1 ≤ h ∧ h ≤ 4) (hl : hours.length ≤ 7) (hb : ∀ x ∈ hours, 1 ≤ x ∧ x ≤ 9) : Rn (plan_side_by_side hours h) fun x => x.1 = LL hours h ∧ SP hours h x.2 ∧ x.2.length ≤ 100 := by
  obtain ⟨L0, Lx, Ls⟩ := LL_ok (hours := hours) hh
  have Sbd : ∀ i, i ≤ hours.length → 0 ≤ Sf hours i ∧ Sf hours i ≤ 9 * i := fun i => by
    induction i with
    | zero => intro _; show 0 ≤ (0 : Int) ∧ (0 : Int) ≤ _; omega
    | succ i ih =>
      intro hi
      have := ih (by omega)
      have hx := hb _ (ge_mem (f := hours) (v := (i : Int)) (by omega) (by omega))
      rw [Sf_succ (by omega)]
      omega
  unfold plan_side_by_side
  refine Rn.cat (by simp; omega) (Rn.step (divG_of (divOk4 hh)) (Rn.cat (by simp; omega) ?_))
  rw [ceil_eq hh]
  refine Rn.step (maxI_LL hours h) (Rn.step rfl (Rn.rngS (by omega) (by omega) ?_))
  generalize hL : LL hours h = L at *
  refine Rn.bind (Rn.foldR hours.length (fun i (s : St4) => Pl hours L i i s.1 s.2.1 s.2.2 0 ∧ ∀ k : Nat, k < i → own s.1 k = ge hours k) ⟨⟨Int.le_refl _, Int.le_refl _, fun h => h, by simp [Sf], by simp, fun p hp => (by cases hp), fun i j _ hj => absurd hj (by simp)⟩, fun k hk => absurd hk (by omega)⟩ fun i hi s hs => ?_) fun s23 h23 => Rn.pure ?_
  · obtain ⟨P, hO⟩ := hs
    have hx := hb _ (ge_mem (f := hours) (v := (i : Int)) (by omega) (by omega))
    have hxL := Lx _ (ge_mem (f := hours) (v := (i : Int)) (by omega) (by omega))
    have hS := Sf_succ hi
    have hSb := Sbd (i + 1) (by omega)
    have X0 := P.X
    rw [Int.toNat_natCast] at X0
    refine Rn.ge ⟨by omega, by omega⟩ (Rn.bind (Rn.whl (fun (s : List Q4 × Int × Int × Int) => Pl hours L i ((i : Int) + 1) s.1 s.2.1 s.2.2.1 s.2.2.2 ∧ 0 ≤ s.2.2.2 ∧ own s.1 i = ge hours i - s.2.2.2 ∧ ∀ k : Nat, k < i → own s.1 k = ge hours k) (fun s => s.2.2.2.toNat) ⟨⟨P.h0, P.a0, P.aL, ?_, P.len, fun p hp => ?_, P.nm⟩, by dsimp only; omega, ?_, hO⟩ fun s hs => ?_) fun s19 h19 => Rn.pure ?_)
    · dsimp only
      rw [show ((i : Int) + 1).toNat = i + 1 by omega]
      omega
    · obtain ⟨a, b, c, d, e⟩ := P.pc p hp
      exact ⟨a, b, by omega, d, e⟩
    · dsimp only
      rw [own_none fun p hp => (P.pc p hp).2.2.1.2]
      omega
    · obtain ⟨Q, q0, qo, qk⟩ := hs
      have QX := Q.X
      rw [show ((i : Int) + 1).toNat = i + 1 by omega] at QX
      refine Rn.pure fun ht => ?_
      have ht : 0 < s.2.2.2 := of_decide_eq_true ht
      have aL := Q.aL (by omega)
      have a0 := Q.a0
      have h0 := Q.h0
      have hlen := Q.len
      obtain ⟨m, hm⟩ : ∃ m, min2 s.2.2.2 (L - s.2.2.1) = m := ⟨_, rfl⟩
      have hm1 : 1 ≤ m ∧ m ≤ s.2.2.2 ∧ m ≤ L - s.2.2.1 := by
        rw [← hm]
        unfold min2
        split <;> omega
      refine Rn.step rfl ?_
      rw [hm]
      have hnew : ∀ q ∈ s.1, ¬ Meet q (s.2.1, s.2.2.1, s.2.2.1 + m, (i : Int)) := fun q hq hM => by
        obtain ⟨a, b, c, d, e⟩ := Q.pc q hq
        obtain ⟨m1, m2, m3⟩ := hM
        dsimp only at m1 m2 m3
        by_cases e1 : q.1 = s.2.1
        · rw [e1] at d; omega
        · have ew := m1.resolve_left e1
          have e2 := e ew
          have lt : q.1 < s.2.1 := by
            rcases Int.lt_or_le q.1 s.2.1 with h | h
            · exact h
            · exfalso
              have := mulmono L0 (show s.2.1 + 1 ≤ q.1 by omega)
              rw [Int.add_mul] at this
              omega
          have := mulmono L0 (show q.1 + 1 ≤ s.2.1 by omega)
          rw [Int.add_mul] at this
          omega
      have pcn : ∀ X' : Int, X' = s.2.1 * L + s.2.2.1 + m → ∀ p ∈ s.1 ++ [(s.2.1, s.2.2.1, s.2.2.1 + m, (i : Int))], 0 ≤ p.1 ∧ (0 ≤ p.2.1 ∧ p.2.1 < p.2.2.1 ∧ p.2.2.1 ≤ L) ∧ (0 ≤ p.2.2.2 ∧ p.2.2.2 < (i : Int) + 1) ∧ p.1 * L + p.2.2.1 ≤ X' ∧ (p.2.2.2 = (i : Int) → Sf hours i ≤ p.1 * L + p.2.1) := fun X' hX p hp => by
        rcases List.mem_append.mp hp with hp | hp
        · obtain ⟨a, b, c, d, e⟩ := Q.pc p hp
          exact ⟨a, b, c, by omega, e⟩
        · rw [List.mem_singleton.mp hp]
          dsimp only
          have q1 : own s.1 i = ge hours i - s.2.2.2 := qo
          refine ⟨h0, by omega, by omega, by omega, fun _ => ?_⟩
          have : s.2.2.2 ≤ ge hours i := by
            have hnn : 0 ≤ own s.1 i := by
              unfold own
              have : ∀ xs : List Q4, (∀ p ∈ xs, p ∈ s.1) → 0 ≤ (xs.map fun q => q.2.2.1 - q.2.1).sum := fun xs => by
                induction xs with
                | nil => intro _; simp
                | cons x xs ih =>
                  intro h
                  have h1 := (Q.pc x (h x List.mem_cons_self)).2.1
                  have h2 := ih fun p hp => h p (List.mem_cons_of_mem _ hp)
                  rw [List.map_cons, List.sum_cons]
                  omega
              exact this _ fun p hp => (List.mem_filter.mp hp).1
            omega
          omega
      refine Rn.app (by omega) (Rn.bind (P := fun (t : Int × Int) => t.1 * L + t.2 = s.2.1 * L + s.2.2.1 + m ∧ 0 ≤ t.1 ∧ 0 ≤ t.2 ∧ t.2 < L) ?_ fun t ht' => Rn.pure ⟨⟨⟨ht'.2.1, ht'.2.2.1, fun _ => ht'.2.2.2, ?_, ?_, ?_, ?_⟩, ?_, ?_, ?_⟩, ?_⟩)
      · refine Rn.ite (fun c => Rn.pure ?_) fun c => Rn.pure ?_
        · have c : s.2.2.1 + m = L := of_decide_eq_true c
          dsimp only
          rw [Int.add_mul]
          omega
        · have c : ¬ s.2.2.1 + m = L := of_decide_eq_false c
          dsimp only
          omega
      · dsimp only
        rw [show ((i : Int) + 1).toNat = i + 1 by omega]
        omega
      · dsimp only
        rw [List.length_append, List.length_singleton]
        omega
      · exact pcn _ ht'.1
      · exact nm_app Q.nm hnew
      · dsimp only; omega
      · dsimp only
        rw [own_app, if_pos rfl, qo]
        dsimp only
        omega
      · intro k hk
        dsimp only
        rw [own_app, if_neg (by dsimp only; omega), qk k hk]
        omega
      · dsimp only; omega
    · obtain ⟨⟨Q, q0, qo, qk⟩, hc⟩ := h19
      have hz : s19.2.2.2 = 0 := by
        have : decide (0 < s19.2.2.2) = false := Option.some.inj hc
        have := of_decide_eq_false this
        omega
      rw [hz] at Q qo
      have QX := Q.X
      have Qlen := Q.len
      refine ⟨⟨Q.h0, Q.a0, Q.aL, ?_, Qlen, fun p hp => ?_, Q.nm⟩, fun k hk => ?_⟩
      · dsimp only
        rw [Int.toNat_natCast]
        rw [show ((i : Int) + 1).toNat = i + 1 by omega] at QX
        exact QX
      · obtain ⟨a, b, c, d, e⟩ := Q.pc p hp
        exact ⟨a, b, by omega, d, fun e => by omega⟩
      · by_cases e : k = i
        · rw [e]
          dsimp only at qo ⊢
          omega
        · exact qk k (by omega)
  · obtain ⟨P, hO⟩ := h23
    have X0 := P.X
    rw [Int.toNat_natCast, Sf_all] at X0
    have Plen := P.len
    have hSb := Sbd hours.length (Nat.le_refl _)
    rw [Sf_all] at hSb
    refine ⟨rfl, ⟨fun p hp => ?_, P.nm, fun k hk => hO k hk⟩, by dsimp only; omega⟩
    obtain ⟨a, b, c, d, _⟩ := P.pc p hp
    rw [hL]
    refine ⟨⟨a, ?_⟩, b, c⟩
    rcases Int.lt_or_le p.1 h with h1 | h1
    · exact h1
    · exfalso
      have := mulmono L0 h1
      omega
end Sh
end

section
/-! k75 C4: what is turned; the law. -/
namespace Sh
open DL TL K31
theorem bent_int (fu : Nat) (w : W) (i : Int) : Rn (_law_bent (fu + 1) w (.int i)) fun p => p.1.okN 2 := by
  rw [_law_bent]
  rw [if_neg (show ¬ (PV.int i).isT = true from fun h => by cases h), Option.bind_some, if_neg Bool.false_ne_true, if_neg (show ¬ (PV.int i).isT = true from fun h => by cases h), if_pos (show (PV.int i).isI = true from rfl)]
  refine Rn.step rfl (Rn.step rfl (Rn.step rfl (Rn.step rfl (Rn.step rfl (Rn.bind (Rn.pick _ (by simp)) fun p hp => Rn.pure ?_)))))
  simp only [List.mem_cons, List.not_mem_nil, or_false] at hp
  rcases hp with h | h | h | h | h | h | h | h | h | h <;> rw [h]
  · exact okN_mono okN_int (by decide)
  · exact okN_mono okN_int (by decide)
  · exact okN_mono okN_int (by decide)
  · exact okN_mono okN_int (by decide)
  · exact okN_mono okN_int (by decide)
  · exact okN_mono okN_int (by decide)
  · exact okN_mono okN_non (by decide)
  · exact okN_mono (str_ok (by decide +kernel)) (by decide)
  · exact okN_mono okN_bl (by decide)
  · exact okN_tup (n := 1) fun v hv => by rw [List.mem_singleton.mp hv]; exact okN_int
theorem bent_tup (fu : Nat) (w : W) {d n : Nat} (hd : 1 ≤ d ∧ d ≤ 50) (hn : n ≤ 1000) {vs : List PV} (hl : vs.length ≤ n) (ok : ∀ v ∈ vs, v.okN d) (el : ∀ v ∈ vs, ∀ w, Rn (_law_bent fu w v) fun p => p.1.okN (d + 1)) : Rn (_law_bent (fu + 1) w (.tup vs)) fun p => Nc (d + 2) (2 * n + 1) p.1 := by
  have hv : (PV.tup vs).okN (d + 1) := okN_tup ok
  rw [_law_bent]
  have cl : ∀ {l h : Option Int}, (cutL vs l h).length ≤ n := fun {l h} => Nat.le_trans len_cutL hl
  have ce : ∀ {l h : Option Int}, ∀ v ∈ cutL vs l h, v.okN d := fun {l h} v hv => ok v (mem_cutL hv)
  have up : ∀ {us : List PV}, (∀ v ∈ us, v.okN d) → ∀ v ∈ us, v.okN (d + 1) := fun h v hv => okN_mono (h v hv) (by omega)
  have two : ∀ {m : Nat} {us ws : List PV}, (∀ v ∈ us, v.okN m) → (∀ v ∈ ws, v.okN m) → ∀ v ∈ us ++ ws, v.okN m := fun hu hw v hv => (List.mem_append.mp hv).elim (hu v) (hw v)
  have e1 : (PV.tup vs).len = some (vs.length : Int) := rfl
  have e2 : (PV.tup vs).asT = some vs := rfl
  refine Rn.bind (P := fun t => t.1 = true → vs ≠ []) ?_ fun t3 h3 => ?_
  · rw [if_pos (show (PV.tup vs).isT = true from rfl)]
    refine Rn.step (eqG_tupNil hv (by omega)) ?_
    refine Rn.ite (fun h => Rn.bind (Rn.next _ (by decide)) fun p _ => Rn.pure fun _ e => ?_) fun _ => Rn.pure fun h => by cases h
    subst e
    cases h
  refine Rn.ite (fun ht => ?_) fun _ => ?_
  · have hne := h3 ht
    have hpos := List.length_pos_iff.mpr hne
    refine Rn.step e1 (Rn.bind (Rn.next _ (by omega)) fun p5 h5 => Rn.step e2 ?_)
    refine Rn.step (show (PV.tup vs).at p5.1 = some (vs[p5.1.toNat]'(by omega)) from at_toNat h5.1 h5.2) (Rn.bind (el _ (List.getElem_mem _) _) fun x8 h8 => ?_)
    have l1 := cl (l := none) (h := some p5.1)
    have l2 := cl (l := some (p5.1 + 1)) (h := none)
    refine Rn.cat (by rw [List.length_singleton]; omega) (Rn.step e2 (Rn.cat (by rw [List.length_append, List.length_singleton]; omega) (Rn.pure ?_)))
    exact nc_tup (two (two (up ce) (fun v hv => by rw [List.mem_singleton.mp hv]; exact h8)) (up ce)) (by rw [List.length_append, List.length_append, List.length_singleton]; omega)
  · rw [if_pos (show (PV.tup vs).isT = true from rfl)]
    refine Rn.step e1 (Rn.bind (Rn.next _ (by omega)) fun p13 h13 => Rn.step e2 (Rn.step e2 ?_))
    have l1 := cl (l := none) (h := some p13.1)
    have l2 := cl (l := some (p13.1 + 1)) (h := none)
    have l3 := cl (l := some (-1)) (h := none)
    have l4 := cl (l := some p13.1) (h := none)
    have oi : ∀ {xs : List Int}, ∀ v ∈ xs.map fun a => PV.int a, v.okN d := fun {xs} v hv => by obtain ⟨i, _, rfl⟩ := List.mem_map.mp hv; exact okN_mono okN_int (by omega)
    refine Rn.cat (by omega) (Rn.step e2 (Rn.cat (by rw [List.length_map, List.length_singleton]; omega) (Rn.step e2 (Rn.step e2 (Rn.step e2 (Rn.cat (by omega) (Rn.step rfl (Rn.step e2 (Rn.bind (Rn.next _ (by decide)) fun p25 h25 => ?_)))))))))
    refine Rn.cat (by rw [List.length_map, List.length_singleton]; omega) (Rn.step e2 (Rn.cat (by rw [List.length_append, List.length_map, List.length_singleton]; omega) (Rn.step e2 (Rn.step e2 (Rn.cat (by omega) (Rn.cat (by simp) ?_))))))
    refine Rn.bind (Rn.pick _ (by simp)) fun p33 h33 => Rn.pure ?_
    have key : p33.1 = none ∨ ∃ us, p33.1 = some us ∧ us.length ≤ 2 * n + 1 ∧ ∀ u ∈ us, u.okN d := by
      simp only [List.mem_append, List.map_cons, List.map_nil, List.mem_cons, List.not_mem_nil, or_false] at h33
      rcases h33 with (h | h | h | h | h | h) | h | h
      · exact .inr ⟨_, h, by rw [List.length_append]; omega, two ce ce⟩
      · exact .inr ⟨_, h, by rw [List.length_append, List.length_singleton]; omega, two ok fun v hv => by rw [List.mem_singleton.mp hv]; exact okN_mono okN_int (by omega)⟩
      · exact .inr ⟨_, h, by rw [List.length_reverse]; omega, fun v hv => ok v (List.mem_reverse.mp hv)⟩
      · exact .inr ⟨_, h, by rw [List.length_append]; omega, two ok ce⟩
      · exact .inl h
      · exact .inr ⟨_, h, by simp, fun v hv => by cases hv⟩
      · exact .inr ⟨_, h, by rw [List.length_append, List.length_append, List.length_singleton]; omega, two (two ce fun v hv => by rw [List.mem_singleton.mp hv]; exact okN_mono okN_int (by omega)) ce⟩
      · exact .inr ⟨_, h, by rw [List.length_append]; omega, two ce ce⟩
    rcases key with e | ⟨us, e, k1, k2⟩ <;> rw [e]
    · exact nc_of (okN_mono okN_non (by omega)) fun _ e => by cases e
    · exact nc_tup (up k2) k1
theorem bent_plan (w : W) {ps : List Q4} (hl : ps.length ≤ 100) : Rn (_law_bent 6 w (.tup (ps.map pv4))) fun p => Nc 4 201 p.1 := by
  refine (bent_tup 5 w (d := 2) (n := 100) (by decide) (by decide) (by rw [List.length_map]; exact hl) (fun v hv => ?_) fun v hv w => ?_)
  · obtain ⟨p, _, rfl⟩ := List.mem_map.mp hv
    exact pv4_ok p
  · obtain ⟨p, _, rfl⟩ := List.mem_map.mp hv
    refine (bent_tup 4 w (d := 1) (n := 4) (by decide) (by decide) (by simp) (fun v hv => ?_) fun v hv w => ?_).imp fun q h => h.1
    · simp only [List.mem_cons, List.not_mem_nil, or_false] at hv
      rcases hv with rfl | rfl | rfl | rfl <;> exact okN_int
    · simp only [List.mem_cons, List.not_mem_nil, or_false] at hv
      rcases hv with rfl | rfl | rfl | rfl <;> exact bent_int 3 w _
theorem nm_int {v : PV} (h : isNm v = true) : ∃ i, v = .int i := by
  cases v with
  | int i => exact ⟨i, rfl⟩
  | _ => cases h
theorem empty_rn {d k : Nat} {plan : PV} (hp : Nc d k plan) (hd : d ≤ 60) (hk : k ≤ 10000) : Rn (_law_is_empty_piece plan) fun _ => True := by
  unfold _law_is_empty_piece
  refine Rn.bind (P := fun (xs : List PV) => xs.length ≤ k ∧ ∀ v ∈ xs, v.okN d ∧ ∃ a b c e, v = .tup [a, b, c, e]) ?_ fun v7 h7 => ?_
  · cases plan with
    | tup vs =>
      have hl := hp.len
      rw [if_pos (show (PV.tup vs).isT = true from rfl)]
      refine Rn.step (show (PV.tup vs).asQ = some vs from rfl) (Rn.sz (by omega) ((Rn.compM (fun v => v.okN d ∧ ∃ a b c e, v = .tup [a, b, c, e]) fun v hv => ?_).imp fun ys h => ⟨Nat.le_trans h.1 hl, h.2⟩))
      refine Rn.bind (P := fun b => b = true → ∃ a b c e, v = .tup [a, b, c, e]) ?_ fun b hb => Rn.ite (fun h => Rn.pure fun y e => by cases e; exact ⟨hp.elem v hv, hb h⟩) fun _ => Rn.pure fun y e => by cases e
      cases v with
      | tup us =>
        rw [if_pos (show (PV.tup us).isT = true from rfl)]
        refine Rn.step (show (PV.tup us).len = some (us.length : Int) from rfl) (Rn.pure fun h => ?_)
        have h : (us.length : Int) = 4 := of_decide_eq_true h
        rcases us with _ | ⟨a, _ | ⟨b, _ | ⟨c, _ | ⟨e, _ | ⟨f, r⟩⟩⟩⟩⟩
        · simp at h
        · simp at h
        · simp at h
        · simp at h
        · exact ⟨a, b, c, e, rfl⟩
        · simp at h; omega
      | _ => exact Rn.pure fun h => by cases h
    | _ => exact Rn.pure ⟨Nat.zero_le _, fun v h => by cases h⟩
  obtain ⟨g1, g2⟩ := h7
  refine Rn.sz (by omega) (Rn.bind (Rn.compM (fun v => v.okN d ∧ ∃ a i j e, v = .tup [a, .int i, .int j, e]) fun v hv => ?_) fun y15 h15 => ?_)
  · obtain ⟨ho, a, b, c, e, rfl⟩ := g2 v hv
    refine Rn.step (show (PV.tup [a, b, c, e]).at 1 = some b from rfl) (Rn.step (lnum_eq b) (Rn.bind (P := fun t => t = true → isNm b = true ∧ isNm c = true) (Rn.ite (fun h1 => Rn.step (show (PV.tup [a, b, c, e]).at 2 = some c from rfl) ⟨_, lnum_eq c, fun h2 => ⟨h1, h2⟩⟩) fun _ => Rn.pure fun h => by cases h) fun t ht => Rn.ite (fun h => Rn.pure fun y e => ?_) fun _ => Rn.pure fun y e => by cases e))
    cases e
    obtain ⟨i, rfl⟩ := nm_int (ht h).1
    obtain ⟨j, rfl⟩ := nm_int (ht h).2
    exact ⟨ho, _, i, j, _, rfl⟩
  · obtain ⟨k1, k2⟩ := h15
    refine Rn.sz (by omega) (Rn.bind (Rn.compM (fun v => v.okN d) fun v hv => ?_) fun y25 h25 => ?_)
    · obtain ⟨ho, a, i, j, e, rfl⟩ := k2 v hv
      refine Rn.step (show (PV.tup [a, .int i, .int j, e]).at 1 = some (.int i) from rfl) (Rn.step (show (PV.tup [a, .int i, .int j, e]).at 2 = some (.int j) from rfl) (Rn.step rfl (Rn.step rfl (Rn.bind (P := fun _ => True) (Rn.ite (fun _ => Rn.pure trivial) fun _ => Rn.step (show (PV.tup [a, .int i, .int j, e]).at 1 = some (.int i) from rfl) (Rn.step rfl (Rn.pure trivial))) fun t _ => Rn.ite (fun _ => Rn.pure fun y e => by cases e; exact ho) fun _ => Rn.pure fun y e => by cases e))))
    · exact Rn.step (eqG_nilL (n := d) h25.2 (by omega)) (Rn.pure trivial)
theorem law_holds : ∀ L, law L = some true := by
  intro L
  refine Rn.to ?_
  unfold law
  refine Rn.rngS (by decide) (by decide) (Rn.bind (Rn.loopM (fun _ => True) trivial fun x _ w _ => ?_) fun z hz => ?_)
  · refine Rn.bind (Rn.next _ (by decide)) fun p22 h22 => Rn.bind (Rn.next _ (by decide)) fun p23 h23 => Rn.rngS (by omega) (by omega) (Rn.sz (by rw [rg_len]; omega) (Rn.bind (Rn.mapS (fun y => 1 ≤ y ∧ y ≤ 9) fun k _ w => ?_) fun y29 h29 => ?_))
    · refine Rn.bind (Rn.pick _ (by simp)) fun p28 h28 => Rn.pure ?_
      simp only [List.mem_cons, List.not_mem_nil, or_false] at h28
      dsimp only
      omega
    obtain ⟨hl, hb⟩ := h29
    rw [rg_len] at hl
    have hh : 1 ≤ 1 + p22.1 ∧ 1 + p22.1 ≤ 4 := by omega
    generalize 1 + p22.1 = h at hh ⊢
    refine Rn.bind (plan_ok hh (by omega) hb) fun x30 h30 => ?_
    obtain ⟨eL, hSP, hpl⟩ := h30
    have hlen : (PV.int x30.1).okN 2 := okN_mono okN_int (by decide)
    have hplan : Nc 4 201 (PV.tup (x30.2.map pv4)) := (nc_tup (d := 2) (n := 100) (fun v hv => by obtain ⟨p, _, rfl⟩ := List.mem_map.mp hv; exact pv4_ok p) (by rw [List.length_map]; exact hpl)).mono (by decide) (by decide)
    have hP : PlanP y29.1 h (.int x30.1) (.tup (x30.2.map pv4)) := ⟨by rw [eL], _, rfl, hSP⟩
    refine Rn.bind (P := fun t => t = false) ?_ fun t32 h32 => ?_
    · rw [if_neg (show ¬ (!true) = true by decide), if_neg (show ¬ (!decide ((2 : Int) = 2)) = true by decide)]
      exact Rn.step ((law_plan_sp hh (by omega) hlen (by decide) hplan (by decide) (by decide)).yes hP) (Rn.pure rfl)
    subst h32
    rw [if_neg Bool.false_ne_true]
    refine Rn.step ((is_side_sp hh (by omega) hlen (by decide) hplan (by decide)).yes hP) ?_
    rw [if_neg (by decide)]
    refine Rn.rngS (by decide) (by decide) (Rn.bind (Rn.loopM (fun _ => True) trivial fun k _ s _ => ?_) fun z hz => ?_)
    · refine Rn.bind (Rn.next _ (by decide)) fun p51 h51 => Rn.bind (P := fun (t : W × PV × PV) => t.2.1.okN 2 ∧ Nc 4 201 t.2.2) (Rn.ite (fun _ => Rn.bind (bent_int 5 _ _) fun x55 h55 => Rn.pure ⟨h55, hplan⟩) fun _ => Rn.bind (bent_plan _ hpl) fun x56 h56 => Rn.pure ⟨hlen, h56⟩) fun s54 h54 => ?_
      obtain ⟨g1, g2⟩ := h54
      obtain ⟨b, e1, e2⟩ := (is_side_sp hh (by omega) g1 (by decide) g2 (by decide)).same (law_plan_sp hh (show y29.1.length ≤ 1000 by omega) g1 (by decide) g2 (by decide) (by decide))
      refine Rn.step e2 (Rn.bind (empty_rn g2 (by decide) (by decide)) fun x58 _ => Rn.bind (P := fun t => t = false) (Rn.ite (fun _ => Rn.step e1 (Rn.step (show _law_says b b = some true by cases b <;> rfl) (Rn.pure rfl))) fun _ => Rn.pure rfl) fun t61 h61 => ?_)
      subst h61
      rw [if_neg Bool.false_ne_true]
      exact Rn.pure ⟨_, rfl, trivial⟩
    · obtain ⟨s', rfl, _⟩ := hz
      rw [sumO_inr]
      exact Rn.pure ⟨_, rfl, trivial⟩
  · obtain ⟨s', rfl, _⟩ := hz
    exact Rn.pure rfl
end Sh
end

section

end

section
namespace Pg
open DL PySem PySem.Spec L2
def topS (i : Nat) : Stmt := PySem.Challenge.pw_everybest_k75_works_side_by_side.main.body.getD i (.Pass ⟨0, 0, 0, 0⟩)
def fn : List (Str × Nat) := [(("_law_draws" : Str), 2), (("_law_next" : Str), 2), (("_law_pick" : Str), 2), (("plan_side_by_side" : Str), 2), (("_law_is_number" : Str), 1), (("_law_clash" : Str), 2), (("_law_is_planned" : Str), 4), (("is_number" : Str), 1), (("is_piece" : Str), 4), (("do_meet" : Str), 2), (("is_side_by_side" : Str), 4), (("_law_bent" : Str), 2), (("_law_is_empty_piece" : Str), 1), (("_law_says" : Str), 2), (("law" : Str), 1)]
def bl : Bl := ⟨["abs", "all", "bool", "int", "isinstance", "len", "list", "max", "min", "range", "sum", "tuple"], []⟩
def N0 : List Str := ["script", "many", "draws", "mixed", "k", "cell", "rest", "turn"]
theorem sc0 : FnScope N0 ["script", "many"] (L2.defScope (topS 8)) := ⟨rfl, rfl, rfl, by decide +kernel, rfl, by decide +kernel, by decide +kernel⟩
theorem ck0 : chkSs fn bl N0 (L2.defScope (topS 8)) (fxOf 2 (f0).re) (f0).body (L2.defBody (topS 8)) = true := by decide +kernel
def N1 : List Str := ["w", "many"]
theorem sc1 : FnScope N1 ["w", "many"] (L2.defScope (topS 9)) := ⟨rfl, rfl, rfl, by decide +kernel, rfl, by decide +kernel, by decide +kernel⟩
theorem ck1 : chkSs fn bl N1 (L2.defScope (topS 9)) (fxOf 2 (f1).re) (f1).body (L2.defBody (topS 9)) = true := by decide +kernel
def N2 : List Str := ["w", "rows"]
theorem sc2 : FnScope N2 ["w", "rows"] (L2.defScope (topS 10)) := ⟨rfl, rfl, rfl, by decide +kernel, rfl, by decide +kernel, by decide +kernel⟩
theorem ck2 : chkSs fn bl N2 (L2.defScope (topS 10)) (fxOf 2 (f2).re) (f2).body (L2.defBody (topS 10)) = true := by decide +kernel
def N3 : List Str := ["hours", "hands", "length", "plan", "k", "hand", "at", "left", "many"]
theorem sc3 : FnScope N3 ["hours", "hands"] (L2.defScope (topS 3)) := ⟨rfl, rfl, rfl, by decide +kernel, rfl, by decide +kernel, by decide +kernel⟩
theorem ck3 : chkSs fn bl N3 (L2.defScope (topS 3)) (fxOf 2 (f3).re) (f3).body (L2.defBody (topS 3)) = true := by decide +kernel
def N4 : List Str := ["thing"]
theorem sc4 : FnScope N4 ["thing"] (L2.defScope (topS 12)) := ⟨rfl, rfl, rfl, by decide +kernel, rfl, by decide +kernel, by decide +kernel⟩
theorem ck4 : chkSs fn bl N4 (L2.defScope (topS 12)) (fxOf 1 (f4).re) (f4).body (L2.defBody (topS 12)) = true := by decide +kernel
def N5 : List Str := ["one", "other", "meet"]
theorem sc5 : FnScope N5 ["one", "other"] (L2.defScope (topS 16)) := ⟨rfl, rfl, rfl, by decide +kernel, rfl, by decide +kernel, by decide +kernel⟩
theorem ck5 : chkSs fn bl N5 (L2.defScope (topS 16)) (fxOf 2 (f5).re) (f5).body (L2.defBody (topS 16)) = true := by decide +kernel
def N6 : List Str := ["hours", "hands", "length", "plan", "piece", "k", "m", "one", "hand", "a", "b", "work"]
theorem sc6 : FnScope N6 ["hours", "hands", "length", "plan"] (L2.defScope (topS 17)) := ⟨rfl, rfl, rfl, by decide +kernel, rfl, by decide +kernel, by decide +kernel⟩
theorem ck6 : chkSs fn bl N6 (L2.defScope (topS 17)) (fxOf 4 (f6).re) (f6).body (L2.defBody (topS 17)) = true := by decide +kernel
def N7 : List Str := ["thing"]
theorem sc7 : FnScope N7 ["thing"] (L2.defScope (topS 1)) := ⟨rfl, rfl, rfl, by decide +kernel, rfl, by decide +kernel, by decide +kernel⟩
theorem ck7 : chkSs fn bl N7 (L2.defScope (topS 1)) (fxOf 1 (f7).re) (f7).body (L2.defBody (topS 1)) = true := by decide +kernel
def N8 : List Str := ["piece", "many", "hands", "length", "one"]
theorem sc8 : FnScope N8 ["piece", "many", "hands", "length"] (L2.defScope (topS 4)) := ⟨rfl, rfl, rfl, by decide +kernel, rfl, by decide +kernel, by decide +kernel⟩
theorem ck8 : chkSs fn bl N8 (L2.defScope (topS 4)) (fxOf 4 (f8).re) (f8).body (L2.defBody (topS 4)) = true := by decide +kernel
def N9 : List Str := ["one", "other"]
theorem sc9 : FnScope N9 ["one", "other"] (L2.defScope (topS 5)) := ⟨rfl, rfl, rfl, by decide +kernel, rfl, by decide +kernel, by decide +kernel⟩
theorem ck9 : chkSs fn bl N9 (L2.defScope (topS 5)) (fxOf 2 (f9).re) (f9).body (L2.defBody (topS 5)) = true := by decide +kernel
def N10 : List Str := ["hours", "hands", "length", "plan", "i", "k", "j", "piece", "p"]
theorem sc10 : FnScope N10 ["hours", "hands", "length", "plan"] (L2.defScope (topS 6)) := ⟨rfl, rfl, rfl, by decide +kernel, rfl, by decide +kernel, by decide +kernel⟩
theorem ck10 : chkSs fn bl N10 (L2.defScope (topS 6)) (fxOf 4 (f10).re) (f10).body (L2.defBody (topS 6)) = true := by decide +kernel
def N11 : List Str := ["w", "value", "at", "some"]
theorem sc11 : FnScope N11 ["w", "value"] (L2.defScope (topS 11)) := ⟨rfl, rfl, rfl, by decide +kernel, rfl, by decide +kernel, by decide +kernel⟩
theorem ck11 : chkSs fn bl N11 (L2.defScope (topS 11)) (fxOf 2 (f11).re) (f11).body (L2.defBody (topS 11)) = true := by decide +kernel
def N12 : List Str := ["plan", "some", "piece"]
theorem sc12 : FnScope N12 ["plan"] (L2.defScope (topS 18)) := ⟨rfl, rfl, rfl, by decide +kernel, rfl, by decide +kernel, by decide +kernel⟩
theorem ck12 : chkSs fn bl N12 (L2.defScope (topS 18)) (fxOf 1 (f12).re) (f12).body (L2.defBody (topS 18)) = true := by decide +kernel
def N13 : List Str := ["told", "due"]
theorem sc13 : FnScope N13 ["told", "due"] (L2.defScope (topS 14)) := ⟨rfl, rfl, rfl, by decide +kernel, rfl, by decide +kernel, by decide +kernel⟩
theorem ck13 : chkSs fn bl N13 (L2.defScope (topS 14)) (fxOf 2 (f13).re) (f13).body (L2.defBody (topS 14)) = true := by decide +kernel
def N14 : List Str := ["script", "w", "turn", "hands", "hours", "told", "time", "due", "length", "plan", "k"]
theorem sc14 : FnScope N14 ["script"] (L2.defScope (topS 19)) := ⟨rfl, rfl, rfl, by decide +kernel, rfl, by decide +kernel, by decide +kernel⟩
theorem ck14 : chkSs fn bl N14 (L2.defScope (topS 19)) (fxOf 1 (f14).re) (f14).body (L2.defBody (topS 19)) = true := by decide +kernel
section
variable {K : PySem.W.Frag} {h : Heap} {mg : Str → Option Value} {f : Addr} {oc : Value} {od an : Option Addr} {osl : Array (Option Value)} {kV doc pm cdv ct : Value}
theorem at0 (X : K.In h) (G : h.Ns mainGlobals mg) (a : PySem.W.nsIn K mainGlobals "_law_draws" = some (some (.ref f)))
    (l : K.lookup f = some ⟨oc, od, .func (PySem.W.fnOf "_law_draws" "_law_draws" (L2.defArgs (topS 8)) (L2.defBody (topS 8)) (L2.defScope (topS 8)) .none kV doc pm an cdv ct), osl⟩) (c : PySem.W.codeIn K cdv "_law_draws" = true) (k : PySem.W.keepIn K (.ref f) = true) : FnAt fn bl K mg "_law_draws" 2 f0 :=
  fnAt_mk X G sc0 (fun _ _ _ _ _ _ us hl => match us, hl with | [_, _], _ => rfl) rfl rfl rfl (by decide) ck0 a l c k
theorem at1 (X : K.In h) (G : h.Ns mainGlobals mg) (a : PySem.W.nsIn K mainGlobals "_law_next" = some (some (.ref f)))
    (l : K.lookup f = some ⟨oc, od, .func (PySem.W.fnOf "_law_next" "_law_next" (L2.defArgs (topS 9)) (L2.defBody (topS 9)) (L2.defScope (topS 9)) .none kV doc pm an cdv ct), osl⟩) (c : PySem.W.codeIn K cdv "_law_next" = true) (k : PySem.W.keepIn K (.ref f) = true) : FnAt fn bl K mg "_law_next" 2 f1 :=
  fnAt_mk X G sc1 (fun _ _ _ _ _ _ us hl => match us, hl with | [_, _], _ => rfl) rfl rfl rfl (by decide) ck1 a l c k
theorem at2 (X : K.In h) (G : h.Ns mainGlobals mg) (a : PySem.W.nsIn K mainGlobals "_law_pick" = some (some (.ref f)))
    (l : K.lookup f = some ⟨oc, od, .func (PySem.W.fnOf "_law_pick" "_law_pick" (L2.defArgs (topS 10)) (L2.defBody (topS 10)) (L2.defScope (topS 10)) .none kV doc pm an cdv ct), osl⟩) (c : PySem.W.codeIn K cdv "_law_pick" = true) (k : PySem.W.keepIn K (.ref f) = true) : FnAt fn bl K mg "_law_pick" 2 f2 :=
  fnAt_mk X G sc2 (fun _ _ _ _ _ _ us hl => match us, hl with | [_, _], _ => rfl) rfl rfl rfl (by decide) ck2 a l c k
theorem at3 (X : K.In h) (G : h.Ns mainGlobals mg) (a : PySem.W.nsIn K mainGlobals "plan_side_by_side" = some (some (.ref f)))
    (l : K.lookup f = some ⟨oc, od, .func (PySem.W.fnOf "plan_side_by_side" "plan_side_by_side" (L2.defArgs (topS 3)) (L2.defBody (topS 3)) (L2.defScope (topS 3)) .none kV doc pm an cdv ct), osl⟩) (c : PySem.W.codeIn K cdv "plan_side_by_side" = true) (k : PySem.W.keepIn K (.ref f) = true) : FnAt fn bl K mg "plan_side_by_side" 2 f3 :=
  fnAt_mk X G sc3 (fun _ _ _ _ _ _ us hl => match us, hl with | [_, _], _ => rfl) rfl rfl rfl (by decide) ck3 a l c k
theorem at4 (X : K.In h) (G : h.Ns mainGlobals mg) (a : PySem.W.nsIn K mainGlobals "_law_is_number" = some (some (.ref f)))
    (l : K.lookup f = some ⟨oc, od, .func (PySem.W.fnOf "_law_is_number" "_law_is_number" (L2.defArgs (topS 12)) (L2.defBody (topS 12)) (L2.defScope (topS 12)) .none kV doc pm an cdv ct), osl⟩) (c : PySem.W.codeIn K cdv "_law_is_number" = true) (k : PySem.W.keepIn K (.ref f) = true) : FnAt fn bl K mg "_law_is_number" 1 f4 :=
  fnAt_mk X G sc4 (fun _ _ _ _ _ _ us hl => match us, hl with | [_], _ => rfl) rfl rfl rfl (by decide) ck4 a l c k
theorem at5 (X : K.In h) (G : h.Ns mainGlobals mg) (a : PySem.W.nsIn K mainGlobals "_law_clash" = some (some (.ref f)))
    (l : K.lookup f = some ⟨oc, od, .func (PySem.W.fnOf "_law_clash" "_law_clash" (L2.defArgs (topS 16)) (L2.defBody (topS 16)) (L2.defScope (topS 16)) .none kV doc pm an cdv ct), osl⟩) (c : PySem.W.codeIn K cdv "_law_clash" = true) (k : PySem.W.keepIn K (.ref f) = true) : FnAt fn bl K mg "_law_clash" 2 f5 :=
  fnAt_mk X G sc5 (fun _ _ _ _ _ _ us hl => match us, hl with | [_, _], _ => rfl) rfl rfl rfl (by decide) ck5 a l c k
theorem at6 (X : K.In h) (G : h.Ns mainGlobals mg) (a : PySem.W.nsIn K mainGlobals "_law_is_planned" = some (some (.ref f)))
    (l : K.lookup f = some ⟨oc, od, .func (PySem.W.fnOf "_law_is_planned" "_law_is_planned" (L2.defArgs (topS 17)) (L2.defBody (topS 17)) (L2.defScope (topS 17)) .none kV doc pm an cdv ct), osl⟩) (c : PySem.W.codeIn K cdv "_law_is_planned" = true) (k : PySem.W.keepIn K (.ref f) = true) : FnAt fn bl K mg "_law_is_planned" 4 f6 :=
  fnAt_mk X G sc6 (fun _ _ _ _ _ _ us hl => match us, hl with | [_, _, _, _], _ => rfl) rfl rfl rfl (by decide) ck6 a l c k
theorem at7 (X : K.In h) (G : h.Ns mainGlobals mg) (a : PySem.W.nsIn K mainGlobals "is_number" = some (some (.ref f)))
    (l : K.lookup f = some ⟨oc, od, .func (PySem.W.fnOf "is_number" "is_number" (L2.defArgs (topS 1)) (L2.defBody (topS 1)) (L2.defScope (topS 1)) .none kV doc pm an cdv ct), osl⟩) (c : PySem.W.codeIn K cdv "is_number" = true) (k : PySem.W.keepIn K (.ref f) = true) : FnAt fn bl K mg "is_number" 1 f7 :=
  fnAt_mk X G sc7 (fun _ _ _ _ _ _ us hl => match us, hl with | [_], _ => rfl) rfl rfl rfl (by decide) ck7 a l c k
theorem at8 (X : K.In h) (G : h.Ns mainGlobals mg) (a : PySem.W.nsIn K mainGlobals "is_piece" = some (some (.ref f)))
    (l : K.lookup f = some ⟨oc, od, .func (PySem.W.fnOf "is_piece" "is_piece" (L2.defArgs (topS 4)) (L2.defBody (topS 4)) (L2.defScope (topS 4)) .none kV doc pm an cdv ct), osl⟩) (c : PySem.W.codeIn K cdv "is_piece" = true) (k : PySem.W.keepIn K (.ref f) = true) : FnAt fn bl K mg "is_piece" 4 f8 :=
  fnAt_mk X G sc8 (fun _ _ _ _ _ _ us hl => match us, hl with | [_, _, _, _], _ => rfl) rfl rfl rfl (by decide) ck8 a l c k
theorem at9 (X : K.In h) (G : h.Ns mainGlobals mg) (a : PySem.W.nsIn K mainGlobals "do_meet" = some (some (.ref f)))
    (l : K.lookup f = some ⟨oc, od, .func (PySem.W.fnOf "do_meet" "do_meet" (L2.defArgs (topS 5)) (L2.defBody (topS 5)) (L2.defScope (topS 5)) .none kV doc pm an cdv ct), osl⟩) (c : PySem.W.codeIn K cdv "do_meet" = true) (k : PySem.W.keepIn K (.ref f) = true) : FnAt fn bl K mg "do_meet" 2 f9 :=
  fnAt_mk X G sc9 (fun _ _ _ _ _ _ us hl => match us, hl with | [_, _], _ => rfl) rfl rfl rfl (by decide) ck9 a l c k
theorem at10 (X : K.In h) (G : h.Ns mainGlobals mg) (a : PySem.W.nsIn K mainGlobals "is_side_by_side" = some (some (.ref f)))
    (l : K.lookup f = some ⟨oc, od, .func (PySem.W.fnOf "is_side_by_side" "is_side_by_side" (L2.defArgs (topS 6)) (L2.defBody (topS 6)) (L2.defScope (topS 6)) .none kV doc pm an cdv ct), osl⟩) (c : PySem.W.codeIn K cdv "is_side_by_side" = true) (k : PySem.W.keepIn K (.ref f) = true) : FnAt fn bl K mg "is_side_by_side" 4 f10 :=
  fnAt_mk X G sc10 (fun _ _ _ _ _ _ us hl => match us, hl with | [_, _, _, _], _ => rfl) rfl rfl rfl (by decide) ck10 a l c k
theorem at11 (X : K.In h) (G : h.Ns mainGlobals mg) (a : PySem.W.nsIn K mainGlobals "_law_bent" = some (some (.ref f)))
    (l : K.lookup f = some ⟨oc, od, .func (PySem.W.fnOf "_law_bent" "_law_bent" (L2.defArgs (topS 11)) (L2.defBody (topS 11)) (L2.defScope (topS 11)) .none kV doc pm an cdv ct), osl⟩) (c : PySem.W.codeIn K cdv "_law_bent" = true) (k : PySem.W.keepIn K (.ref f) = true) : FnAt fn bl K mg "_law_bent" 2 f11 :=
  fnAt_mk X G sc11 (fun _ _ _ _ _ _ us hl => match us, hl with | [_, _], _ => rfl) rfl rfl rfl (by decide) ck11 a l c k
theorem at12 (X : K.In h) (G : h.Ns mainGlobals mg) (a : PySem.W.nsIn K mainGlobals "_law_is_empty_piece" = some (some (.ref f)))
    (l : K.lookup f = some ⟨oc, od, .func (PySem.W.fnOf "_law_is_empty_piece" "_law_is_empty_piece" (L2.defArgs (topS 18)) (L2.defBody (topS 18)) (L2.defScope (topS 18)) .none kV doc pm an cdv ct), osl⟩) (c : PySem.W.codeIn K cdv "_law_is_empty_piece" = true) (k : PySem.W.keepIn K (.ref f) = true) : FnAt fn bl K mg "_law_is_empty_piece" 1 f12 :=
  fnAt_mk X G sc12 (fun _ _ _ _ _ _ us hl => match us, hl with | [_], _ => rfl) rfl rfl rfl (by decide) ck12 a l c k
theorem at13 (X : K.In h) (G : h.Ns mainGlobals mg) (a : PySem.W.nsIn K mainGlobals "_law_says" = some (some (.ref f)))
    (l : K.lookup f = some ⟨oc, od, .func (PySem.W.fnOf "_law_says" "_law_says" (L2.defArgs (topS 14)) (L2.defBody (topS 14)) (L2.defScope (topS 14)) .none kV doc pm an cdv ct), osl⟩) (c : PySem.W.codeIn K cdv "_law_says" = true) (k : PySem.W.keepIn K (.ref f) = true) : FnAt fn bl K mg "_law_says" 2 f13 :=
  fnAt_mk X G sc13 (fun _ _ _ _ _ _ us hl => match us, hl with | [_, _], _ => rfl) rfl rfl rfl (by decide) ck13 a l c k
theorem bd14 : ∀ (kV doc pm : Value) (an : Option Addr) (cdv ct : Value) (us : List Value), us.length = 1 → bindArgs (PySem.W.fnOf "law" "law" (L2.defArgs (topS 19)) (L2.defBody (topS 19)) (L2.defScope (topS 19)) .none kV doc pm an cdv ct) ⟨us, []⟩ = pure ((["script"] : List Str).zip us) := fun _ _ _ _ _ _ us hl => match us, hl with | [_], _ => rfl
theorem at14 (X : K.In h) (G : h.Ns mainGlobals mg) (a : PySem.W.nsIn K mainGlobals "law" = some (some (.ref f)))
    (l : K.lookup f = some ⟨oc, od, .func (PySem.W.fnOf "law" "law" (L2.defArgs (topS 19)) (L2.defBody (topS 19)) (L2.defScope (topS 19)) .none kV doc pm an cdv ct), osl⟩) (c : PySem.W.codeIn K cdv "law" = true) (k : PySem.W.keepIn K (.ref f) = true) : FnAt fn bl K mg "law" 1 f14 :=
  fnAt_mk X G sc14 (fun _ _ _ _ _ _ us hl => match us, hl with | [_], _ => rfl) rfl rfl rfl (by decide) ck14 a l c k
end
theorem all_mk {w : World} {K : PySem.W.Frag} {h : Heap} {mg : Str → Option Value} {fa : Addr} (X : K.In h) (G : h.Ns mainGlobals mg) (hfa : mg "law" = some (.ref fa))
    {fa0 : Addr} {oc0 kV0 dc0 pm0 cd0 ct0 : Value} {od0 an0 : Option Addr} {sl0 : Array (Option Value)} (a0 : PySem.W.nsIn K mainGlobals "_law_draws" = some (some (.ref fa0)))
    (l0 : K.lookup fa0 = some ⟨oc0, od0, .func (PySem.W.fnOf "_law_draws" "_law_draws" (L2.defArgs (topS 8)) (L2.defBody (topS 8)) (L2.defScope (topS 8)) .none kV0 dc0 pm0 an0 cd0 ct0), sl0⟩) (c0 : PySem.W.codeIn K cd0 "_law_draws" = true) (k0 : PySem.W.keepIn K (.ref fa0) = true)
    {fa1 : Addr} {oc1 kV1 dc1 pm1 cd1 ct1 : Value} {od1 an1 : Option Addr} {sl1 : Array (Option Value)} (a1 : PySem.W.nsIn K mainGlobals "_law_next" = some (some (.ref fa1)))
    (l1 : K.lookup fa1 = some ⟨oc1, od1, .func (PySem.W.fnOf "_law_next" "_law_next" (L2.defArgs (topS 9)) (L2.defBody (topS 9)) (L2.defScope (topS 9)) .none kV1 dc1 pm1 an1 cd1 ct1), sl1⟩) (c1 : PySem.W.codeIn K cd1 "_law_next" = true) (k1 : PySem.W.keepIn K (.ref fa1) = true)
    {fa2 : Addr} {oc2 kV2 dc2 pm2 cd2 ct2 : Value} {od2 an2 : Option Addr} {sl2 : Array (Option Value)} (a2 : PySem.W.nsIn K mainGlobals "_law_pick" = some (some (.ref fa2)))
    (l2 : K.lookup fa2 = some ⟨oc2, od2, .func (PySem.W.fnOf "_law_pick" "_law_pick" (L2.defArgs (topS 10)) (L2.defBody (topS 10)) (L2.defScope (topS 10)) .none kV2 dc2 pm2 an2 cd2 ct2), sl2⟩) (c2 : PySem.W.codeIn K cd2 "_law_pick" = true) (k2 : PySem.W.keepIn K (.ref fa2) = true)
    {fa3 : Addr} {oc3 kV3 dc3 pm3 cd3 ct3 : Value} {od3 an3 : Option Addr} {sl3 : Array (Option Value)} (a3 : PySem.W.nsIn K mainGlobals "plan_side_by_side" = some (some (.ref fa3)))
    (l3 : K.lookup fa3 = some ⟨oc3, od3, .func (PySem.W.fnOf "plan_side_by_side" "plan_side_by_side" (L2.defArgs (topS 3)) (L2.defBody (topS 3)) (L2.defScope (topS 3)) .none kV3 dc3 pm3 an3 cd3 ct3), sl3⟩) (c3 : PySem.W.codeIn K cd3 "plan_side_by_side" = true) (k3 : PySem.W.keepIn K (.ref fa3) = true)
    {fa4 : Addr} {oc4 kV4 dc4 pm4 cd4 ct4 : Value} {od4 an4 : Option Addr} {sl4 : Array (Option Value)} (a4 : PySem.W.nsIn K mainGlobals "_law_is_number" = some (some (.ref fa4)))
    (l4 : K.lookup fa4 = some ⟨oc4, od4, .func (PySem.W.fnOf "_law_is_number" "_law_is_number" (L2.defArgs (topS 12)) (L2.defBody (topS 12)) (L2.defScope (topS 12)) .none kV4 dc4 pm4 an4 cd4 ct4), sl4⟩) (c4 : PySem.W.codeIn K cd4 "_law_is_number" = true) (k4 : PySem.W.keepIn K (.ref fa4) = true)
    {fa5 : Addr} {oc5 kV5 dc5 pm5 cd5 ct5 : Value} {od5 an5 : Option Addr} {sl5 : Array (Option Value)} (a5 : PySem.W.nsIn K mainGlobals "_law_clash" = some (some (.ref fa5)))
    (l5 : K.lookup fa5 = some ⟨oc5, od5, .func (PySem.W.fnOf "_law_clash" "_law_clash" (L2.defArgs (topS 16)) (L2.defBody (topS 16)) (L2.defScope (topS 16)) .none kV5 dc5 pm5 an5 cd5 ct5), sl5⟩) (c5 : PySem.W.codeIn K cd5 "_law_clash" = true) (k5 : PySem.W.keepIn K (.ref fa5) = true)
    {fa6 : Addr} {oc6 kV6 dc6 pm6 cd6 ct6 : Value} {od6 an6 : Option Addr} {sl6 : Array (Option Value)} (a6 : PySem.W.nsIn K mainGlobals "_law_is_planned" = some (some (.ref fa6)))
    (l6 : K.lookup fa6 = some ⟨oc6, od6, .func (PySem.W.fnOf "_law_is_planned" "_law_is_planned" (L2.defArgs (topS 17)) (L2.defBody (topS 17)) (L2.defScope (topS 17)) .none kV6 dc6 pm6 an6 cd6 ct6), sl6⟩) (c6 : PySem.W.codeIn K cd6 "_law_is_planned" = true) (k6 : PySem.W.keepIn K (.ref fa6) = true)
    {fa7 : Addr} {oc7 kV7 dc7 pm7 cd7 ct7 : Value} {od7 an7 : Option Addr} {sl7 : Array (Option Value)} (a7 : PySem.W.nsIn K mainGlobals "is_number" = some (some (.ref fa7)))
    (l7 : K.lookup fa7 = some ⟨oc7, od7, .func (PySem.W.fnOf "is_number" "is_number" (L2.defArgs (topS 1)) (L2.defBody (topS 1)) (L2.defScope (topS 1)) .none kV7 dc7 pm7 an7 cd7 ct7), sl7⟩) (c7 : PySem.W.codeIn K cd7 "is_number" = true) (k7 : PySem.W.keepIn K (.ref fa7) = true)
    {fa8 : Addr} {oc8 kV8 dc8 pm8 cd8 ct8 : Value} {od8 an8 : Option Addr} {sl8 : Array (Option Value)} (a8 : PySem.W.nsIn K mainGlobals "is_piece" = some (some (.ref fa8)))
    (l8 : K.lookup fa8 = some ⟨oc8, od8, .func (PySem.W.fnOf "is_piece" "is_piece" (L2.defArgs (topS 4)) (L2.defBody (topS 4)) (L2.defScope (topS 4)) .none kV8 dc8 pm8 an8 cd8 ct8), sl8⟩) (c8 : PySem.W.codeIn K cd8 "is_piece" = true) (k8 : PySem.W.keepIn K (.ref fa8) = true)
    {fa9 : Addr} {oc9 kV9 dc9 pm9 cd9 ct9 : Value} {od9 an9 : Option Addr} {sl9 : Array (Option Value)} (a9 : PySem.W.nsIn K mainGlobals "do_meet" = some (some (.ref fa9)))
    (l9 : K.lookup fa9 = some ⟨oc9, od9, .func (PySem.W.fnOf "do_meet" "do_meet" (L2.defArgs (topS 5)) (L2.defBody (topS 5)) (L2.defScope (topS 5)) .none kV9 dc9 pm9 an9 cd9 ct9), sl9⟩) (c9 : PySem.W.codeIn K cd9 "do_meet" = true) (k9 : PySem.W.keepIn K (.ref fa9) = true)
    {fa10 : Addr} {oc10 kV10 dc10 pm10 cd10 ct10 : Value} {od10 an10 : Option Addr} {sl10 : Array (Option Value)} (a10 : PySem.W.nsIn K mainGlobals "is_side_by_side" = some (some (.ref fa10)))
    (l10 : K.lookup fa10 = some ⟨oc10, od10, .func (PySem.W.fnOf "is_side_by_side" "is_side_by_side" (L2.defArgs (topS 6)) (L2.defBody (topS 6)) (L2.defScope (topS 6)) .none kV10 dc10 pm10 an10 cd10 ct10), sl10⟩) (c10 : PySem.W.codeIn K cd10 "is_side_by_side" = true) (k10 : PySem.W.keepIn K (.ref fa10) = true)
    {fa11 : Addr} {oc11 kV11 dc11 pm11 cd11 ct11 : Value} {od11 an11 : Option Addr} {sl11 : Array (Option Value)} (a11 : PySem.W.nsIn K mainGlobals "_law_bent" = some (some (.ref fa11)))
    (l11 : K.lookup fa11 = some ⟨oc11, od11, .func (PySem.W.fnOf "_law_bent" "_law_bent" (L2.defArgs (topS 11)) (L2.defBody (topS 11)) (L2.defScope (topS 11)) .none kV11 dc11 pm11 an11 cd11 ct11), sl11⟩) (c11 : PySem.W.codeIn K cd11 "_law_bent" = true) (k11 : PySem.W.keepIn K (.ref fa11) = true)
    {fa12 : Addr} {oc12 kV12 dc12 pm12 cd12 ct12 : Value} {od12 an12 : Option Addr} {sl12 : Array (Option Value)} (a12 : PySem.W.nsIn K mainGlobals "_law_is_empty_piece" = some (some (.ref fa12)))
    (l12 : K.lookup fa12 = some ⟨oc12, od12, .func (PySem.W.fnOf "_law_is_empty_piece" "_law_is_empty_piece" (L2.defArgs (topS 18)) (L2.defBody (topS 18)) (L2.defScope (topS 18)) .none kV12 dc12 pm12 an12 cd12 ct12), sl12⟩) (c12 : PySem.W.codeIn K cd12 "_law_is_empty_piece" = true) (k12 : PySem.W.keepIn K (.ref fa12) = true)
    {fa13 : Addr} {oc13 kV13 dc13 pm13 cd13 ct13 : Value} {od13 an13 : Option Addr} {sl13 : Array (Option Value)} (a13 : PySem.W.nsIn K mainGlobals "_law_says" = some (some (.ref fa13)))
    (l13 : K.lookup fa13 = some ⟨oc13, od13, .func (PySem.W.fnOf "_law_says" "_law_says" (L2.defArgs (topS 14)) (L2.defBody (topS 14)) (L2.defScope (topS 14)) .none kV13 dc13 pm13 an13 cd13 ct13), sl13⟩) (c13 : PySem.W.codeIn K cd13 "_law_says" = true) (k13 : PySem.W.keepIn K (.ref fa13) = true)
    {fa14 : Addr} {oc14 kV14 dc14 pm14 cd14 ct14 : Value} {od14 an14 : Option Addr} {sl14 : Array (Option Value)} (a14 : PySem.W.nsIn K mainGlobals "law" = some (some (.ref fa14)))
    (l14 : K.lookup fa14 = some ⟨oc14, od14, .func (PySem.W.fnOf "law" "law" (L2.defArgs (topS 19)) (L2.defBody (topS 19)) (L2.defScope (topS 19)) .none kV14 dc14 pm14 an14 cd14 ct14), sl14⟩) (c14 : PySem.W.codeIn K cd14 "law" = true) (k14 : PySem.W.keepIn K (.ref fa14) = true)
    (z0 : PySem.W.nsIn K mainGlobals "abs" = some none)
    (z1 : PySem.W.nsIn K mainGlobals "all" = some none)
    (z2 : PySem.W.nsIn K mainGlobals "bool" = some none)
    (z3 : PySem.W.nsIn K mainGlobals "int" = some none)
    (z4 : PySem.W.nsIn K mainGlobals "isinstance" = some none)
    (z5 : PySem.W.nsIn K mainGlobals "len" = some none)
    (z6 : PySem.W.nsIn K mainGlobals "list" = some none)
    (z7 : PySem.W.nsIn K mainGlobals "max" = some none)
    (z8 : PySem.W.nsIn K mainGlobals "min" = some none)
    (z9 : PySem.W.nsIn K mainGlobals "range" = some none)
    (z10 : PySem.W.nsIn K mainGlobals "sum" = some none)
    (z11 : PySem.W.nsIn K mainGlobals "tuple" = some none)
    : ∃ fd : FuncData, (∀ (s : Shared) (u : Value), BindsTo s fd ⟨[u], []⟩ [("script", u)]) ∧ ∀ base : Heap, K.In base → base.Ns mainGlobals mg → FnOk PySem.Challenge.rw_everybest_k75_works_side_by_side.prog w K mg base L2.CX0 9 fa fd ["script"] (spD K 1 (evF T 9 14)) := by
  have hb : BlOk bl K mg := by
    refine ⟨?_, ?_⟩
    · intro x hx
      have hx : x ∈ bl.names := by simpa [Bl.contains] using hx
      simp only [bl, List.mem_cons, List.not_mem_nil, or_false] at hx
      rcases hx with rfl | rfl | rfl | rfl | rfl | rfl | rfl | rfl | rfl | rfl | rfl | rfl
      · exact PySem.W.mg_none_of X G z0
      · exact PySem.W.mg_none_of X G z1
      · exact PySem.W.mg_none_of X G z2
      · exact PySem.W.mg_none_of X G z3
      · exact PySem.W.mg_none_of X G z4
      · exact PySem.W.mg_none_of X G z5
      · exact PySem.W.mg_none_of X G z6
      · exact PySem.W.mg_none_of X G z7
      · exact PySem.W.mg_none_of X G z8
      · exact PySem.W.mg_none_of X G z9
      · exact PySem.W.mg_none_of X G z10
      · exact PySem.W.mg_none_of X G z11
    · intro x ns hx
      cases hx
  exact law_F X G (.cons (at0 X G a0 l0 c0 k0) (.cons (at1 X G a1 l1 c1 k1) (.cons (at2 X G a2 l2 c2 k2) (.cons (at3 X G a3 l3 c3 k3) (.cons (at4 X G a4 l4 c4 k4) (.cons (at5 X G a5 l5 c5 k5) (.cons (at6 X G a6 l6 c6 k6) (.cons (at7 X G a7 l7 c7 k7) (.cons (at8 X G a8 l8 c8 k8) (.cons (at9 X G a9 l9 c9 k9) (.cons (at10 X G a10 l10 c10 k10) (.cons (at11 X G a11 l11 c11 k11) (.cons (at12 X G a12 l12 c12 k12) (.cons (at13 X G a13 l13 c13 k13) (.cons (at14 X G a14 l14 c14 k14) .nil))))))))))))))) hb hfa sc14 bd14 rfl rfl rfl (by decide) ck14 a14 l14 c14 k14
end Pg
end

section
open PySem PySem.W PyProof.Rows
set_option maxHeartbeats 0 in
theorem PySem.Challenge.cw_everybest_k75_works_side_by_side_holds : PySem.Challenge.rw_everybest_k75_works_side_by_side.Holds := by
  w_on; o_law; k_head; (case hw => w_witness2)
  k_fill
  refine L2.walk_ofK (l := PySem.Challenge.rw_everybest_k75_works_side_by_side) (n := 63) (k := 9) (x := "script") (CX := L2.CX0) (sp := fun K => DL.spD K 1 (DL.evF Pg.T 9 14)) rfl (by decide) rfl ⟨rfl, by decide, by decide⟩ (fun w h Y => PySem.W.kIn_of Y) ?F (fun _ _ a ns hl hO hS => DL.law_says hO hS (Sh.law_true Sh.law_holds ns hl)) (fun _ _ _ _ h => h)
  case F =>
    intro w mg fa h KX G hmg
    refine' Pg.all_mk KX G hmg ?a0 ?l0 ?c0 ?k0 ?a1 ?l1 ?c1 ?k1 ?a2 ?l2 ?c2 ?k2 ?a3 ?l3 ?c3 ?k3 ?a4 ?l4 ?c4 ?k4 ?a5 ?l5 ?c5 ?k5 ?a6 ?l6 ?c6 ?k6 ?a7 ?l7 ?c7 ?k7 ?a8 ?l8 ?c8 ?k8 ?a9 ?l9 ?c9 ?k9 ?a10 ?l10 ?c10 ?k10 ?a11 ?l11 ?c11 ?k11 ?a12 ?l12 ?c12 ?k12 ?a13 ?l13 ?c13 ?k13 ?a14 ?l14 ?c14 ?k14 ?z0 ?z1 ?z2 ?z3 ?z4 ?z5 ?z6 ?z7 ?z8 ?z9 ?z10 ?z11 
    (case a0 => k_is); (case l0 => k_is); (case c0 => k_is); (case k0 => k_is)
    (case a1 => k_is); (case l1 => k_is); (case c1 => k_is); (case k1 => k_is)
    (case a2 => k_is); (case l2 => k_is); (case c2 => k_is); (case k2 => k_is)
    (case a3 => k_is); (case l3 => k_is); (case c3 => k_is); (case k3 => k_is)
    (case a4 => k_is); (case l4 => k_is); (case c4 => k_is); (case k4 => k_is)
    (case a5 => k_is); (case l5 => k_is); (case c5 => k_is); (case k5 => k_is)
    (case a6 => k_is); (case l6 => k_is); (case c6 => k_is); (case k6 => k_is)
    (case a7 => k_is); (case l7 => k_is); (case c7 => k_is); (case k7 => k_is)
    (case a8 => k_is); (case l8 => k_is); (case c8 => k_is); (case k8 => k_is)
    (case a9 => k_is); (case l9 => k_is); (case c9 => k_is); (case k9 => k_is)
    (case a10 => k_is); (case l10 => k_is); (case c10 => k_is); (case k10 => k_is)
    (case a11 => k_is); (case l11 => k_is); (case c11 => k_is); (case k11 => k_is)
    (case a12 => k_is); (case l12 => k_is); (case c12 => k_is); (case k12 => k_is)
    (case a13 => k_is); (case l13 => k_is); (case c13 => k_is); (case k13 => k_is)
    (case a14 => k_is); (case l14 => k_is); (case c14 => k_is); (case k14 => k_is)
    (case z0 => k_is)
    (case z1 => k_is)
    (case z2 => k_is)
    (case z3 => k_is)
    (case z4 => k_is)
    (case z5 => k_is)
    (case z6 => k_is)
    (case z7 => k_is)
    (case z8 => k_is)
    (case z9 => k_is)
    (case z10 => k_is)
    (case z11 => k_is)
end
