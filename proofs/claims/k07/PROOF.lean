import PyProof.Rows.All
import HandS.ForMost
import HandS.TupAny
import HandS.IsInst
import HandS.Deep
import HandS.Style
import HandS.Zip
import HandS.Rev
import HandS.Walk
import HandS.Strs
import HandS.More
import KE.DataFind
import KE.GoesEnum
import KE.KDictZip
import HandS.Defaults
import PySem.Challenge.RW_proofsthatrun_k07_whole_sentences_known
import Wide.All
import OpenK.AllK
import Wide.FinOn
section
set_option Elab.async false
set_option linter.all false
set_option maxRecDepth 100000
namespace L3
open PySem PySem.Spec PyProof.Rows L2

/-! ### values as data: tuples are trees, lists are either values that nobody changes any more (lst) or cells of a store (loc) -/
inductive PV where
  | non | bl (b : Bool) | int (i : Int) | str (s : Str) | tup (xs : List PV) | tupx (xs : List PV) | lst (xs : List PV) | ro (ns : List Int) | loc (n : Nat)
inductive Cell where
  | lst (xs : List PV) | dic (kvs : List (Key × PV)) | ins (C : Addr) (fs : List (Str × PV)) | dead
abbrev Store := List Cell
abbrev EnvP := List (Option PV)
abbrev Mu := List (Option Addr)
def live (μ : Mu) (a : Addr) : Prop := ∃ i : Nat, μ[i]? = some (some a)

mutual
inductive RepV (K : PySem.W.Frag) (B : Addr → Prop) (μ : Mu) (H : Hp) : V → PV → Prop
  | non : RepV K B μ H .non .non
  | bl (b : Bool) : RepV K B μ H (.bl b) (.bl b)
  | int (i : Int) : RepV K B μ H (.int i) (.int i)
  | str (x : Str) : RepV K B μ H (.str x) (.str x)
  | tup {a : Addr} {vs : List V} {xs : List PV} : ¬ B a → ¬ live μ a → H a = some (.tup vs) → RepVs K B μ H vs xs → RepV K B μ H (.ref a) (.tup xs)
  | tupx {a : Addr} {o : Obj} {vs : List V} {xs : List PV} : ¬ B a → ¬ live μ a → o.dict = none → H a = some (.frz o (.tup vs)) → RepVs K B μ H vs xs → RepV K B μ H (.ref a) (.tupx xs)
  | tupK {a : Addr} {vs : List V} {xs : List PV} {o : Obj} {its : Array Value} {n : Nat} : K.lookup a = some o → o.cls = .type "tuple" → o.data = .seq its n → its.size ≤ sizeLine → Vals vs its.toList → RepVs K B μ H vs xs → RepV K B μ H (.ref a) (.tup xs)
  | lst {a : Addr} {vs : List V} {xs : List PV} : ¬ B a → ¬ live μ a → H a = some (.lst vs) → RepVs K B μ H vs xs → RepV K B μ H (.ref a) (.lst xs)
  | ro {a : Addr} {ns : List Int} : ¬ B a → ¬ live μ a → Rd H a (.lst (ns.map V.int)) → RepV K B μ H (.ref a) (.ro ns)
  | roK {a : Addr} {ns : List Int} : SqL K (fun _ => none) a (ns.map V.int) → RepV K B μ H (.ref a) (.ro ns)
  | loc {v : V} {n : Nat} : n < μ.length → (∀ a, μ[n]? = some (some a) → v = .ref a) → RepV K B μ H v (.loc n)
inductive RepVs (K : PySem.W.Frag) (B : Addr → Prop) (μ : Mu) (H : Hp) : List V → List PV → Prop
  | nil : RepVs K B μ H [] []
  | cons {v : V} {vs : List V} {x : PV} {xs : List PV} : RepV K B μ H v x → RepVs K B μ H vs xs → RepVs K B μ H (v :: vs) (x :: xs)
end

/-- pairs with a key -/
def RepKs {κ : Type} (K : PySem.W.Frag) (B : Addr → Prop) (μ : Mu) (H : Hp) : List (κ × V) → List (κ × PV) → Prop := Paired fun (p : κ × V) (q : κ × PV) => p.1 = q.1 ∧ RepV K B μ H p.2 q.2
def RepC (K : PySem.W.Frag) (B : Addr → Prop) (μ : Mu) (H : Hp) (a : Addr) : Cell → Prop
  | .lst xs => ∃ vs, H a = some (.lst vs) ∧ RepVs K B μ H vs xs
  | .dic kvs => ∃ ks, H a = some (.dK ks) ∧ RepKs K B μ H ks kvs
  | .ins C fs => ∃ dx gs, H a = some (.ins C dx gs) ∧ RepKs K B μ H gs fs
  | .dead => False

structure Sim (K : PySem.W.Frag) (B : Addr → Prop) (μ : Mu) (st : Store) (H : Hp) : Prop where
  len : μ.length = st.length
  inj : ∀ (i j : Nat) (a : Addr), μ[i]? = some (some a) → μ[j]? = some (some a) → i = j
  out : ∀ (i : Nat) (a : Addr), μ[i]? = some (some a) → ¬ B a
  occ : ∀ a, B a → ∃ o, H a = some o
  at_ : ∀ (i : Nat) (c : Cell), st[i]? = some c → (c = .dead ∧ μ[i]? = some none) ∨ ∃ a, μ[i]? = some (some a) ∧ RepC K B μ H a c

/-- what stood and is nobody's cell stands -/
structure Le (μ : Mu) (H : Hp) (μ' : Mu) (H' : Hp) : Prop where
  grow : μ.length ≤ μ'.length
  back : ∀ (i : Nat) (a : Addr), i < μ.length → μ'[i]? = some (some a) → μ[i]? = some (some a)
  keep : ∀ (a : Addr) (o : HO), H a = some o → ¬ live μ a → H' a = some o ∧ ¬ live μ' a

theorem Le.refl (μ : Mu) (H : Hp) : Le μ H μ H := ⟨Nat.le_refl _, fun _ _ _ h => h, fun _ _ h n => ⟨h, n⟩⟩
theorem Le.trans {μ1 μ2 μ3 : Mu} {H1 H2 H3 : Hp} (a : Le μ1 H1 μ2 H2) (b : Le μ2 H2 μ3 H3) : Le μ1 H1 μ3 H3 :=
  ⟨Nat.le_trans a.grow b.grow, fun i x hi h => a.back i x hi (b.back i x (Nat.lt_of_lt_of_le hi a.grow) h), fun x o h n => let ⟨h2, n2⟩ := a.keep x o h n; b.keep x o h2 n2⟩

section
variable {K : PySem.W.Frag} {B B' : Addr → Prop} {μ μ' : Mu} {H H' : Hp}
theorem sqL_keep {a : Addr} {xs : List V} (h : SqL K H a xs) (k : ∀ o, H a = some o → H' a = some o) : SqL K H' a xs := by
  rcases h with (h | ⟨o, h⟩) | h
  · exact .inl (.inl (k _ h))
  · exact .inl (.inr ⟨o, k _ h⟩)
  · exact .inr h
mutual
theorem RepV.mono (l : Le μ H μ' H') : ∀ {v : V} {x : PV}, RepV K B μ H v x → RepV K B μ' H' v x
  | _, _, .non => .non
  | _, _, .bl b => .bl b
  | _, _, .int i => .int i
  | _, _, .str x => .str x
  | _, _, .tup nb nl h r => let ⟨h2, n2⟩ := l.keep _ _ h nl; .tup nb n2 h2 (RepVs.mono l r)
  | _, _, .tupx nb nl d h r => let ⟨h2, n2⟩ := l.keep _ _ h nl; .tupx nb n2 d h2 (RepVs.mono l r)
  | _, _, .tupK a b c d e r => .tupK a b c d e (RepVs.mono l r)
  | _, _, .lst nb nl h r => let ⟨h2, n2⟩ := l.keep _ _ h nl; .lst nb n2 h2 (RepVs.mono l r)
  | _, _, .ro nb nl (.inl h) => let ⟨h2, n2⟩ := l.keep _ _ h nl; .ro nb n2 (.inl h2)
  | _, _, .ro nb nl (.inr ⟨o, h⟩) => let ⟨h2, n2⟩ := l.keep _ _ h nl; .ro nb n2 (.inr ⟨o, h2⟩)
  | _, _, .roK h => .roK h
  | _, _, .loc h r => .loc (Nat.lt_of_lt_of_le h l.grow) fun a e => r a (l.back _ a h e)
theorem RepVs.mono (l : Le μ H μ' H') : ∀ {vs : List V} {xs : List PV}, RepVs K B μ H vs xs → RepVs K B μ' H' vs xs
  | _, _, .nil => .nil
  | _, _, .cons r rs => .cons (RepV.mono l r) (RepVs.mono l rs)
end
end

section
variable {K : PySem.W.Frag} {B B' : Addr → Prop} {μ μ' : Mu} {H H' : Hp} {st : Store}
theorem RepVs.length : ∀ {vs : List V} {xs : List PV}, RepVs K B μ H vs xs → vs.length = xs.length
  | _, _, .nil => rfl
  | _, _, .cons _ rs => congrArg (· + 1) (RepVs.length rs)
theorem RepVs.get : ∀ {vs : List V} {xs : List PV} {i : Nat} {x : PV}, RepVs K B μ H vs xs → xs[i]? = some x → ∃ v, vs[i]? = some v ∧ RepV K B μ H v x
  | _, _, _, _, .nil, e => by simp at e
  | _, _, 0, _, .cons r _, e => by simp at e; subst e; exact ⟨_, rfl, r⟩
  | _, _, i + 1, x, .cons _ rs, e => by
    obtain ⟨v, h1, h2⟩ := RepVs.get (i := i) (x := x) rs (by simpa using e)
    exact ⟨v, by simpa using h1, h2⟩
theorem RepVs.getV : ∀ {vs : List V} {xs : List PV} {i : Nat} {v : V}, RepVs K B μ H vs xs → vs[i]? = some v → ∃ x, xs[i]? = some x ∧ RepV K B μ H v x
  | _, _, _, _, .nil, e => by simp at e
  | _, _, 0, _, .cons r _, e => by simp at e; subst e; exact ⟨_, rfl, r⟩
  | _, _, i + 1, v, .cons _ rs, e => by
    obtain ⟨x, h1, h2⟩ := RepVs.getV (i := i) (v := v) rs (by simpa using e)
    exact ⟨x, by simpa using h1, h2⟩
theorem RepVs.append : ∀ {vs ws : List V} {xs ys : List PV}, RepVs K B μ H vs xs → RepVs K B μ H ws ys → RepVs K B μ H (vs ++ ws) (xs ++ ys)
  | _, _, _, _, .nil, s => s
  | _, _, _, _, .cons r t, s => .cons r (RepVs.append t s)
theorem RepVs.take : ∀ {vs : List V} {xs : List PV} (n : Nat), RepVs K B μ H vs xs → RepVs K B μ H (vs.take n) (xs.take n)
  | _, _, 0, _ => .nil
  | _, _, _ + 1, .nil => .nil
  | _, _, n + 1, .cons r t => .cons r (RepVs.take n t)
theorem RepVs.drop : ∀ {vs : List V} {xs : List PV} (n : Nat), RepVs K B μ H vs xs → RepVs K B μ H (vs.drop n) (xs.drop n)
  | _, _, 0, r => r
  | _, _, _ + 1, .nil => .nil
  | _, _, n + 1, .cons _ t => RepVs.drop n t
theorem RepVs.set {v : V} {x : PV} (r : RepV K B μ H v x) : ∀ {vs : List V} {xs : List PV} (i : Nat), RepVs K B μ H vs xs → RepVs K B μ H (vs.set i v) (xs.set i x)
  | _, _, _, .nil => .nil
  | _, _, 0, .cons _ t => .cons r t
  | _, _, i + 1, .cons q t => .cons q (RepVs.set r i t)
theorem RepVs.eraseIdx : ∀ {vs : List V} {xs : List PV} (i : Nat), RepVs K B μ H vs xs → RepVs K B μ H (vs.eraseIdx i) (xs.eraseIdx i)
  | _, _, _, .nil => by simpa using RepVs.nil
  | _, _, 0, .cons _ t => by simpa using t
  | _, _, i + 1, .cons q t => by simpa using RepVs.cons q (RepVs.eraseIdx i t)
theorem RepVs.dropLast {vs : List V} {xs : List PV} (h : RepVs K B μ H vs xs) : RepVs K B μ H vs.dropLast xs.dropLast := by
  rw [List.dropLast_eq_take, List.dropLast_eq_take, h.length]
  exact h.take _
theorem RepVs.reverse : ∀ {vs : List V} {xs : List PV}, RepVs K B μ H vs xs → RepVs K B μ H vs.reverse xs.reverse
  | _, _, .nil => .nil
  | _, _, .cons r t => by
    rw [List.reverse_cons, List.reverse_cons]
    exact (RepVs.reverse t).append (.cons r .nil)

theorem RepKs.mono {κ : Type} (l : Le μ H μ' H') : ∀ {ks : List (κ × V)} {xs : List (κ × PV)}, RepKs K B μ H ks xs → RepKs K B μ' H' ks xs
  | _, _, .nil => .nil
  | _, _, .cons ⟨e, r⟩ t => .cons ⟨e, r.mono l⟩ (RepKs.mono l t)

/-! ### more is forbidden, less is forbidden -/
mutual
theorem RepV.sub (hb : ∀ a, B a → B' a) : ∀ {v : V} {x : PV}, RepV K B' μ H v x → RepV K B μ H v x
  | _, _, .non => .non
  | _, _, .bl b => .bl b
  | _, _, .int i => .int i
  | _, _, .str x => .str x
  | _, _, .tup nb nl h r => .tup (fun z => nb (hb _ z)) nl h (RepVs.sub hb r)
  | _, _, .tupx nb nl d h r => .tupx (fun z => nb (hb _ z)) nl d h (RepVs.sub hb r)
  | _, _, .tupK a b c d e r => .tupK a b c d e (RepVs.sub hb r)
  | _, _, .lst nb nl h r => .lst (fun z => nb (hb _ z)) nl h (RepVs.sub hb r)
  | _, _, .ro nb nl h => .ro (fun z => nb (hb _ z)) nl h
  | _, _, .roK h => .roK h
  | _, _, .loc h r => .loc h r
theorem RepVs.sub (hb : ∀ a, B a → B' a) : ∀ {vs : List V} {xs : List PV}, RepVs K B' μ H vs xs → RepVs K B μ H vs xs
  | _, _, .nil => .nil
  | _, _, .cons r rs => .cons (RepV.sub hb r) (RepVs.sub hb rs)
end
end
end L3
end
section
set_option Elab.async false
set_option linter.all false
set_option maxRecDepth 100000
namespace L3
open PySem PySem.Spec PyProof.Rows L2
section
variable {K : PySem.W.Frag} {B B' : Addr → Prop} {μ μ' : Mu} {H H' : Hp} {st : Store}

mutual
def PV.pure : PV → Bool
  | .loc _ => false
  | .tup xs => PV.pures xs
  | .tupx xs => PV.pures xs
  | .lst xs => PV.pures xs
  | .non => true
  | .bl _ => true
  | .int _ => true
  | .str _ => true
  | .ro _ => true
def PV.pures : List PV → Bool
  | [] => true
  | x :: xs => PV.pure x && PV.pures xs
end

/-! another heap that has all but what is forbidden -/
mutual
theorem RepV.off (k : ∀ a o, ¬ B a → H a = some o → H' a = some o) : ∀ {v : V} {x : PV}, RepV K B μ H v x → RepV K B μ H' v x
  | _, _, .non => .non
  | _, _, .bl b => .bl b
  | _, _, .int i => .int i
  | _, _, .str x => .str x
  | _, _, .tup nb nl h r => .tup nb nl (k _ _ nb h) (RepVs.off k r)
  | _, _, .tupx nb nl d h r => .tupx nb nl d (k _ _ nb h) (RepVs.off k r)
  | _, _, .tupK a b c d e r => .tupK a b c d e (RepVs.off k r)
  | _, _, .lst nb nl h r => .lst nb nl (k _ _ nb h) (RepVs.off k r)
  | _, _, .ro nb nl (.inl h) => .ro nb nl (.inl (k _ _ nb h))
  | _, _, .ro nb nl (.inr ⟨o, h⟩) => .ro nb nl (.inr ⟨o, k _ _ nb h⟩)
  | _, _, .roK h => .roK h
  | _, _, .loc h r => .loc h r
theorem RepVs.off (k : ∀ a o, ¬ B a → H a = some o → H' a = some o) : ∀ {vs : List V} {xs : List PV}, RepVs K B μ H vs xs → RepVs K B μ H' vs xs
  | _, _, .nil => .nil
  | _, _, .cons r rs => .cons (RepV.off k r) (RepVs.off k rs)
end
theorem RepKs.off {κ : Type} (k : ∀ a o, ¬ B a → H a = some o → H' a = some o) : ∀ {ks : List (κ × V)} {xs : List (κ × PV)}, RepKs K B μ H ks xs → RepKs K B μ H' ks xs
  | _, _, .nil => .nil
  | _, _, .cons ⟨e, r⟩ t => .cons ⟨e, r.off k⟩ (RepKs.off k t)
theorem RepC.off (k : ∀ a o, ¬ B a → H a = some o → H' a = some o) {a : Addr} (nb : ¬ B a) : ∀ {c : Cell}, RepC K B μ H a c → RepC K B μ H' a c
  | .lst _, ⟨vs, h, r⟩ => ⟨vs, k _ _ nb h, r.off k⟩
  | .dic _, ⟨ks, h, r⟩ => ⟨ks, k _ _ nb h, r.off k⟩
  | .ins _ _, ⟨dx, gs, h, r⟩ => ⟨dx, gs, k _ _ nb h, r.off k⟩
  | .dead, h => h
theorem Sim.off (k : ∀ a o, ¬ B a → H a = some o → H' a = some o) (ho : ∀ a, B a → ∃ o, H' a = some o) (s : Sim K B μ st H) : Sim K B μ st H' :=
  ⟨s.len, s.inj, s.out, ho, fun i c e => (s.at_ i c e).imp id fun ⟨a, ha, r⟩ => ⟨a, ha, r.off k (s.out i a ha)⟩⟩

/-- one place more is forbidden, at which nothing stands -/
def plus (B : Addr → Prop) (D : Addr) : Addr → Prop := fun a => B a ∨ a = D
mutual
theorem RepV.plus {D : Addr} (hn : H D = none) : ∀ {v : V} {x : PV}, RepV K B μ H v x → RepV K (plus B D) μ H v x
  | _, _, .non => .non
  | _, _, .bl b => .bl b
  | _, _, .int i => .int i
  | _, _, .str x => .str x
  | _, _, .tup nb nl h r => .tup (fun z => z.elim nb (ne_of_none h hn)) nl h (RepVs.plus hn r)
  | _, _, .tupx nb nl d h r => .tupx (fun z => z.elim nb (ne_of_none h hn)) nl d h (RepVs.plus hn r)
  | _, _, .tupK a b c d e r => .tupK a b c d e (RepVs.plus hn r)
  | _, _, .lst nb nl h r => .lst (fun z => z.elim nb (ne_of_none h hn)) nl h (RepVs.plus hn r)
  | _, _, .ro nb nl (.inl h) => .ro (fun z => z.elim nb (ne_of_none h hn)) nl (.inl h)
  | _, _, .ro nb nl (.inr ⟨o, h⟩) => .ro (fun z => z.elim nb (ne_of_none h hn)) nl (.inr ⟨o, h⟩)
  | _, _, .roK h => .roK h
  | _, _, .loc h r => .loc h r
theorem RepVs.plus {D : Addr} (hn : H D = none) : ∀ {vs : List V} {xs : List PV}, RepVs K B μ H vs xs → RepVs K (plus B D) μ H vs xs
  | _, _, .nil => .nil
  | _, _, .cons r rs => .cons (RepV.plus hn r) (RepVs.plus hn rs)
end
theorem RepKs.plus {κ : Type} {D : Addr} (hn : H D = none) : ∀ {ks : List (κ × V)} {xs : List (κ × PV)}, RepKs K B μ H ks xs → RepKs K (plus B D) μ H ks xs
  | _, _, .nil => .nil
  | _, _, .cons ⟨e, r⟩ t => .cons ⟨e, r.plus hn⟩ (RepKs.plus hn t)
theorem RepKs.sub {κ : Type} (hb : ∀ a, B a → B' a) : ∀ {ks : List (κ × V)} {xs : List (κ × PV)}, RepKs K B' μ H ks xs → RepKs K B μ H ks xs
  | _, _, .nil => .nil
  | _, _, .cons ⟨e, r⟩ t => .cons ⟨e, r.sub hb⟩ (RepKs.sub hb t)
theorem RepC.ne {D : Addr} (hn : H D = none) {a : Addr} : ∀ {c : Cell}, RepC K B μ H a c → a ≠ D
  | .lst _, ⟨_, h, _⟩ => ne_of_none h hn
  | .dic _, ⟨_, h, _⟩ => ne_of_none h hn
  | .ins _ _, ⟨_, _, h, _⟩ => ne_of_none h hn
  | .dead, h => h.elim
theorem RepC.plus {D : Addr} (hn : H D = none) {a : Addr} : ∀ {c : Cell}, RepC K B μ H a c → RepC K (plus B D) μ H a c
  | .lst _, ⟨vs, h, r⟩ => ⟨vs, h, r.plus hn⟩
  | .dic _, ⟨ks, h, r⟩ => ⟨ks, h, r.plus hn⟩
  | .ins _ _, ⟨dx, gs, h, r⟩ => ⟨dx, gs, h, r.plus hn⟩
  | .dead, h => h
theorem RepC.sub (hb : ∀ a, B a → B' a) {a : Addr} : ∀ {c : Cell}, RepC K B' μ H a c → RepC K B μ H a c
  | .lst _, ⟨vs, h, r⟩ => ⟨vs, h, r.sub hb⟩
  | .dic _, ⟨ks, h, r⟩ => ⟨ks, h, r.sub hb⟩
  | .ins _ _, ⟨dx, gs, h, r⟩ => ⟨dx, gs, h, r.sub hb⟩
  | .dead, h => h
theorem Sim.cell (s : Sim K B μ st H) {i : Nat} {a : Addr} (h : μ[i]? = some (some a)) : ∃ c, st[i]? = some c ∧ RepC K B μ H a c := by
  have hi : i < st.length := by rw [← s.len]; exact (List.getElem?_eq_some_iff.mp h).1
  refine ⟨st[i], List.getElem?_eq_getElem hi, ?_⟩
  rcases s.at_ i st[i] (List.getElem?_eq_getElem hi) with ⟨_, e⟩ | ⟨b, e, r⟩
  · rw [h] at e; cases e
  · rw [h] at e; cases e; exact r
theorem Sim.plus {D : Addr} {o : HO} (hn : H D = none) (s : Sim K B μ st H) : Sim K (L3.plus B D) μ st (upd H D o) := by
  have k : ∀ a u, ¬ L3.plus B D a → H a = some u → upd H D o a = some u := fun a u n e => by rw [upd_ne (ne_of_none e hn)]; exact e
  have nb : ∀ (i : Nat) (a : Addr), μ[i]? = some (some a) → ¬ L3.plus B D a := fun i a h z => by
    obtain ⟨c, _, r⟩ := s.cell h
    exact z.elim (s.out i a h) (r.ne hn)
  refine ⟨s.len, s.inj, nb, fun a z => ?_, fun i c e => (s.at_ i c e).imp id fun ⟨a, ha, r⟩ => ⟨a, ha, (r.plus hn).off k (nb i a ha)⟩⟩
  by_cases h : a = D
  · subst h; exact ⟨o, upd_same⟩
  · rcases z with z | z
    · obtain ⟨u, hu⟩ := s.occ a z
      exact ⟨u, by rw [upd_ne h]; exact hu⟩
    · exact absurd z h
theorem Sim.sub (hb : ∀ a, B a → B' a) (s : Sim K B' μ st H) : Sim K B μ st H :=
  ⟨s.len, s.inj, fun i a h z => s.out i a h (hb a z), fun a z => s.occ a (hb a z), fun i c e => (s.at_ i c e).imp id fun ⟨a, ha, r⟩ => ⟨a, ha, r.sub hb⟩⟩
theorem plus_sub {D : Addr} : ∀ a, B a → L3.plus B D a := fun _ h => .inl h
theorem Sim.not_live (s : Sim K B μ st H) {a : Addr} (hn : H a = none) : ¬ live μ a := fun ⟨i, h⟩ => by
  obtain ⟨c, _, r⟩ := s.cell h
  exact r.ne hn rfl
theorem RepC.mono (l : Le μ H μ' H') {a : Addr} (k : ∀ o, H a = some o → H' a = some o) : ∀ {c : Cell}, RepC K B μ H a c → RepC K B μ' H' a c
  | .lst _, ⟨vs, h, r⟩ => ⟨vs, k _ h, r.mono l⟩
  | .dic _, ⟨ks, h, r⟩ => ⟨ks, k _ h, r.mono l⟩
  | .ins _ _, ⟨dx, gs, h, r⟩ => ⟨dx, gs, k _ h, r.mono l⟩
  | .dead, h => h

/-! ### a call with nothing of ours to change -/
/-- what a callee must leave alone -/
def shut (B : Addr → Prop) (μ : Mu) : Addr → Prop := fun a => B a ∨ live μ a
mutual
theorem RepV.shut : ∀ {v : V} {x : PV}, x.pure = true → RepV K B μ H v x → RepV K (shut B μ) [] H v x
  | _, _, _, .non => .non
  | _, _, _, .bl b => .bl b
  | _, _, _, .int i => .int i
  | _, _, _, .str x => .str x
  | _, _, p, .tup nb nl h r => .tup (fun z => z.elim nb nl) (fun ⟨_, e⟩ => by simp at e) h (RepVs.shut p r)
  | _, _, p, .tupx nb nl d h r => .tupx (fun z => z.elim nb nl) (fun ⟨_, e⟩ => by simp at e) d h (RepVs.shut p r)
  | _, _, p, .tupK a b c d e r => .tupK a b c d e (RepVs.shut p r)
  | _, _, p, .lst nb nl h r => .lst (fun z => z.elim nb nl) (fun ⟨_, e⟩ => by simp at e) h (RepVs.shut p r)
  | _, _, _, .ro nb nl h => .ro (fun z => z.elim nb nl) (fun ⟨_, e⟩ => by simp at e) h
  | _, _, _, .roK h => .roK h
theorem RepVs.shut : ∀ {vs : List V} {xs : List PV}, PV.pures xs = true → RepVs K B μ H vs xs → RepVs K (shut B μ) [] H vs xs
  | _, _, _, .nil => .nil
  | _, _, p, .cons r rs => .cons (RepV.shut (Bool.and_eq_true_iff.mp p).1 r) (RepVs.shut (Bool.and_eq_true_iff.mp p).2 rs)
end
mutual
theorem RepV.opn : ∀ {v : V} {x : PV}, x.pure = true → RepV K (L3.shut B μ) μ' H v x → RepV K B μ H v x
  | _, _, _, .non => .non
  | _, _, _, .bl b => .bl b
  | _, _, _, .int i => .int i
  | _, _, _, .str x => .str x
  | _, _, p, .tup nb nl h r => .tup (fun z => nb (.inl z)) (fun z => nb (.inr z)) h (RepVs.opn p r)
  | _, _, p, .tupx nb nl d h r => .tupx (fun z => nb (.inl z)) (fun z => nb (.inr z)) d h (RepVs.opn p r)
  | _, _, p, .tupK a b c d e r => .tupK a b c d e (RepVs.opn p r)
  | _, _, p, .lst nb nl h r => .lst (fun z => nb (.inl z)) (fun z => nb (.inr z)) h (RepVs.opn p r)
  | _, _, _, .ro nb nl h => .ro (fun z => nb (.inl z)) (fun z => nb (.inr z)) h
  | _, _, _, .roK h => .roK h
theorem RepVs.opn : ∀ {vs : List V} {xs : List PV}, PV.pures xs = true → RepVs K (L3.shut B μ) μ' H vs xs → RepVs K B μ H vs xs
  | _, _, _, .nil => .nil
  | _, _, p, .cons r rs => .cons (RepV.opn (Bool.and_eq_true_iff.mp p).1 r) (RepVs.opn (Bool.and_eq_true_iff.mp p).2 rs)
end
theorem Sim.shut (s : Sim K B μ st H) : Sim K (L3.shut B μ) [] [] H := ⟨rfl, fun _ _ _ e => by simp at e, fun _ _ e => by simp at e, fun a z => by
    rcases z with z | ⟨i, z⟩
    · exact s.occ a z
    · obtain ⟨c, _, r⟩ := s.cell z
      cases h : H a with
      | none => exact absurd rfl (r.ne h)
      | some o => exact ⟨o, rfl⟩, fun _ _ e => by simp at e⟩
theorem Le.all (l : Le [] H μ' H') : ∀ a o, H a = some o → H' a = some o := fun a o h => (l.keep a o h fun ⟨_, e⟩ => by simp at e).1
theorem Le.stay {μ1 : Mu} (l : Le [] H μ1 H') : Le μ H μ H' := ⟨Nat.le_refl _, fun _ _ _ h => h, fun a o h n => ⟨l.all a o h, n⟩⟩
theorem Sim.stay (s : Sim K B μ st H) (k : ∀ a o, H a = some o → H' a = some o) : Sim K B μ st H' := s.off (fun a o _ => k a o) fun a z => let ⟨o, h⟩ := s.occ a z; ⟨o, k a o h⟩
theorem Sim.free (s : Sim K B μ st H) {a : Addr} (hn : H a = none) : ¬ B a := fun z => by
  obtain ⟨o, h⟩ := s.occ a z
  rw [hn] at h; cases h
theorem shut_sub : ∀ a, B a → L3.shut B μ a := fun _ h => .inl h
end
end L3
end
section
set_option Elab.async false
set_option linter.all false
set_option maxRecDepth 100000
namespace L3
open PySem PySem.Spec PyProof.Rows L2

/-! ### readings -/
def RepE (K : PySem.W.Frag) (B : Addr → Prop) (μ : Mu) (H : Hp) (σ : L2.St) (env : EnvP) : Prop :=
  env.length = σ.length ∧ ∀ (i : Nat) (p : PV), env[i]? = some (some p) → ∃ v, σ[i]? = some (some v) ∧ RepV K B μ H v p
abbrev FE := EnvP → Store → Option (PV × Store)
abbrev FT := EnvP → Store → Option (Bool × Store)
abbrev FA := EnvP → Store → Option (List PV × Store)
inductive Fl where
  | nx | ret (v : PV) | bk | ct
abbrev FS := EnvP → Store → Option (Fl × EnvP × Store)

def Got (K : PySem.W.Frag) (B : Addr → Prop) (μ : Mu) (H : Hp) (v : PV) (st' : Store) (Q : VK) : Prop :=
  ∀ x H' μ', Sim K B μ' st' H' → Le μ H μ' H' → RepV K B μ' H' x v → Q x H'
def GotT (K : PySem.W.Frag) (B : Addr → Prop) (μ : Mu) (H : Hp) (b : Bool) (st' : Store) (Q : Bool → Hp → Prop) : Prop :=
  ∀ H' μ', Sim K B μ' st' H' → Le μ H μ' H' → Q b H'
def GotA (K : PySem.W.Frag) (B : Addr → Prop) (μ : Mu) (H : Hp) (vs : List PV) (st' : Store) (Q : List V → Hp → Prop) : Prop :=
  ∀ xs H' μ', Sim K B μ' st' H' → Le μ H μ' H' → RepVs K B μ' H' xs vs → Q xs H'
def Rd (K : PySem.W.Frag) (f : FE) : L2.TE := fun σ H Q => ∃ B μ st env v st', Sim K B μ st H ∧ RepE K B μ H σ env ∧ f env st = some (v, st') ∧ Got K B μ H v st' Q
def RdT (K : PySem.W.Frag) (f : FT) : L2.TT := fun σ H Q => ∃ B μ st env v st', Sim K B μ st H ∧ RepE K B μ H σ env ∧ f env st = some (v, st') ∧ GotT K B μ H v st' Q
def RdA (K : PySem.W.Frag) (f : FA) : L2.TA := fun σ H Q => ∃ B μ st env v st', Sim K B μ st H ∧ RepE K B μ H σ env ∧ f env st = some (v, st') ∧ GotA K B μ H v st' Q
def GotS (K : PySem.W.Frag) (B : Addr → Prop) (μ : Mu) (H : Hp) (fl : Fl) (env' : EnvP) (st' : Store) (D : Ends) : Prop :=
  ∀ σ' H' μ', Sim K B μ' st' H' → Le μ H μ' H' → RepE K B μ' H' σ' env' → match fl with
    | .nx => D.nx σ' H'
    | .bk => D.bk σ' H'
    | .ct => D.ct σ' H'
    | .ret p => ∀ x, RepV K B μ' H' x p → D.rt x H'
def RdS (K : PySem.W.Frag) (f : FS) : L2.TS := fun D σ H => ∃ B μ st env fl env' st', Sim K B μ st H ∧ RepE K B μ H σ env ∧ f env st = some (fl, env', st') ∧ GotS K B μ H fl env' st' D

theorem peI {X : Cx} {e : Expr} {t t' : L2.TE} (h : PE X e t) (k : ∀ σ H Q, t' σ H Q → t σ H Q) : PE X e t' := ⟨fun pins s σ H Q I q => h.run pins s σ H Q I (k σ H Q q)⟩
theorem ptI {X : Cx} {e : Expr} {t t' : L2.TT} (h : PT X e t) (k : ∀ σ H Q, t' σ H Q → t σ H Q) : PT X e t' := ⟨fun pins s σ H Q I q => h.run pins s σ H Q I (k σ H Q q)⟩
theorem paI {X : Cx} {e : List Expr} {t t' : L2.TA} (h : PA X e t) (k : ∀ σ H Q, t' σ H Q → t σ H Q) : PA X e t' := ⟨fun pos pins s σ H Q I q => h.run pos pins s σ H Q I (k σ H Q q)⟩
theorem psI {X : Cx} {e : Stmt} {t t' : L2.TS} (h : PS X e t) (k : ∀ D σ H, t' D σ H → t D σ H) : PS X e t' := ⟨fun pins s σ H D I q => h.run pins s σ H D I (k D σ H q)⟩
theorem pssI {X : Cx} {e : List Stmt} {t t' : L2.TS} (h : PSs X e t) (k : ∀ D σ H, t' D σ H → t D σ H) : PSs X e t' := ⟨fun pins s σ H D I q => h.run pins s σ H D I (k D σ H q)⟩

abbrev SimE (X : Cx) (e : Expr) (f : FE) : Prop := PE X e (Rd X.K f)
abbrev SimT (X : Cx) (e : Expr) (f : FT) : Prop := PT X e (RdT X.K f)
abbrev SimA (X : Cx) (es : List Expr) (f : FA) : Prop := PA X es (RdA X.K f)
abbrev SimS (X : Cx) (s : Stmt) (f : FS) : Prop := PS X s (RdS X.K f)
abbrev SimSs (X : Cx) (s : List Stmt) (f : FS) : Prop := PSs X s (RdS X.K f)

section
variable {K : PySem.W.Frag} {B : Addr → Prop} {μ μ' : Mu} {H H' : Hp} {σ : L2.St} {env : EnvP} {st st' : Store} {v : PV} {Q : VK}
theorem RepE.mono (l : Le μ H μ' H') (r : RepE K B μ H σ env) : RepE K B μ' H' σ env :=
  ⟨r.1, fun i p e => let ⟨v, h, q⟩ := r.2 i p e; ⟨v, h, q.mono l⟩⟩
theorem RepE.set (r : RepE K B μ H σ env) {i : Nat} {x : V} {p : PV} (q : RepV K B μ H x p) : RepE K B μ H (σ.set i (some x)) (env.set i (some p)) := by
  refine ⟨by simp [r.1], fun j p' e => ?_⟩
  by_cases h : i = j
  · subst h
    have hi : i < env.length := by
      have := (List.getElem?_eq_some_iff.mp e).1
      simpa using this
    rw [List.getElem?_set_self hi] at e
    cases e
    exact ⟨x, by rw [List.getElem?_set_self (by rw [← r.1]; exact hi)], q⟩
  · rw [List.getElem?_set_ne h] at e
    obtain ⟨v, hv, qv⟩ := r.2 j p' e
    exact ⟨v, by rw [List.getElem?_set_ne h]; exact hv, qv⟩
theorem Got_mono (g : Got K B μ H v st' Q) (l : Le μ H μ' H') : Got K B μ' H' v st' Q := fun x H2 μ2 s l2 r => g x H2 μ2 s (l.trans l2) r
/-- one expression, then what follows -/
theorem Rd.go {f : FE} {R : VK} (s : Sim K B μ st H) (r : RepE K B μ H σ env) (e : f env st = some (v, st')) (k : Got K B μ H v st' R) : Rd K f σ H R := ⟨B, μ, st, env, v, st', s, r, e, k⟩
theorem RdT.go {f : FT} {b : Bool} {R : Bool → Hp → Prop} (s : Sim K B μ st H) (r : RepE K B μ H σ env) (e : f env st = some (b, st')) (k : GotT K B μ H b st' R) : RdT K f σ H R := ⟨B, μ, st, env, b, st', s, r, e, k⟩
theorem RdA.go {f : FA} {vs : List PV} {R : List V → Hp → Prop} (s : Sim K B μ st H) (r : RepE K B μ H σ env) (e : f env st = some (vs, st')) (k : GotA K B μ H vs st' R) : RdA K f σ H R := ⟨B, μ, st, env, vs, st', s, r, e, k⟩
end

/-! ### names and constants -/
def eVar (i : Nat) : FE := fun env st => match env[i]? with
  | some (some p) => some (p, st)
  | _ => none
def eC (p : PV) : FE := fun _ st => some (p, st)
section
variable {X : Cx} {pos : Pos}
theorem simE_var (i : Nat) {x : Str} (hN : X.N[i]? = some x := by rfl) (hv : Vis X.env.scope x := by first | exact Or.inl rfl | exact Or.inr (Or.inl rfl) | exact Or.inr (Or.inr rfl)) (hd : (x == ("__debug__" : Str)) = false := by decide)
    (hcd : (x == ("__classdict__" : Str)) = false := by decide) : SimE X (.Name x pos) (eVar i) := by
  refine peI (pe_var hN hv hd hcd) fun σ H Q ⟨B, μ, st, env, v, st', s, r, e, k⟩ => ?_
  unfold eVar at e
  split at e
  · rename_i p h
    obtain ⟨u, hu, ru⟩ := r.2 i p h
    cases e
    exact ⟨u, hu, k u H μ s (Le.refl _ _) ru⟩
  · cases e
theorem simE_c {e : Expr} {x : V} {p : PV} (h : PE X e (tC x)) (hr : ∀ (B : Addr → Prop) (μ : Mu) (H : Hp), RepV X.K B μ H x p) : SimE X e (eC p) := by
  refine peI h fun σ H Q ⟨B, μ, st, env, v, st', s, r, e, k⟩ => ?_
  cases e
  exact k x H μ s (Le.refl _ _) (hr B μ H)
theorem simE_int {i : Int} {j : Nat} : SimE X (.Constant (.int i) j pos) (eC (.int i)) := simE_c pe_int fun _ _ _ => .int i
theorem simE_bl {b : Bool} {j : Nat} : SimE X (.Constant (.bool b) j pos) (eC (.bl b)) := simE_c pe_bl fun _ _ _ => .bl b
theorem simE_non {j : Nat} : SimE X (.Constant .none j pos) (eC .non) := simE_c pe_non fun _ _ _ => .non
theorem simE_str {x : Str} {j : Nat} : SimE X (.Constant (.str x) j pos) (eC (.str x)) := simE_c pe_str fun _ _ _ => .str x
/-- a constant of the module -/
theorem simE_gl {x : Str} {v : V} {u : Value} {p : PV} (hg : Gl X x) (hm : X.mg x = some u) (r : RelV v u) (hr : ∀ (B : Addr → Prop) (μ : Mu) (H : Hp), RepV X.K B μ H v p) (hd : (x == ("__debug__" : Str)) = false := by decide) : SimE X (.Name x pos) (eC p) :=
  simE_c (pe_glob hg hm r hd) hr
end

/-! ### arguments, tuples, lists -/
def aNil : FA := fun _ st => some ([], st)
def aCons (f : FE) (g : FA) : FA := fun env st => match f env st with
  | some (a, st1) => (match g env st1 with
    | some (as, st2) => some (a :: as, st2)
    | none => none)
  | none => none
def eTup (g : FA) : FE := fun env st => match g env st with
  | some (as, st1) => if as.length ≤ sizeLine then some (.tup as, st1) else none
  | none => none
/-- a list that nobody changes -/
def eLst (g : FA) : FE := fun env st => match g env st with
  | some (as, st1) => if as.length ≤ sizeLine then some (.lst as, st1) else none
  | none => none
/-- a list as a cell -/
def eLstM (g : FA) : FE := fun env st => match g env st with
  | some (as, st1) => if as.length ≤ sizeLine then some (.loc st1.length, st1 ++ [.lst as]) else none
  | none => none
section
variable {X : Cx} {pos : Pos} {e : Expr} {es : List Expr} {f : FE} {g : FA}
theorem simA_nil : SimA X [] aNil := by
  refine paI pa_nil fun σ H Q ⟨B, μ, st, env, v, st', s, r, e, k⟩ => ?_
  cases e
  exact k [] H μ s (Le.refl _ _) .nil
theorem simA_cons (ha : SimE X e f) (hr : SimA X es g) (hs : starEach (e :: es) X.env = (false, eval e X.env) :: starEach es X.env := by rfl) : SimA X (e :: es) (aCons f g) := by
  refine paI (pa_cons ha hr hs) fun σ H Q ⟨B, μ, st, env, v, st', s, r, e, k⟩ => ?_
  unfold aCons at e
  split at e
  · rename_i a st1 h1
    split at e
    · rename_i as st2 h2
      cases e
      exact Rd.go s r h1 fun x H1 μ1 s1 l1 r1 => RdA.go s1 (r.mono l1) h2 fun xs H2 μ2 s2 l2 r2 => k (x :: xs) H2 μ2 s2 (l1.trans l2) (.cons (r1.mono l2) r2)
    · cases e
  · cases e

section
variable {K : PySem.W.Frag} {B : Addr → Prop} {μ μ' : Mu} {H H' : Hp} {st st' : Store}
/-- a new object that is no cell -/
theorem le_new {p : Addr} {o : HO} (s : Sim K B μ st H) (h : H p = none) : Le μ H μ (upd H p o) :=
  ⟨Nat.le_refl _, fun _ _ _ h => h, fun a u e n => ⟨by rw [upd_ne (ne_of_none e h)]; exact e, n⟩⟩
theorem sim_new {p : Addr} {o : HO} (s : Sim K B μ st H) (h : H p = none) : Sim K B μ st (upd H p o) :=
  s.stay fun a u e => by rw [upd_ne (ne_of_none e h)]; exact e
theorem repV_new {p : Addr} {o : HO} {x : V} {v : PV} (s : Sim K B μ st H) (h : H p = none) (r : RepV K B μ H x v) : RepV K B μ (upd H p o) x v := r.mono (le_new s h)
theorem rep_tup {p : Addr} {vs : List V} {xs : List PV} (s : Sim K B μ st H) (h : H p = none) (r : RepVs K B μ H vs xs) : RepV K B μ (upd H p (.tup vs)) (.ref p) (.tup xs) :=
  .tup (s.free h) (s.not_live h) upd_same (r.mono (le_new s h))
theorem rep_lst {p : Addr} {vs : List V} {xs : List PV} (s : Sim K B μ st H) (h : H p = none) (r : RepVs K B μ H vs xs) : RepV K B μ (upd H p (.lst vs)) (.ref p) (.lst xs) :=
  .lst (s.free h) (s.not_live h) upd_same (r.mono (le_new s h))
/-- a new cell -/
theorem le_cell {p : Addr} {o : HO} (s : Sim K B μ st H) (h : H p = none) : Le μ H (μ ++ [some p]) (upd H p o) := by
  refine ⟨by simp, fun i a hi e => by rwa [List.getElem?_append_left hi] at e, fun a u e n => ⟨by rw [upd_ne (ne_of_none e h)]; exact e, fun ⟨i, z⟩ => ?_⟩⟩
  by_cases hi : i < μ.length
  · rw [List.getElem?_append_left hi] at z
    exact n ⟨i, z⟩
  · rw [List.getElem?_append_right (by omega)] at z
    have : i - μ.length = 0 ∧ p = a := by
      cases hk : i - μ.length with
      | zero => rw [hk] at z; simpa using z
      | succ k => rw [hk] at z; simp at z
    exact ne_of_none e h this.2.symm
theorem live_snoc {p a : Addr} {i : Nat} (h : (μ ++ [some p])[i]? = some (some a)) : μ[i]? = some (some a) ∨ (i = μ.length ∧ a = p) := by
  by_cases hi : i < μ.length
  · rw [List.getElem?_append_left hi] at h
    exact .inl h
  · rw [List.getElem?_append_right (by omega)] at h
    cases hk : i - μ.length with
    | zero => rw [hk] at h; simp at h; exact .inr ⟨by omega, h.symm⟩
    | succ k => rw [hk] at h; simp at h
theorem sim_cell {p : Addr} {o : HO} {c : Cell} (s : Sim K B μ st H) (h : H p = none) (hc : RepC K B (μ ++ [some p]) (upd H p o) p c) : Sim K B (μ ++ [some p]) (st ++ [c]) (upd H p o) := by
  have l := le_cell (o := o) s h
  refine ⟨by simp [s.len], fun i j a h1 h2 => ?_, fun i a h1 => ?_, fun a z => ?_, fun i d e => ?_⟩
  · rcases live_snoc h1 with q1 | ⟨q1, e1⟩
    · rcases live_snoc h2 with q2 | ⟨q2, e2⟩
      · exact s.inj i j a q1 q2
      · subst e2; exact absurd ⟨i, q1⟩ (s.not_live h)
    · rcases live_snoc h2 with q2 | ⟨q2, _⟩
      · subst e1; exact absurd ⟨j, q2⟩ (s.not_live h)
      · omega
  · rcases live_snoc h1 with q1 | ⟨_, e1⟩
    · exact s.out i a q1
    · subst e1; exact s.free h
  · obtain ⟨u, hu⟩ := s.occ a z
    exact ⟨u, by rw [upd_ne (ne_of_none hu h)]; exact hu⟩
  · by_cases hi : i < st.length
    · rw [List.getElem?_append_left hi] at e
      have hi' : i < μ.length := by rw [s.len]; exact hi
      rcases s.at_ i d e with ⟨q, z⟩ | ⟨a, z, r⟩
      · exact .inl ⟨q, by rw [List.getElem?_append_left hi']; exact z⟩
      · exact .inr ⟨a, by rw [List.getElem?_append_left hi']; exact z, r.mono l fun u e => by rw [upd_ne (ne_of_none e h)]; exact e⟩
    · rw [List.getElem?_append_right (by omega)] at e
      cases hk : i - st.length with
      | zero =>
        rw [hk] at e; simp at e; subst e
        refine .inr ⟨p, ?_, hc⟩
        have : i = μ.length := by rw [s.len]; omega
        subst this
        simp
      | succ k => rw [hk] at e; simp at e
theorem rep_loc {p : Addr} (s : Sim K B μ st H) : RepV K B (μ ++ [some p]) H' (.ref p) (.loc st.length) :=
  .loc (by simp [s.len]) fun a e => by
    rw [← s.len, List.getElem?_append_right (Nat.le_refl _)] at e
    simp at e
    rw [e]
end
theorem simE_tup {k : Nat} (h : SimA X es g) : SimE X (.Tuple es k pos) (eTup g) := by
  refine peI (pe_tup h) fun σ H Q ⟨B, μ, st, env, v, st', s, r, e, k⟩ => ?_
  unfold eTup at e
  split at e
  · rename_i as st1 h1
    split at e
    · rename_i hz
      cases e
      exact RdA.go s r h1 fun xs H1 μ1 s1 l1 r1 => ⟨by rw [r1.length]; exact hz, fun p hp => k _ _ μ1 (sim_new s1 hp) (l1.trans (le_new s1 hp)) (rep_tup s1 hp r1)⟩
    · cases e
  · cases e
theorem simE_lst (h : SimA X es g) : SimE X (.List es pos) (eLst g) := by
  refine peI (pe_lst h) fun σ H Q ⟨B, μ, st, env, v, st', s, r, e, k⟩ => ?_
  unfold eLst at e
  split at e
  · rename_i as st1 h1
    split at e
    · rename_i hz
      cases e
      exact RdA.go s r h1 fun xs H1 μ1 s1 l1 r1 => ⟨by rw [r1.length]; exact hz, fun p hp => k _ _ μ1 (sim_new s1 hp) (l1.trans (le_new s1 hp)) (rep_lst s1 hp r1)⟩
    · cases e
  · cases e
theorem simE_lstM (h : SimA X es g) : SimE X (.List es pos) (eLstM g) := by
  refine peI (pe_lst h) fun σ H Q ⟨B, μ, st, env, v, st', s, r, e, k⟩ => ?_
  unfold eLstM at e
  split at e
  · rename_i as st1 h1
    split at e
    · rename_i hz
      cases e
      refine RdA.go s r h1 fun xs H1 μ1 s1 l1 r1 => ⟨by rw [r1.length]; exact hz, fun p hp => ?_⟩
      have l2 := le_cell (o := .lst xs) s1 hp
      exact k _ _ (μ1 ++ [some p]) (sim_cell s1 hp ⟨xs, upd_same, r1.mono l2⟩) (l1.trans l2) (rep_loc s1)
    · cases e
  · cases e
end
end L3
end
section
set_option Elab.async false
set_option linter.all false
set_option maxRecDepth 100000
namespace L3
open PySem PySem.Spec PyProof.Rows L2

/-! ### values as the library's data -/
mutual
def PV.toD : PV → PyData
  | .non => .none
  | .bl b => .bool b
  | .int i => .int i
  | .str x => .str x
  | .tup xs => .tuple (PV.toDs xs)
  | .tupx xs => .tuple (PV.toDs xs)
  | .lst xs => .list (PV.toDs xs)
  | .ro ns => .list (ns.map .int)
  | .loc _ => .none
def PV.toDs : List PV → List PyData
  | [] => []
  | x :: xs => PV.toD x :: PV.toDs xs
end
def PV.lay (p : PV) : Bool := p.pure && p.toD.canLay0
section
variable {K : PySem.W.Frag} {B : Addr → Prop} {μ μ' : Mu} {H H' : Hp} {st st' : Store}
theorem dpInts {ns : List Int} : DpAll K H (ns.map V.int) (ns.map PyData.int) := by
  induction ns with
  | nil => exact .nil
  | cons n r ih => exact .cons (.int n) ih
theorem sqL_any {a : Addr} {xs : List V} (h : SqL K (fun _ => none) a xs) : SqL K H a xs := by
  rcases h with (h | ⟨o, h⟩) | h
  · cases h
  · cases h
  · exact .inr h
mutual
theorem RepV.dp : ∀ {v : V} {x : PV}, x.pure = true → RepV K B μ H v x → Dp K H v x.toD
  | _, _, _, .non => .non
  | _, _, _, .bl b => .bl b
  | _, _, _, .int i => .int i
  | _, _, _, .str x => .str x
  | _, _, p, .tup nb nl h r => .tup (SqT.of h) (RepVs.dp p r)
  | _, _, p, .tupx nb nl d h r => .tup (.inl (.inr ⟨_, h⟩)) (RepVs.dp p r)
  | _, _, p, .tupK a b c d e r => .tup (.inr ⟨_, _, _, a, b, c, d, e⟩) (RepVs.dp p r)
  | _, _, p, .lst nb nl h r => .lst (SqL.of h) (RepVs.dp p r)
  | _, _, _, .ro nb nl h => .lst (.inl h) dpInts
  | _, _, _, .roK h => .lst (sqL_any h) dpInts
theorem RepVs.dp : ∀ {vs : List V} {xs : List PV}, PV.pures xs = true → RepVs K B μ H vs xs → DpAll K H vs (PV.toDs xs)
  | _, _, _, .nil => .nil
  | _, _, p, .cons r rs => .cons (RepV.dp (Bool.and_eq_true_iff.mp p).1 r) (RepVs.dp (Bool.and_eq_true_iff.mp p).2 rs)
end
theorem lay_pure {p : PV} (h : p.lay = true) : p.pure = true := (Bool.and_eq_true_iff.mp h).1
theorem lay_can {p : PV} (h : p.lay = true) : p.toD.canLay0 = true := (Bool.and_eq_true_iff.mp h).2
end

/-! ### operators by values -/
abbrev G2 := PV → PV → Store → Option (PV × Store)
abbrev G1 := PV → Store → Option (PV × Store)
def OpS (K : PySem.W.Frag) (r : R2) (g : G2) : Prop := ∀ (B : Addr → Prop) (μ : Mu) (st : Store) (H : Hp) (x y : V) (p q v : PV) (st' : Store) (Q : VK), Sim K B μ st H → RepV K B μ H x p → RepV K B μ H y q → g p q st = some (v, st') → Got K B μ H v st' Q → r x y H Q
def OneS (K : PySem.W.Frag) (r : V → Hp → VK → Prop) (g : G1) : Prop := ∀ (B : Addr → Prop) (μ : Mu) (st : Store) (H : Hp) (x : V) (p v : PV) (st' : Store) (Q : VK), Sim K B μ st H → RepV K B μ H x p → g p st = some (v, st') → Got K B μ H v st' Q → r x H Q
def eBin (g : G2) (fa fb : FE) : FE := fun env st => match fa env st with
  | some (a, st1) => (match fb env st1 with
    | some (b, st2) => g a b st2
    | none => none)
  | none => none
def eUn (g : G1) (fa : FE) : FE := fun env st => match fa env st with
  | some (a, st1) => g a st1
  | none => none
/-- a bool value as a test -/
def tOf (f : FE) : FT := fun env st => match f env st with
  | some (.bl b, st1) => some (b, st1)
  | _ => none
section
variable {X : Cx} {pos : Pos} {a b e : Expr} {fa fb f : FE} {ta tb : FT}
theorem bin_go {r : R2} {g : G2} (hg : OpS X.K r g) {σ : L2.St} {H : Hp} {Q : VK} (h : Rd X.K (eBin g fa fb) σ H Q) : tOp r (Rd X.K fa) (Rd X.K fb) σ H Q := by
  obtain ⟨B, μ, st, env, v, st', s, rE, e, k⟩ := h
  unfold eBin at e
  split at e
  · rename_i x st1 h1
    split at e
    · rename_i y st2 h2
      exact Rd.go s rE h1 fun x H1 μ1 s1 l1 r1 => Rd.go s1 (rE.mono l1) h2 fun y H2 μ2 s2 l2 r2 => hg B μ2 st2 H2 x y _ _ v st' Q s2 (r1.mono l2) r2 e (Got_mono k (l1.trans l2))
    · cases e
  · cases e
theorem simE_bin {op : Operator} {r : R2} {g : G2} (ho : OpR X (binaryOp op) r) (hg : OpS X.K r g) (ha : SimE X a fa) (hb : SimE X b fb) : SimE X (.BinOp a op b pos) (eBin g fa fb) :=
  peI (pe_op ho ha hb) fun _ _ _ h => bin_go hg h
theorem simE_cmp {op : CmpOp} {r : R2} {g : G2} (ho : OpR X (compareOp op) r) (hg : OpS X.K r g) (ha : SimE X a fa) (hb : SimE X b fb) (hm : behindInMarks op b = false := by rfl) : SimE X (.Compare a [op] [b] pos) (eBin g fa fb) :=
  peI (pe_cmpR ho ha hb hm) fun _ _ _ h => bin_go hg h
theorem RepV.bl_inv {K : PySem.W.Frag} {B : Addr → Prop} {μ : Mu} {H : Hp} {x : V} {b : Bool} (r : RepV K B μ H x (.bl b)) : x = .bl b := by cases r; rfl
theorem RepV.int_inv {K : PySem.W.Frag} {B : Addr → Prop} {μ : Mu} {H : Hp} {x : V} {b : Int} (r : RepV K B μ H x (.int b)) : x = .int b := by cases r; rfl
theorem RepV.str_inv {K : PySem.W.Frag} {B : Addr → Prop} {μ : Mu} {H : Hp} {x : V} {b : Str} (r : RepV K B μ H x (.str b)) : x = .str b := by cases r; rfl
theorem RepV.non_inv {K : PySem.W.Frag} {B : Addr → Prop} {μ : Mu} {H : Hp} {x : V} (r : RepV K B μ H x .non) : x = .non := by cases r; rfl
theorem RepV.tup_inv {K : PySem.W.Frag} {B : Addr → Prop} {μ : Mu} {H : Hp} {x : V} {xs : List PV} (r : RepV K B μ H x (.tup xs)) : ∃ a vs, x = .ref a ∧ SqT K H a vs ∧ RepVs K B μ H vs xs := by
  cases r with
  | tup nb nl h r => exact ⟨_, _, rfl, SqT.of h, r⟩
  | tupK a b c d e r => exact ⟨_, _, rfl, .inr ⟨_, _, _, a, b, c, d, e⟩, r⟩
theorem test_go {σ : L2.St} {H : Hp} {Q : Bool → Hp → Prop} (h : RdT X.K (tOf f) σ H Q) {t : L2.TE} (hk : ∀ R, Rd X.K f σ H R → t σ H R) : t σ H fun x H1 => ∃ c, x = .bl c ∧ Q c H1 := by
  obtain ⟨B, μ, st, env, v, st', s, rE, e, k⟩ := h
  unfold tOf at e
  split at e
  · rename_i c st1 h1
    cases e
    exact hk _ (Rd.go s rE h1 fun x H1 μ1 s1 l1 r1 => ⟨_, r1.bl_inv, k H1 μ1 s1 l1⟩)
  · cases e
theorem simT_cmp {op : CmpOp} {r : R2} {g : G2} (ho : OpR X (compareOp op) r) (hg : OpS X.K r g) (ha : SimE X a fa) (hb : SimE X b fb) (hm : behindInMarks op b = false := by rfl) : SimT X (.Compare a [op] [b] pos) (tOf (eBin g fa fb)) :=
  ptI (pt_cmpR ho ha hb hm) fun σ H Q h => test_go h fun R h => bin_go hg h
/-- any expression whose value is a bool, as a test -/
theorem simT_val (h : SimE X e f) (he : ∀ whole, isTrue e X.env whole = (do let v ← whole; standAt e.pos; holding [v] (truthy v)) := by intro _; rfl) : SimT X e (tOf f) :=
  ptI (pt_val h he) fun σ H Q h => test_go h fun R h => h

/-! and, or, not, if -/
def tAnd2 (a b : FT) : FT := fun env st => match a env st with
  | some (true, st1) => b env st1
  | some (false, st1) => some (false, st1)
  | none => none
def tOr2 (a b : FT) : FT := fun env st => match a env st with
  | some (true, st1) => some (true, st1)
  | some (false, st1) => b env st1
  | none => none
def tNot2 (a : FT) : FT := fun env st => match a env st with
  | some (c, st1) => some (!c, st1)
  | none => none
def eIf (t : FT) (a b : FE) : FE := fun env st => match t env st with
  | some (true, st1) => a env st1
  | some (false, st1) => b env st1
  | none => none
/-- a test's answer as a value -/
def eOf (t : FT) : FE := fun env st => match t env st with
  | some (c, st1) => some (.bl c, st1)
  | none => none
abbrev SimW (X : Cx) (e : Expr) (f : FT) : Prop := PW X e (RdT X.K f)
theorem pwI {X : Cx} {e : Expr} {t t' : L2.TT} (h : PW X e t) (k : ∀ σ H Q, t' σ H Q → t σ H Q) : PW X e t' := ⟨fun w pins s σ H Q I q => h.run w pins s σ H Q I (k σ H Q q)⟩
theorem simW_and1 (ha : SimT X a ta) : SimW X (.BoolOp .And [a] pos) ta := pw_and1 ha
theorem simW_or1 (ha : SimT X a ta) : SimW X (.BoolOp .Or [a] pos) ta := pw_or1 ha
theorem simW_and {rest : List Expr} (ha : SimT X a ta) (hb : SimW X (.BoolOp .And (b :: rest) pos) tb) : SimW X (.BoolOp .And (a :: b :: rest) pos) (tAnd2 ta tb) := by
  refine pwI (pw_and ha hb) fun σ H Q ⟨B, μ, st, env, v, st', s, rE, e, k⟩ => ?_
  unfold tAnd2 at e
  split at e
  · rename_i st1 h1
    exact RdT.go s rE h1 fun H1 μ1 s1 l1 => by rw [if_pos rfl]; exact RdT.go s1 (rE.mono l1) e fun H2 μ2 s2 l2 => k H2 μ2 s2 (l1.trans l2)
  · rename_i st1 h1
    cases e
    exact RdT.go s rE h1 fun H1 μ1 s1 l1 => by rw [if_neg Bool.false_ne_true]; exact k H1 μ1 s1 l1
  · cases e
theorem simW_or {rest : List Expr} (ha : SimT X a ta) (hb : SimW X (.BoolOp .Or (b :: rest) pos) tb) : SimW X (.BoolOp .Or (a :: b :: rest) pos) (tOr2 ta tb) := by
  refine pwI (pw_or ha hb) fun σ H Q ⟨B, μ, st, env, v, st', s, rE, e, k⟩ => ?_
  unfold tOr2 at e
  split at e
  · rename_i st1 h1
    cases e
    exact RdT.go s rE h1 fun H1 μ1 s1 l1 => by rw [if_pos rfl]; exact k H1 μ1 s1 l1
  · rename_i st1 h1
    exact RdT.go s rE h1 fun H1 μ1 s1 l1 => by rw [if_neg Bool.false_ne_true]; exact RdT.go s1 (rE.mono l1) e fun H2 μ2 s2 l2 => k H2 μ2 s2 (l1.trans l2)
  · cases e
theorem simT_not (ha : SimT X a ta) : SimT X (.UnaryOp .Not a pos) (tNot2 ta) := by
  refine ptI (pt_not ha) fun σ H Q ⟨B, μ, st, env, v, st', s, rE, e, k⟩ => ?_
  unfold tNot2 at e
  split at e
  · rename_i c st1 h1
    cases e
    exact RdT.go s rE h1 fun H1 μ1 s1 l1 => k H1 μ1 s1 l1
  · cases e
theorem simE_if {c : Expr} {tc : FT} (hc : SimT X c tc) (ha : SimE X a fa) (hb : SimE X b fb) : SimE X (.IfExp c a b pos) (eIf tc fa fb) := by
  refine peI (pe_ifExp hc ha hb) fun σ H Q ⟨B, μ, st, env, v, st', s, rE, e, k⟩ => ?_
  unfold eIf at e
  split at e
  · rename_i st1 h1
    exact RdT.go s rE h1 fun H1 μ1 s1 l1 => by rw [if_pos rfl]; exact Rd.go s1 (rE.mono l1) e (Got_mono k l1)
  · rename_i st1 h1
    exact RdT.go s rE h1 fun H1 μ1 s1 l1 => by rw [if_neg Bool.false_ne_true]; exact Rd.go s1 (rE.mono l1) e (Got_mono k l1)
  · cases e
/-! as values: all but the last are bools -/
def eAnd2 (a b : FE) : FE := fun env st => match a env st with
  | some (.bl true, st1) => b env st1
  | some (.bl false, st1) => some (.bl false, st1)
  | _ => none
def eOr2 (a b : FE) : FE := fun env st => match a env st with
  | some (.bl true, st1) => some (.bl true, st1)
  | some (.bl false, st1) => b env st1
  | _ => none
def eNot2 (a : FE) : FE := fun env st => match a env st with
  | some (.bl c, st1) => some (.bl (!c), st1)
  | _ => none
theorem simE_one {op : BoolOp} (ha : SimE X a fa) : SimE X (.BoolOp op [a] pos) fa := pe_one ha
theorem simE_and {rest : List Expr} (ha : SimE X a fa) (hb : SimE X (.BoolOp .And (b :: rest) pos) fb) : SimE X (.BoolOp .And (a :: b :: rest) pos) (eAnd2 fa fb) := by
  refine peI (pe_and ha hb) fun σ H Q ⟨B, μ, st, env, v, st', s, rE, e, k⟩ => ?_
  unfold eAnd2 at e
  split at e
  · rename_i st1 h1
    exact Rd.go s rE h1 fun x H1 μ1 s1 l1 r1 => ⟨true, r1.bl_inv, by rw [if_pos rfl]; exact Rd.go s1 (rE.mono l1) e (Got_mono k l1)⟩
  · rename_i st1 h1
    cases e
    exact Rd.go s rE h1 fun x H1 μ1 s1 l1 r1 => ⟨false, r1.bl_inv, by rw [if_neg Bool.false_ne_true]; exact k _ H1 μ1 s1 l1 (.bl false)⟩
  · cases e
theorem simE_or {rest : List Expr} (ha : SimE X a fa) (hb : SimE X (.BoolOp .Or (b :: rest) pos) fb) : SimE X (.BoolOp .Or (a :: b :: rest) pos) (eOr2 fa fb) := by
  refine peI (pe_or ha hb) fun σ H Q ⟨B, μ, st, env, v, st', s, rE, e, k⟩ => ?_
  unfold eOr2 at e
  split at e
  · rename_i st1 h1
    cases e
    exact Rd.go s rE h1 fun x H1 μ1 s1 l1 r1 => ⟨true, r1.bl_inv, by rw [if_pos rfl]; exact k _ H1 μ1 s1 l1 (.bl true)⟩
  · rename_i st1 h1
    exact Rd.go s rE h1 fun x H1 μ1 s1 l1 r1 => ⟨false, r1.bl_inv, by rw [if_neg Bool.false_ne_true]; exact Rd.go s1 (rE.mono l1) e (Got_mono k l1)⟩
  · cases e
theorem simE_not (ha : SimE X a fa) : SimE X (.UnaryOp .Not a pos) (eNot2 fa) := by
  refine peI (pe_not ha) fun σ H Q ⟨B, μ, st, env, v, st', s, rE, e, k⟩ => ?_
  unfold eNot2 at e
  split at e
  · rename_i c st1 h1
    cases e
    exact Rd.go s rE h1 fun x H1 μ1 s1 l1 r1 => ⟨c, r1.bl_inv, k _ H1 μ1 s1 l1 (.bl (!c))⟩
  · cases e
end
end L3
end
section
set_option Elab.async false
set_option linter.all false
set_option maxRecDepth 100000
namespace L3
open PySem PySem.Spec PyProof.Rows L2

/-- the items of a list: of a value, of a cell -/
def seqL : PV → Store → Option (List PV)
  | .lst xs, _ => some xs
  | .loc n, st => (match st[n]? with
    | some (.lst xs) => some xs
    | _ => none)
  | _, _ => none
/-- .. of a list or a tuple -/
def seqA : PV → Store → Option (List PV)
  | .tup xs, _ => some xs
  | .lst xs, _ => some xs
  | .loc n, st => (match st[n]? with
    | some (.lst xs) => some xs
    | _ => none)
  | _, _ => none
section
variable {K : PySem.W.Frag} {B : Addr → Prop} {μ μ' : Mu} {H H' : Hp} {st st' : Store}
theorem Sim.loc {n : Nat} {c : Cell} {x : V} (s : Sim K B μ st H) (r : RepV K B μ H x (.loc n)) (e : st[n]? = some c) (hd : c ≠ .dead) : ∃ a, x = .ref a ∧ μ[n]? = some (some a) ∧ RepC K B μ H a c := by
  rcases s.at_ n c e with ⟨q, _⟩ | ⟨a, q, rc⟩
  · exact absurd q hd
  · cases r with
    | loc h hr => exact ⟨a, hr a q, q, rc⟩
theorem seqL_at {x : V} {p : PV} {xs : List PV} (s : Sim K B μ st H) (r : RepV K B μ H x p) (e : seqL p st = some xs) : ∃ a vs, x = .ref a ∧ H a = some (.lst vs) ∧ RepVs K B μ H vs xs := by
  cases p <;> simp only [seqL] at e <;> try cases e
  · cases r with
    | lst nb nl h r => exact ⟨_, _, rfl, h, r⟩
  · split at e
    · rename_i n ys h
      cases e
      obtain ⟨a, e1, _, vs, e2, r2⟩ := s.loc r h (by simp)
      exact ⟨a, vs, e1, e2, r2⟩
    · cases e
theorem seqA_at {x : V} {p : PV} {xs : List PV} (s : Sim K B μ st H) (r : RepV K B μ H x p) (e : seqA p st = some xs) : ∃ a vs, x = .ref a ∧ (SqL K H a vs ∨ SqT K H a vs) ∧ RepVs K B μ H vs xs := by
  cases p <;> simp only [seqA] at e <;> try cases e
  · obtain ⟨a, vs, e1, e2, r2⟩ := r.tup_inv
    exact ⟨a, vs, e1, .inr e2, r2⟩
  · cases r with
    | lst nb nl h r => exact ⟨_, _, rfl, .inl (SqL.of h), r⟩
  · split at e
    · rename_i n ys h
      cases e
      obtain ⟨a, e1, _, vs, e2, r2⟩ := s.loc r h (by simp)
      exact ⟨a, vs, e1, .inl (SqL.of e2), r2⟩
    · cases e
end

/-! ### ints -/
def gInt (f : Int → Int → PV) : G2 := fun p q st => match p, q with
  | .int i, .int j => some (f i j, st)
  | _, _ => none
def gIntC (C : Int → Int → Bool) (f : Int → Int → PV) : G2 := fun p q st => match p, q with
  | .int i, .int j => if C i j = true then some (f i j, st) else none
  | _, _ => none
section
variable {K : PySem.W.Frag}
theorem opS_int {f : Int → Int → V} {g : Int → Int → PV} (h : ∀ (B : Addr → Prop) (μ : Mu) (H : Hp) i j, RepV K B μ H (f i j) (g i j)) : OpS K (rI0 f) (gInt g) := by
  intro B μ st H x y p q v st' Q s rx ry e k
  unfold gInt at e
  split at e
  · cases e
    exact ⟨_, _, rx.int_inv, ry.int_inv, k _ H μ s (Le.refl _ _) (h B μ H _ _)⟩
  · cases e
theorem opS_intC {C : Int → Int → Prop} {D : Int → Int → Bool} {f : Int → Int → V} {g : Int → Int → PV} (hC : ∀ i j, D i j = true → C i j) (h : ∀ (B : Addr → Prop) (μ : Mu) (H : Hp) i j, RepV K B μ H (f i j) (g i j)) : OpS K (rI C f) (gIntC D g) := by
  intro B μ st H x y p q v st' Q s rx ry e k
  unfold gIntC at e
  split at e
  · split at e
    · rename_i hd
      cases e
      exact ⟨_, _, rx.int_inv, ry.int_inv, hC _ _ hd, k _ H μ s (Le.refl _ _) (h B μ H _ _)⟩
    · cases e
  · cases e
end
def gSub : G2 := gInt fun i j => .int (i - j)
def gMul : G2 := gIntC (fun i j => decide ((-(2 ^ 64) < i ∧ i < 2 ^ 64) ∨ (-(2 ^ 64) < j ∧ j < 2 ^ 64))) fun i j => .int (i * j)
def gMod : G2 := gIntC (fun _ j => decide (0 < j)) fun i j => .int (i % j)
def gDiv : G2 := gIntC (fun _ j => decide (0 < j ∧ j < 1073741824)) fun i j => .int (i / j)
def gPow : G2 := gIntC (fun i j => decide (0 ≤ j ∧ j ≤ 1000000 ∧ i.natAbs < 2 ^ 64)) fun i j => .int (i ^ j.toNat)
def gLt : G2 := gInt fun i j => .bl (decide (i < j))
def gLe : G2 := gInt fun i j => .bl (decide (i ≤ j))
def gGt : G2 := gInt fun i j => .bl (decide (j < i))
def gGe : G2 := gInt fun i j => .bl (decide (j ≤ i))
section
variable {X : Cx} {pos : Pos} {a b e : Expr} {fa fb f : FE}
theorem simE_sub (ha : SimE X a fa) (hb : SimE X b fb) : SimE X (.BinOp a .Sub b pos) (eBin gSub fa fb) := simE_bin op_sub (opS_int fun _ _ _ _ _ => .int _) ha hb
theorem simE_mul (ha : SimE X a fa) (hb : SimE X b fb) : SimE X (.BinOp a .Mult b pos) (eBin gMul fa fb) := simE_bin op_mul (opS_intC (C := CMul) (fun i j h => show CMul i j from (of_decide_eq_true h : (-(2 ^ 64) < i ∧ i < 2 ^ 64) ∨ (-(2 ^ 64) < j ∧ j < 2 ^ 64))) fun _ _ _ _ _ => .int _) ha hb
theorem simE_mod (ha : SimE X a fa) (hb : SimE X b fb) : SimE X (.BinOp a .Mod b pos) (eBin gMod fa fb) := simE_bin op_mod (opS_intC (C := fun _ j => 0 < j) (fun i j h => of_decide_eq_true h) fun _ _ _ _ _ => .int _) ha hb
theorem simE_div (ha : SimE X a fa) (hb : SimE X b fb) : SimE X (.BinOp a .FloorDiv b pos) (eBin gDiv fa fb) := simE_bin op_fdiv (opS_intC (C := CDiv) (fun i j h => show CDiv i j from (of_decide_eq_true h : 0 < j ∧ j < 1073741824)) fun _ _ _ _ _ => .int _) ha hb
theorem simE_pow (ha : SimE X a fa) (hb : SimE X b fb) : SimE X (.BinOp a .Pow b pos) (eBin gPow fa fb) := simE_bin op_pow (opS_intC (C := CPow) (fun i j h => show CPow i j from (of_decide_eq_true h : 0 ≤ j ∧ j ≤ 1000000 ∧ i.natAbs < 2 ^ 64)) fun _ _ _ _ _ => .int _) ha hb
theorem simE_lt (ha : SimE X a fa) (hb : SimE X b fb) : SimE X (.Compare a [.Lt] [b] pos) (eBin gLt fa fb) := simE_cmp op_lt (opS_int fun _ _ _ _ _ => .bl _) ha hb (nomark _)
theorem simE_le (ha : SimE X a fa) (hb : SimE X b fb) : SimE X (.Compare a [.LtE] [b] pos) (eBin gLe fa fb) := simE_cmp op_le (opS_int fun _ _ _ _ _ => .bl _) ha hb (nomark _)
theorem simE_gt (ha : SimE X a fa) (hb : SimE X b fb) : SimE X (.Compare a [.Gt] [b] pos) (eBin gGt fa fb) := simE_cmp op_gt (opS_int fun _ _ _ _ _ => .bl _) ha hb (nomark _)
theorem simE_ge (ha : SimE X a fa) (hb : SimE X b fb) : SimE X (.Compare a [.GtE] [b] pos) (eBin gGe fa fb) := simE_cmp op_ge (opS_int fun _ _ _ _ _ => .bl _) ha hb (nomark _)
theorem simT_lt (ha : SimE X a fa) (hb : SimE X b fb) : SimT X (.Compare a [.Lt] [b] pos) (tOf (eBin gLt fa fb)) := simT_cmp op_lt (opS_int fun _ _ _ _ _ => .bl _) ha hb (nomark _)
theorem simT_le (ha : SimE X a fa) (hb : SimE X b fb) : SimT X (.Compare a [.LtE] [b] pos) (tOf (eBin gLe fa fb)) := simT_cmp op_le (opS_int fun _ _ _ _ _ => .bl _) ha hb (nomark _)
theorem simT_gt (ha : SimE X a fa) (hb : SimE X b fb) : SimT X (.Compare a [.Gt] [b] pos) (tOf (eBin gGt fa fb)) := simT_cmp op_gt (opS_int fun _ _ _ _ _ => .bl _) ha hb (nomark _)
theorem simT_ge (ha : SimE X a fa) (hb : SimE X b fb) : SimT X (.Compare a [.GtE] [b] pos) (tOf (eBin gGe fa fb)) := simT_cmp op_ge (opS_int fun _ _ _ _ _ => .bl _) ha hb (nomark _)

/-! ### + -/
def gAdd : G2 := fun p q st => match p, q with
  | .int i, .int j => some (.int (i + j), st)
  | .str x, .str y => if x.length + y.length ≤ sizeLine then some (.str (x ++ y), st) else none
  | .tup xs, .tup ys => if xs.length + ys.length ≤ sizeLine then some (.tup (xs ++ ys), st) else none
  | _, _ => none
/-- of two lists, a new one that nobody changes -/
def gCat : G2 := fun p q st => match seqL p st, seqL q st with
  | some xs, some ys => if xs.length + ys.length ≤ sizeLine then some (.lst (xs ++ ys), st) else none
  | _, _ => none
def gCatM : G2 := fun p q st => match seqL p st, seqL q st with
  | some xs, some ys => if xs.length + ys.length ≤ sizeLine then some (.loc st.length, st ++ [.lst (xs ++ ys)]) else none
  | _, _ => none
theorem opS_add : OpS X.K (fun x y H Q => rI0 (fun i j => .int (i + j)) x y H Q ∨ (∃ i j, x = .str i ∧ y = .str j ∧ i.length + j.length ≤ sizeLine ∧ Q (.str (i ++ j)) H) ∨ rCatA X.K x y H Q) gAdd := by
  intro B μ st H x y p q v st' Q s rx ry e k
  unfold gAdd at e
  split at e
  · cases e
    exact .inl ⟨_, _, rx.int_inv, ry.int_inv, k _ H μ s (Le.refl _ _) (.int _)⟩
  · split at e
    · rename_i hz
      cases e
      exact .inr (.inl ⟨_, _, rx.str_inv, ry.str_inv, hz, k _ H μ s (Le.refl _ _) (.str _)⟩)
    · cases e
  · split at e
    · rename_i xs ys hz
      cases e
      obtain ⟨a, vs, rfl, ha, ra⟩ := rx.tup_inv
      obtain ⟨b, ws, rfl, hb, rb⟩ := ry.tup_inv
      refine .inr (.inr ⟨a, b, vs, ws, rfl, rfl, ha, hb, by rw [ra.length, rb.length]; exact hz, fun h => ?_, fun h1 h2 => ?_, fun h1 h2 p hp => ?_⟩)
      · subst h
        cases ra
        exact k _ H μ s (Le.refl _ _) ry
      · subst h2
        cases rb
        exact k _ H μ s (Le.refl _ _) (by rw [List.append_nil]; exact rx)
      · exact k _ _ μ (sim_new s hp) (le_new s hp) (rep_tup s hp (ra.append rb))
    · cases e
  · cases e
theorem simE_add (ha : SimE X a fa) (hb : SimE X b fb) : SimE X (.BinOp a .Add b pos) (eBin gAdd fa fb) := simE_bin (op_add.or (op_add_str.or op_catA)) opS_add ha hb
theorem simE_cat (ha : SimE X a fa) (hb : SimE X b fb) : SimE X (.BinOp a .Add b pos) (eBin gCat fa fb) := by
  refine simE_bin op_cat ?_ ha hb
  intro B μ st H x y p q v st' Q s rx ry e k
  unfold gCat at e
  split at e
  · rename_i xs ys h1 h2
    split at e
    · rename_i hz
      cases e
      obtain ⟨l, vs, rfl, ha, ra⟩ := seqL_at s rx h1
      obtain ⟨m, ws, rfl, hb, rb⟩ := seqL_at s ry h2
      exact ⟨l, m, vs, ws, rfl, rfl, ha, hb, by rw [ra.length, rb.length]; exact hz, fun p hp => k _ _ μ (sim_new s hp) (le_new s hp) (rep_lst s hp (ra.append rb))⟩
    · cases e
  · cases e
theorem simE_catM (ha : SimE X a fa) (hb : SimE X b fb) : SimE X (.BinOp a .Add b pos) (eBin gCatM fa fb) := by
  refine simE_bin op_cat ?_ ha hb
  intro B μ st H x y p q v st' Q s rx ry e k
  unfold gCatM at e
  split at e
  · rename_i xs ys h1 h2
    split at e
    · rename_i hz
      cases e
      obtain ⟨l, vs, rfl, ha, ra⟩ := seqL_at s rx h1
      obtain ⟨m, ws, rfl, hb, rb⟩ := seqL_at s ry h2
      refine ⟨l, m, vs, ws, rfl, rfl, ha, hb, by rw [ra.length, rb.length]; exact hz, fun p hp => ?_⟩
      have l2 := le_cell (o := .lst (vs ++ ws)) s hp
      exact k _ _ (μ ++ [some p]) (sim_cell s hp ⟨_, upd_same, (ra.append rb).mono l2⟩) l2 (rep_loc s)
    · cases e
  · cases e

/-! ### ==, !=, in, not in, is None -/
def lowD (p q : PV) : Bool := p.lay && q.lay && decide (min p.toD.depth q.toD.depth ≤ 900)
def gEq : G2 := fun p q st => if lowD p q = true then some (.bl (PyData.eqv p.toD q.toD), st) else none
def gNe : G2 := fun p q st => if lowD p q = true then some (.bl (!PyData.eqv p.toD q.toD), st) else none
def rEqG (X : Cx) (n : Bool) : R2 := fun x y H Q => ∃ d e, Dp X.K H x d ∧ Dp X.K H y e ∧ d.canLay0 = true ∧ e.canLay0 = true ∧ min d.depth e.depth ≤ 900 ∧ Q (.bl (if n then !PyData.eqv d e else PyData.eqv d e)) H
theorem op_eqG (hu : X.A.units + 1000 < cLine) : OpR X (compareOp .Eq) (rEqG X false) := by
  intro pins s σ H x y v u Q I rx ry h
  obtain ⟨d, e, hd, he, sd, se, hm, q⟩ := h
  obtain ⟨as, r1⟩ := Dp.reads I d x v hd rx
  obtain ⟨bs, r2⟩ := Dp.reads I e y u he ry
  exact SeqAt.compareEq_reads r1 r2 sd se (by omega) ⟨.bl _, H, I, rfl, q⟩
theorem op_neG (hu : X.A.units + 1000 < cLine) : OpR X (compareOp .NotEq) (rEqG X true) := by
  intro pins s σ H x y v u Q I rx ry h
  obtain ⟨d, e, hd, he, sd, se, hm, q⟩ := h
  obtain ⟨as, r1⟩ := Dp.reads I d x v hd rx
  obtain ⟨bs, r2⟩ := Dp.reads I e y u he ry
  exact SeqAt.compareNe_reads r1 r2 sd se (by omega) ⟨.bl _, H, I, rfl, q⟩
theorem opS_eq : OpS X.K (rEqG X false) gEq := by
  intro B μ st H x y p q v st' Q s rx ry e k
  unfold gEq at e
  split at e
  · rename_i h
    cases e
    unfold lowD at h
    simp only [Bool.and_eq_true, decide_eq_true_eq] at h
    exact ⟨_, _, rx.dp (lay_pure h.1.1), ry.dp (lay_pure h.1.2), lay_can h.1.1, lay_can h.1.2, h.2, k _ H μ s (Le.refl _ _) (.bl _)⟩
  · cases e
theorem opS_ne : OpS X.K (rEqG X true) gNe := by
  intro B μ st H x y p q v st' Q s rx ry e k
  unfold gNe at e
  split at e
  · rename_i h
    cases e
    unfold lowD at h
    simp only [Bool.and_eq_true, decide_eq_true_eq] at h
    exact ⟨_, _, rx.dp (lay_pure h.1.1), ry.dp (lay_pure h.1.2), lay_can h.1.1, lay_can h.1.2, h.2, k _ H μ s (Le.refl _ _) (.bl _)⟩
  · cases e
theorem simE_eq (hu : X.A.units + 1000 < cLine) (ha : SimE X a fa) (hb : SimE X b fb) : SimE X (.Compare a [.Eq] [b] pos) (eBin gEq fa fb) := simE_cmp (op_eqG hu) opS_eq ha hb (nomark _)
theorem simE_ne (hu : X.A.units + 1000 < cLine) (ha : SimE X a fa) (hb : SimE X b fb) : SimE X (.Compare a [.NotEq] [b] pos) (eBin gNe fa fb) := simE_cmp (op_neG hu) opS_ne ha hb (nomark _)
theorem simT_eq (hu : X.A.units + 1000 < cLine) (ha : SimE X a fa) (hb : SimE X b fb) : SimT X (.Compare a [.Eq] [b] pos) (tOf (eBin gEq fa fb)) := simT_cmp (op_eqG hu) opS_eq ha hb (nomark _)
theorem simT_ne (hu : X.A.units + 1000 < cLine) (ha : SimE X a fa) (hb : SimE X b fb) : SimT X (.Compare a [.NotEq] [b] pos) (tOf (eBin gNe fa fb)) := simT_cmp (op_neG hu) opS_ne ha hb (nomark _)

def anyD (p : PV) (xs : List PV) : Bool := (PV.toDs xs).any fun z => PyData.eqv z p.toD
/-- the members of what "in" looks through -/
def lowIn (p q : PV) : Bool := p.lay && q.lay && decide (min q.toD.depth p.toD.depth ≤ 900)
def gIn : G2 := fun p q st => if lowIn p q = true then (match q with
  | .tup xs => some (.bl (anyD p xs), st)
  | .lst xs => some (.bl (anyD p xs), st)
  | _ => none) else none
def gNotIn : G2 := fun p q st => if lowIn p q = true then (match q with
  | .tup xs => some (.bl (!anyD p xs), st)
  | .lst xs => some (.bl (!anyD p xs), st)
  | _ => none) else none
def rInG (X : Cx) (n : Bool) : R2 := fun x y H Q => ∃ d ds, Dp X.K H x d ∧ (Dp X.K H y (.tuple ds) ∨ Dp X.K H y (.list ds)) ∧ d.canLay0 = true ∧ PyData.canLayAll0 ds = true ∧ min (PyData.depthAll ds) d.depth ≤ 900 ∧
  Q (.bl (if n then !ds.any (fun z => PyData.eqv z d) else ds.any fun z => PyData.eqv z d)) H
theorem op_inG (hu : X.A.units + 1000 < cLine) : OpR X (compareOp .In) (rInG X false) := by
  intro pins s σ H x y v u Q I rx ry h
  obtain ⟨d, ds, hd, he, sd, se, hm, q⟩ := h
  obtain ⟨as, r1⟩ := Dp.reads I d x v hd rx
  rcases he with he | he
  · obtain ⟨bs, r2⟩ := Dp.reads I _ y u he ry
    exact SeqAt.in_tuple_reads r2 r1 se sd (by omega) ⟨.bl _, H, I, rfl, q⟩
  · obtain ⟨bs, r2⟩ := Dp.reads I _ y u he ry
    exact SeqAt.in_list_reads r2 r1 se sd (by omega) ⟨.bl _, H, I, rfl, q⟩
theorem op_notInG (hu : X.A.units + 1000 < cLine) : OpR X (compareOp .NotIn) (rInG X true) := by
  intro pins s σ H x y v u Q I rx ry h
  obtain ⟨d, ds, hd, he, sd, se, hm, q⟩ := h
  obtain ⟨as, r1⟩ := Dp.reads I d x v hd rx
  rcases he with he | he
  · obtain ⟨bs, r2⟩ := Dp.reads I _ y u he ry
    exact SeqAt.notIn_tuple_reads r2 r1 se sd (by omega) ⟨.bl _, H, I, rfl, q⟩
  · obtain ⟨bs, r2⟩ := Dp.reads I _ y u he ry
    exact SeqAt.notIn_list_reads r2 r1 se sd (by omega) ⟨.bl _, H, I, rfl, q⟩
theorem lowIn_tup {p : PV} {xs : List PV} (h : lowIn p (.tup xs) = true) : p.lay = true ∧ PV.pures xs = true ∧ PyData.canLayAll0 (PV.toDs xs) = true ∧ min (PyData.depthAll (PV.toDs xs)) p.toD.depth ≤ 900 := by
  unfold lowIn at h
  simp only [Bool.and_eq_true, decide_eq_true_eq] at h
  obtain ⟨⟨h1, h2⟩, h3⟩ := h
  have e1 : (PV.tup xs).pure = PV.pures xs := by simp only [PV.pure]
  have e2 : (PV.tup xs).toD = .tuple (PV.toDs xs) := by simp only [PV.toD]
  refine ⟨h1, by rw [← e1]; exact lay_pure h2, ?_, ?_⟩
  · have := lay_can h2
    rw [e2] at this
    simpa only [PyData.canLay0] using this
  · rw [e2] at h3
    simp only [PyData.depth] at h3
    omega
theorem lowIn_lst {p : PV} {xs : List PV} (h : lowIn p (.lst xs) = true) : p.lay = true ∧ PV.pures xs = true ∧ PyData.canLayAll0 (PV.toDs xs) = true ∧ min (PyData.depthAll (PV.toDs xs)) p.toD.depth ≤ 900 := by
  unfold lowIn at h
  simp only [Bool.and_eq_true, decide_eq_true_eq] at h
  obtain ⟨⟨h1, h2⟩, h3⟩ := h
  have e1 : (PV.lst xs).pure = PV.pures xs := by simp only [PV.pure]
  have e2 : (PV.lst xs).toD = .list (PV.toDs xs) := by simp only [PV.toD]
  refine ⟨h1, by rw [← e1]; exact lay_pure h2, ?_, ?_⟩
  · have := lay_can h2
    rw [e2] at this
    simpa only [PyData.canLay0] using this
  · rw [e2] at h3
    simp only [PyData.depth] at h3
    omega
theorem dp_tup {B : Addr → Prop} {μ : Mu} {H : Hp} {y : V} {xs : List PV} (r : RepV X.K B μ H y (.tup xs)) (h : PV.pures xs = true) : Dp X.K H y (.tuple (PV.toDs xs)) := by
  have := r.dp (by simp only [PV.pure]; exact h)
  simpa only [PV.toD] using this
theorem dp_lst {B : Addr → Prop} {μ : Mu} {H : Hp} {y : V} {xs : List PV} (r : RepV X.K B μ H y (.lst xs)) (h : PV.pures xs = true) : Dp X.K H y (.list (PV.toDs xs)) := by
  have := r.dp (by simp only [PV.pure]; exact h)
  simpa only [PV.toD] using this
theorem opS_in : OpS X.K (rInG X false) gIn := by
  intro B μ st H x y p q v st' Q s rx ry e k
  unfold gIn at e
  split at e
  · rename_i h
    split at e
    · cases e
      obtain ⟨h1, h2, h3, h4⟩ := lowIn_tup h
      exact ⟨_, _, rx.dp (lay_pure h1), .inl (dp_tup ry h2), lay_can h1, h3, h4, k _ H μ s (Le.refl _ _) (.bl _)⟩
    · cases e
      obtain ⟨h1, h2, h3, h4⟩ := lowIn_lst h
      exact ⟨_, _, rx.dp (lay_pure h1), .inr (dp_lst ry h2), lay_can h1, h3, h4, k _ H μ s (Le.refl _ _) (.bl _)⟩
    · cases e
  · cases e
theorem opS_notIn : OpS X.K (rInG X true) gNotIn := by
  intro B μ st H x y p q v st' Q s rx ry e k
  unfold gNotIn at e
  split at e
  · rename_i h
    split at e
    · cases e
      obtain ⟨h1, h2, h3, h4⟩ := lowIn_tup h
      exact ⟨_, _, rx.dp (lay_pure h1), .inl (dp_tup ry h2), lay_can h1, h3, h4, k _ H μ s (Le.refl _ _) (.bl _)⟩
    · cases e
      obtain ⟨h1, h2, h3, h4⟩ := lowIn_lst h
      exact ⟨_, _, rx.dp (lay_pure h1), .inr (dp_lst ry h2), lay_can h1, h3, h4, k _ H μ s (Le.refl _ _) (.bl _)⟩
    · cases e
  · cases e
theorem simE_in (hu : X.A.units + 1000 < cLine) (ha : SimE X a fa) (hb : SimE X b fb) (hm : behindInMarks .In b = false := by rfl) : SimE X (.Compare a [.In] [b] pos) (eBin gIn fa fb) := simE_cmp (op_inG hu) opS_in ha hb hm
theorem simE_notIn (hu : X.A.units + 1000 < cLine) (ha : SimE X a fa) (hb : SimE X b fb) (hm : behindInMarks .NotIn b = false := by rfl) : SimE X (.Compare a [.NotIn] [b] pos) (eBin gNotIn fa fb) := simE_cmp (op_notInG hu) opS_notIn ha hb hm
theorem simT_in (hu : X.A.units + 1000 < cLine) (ha : SimE X a fa) (hb : SimE X b fb) (hm : behindInMarks .In b = false := by rfl) : SimT X (.Compare a [.In] [b] pos) (tOf (eBin gIn fa fb)) := simT_cmp (op_inG hu) opS_in ha hb hm
theorem simT_notIn (hu : X.A.units + 1000 < cLine) (ha : SimE X a fa) (hb : SimE X b fb) (hm : behindInMarks .NotIn b = false := by rfl) : SimT X (.Compare a [.NotIn] [b] pos) (tOf (eBin gNotIn fa fb)) := simT_cmp (op_notInG hu) opS_notIn ha hb hm
/-- texts in texts -/
def subS (x y : Str) : Bool := !(Builtin.Str.occurrences y x 0 y.length 1).isEmpty
def gInS : G2 := fun p q st => match p, q with
  | .str x, .str y => some (.bl (subS x y), st)
  | _, _ => none
def gNotInS : G2 := fun p q st => match p, q with
  | .str x, .str y => some (.bl (!subS x y), st)
  | _, _ => none
theorem opS_inS : OpS X.K (fun x y H Q => ∃ i j, x = .str i ∧ y = .str j ∧ Q (.bl (!(Builtin.Str.occurrences j i 0 j.length 1).isEmpty)) H) gInS := by
  intro B μ st H x y p q v st' Q s rx ry e k
  unfold gInS at e
  split at e
  · cases e
    exact ⟨_, _, rx.str_inv, ry.str_inv, k _ H μ s (Le.refl _ _) (.bl _)⟩
  · cases e
theorem opS_notInS : OpS X.K (fun x y H Q => ∃ i j, x = .str i ∧ y = .str j ∧ Q (.bl (!(!(Builtin.Str.occurrences j i 0 j.length 1).isEmpty))) H) gNotInS := by
  intro B μ st H x y p q v st' Q s rx ry e k
  unfold gNotInS at e
  split at e
  · cases e
    exact ⟨_, _, rx.str_inv, ry.str_inv, k _ H μ s (Le.refl _ _) (.bl _)⟩
  · cases e
theorem simE_inS (ha : SimE X a fa) (hb : SimE X b fb) (hm : behindInMarks .In b = false := by rfl) : SimE X (.Compare a [.In] [b] pos) (eBin gInS fa fb) := simE_cmp op_in_str opS_inS ha hb hm
theorem simE_notInS (ha : SimE X a fa) (hb : SimE X b fb) (hm : behindInMarks .NotIn b = false := by rfl) : SimE X (.Compare a [.NotIn] [b] pos) (eBin gNotInS fa fb) := simE_cmp op_notin_str opS_notInS ha hb hm
theorem simT_inS (ha : SimE X a fa) (hb : SimE X b fb) (hm : behindInMarks .In b = false := by rfl) : SimT X (.Compare a [.In] [b] pos) (tOf (eBin gInS fa fb)) := simT_cmp op_in_str opS_inS ha hb hm
theorem simT_notInS (ha : SimE X a fa) (hb : SimE X b fb) (hm : behindInMarks .NotIn b = false := by rfl) : SimT X (.Compare a [.NotIn] [b] pos) (tOf (eBin gNotInS fa fb)) := simT_cmp op_notin_str opS_notInS ha hb hm
/-- is None -/
def isNon : PV → Option Bool
  | .non => some true
  | .loc _ => none
  | _ => some false
def gIsN (n : Bool) : G2 := fun p q st => match isNon p, q with
  | some b, .non => some (.bl (if n then !b else b), st)
  | _, _ => none
theorem isNon_at {B : Addr → Prop} {μ : Mu} {H : Hp} {x : V} {p : PV} {b : Bool} (r : RepV X.K B μ H x p) (e : isNon p = some b) : decide (x = .non) = b := by
  cases r <;> simp [isNon] at e <;> subst e <;> simp
theorem opS_isN : OpS X.K (fun x y H Q => y = .non ∧ Q (.bl (decide (x = .non))) H) (gIsN false) := by
  intro B μ st H x y p q v st' Q s rx ry e k
  unfold gIsN at e
  split at e
  · rename_i b h
    cases e
    exact ⟨ry.non_inv, by rw [isNon_at rx h]; exact k _ H μ s (Le.refl _ _) (.bl _)⟩
  · cases e
theorem opS_notN : OpS X.K (fun x y H Q => y = .non ∧ Q (.bl (!decide (x = .non))) H) (gIsN true) := by
  intro B μ st H x y p q v st' Q s rx ry e k
  unfold gIsN at e
  split at e
  · rename_i b h
    cases e
    exact ⟨ry.non_inv, by rw [isNon_at rx h]; exact k _ H μ s (Le.refl _ _) (.bl _)⟩
  · cases e
theorem simE_isN (ha : SimE X a fa) (hb : SimE X b fb) : SimE X (.Compare a [.Is] [b] pos) (eBin (gIsN false) fa fb) := simE_cmp op_isN opS_isN ha hb (nomark _)
theorem simE_notN (ha : SimE X a fa) (hb : SimE X b fb) : SimE X (.Compare a [.IsNot] [b] pos) (eBin (gIsN true) fa fb) := simE_cmp op_notN opS_notN ha hb (nomark _)
theorem simT_isN (ha : SimE X a fa) (hb : SimE X b fb) : SimT X (.Compare a [.Is] [b] pos) (tOf (eBin (gIsN false) fa fb)) := simT_cmp op_isN opS_isN ha hb (nomark _)
theorem simT_notN (ha : SimE X a fa) (hb : SimE X b fb) : SimT X (.Compare a [.IsNot] [b] pos) (tOf (eBin (gIsN true) fa fb)) := simT_cmp op_notN opS_notN ha hb (nomark _)
end
end L3
end
section
set_option Elab.async false
set_option linter.all false
set_option maxRecDepth 100000
namespace L3
open PySem PySem.Spec PyProof.Rows L2

section
variable {K : PySem.W.Frag} {B : Addr → Prop} {μ μ' : Mu} {H H' : Hp} {st st' : Store}
/-- a cell is changed -/
theorem le_upd {n : Nat} {a : Addr} {o : HO} (h : μ[n]? = some (some a)) : Le μ H μ (upd H a o) :=
  ⟨Nat.le_refl _, fun _ _ _ h => h, fun b u e nl => ⟨by
    rw [upd_ne (show b ≠ a from fun z => nl ⟨n, by rw [z]; exact h⟩)]
    exact e, nl⟩⟩
theorem sim_upd {n : Nat} {a : Addr} {o : HO} {c : Cell} (s : Sim K B μ st H) (h : μ[n]? = some (some a)) (hc : RepC K B μ (upd H a o) a c) : Sim K B μ (st.set n c) (upd H a o) := by
  have l := le_upd (H := H) (o := o) h
  refine ⟨by simp [s.len], s.inj, s.out, fun b z => ?_, fun i d e => ?_⟩
  · obtain ⟨u, hu⟩ := s.occ b z
    exact ⟨u, by rw [upd_ne (show b ≠ a from fun q => s.out n a h (q ▸ z))]; exact hu⟩
  · by_cases hi : n = i
    · subst hi
      have hl : n < st.length := by
        have := (List.getElem?_eq_some_iff.mp e).1
        simpa using this
      rw [List.getElem?_set_self hl] at e
      cases e
      exact .inr ⟨a, h, hc⟩
    · rw [List.getElem?_set_ne hi] at e
      rcases s.at_ i d e with q | ⟨b, hb, r⟩
      · exact .inl q
      · have hne : b ≠ a := fun q => hi (s.inj n i a h (q ▸ hb))
        refine .inr ⟨b, hb, r.mono l fun u e => by rw [upd_ne hne]; exact e⟩
end

/-! ### an item, a slice -/
def gIx : G2 := fun p q st => match p, q with
  | .tup xs, .int i => (match atI xs i with
    | some v => some (v, st)
    | none => none)
  | .str z, .int i => if z.length ≤ sizeLine then (match atI z.cps.toList i with
    | some c => some (.str ⟨#[c]⟩, st)
    | none => none) else none
  | p, .int i => (match seqL p st with
    | some xs => (match atI xs i with
      | some v => some (v, st)
      | none => none)
    | none => none)
  | _, _ => none
theorem atI_rep {K : PySem.W.Frag} {B : Addr → Prop} {μ : Mu} {H : Hp} {vs : List V} {xs : List PV} {i : Int} {v : PV} (r : RepVs K B μ H vs xs) (e : atI xs i = some v) : ∃ u, atI vs i = some u ∧ RepV K B μ H u v := by
  unfold atI at e ⊢
  rw [r.length]
  cases h : ixN xs.length i with
  | none => rw [h] at e; cases e
  | some j =>
    rw [h] at e
    obtain ⟨u, h1, h2⟩ := r.get (i := j) (x := v) e
    exact ⟨u, h1, h2⟩
theorem opS_ix {K : PySem.W.Frag} : OpS K (rIx K) gIx := by
  intro B μ st H x y p q v st' Q s rx ry e k
  unfold gIx at e
  split at e
  · split at e
    · rename_i h
      cases e
      obtain ⟨a, vs, rfl, ha, ra⟩ := rx.tup_inv
      obtain ⟨u, h1, h2⟩ := atI_rep ra h
      exact .inr (.inl ⟨a, vs, _, u, rfl, ry.int_inv, ha, h1, k u H μ s (Le.refl _ _) h2⟩)
    · cases e
  · split at e
    · rename_i hz
      split at e
      · rename_i c h
        cases e
        exact .inr (.inr ⟨_, _, c, rx.str_inv, ry.int_inv, hz, h, k _ H μ s (Le.refl _ _) (.str _)⟩)
      · cases e
    · cases e
  · split at e
    · rename_i xs h
      split at e
      · rename_i w h2
        cases e
        obtain ⟨a, vs, rfl, ha, ra⟩ := seqL_at s rx h
        obtain ⟨u, h1, h3⟩ := atI_rep ra h2
        exact .inl ⟨a, vs, _, u, rfl, ry.int_inv, SqL.of ha, h1, k u H μ s (Le.refl _ _) h3⟩
      · cases e
    · cases e
  · cases e
section
variable {X : Cx} {pos : Pos} {a b e : Expr} {es : List Expr} {fa fb f : FE} {g : FA}
theorem simE_ix (ha : SimE X a fa) (hb : SimE X b fb) (hs : PlainIx b := by exact fun _ _ => rfl) : SimE X (.Subscript a b pos) (eBin gIx fa fb) :=
  peI (pe_ix ix_seq ha hb hs) fun _ _ _ h => bin_go opS_ix h
/-- the bounds of a slice -/
abbrev FO := EnvP → Store → Option (Option Int × Store)
def oNone : FO := fun _ st => some (none, st)
def oSome (f : FE) : FO := fun env st => match f env st with
  | some (.int i, st1) => some (some i, st1)
  | _ => none
def RdO (K : PySem.W.Frag) (f : FO) : TO := fun σ H Q => ∃ B μ st env v st', Sim K B μ st H ∧ RepE K B μ H σ env ∧ f env st = some (v, st') ∧ ∀ H' μ', Sim K B μ' st' H' → Le μ H μ' H' → Q v H'
abbrev SimO (X : Cx) (e : Option Expr) (f : FO) : Prop := PO X e (RdO X.K f)
theorem poI {X : Cx} {e : Option Expr} {t t' : TO} (h : PO X e t) (k : ∀ σ H Q, t' σ H Q → t σ H Q) : PO X e t' := ⟨fun pins s σ H Q I q => h.run pins s σ H Q I (k σ H Q q)⟩
theorem simO_none : SimO X none oNone := poI po_none fun σ H Q ⟨B, μ, st, env, v, st', s, rE, e, k⟩ => by
  cases e
  exact k H μ s (Le.refl _ _)
theorem simO_some (h : SimE X e f) : SimO X (some e) (oSome f) := poI (po_some h) fun σ H Q ⟨B, μ, st, env, v, st', s, rE, e, k⟩ => by
  unfold oSome at e
  split at e
  · rename_i i st1 h1
    cases e
    exact Rd.go s rE h1 fun x H1 μ1 s1 l1 r1 => ⟨i, r1.int_inv, k H1 μ1 s1 l1⟩
  · cases e
def cutP (xs : List PV) (lo hi : Option Int) : List PV := (xs.drop (HT.sIx xs.length 0 lo)).take (HT.sIx xs.length xs.length hi - HT.sIx xs.length 0 lo)
theorem cut_rep {K : PySem.W.Frag} {B : Addr → Prop} {μ : Mu} {H : Hp} {vs : List V} {xs : List PV} (r : RepVs K B μ H vs xs) (lo hi : Option Int) : RepVs K B μ H (cutV vs lo hi) (cutP xs lo hi) := by
  unfold cutV cutP
  rw [r.length]
  exact (r.drop _).take _
abbrev GO := PV → Option Int → Option Int → Store → Option (PV × Store)
def eSl (g : GO) (f : FE) (l h : FO) : FE := fun env st => match f env st with
  | some (p, st1) => (match l env st1 with
    | some (a, st2) => (match h env st2 with
      | some (b, st3) => g p a b st3
      | none => none)
    | none => none)
  | none => none
def gSlT : GO := fun p lo hi st => match p with
  | .tup xs => some (.tup (cutP xs lo hi), st)
  | _ => none
def gSlL : GO := fun p lo hi st => match seqL p st with
  | some xs => some (.lst (cutP xs lo hi), st)
  | none => none
def SlS (K : PySem.W.Frag) (r : V → Option Int → Option Int → Hp → VK → Prop) (g : GO) : Prop := ∀ (B : Addr → Prop) (μ : Mu) (st : Store) (H : Hp) (x : V) (p v : PV) (lo hi : Option Int) (st' : Store) (Q : VK), Sim K B μ st H → RepV K B μ H x p → g p lo hi st = some (v, st') → Got K B μ H v st' Q → r x lo hi H Q
theorem simE_sl {r : V → Option Int → Option Int → Hp → VK → Prop} {g : GO} {lo hi : Option Expr} {fl fh : FO} {p2 : Pos} (hr : SlR X r) (hg : SlS X.K r g) (he : SimE X e f) (hl : SimO X lo fl) (hh : SimO X hi fh) : SimE X (.Subscript e (.Slice lo hi none p2) pos) (eSl g f fl fh) := by
  refine peI (pe_slice hr he hl hh) fun σ H Q ⟨B, μ, st, env, v, st', s, rE, e, k⟩ => ?_
  unfold eSl at e
  split at e
  · rename_i p st1 h1
    split at e
    · rename_i a st2 h2
      split at e
      · rename_i b st3 h3
        refine Rd.go s rE h1 fun x H1 μ1 s1 l1 r1 => ?_
        refine ⟨B, μ1, st1, env, a, st2, s1, rE.mono l1, h2, fun H2 μ2 s2 l2 => ?_⟩
        refine ⟨B, μ2, st2, env, b, st3, s2, (rE.mono l1).mono l2, h3, fun H3 μ3 s3 l3 => ?_⟩
        exact hg B μ3 st3 H3 x p v a b st' Q s3 ((r1.mono l2).mono l3) e (Got_mono k ((l1.trans l2).trans l3))
      · cases e
    · cases e
  · cases e
theorem whole_cut {xs : List V} {lo hi : Option Int} (h : HT.sIx xs.length 0 lo = 0 ∧ HT.sIx xs.length xs.length hi = xs.length) : cutV xs lo hi = xs := by
  unfold cutV
  rw [h.1, h.2]
  simp
theorem slS_tup {K : PySem.W.Frag} : SlS K (rSlA K) gSlT := by
  intro B μ st H x p v lo hi st' Q s rx e k
  unfold gSlT at e
  split at e
  · rename_i xs
    cases e
    have rx0 := rx
    obtain ⟨a, vs, rfl, ha, ra⟩ := rx.tup_inv
    refine ⟨a, vs, rfl, ha, fun hw => ?_, fun hw p hp => ?_⟩
    · have e1 : cutP xs lo hi = xs := by
        unfold cutP
        rw [← ra.length, hw.1, hw.2]
        simp [ra.length]
      rw [e1] at k
      exact k _ H μ s (Le.refl _ _) rx0
    · exact k _ _ μ (sim_new s hp) (le_new s hp) (rep_tup s hp (cut_rep ra lo hi))
  · cases e
theorem slS_lst {K : PySem.W.Frag} : SlS K (rSlL K) gSlL := by
  intro B μ st H x p v lo hi st' Q s rx e k
  unfold gSlL at e
  split at e
  · rename_i xs h
    cases e
    obtain ⟨a, vs, rfl, ha, ra⟩ := seqL_at s rx h
    exact ⟨a, vs, rfl, SqL.of ha, fun p hp => k _ _ μ (sim_new s hp) (le_new s hp) (rep_lst s hp (cut_rep ra lo hi))⟩
  · cases e
theorem simE_slT {lo hi : Option Expr} {fl fh : FO} {p2 : Pos} (he : SimE X e f) (hl : SimO X lo fl) (hh : SimO X hi fh) : SimE X (.Subscript e (.Slice lo hi none p2) pos) (eSl gSlT f fl fh) := simE_sl sl_tupA slS_tup he hl hh
theorem simE_slL {lo hi : Option Expr} {fl fh : FO} {p2 : Pos} (he : SimE X e f) (hl : SimO X lo fl) (hh : SimO X hi fh) : SimE X (.Subscript e (.Slice lo hi none p2) pos) (eSl gSlL f fl fh) := simE_sl sl_list slS_lst he hl hh
/-- [::-1] -/
def gRev : G1 := fun p st => match seqL p st with
  | some xs => some (.lst xs.reverse, st)
  | none => none
theorem simE_rev {k : Nat} {p1 p2 p3 : Pos} (he : SimE X e f) : SimE X (.Subscript e (.Slice none none (some (.UnaryOp .USub (.Constant (.int 1) k p1) p2)) p3) pos) (eUn gRev f) := by
  refine peI (pe_revL he) fun σ H Q ⟨B, μ, st, env, v, st', s, rE, e, k⟩ => ?_
  unfold eUn at e
  split at e
  · rename_i p st1 h1
    refine Rd.go s rE h1 fun x H1 μ1 s1 l1 r1 => ?_
    unfold gRev at e
    split at e
    · rename_i xs h
      cases e
      obtain ⟨a, vs, rfl, ha, ra⟩ := seqL_at s1 r1 h
      exact ⟨a, vs, rfl, SqL.of ha, fun p hp => k _ _ μ1 (sim_new s1 hp) (l1.trans (le_new s1 hp)) (rep_lst s1 hp ra.reverse)⟩
    · cases e
  · cases e

/-! ### built-in functions and types, by values -/
abbrev GA := List PV → Store → Option (PV × Store)
def CallS (K : PySem.W.Frag) (r : List V → Hp → VK → Prop) (g : GA) : Prop := ∀ (B : Addr → Prop) (μ : Mu) (st : Store) (H : Hp) (xs : List V) (ps : List PV) (v : PV) (st' : Store) (Q : VK), Sim K B μ st H → RepVs K B μ H xs ps → g ps st = some (v, st') → Got K B μ H v st' Q → r xs H Q
def eCall (g : GA) (fa : FA) : FE := fun env st => match fa env st with
  | some (as, st1) => g as st1
  | none => none
theorem call_go {r : List V → Hp → VK → Prop} {g : GA} {fa : FA} (hg : CallS X.K r g) {σ : L2.St} {H : Hp} {Q : VK} (h : Rd X.K (eCall g fa) σ H Q) : tCB r (RdA X.K fa) σ H Q := by
  obtain ⟨B, μ, st, env, v, st', s, rE, e, k⟩ := h
  unfold eCall at e
  split at e
  · rename_i as st1 h1
    exact RdA.go s rE h1 fun xs H1 μ1 s1 l1 r1 => hg B μ1 st1 H1 xs as v st' Q s1 r1 e (Got_mono k l1)
  · cases e
variable {x : Str} {p : Pos} {bid T : String}
theorem simE_callB {r : List V → Hp → VK → Prop} {ga : GA} (hc : CallR X (.builtin bid) r) (hg : CallS X.K r ga) (hgl : Gl X x) (hm : X.mg x = none) (hv : bootBuiltins x = some (.builtin bid)) (ha : SimA X (e :: es) g) (hn : x ≠ "__name__" := by decide) (hdb : (x == ("__debug__" : Str)) = false := by decide)
    (he : starEach (e :: es) X.env = (false, eval e X.env) :: starEach es X.env := by rfl) (hpl : (backTo pos (starEach es X.env)).any (·.1) = false := by rfl) : SimE X (.Call (.Name x p) (e :: es) [] pos) (eCall ga g) :=
  peI (pe_callB hc hgl hm hv ha hn hdb he hpl) fun _ _ _ h => call_go hg h
theorem simE_callTy {r : List V → Hp → VK → Prop} {ga : GA} (hc : CallR X (.type T) r) (hg : CallS X.K r ga) (hgl : Gl X x) (hm : X.mg x = none) (hv : bootBuiltins x = some (.type T)) (ha : SimA X (e :: es) g) (hn : x ≠ "__name__" := by decide) (hdb : (x == ("__debug__" : Str)) = false := by decide)
    (he : starEach (e :: es) X.env = (false, eval e X.env) :: starEach es X.env := by rfl) (hpl : (backTo pos (starEach es X.env)).any (·.1) = false := by rfl) : SimE X (.Call (.Name x p) (e :: es) [] pos) (eCall ga g) :=
  peI (pe_callTy hc hgl hm hv ha hn hdb he hpl) fun _ _ _ h => call_go hg h
theorem RepVs.one {K : PySem.W.Frag} {B : Addr → Prop} {μ : Mu} {H : Hp} {xs : List V} {p : PV} (r : RepVs K B μ H xs [p]) : ∃ x, xs = [x] ∧ RepV K B μ H x p := by
  cases r with
  | cons r t => cases t; exact ⟨_, rfl, r⟩
theorem RepVs.two {K : PySem.W.Frag} {B : Addr → Prop} {μ : Mu} {H : Hp} {xs : List V} {p q : PV} (r : RepVs K B μ H xs [p, q]) : ∃ x y, xs = [x, y] ∧ RepV K B μ H x p ∧ RepV K B μ H y q := by
  cases r with
  | cons r t => cases t with
    | cons r2 t => cases t; exact ⟨_, _, rfl, r, r2⟩
/-- len -/
def cLen : GA := fun as st => match as with
  | [.str z] => if z.length ≤ sizeLine then some (.int z.length, st) else none
  | [p] => (match seqA p st with
    | some xs => some (.int xs.length, st)
    | none => none)
  | _ => none
theorem callS_len {K : PySem.W.Frag} : CallS K (fun xs H Q => ∃ x n, xs = [x] ∧ LenV K x H n ∧ Q (.int n) H) cLen := by
  intro B μ st H xs ps v st' Q s r e k
  unfold cLen at e
  split at e
  · split at e
    · rename_i z hz
      cases e
      obtain ⟨x, rfl, rx⟩ := r.one
      cases rx
      exact ⟨_, _, rfl, ⟨hz, rfl⟩, k _ H μ s (Le.refl _ _) (.int _)⟩
    · cases e
  · rename_i p hp
    split at e
    · rename_i ys h
      cases e
      obtain ⟨x, rfl, rx⟩ := r.one
      obtain ⟨a, vs, rfl, ha, ra⟩ := seqA_at s rx h
      refine ⟨_, vs.length, rfl, ?_, by rw [ra.length]; exact k _ H μ s (Le.refl _ _) (.int _)⟩
      rcases ha with ha | ha
      · exact .inl ⟨vs, ha, rfl⟩
      · exact .inr ⟨vs, ha, rfl⟩
    · cases e
  · cases e
theorem simE_len (hgl : Gl X "len") (hm : X.mg "len" = none) (ha : SimA X [e] g) (he : starEach [e] X.env = (false, eval e X.env) :: starEach [] X.env := by rfl) : SimE X (.Call (.Name "len" p) [e] [] pos) (eCall cLen g) :=
  simE_callB call_len callS_len hgl hm PySem.boot_len ha (he := he)
/-- tuple(x) of a list, of a tuple -/
def cTup : GA := fun as st => match as with
  | [p] => (match seqA p st with
    | some xs => some (.tup xs, st)
    | none => none)
  | _ => none
theorem callS_tup {K : PySem.W.Frag} : CallS K (fun xs H Q => ∃ p ys, xs = [.ref p] ∧ ((SqL K H p ys ∧ ∀ l, H l = none → Q (.ref l) (upd H l (.tup ys))) ∨ (SqT K H p ys ∧ Q (.ref p) H))) cTup := by
  intro B μ st H xs ps v st' Q s r e k
  unfold cTup at e
  split at e
  · rename_i p
    obtain ⟨x, rfl, rx⟩ := r.one
    split at e
    · rename_i ys h
      cases e
      cases p <;> simp only [seqA] at h <;> try cases h
      · have rx0 := rx
        obtain ⟨a, vs, rfl, ha, ra⟩ := rx.tup_inv
        exact ⟨a, vs, rfl, .inr ⟨ha, k _ H μ s (Le.refl _ _) rx0⟩⟩
      · obtain ⟨a, vs, rfl, ha, ra⟩ := seqL_at s rx rfl
        exact ⟨a, vs, rfl, .inl ⟨SqL.of ha, fun q hq => k _ _ μ (sim_new s hq) (le_new s hq) (rep_tup s hq ra)⟩⟩
      · obtain ⟨a, vs, rfl, ha, ra⟩ := seqL_at s rx h
        exact ⟨a, vs, rfl, .inl ⟨SqL.of ha, fun q hq => k _ _ μ (sim_new s hq) (le_new s hq) (rep_tup s hq ra)⟩⟩
    · cases e
  · cases e
theorem simE_tuple (hgl : Gl X "tuple") (hm : X.mg "tuple" = none) (ha : SimA X [e] g) (he : starEach [e] X.env = (false, eval e X.env) :: starEach [] X.env := by rfl) : SimE X (.Call (.Name "tuple" p) [e] [] pos) (eCall cTup g) :=
  simE_callTy call_tuple_of callS_tup hgl hm (by decide +kernel) ha (he := he)
/-- list(x): a new one, a value or a cell -/
def cLst : GA := fun as st => match as with
  | [.ro ns] => some (.lst (ns.map .int), st)
  | [p] => (match seqA p st with
    | some xs => some (.lst xs, st)
    | none => none)
  | _ => none
def cLstM : GA := fun as st => match as with
  | [.ro ns] => some (.loc st.length, st ++ [.lst (ns.map .int)])
  | [p] => (match seqA p st with
    | some xs => some (.loc st.length, st ++ [.lst xs])
    | none => none)
  | _ => none
theorem rep_ints {K : PySem.W.Frag} {B : Addr → Prop} {μ : Mu} {H : Hp} : ∀ (ns : List Int), RepVs K B μ H (ns.map V.int) (ns.map PV.int)
  | [] => .nil
  | n :: r => .cons (.int n) (rep_ints r)
theorem callS_lst {K : PySem.W.Frag} : CallS K (fun xs H Q => ∃ p ys, xs = [.ref p] ∧ (SqL K H p ys ∨ SqT K H p ys) ∧ ∀ l, H l = none → Q (.ref l) (upd H l (.lst ys))) cLst := by
  intro B μ st H xs ps v st' Q s r e k
  unfold cLst at e
  split at e
  · rename_i ns
    cases e
    obtain ⟨x, rfl, rx⟩ := r.one
    cases rx with
    | ro nb nl h => exact ⟨_, _, rfl, .inl (.inl h), fun q hq => k _ _ μ (sim_new s hq) (le_new s hq) (rep_lst s hq (rep_ints ns))⟩
    | roK h => exact ⟨_, _, rfl, .inl (sqL_any h), fun q hq => k _ _ μ (sim_new s hq) (le_new s hq) (rep_lst s hq (rep_ints ns))⟩
  · split at e
    · rename_i p hp ys h
      cases e
      obtain ⟨x, rfl, rx⟩ := r.one
      obtain ⟨a, vs, rfl, ha, ra⟩ := seqA_at s rx h
      exact ⟨a, vs, rfl, ha, fun q hq => k _ _ μ (sim_new s hq) (le_new s hq) (rep_lst s hq ra)⟩
    · cases e
  · cases e
theorem callS_lstM {K : PySem.W.Frag} : CallS K (fun xs H Q => ∃ p ys, xs = [.ref p] ∧ (SqL K H p ys ∨ SqT K H p ys) ∧ ∀ l, H l = none → Q (.ref l) (upd H l (.lst ys))) cLstM := by
  intro B μ st H xs ps v st' Q s r e k
  unfold cLstM at e
  have fin : ∀ {vs : List V} {ys : List PV}, RepVs K B μ H vs ys → Got K B μ H (.loc st.length) (st ++ [.lst ys]) Q → ∀ q, H q = none → Q (.ref q) (upd H q (.lst vs)) := fun {vs ys} ra k q hq => by
    have l2 := le_cell (o := .lst vs) s hq
    exact k _ _ (μ ++ [some q]) (sim_cell s hq ⟨vs, upd_same, ra.mono l2⟩) l2 (rep_loc s)
  split at e
  · rename_i ns
    cases e
    obtain ⟨x, rfl, rx⟩ := r.one
    cases rx with
    | ro nb nl h => exact ⟨_, _, rfl, .inl (.inl h), fin (rep_ints ns) k⟩
    | roK h => exact ⟨_, _, rfl, .inl (sqL_any h), fin (rep_ints ns) k⟩
  · split at e
    · rename_i p hp ys h
      cases e
      obtain ⟨x, rfl, rx⟩ := r.one
      obtain ⟨a, vs, rfl, ha, ra⟩ := seqA_at s rx h
      exact ⟨a, vs, rfl, ha, fin ra k⟩
    · cases e
  · cases e
theorem simE_list (hgl : Gl X "list") (hm : X.mg "list" = none) (ha : SimA X [e] g) (he : starEach [e] X.env = (false, eval e X.env) :: starEach [] X.env := by rfl) : SimE X (.Call (.Name "list" p) [e] [] pos) (eCall cLst g) :=
  simE_callTy call_list_of callS_lst hgl hm (by decide +kernel) ha (he := he)
theorem simE_listM (hgl : Gl X "list") (hm : X.mg "list" = none) (ha : SimA X [e] g) (he : starEach [e] X.env = (false, eval e X.env) :: starEach [] X.env := by rfl) : SimE X (.Call (.Name "list" p) [e] [] pos) (eCall cLstM g) :=
  simE_callTy call_list_of callS_lstM hgl hm (by decide +kernel) ha (he := he)
/-- int(x) -/
def cInt : GA := fun as st => match as with
  | [.int i] => some (.int i, st)
  | [.bl b] => some (.int (if b then 1 else 0), st)
  | _ => none
theorem callS_int {K : PySem.W.Frag} : CallS K (fun xs H Q => (∃ i, xs = [.int i] ∧ Q (.int i) H) ∨ ∃ k, xs = [.bl k] ∧ Q (.int (if k then 1 else 0)) H) cInt := by
  intro B μ st H xs ps v st' Q s r e k
  unfold cInt at e
  split at e
  · cases e
    obtain ⟨x, rfl, rx⟩ := r.one
    cases rx
    exact .inl ⟨_, rfl, k _ H μ s (Le.refl _ _) (.int _)⟩
  · cases e
    obtain ⟨x, rfl, rx⟩ := r.one
    cases rx
    exact .inr ⟨_, rfl, k _ H μ s (Le.refl _ _) (.int _)⟩
  · cases e
theorem simE_intC (hgl : Gl X "int") (hm : X.mg "int" = none) (ha : SimA X [e] g) (he : starEach [e] X.env = (false, eval e X.env) :: starEach [] X.env := by rfl) : SimE X (.Call (.Name "int" p) [e] [] pos) (eCall cInt g) :=
  simE_callTy call_int1 callS_int hgl hm (by decide +kernel) ha (he := he)
/-- all, any of a list of bools; sum of a list of ints -/
def blsOf : List PV → Option (List Bool)
  | [] => some []
  | .bl b :: r => (match blsOf r with
    | some bs => some (b :: bs)
    | none => none)
  | _ => none
def intsOf : List PV → Option (List Int)
  | [] => some []
  | .int b :: r => (match intsOf r with
    | some bs => some (b :: bs)
    | none => none)
  | _ => none
theorem bls_at {K : PySem.W.Frag} {B : Addr → Prop} {μ : Mu} {H : Hp} : ∀ {xs : List PV} {vs : List V} {bs : List Bool}, RepVs K B μ H vs xs → blsOf xs = some bs → vs = bs.map V.bl
  | [], _, _, .nil, e => by cases e; rfl
  | p :: r, _, bs, .cons r1 r2, e => by
    cases p <;> simp only [blsOf] at e <;> try cases e
    rename_i b
    split at e
    · rename_i cs h
      cases e
      cases r1
      rw [bls_at r2 h]
      rfl
    · cases e
theorem ints_at {K : PySem.W.Frag} {B : Addr → Prop} {μ : Mu} {H : Hp} : ∀ {xs : List PV} {vs : List V} {bs : List Int}, RepVs K B μ H vs xs → intsOf xs = some bs → vs = bs.map V.int
  | [], _, _, .nil, e => by cases e; rfl
  | p :: r, _, bs, .cons r1 r2, e => by
    cases p <;> simp only [intsOf] at e <;> try cases e
    rename_i b
    split at e
    · rename_i cs h
      cases e
      cases r1
      rw [ints_at r2 h]
      rfl
    · cases e
def cBls (f : List Bool → Bool) : GA := fun as st => match as with
  | [p] => (match seqL p st with
    | some xs => (match blsOf xs with
      | some bs => some (.bl (f bs), st)
      | none => none)
    | none => none)
  | _ => none
def cInts (f : List Int → Option Int) : GA := fun as st => match as with
  | [p] => (match seqL p st with
    | some xs => (match intsOf xs with
      | some bs => (match f bs with
        | some n => some (.int n, st)
        | none => none)
      | none => none)
    | none => none)
  | _ => none
theorem callS_all {K : PySem.W.Frag} : CallS K (rAll K) (cBls fun bs => bs.all id) := by
  intro B μ st H xs ps v st' Q s r e k
  unfold cBls at e
  split at e
  · obtain ⟨x, rfl, rx⟩ := r.one
    split at e
    · rename_i ys h
      split at e
      · rename_i bs hb
        cases e
        obtain ⟨a, vs, rfl, ha, ra⟩ := seqL_at s rx h
        rw [bls_at ra hb] at ha
        exact ⟨a, bs, rfl, SqL.of ha, k _ H μ s (Le.refl _ _) (.bl _)⟩
      · cases e
    · cases e
  · cases e
theorem callS_any {K : PySem.W.Frag} : CallS K (rAny K) (cBls fun bs => bs.any id) := by
  intro B μ st H xs ps v st' Q s r e k
  unfold cBls at e
  split at e
  · obtain ⟨x, rfl, rx⟩ := r.one
    split at e
    · rename_i ys h
      split at e
      · rename_i bs hb
        cases e
        obtain ⟨a, vs, rfl, ha, ra⟩ := seqL_at s rx h
        rw [bls_at ra hb] at ha
        exact ⟨a, bs, rfl, SqL.of ha, k _ H μ s (Le.refl _ _) (.bl _)⟩
      · cases e
    · cases e
  · cases e
theorem callS_sum {K : PySem.W.Frag} : CallS K (rSum K) (cInts fun ns => some ns.sum) := by
  intro B μ st H xs ps v st' Q s r e k
  unfold cInts at e
  split at e
  · obtain ⟨x, rfl, rx⟩ := r.one
    split at e
    · rename_i ys h
      split at e
      · rename_i bs hb
        cases e
        obtain ⟨a, vs, rfl, ha, ra⟩ := seqL_at s rx h
        rw [ints_at ra hb] at ha
        exact ⟨a, bs, rfl, SqL.of ha, k _ H μ s (Le.refl _ _) (.int _)⟩
      · cases e
    · cases e
  · cases e
theorem simE_all (hc : X.calm = true) (hgl : Gl X "all") (hm : X.mg "all" = none) (ha : SimA X [e] g) (he : starEach [e] X.env = (false, eval e X.env) :: starEach [] X.env := by rfl) : SimE X (.Call (.Name "all" p) [e] [] pos) (eCall (cBls fun bs => bs.all id) g) :=
  simE_callB (cr_all hc) callS_all hgl hm (by decide +kernel) ha (he := he)
theorem simE_any (hc : X.calm = true) (hgl : Gl X "any") (hm : X.mg "any" = none) (ha : SimA X [e] g) (he : starEach [e] X.env = (false, eval e X.env) :: starEach [] X.env := by rfl) : SimE X (.Call (.Name "any" p) [e] [] pos) (eCall (cBls fun bs => bs.any id) g) :=
  simE_callB (cr_any hc) callS_any hgl hm (by decide +kernel) ha (he := he)
theorem simE_sum (hc : X.calm = true) (hgl : Gl X "sum") (hm : X.mg "sum" = none) (ha : SimA X [e] g) (he : starEach [e] X.env = (false, eval e X.env) :: starEach [] X.env := by rfl) : SimE X (.Call (.Name "sum" p) [e] [] pos) (eCall (cInts fun ns => some ns.sum) g) :=
  simE_callB (cr_sum hc) callS_sum hgl hm (by decide +kernel) ha (he := he)
/-- isinstance(x, T), T a built-in type by its name -/
def tyP : PV → Store → Option String
  | .non, _ => some "NoneType"
  | .bl _, _ => some "bool"
  | .int _, _ => some "int"
  | .str _, _ => some "str"
  | .tup _, _ => some "tuple"
  | .lst _, _ => some "list"
  | .loc n, st => (match st[n]? with
    | some (.lst _) => some "list"
    | some (.dic _) => some "dict"
    | _ => none)
  | _, _ => none
def gIsi (T : String) : G1 := fun p st => match tyP p st with
  | some t => (match kitB t T with
    | some b => some (.bl b, st)
    | none => none)
  | none => none
theorem tyP_at {K : PySem.W.Frag} {B : Addr → Prop} {μ : Mu} {H : Hp} {st : Store} {x : V} {p : PV} {t : String} (s : Sim K B μ st H) (r : RepV K B μ H x p) (e : tyP p st = some t) : TyX K H x (.type t) := by
  cases p <;> simp only [tyP] at e <;> try cases e
  · cases r; exact .base .non
  · cases r; exact .base (.bl _)
  · cases r; exact .base (.int _)
  · cases r; exact .base (.str _)
  · cases r with
    | tup nb nl h r => exact .base (.tup h)
    | tupK a b c d e r => exact .kTuple a b
  · cases r with
    | lst nb nl h r => exact .base (.lst h)
  · split at e
    · rename_i n ys h
      cases e
      obtain ⟨a, rfl, _, vs, ha, _⟩ := s.loc r h (by simp)
      exact .base (.lst ha)
    · rename_i n ys h
      cases e
      obtain ⟨a, rfl, _, vs, ha, _⟩ := s.loc r h (by simp)
      exact .base (.dK ha)
    · cases e
theorem simE_isi {T : String} {y : Str} {p2 : Pos} (hgl : Gl X "isinstance") (hm : X.mg "isinstance" = none) (hy : Gl X y) (hmy : X.mg y = none) (hby : bootBuiltins y = some (.type T)) (he : SimE X e f) (hny : y ≠ "__name__" := by decide) (hdy : (y == ("__debug__" : Str)) = false := by decide)
    (h1 : starEach [e, .Name y p2] X.env = (false, eval e X.env) :: starEach [.Name y p2] X.env := by rfl) (h2 : starEach [.Name y p2] X.env = (false, eval (.Name y p2) X.env) :: starEach [] X.env := by rfl) (hpl : (backTo pos (starEach [.Name y p2] X.env)).any (·.1) = false := by rfl) :
    SimE X (.Call (.Name "isinstance" p) [e, .Name y p2] [] pos) (eUn (gIsi T) f) := by
  refine peI (pe_callB call_isi hgl hm (by decide +kernel) (pa_cons he (pa_cons (pe_bltn (v := .ty T) hy hmy hby rfl hny hdy) pa_nil h2) h1) (he := h1) (hpl := hpl)) fun σ H Q ⟨B, μ, st, env, v, st', s, rE, e, k⟩ => ?_
  unfold eUn at e
  split at e
  · rename_i p st1 h1
    refine Rd.go s rE h1 fun x H1 μ1 s1 l1 r1 => ?_
    unfold gIsi at e
    split at e
    · rename_i t ht
      split at e
      · rename_i b hb
        cases e
        exact ⟨x, .ty T, .type t, .type T, b, rfl, .ty T, tyP_at s1 r1 ht, kit_ty hb, k _ H1 μ1 s1 l1 (.bl b)⟩
      · cases e
    · cases e
  · cases e
end
end L3
end
section
set_option Elab.async false
set_option linter.all false
set_option maxRecDepth 100000
namespace L3
open PySem PySem.Spec PyProof.Rows L2

/-! ### methods of lists -/
abbrev GM := PV → List PV → Store → Option (PV × Store)
def MtS (K : PySem.W.Frag) (r : V → List V → Hp → VK → Prop) (g : GM) : Prop := ∀ (B : Addr → Prop) (μ : Mu) (st : Store) (H : Hp) (x : V) (xs : List V) (p : PV) (ps : List PV) (v : PV) (st' : Store) (Q : VK), Sim K B μ st H → RepV K B μ H x p → RepVs K B μ H xs ps → g p ps st = some (v, st') → Got K B μ H v st' Q → r x xs H Q
def eBM (g : GM) (fo : FE) (fa : FA) : FE := fun env st => match fo env st with
  | some (p, st1) => (match seqL p st1 with
    | some _ => (match fa env st1 with
      | some (as, st2) => g p as st2
      | none => none)
    | none => none)
  | none => none
def eBM0 (g : GM) (fo : FE) : FE := fun env st => match fo env st with
  | some (p, st1) => (match seqL p st1 with
    | some _ => g p [] st1
    | none => none)
  | none => none
section
variable {X : Cx} {o e : Expr} {es : List Expr} {fo f : FE} {fa : FA} {name : Str} {apos cpos pos p : Pos} {bid : String} {r : V → List V → Hp → VK → Prop} {g : GM}
theorem tyL {B : Addr → Prop} {μ : Mu} {st : Store} {H : Hp} {x : V} {p : PV} {xs : List PV} (s : Sim X.K B μ st H) (r : RepV X.K B μ H x p) (h : seqL p st = some xs) : tyV X.K "list" x H := by
  obtain ⟨a, vs, rfl, ha, _⟩ := seqL_at s r h
  exact .inl ⟨rfl, vs, SqL.of ha⟩
theorem simE_bm (slot : Slot "list" name bid) (hty : typeOf (.builtin bid) = pure (.type "method_descriptor")) (hm : MtR X bid r) (hg : MtS X.K r g) (ho : SimE X o fo) (ha : SimA X (e :: es) fa)
    (hbase : attributeBase o name X.env (eval o X.env) = eval o X.env := by rfl)
    (hfew : ((backTo cpos (starEach (e :: es) X.env)).all (fun x => !x.1) && (backToKw cpos (keywordEach [] X.env)).all (fun x => x.1.isSome)
      && decide ((e :: es).length + ([] : List Keyword).length + (if ([] : List Keyword).isEmpty then 0 else 1) < 30)) = true := by rfl)
    (hline : (apos.endLine == cpos.line) = true := by rfl) (hs : starEach (e :: es) X.env = (false, eval e X.env) :: starEach es X.env := by rfl) (hplain : (backTo cpos (starEach es X.env)).any (·.1) = false := by rfl) :
    SimE X (.Call (.Attribute o name apos) (e :: es) [] cpos) (eBM g fo fa) := by
  refine peI (pe_bm PySem.F.plainAttrs_list slot hty hm ho ha hbase hfew hline hs hplain) fun σ H Q ⟨B, μ, st, env, v, st', s, rE, e, k⟩ => ?_
  unfold eBM at e
  split at e
  · rename_i p st1 h1
    split at e
    · rename_i ys h2
      split at e
      · rename_i as st2 h3
        refine Rd.go s rE h1 fun x H1 μ1 s1 l1 r1 => ⟨tyL s1 r1 h2, ?_⟩
        exact RdA.go s1 (rE.mono l1) h3 fun xs H2 μ2 s2 l2 r2 => hg B μ2 st2 H2 x xs p as v st' Q s2 (r1.mono l2) r2 e (Got_mono k (l1.trans l2))
      · cases e
    · cases e
  · cases e
theorem simE_bm0 (slot : Slot "list" name bid) (hty : typeOf (.builtin bid) = pure (.type "method_descriptor")) (hm : MtR X bid r) (hg : MtS X.K r g) (ho : SimE X o fo)
    (hbase : attributeBase o name X.env (eval o X.env) = eval o X.env := by rfl) (hline : (apos.endLine == cpos.line) = true := by rfl) : SimE X (.Call (.Attribute o name apos) [] [] cpos) (eBM0 g fo) := by
  refine peI (pe_bm0 PySem.F.plainAttrs_list slot hty hm ho hbase hline) fun σ H Q ⟨B, μ, st, env, v, st', s, rE, e, k⟩ => ?_
  unfold eBM0 at e
  split at e
  · rename_i p st1 h1
    split at e
    · rename_i ys h2
      refine Rd.go s rE h1 fun x H1 μ1 s1 l1 r1 => ⟨tyL s1 r1 h2, ?_⟩
      exact hg B μ1 st1 H1 x [] p [] v st' Q s1 r1 .nil e (Got_mono k l1)
    · cases e
  · cases e
def lcell (n : Nat) (st : Store) : Option (List PV) := match st[n]? with
  | some (.lst xs) => some xs
  | _ => none
theorem lcell_at {n : Nat} {st : Store} {xs : List PV} (h : lcell n st = some xs) : st[n]? = some (.lst xs) := by
  unfold lcell at h
  split at h
  · rename_i ys e; cases h; exact e
  · cases h
def mAppend : GM := fun p as st => match p, as with
  | .loc n, [v] => (match lcell n st with
    | some xs => if xs.length < sizeLine then some (.non, st.set n (.lst (xs ++ [v]))) else none
    | none => none)
  | _, _ => none
theorem mtS_append {K : PySem.W.Frag} : MtS K rAppend mAppend := by
  intro B μ st H x xs p ps v st' Q s rx rxs e k
  unfold mAppend at e
  split at e
  · split at e
    · rename_i n w ys h
      split at e
      · rename_i hz
        cases e
        obtain ⟨a, rfl, hm, vs, ha, ra⟩ := s.loc rx (lcell_at h) (by simp)
        obtain ⟨y, rfl, ry⟩ := rxs.one
        have l := le_upd (H := H) (o := .lst (vs ++ [y])) hm
        exact ⟨a, vs, y, rfl, rfl, ha, by rw [ra.length]; exact hz, k _ _ μ (sim_upd s hm ⟨_, upd_same, (ra.append (.cons ry .nil)).mono l⟩) l .non⟩
      · cases e
    · cases e
  · cases e
def mExtend : GM := fun p as st => match p, as with
  | .loc n, [q] => (match lcell n st, seqL q st with
    | some xs, some ys => if xs.length + ys.length ≤ sizeLine then some (.non, st.set n (.lst (xs ++ ys))) else none
    | _, _ => none)
  | _, _ => none
theorem mtS_extend {K : PySem.W.Frag} : MtS K rExtend mExtend := by
  intro B μ st H x xs p ps v st' Q s rx rxs e k
  unfold mExtend at e
  split at e
  · split at e
    · rename_i n w ys zs h h2
      split at e
      · rename_i hz
        cases e
        obtain ⟨a, rfl, hm, vs, ha, ra⟩ := s.loc rx (lcell_at h) (by simp)
        obtain ⟨y, rfl, ry⟩ := rxs.one
        obtain ⟨b, ws, rfl, hb, rb⟩ := seqL_at s ry h2
        have l := le_upd (H := H) (o := .lst (vs ++ ws)) hm
        exact ⟨a, b, vs, ws, rfl, rfl, ha, hb, by rw [ra.length, rb.length]; exact hz, k _ _ μ (sim_upd s hm ⟨_, upd_same, (ra.append rb).mono l⟩) l .non⟩
      · cases e
    · cases e
  · cases e
def mPop : GM := fun p as st => match p, as with
  | .loc n, [] => (match lcell n st with
    | some xs => (match xs[xs.length - 1]? with
      | some v => some (v, st.set n (.lst xs.dropLast))
      | none => none)
    | none => none)
  | _, _ => none
theorem mtS_pop {K : PySem.W.Frag} : MtS K rPop mPop := by
  intro B μ st H x xs p ps v st' Q s rx rxs e k
  unfold mPop at e
  split at e
  · split at e
    · rename_i n ys h
      split at e
      · rename_i w hw
        cases e
        obtain ⟨a, rfl, hm, vs, ha, ra⟩ := s.loc rx (lcell_at h) (by simp)
        cases rxs
        obtain ⟨u, hu, ru⟩ := ra.get hw
        have l := le_upd (H := H) (o := .lst vs.dropLast) hm
        exact ⟨a, vs, u, rfl, rfl, ha, by rw [ra.length]; exact hu, k _ _ μ (sim_upd s hm ⟨_, upd_same, ra.dropLast.mono l⟩) l (ru.mono l)⟩
      · cases e
    · cases e
  · cases e
def mPopAt : GM := fun p as st => match p, as with
  | .loc n, [.int i] => (match lcell n st with
    | some xs => if -(2 ^ 63) ≤ i ∧ i < 2 ^ 63 then (match seqIndex? i xs.length with
      | some k => (match xs[k]? with
        | some v => some (v, st.set n (.lst (xs.eraseIdx k)))
        | none => none)
      | none => none) else none
    | none => none)
  | _, _ => none
theorem mtS_popAt {K : PySem.W.Frag} : MtS K rPopAt mPopAt := by
  intro B μ st H x xs p ps v st' Q s rx rxs e k
  unfold mPopAt at e
  split at e
  · split at e
    · rename_i n i _ ys h
      split at e
      · rename_i hz
        split at e
        · rename_i j hj
          split at e
          · rename_i w hw
            cases e
            obtain ⟨a, rfl, hm, vs, ha, ra⟩ := s.loc rx (lcell_at h) (by simp)
            obtain ⟨y, rfl, ry⟩ := rxs.one
            cases ry
            obtain ⟨u, hu, ru⟩ := ra.get hw
            have l := le_upd (H := H) (o := .lst (vs.eraseIdx j)) hm
            exact ⟨a, vs, _, j, u, rfl, rfl, ha, hz.1, hz.2, by rw [ra.length]; exact hj, hu, k _ _ μ (sim_upd s hm ⟨_, upd_same, (ra.eraseIdx j).mono l⟩) l (ru.mono l)⟩
          · cases e
        · cases e
      · cases e
    · cases e
  · cases e
theorem simE_append (ho : SimE X o fo) (ha : SimA X [e] fa) (hbase : attributeBase o "append" X.env (eval o X.env) = eval o X.env := by rfl)
    (hfew : ((backTo cpos (starEach [e] X.env)).all (fun x => !x.1) && (backToKw cpos (keywordEach [] X.env)).all (fun x => x.1.isSome) && decide (([e] : List Expr).length + ([] : List Keyword).length + (if ([] : List Keyword).isEmpty then 0 else 1) < 30)) = true := by rfl)
    (hline : (apos.endLine == cpos.line) = true := by rfl) (hs : starEach [e] X.env = (false, eval e X.env) :: starEach [] X.env := by rfl) : SimE X (.Call (.Attribute o "append" apos) [e] [] cpos) (eBM mAppend fo fa) :=
  simE_bm PySem.F.slot_list_append PySem.F.type_list_append mt_append mtS_append ho ha hbase hfew hline hs
theorem simE_extend (ho : SimE X o fo) (ha : SimA X [e] fa) (hbase : attributeBase o "extend" X.env (eval o X.env) = eval o X.env := by rfl)
    (hfew : ((backTo cpos (starEach [e] X.env)).all (fun x => !x.1) && (backToKw cpos (keywordEach [] X.env)).all (fun x => x.1.isSome) && decide (([e] : List Expr).length + ([] : List Keyword).length + (if ([] : List Keyword).isEmpty then 0 else 1) < 30)) = true := by rfl)
    (hline : (apos.endLine == cpos.line) = true := by rfl) (hs : starEach [e] X.env = (false, eval e X.env) :: starEach [] X.env := by rfl) : SimE X (.Call (.Attribute o "extend" apos) [e] [] cpos) (eBM mExtend fo fa) :=
  simE_bm PySem.F.slot_list_extend PySem.F.type_list_extend mt_extend mtS_extend ho ha hbase hfew hline hs
theorem simE_pop (ho : SimE X o fo) (hbase : attributeBase o "pop" X.env (eval o X.env) = eval o X.env := by rfl) (hline : (apos.endLine == cpos.line) = true := by rfl) : SimE X (.Call (.Attribute o "pop" apos) [] [] cpos) (eBM0 mPop fo) :=
  simE_bm0 PySem.F.slot_list_pop PySem.F.type_list_pop mt_pop mtS_pop ho hbase hline
theorem simE_popAt (ho : SimE X o fo) (ha : SimA X [e] fa) (hbase : attributeBase o "pop" X.env (eval o X.env) = eval o X.env := by rfl)
    (hfew : ((backTo cpos (starEach [e] X.env)).all (fun x => !x.1) && (backToKw cpos (keywordEach [] X.env)).all (fun x => x.1.isSome) && decide (([e] : List Expr).length + ([] : List Keyword).length + (if ([] : List Keyword).isEmpty then 0 else 1) < 30)) = true := by rfl)
    (hline : (apos.endLine == cpos.line) = true := by rfl) (hs : starEach [e] X.env = (false, eval e X.env) :: starEach [] X.env := by rfl) : SimE X (.Call (.Attribute o "pop" apos) [e] [] cpos) (eBM mPopAt fo fa) :=
  simE_bm PySem.F.slot_list_pop PySem.F.type_list_pop mt_popAt mtS_popAt ho ha hbase hfew hline hs

/-! ### a list that is done -/
def eFrz (f : FE) : FE := fun env st => match f env st with
  | some (.loc n, st1) => (match lcell n st1 with
    | some xs => some (.lst xs, st1.set n .dead)
    | none => none)
  | _ => none
theorem simE_frz (he : SimE X e f) : SimE X e (eFrz f) := by
  refine peI he fun σ H Q ⟨B, μ, st, env, v, st', s, rE, e, k⟩ => ?_
  unfold eFrz at e
  split at e
  · rename_i n st1 h1
    split at e
    · rename_i xs h2
      cases e
      refine Rd.go s rE h1 fun x H1 μ1 s1 l1 r1 => ?_
      obtain ⟨a, rfl, hm, vs, ha, ra⟩ := s1.loc r1 (lcell_at h2) (by simp)
      have nl : ∀ b, live (μ1.set n none) b → live μ1 b ∧ b ≠ a := fun b ⟨i, hi⟩ => by
        by_cases h : n = i
        · subst h
          have hl : n < μ1.length := (List.getElem?_eq_some_iff.mp hm).1
          rw [List.getElem?_set_self hl] at hi
          cases hi
        · rw [List.getElem?_set_ne h] at hi
          exact ⟨⟨i, hi⟩, fun e => h (s1.inj n i a hm (e ▸ hi))⟩
      have bk : ∀ (i : Nat) (b : Addr), (μ1.set n none)[i]? = some (some b) → μ1[i]? = some (some b) := fun i b hi => by
        by_cases h : n = i
        · subst h
          have hl : n < μ1.length := (List.getElem?_eq_some_iff.mp hm).1
          rw [List.getElem?_set_self hl] at hi
          cases hi
        · rwa [List.getElem?_set_ne h] at hi
      have l2 : Le μ1 H1 (μ1.set n none) H1 := ⟨by simp, fun i b _ hi => bk i b hi, fun b o e nb => ⟨e, fun z => nb (nl b z).1⟩⟩
      refine k _ H1 (μ1.set n none) ⟨by simp [s1.len], fun i j b h1 h2 => s1.inj i j b (bk i b h1) (bk j b h2), fun i b h => s1.out i b (bk i b h), s1.occ, fun i c e => ?_⟩ (l1.trans l2) (.lst (s1.out n a hm) (fun z => (nl a z).2 rfl) ha (ra.mono l2))
      by_cases h : n = i
      · subst h
        have hl : n < st1.length := by
          have := (List.getElem?_eq_some_iff.mp e).1
          simpa using this
        rw [List.getElem?_set_self hl] at e
        cases e
        exact .inl ⟨rfl, by rw [List.getElem?_set_self (by rw [s1.len]; exact hl)]⟩
      · rw [List.getElem?_set_ne h] at e
        rcases s1.at_ i c e with ⟨q, z⟩ | ⟨b, z, rc⟩
        · exact .inl ⟨q, by rw [List.getElem?_set_ne h]; exact z⟩
        · exact .inr ⟨b, by rw [List.getElem?_set_ne h]; exact z, rc.mono l2 fun o e => e⟩
    · cases e
  · cases e

/-! ### calls of defs -/
/-- a def's promise by its function -/
def spF (K : PySem.W.Frag) (g : GA) : Sp := fun vs H Q _ => ∃ B μ st ps v st', Sim K B μ st H ∧ RepVs K B μ H vs ps ∧ g ps st = some (v, st') ∧ Got K B μ H v st' Q
abbrev Prom (X : Cx) (k : Nat) (f : Addr) (g : GA) : Prop := FnR X.prog X.w X.K X.mg X.base L2.CX0 k f (spF X.K g)
theorem pe_callR {k : Nat} {f : Addr} {sp : Sp} {x : Str} {t : L2.TA} (F : FnR X.prog X.w X.K X.mg X.base L2.CX0 k f sp) (hr : Room k X.A) (hg : Gl X x) (hm : X.mg x = some (.ref f)) (hk : PySem.W.keepIn X.K (.ref f) = true)
    (ha : PA X (e :: es) t) (hdb : (x == ("__debug__" : Str)) = false := by decide) (he : starEach (e :: es) X.env = (false, eval e X.env) :: starEach es X.env := by rfl) (hpl : (backTo pos (starEach es X.env)).any (·.1) = false := by rfl) :
    PE X (.Call (.Name x p) (e :: es) [] pos) (fun σ H Q => t σ H fun vs H1 => sp vs H1 Q L2.E0) := by
  refine ⟨fun pins s σ H Q I h => ?_⟩
  refine wpAny_Call_Name_kw (ld_glob I hg hm ?_ hdb)
  refine PySem.W.callWith_K (h₀ := X.base) I.ok.mod.kin hk (thn (ha.run pos pins s σ H _ I h) fun us s1 ⟨vs, H1, I1, r, q⟩ => ⟨I1.kIn, ?_⟩) he hpl
  exact wpAny_call (run_fnR F hr L2.pass0 I1 r q)
theorem pe_callR0 {k : Nat} {f : Addr} {sp : Sp} {x : Str} (F : FnR X.prog X.w X.K X.mg X.base L2.CX0 k f sp) (hr : Room k X.A) (hg : Gl X x) (hm : X.mg x = some (.ref f)) (hk : PySem.W.keepIn X.K (.ref f) = true)
    (hdb : (x == ("__debug__" : Str)) = false := by decide) : PE X (.Call (.Name x p) [] [] pos) (fun σ H Q => sp [] H Q L2.E0) := by
  refine ⟨fun pins s σ H Q I h => ?_⟩
  refine wpAny_Call_Name_kw (ld_glob I hg hm ?_ hdb)
  exact PySem.W.callWith_K0 I.kIn hk (wpAny_call (run_fnR (us := []) F hr L2.pass0 I .nil h))
/-- a call that may change our cells -/
def eS (g : GA) (fa : FA) : FE := fun env st => match fa env st with
  | some (as, st1) => g as st1
  | none => none
/-- a call that sees no cell of ours -/
def eP (g : GA) (fa : FA) : FE := fun env st => match fa env st with
  | some (as, st1) => if PV.pures as = true then (match g as [] with
    | some (v, _) => if v.pure = true then some (v, st1) else none
    | none => none) else none
  | none => none
theorem pure_go {B : Addr → Prop} {μ : Mu} {st : Store} {H : Hp} {vs : List V} {as : List PV} {v : PV} {st2 : Store} {g : GA} {Q : VK} {E : XK} (s : Sim X.K B μ st H) (r : RepVs X.K B μ H vs as) (hp : PV.pures as = true) (e : g as [] = some (v, st2)) (hv : v.pure = true)
    (k : Got X.K B μ H v st Q) : spF X.K g vs H Q E := by
  refine ⟨shut B μ, [], [], as, v, st2, s.shut, r.shut hp, e, fun x H' μ' s' l' r' => ?_⟩
  exact k x H' μ (s.stay l'.all) l'.stay (r'.opn hv)
theorem simE_callS {k : Nat} {f : Addr} {g : GA} {x : Str} (F : Prom X k f g) (hr : Room k X.A) (hg : Gl X x) (hm : X.mg x = some (.ref f)) (hk : PySem.W.keepIn X.K (.ref f) = true) (ha : SimA X (e :: es) fa)
    (hdb : (x == ("__debug__" : Str)) = false := by decide) (he : starEach (e :: es) X.env = (false, eval e X.env) :: starEach es X.env := by rfl) (hpl : (backTo pos (starEach es X.env)).any (·.1) = false := by rfl) : SimE X (.Call (.Name x p) (e :: es) [] pos) (eS g fa) := by
  refine peI (pe_callR F hr hg hm hk ha hdb he hpl) fun σ H Q ⟨B, μ, st, env, v, st', s, rE, e, k⟩ => ?_
  unfold eS at e
  split at e
  · rename_i as st1 h1
    exact RdA.go s rE h1 fun xs H1 μ1 s1 l1 r1 => ⟨B, μ1, st1, as, v, st', s1, r1, e, Got_mono k l1⟩
  · cases e
theorem simE_callP {k : Nat} {f : Addr} {g : GA} {x : Str} (F : Prom X k f g) (hr : Room k X.A) (hg : Gl X x) (hm : X.mg x = some (.ref f)) (hk : PySem.W.keepIn X.K (.ref f) = true) (ha : SimA X (e :: es) fa)
    (hdb : (x == ("__debug__" : Str)) = false := by decide) (he : starEach (e :: es) X.env = (false, eval e X.env) :: starEach es X.env := by rfl) (hpl : (backTo pos (starEach es X.env)).any (·.1) = false := by rfl) : SimE X (.Call (.Name x p) (e :: es) [] pos) (eP g fa) := by
  refine peI (pe_callR F hr hg hm hk ha hdb he hpl) fun σ H Q ⟨B, μ, st, env, v, st', s, rE, e, k⟩ => ?_
  unfold eP at e
  split at e
  · rename_i as st1 h1
    split at e
    · rename_i hp
      split at e
      · rename_i w st2 h2
        split at e
        · rename_i hv
          cases e
          exact RdA.go s rE h1 fun xs H1 μ1 s1 l1 r1 => pure_go s1 r1 hp h2 hv (Got_mono k l1)
        · cases e
      · cases e
    · cases e
  · cases e
theorem simE_callS0 {k : Nat} {f : Addr} {g : GA} {x : Str} (F : Prom X k f g) (hr : Room k X.A) (hg : Gl X x) (hm : X.mg x = some (.ref f)) (hk : PySem.W.keepIn X.K (.ref f) = true)
    (hdb : (x == ("__debug__" : Str)) = false := by decide) : SimE X (.Call (.Name x p) [] [] pos) (eS g aNil) := by
  refine peI (pe_callR0 F hr hg hm hk hdb) fun σ H Q ⟨B, μ, st, env, v, st', s, rE, e, k⟩ => ?_
  simp only [eS, aNil] at e
  exact ⟨B, μ, st, [], v, st', s, .nil, e, k⟩
theorem simE_callP0 {k : Nat} {f : Addr} {g : GA} {x : Str} (F : Prom X k f g) (hr : Room k X.A) (hg : Gl X x) (hm : X.mg x = some (.ref f)) (hk : PySem.W.keepIn X.K (.ref f) = true)
    (hdb : (x == ("__debug__" : Str)) = false := by decide) : SimE X (.Call (.Name x p) [] [] pos) (eP g aNil) := by
  refine peI (pe_callR0 F hr hg hm hk hdb) fun σ H Q ⟨B, μ, st, env, v, st', s, rE, e, k⟩ => ?_
  simp only [eP, aNil, PV.pures, if_true] at e
  split at e
  · rename_i w st2 h2
    split at e
    · rename_i hv
      cases e
      exact pure_go s .nil rfl h2 hv k
    · cases e
  · cases e

/-! ### instances -/
def lookP (fs : List (Str × PV)) (f : Str) : Option PV := fs.lookup f
def icell (n : Nat) (st : Store) : Option (Addr × List (Str × PV)) := match st[n]? with
  | some (.ins C fs) => some (C, fs)
  | _ => none
theorem icell_at {n : Nat} {st : Store} {C : Addr} {fs : List (Str × PV)} (h : icell n st = some (C, fs)) : st[n]? = some (.ins C fs) := by
  unfold icell at h
  split at h
  · rename_i C' ys e; cases h; exact e
  · cases h
theorem RepKs.look {K : PySem.W.Frag} {B : Addr → Prop} {μ : Mu} {H : Hp} : ∀ {gs : List (Str × V)} {fs : List (Str × PV)} (f : Str), RepKs K B μ H gs fs → (fs.lookup f = none ∧ gs.lookup f = none) ∨ ∃ v p, fs.lookup f = some p ∧ gs.lookup f = some v ∧ RepV K B μ H v p
  | _, _, f, .nil => .inl ⟨rfl, rfl⟩
  | (k, v) :: gs, (k', p) :: fs, f, .cons ⟨e, r⟩ t => by
    have e' : k = k' := e
    subst e'
    by_cases h : f == k
    · exact .inr ⟨v, p, by simp [List.lookup_cons, h], by simp [List.lookup_cons, h], r⟩
    · have h' : (f == k) = false := by simpa using h
      rcases RepKs.look f t with ⟨h1, h2⟩ | ⟨v', p', h1, h2, r2⟩
      · exact .inl ⟨by simp [List.lookup_cons, h', h1], by simp [List.lookup_cons, h', h2]⟩
      · exact .inr ⟨v', p', by simp [List.lookup_cons, h', h1], by simp [List.lookup_cons, h', h2], r2⟩
/-- o.f -/
def eFld (C : Addr) (fn : Str) (f : FE) : FE := fun env st => match f env st with
  | some (.loc n, st1) => (match icell n st1 with
    | some (C', fs) => if C' = C then (match fs.lookup fn with
      | some v => some (v, st1)
      | none => none) else none
    | none => none)
  | _ => none
theorem simE_fld {C : Addr} {fn : Str} (c : Cls X.K C) (n : NoAttr X.K C fn) (he : SimE X e f) (hb : attributeBase e fn X.env (eval e X.env) = eval e X.env := by rfl) : SimE X (.Attribute e fn pos) (eFld C fn f) := by
  refine peI (pe_fld he hb) fun σ H Q ⟨B, μ, st, env, v, st', s, rE, e, k⟩ => ?_
  unfold eFld at e
  split at e
  · rename_i m st1 h1
    split at e
    · rename_i C' fs h2
      split at e
      · rename_i hC
        subst hC
        split at e
        · rename_i w h3
          cases e
          refine Rd.go s rE h1 fun x H1 μ1 s1 l1 r1 => ?_
          obtain ⟨a, rfl, hm, dx, gs, ha, ra⟩ := s1.loc r1 (icell_at h2) (by simp)
          rcases ra.look fn with ⟨q, _⟩ | ⟨u, p, q1, q2, r2⟩
          · rw [h3] at q; cases q
          · rw [h3] at q1; cases q1
            exact ⟨a, _, dx, gs, u, rfl, ha, c, n, q2, k u H1 μ1 s1 l1 r2⟩
        · cases e
      · cases e
    · cases e
  · cases e
def putFP (f : Str) (v : PV) : List (Str × PV) → List (Str × PV)
  | [] => [(f, v)]
  | (g, x) :: r => if g = f then (g, v) :: r else (g, x) :: putFP f v r
theorem RepKs.putF {K : PySem.W.Frag} {B : Addr → Prop} {μ : Mu} {H : Hp} {f : Str} {v : V} {p : PV} (rv : RepV K B μ H v p) : ∀ {gs : List (Str × V)} {fs : List (Str × PV)}, RepKs K B μ H gs fs → RepKs K B μ H (L2.putF f v gs) (putFP f p fs)
  | _, _, .nil => .cons ⟨rfl, rv⟩ .nil
  | (k, w) :: gs, (k', q) :: fs, .cons ⟨e, r⟩ t => by
    have e' : k = k' := e
    subst e'
    unfold L2.putF putFP
    by_cases h : k = f
    · rw [if_pos h, if_pos h]
      exact .cons ⟨rfl, rv⟩ t
    · rw [if_neg h, if_neg h]
      exact .cons ⟨rfl, r⟩ (RepKs.putF rv t)
theorem RepKs.length {κ : Type} {K : PySem.W.Frag} {B : Addr → Prop} {μ : Mu} {H : Hp} {gs : List (κ × V)} {fs : List (κ × PV)} (r : RepKs K B μ H gs fs) : gs.length = fs.length := Paired.length r
/-- o.m(..) -/
def eM (C : Addr) (m : Str) (g : GA) (f : FE) (fa : FA) : FE := fun env st => match f env st with
  | some (.loc n, st1) => (match icell n st1 with
    | some (C', fs) => if C' = C ∧ fs.lookup m = none then (match fa env st1 with
      | some (as, st2) => g (.loc n :: as) st2
      | none => none) else none
    | none => none)
  | _ => none
theorem simE_meth {k : Nat} {C fm : Addr} {m : Str} {g : GA} {pl : Sem Bool} (c : Cls X.K C) (hm : Meth X.K C m fm) (F : Prom X k fm g) (hr : Room k X.A) (ho : SimE X o fo) (ha : SimA X (e :: es) fa)
    (hst : starEach (e :: es) X.env = (false, eval e X.env) :: starEach es X.env := by rfl) (hpl : (backTo pos (starEach es X.env)).any (·.1) = false := by rfl)
    (ht : eval (.Call (.Attribute o m apos) (e :: es) [] pos) X.env = (do
      let ov ← eval o X.env
      standAt apos.atName
      let (f, first) ← holding [ov] (getMethod ov m pl)
      callWith pos f first (backTo pos (starEach (e :: es) X.env)) (backToKw pos (keywordEach [] X.env))) := by rfl) : SimE X (.Call (.Attribute o m apos) (e :: es) [] pos) (eM C m g fo fa) := by
  refine peI (pe_methR ho c hm F hr L2.pass0 ha hst hpl ht) fun σ H Q ⟨B, μ, st, env, v, st', s, rE, e, k⟩ => ?_
  unfold eM at e
  split at e
  · rename_i n st1 h1
    split at e
    · rename_i C' fs h2
      split at e
      · rename_i hC
        obtain ⟨rfl, hl⟩ := hC
        split at e
        · rename_i as st2 h3
          refine Rd.go s rE h1 fun x H1 μ1 s1 l1 r1 => ?_
          obtain ⟨a, rfl, hm, dx, gs, ha, ra⟩ := s1.loc r1 (icell_at h2) (by simp)
          rcases ra.look m with ⟨_, q⟩ | ⟨u, p, q1, q2, r2⟩
          · exact ⟨a, dx, gs, rfl, ha, q, RdA.go s1 (rE.mono l1) h3 fun xs H2 μ2 s2 l2 r2 => ⟨B, μ2, st2, _, v, st', s2, .cons (r1.mono l2) r2, e, Got_mono k (l1.trans l2)⟩⟩
          · rw [hl] at q1; cases q1
        · cases e
      · cases e
    · cases e
  · cases e
/-- C(..) -/
def eNew (C : Addr) (g : GA) (fa : FA) : FE := fun env st => match fa env st with
  | some (as, st1) => (match g (.loc st1.length :: as) (st1 ++ [.ins C []]) with
    | some (.non, st2) => some (.loc st1.length, st2)
    | _ => none)
  | none => none
theorem simE_new {k : Nat} {C fi : Addr} {fd : FuncData} {ps : List Str} {g : GA} {x : Str} (M : Mk X.K C fi) (F : FnOk X.prog X.w X.K X.mg X.base L2.CX0 k fi fd ps (spF X.K g)) (hr : Room (k + 1) X.A) (hg : Gl X x) (hm : X.mg x = some (.ref C)) (hb : Binds X.K fd ps [])
    (ha : SimA X (e :: es) fa) (hdb : (x == ("__debug__" : Str)) = false := by decide) (he : starEach (e :: es) X.env = (false, eval e X.env) :: starEach es X.env := by rfl) (hpl : (backTo pos (starEach es X.env)).any (·.1) = false := by rfl) : SimE X (.Call (.Name x p) (e :: es) [] pos) (eNew C g fa) := by
  refine peI (pe_make M F hr hg hm hb .nil L2.pass0 ha hdb he hpl) fun σ H Q ⟨B, μ, st, env, v, st', s, rE, e, k⟩ => ?_
  unfold eNew at e
  split at e
  · rename_i as st1 h1
    split at e
    · rename_i st2 h2
      have e1 : v = .loc st1.length := by cases e; rfl
      have e2 : st' = st2 := by cases e; rfl
      subst e1 e2
      refine RdA.go s rE h1 fun xs H1 μ1 s1 l1 r1 => fun xa dx hx hdx hne => ?_
      have hx' : upd H1 dx (.own xa) xa = none := by rw [upd_ne (fun q => hne q.symm)]; exact hx
      have sA := sim_new (o := .own xa) s1 hdx
      have lA := le_new (o := HO.own xa) s1 hdx
      have lB := le_cell (o := HO.ins C dx []) sA hx'
      have sB := sim_cell (c := .ins C []) sA hx' ⟨dx, [], upd_same, .nil⟩
      refine ⟨B, μ1 ++ [some xa], st1 ++ [.ins C []], _, _, st', sB, ?_, h2, fun z H3 μ3 s3 l3 r3 => ?_⟩
      · rw [List.append_nil]
        exact .cons (rep_loc sA) (r1.mono (lA.trans lB))
      · refine ⟨r3.non_inv, k _ H3 μ3 s3 (l1.trans (lA.trans (lB.trans l3))) ((rep_loc (H' := upd (upd H1 dx (.own xa)) xa (.ins C dx [])) sA).mono l3)⟩
    · cases e
  · cases e
end
end L3
end
section
set_option Elab.async false
set_option linter.all false
set_option maxRecDepth 100000
namespace L3
open PySem PySem.Spec PyProof.Rows L2

/-! ### statements -/
def sNx : FS := fun env st => some (.nx, env, st)
def sStuck : FS := fun _ _ => none
def sBk : FS := fun env st => some (.bk, env, st)
def sCt : FS := fun env st => some (.ct, env, st)
def sSeq (a b : FS) : FS := fun env st => match a env st with
  | some (.nx, env1, st1) => b env1 st1
  | r => r
def sSet (i : Nat) (f : FE) : FS := fun env st => match f env st with
  | some (v, st1) => some (.nx, env.set i (some v), st1)
  | none => none
def sEx (f : FE) : FS := fun env st => match f env st with
  | some (_, st1) => some (.nx, env, st1)
  | none => none
def sRet (f : FE) : FS := fun env st => match f env st with
  | some (v, st1) => some (.ret v, env, st1)
  | none => none
def sRetN : FS := fun env st => some (.ret .non, env, st)
def sIf (t : FT) (a b : FS) : FS := fun env st => match t env st with
  | some (true, st1) => a env st1
  | some (false, st1) => b env st1
  | none => none
section
variable {X : Cx} {pos pos' : Pos} {e o : Expr} {f fo : FE} {s : Stmt} {rest ss : List Stmt} {a b : FS}
theorem GotS.nx {K : PySem.W.Frag} {B : Addr → Prop} {μ : Mu} {H : Hp} {env' : EnvP} {st' : Store} {D : Ends} {σ : L2.St} (g : GotS K B μ H .nx env' st' D) (s : Sim K B μ st' H) (r : RepE K B μ H σ env') : D.nx σ H := g σ H μ s (Le.refl _ _) r
theorem GotS_mono {K : PySem.W.Frag} {B : Addr → Prop} {μ μ' : Mu} {H H' : Hp} {fl : Fl} {env' : EnvP} {st' : Store} {D : Ends} (g : GotS K B μ H fl env' st' D) (l : Le μ H μ' H') : GotS K B μ' H' fl env' st' D := fun σ' H2 μ2 s l2 r => g σ' H2 μ2 s (l.trans l2) r
theorem RdS.go {K : PySem.W.Frag} {B : Addr → Prop} {μ : Mu} {H : Hp} {σ : L2.St} {env env' : EnvP} {st st' : Store} {fl : Fl} {f : FS} {D : Ends} (s : Sim K B μ st H) (r : RepE K B μ H σ env) (e : f env st = some (fl, env', st')) (k : GotS K B μ H fl env' st' D) : RdS K f D σ H := ⟨B, μ, st, env, fl, env', st', s, r, e, k⟩
theorem simSs_nil : SimSs X [] sNx := by
  refine pssI pss_nil fun D σ H ⟨B, μ, st, env, fl, env', st', s, r, e, k⟩ => ?_
  cases e
  exact k.nx s r
theorem sSeq_cases {a b : FS} {env env' : EnvP} {st st' : Store} {fl : Fl} (e : sSeq a b env st = some (fl, env', st')) :
    (∃ env1 st1, a env st = some (.nx, env1, st1) ∧ b env1 st1 = some (fl, env', st')) ∨ (fl ≠ .nx ∧ a env st = some (fl, env', st')) := by
  unfold sSeq at e
  split at e
  · rename_i env1 st1 h1
    exact .inl ⟨env1, st1, h1, e⟩
  · rename_i h1
    refine .inr ⟨fun q => ?_, e⟩
    subst q
    exact h1 _ _ e
theorem simSs_cons (h1 : SimS X s a) (h2 : SimSs X rest b) : SimSs X (s :: rest) (sSeq a b) := by
  refine pssI (pss_cons h1 h2) fun D σ H ⟨B, μ, st, env, fl, env', st', s, r, e, k⟩ => ?_
  rcases sSeq_cases e with ⟨env1, st1, e1, e2⟩ | ⟨hf, e1⟩
  · exact RdS.go s r e1 fun σ1 H1 μ1 s1 l1 r1 => RdS.go s1 r1 e2 (GotS_mono k l1)
  · refine RdS.go s r e1 fun σ1 H1 μ1 s1 l1 r1 => ?_
    have q := k σ1 H1 μ1 s1 l1 r1
    cases fl with
    | nx => exact absurd rfl hf
    | ret v => exact q
    | bk => exact q
    | ct => exact q
theorem simSs_one (h1 : SimS X s a) : SimSs X [s] a := pss_one h1
theorem simS_pass : SimS X (.Pass pos) sNx := by
  refine psI ps_pass fun D σ H ⟨B, μ, st, env, fl, env', st', s, r, e, k⟩ => ?_
  cases e
  exact k.nx s r
theorem simS_break : SimS X (.Break pos) sBk := by
  refine psI ps_break fun D σ H ⟨B, μ, st, env, fl, env', st', s, r, e, k⟩ => ?_
  cases e
  exact k σ H μ s (Le.refl _ _) r
theorem simS_continue : SimS X (.Continue pos) sCt := by
  refine psI ps_continue fun D σ H ⟨B, μ, st, env, fl, env', st', s, r, e, k⟩ => ?_
  cases e
  exact k σ H μ s (Le.refl _ _) r
theorem simS_never : SimS X s sStuck := psI ps_never fun D σ H ⟨_, _, _, _, _, _, _, _, _, e, _⟩ => nomatch e
theorem simSs_never : SimSs X ss sStuck := pssI pss_never fun D σ H ⟨_, _, _, _, _, _, _, _, _, e, _⟩ => nomatch e
theorem simS_set {i : Nat} {x : Str} (hN : X.N.Nodup) (he : SimE X e f) (hi : X.N[i]? = some x := by rfl) (hx : Loc X.env.scope x := by first | exact Or.inl rfl | exact Or.inr rfl) (hs : swapsWith e (some (.Name x pos')) pos.line X.env = pure false := by rfl) (hf : X.fn x = true ∨ X.env.scope.names.lookup x = some .local := by first | exact .inl rfl | exact .inr rfl | assumption) :
    SimS X (.Assign [.Name x pos'] e pos) (sSet i f) := by
  refine psI (ps_set hN hi hx he hs hf) fun D σ H ⟨B, μ, st, env, fl, env', st', s, r, e, k⟩ => ?_
  unfold sSet at e
  split at e
  · rename_i v st1 h1
    cases e
    exact Rd.go s r h1 fun x H1 μ1 s1 l1 r1 => k _ H1 μ1 s1 l1 ((r.mono l1).set r1)
  · cases e
theorem simS_ex (he : SimE X e f) (hs : swapsWith e none pos.line X.env = pure false := by rfl) : SimS X (.Expr e pos) (sEx f) := by
  refine psI (ps_expr he hs) fun D σ H ⟨B, μ, st, env, fl, env', st', s, r, e, k⟩ => ?_
  unfold sEx at e
  split at e
  · rename_i v st1 h1
    cases e
    exact Rd.go s r h1 fun x H1 μ1 s1 l1 r1 => k _ H1 μ1 s1 l1 (r.mono l1)
  · cases e
theorem simS_ret (he : SimE X e f) : SimS X (.Return (some e) pos) (sRet f) := by
  refine psI (ps_ret he) fun D σ H ⟨B, μ, st, env, fl, env', st', s, r, e, k⟩ => ?_
  unfold sRet at e
  split at e
  · rename_i v st1 h1
    cases e
    exact Rd.go s r h1 fun x H1 μ1 s1 l1 r1 => k _ H1 μ1 s1 l1 (r.mono l1) x r1
  · cases e
theorem simS_retN : SimS X (.Return none pos) sRetN := by
  refine psI ps_retN fun D σ H ⟨B, μ, st, env, fl, env', st', s, r, e, k⟩ => ?_
  cases e
  exact k _ H μ s (Le.refl _ _) r _ .non
theorem simS_if {c : Expr} {x y : List Stmt} {t : FT} (hc : SimT X c t) (ha : SimSs X x a) (hb : SimSs X y b) : SimS X (.If c x y pos) (sIf t a b) := by
  refine psI (ps_if hc ha hb) fun D σ H ⟨B, μ, st, env, fl, env', st', s, r, e, k⟩ => ?_
  unfold sIf at e
  split at e
  · rename_i st1 h1
    exact RdT.go s r h1 fun H1 μ1 s1 l1 => by rw [if_pos rfl]; exact RdS.go s1 (r.mono l1) e (GotS_mono k l1)
  · rename_i st1 h1
    exact RdT.go s r h1 fun H1 μ1 s1 l1 => by rw [if_neg Bool.false_ne_true]; exact RdS.go s1 (r.mono l1) e (GotS_mono k l1)
  · cases e
/-- o.f = e -/
def sFl (C : Addr) (fn : Str) (fo f : FE) : FS := fun env st => match f env st with
  | some (v, st1) => (match fo env st1 with
    | some (.loc n, st2) => (match icell n st2 with
      | some (C', fs) => if C' = C ∧ fs.length < 1000 then some (.nx, env, st2.set n (.ins C (putFP fn v fs))) else none
      | none => none)
    | _ => none)
  | none => none
theorem simS_fld {C : Addr} {fn : Str} (c : Cls X.K C) (n : NoAttr X.K C fn) (ho : SimE X o fo) (he : SimE X e f) (hs : swapsWith e (some (.Attribute o fn pos')) pos.line X.env = pure false := by rfl) : SimS X (.Assign [.Attribute o fn pos'] e pos) (sFl C fn fo f) := by
  refine psI (ps_fld ho he hs) fun D σ H ⟨B, μ, st, env, fl, env', st', s, r, e, k⟩ => ?_
  unfold sFl at e
  split at e
  · rename_i v st1 h1
    split at e
    · rename_i m st2 h2
      split at e
      · rename_i C' fs h3
        split at e
        · rename_i hC
          obtain ⟨rfl, hl⟩ := hC
          cases e
          refine Rd.go s r h1 fun x H1 μ1 s1 l1 r1 => Rd.go s1 (r.mono l1) h2 fun y H2 μ2 s2 l2 r2 => ?_
          obtain ⟨a, rfl, hm, dx, gs, ha, ra⟩ := s2.loc r2 (icell_at h3) (by simp)
          have l := le_upd (H := H2) (o := .ins C' dx (L2.putF fn x gs)) hm
          exact ⟨a, C', dx, gs, rfl, ha, c, n, by rw [ra.length]; exact hl, k σ _ μ2 (sim_upd s2 hm ⟨dx, _, upd_same, (ra.putF (r1.mono l2)).mono l⟩) (l1.trans (l2.trans l)) (r.mono (l1.trans (l2.trans l)))⟩
        · cases e
      · cases e
    · cases e
  · cases e

/-! ### targets -/
abbrev GT := PV → EnvP → Option EnvP
abbrev GTs := List PV → EnvP → Option EnvP
def tN (i : Nat) : GT := fun p env => some (env.set i (some p))
def tT (n : Nat) (g : GTs) : GT := fun p env => match p with
  | .tup xs => if xs.length = n then g xs env else none
  | _ => none
def tNil : GTs := fun ps env => match ps with
  | [] => some env
  | _ => none
def tCons (t : GT) (g : GTs) : GTs := fun ps env => match ps with
  | p :: r => (match t p env with
    | some env1 => g r env1
    | none => none)
  | [] => none
/-- only some slots differ -/
def OnlyIn (S : List Nat) (σ σ' : L2.St) : Prop := σ'.length = σ.length ∧ ∀ j, j ∉ S → σ'[j]? = σ[j]?
def RdG (K : PySem.W.Frag) (S : List Nat) (t : GT) : L2.TG := fun v σ H Q => ∃ B μ env p env', RepE K B μ H σ env ∧ RepV K B μ H v p ∧ t p env = some env' ∧ ∀ σ', RepE K B μ H σ' env' → OnlyIn S σ σ' → Q σ' H
def RdGs (K : PySem.W.Frag) (S : List Nat) (t : GTs) : L2.TGs := fun v σ H Q => ∃ B μ env p env', RepE K B μ H σ env ∧ RepVs K B μ H v p ∧ t p env = some env' ∧ ∀ σ', RepE K B μ H σ' env' → OnlyIn S σ σ' → Q σ' H
abbrev SimG (X : Cx) (S : List Nat) (e : Expr) (t : GT) : Prop := PG X e (RdG X.K S t)
abbrev SimGs (X : Cx) (S : List Nat) (e : List Expr) (t : GTs) : Prop := PGs X e (RdGs X.K S t)
theorem pgI {X : Cx} {e : Expr} {t t' : L2.TG} (h : PG X e t) (k : ∀ v σ H Q, t' v σ H Q → t v σ H Q) : PG X e t' := ⟨fun pins s σ H v u Q I r q => h.run pins s σ H v u Q I r (k v σ H Q q)⟩
theorem pgsI {X : Cx} {e : List Expr} {t t' : L2.TGs} (h : PGs X e t) (k : ∀ v σ H Q, t' v σ H Q → t v σ H Q) : PGs X e t' := ⟨fun pins s σ H v u Q I r q => h.run pins s σ H v u Q I r (k v σ H Q q)⟩
theorem OnlyIn.refl (S : List Nat) (σ : L2.St) : OnlyIn S σ σ := ⟨rfl, fun _ _ => rfl⟩
theorem OnlyIn.trans {S T U : List Nat} {a b c : L2.St} (h1 : OnlyIn S a b) (h2 : OnlyIn T b c) (hS : ∀ i ∈ S, i ∈ U) (hT : ∀ i ∈ T, i ∈ U) : OnlyIn U a c :=
  ⟨h2.1.trans h1.1, fun j hj => (h2.2 j fun z => hj (hT j z)).trans (h1.2 j fun z => hj (hS j z))⟩
theorem simG_name {i : Nat} {x : Str} (hN : X.N.Nodup) (hi : X.N[i]? = some x := by rfl) (hx : Loc X.env.scope x := by first | exact Or.inl rfl | exact Or.inr rfl) (hf : X.fn x = true ∨ X.env.scope.names.lookup x = some .local := by first | exact .inl rfl | exact .inr rfl | assumption) : SimG X [i] (.Name x pos) (tN i) := by
  refine pgI (pg_name hN hi hx hf) fun v σ H Q ⟨B, μ, env, p, env', r, rv, e, k⟩ => ?_
  cases e
  refine k _ (r.set rv) ⟨by simp, fun j hj => ?_⟩
  rw [List.getElem?_set_ne (fun q => hj (by simp [q]))]
theorem simGs_nil : SimGs X [] [] tNil := by
  refine pgsI pgs_nil fun v σ H Q ⟨B, μ, env, p, env', r, rv, e, k⟩ => ?_
  unfold tNil at e
  split at e
  · cases e
    cases rv
    exact ⟨rfl, k σ r (OnlyIn.refl _ _)⟩
  · cases e
theorem simGs_cons {S T : List Nat} {es : List Expr} {t : GT} {g : GTs} (h1 : SimG X S e t) (h2 : SimGs X T es g) (hs : (assignEach (e :: es) X.env).map (·.2) = assign e X.env :: (assignEach es X.env).map (·.2) := by rfl) : SimGs X (S ++ T) (e :: es) (tCons t g) := by
  refine pgsI (pgs_cons h1 h2 hs) fun v σ H Q ⟨B, μ, env, p, env', r, rv, e, k⟩ => ?_
  unfold tCons at e
  split at e
  · split at e
    · rename_i env1 h1
      cases rv with
      | cons rx rr =>
        refine ⟨_, _, rfl, ⟨B, μ, env, _, env1, r, rx, h1, fun σ1 r1 o1 => ?_⟩⟩
        exact ⟨B, μ, env1, _, env', r1, rr, e, fun σ2 r2 o2 => k σ2 r2 (o1.trans o2 (by simp; intro i hi; exact .inl hi) (by simp; intro i hi; exact .inr hi))⟩
    · cases e
  · cases e
theorem simG_tup {S : List Nat} {es : List Expr} {k n : Nat} {g : GTs} (hc : X.calm = true) (h : SimGs X S es g) (hn : (assignEach es X.env).length = n := by rfl) (hst : (assignEach es X.env).findIdx? (·.1) = none := by rfl) : SimG X S (.Tuple es k pos) (tT n g) := by
  refine pgI (pg_tup hc h hn hst) fun v σ H Q ⟨B, μ, env, p, env', r, rv, e, k⟩ => ?_
  unfold tT at e
  split at e
  · split at e
    · rename_i hz
      obtain ⟨a, vs, rfl, ha, ra⟩ := rv.tup_inv
      exact ⟨a, vs, rfl, ha, by rw [ra.length]; exact hz, B, μ, env, _, env', r, ra, e, k⟩
    · cases e
  · cases e
/-- target = e -/
def sAsg (t : GT) (f : FE) : FS := fun env st => match f env st with
  | some (v, st1) => (match t v env with
    | some env1 => some (.nx, env1, st1)
    | none => none)
  | none => none
theorem simS_asg {S : List Nat} {tg : Expr} {t : GT} (he : SimE X e f) (hg : SimG X S tg t) (hs : swapsWithSole [tg] e pos.line X.env = pure false := by rfl) (hw : swappedStores [tg] e X.env = pure none := by rfl)
    (h1 : (assignEach [tg] X.env).map (·.2) = [assign tg X.env] := by rfl) : SimS X (.Assign [tg] e pos) (sAsg t f) := by
  refine psI (ps_asg he hg hs hw h1) fun D σ H ⟨B, μ, st, env, fl, env', st', s, r, e, k⟩ => ?_
  unfold sAsg at e
  split at e
  · rename_i v st1 h1
    split at e
    · rename_i env1 h2
      cases e
      exact Rd.go s r h1 fun x H1 μ1 s1 l1 r1 => ⟨B, μ1, env, v, _, r.mono l1, r1, h2, fun σ' r' _ => k σ' H1 μ1 s1 l1 r'⟩
    · cases e
  · cases e
/-- a, b = x, y and a, b, c = x, y, z of plain names -/
def sPar2 (i j : Nat) (fa : FA) : FS := fun env st => match fa env st with
  | some ([u, v], st1) => some (.nx, (env.set i (some u)).set j (some v), st1)
  | _ => none
def sPar3 (i j l : Nat) (fa : FA) : FS := fun env st => match fa env st with
  | some ([u, v, w], st1) => some (.nx, ((env.set i (some u)).set j (some v)).set l (some w), st1)
  | _ => none
theorem simS_par2 {i j : Nat} {x y : Str} {a b : Expr} {fa : FA} {px py pt : Pos} {kt k2 pt2} (hc : X.calm = true) (hN : X.N.Nodup) (ha : SimA X [a, b] fa) (hij : i ≠ j := by decide) (hi : X.N[i]? = some x := by rfl) (hj : X.N[j]? = some y := by rfl)
    (hx : X.env.scope.names.lookup x = some .local := by rfl) (hy : X.env.scope.names.lookup y = some .local := by rfl)
    (hw : swappedStores [.Tuple [.Name x px, .Name y py] kt pt] (.Tuple [a, b] k2 pt2) X.env = pure (some [x, y]) := by rfl)
    (hs : swapsWithSole [.Tuple [.Name x px, .Name y py] kt pt] (.Tuple [a, b] k2 pt2) pos.line X.env = pure false := by rfl) :
    SimS X (.Assign [.Tuple [.Name x px, .Name y py] kt pt] (.Tuple [a, b] k2 pt2) pos) (sPar2 i j fa) := by
  refine psI (ps_par hc hN hi hj hij hx hy ha hw hs) fun D σ H ⟨B, μ, st, env, fl, env', st', s, r, e, k⟩ => ?_
  unfold sPar2 at e
  split at e
  · rename_i u v st1 h1
    cases e
    refine RdA.go s r h1 fun xs H1 μ1 s1 l1 r1 => ?_
    obtain ⟨x, y, rfl, rx, ry⟩ := r1.two
    exact ⟨x, y, rfl, k _ H1 μ1 s1 l1 (((r.mono l1).set rx).set ry)⟩
  · cases e
theorem RepVs.three {K : PySem.W.Frag} {B : Addr → Prop} {μ : Mu} {H : Hp} {xs : List V} {p q u : PV} (r : RepVs K B μ H xs [p, q, u]) : ∃ x y z, xs = [x, y, z] ∧ RepV K B μ H x p ∧ RepV K B μ H y q ∧ RepV K B μ H z u := by
  cases r with
  | cons r t => cases t with
    | cons r2 t => cases t with
      | cons r3 t => cases t; exact ⟨_, _, _, rfl, r, r2, r3⟩
theorem simS_par3 {i j l : Nat} {x y z : Str} {a b c : Expr} {fa : FA} {px py pz pt : Pos} {kt k2 pt2} (hc : X.calm = true) (hN : X.N.Nodup) (ha : SimA X [a, b, c] fa) (hij : i ≠ j := by decide) (hil : i ≠ l := by decide) (hjl : j ≠ l := by decide) (hi : X.N[i]? = some x := by rfl) (hj : X.N[j]? = some y := by rfl) (hl : X.N[l]? = some z := by rfl)
    (hx : X.env.scope.names.lookup x = some .local := by rfl) (hy : X.env.scope.names.lookup y = some .local := by rfl) (hz : X.env.scope.names.lookup z = some .local := by rfl)
    (hw : swappedStores [.Tuple [.Name x px, .Name y py, .Name z pz] kt pt] (.Tuple [a, b, c] k2 pt2) X.env = pure (some [x, y, z]) := by rfl)
    (hs : swapsWithSole [.Tuple [.Name x px, .Name y py, .Name z pz] kt pt] (.Tuple [a, b, c] k2 pt2) pos.line X.env = pure false := by rfl) :
    SimS X (.Assign [.Tuple [.Name x px, .Name y py, .Name z pz] kt pt] (.Tuple [a, b, c] k2 pt2) pos) (sPar3 i j l fa) := by
  refine psI (ps_par3 hc hN hi hj hl hij hil hjl hx hy hz ha hw hs) fun D σ H ⟨B, μ, st, env, fl, env', st', s, r, e, k⟩ => ?_
  unfold sPar3 at e
  split at e
  · rename_i u v w st1 h1
    cases e
    refine RdA.go s r h1 fun xs H1 μ1 s1 l1 r1 => ?_
    obtain ⟨x, y, z, rfl, rx, ry, rz⟩ := r1.three
    exact ⟨x, y, z, rfl, k _ H1 μ1 s1 l1 ((((r.mono l1).set rx).set ry).set rz)⟩
  · cases e
end
end L3
end
section
set_option Elab.async false
set_option linter.all false
set_option maxRecDepth 100000
namespace L3
open PySem PySem.Spec PyProof.Rows L2

/-! ### what is walked: its items are known and stay -/
structure ItP (K : PySem.W.Frag) (B : Addr → Prop) (J : It) (xs : List PV) (μ1 : Mu) (H1 : Hp) : Prop where
  go : ∀ (i : Nat) (μ : Mu) (H : Hp), i < xs.length → Le μ1 H1 μ H → J.go i H
  stop : ∀ (μ : Mu) (H : Hp), Le μ1 H1 μ H → J.stop xs.length H
  yld : ∀ (B' : Addr → Prop), (∀ a, B' a → B a ∨ H1 a = none) → ∀ (i : Nat) (x : PV) (μ : Mu) (st : Store) (H : Hp) (v : V) (H' : Hp), xs[i]? = some x → Le μ1 H1 μ H → Sim K B' μ st H → J.yld i H v H' → RepV K B' μ H' v x ∧ Sim K B' μ st H' ∧ Le μ H μ H'
abbrev FI := EnvP → Store → Option (List PV × Store)
def RdI (K : PySem.W.Frag) (f : FI) : TI := fun σ H R => ∃ B μ st env xs st', Sim K B μ st H ∧ RepE K B μ H σ env ∧ f env st = some (xs, st') ∧ ∀ J H' μ', Sim K B μ' st' H' → Le μ H μ' H' → ItP K B J xs μ' H' → R J H'
abbrev SimI (X : Cx) (tg iter : Expr) (f : FI) : Prop := PI X tg iter (RdI X.K f)
theorem piI {X : Cx} {tg e : Expr} {t t' : TI} (h : PI X tg e t) (k : ∀ σ H R, t' σ H R → t σ H R) : PI X tg e t' := ⟨fun pins s σ H R I q => h.run pins s σ H R I (k σ H R q)⟩

section
variable {K : PySem.W.Frag} {B B' : Addr → Prop} {μ : Mu} {H : Hp}
mutual
theorem RepV.wide (hb : ∀ a, B' a → B a ∨ H a = none) : ∀ {v : V} {x : PV}, RepV K B μ H v x → RepV K B' μ H v x
  | _, _, .non => .non
  | _, _, .bl b => .bl b
  | _, _, .int i => .int i
  | _, _, .str x => .str x
  | _, _, .tup nb nl h r => .tup (fun z => (hb _ z).elim nb fun q => by rw [q] at h; cases h) nl h (RepVs.wide hb r)
  | _, _, .tupx nb nl d h r => .tupx (fun z => (hb _ z).elim nb fun q => by rw [q] at h; cases h) nl d h (RepVs.wide hb r)
  | _, _, .tupK a b c d e r => .tupK a b c d e (RepVs.wide hb r)
  | _, _, .lst nb nl h r => .lst (fun z => (hb _ z).elim nb fun q => by rw [q] at h; cases h) nl h (RepVs.wide hb r)
  | _, _, .ro nb nl (.inl h) => .ro (fun z => (hb _ z).elim nb fun q => by rw [q] at h; cases h) nl (.inl h)
  | _, _, .ro nb nl (.inr ⟨o, h⟩) => .ro (fun z => (hb _ z).elim nb fun q => by rw [q] at h; cases h) nl (.inr ⟨o, h⟩)
  | _, _, .roK h => .roK h
  | _, _, .loc h r => .loc h r
theorem RepVs.wide (hb : ∀ a, B' a → B a ∨ H a = none) : ∀ {vs : List V} {xs : List PV}, RepVs K B μ H vs xs → RepVs K B' μ H vs xs
  | _, _, .nil => .nil
  | _, _, .cons r rs => .cons (RepV.wide hb r) (RepVs.wide hb rs)
end
end

/-- a loop over items -/
def loop (tg : GT) (body : FS) : List PV → FS
  | [], env, st => some (.nx, env, st)
  | x :: xs, env, st => match tg x env with
    | some env1 => (match body env1 st with
      | some (.nx, env2, st2) => loop tg body xs env2 st2
      | some (.ct, env2, st2) => loop tg body xs env2 st2
      | some (.bk, env2, st2) => some (.nx, env2, st2)
      | some (.ret v, env2, st2) => some (.ret v, env2, st2)
      | none => none)
    | none => none
def sFor (it : FI) (tg : GT) (body : FS) : FS := fun env st => match it env st with
  | some (xs, st1) => loop tg body xs env st1
  | none => none
section
variable {X : Cx} {pos : Pos} {tg iter : Expr} {body : List Stmt} {it : FI} {g : GT} {b : FS} {S : List Nat}
theorem simS_for (hp : PassesOwn (model X.prog X.w) X.A X.env X.xe) (hc : X.calm = true) (hi : SimI X tg iter it) (hg : SimG X S tg g) (hb : SimSs X body b)
    (hs : ∀ x, foldedSetIterable iter X.env x = pure x := by intro _; rfl) : SimS X (.For tg iter body [] pos) (sFor it g b) := by
  refine psI (ps_for hp hc hi hg hb hs) fun D σ H ⟨B, μ, st, env, fl, env', st', s, r, e, k⟩ => ?_
  unfold sFor at e
  split at e
  · rename_i xs st1 h1
    refine ⟨B, μ, st, env, xs, st1, s, r, h1, fun J H1 μ1 s1 l1 P => ?_⟩
    refine ⟨fun i m σ H => m = xs.length - i ∧ i ≤ xs.length ∧ ∃ μ2 st2 env2, Sim X.K B μ2 st2 H ∧ Le μ1 H1 μ2 H ∧ RepE X.K B μ2 H σ env2 ∧ loop g b (xs.drop i) env2 st2 = some (fl, env', st'), ⟨xs.length, by simp, by simp, μ1, st1, env, s1, Le.refl _ _, r.mono l1, e⟩, ?_⟩
    rintro i m σ2 H2 ⟨rfl, hi, μ2, st2, env2, s2, l2, r2, e2⟩
    by_cases hlt : i < xs.length
    · right
      rw [List.drop_eq_getElem_cons hlt] at e2
      unfold loop at e2
      split at e2
      · rename_i env3 h3
        refine ⟨P.go i μ2 H2 hlt l2, fun σ' H' => ∃ μ4 st4 env4, Sim X.K B μ4 st4 H' ∧ Le μ1 H1 μ4 H' ∧ RepE X.K B μ4 H' σ' env4 ∧ loop g b (xs.drop (i + 1)) env4 st4 = some (fl, env', st'), fun σ' H' h => ⟨xs.length - (i + 1), by omega, rfl, hlt, h⟩, fun x H3 y => ?_⟩
        obtain ⟨rx, s3, l3⟩ := P.yld B (fun _ z => .inl z) i xs[i] μ2 st2 H2 x H3 (List.getElem?_eq_getElem hlt) l2 s2 y
        refine ⟨B, μ2, env2, xs[i], env3, r2.mono l3, rx, h3, fun σ3 r3 _ => ?_⟩
        split at e2
        · rename_i env4 st4 h4
          exact RdS.go s3 r3 h4 fun σ4 H4 μ4 s4 l4 r4 => ⟨μ4, st4, env4, s4, l2.trans (l3.trans l4), r4, e2⟩
        · rename_i env4 st4 h4
          exact RdS.go s3 r3 h4 fun σ4 H4 μ4 s4 l4 r4 => ⟨μ4, st4, env4, s4, l2.trans (l3.trans l4), r4, e2⟩
        · rename_i env4 st4 h4
          have e5 : fl = .nx ∧ env4 = env' ∧ st4 = st' := by cases e2; exact ⟨rfl, rfl, rfl⟩
          obtain ⟨e5, e6, e7⟩ := e5
          subst e5 e6 e7
          exact RdS.go s3 r3 h4 fun σ4 H4 μ4 s4 l4 r4 => k σ4 H4 μ4 s4 (l1.trans (l2.trans (l3.trans l4))) r4
        · rename_i v env4 st4 h4
          have e5 : fl = .ret v ∧ env4 = env' ∧ st4 = st' := by cases e2; exact ⟨rfl, rfl, rfl⟩
          obtain ⟨e5, e6, e7⟩ := e5
          subst e5 e6 e7
          exact RdS.go s3 r3 h4 fun σ4 H4 μ4 s4 l4 r4 => k σ4 H4 μ4 s4 (l1.trans (l2.trans (l3.trans l4))) r4
        · cases e2
      · cases e2
    · left
      have ei : i = xs.length := by omega
      subst ei
      rw [List.drop_length] at e2
      unfold loop at e2
      have e5 : fl = .nx ∧ env2 = env' ∧ st2 = st' := by cases e2; exact ⟨rfl, rfl, rfl⟩
      obtain ⟨e5, e6, e7⟩ := e5
      subst e5 e6 e7
      exact ⟨P.stop μ2 H2 l2, k σ2 H2 μ2 s2 (l1.trans l2) r2⟩
  · cases e

/-- while, at most so many turns -/
def wloop (t : FT) (body : FS) : Nat → FS
  | 0, _, _ => none
  | n + 1, env, st => match t env st with
    | some (false, st1) => some (.nx, env, st1)
    | some (true, st1) => (match body env st1 with
      | some (.nx, env2, st2) => wloop t body n env2 st2
      | some (.ct, env2, st2) => wloop t body n env2 st2
      | some (.bk, env2, st2) => some (.nx, env2, st2)
      | some (.ret v, env2, st2) => some (.ret v, env2, st2)
      | none => none)
    | none => none
theorem simS_while (n : Nat) {c : Expr} {t : FT} (hp : PassesOwn (model X.prog X.w) X.A X.env X.xe) (hc : SimT X c t) (hb : SimSs X body b) : SimS X (.While c body [] pos) (wloop t b n) := by
  refine psI (ps_while hp hc hb) fun D σ H ⟨B, μ, st, env, fl, env', st', s, r, e, k⟩ => ?_
  refine ⟨fun m σ H2 => ∃ μ2 st2 env2, Sim X.K B μ2 st2 H2 ∧ Le μ H μ2 H2 ∧ RepE X.K B μ2 H2 σ env2 ∧ wloop t b m env2 st2 = some (fl, env', st'), ⟨n, μ, st, env, s, Le.refl _ _, r, e⟩, ?_⟩
  rintro m σ2 H2 ⟨μ2, st2, env2, s2, l2, r2, e2⟩
  cases m with
  | zero => unfold wloop at e2; cases e2
  | succ m =>
    unfold wloop at e2
    split at e2
    · rename_i st3 h3
      have e5 : fl = .nx ∧ env2 = env' ∧ st3 = st' := by cases e2; exact ⟨rfl, rfl, rfl⟩
      obtain ⟨e5, e6, e7⟩ := e5
      subst e5 e6 e7
      exact RdT.go s2 r2 h3 fun H3 μ3 s3 l3 => by rw [if_neg Bool.false_ne_true]; exact k σ2 H3 μ3 s3 (l2.trans l3) (r2.mono l3)
    · rename_i st3 h3
      refine RdT.go s2 r2 h3 fun H3 μ3 s3 l3 => ?_
      rw [if_pos rfl]
      refine ⟨fun σ' H' => ∃ μ4 st4 env4, Sim X.K B μ4 st4 H' ∧ Le μ H μ4 H' ∧ RepE X.K B μ4 H' σ' env4 ∧ wloop t b m env4 st4 = some (fl, env', st'), fun σ' H' h => ⟨m, Nat.lt_succ_self m, h⟩, ?_⟩
      split at e2
      · rename_i env4 st4 h4
        exact RdS.go s3 (r2.mono l3) h4 fun σ4 H4 μ4 s4 l4 r4 => ⟨μ4, st4, env4, s4, l2.trans (l3.trans l4), r4, e2⟩
      · rename_i env4 st4 h4
        exact RdS.go s3 (r2.mono l3) h4 fun σ4 H4 μ4 s4 l4 r4 => ⟨μ4, st4, env4, s4, l2.trans (l3.trans l4), r4, e2⟩
      · rename_i env4 st4 h4
        have e5 : fl = .nx ∧ env4 = env' ∧ st4 = st' := by cases e2; exact ⟨rfl, rfl, rfl⟩
        obtain ⟨e5, e6, e7⟩ := e5
        subst e5 e6 e7
        exact RdS.go s3 (r2.mono l3) h4 fun σ4 H4 μ4 s4 l4 r4 => k σ4 H4 μ4 s4 (l2.trans (l3.trans l4)) r4
      · rename_i v env4 st4 h4
        have e5 : fl = .ret v ∧ env4 = env' ∧ st4 = st' := by cases e2; exact ⟨rfl, rfl, rfl⟩
        obtain ⟨e5, e6, e7⟩ := e5
        subst e5 e6 e7
        exact RdS.go s3 (r2.mono l3) h4 fun σ4 H4 μ4 s4 l4 r4 => k σ4 H4 μ4 s4 (l2.trans (l3.trans l4)) r4
      · cases e2
    · cases e2

/-! ### comprehensions: a list that nobody changes -/
def wipeP (env : EnvP) : List Nat → EnvP
  | [] => env
  | v :: vs => (wipeP env vs).set v none
theorem wipe_rep {K : PySem.W.Frag} {B : Addr → Prop} {μ : Mu} {H : Hp} {σ : L2.St} {env : EnvP} (r : RepE K B μ H σ env) : ∀ vs : List Nat, RepE K B μ H (wipe σ vs) (wipeP env vs)
  | [] => r
  | v :: vs => by
    have ih := wipe_rep r vs
    refine ⟨by simp [wipe, wipeP, ih.1], fun i p e => ?_⟩
    unfold wipeP at e
    unfold wipe
    by_cases h : v = i
    · subst h
      have hi : v < (wipeP env vs).length := by
        have := (List.getElem?_eq_some_iff.mp e).1
        simpa using this
      rw [List.getElem?_set_self hi] at e
      cases e
    · rw [List.getElem?_set_ne h] at e
      obtain ⟨u, hu, ru⟩ := ih.2 i p e
      exact ⟨u, by rw [List.getElem?_set_ne h]; exact hu, ru⟩
theorem wipe_get {σ : L2.St} {i : Nat} : ∀ {vs : List Nat}, (wipe σ vs)[i]? = if i ∈ vs ∧ i < σ.length then some none else σ[i]?
  | [] => by simp [wipe]
  | v :: vs => by
    unfold wipe
    by_cases h : v = i
    · subst h
      by_cases hl : v < σ.length
      · rw [List.getElem?_set_self (by rw [wipe_length]; exact hl), if_pos ⟨by simp, hl⟩]
      · rw [List.getElem?_eq_none (by simp [wipe_length]; omega), if_neg (fun q => hl q.2), List.getElem?_eq_none (by omega)]
    · rw [List.getElem?_set_ne h, wipe_get (vs := vs)]
      have : i ∈ v :: vs ↔ i ∈ vs := by simp [Ne.symm h]
      simp only [this]
theorem wipe_only {S vs : List Nat} {σ σ' : L2.St} (o : OnlyIn S σ σ') (h : ∀ i ∈ S, i ∈ vs) : wipe σ' vs = wipe σ vs := by
  refine List.ext_getElem? fun i => ?_
  rw [wipe_get, wipe_get, o.1]
  by_cases hi : i ∈ vs
  · by_cases hl : i < σ.length
    · rw [if_pos ⟨hi, hl⟩, if_pos ⟨hi, hl⟩]
    · rw [if_neg (fun q => hl q.2), if_neg (fun q => hl q.2), List.getElem?_eq_none (by rw [o.1]; omega), List.getElem?_eq_none (by omega)]
  · rw [if_neg (fun q => hi q.1), if_neg (fun q => hi q.1)]
    exact o.2 i fun q => hi (h i q)
theorem wipe_wipe {σ : L2.St} {vs : List Nat} : wipe (wipe σ vs) vs = wipe σ vs := by
  refine List.ext_getElem? fun i => ?_
  rw [wipe_get, wipe_length]
  by_cases hi : i ∈ vs
  · by_cases hl : i < σ.length
    · rw [if_pos ⟨hi, hl⟩, wipe_get, if_pos ⟨hi, hl⟩]
    · rw [if_neg (fun q => hl q.2)]
  · rw [if_neg (fun q => hi q.1)]
def comp (tg : GT) (t : FT) (f : FE) (env0 : EnvP) : List PV → List PV → Store → Option (List PV × Store)
  | [], acc, st => some (acc, st)
  | x :: xs, acc, st => match tg x env0 with
    | some env1 => (match t env1 st with
      | some (true, st1) => (match f env1 st1 with
        | some (y, st2) => if acc.length < sizeLine then comp tg t f env0 xs (acc ++ [y]) st2 else none
        | none => none)
      | some (false, st1) => comp tg t f env0 xs acc st1
      | none => none)
    | none => none
def tYes : FT := fun _ st => some (true, st)
def eLc (it : FI) (tg : GT) (t : FT) (f : FE) (vs : List Nat) : FE := fun env st => match it env st with
  | some (xs, st1) => (match comp tg t f (wipeP env vs) xs [] st1 with
    | some (ys, st2) => some (.lst ys, st2)
    | none => none)
  | none => none
abbrev SimTs (X : Cx) (es : List Expr) (f : FT) : Prop := PTs X es (RdT X.K f)
theorem simTs_nil : SimTs X [] tYes := ⟨fun pins s σ H Q I ⟨B, μ, st, env, v, st', s', r, e, k⟩ => by
  cases e
  exact pts_nil.run pins s σ H Q I (k H μ s' (Le.refl _ _))⟩
theorem simTs_one {c : Expr} {t : FT} (h : SimT X c t) : SimTs X [c] t := pts_one h
theorem lc_go {tt : FT} {te : FE} {vs : List Nat} (hS : ∀ i ∈ S, i ∈ vs) {σ : L2.St} {H : Hp} {Q : VK} (h : Rd X.K (eLc it g tt te vs) σ H Q) : tLc (RdI X.K it) (RdG X.K S g) (RdT X.K tt) (Rd X.K te) vs σ H Q := by
  obtain ⟨B, μ, st, env, v, st', s, r, e, k⟩ := h
  unfold eLc at e
  split at e
  · rename_i xs st1 h1
    split at e
    · rename_i ys st2 h2
      cases e
      refine ⟨B, μ, st, env, xs, st1, s, r, h1, fun J H1 μ1 s1 l1 P D hD => ?_⟩
      have lD : Le μ1 H1 μ1 (upd H1 D (.lst [])) := le_new s1 hD
      refine ⟨fun i m H2 => m = xs.length - i ∧ i ≤ xs.length ∧ ∃ μ2 stt acc accV, Sim X.K (plus B D) μ2 stt H2 ∧ Le μ1 H1 μ2 H2 ∧ H2 D = some (.lst accV) ∧ ¬ live μ2 D ∧ RepVs X.K (plus B D) μ2 H2 accV acc ∧ RepE X.K (plus B D) μ2 H2 (wipe σ vs) (wipeP env vs) ∧ comp g tt te (wipeP env vs) (xs.drop i) acc stt = some (ys, st'),
        ⟨xs.length, by simp, by simp, μ1, st1, [], [], s1.plus hD, lD, upd_same, s1.not_live hD, .nil, ?_, h2⟩, ?_⟩
      · have r1 := wipe_rep (r.mono l1) vs
        refine ⟨r1.1, fun i p e => ?_⟩
        obtain ⟨u, hu, ru⟩ := r1.2 i p e
        exact ⟨u, hu, (ru.plus hD).off fun a o n e => by rw [upd_ne (fun q => n (.inr q))]; exact e⟩
      · rintro i m H2 ⟨rfl, hi, μ2, stt, acc, accV, s2, l2, hD2, nl2, ra, rE, e2⟩
        by_cases hlt : i < xs.length
        · right
          rw [List.drop_eq_getElem_cons hlt] at e2
          unfold comp at e2
          split at e2
          · rename_i env3 h3
            refine ⟨P.go i μ2 H2 hlt l2, fun H' => ∃ μ4 st4 acc4 accV4, Sim X.K (plus B D) μ4 st4 H' ∧ Le μ1 H1 μ4 H' ∧ H' D = some (.lst accV4) ∧ ¬ live μ4 D ∧ RepVs X.K (plus B D) μ4 H' accV4 acc4 ∧ RepE X.K (plus B D) μ4 H' (wipe σ vs) (wipeP env vs) ∧ comp g tt te (wipeP env vs) (xs.drop (i + 1)) acc4 st4 = some (ys, st'),
              fun H' h => ⟨xs.length - (i + 1), by omega, rfl, hlt, h⟩, fun x H3 y => ?_⟩
            obtain ⟨rx, s3, l3⟩ := P.yld (plus B D) (fun a z => z.imp id fun q => by rw [q]; exact hD) i xs[i] μ2 stt H2 x H3 (List.getElem?_eq_getElem hlt) l2 s2 y
            refine ⟨plus B D, μ2, wipeP env vs, xs[i], env3, rE.mono l3, rx, h3, fun σ3 r3 o3 => ⟨?_, ?_⟩⟩
            · have := wipe_only o3 hS
              rw [wipe_wipe] at this
              exact this
            · split at e2
              · rename_i st4 h4
                refine RdT.go s3 r3 h4 fun H4 μ4 s4 l4 => ?_
                rw [if_pos rfl]
                split at e2
                · rename_i w st5 h5
                  split at e2
                  · rename_i hz
                    refine Rd.go s4 (r3.mono l4) h5 fun u H5 μ5 s5 l5 r5 => ?_
                    have lx := l3.trans (l4.trans l5)
                    obtain ⟨hD5, nl5⟩ := lx.keep D _ hD2 nl2
                    have ra5 := ra.mono lx
                    have off : ∀ a o, ¬ plus B D a → H5 a = some o → upd H5 D (.lst (accV ++ [u])) a = some o := fun a o n e => by rw [upd_ne (fun q => n (.inr q))]; exact e
                    refine ⟨accV, hD5, by rw [ra.length]; exact hz, μ5, st5, acc ++ [w], accV ++ [u], ?_, ?_, upd_same, nl5, (ra5.append (.cons r5 .nil)).off off, ?_, e2⟩
                    · refine s5.off off fun a z => ?_
                      by_cases h : a = D
                      · subst h; exact ⟨_, upd_same⟩
                      · obtain ⟨o, ho⟩ := s5.occ a z
                        exact ⟨o, by rw [upd_ne h]; exact ho⟩
                    · have lt := l2.trans lx
                      exact ⟨lt.grow, lt.back, fun a o e n => ⟨by rw [upd_ne (ne_of_none e hD)]; exact (lt.keep a o e n).1, (lt.keep a o e n).2⟩⟩
                    · have r6 := rE.mono lx
                      exact ⟨r6.1, fun i p e => let ⟨v, h, q⟩ := r6.2 i p e; ⟨v, h, q.off off⟩⟩
                  · cases e2
                · cases e2
              · rename_i st4 h4
                refine RdT.go s3 r3 h4 fun H4 μ4 s4 l4 => ?_
                rw [if_neg Bool.false_ne_true]
                have lx := l3.trans l4
                obtain ⟨hD4, nl4⟩ := lx.keep D _ hD2 nl2
                exact ⟨μ4, st4, acc, accV, s4, l2.trans lx, hD4, nl4, ra.mono lx, rE.mono lx, e2⟩
              · cases e2
          · cases e2
        · left
          have ei : i = xs.length := by omega
          subst ei
          rw [List.drop_length] at e2
          unfold comp at e2
          have e5 : acc = ys ∧ stt = st' := by cases e2; exact ⟨rfl, rfl⟩
          obtain ⟨e5, e6⟩ := e5
          subst e5 e6
          refine ⟨P.stop μ2 H2 l2, k _ H2 μ2 (s2.sub plus_sub) (l1.trans l2) (.lst ?_ nl2 hD2 (ra.sub plus_sub))⟩
          exact s1.free hD
    · cases e
  · cases e
end
end L3
end
section
set_option Elab.async false
set_option linter.all false
set_option maxRecDepth 100000
namespace L3
open PySem PySem.Spec PyProof.Rows L2

section
variable {X : Cx} {pos p : Pos} {tg iter e e2 elt : Expr} {es : List Expr} {it : FI} {g : GT} {f : FE} {fa : FA} {S : List Nat}
/-! ### comprehensions -/
theorem simE_lc {ifs : List Expr} {scope : Scope} {own : List (Str × Nat)} {tt : FT} {te : FE} (hc : X.calm = true) (hN : X.N.Nodup) (hS : ∀ i ∈ S, i ∈ own.map (·.2)) (ok : BlkOk X.N X.env.scope scope own) (hi : SimI X tg iter it)
    (hg : ∀ (s : Shared) (H : Hp) (C : Addr) (cl : List (Str × Addr)) (fp : List Addr), SimG (X.blk s H scope (compEnvC scope cl C X.env) fp) S tg g) (ht : ∀ (s : Shared) (H : Hp) (C : Addr) (cl : List (Str × Addr)) (fp : List Addr), SimTs (X.blk s H scope (compEnvC scope cl C X.env) fp) ifs tt)
    (he : ∀ (s : Shared) (H : Hp) (C : Addr) (cl : List (Str × Addr)) (fp : List Addr), SimE (X.blk s H scope (compEnvC scope cl C X.env) fp) elt te) (hs : ∀ x, foldedSetIterable iter X.env x = pure x := by intro _; rfl) :
    SimE X (.ListComp elt [⟨tg, iter, ifs, 0⟩] scope pos) (eLc it g tt te (own.map (·.2))) :=
  peI (pe_lc hc hN hi ok hg ht he hs) fun _ _ _ h => lc_go hS h
theorem simS_setLc {i : Nat} {y : Str} {py spos : Pos} {ifs : List Expr} {scope : Scope} {own : List (Str × Nat)} {tt : FT} {te : FE} (hc : X.calm = true) (hN : X.N.Nodup) (hS : ∀ i ∈ S, i ∈ own.map (·.2)) (ok : BlkOk X.N X.env.scope scope own) (hsw : swapsWith (.ListComp elt [⟨tg, iter, ifs, 0⟩] scope pos) (some (.Name y py)) spos.line X.env = pure true) (hi : SimI X tg iter it)
    (hg : ∀ (s : Shared) (H : Hp) (C : Addr) (cl : List (Str × Addr)) (fp : List Addr), SimG (X.blk s H scope (compEnvC scope cl C X.env) fp) S tg g) (ht : ∀ (s : Shared) (H : Hp) (C : Addr) (cl : List (Str × Addr)) (fp : List Addr), SimTs (X.blk s H scope (compEnvC scope cl C X.env) fp) ifs tt)
    (he : ∀ (s : Shared) (H : Hp) (C : Addr) (cl : List (Str × Addr)) (fp : List Addr), SimE (X.blk s H scope (compEnvC scope cl C X.env) fp) elt te) (hs : ∀ x, foldedSetIterable iter X.env x = pure x := by intro _; rfl)
    (hy : X.N[i]? = some y := by rfl) (hyl : X.env.scope.names.lookup y = some .local := by rfl) :
    SimS X (.Assign [.Name y py] (.ListComp elt [⟨tg, iter, ifs, 0⟩] scope pos) spos) (sSet i (eLc it g tt te (own.map (·.2)))) := by
  refine psI (ps_setLc (wi := RdI X.K it) (g := RdG X.K S g) (tt := RdT X.K tt) (te := Rd X.K te) hc hN hy hyl hsw hi ok hg ht he hs) fun D σ H ⟨B, μ, st, env, fl, env', st', s, r, e, k⟩ => ?_
  unfold sSet at e
  split at e
  · rename_i v st1 h1
    cases e
    exact lc_go hS (Rd.go s r h1 fun x H1 μ1 s1 l1 r1 => k _ H1 μ1 s1 l1 ((r.mono l1).set r1))
  · cases e

/-! ### iterators -/
/-- the signs of a text -/
def signs (z : Str) : List PV := z.cps.toList.map fun c => .str ⟨#[c]⟩
def itemsP : PV → Option (List PV)
  | .tup xs => some xs
  | .lst xs => some xs
  | .str z => some (signs z)
  | _ => none
def iSeq (f : FE) : FI := fun env st => match f env st with
  | some (p, st1) => (match itemsP p with
    | some xs => some (xs, st1)
    | none => none)
  | none => none
theorem pi_seq {te : L2.TE} (hl : PE X e te) : PI X tg e (fun σ H R => te σ H fun x H1 => (∃ a, x = .ref a ∧ (∃ xs, SqL X.K H1 a xs) ∧ R (Itl X.K a) H1) ∨ (∃ a, x = .ref a ∧ (∃ xs, SqT X.K H1 a xs) ∧ R (Itt X.K a) H1) ∨ ∃ z, x = .str z ∧ R (Its z) H1) := by
  refine ⟨fun pins s σ H R I h => ?_⟩
  refine thn (hl.run pins s σ H _ I h) fun v s1 ⟨x, H1, I1, r1, q1⟩ => ?_
  rcases q1 with ⟨a, e, ⟨xs, hq⟩, q⟩ | ⟨a, e, ⟨xs, hq⟩, q⟩ | ⟨x, ex, q⟩
  · subst e
    cases r1
    obtain ⟨its, rv, p, hz⟩ := I1.list hq
    refine wpAny_pyIter_list p.isList ?_
    refine ⟨s1.heap.objs.size, [s1.heap.objs.size], _, _, H1, rfl, I1.kept (t' := s1.toks) fun b o e => Heap.get?_push_of_some _ e, turn_list a _, ⟨_, Heap.get?_push_size _ rfl, rfl, rfl⟩, fun b hb => ?_, q⟩
    have e : b = s1.heap.objs.size := by simpa using hb
    subst e
    exact I1.fpOk (Nat.le_refl _) (I1.hok.fresh (Nat.le_refl _))
  · subst e
    cases r1
    obtain ⟨its, rv, p, hz⟩ := I1.tuple hq
    refine wpAny_pyIter_tuple (show s1.heap.IsTuple a its.toArray from p) ?_
    refine ⟨s1.heap.objs.size, [s1.heap.objs.size], _, _, H1, rfl, I1.kept (t' := s1.toks) fun b o e => Heap.get?_push_of_some _ e, turn_tuple a _, ⟨_, Heap.get?_push_size _ rfl, rfl, rfl⟩, fun b hb => ?_, q⟩
    have e : b = s1.heap.objs.size := by simpa using hb
    subst e
    exact I1.fpOk (Nat.le_refl _) (I1.hok.fresh (Nat.le_refl _))
  · subst ex
    obtain ⟨t, rfl⟩ := r1
    cases ha : x.cps.all (· < 128)
    · exact wpAny_pyIter_wide ha (pi_one (tk := s1.toks) I1 _ (turn_str _ x t "str_iterator" (.inr rfl)) ⟨_, Heap.get?_push_size _ rfl, rfl, rfl⟩ q)
    · exact wpAny_pyIter_ascii ha (pi_one (tk := s1.toks) I1 _ (turn_str _ x t "str_ascii_iterator" (.inl rfl)) ⟨_, Heap.get?_push_size _ rfl, rfl, rfl⟩ q)
section
variable {K : PySem.W.Frag} {B : Addr → Prop} {μ : Mu} {H : Hp} {xs ys : List PV}
theorem itP_lst {a : Addr} {vs : List V} (nl : ¬ live μ a) (ha : H a = some (.lst vs)) (r : RepVs K B μ H vs xs) : ItP K B (Itl K a) xs μ H where
  go := fun i μ2 H2 hi l => by
    obtain ⟨h2, _⟩ := l.keep a _ ha nl
    obtain ⟨v, hv, _⟩ := r.get (List.getElem?_eq_getElem hi)
    exact ⟨vs, v, SqL.of h2, hv⟩
  stop := fun μ2 H2 l => by
    obtain ⟨h2, _⟩ := l.keep a _ ha nl
    exact ⟨vs, SqL.of h2, by rw [r.length]; exact Nat.le_refl _⟩
  yld := fun B' hb i x μ2 st H2 v H3 hx l s y => by
    obtain ⟨h2, _⟩ := l.keep a _ ha nl
    obtain ⟨e, y⟩ := y
    subst e
    obtain ⟨u, hu, ru⟩ := (r.wide hb).get hx
    have q := y vs (SqL.of h2)
    rw [hu] at q; cases q
    exact ⟨ru.mono l, s, Le.refl _ _⟩
theorem sqT_keep {a : Addr} {vs : List V} {H' : Hp} {μ' : Mu} (hr : (¬ live μ a ∧ H a = some (.tup vs)) ∨ SqT K (fun _ => none) a vs) (l : Le μ H μ' H') : SqT K H' a vs := by
  rcases hr with ⟨nl, h⟩ | (h | ⟨o, h⟩) | h
  · exact SqT.of (l.keep a _ h nl).1
  · cases h
  · cases h
  · exact .inr h
theorem RepV.tup_at {x : V} (r : RepV K B μ H x (.tup xs)) : ∃ a vs, x = .ref a ∧ ((¬ live μ a ∧ H a = some (.tup vs)) ∨ SqT K (fun _ => none) a vs) ∧ RepVs K B μ H vs xs := by
  cases r with
  | tup nb nl h r => exact ⟨_, _, rfl, .inl ⟨nl, h⟩, r⟩
  | tupK a b c d e r => exact ⟨_, _, rfl, .inr (.inr ⟨_, _, _, a, b, c, d, e⟩), r⟩
theorem itP_tup {a : Addr} {vs : List V} (hr : (¬ live μ a ∧ H a = some (.tup vs)) ∨ SqT K (fun _ => none) a vs) (r : RepVs K B μ H vs xs) : ItP K B (Itt K a) xs μ H where
  go := fun i μ2 H2 hi l => by
    obtain ⟨v, hv, _⟩ := r.get (List.getElem?_eq_getElem hi)
    exact ⟨vs, v, sqT_keep hr l, hv⟩
  stop := fun μ2 H2 l => ⟨vs, sqT_keep hr l, by rw [r.length]; exact Nat.le_refl _⟩
  yld := fun B' hb i x μ2 st H2 v H3 hx l s y => by
    obtain ⟨e, y⟩ := y
    subst e
    obtain ⟨u, hu, ru⟩ := (r.wide hb).get hx
    have q := y vs (sqT_keep hr l)
    rw [hu] at q; cases q
    exact ⟨ru.mono l, s, Le.refl _ _⟩
theorem itP_str {z : Str} : ItP K B (Its z) (signs z) μ H where
  go := fun i μ2 H2 hi l => by
    have : i < z.cps.size := by simpa [signs] using hi
    exact this
  stop := fun μ2 H2 l => by
    show z.cps.size ≤ (signs z).length
    simp [signs]
  yld := fun B' hb i x μ2 st H2 v H3 hx l s y => by
    obtain ⟨e, c, hc, rfl⟩ := y
    subst e
    have : x = .str ⟨#[c]⟩ := by
      unfold signs at hx
      rw [List.getElem?_map, Array.getElem?_toList, hc] at hx
      simpa using hx.symm
    subst this
    exact ⟨.str _, s, Le.refl _ _⟩
end
theorem simI_seq (h : SimE X e f) : SimI X tg e (iSeq f) := by
  refine piI (pi_seq h) fun σ H R ⟨B, μ, st, env, xs, st', s, r, e, k⟩ => ?_
  unfold iSeq at e
  split at e
  · rename_i p st1 h1
    split at e
    · rename_i ys h2
      cases e
      refine Rd.go s r h1 fun x H1 μ1 s1 l1 r1 => ?_
      cases p <;> simp only [itemsP] at h2 <;> try cases h2
      · cases r1
        exact .inr (.inr ⟨_, rfl, k _ H1 μ1 s1 l1 itP_str⟩)
      · obtain ⟨a, vs, rfl, hr, ra⟩ := r1.tup_at
        exact .inr (.inl ⟨a, rfl, ⟨vs, sqT_keep hr (Le.refl _ _)⟩, k _ H1 μ1 s1 l1 (itP_tup hr ra)⟩)
      · cases r1 with
        | lst nb nl h r => exact .inl ⟨_, rfl, ⟨_, SqL.of h⟩, k _ H1 μ1 s1 l1 (itP_lst nl h r)⟩
    · cases e
  · cases e
/-- range(n), range(a, b) -/
def rngP (lo : Int) (n : Nat) : List PV := (List.range n).map fun i => .int (lo + (i : Nat))
def iRng1 (fa : FA) : FI := fun env st => match fa env st with
  | some ([.int j], st1) => if -(2 ^ 62) ≤ j ∧ j < 2 ^ 62 then some (rngP 0 j.toNat, st1) else none
  | _ => none
def iRng2 (fa : FA) : FI := fun env st => match fa env st with
  | some ([.int i, .int j], st1) => if -(2 ^ 62) ≤ i ∧ i < 2 ^ 62 ∧ -(2 ^ 62) ≤ j ∧ j < 2 ^ 62 then some (rngP i (j - i).toNat, st1) else none
  | _ => none
theorem itP_rng {K : PySem.W.Frag} {B : Addr → Prop} {μ : Mu} {H : Hp} {lo : Int} {n : Nat} : ItP K B (Itr lo n) (rngP lo n) μ H where
  go := fun i μ2 H2 hi l => by
    have : i < n := by simpa [rngP] using hi
    exact this
  stop := fun μ2 H2 l => by
    show n ≤ (rngP lo n).length
    simp [rngP]
  yld := fun B' hb i x μ2 st H2 v H3 hx l s y => by
    obtain ⟨e, rfl⟩ := y
    subst e
    have hi : i < n := by
      have := (List.getElem?_eq_some_iff.mp hx).1
      simpa [rngP] using this
    have : x = .int (lo + (i : Nat)) := by
      unfold rngP at hx
      rw [List.getElem?_map, List.getElem?_range hi] at hx
      simpa using hx.symm
    subst this
    exact ⟨.int _, s, Le.refl _ _⟩
theorem simI_range1 (hg : Gl X "range") (hm : X.mg "range" = none) (ha : SimA X [e] fa) (hs : starEach [e] X.env = [(false, eval e X.env)] := by rfl) : SimI X tg (.Call (.Name "range" p) [e] [] pos) (iRng1 fa) := by
  refine piI (pi_range1 hg hm ha hs) fun σ H R ⟨B, μ, st, env, xs, st', s, r, e, k⟩ => ?_
  unfold iRng1 at e
  split at e
  · rename_i j st1 h1
    split at e
    · rename_i hj
      cases e
      refine RdA.go s r h1 fun vs H1 μ1 s1 l1 r1 => ?_
      obtain ⟨x, rfl, rx⟩ := r1.one
      cases rx
      exact ⟨_, rfl, hj.1, hj.2, k _ H1 μ1 s1 l1 itP_rng⟩
    · cases e
  · cases e
theorem simI_range2 (hg : Gl X "range") (hm : X.mg "range" = none) (ha : SimA X [e, e2] fa) (hs : starEach [e, e2] X.env = [(false, eval e X.env), (false, eval e2 X.env)] := by rfl) (hs2 : starEach [e2] X.env = [(false, eval e2 X.env)] := by rfl) : SimI X tg (.Call (.Name "range" p) [e, e2] [] pos) (iRng2 fa) := by
  refine piI (pi_range2 hg hm ha hs hs2) fun σ H R ⟨B, μ, st, env, xs, st', s, r, e, k⟩ => ?_
  unfold iRng2 at e
  split at e
  · rename_i i j st1 h1
    split at e
    · rename_i hj
      cases e
      refine RdA.go s r h1 fun vs H1 μ1 s1 l1 r1 => ?_
      obtain ⟨x, y, rfl, rx, ry⟩ := r1.two
      cases rx; cases ry
      exact ⟨_, _, rfl, hj, k _ H1 μ1 s1 l1 itP_rng⟩
    · cases e
  · cases e
/-- enumerate(list), zip(tuple, tuple), zip(list, list) -/
def enumP (xs : List PV) : List PV := xs.zipIdx.map fun q => .tup [.int (q.2 : Nat), q.1]
def zipP (xs ys : List PV) : List PV := (xs.zip ys).map fun q => .tup [q.1, q.2]
def iEnm (fa : FA) : FI := fun env st => match fa env st with
  | some ([.lst xs], st1) => some (enumP xs, st1)
  | _ => none
def iZp (fa : FA) : FI := fun env st => match fa env st with
  | some ([.tup xs, .tup ys], st1) => some (zipP xs ys, st1)
  | some ([.lst xs, .lst ys], st1) => some (zipP xs ys, st1)
  | _ => none
section
variable {K : PySem.W.Frag} {B : Addr → Prop} {μ : Mu} {H : Hp} {xs ys : List PV}
theorem pair_new {B' : Addr → Prop} {T : Addr} {x y : V} {a b : PV} {st : Store} (s : Sim K B' μ st H) (hT : H T = none) (rx : RepV K B' μ H x a) (ry : RepV K B' μ H y b) : RepV K B' μ (upd H T (.tup [x, y])) (.ref T) (.tup [a, b]) ∧ Sim K B' μ st (upd H T (.tup [x, y])) ∧ Le μ H μ (upd H T (.tup [x, y])) :=
  ⟨rep_tup s hT (.cons rx (.cons ry .nil)), sim_new s hT, le_new s hT⟩
theorem itP_enm {a : Addr} {vs : List V} (nl : ¬ live μ a) (ha : H a = some (.lst vs)) (r : RepVs K B μ H vs xs) : ItP K B (Ite K a) (enumP xs) μ H where
  go := fun i μ2 H2 hi l => by
    obtain ⟨h2, _⟩ := l.keep a _ ha nl
    obtain ⟨v, hv, _⟩ := r.get (List.getElem?_eq_getElem (show i < xs.length by simpa [enumP] using hi))
    exact ⟨vs, v, SqL.of h2, hv⟩
  stop := fun μ2 H2 l => by
    obtain ⟨h2, _⟩ := l.keep a _ ha nl
    exact ⟨vs, SqL.of h2, by rw [r.length]; simp [enumP]⟩
  yld := fun B' hb i x μ2 st H2 v H3 hx l s y => by
    obtain ⟨h2, _⟩ := l.keep a _ ha nl
    obtain ⟨T, u, rfl, hT, rfl, hy⟩ := y
    have hi : i < xs.length := by
      have := (List.getElem?_eq_some_iff.mp hx).1
      simpa [enumP] using this
    have ex : x = .tup [.int (i : Nat), xs[i]] := by
      unfold enumP at hx
      rw [List.getElem?_map, List.getElem?_zipIdx, List.getElem?_eq_getElem hi] at hx
      simpa using hx.symm
    subst ex
    obtain ⟨w, hw, rw'⟩ := (r.wide hb).get (List.getElem?_eq_getElem hi)
    have q := hy vs (SqL.of h2)
    rw [hw] at q; cases q
    exact pair_new s hT (.int _) (rw'.mono l)
theorem itP_zipL {a b : Addr} {vs ws : List V} (nl : ¬ live μ a) (ha : H a = some (.lst vs)) (r : RepVs K B μ H vs xs) (nl2 : ¬ live μ b) (hb : H b = some (.lst ws)) (r2 : RepVs K B μ H ws ys) : ItP K B (Itz K a b) (zipP xs ys) μ H where
  go := fun i μ2 H2 hi l => by
    have hi' : i < xs.length ∧ i < ys.length := by simpa [zipP, Nat.lt_min] using hi
    obtain ⟨v, hv, _⟩ := r.get (List.getElem?_eq_getElem hi'.1)
    obtain ⟨w, hw, _⟩ := r2.get (List.getElem?_eq_getElem hi'.2)
    exact ⟨vs, ws, v, w, SqL.of (l.keep a _ ha nl).1, SqL.of (l.keep b _ hb nl2).1, hv, hw⟩
  stop := fun μ2 H2 l => by
    refine ⟨vs, ws, SqL.of (l.keep a _ ha nl).1, SqL.of (l.keep b _ hb nl2).1, ?_⟩
    rw [r.length, r2.length]
    simp [zipP]
    omega
  yld := fun B' hbb i x μ2 st H2 v H3 hx l s y => by
    obtain ⟨T, u, w, rfl, hT, rfl, hy1, hy2⟩ := y
    have hi : i < (zipP xs ys).length := (List.getElem?_eq_some_iff.mp hx).1
    have hi' : i < xs.length ∧ i < ys.length := by simpa [zipP, Nat.lt_min] using hi
    have ex : x = .tup [xs[i], ys[i]] := by
      have := (List.getElem?_eq_some_iff.mp hx).2
      rw [← this]
      simp [zipP]
    subst ex
    obtain ⟨u', hu, ru⟩ := (r.wide hbb).get (List.getElem?_eq_getElem hi'.1)
    obtain ⟨w', hw, rw'⟩ := (r2.wide hbb).get (List.getElem?_eq_getElem hi'.2)
    have q1 := hy1 vs (SqL.of (l.keep a _ ha nl).1)
    have q2 := hy2 ws (SqL.of (l.keep b _ hb nl2).1)
    rw [hu] at q1; cases q1
    rw [hw] at q2; cases q2
    exact pair_new s hT (ru.mono l) (rw'.mono l)
end
theorem simI_enum {tpos : Pos} {elts : List Expr} {kk : Nat} (hg : Gl X "enumerate") (hm : X.mg "enumerate" = none) (ha : SimA X [e] fa) (hs : starEach [e] X.env = [(false, eval e X.env)] := by rfl) : SimI X (.Tuple elts kk tpos) (.Call (.Name "enumerate" p) [e] [] pos) (iEnm fa) := by
  refine piI (pi_enum hg hm ha hs) fun σ H R ⟨B, μ, st, env, xs, st', s, r, e, k⟩ => ?_
  unfold iEnm at e
  split at e
  · rename_i ys st1 h1
    cases e
    refine RdA.go s r h1 fun vs H1 μ1 s1 l1 r1 => ?_
    obtain ⟨x, rfl, rx⟩ := r1.one
    cases rx with
    | lst nb nl h ra => exact ⟨_, _, rfl, SqL.of h, k _ H1 μ1 s1 l1 (itP_enm nl h ra)⟩
  · cases e
end

/-! ### a def by its body -/
def fnS (n m : Nat) (b : FS) : GA := fun ps st => if ps.length = n then (match b (ps.map some ++ List.replicate m none) st with
  | some (.ret v, _, st') => some (v, st')
  | some (.nx, _, st') => some (.non, st')
  | _ => none) else none
section
variable {P : Program} {w : World} {K : PySem.W.Frag} {mg : Str → Option Value} {base : Heap}
theorem repE_start {B : Addr → Prop} {μ : Mu} {H : Hp} {vs : List V} {ps : List PV} {m : Nat} (r : RepVs K B μ H vs ps) : RepE K B μ H (vs.map some ++ List.replicate m none) (ps.map some ++ List.replicate m none) := by
  refine ⟨by simp [r.length], fun i p e => ?_⟩
  by_cases hi : i < ps.length
  · rw [List.getElem?_append_left (by simpa using hi), List.getElem?_map] at e
    cases h : ps[i]? with
    | none => rw [h] at e; simp at e
    | some q =>
      rw [h] at e
      simp at e
      subst e
      obtain ⟨v, hv, rv⟩ := r.get h
      exact ⟨v, by rw [List.getElem?_append_left (by simp [r.length]; exact hi), List.getElem?_map, hv]; rfl, rv⟩
  · rw [List.getElem?_append_right (by simpa using hi), List.getElem?_replicate] at e
    split at e <;> simp at e
theorem fn_prom {x qual : Str} {st : Stmt} {f : Addr} {fd : FuncData} {N ps : List Str} {k : Nat} {b : FS} (F : Fun K x qual st f fd) (S : FnScope N ps (defScope st))
    (hb : ∀ (cdv : Value) (A : Around) (outer : List Env) (s : Shared) (H : Hp) (E : XK), Room k (A.deeper (envOfC qual (defScope st) s.heap.objs.size f cdv)) → SimSs (cxOf L2.CX0 P w K mg base N qual (defScope st) f cdv A outer s H E).nox (defBody st) b) :
    FnOk P w K mg base L2.CX0 (k + 1) f fd ps (spF K (fnS ps.length (N.length - ps.length) b)) := by
  refine F.ok S (fun vs H Q E ⟨B, μ, st, ps', v, st', s, r, e, _⟩ => ?_) fun cdv A outer s H vs Q E hr ⟨B, μ, st, ps', v, st', s, r, e, k⟩ => ?_
  · unfold fnS at e
    split at e
    · rename_i h; rw [r.length]; exact h
    · cases e
  · refine ⟨_, hb cdv A outer _ H E hr, ?_⟩
    unfold fnS at e
    split at e
    · rename_i hl
      have hl' : vs.length = ps.length := by rw [r.length]; exact hl
      have hst : L2.start N vs = vs.map some ++ List.replicate (N.length - ps.length) none := by unfold L2.start; rw [hl']
      rw [hst]
      split at e
      · rename_i u env1 st1 h1
        have e5 : u = v ∧ st1 = st' := by cases e; exact ⟨rfl, rfl⟩
        obtain ⟨e5, e6⟩ := e5
        subst e5 e6
        exact RdS.go s (repE_start r) h1 fun σ' H' μ' s' l' r' => fun x rx => k x H' μ' s' l' rx
      · rename_i env1 st1 h1
        have e5 : PV.non = v ∧ st1 = st' := by cases e; exact ⟨rfl, rfl⟩
        obtain ⟨e5, e6⟩ := e5
        subst e5 e6
        exact RdS.go s (repE_start r) h1 fun σ' H' μ' s' l' r' => k .non H' μ' s' l' .non
      · cases e
    · cases e
/-- with defaults filled in -/
theorem fn_raw {f : Addr} {fd : FuncData} {ps : List Str} {k : Nat} {g : GA} {ds : List Value} {dvs : List V} {dps : List PV} (F : FnOk P w K mg base L2.CX0 k f fd ps (spF K g)) (hb : Binds K fd ps ds) (hd : Vals dvs ds) (hr : ∀ (B : Addr → Prop) (μ : Mu) (H : Hp), RepVs K B μ H dvs dps) :
    FnR P w K mg base L2.CX0 k f (spF K fun as st => g (as ++ dps) st) :=
  (F.raw hb hd).imp fun vs H Q E ⟨B, μ, st, ps', v, st', s, r, e, k⟩ => ⟨B, μ, st, ps' ++ dps, v, st', s, r.append (hr B μ H), e, k⟩
theorem fn_raw0 {f : Addr} {fd : FuncData} {ps : List Str} {k : Nat} {g : GA} (F : FnOk P w K mg base L2.CX0 k f fd ps (spF K g)) (hb : Binds K fd ps []) : FnR P w K mg base L2.CX0 k f (spF K g) :=
  (F.raw hb .nil).imp fun vs H Q E h => by rw [List.append_nil]; exact h
theorem fn_none {f : Addr} {k : Nat} : FnR P w K mg base L2.CX0 k f (spF K fun _ _ => none) := fun _ _ _ _ _ _ _ _ _ _ _ ⟨_, _, _, _, _, _, _, _, e, _⟩ => nomatch e
end
end L3
end
section
set_option Elab.async false
set_option linter.all false
set_option maxRecDepth 100000
namespace L3
open PySem PySem.Spec PyProof.Rows L2

/-! ### a < b < c as a test -/
def tChn (g g' : G2) (fa fb fc : FE) : FT := fun env st => match fa env st with
  | some (a, st1) => (match fb env st1 with
    | some (b, st2) => (match g a b st2 with
      | some (.bl true, st3) => (match fc env st3 with
        | some (c, st4) => (match g' b c st4 with
          | some (.bl k, st5) => some (k, st5)
          | _ => none)
        | none => none)
      | some (.bl false, st3) => some (false, st3)
      | _ => none)
    | none => none)
  | none => none
section
variable {X : Cx} {pos p : Pos} {a b c e o : Expr} {es : List Expr} {fa fb fc f fo : FE} {g : FA}
theorem simT_chain {op op' : CmpOp} {r r' : R2} {g g' : G2} (ho : OpR X (compareOp op) r) (ho' : OpR X (compareOp op') r') (hg : OpS X.K r g) (hg' : OpS X.K r' g') (ha : SimE X a fa) (hb : SimE X b fb) (hc : SimE X c fc)
    (hm : lastMarks [op, op'] [b, c] = false := by with_unfolding_all rfl) : SimT X (.Compare a [op, op'] [b, c] pos) (tChn g g' fa fb fc) := by
  refine ptI (pt_chain ho ho' ha hb hc hm) fun σ H Q ⟨B, μ, st, env, v, st', s, rE, e, k⟩ => ?_
  unfold tChn at e
  split at e
  · rename_i x st1 h1
    split at e
    · rename_i y st2 h2
      refine Rd.go s rE h1 fun x H1 μ1 s1 l1 r1 => Rd.go s1 (rE.mono l1) h2 fun y H2 μ2 s2 l2 r2 => ?_
      have l12 := l1.trans l2
      split at e
      · rename_i st3 h3
        split at e
        · rename_i z st4 h4
          split at e
          · rename_i kk st5 h5
            cases e
            refine hg B μ2 st2 H2 x y _ _ _ _ _ s2 (r1.mono l2) r2 h3 fun w H3 μ3 s3 l3 r3 => ⟨true, r3.bl_inv, ?_⟩
            rw [if_pos rfl]
            refine Rd.go s3 ((rE.mono l12).mono l3) h4 fun z H4 μ4 s4 l4 r4 => ?_
            exact hg' B μ4 st4 H4 y z _ _ _ _ _ s4 ((r2.mono l3).mono l4) r4 h5 fun w H5 μ5 s5 l5 r5 => ⟨v, r5.bl_inv, k H5 μ5 s5 (l12.trans (l3.trans (l4.trans l5)))⟩
          · cases e
        · cases e
      · rename_i st3 h3
        cases e
        refine hg B μ2 st2 H2 x y _ _ _ _ _ s2 (r1.mono l2) r2 h3 fun w H3 μ3 s3 l3 r3 => ⟨false, r3.bl_inv, ?_⟩
        rw [if_neg Bool.false_ne_true]
        exact ⟨false, rfl, k H3 μ3 s3 (l12.trans l3)⟩
      · cases e
    · cases e
  · cases e
theorem simT_leLe (ha : SimE X a fa) (hb : SimE X b fb) (hc : SimE X c fc) (hm : lastMarks [.LtE, .LtE] [b, c] = false := by with_unfolding_all rfl) : SimT X (.Compare a [.LtE, .LtE] [b, c] pos) (tChn gLe gLe fa fb fc) :=
  simT_chain op_le op_le (opS_int fun _ _ _ _ _ => .bl _) (opS_int fun _ _ _ _ _ => .bl _) ha hb hc hm

/-! ### tuples whose object is known: t + u, tuple(list), t.index(x) -/
def eTupX (g : FA) : FE := fun env st => match g env st with
  | some (as, st1) => if as.length ≤ sizeLine then some (.tupx as, st1) else none
  | none => none
theorem Inv.tupx {pins : List (Addr × Obj)} {σ : L2.St} {H : Hp} {s : Shared} {xs : List V} {its : List Value} {t' : Nat} (I : Inv X pins σ H s) (r : Vals xs its) (z : xs.length ≤ sizeLine) :
    Inv X pins σ (upd H s.heap.objs.size (.frz { cls := .type "tuple", data := .seq its.toArray } (.tup xs))) { s with heap := s.heap.push { cls := .type "tuple", data := .seq its.toArray }, toks := t' } :=
  I.laid (fun b u e => Heap.get?_push_of_some _ e) (Nat.le_refl _) ⟨Heap.get?_push_size _ rfl, z, its, r, ⟨_, Heap.get?_push_size _ rfl, rfl, _, rfl⟩⟩
theorem pe_tupX {k : Nat} {t : L2.TA} (h : PA X es t) : PE X (.Tuple es k pos) (fun σ H Q => t σ H fun xs H1 => xs.length ≤ sizeLine ∧ ∀ p (o : Obj), H1 p = none → o.dict = none → Q (.ref p) (upd H1 p (.frz o (.tup xs)))) := by
  refine ⟨fun pins s σ H Q I hq => ?_⟩
  refine wpAny_Tuple_spliced (thn (h.run pos pins s σ H _ I hq) fun us s1 ⟨xs, H1, I1, r, z, q⟩ => ⟨by rw [← r.length]; exact z, ?_⟩)
  exact ⟨.ref s1.heap.objs.size, _, Inv.tupx (t' := s1.toks) I1 r z, rfl, q _ _ (I1.hok.fresh (Nat.le_refl _)) rfl⟩
section
variable {K : PySem.W.Frag} {B : Addr → Prop} {μ μ' : Mu} {H H' : Hp} {st st' : Store}
theorem rep_tupx {p : Addr} {o : Obj} {vs : List V} {xs : List PV} (s : Sim K B μ st H) (h : H p = none) (hd : o.dict = none) (r : RepVs K B μ H vs xs) : RepV K B μ (upd H p (.frz o (.tup vs))) (.ref p) (.tupx xs) :=
  .tupx (s.free h) (s.not_live h) hd upd_same (r.mono (le_new s h))
end
theorem simE_tupX {k : Nat} (h : SimA X es g) : SimE X (.Tuple es k pos) (eTupX g) := by
  refine peI (pe_tupX h) fun σ H Q ⟨B, μ, st, env, v, st', s, r, e, k⟩ => ?_
  unfold eTupX at e
  split at e
  · rename_i as st1 h1
    split at e
    · rename_i hz
      cases e
      exact RdA.go s r h1 fun xs H1 μ1 s1 l1 r1 => ⟨by rw [r1.length]; exact hz, fun p o hp hd => k _ _ μ1 (sim_new s1 hp) (l1.trans (le_new s1 hp)) (rep_tupx s1 hp hd r1)⟩
    · cases e
  · cases e
def gAddX : G2 := fun p q st => match p, q with
  | .tupx xs, .tupx ys => if xs ≠ [] ∧ xs.length + ys.length ≤ sizeLine then some (.tupx (xs ++ ys), st) else none
  | _, _ => none
def rCatX (K : PySem.W.Frag) : R2 := fun x y H Q => ∃ a b xs ys, x = .ref a ∧ y = .ref b ∧ SqT K H a xs ∧ SqT K H b ys ∧ xs ≠ [] ∧ xs.length + ys.length ≤ sizeLine ∧ (ys = [] → Q (.ref a) H) ∧ ∀ p (o : Obj), H p = none → o.dict = none → Q (.ref p) (upd H p (.frz o (.tup (xs ++ ys))))
theorem op_catX : OpR X (binaryOp .Add) (rCatX X.K) := by
  intro pins s σ H x y v u Q I rx ry h
  obtain ⟨a, b, xs, ys, rfl, rfl, ha, hb, hx, hz, q1, q2⟩ := h
  cases rx
  cases ry
  obtain ⟨its, r1, p1, _⟩ := I.tuple ha
  obtain ⟨its2, r2, p2, _⟩ := I.tuple hb
  refine HT.cat_tup p1 p2 (fun z => hx (r1.nil_iff.mp z)) (fun z => ⟨.ref a, H, I, rfl, q1 (r2.nil_iff.mp z)⟩) (fun z => ?_) (by rw [← r1.length, ← r2.length]; exact hz)
  exact ⟨.ref s.heap.objs.size, _, Inv.tupx (t' := s.toks) I (r1.append r2) (by rw [List.length_append]; exact hz), rfl, q2 _ _ (I.hok.fresh (Nat.le_refl _)) rfl⟩
theorem RepV.tupx_inv {K : PySem.W.Frag} {B : Addr → Prop} {μ : Mu} {H : Hp} {x : V} {xs : List PV} (r : RepV K B μ H x (.tupx xs)) : ∃ a o vs, x = .ref a ∧ H a = some (.frz o (.tup vs)) ∧ o.dict = none ∧ RepVs K B μ H vs xs := by
  cases r with
  | tupx nb nl d h r => exact ⟨_, _, _, rfl, h, d, r⟩
theorem simE_addX (ha : SimE X a fa) (hb : SimE X b fb) : SimE X (.BinOp a .Add b pos) (eBin gAddX fa fb) := by
  refine simE_bin op_catX ?_ ha hb
  intro B μ st H x y p q v st' Q s rx ry e k
  unfold gAddX at e
  split at e
  · split at e
    · rename_i xs ys hz
      cases e
      have rx0 := rx
      obtain ⟨l, o1, vs, rfl, ha, _, ra⟩ := rx.tupx_inv
      obtain ⟨m, o2, ws, rfl, hb, _, rb⟩ := ry.tupx_inv
      refine ⟨l, m, vs, ws, rfl, rfl, .inl (.inr ⟨_, ha⟩), .inl (.inr ⟨_, hb⟩), fun z => ?_, by rw [ra.length, rb.length]; exact hz.2, fun z => ?_, fun p o hp hd => k _ _ μ (sim_new s hp) (le_new s hp) (rep_tupx s hp hd (ra.append rb))⟩
      · subst z; cases ra; exact hz.1 rfl
      · subst z
        cases rb
        exact k _ H μ s (Le.refl _ _) (by rw [List.append_nil]; exact rx0)
    · cases e
  · cases e
theorem call_tupX : CallR X (.type "tuple") (fun xs H Q => ∃ p ys, xs = [.ref p] ∧ SqL X.K H p ys ∧ ∀ l (o : Obj), H l = none → o.dict = none → Q (.ref l) (upd H l (.frz o (.tup ys)))) := by
  intro pins s σ H xs us Q I r h
  obtain ⟨p, ys, rfl, hq, q⟩ := h
  obtain ⟨u, rfl, rx⟩ := vals1 r
  cases rx
  obtain ⟨its, r', pl, hz⟩ := I.list hq
  have hlen := r'.length
  refine call_tuple_list pl.isList (fun h' kp => ?_) (by simp only [List.size_toArray] <;> omega)
  have I1 : Inv X pins σ H { s with heap := h' } := I.kept (t' := s.toks) kp
  exact ⟨.ref h'.objs.size, _, Inv.tupx (t' := s.toks) I1 r' hz, rfl, q _ _ (I1.hok.fresh (Nat.le_refl _)) rfl⟩
def cTupX : GA := fun as st => match as with
  | [p] => (match seqL p st with
    | some xs => some (.tupx xs, st)
    | none => none)
  | _ => none
theorem simE_tupleX (hgl : Gl X "tuple") (hm : X.mg "tuple" = none) (ha : SimA X [e] g) (he : starEach [e] X.env = (false, eval e X.env) :: starEach [] X.env := by rfl) : SimE X (.Call (.Name "tuple" p) [e] [] pos) (eCall cTupX g) := by
  refine simE_callTy call_tupX ?_ hgl hm (by decide +kernel) ha (he := he)
  intro B μ st H xs ps v st' Q s r e k
  unfold cTupX at e
  split at e
  · obtain ⟨x, rfl, rx⟩ := r.one
    split at e
    · rename_i ys h
      cases e
      obtain ⟨a, vs, rfl, ha, ra⟩ := seqL_at s rx h
      exact ⟨a, vs, rfl, SqL.of ha, fun q o hq hd => k _ _ μ (sim_new s hq) (le_new s hq) (rep_tupx s hq hd ra)⟩
    · cases e
  · cases e
/-- the first place of an equal item -/
def findD (d : PyData) : List PyData → Nat → Option Nat
  | [], _ => none
  | x :: xs, n => if PyData.eqv x d then some n else findD d xs (n + 1)
theorem findD_at {d : PyData} : ∀ {xs : List PyData} {n j : Nat}, findD d xs n = some j → ∃ i, j = n + i ∧ i < xs.length ∧ (∃ x, xs[i]? = some x ∧ PyData.eqv x d = true) ∧ ∀ m z, m < i → xs[m]? = some z → PyData.eqv z d = false
  | [], n, j, h => by cases h
  | x :: xs, n, j, h => by
    unfold findD at h
    split at h
    · rename_i hx
      cases h
      exact ⟨0, rfl, by simp, ⟨x, rfl, hx⟩, fun m z hm => absurd hm (Nat.not_lt_zero _)⟩
    · rename_i hx
      obtain ⟨i, rfl, hi, hz, hno⟩ := findD_at h
      refine ⟨i + 1, by omega, by simpa using hi, by simpa using hz, fun m z hm hz => ?_⟩
      cases m with
      | zero => simp at hz; subst hz; simpa using hx
      | succ m => exact hno m z (by omega) (by simpa using hz)
def lowL (p : PV) (xs : List PV) : Bool := p.lay && PV.pures xs && PyData.canLayAll0 (PV.toDs xs) && decide (min (PyData.depthAll (PV.toDs xs)) p.toD.depth ≤ 900)
def mIndexX : GM := fun p as st => match p, as with
  | .tupx xs, [q] => if lowL q xs = true then (match findD q.toD (PV.toDs xs) 0 with
    | some j => some (.int (j : Nat), st)
    | none => none) else none
  | _, _ => none
theorem toDs_length : ∀ xs : List PV, (PV.toDs xs).length = xs.length
  | [] => rfl
  | x :: xs => by simp only [PV.toDs, List.length_cons, toDs_length xs]
/-- equal items, by what their data say -/
theorem items_at {pins : List (Addr × Obj)} {σ : L2.St} {H : Hp} {s : Shared} (I : Inv X pins σ H s) {vs : List V} {its : List Value} {ds : List PyData} {y : V} {u : Value} {d : PyData} (hl : DpAll X.K H vs ds) (rv : Vals vs its) (hy : Dp X.K H y d) (ry : RelV y u)
    (h1 : PyData.canLayAll0 ds = true) (h2 : d.canLay0 = true) (hr : X.A.units + 1 + min (PyData.depthAll ds) d.depth < cLine) :
    (∀ w ∈ its.toArray, SeqAt.EqAt X.A.in1 s w u (PyData.eqv (SeqAt.readOf s.heap w) d)) ∧ ∀ (m : Nat) (hm : m < its.toArray.size) (z : PyData), ds[m]? = some z → SeqAt.readOf s.heap its.toArray[m] = z := by
  obtain ⟨as, h4⟩ := Dp.readsAll I ds _ its hl rv
  obtain ⟨bs, r1⟩ := Dp.reads I d y u hy ry
  have hmap : its.map (SeqAt.readOf s.heap) = ds := SeqAt.readsAll_map ds its as h1 h4
  refine ⟨SeqAt.items_eqAt (vs := its.toArray) (show ReadsAll s.heap its.toArray.toList ds as from h4) r1 h1 h2 hr, fun m hm z hz => ?_⟩
  have hml : m < its.length := by simpa using hm
  rw [← hmap, List.getElem?_map, List.getElem?_eq_getElem hml] at hz
  have e1 : SeqAt.readOf s.heap its[m] = z := Option.some.inj (show some (SeqAt.readOf s.heap its[m]) = some z from hz)
  simpa using e1
def eIdxX (fo f : FE) : FE := fun env st => match fo env st with
  | some (.tupx xs, st1) => (match f env st1 with
    | some (q, st2) => mIndexX (.tupx xs) [q] st2
    | none => none)
  | _ => none
theorem simE_indexX {apos cpos : Pos} (hu : X.A.units + 1000 < cLine) (ho : SimE X o fo) (he : SimE X e f) (hbase : attributeBase o "index" X.env (eval o X.env) = eval o X.env := by rfl)
    (hfew : ((backTo cpos (starEach [e] X.env)).all (fun x => !x.1) && (backToKw cpos (keywordEach [] X.env)).all (fun x => x.1.isSome) && decide (([e] : List Expr).length + ([] : List Keyword).length + (if ([] : List Keyword).isEmpty then 0 else 1) < 30)) = true := by rfl)
    (hline : (apos.endLine == cpos.line) = true := by rfl) (hs : starEach [e] X.env = (false, eval e X.env) :: starEach [] X.env := by rfl) (hplain : (backTo cpos (starEach [] X.env)).any (·.1) = false := by rfl) :
    SimE X (.Call (.Attribute o "index" apos) [e] [] cpos) (eIdxX fo f) := by
  refine ⟨fun pins s σ H Q I ⟨B, μ, st, env, v, st', s0, rE, e, k⟩ => ?_⟩
  unfold eIdxX at e
  split at e
  · rename_i xs st1 h1
    split at e
    · rename_i q st2 h2
      refine wpAny_Call_method_late hbase hfew hline rfl (thn (ho.run pins s σ H (fun x H1 => ∃ μ1, Sim X.K B μ1 st1 H1 ∧ Le μ H μ1 H1 ∧ RepV X.K B μ1 H1 x (.tupx xs)) I (Rd.go s0 rE h1 fun x H1 μ1 s1 l1 r1 => ⟨μ1, s1, l1, r1⟩)) fun ov s1 ⟨x, H1, I1, r1, μ1, sm1, l1, rp1⟩ => ?_)
      obtain ⟨a, ob, vs, rfl, ha, hd, ra⟩ := rp1.tupx_inv
      cases r1
      obtain ⟨hob, hsz, its, rv, ht⟩ := I1.hok a _ ha
      obtain ⟨ob', hob', hcls, n, hdat⟩ := ht
      rw [hob] at hob'; cases hob'
      refine ⟨"tuple", "tuple.index", PySem.F.plainAttrs_tuple, PySem.F.slot_tuple_index, PySem.F.type_tuple_index, ⟨_, hob, hcls⟩, fun b eb => ?_, ?_⟩
      · cases eb
        exact ⟨_, hob, hd⟩
      · rw [hs]
        refine Calls.callWith_builtin (by show (false || (backTo cpos (starEach [] X.env)).any (·.1)) = false; rw [hplain] <;> rfl) (Calls.evalArgs_plain ?_)
        show wpAny _ _ (spliced ((false, eval _ X.env) :: backTo cpos (starEach [] X.env))) _ _ s1
        refine Calls.spliced_cons (thn (he.run pins s1 σ H1 (fun x H2 => ∃ μ2, Sim X.K B μ2 st2 H2 ∧ Le μ1 H1 μ2 H2 ∧ RepV X.K B μ2 H2 x q) I1 (Rd.go sm1 (rE.mono l1) h2 fun x H1 μ1 s1 l1 r1 => ⟨μ1, s1, l1, r1⟩)) fun u s2 ⟨y, H2, I2, ry, μ2, sm2, l2, rp2⟩ => ?_)
        refine Calls.spliced_nil ?_
        unfold mIndexX at e
        simp only at e
        split at e
        · rename_i hlow
          split at e
          · rename_i j hj
            cases e
            unfold lowL at hlow
            simp only [Bool.and_eq_true, decide_eq_true_eq] at hlow
            obtain ⟨⟨⟨c1, c2⟩, c3⟩, c4⟩ := hlow
            obtain ⟨a', ob2, vs2, e2, ha2, hd2, ra2⟩ := (rp1.mono l2).tupx_inv
            cases e2
            obtain ⟨hob2, hsz2, its2, rv2, ht2⟩ := I2.hok a _ ha2
            obtain ⟨ob3, hob3, hcls3, n3, hdat3⟩ := ht2
            rw [hob2] at hob3; cases hob3
            obtain ⟨cls, dd, data, sl⟩ := ob2
            simp only at hcls3 hdat3
            subst hcls3 hdat3
            obtain ⟨i, rfl, hi, ⟨z, hz, hzt⟩, hno⟩ := findD_at hj
            obtain ⟨q1, q2⟩ := items_at I2 (ra2.dp c2) rv2 (rp2.dp (lay_pure c1)) ry c3 (lay_can c1) (by omega)
            have hil : i < its2.toArray.size := by
              rw [List.size_toArray, ← rv2.length, ra2.length, ← toDs_length]
              exact hi
            refine call_meets PySem.F.slot_tuple_index ⟨_, hob2, rfl⟩ PySem.F.entry_tuple_index (PySem.F.args_tuple_index_2 _ _) (TI.tuple_indexAt a its2.toArray n3 dd sl u (fun w => PyData.eqv (SeqAt.readOf s2.heap w) q.toD) i hil ?_ ?_) ⟨hob2, q1, ?_⟩
            · show PyData.eqv (SeqAt.readOf s2.heap its2.toArray[i]) q.toD = true
              rw [q2 i hil z hz]; exact hzt
            · intro m hm hmi
              have hmd : m < (PV.toDs xs).length := by omega
              show PyData.eqv (SeqAt.readOf s2.heap its2.toArray[m]) q.toD = false
              rw [q2 m hm _ (List.getElem?_eq_getElem hmd)]
              exact hno m _ hmi (List.getElem?_eq_getElem hmd)
            · refine ⟨.int (i : Nat), H2, I2.tok _, ⟨_, rfl⟩, k _ H2 μ2 sm2 (l1.trans l2) ?_⟩
              rw [Nat.zero_add]
              exact .int _
          · cases e
        · cases e
    · cases e
  · cases e
end
end L3
end
section
set_option Elab.async false
set_option linter.all false
set_option maxRecDepth 100000
namespace L3
open PySem PySem.Spec PyProof.Rows L2

/-! ### o.m() -/
section
variable {X : Cx} {pos apos p : Pos} {o e : Expr} {es : List Expr} {fo f : FE} {fa : FA}
theorem pe_methR0 {k : Nat} {C f : Addr} {m : Str} {sp : Sp} {ta : L2.TE} {pl : Sem Bool} (he : PE X o ta) (c : Cls X.K C) (hm : Meth X.K C m f) (F : FnR X.prog X.w X.K X.mg X.base L2.CX0 k f sp) (hr : Room k X.A)
    (ht : eval (.Call (.Attribute o m apos) [] [] pos) X.env = (do
      let ov ← eval o X.env
      standAt apos.atName
      let (f, first) ← holding [ov] (getMethod ov m pl)
      callWith pos f first (backTo pos (starEach [] X.env)) (backToKw pos (keywordEach [] X.env))) := by rfl) :
    PE X (.Call (.Attribute o m apos) [] [] pos) (fun σ H Q => ta σ H fun x H1 => ∃ a dx fs, x = .ref a ∧ H1 a = some (.ins C dx fs) ∧ fs.lookup m = none ∧ sp [x] H1 Q L2.E0) := by
  refine ⟨fun pins s σ H Q I h => ?_⟩
  refine PySem.W.methodCall_KW (pl := pl) (thn (he.run pins s σ H _ I h) fun u s1 ⟨x, H1, I1, rx, a, dx, fs, ex, ea, l, q⟩ => ?_) ht
  subst ex
  obtain rfl : u = Value.ref a := rx
  refine getmeth_ok I1 ea c hm l ?_
  exact PySem.W.callWith_K0 (first := [.ref a]) I1.kIn hm.kp (wpAny_call (run_fnR (us := [.ref a]) (vs := [.ref a]) F hr L2.pass0 I1 (.cons rfl .nil) q))
theorem simE_meth0 {k : Nat} {C fm : Addr} {m : Str} {g : GA} {pl : Sem Bool} (c : Cls X.K C) (hm : Meth X.K C m fm) (F : Prom X k fm g) (hr : Room k X.A) (ho : SimE X o fo)
    (ht : eval (.Call (.Attribute o m apos) [] [] pos) X.env = (do
      let ov ← eval o X.env
      standAt apos.atName
      let (f, first) ← holding [ov] (getMethod ov m pl)
      callWith pos f first (backTo pos (starEach [] X.env)) (backToKw pos (keywordEach [] X.env))) := by rfl) : SimE X (.Call (.Attribute o m apos) [] [] pos) (eM C m g fo aNil) := by
  refine peI (pe_methR0 ho c hm F hr ht) fun σ H Q ⟨B, μ, st, env, v, st', s, rE, e, k⟩ => ?_
  unfold eM at e
  split at e
  · rename_i n st1 h1
    split at e
    · rename_i C' fs h2
      split at e
      · rename_i hC
        obtain ⟨rfl, hl⟩ := hC
        simp only [aNil] at e
        refine Rd.go s rE h1 fun x H1 μ1 s1 l1 r1 => ?_
        obtain ⟨a, rfl, hm, dx, gs, ha, ra⟩ := s1.loc r1 (icell_at h2) (by simp)
        rcases ra.look m with ⟨_, q⟩ | ⟨u, p, q1, q2, r2⟩
        · exact ⟨a, dx, gs, rfl, ha, q, B, μ1, st1, _, v, st', s1, .cons r1 .nil, e, Got_mono k l1⟩
        · rw [hl] at q1; cases q1
      · cases e
    · cases e
  · cases e

/-! ### list.remove -/
def mRemove : GM := fun p as st => match p, as with
  | .loc n, [q] => (match lcell n st with
    | some xs => if lowL q xs = true then (match findD q.toD (PV.toDs xs) 0 with
      | some j => some (.non, st.set n (.lst (xs.eraseIdx j)))
      | none => none) else none
    | none => none)
  | _, _ => none
def rRemD (X : Cx) : V → List V → Hp → VK → Prop := fun x vs H Q => ∃ l xs y d ds j, x = .ref l ∧ vs = [y] ∧ H l = some (.lst xs) ∧ DpAll X.K H xs ds ∧ Dp X.K H y d ∧ PyData.canLayAll0 ds = true ∧ d.canLay0 = true ∧ min (PyData.depthAll ds) d.depth ≤ 900 ∧ findD d ds 0 = some j ∧ Q .non (upd H l (.lst (xs.eraseIdx j)))
theorem dpAll_length {K : PySem.W.Frag} {H : Hp} : ∀ {vs : List V} {ds : List PyData}, DpAll K H vs ds → vs.length = ds.length
  | _, _, .nil => rfl
  | _, _, .cons _ t => congrArg (· + 1) (dpAll_length t)
theorem mt_removeD (hu : X.A.units + 1000 < cLine) : MtR X "list.remove" (rRemD X) := by
  intro pins s σ H x vs v us Q I rx rvs h
  obtain ⟨l, xs, y, d, ds, j, rfl, rfl, hl, hds, hd, c1, c2, c3, hj, q⟩ := h
  cases rx
  obtain ⟨u, rfl, ry⟩ := vals1 rvs
  obtain ⟨z, its, n, r, hlen, e0⟩ := I.lstM hl
  obtain ⟨i, rfl, hi, ⟨w, hw, hwt⟩, hno⟩ := findD_at hj
  obtain ⟨q1, q2⟩ := items_at I hds r hd ry c1 c2 (by omega)
  have hdl := dpAll_length hds
  have hil : i < its.toArray.size := by rw [List.size_toArray, ← hlen, hdl]; exact hi
  have hsz : its.toArray.size ≤ sizeLine := by rw [List.size_toArray, ← hlen]; exact z
  refine call_meets PySem.F.slot_list_remove ⟨_, e0, rfl⟩ PySem.F.entry_list_remove (PySem.F.args_list_remove_2 _ _)
    (SeqAt.list_removeAt l its.toArray n none #[] u (fun w => PyData.eqv (SeqAt.readOf s.heap w) d) i hil ?_ ?_ hsz) ⟨e0, q1, ?_⟩
  · show PyData.eqv (SeqAt.readOf s.heap its.toArray[i]) d = true
    rw [q2 i hil w hw]; exact hwt
  · intro m hm hmi
    have hmd : m < ds.length := by omega
    show PyData.eqv (SeqAt.readOf s.heap its.toArray[m]) d = false
    rw [q2 m hm _ (List.getElem?_eq_getElem hmd)]
    exact hno m _ hmi (List.getElem?_eq_getElem hmd)
  · have r2 := r.eraseIdx i
    rw [Nat.zero_add] at q
    refine ⟨.non, _, I.lset (its' := its.eraseIdx i) (t' := s.toks) hl e0 ?_ r2 ?_, rfl, q⟩
    · show its.toArray.eraseIdxIfInBounds i = (its.eraseIdx i).toArray
      rw [List.eraseIdxIfInBounds_toArray]
    · exact Nat.le_trans (len_erase xs i) z
theorem mtS_remove : MtS X.K (rRemD X) mRemove := by
  intro B μ st H x xs p ps v st' Q s rx rxs e k
  unfold mRemove at e
  split at e
  · split at e
    · rename_i n q ys h
      split at e
      · rename_i hlow
        split at e
        · rename_i j hj
          cases e
          obtain ⟨a, rfl, hm, vs, ha, ra⟩ := s.loc rx (lcell_at h) (by simp)
          obtain ⟨y, rfl, ry⟩ := rxs.one
          unfold lowL at hlow
          simp only [Bool.and_eq_true, decide_eq_true_eq] at hlow
          obtain ⟨⟨⟨c1, c2⟩, c3⟩, c4⟩ := hlow
          have l := le_upd (H := H) (o := .lst (vs.eraseIdx j)) hm
          exact ⟨a, vs, y, _, _, j, rfl, rfl, ha, ra.dp c2, ry.dp (lay_pure c1), c3, lay_can c1, c4, hj, k _ _ μ (sim_upd s hm ⟨_, upd_same, (ra.eraseIdx j).mono l⟩) l .non⟩
        · cases e
      · cases e
    · cases e
  · cases e
theorem simE_remove {cpos : Pos} (hu : X.A.units + 1000 < cLine) (ho : SimE X o fo) (ha : SimA X [e] fa) (hbase : attributeBase o "remove" X.env (eval o X.env) = eval o X.env := by rfl)
    (hfew : ((backTo cpos (starEach [e] X.env)).all (fun x => !x.1) && (backToKw cpos (keywordEach [] X.env)).all (fun x => x.1.isSome) && decide (([e] : List Expr).length + ([] : List Keyword).length + (if ([] : List Keyword).isEmpty then 0 else 1) < 30)) = true := by rfl)
    (hline : (apos.endLine == cpos.line) = true := by rfl) (hs : starEach [e] X.env = (false, eval e X.env) :: starEach [] X.env := by rfl) : SimE X (.Call (.Attribute o "remove" apos) [e] [] cpos) (eBM mRemove fo fa) :=
  simE_bm PySem.F.slot_list_remove PySem.F.type_list_remove (mt_removeD hu) mtS_remove ho ha hbase hfew hline hs
end

/-! ### dicts with keys that are ints or texts -/
def keyP : PV → Option Key
  | .int i => some (.inl i)
  | .str x => some (.inr x)
  | _ => none
def pK : Key → PV
  | .inl i => .int i
  | .inr x => .str x
def dcell (n : Nat) (st : Store) : Option (List (Key × PV)) := match st[n]? with
  | some (.dic kvs) => some kvs
  | _ => none
theorem dcell_at {n : Nat} {st : Store} {kvs : List (Key × PV)} (h : dcell n st = some kvs) : st[n]? = some (.dic kvs) := by
  unfold dcell at h
  split at h
  · rename_i ys e; cases h; exact e
  · cases h
def valP (kvs : List (Key × PV)) (k : Key) : Option PV := (kvs.find? fun kv => decide (kv.1 = k)).map (·.2)
def putP (kvs : List (Key × PV)) (k : Key) (v : PV) : List (Key × PV) :=
  if (kvs.any fun kv => decide (kv.1 = k)) then kvs.map fun kv => if kv.1 = k then (kv.1, v) else kv else kvs ++ [(k, v)]
section
variable {K : PySem.W.Frag} {B : Addr → Prop} {μ μ' : Mu} {H H' : Hp} {st st' : Store}
theorem keyP_at {x : V} {p : PV} {k : Key} (r : RepV K B μ H x p) (e : keyP p = some k) : x = kV k := by
  cases p <;> simp only [keyP] at e <;> try cases e
  · cases r; rfl
  · cases r; rfl
theorem rep_pK (k : Key) : RepV K B μ H (kV k) (pK k) := by
  cases k with
  | inl i => exact .int i
  | inr x => exact .str x
theorem RepKs.val : ∀ {ks : List (Key × V)} {kvs : List (Key × PV)} (k : Key), RepKs K B μ H ks kvs → (valP kvs k = none ∧ valV ks k = none) ∨ ∃ v p, valP kvs k = some p ∧ valV ks k = some v ∧ RepV K B μ H v p
  | _, _, k, .nil => .inl ⟨rfl, rfl⟩
  | (j, v) :: ks, (j', p) :: kvs, k, .cons ⟨e, r⟩ t => by
    have e' : j = j' := e
    subst e'
    by_cases h : j = k
    · refine .inr ⟨v, p, ?_, valV_pos h, r⟩
      simp [valP, List.find?_cons, h]
    · have e1 : valP ((j, p) :: kvs) k = valP kvs k := by simp [valP, List.find?_cons, h]
      have e2 : valV ((j, v) :: ks) k = valV ks k := valV_neg h
      rw [e1, e2]
      exact RepKs.val k t
theorem RepKs.any : ∀ {ks : List (Key × V)} {kvs : List (Key × PV)} (k : Key), RepKs K B μ H ks kvs → (ks.any fun kv => decide (kv.1 = k)) = kvs.any fun kv => decide (kv.1 = k)
  | _, _, _, .nil => rfl
  | (j, v) :: ks, (j', p) :: kvs, k, .cons ⟨e, r⟩ t => by
    have e' : j = j' := e
    subst e'
    simp only [List.any_cons, RepKs.any k t]
theorem RepKs.repl {k : Key} {v : V} {p : PV} (rv : RepV K B μ H v p) : ∀ {ks : List (Key × V)} {kvs : List (Key × PV)}, RepKs K B μ H ks kvs → RepKs K B μ H (ks.map fun kv => if kv.1 = k then (kv.1, v) else kv) (kvs.map fun kv => if kv.1 = k then (kv.1, p) else kv)
  | _, _, .nil => .nil
  | (j, w) :: ks, (j', q) :: kvs, .cons ⟨e, r⟩ t => by
    have e' : j = j' := e
    subst e'
    rw [List.map_cons, List.map_cons]
    refine .cons ?_ (RepKs.repl rv t)
    by_cases h : j = k
    · rw [if_pos h, if_pos h]; exact ⟨rfl, rv⟩
    · rw [if_neg h, if_neg h]; exact ⟨rfl, r⟩
theorem RepKs.snoc {k : Key} {v : V} {p : PV} (rv : RepV K B μ H v p) : ∀ {ks : List (Key × V)} {kvs : List (Key × PV)}, RepKs K B μ H ks kvs → RepKs K B μ H (ks ++ [(k, v)]) (kvs ++ [(k, p)])
  | _, _, .nil => .cons ⟨rfl, rv⟩ .nil
  | _, _, .cons r t => .cons r (RepKs.snoc rv t)
theorem RepKs.put {k : Key} {v : V} {p : PV} {ks : List (Key × V)} {kvs : List (Key × PV)} (r : RepKs K B μ H ks kvs) (rv : RepV K B μ H v p) : RepKs K B μ H (putK ks k v) (putP kvs k p) := by
  unfold putK putP
  rw [r.any k]
  split
  · exact r.repl rv
  · exact r.snoc rv
theorem RepKs.keys {ks : List (Key × V)} {kvs : List (Key × PV)} (r : RepKs K B μ H ks kvs) : ks.map (·.1) = kvs.map (·.1) := by
  induction r with
  | nil => rfl
  | cons h t ih => rw [List.map_cons, List.map_cons, ih, h.1]
end
/-- an empty dict, a copy -/
def eDic : FE := fun _ st => some (.loc st.length, st ++ [.dic []])
def cDicC : GA := fun as st => match as with
  | [.loc n] => (match dcell n st with
    | some kvs => some (.loc st.length, st ++ [.dic kvs])
    | none => none)
  | _ => none
def eDget (fd fk : FE) : FE := fun env st => match fd env st with
  | some (.loc n, st1) => (match fk env st1 with
    | some (q, st2) => (match dcell n st2, keyP q with
      | some kvs, some k => (match valP kvs k with
        | some v => some (v, st2)
        | none => none)
      | _, _ => none)
    | none => none)
  | _ => none
def eDin (neg : Bool) (fk fd : FE) : FE := fun env st => match fk env st with
  | some (q, st1) => (match fd env st1 with
    | some (.loc n, st2) => (match dcell n st2, keyP q with
      | some kvs, some k => some (.bl (if neg then !(valP kvs k).isSome else (valP kvs k).isSome), st2)
      | _, _ => none)
    | _ => none)
  | none => none
def sDput (fd fk fv : FE) : FS := fun env st => match fv env st with
  | some (v, st1) => (match fd env st1 with
    | some (.loc n, st2) => (match fk env st2 with
      | some (q, st3) => (match dcell n st3, keyP q with
        | some kvs, some k => if kvs.length < sizeLine then some (.nx, env, st3.set n (.dic (putP kvs k v))) else none
        | _, _ => none)
      | none => none)
    | _ => none)
  | none => none
section
variable {X : Cx} {pos pos' p : Pos} {o i e : Expr} {fo fk fv : FE} {fa : FA}
theorem simE_dic : SimE X (.Dict [] [] pos) eDic := by
  refine peI pe_dnewK fun σ H Q ⟨B, μ, st, env, v, st', s, rE, e, k⟩ => ?_
  cases e
  intro p hp
  exact k _ _ (μ ++ [some p]) (sim_cell s hp ⟨[], upd_same, .nil⟩) (le_cell s hp) (rep_loc s)
theorem call_dictC : CallR X (.type "dict") (fun xs H Q => ∃ a kvs, xs = [.ref a] ∧ L2.Rd H a (.dK kvs) ∧ ∀ p, H p = none → Q (.ref p) (upd H p (.dK kvs))) := by
  intro pins s σ H xs us Q I r h
  obtain ⟨a, kvs, rfl, hr, q⟩ := h
  obtain ⟨u, rfl, rx⟩ := vals1 r
  cases rx
  exact d_copyOf I hr fun p s' hp I' => ⟨.ref p, _, I', rfl, q p hp⟩
theorem simE_dictC (hgl : Gl X "dict") (hm : X.mg "dict" = none) (ha : SimA X [e] fa) (he : starEach [e] X.env = (false, eval e X.env) :: starEach [] X.env := by rfl) : SimE X (.Call (.Name "dict" p) [e] [] pos) (eCall cDicC fa) := by
  refine simE_callTy call_dictC ?_ hgl hm (by decide +kernel) ha (he := he)
  intro B μ st H xs ps v st' Q s r e k
  unfold cDicC at e
  split at e
  · split at e
    · rename_i kvs h
      cases e
      obtain ⟨x, rfl, rx⟩ := r.one
      obtain ⟨a, rfl, hm, ks, ha, ra⟩ := s.loc rx (dcell_at h) (by simp)
      refine ⟨a, ks, rfl, .inl ha, fun p hp => ?_⟩
      have l2 := le_cell (o := .dK ks) s hp
      exact k _ _ (μ ++ [some p]) (sim_cell s hp ⟨ks, upd_same, ra.mono l2⟩) l2 (rep_loc s)
    · cases e
  · cases e
theorem simE_dget (hu : X.A.units + 1000 < cLine) (ho : SimE X o fo) (hi : SimE X i fk) (hs : NoSl i := by exact fun _ _ => rfl) : SimE X (.Subscript o i pos) (eDget fo fk) := by
  refine peI (pe_dget (by omega) ho hi hs) fun σ H Q ⟨B, μ, st, env, v, st', s, rE, e, k⟩ => ?_
  unfold eDget at e
  split at e
  · rename_i n st1 h1
    split at e
    · rename_i q st2 h2
      split at e
      · rename_i kvs kk h3 h4
        split at e
        · rename_i w h5
          cases e
          refine Rd.go s rE h1 fun x H1 μ1 s1 l1 r1 => Rd.go s1 (rE.mono l1) h2 fun y H2 μ2 s2 l2 r2 => ?_
          obtain ⟨a, rfl, hm, ks, ha, ra⟩ := s2.loc (r1.mono l2) (dcell_at h3) (by simp)
          rcases ra.val kk with ⟨q, _⟩ | ⟨u, p, q1, q2, r3⟩
          · rw [h5] at q; cases q
          · rw [h5] at q1; cases q1
            have ey := keyP_at r2 h4
            subst ey
            refine ⟨a, u, rfl, ?_, k u H2 μ2 s2 (l1.trans l2) r3⟩
            rw [← q2]
            exact DGet.k ha
        · cases e
      · cases e
    · cases e
  · cases e
theorem pc_go {neg : Bool} {σ : L2.St} {H : Hp} {Q : VK} (h : Rd X.K (eDin neg fk fo) σ H Q) : Rd X.K fk σ H fun y H1 => Rd X.K fo σ H1 fun x H2 => ∃ a o, x = .ref a ∧ DGet H2 a y o ∧ Q (.bl (if neg then !o.isSome else o.isSome)) H2 := by
  obtain ⟨B, μ, st, env, v, st', s, rE, e, k⟩ := h
  unfold eDin at e
  split at e
  · rename_i q st1 h1
    split at e
    · rename_i n st2 h2
      split at e
      · rename_i kvs kk h3 h4
        cases e
        refine Rd.go s rE h1 fun y H1 μ1 s1 l1 r1 => Rd.go s1 (rE.mono l1) h2 fun x H2 μ2 s2 l2 r2 => ?_
        obtain ⟨a, rfl, hm, ks, ha, ra⟩ := s2.loc r2 (dcell_at h3) (by simp)
        have ey := keyP_at (r1.mono l2) h4
        subst ey
        refine ⟨a, valV ks kk, rfl, DGet.k ha, ?_⟩
        have ei : (valV ks kk).isSome = (valP kvs kk).isSome := by
          rcases ra.val kk with ⟨q1, q2⟩ | ⟨u, p, q1, q2, _⟩ <;> rw [q1, q2] <;> rfl
        rw [ei]
        exact k _ H2 μ2 s2 (l1.trans l2) (.bl _)
      · cases e
    · cases e
  · cases e
theorem simE_din (hu : X.A.units + 1000 < cLine) (hi : SimE X i fk) (ho : SimE X o fo) (h1 : behindInMarks .In o = false := by rfl) : SimE X (.Compare i [.In] [o] pos) (eDin false fk fo) :=
  peI (pe_cmp (pc_din (by omega) hi ho) h1) fun σ H Q h => pc_go h
theorem simE_dnotin (hu : X.A.units + 1000 < cLine) (hi : SimE X i fk) (ho : SimE X o fo) (h1 : behindInMarks .NotIn o = false := by rfl) : SimE X (.Compare i [.NotIn] [o] pos) (eDin true fk fo) :=
  peI (pe_cmp (pc_dnotin (by omega) hi ho) h1) fun σ H Q h => pc_go h
theorem simT_din (hu : X.A.units + 1000 < cLine) (hi : SimE X i fk) (ho : SimE X o fo) (h1 : behindInMarks .In o = false := by rfl) : SimT X (.Compare i [.In] [o] pos) (tOf (eDin false fk fo)) :=
  ptI (pt_cmp (pc_din (by omega) hi ho) h1) fun σ H Q h => test_go h fun R h => pc_go h
theorem simT_dnotin (hu : X.A.units + 1000 < cLine) (hi : SimE X i fk) (ho : SimE X o fo) (h1 : behindInMarks .NotIn o = false := by rfl) : SimT X (.Compare i [.NotIn] [o] pos) (tOf (eDin true fk fo)) :=
  ptI (pt_cmp (pc_dnotin (by omega) hi ho) h1) fun σ H Q h => test_go h fun R h => pc_go h
theorem simS_dput (hu : X.A.units + 1000 < cLine) (ho : SimE X o fo) (hi : SimE X i fk) (hv : SimE X e fv) (hs : swapsWith e (some (.Subscript o i pos')) pos.line X.env = pure false := by rfl) : SimS X (.Assign [.Subscript o i pos'] e pos) (sDput fo fk fv) := by
  refine psI (ps_dput (by omega) ho hi hv hs) fun D σ H ⟨B, μ, st, env, fl, env', st', s, rE, e, k⟩ => ?_
  unfold sDput at e
  split at e
  · rename_i v st1 h1
    split at e
    · rename_i n st2 h2
      split at e
      · rename_i q st3 h3
        split at e
        · rename_i kvs kk h4 h5
          split at e
          · rename_i hz
            cases e
            refine Rd.go s rE h1 fun x H1 μ1 s1 l1 r1 => Rd.go s1 (rE.mono l1) h2 fun y H2 μ2 s2 l2 r2 => Rd.go s2 ((rE.mono l1).mono l2) h3 fun z H3 μ3 s3 l3 r3 => ?_
            obtain ⟨a, rfl, hm, ks, ha, ra⟩ := s3.loc (r2.mono l3) (dcell_at h4) (by simp)
            have ez := keyP_at r3 h5
            subst ez
            have l := le_upd (H := H3) (o := .dK (putK ks kk x)) hm
            refine ⟨a, _, rfl, DPut.k ha (by rw [ra.length]; exact hz), k σ _ μ3 (sim_upd s3 hm ⟨_, upd_same, (ra.put ((r1.mono l2).mono l3)).mono l⟩) ?_ (rE.mono ?_)⟩
            · exact l1.trans (l2.trans (l3.trans l))
            · exact l1.trans (l2.trans (l3.trans l))
          · cases e
        · cases e
      · cases e
    · cases e
  · cases e
/-- l[i] = e of a list -/
def sLput (fo fi fv : FE) : FS := fun env st => match fv env st with
  | some (v, st1) => (match fo env st1 with
    | some (.loc n, st2) => (match fi env st2 with
      | some (.int j, st3) => (match lcell n st3 with
        | some xs => (match ixN xs.length j with
          | some m => some (.nx, env, st3.set n (.lst (xs.set m v)))
          | none => none)
        | none => none)
      | _ => none)
    | _ => none)
  | none => none
theorem simS_lput (ho : SimE X o fo) (hi : SimE X i fk) (hv : SimE X e fv) (hs : swapsWithSole [.Subscript o i pos'] e pos.line X.env = pure false := by rfl) (hw : swappedStores [.Subscript o i pos'] e X.env = pure none := by rfl)
    (h1 : (assignEach [.Subscript o i pos'] X.env).map (·.2) = [assign (.Subscript o i pos') X.env] := by rfl)
    (ha : ∀ v, assign (.Subscript o i pos') X.env v = (do
      let ov ← holding [v] (eval o X.env)
      let iv ← holding [v, ov] (eval i X.env)
      standAt pos'
      holding [v, ov, iv] (setItem ov iv v)
      release [v, ov, iv] []) := by intro _; rfl) : SimS X (.Assign [.Subscript o i pos'] e pos) (sLput fo fk fv) := by
  refine psI (ps_asg hv (pg_sub ho hi set_list ha) hs hw h1) fun D σ H ⟨B, μ, st, env, fl, env', st', s, rE, e, k⟩ => ?_
  unfold sLput at e
  split at e
  · rename_i v st1 h1
    split at e
    · rename_i n st2 h2
      split at e
      · rename_i j st3 h3
        split at e
        · rename_i xs h4
          split at e
          · rename_i m h5
            cases e
            refine Rd.go s rE h1 fun x H1 μ1 s1 l1 r1 => Rd.go s1 (rE.mono l1) h2 fun y H2 μ2 s2 l2 r2 => Rd.go s2 ((rE.mono l1).mono l2) h3 fun z H3 μ3 s3 l3 r3 => ?_
            obtain ⟨a, rfl, hm, vs, ha, ra⟩ := s3.loc (r2.mono l3) (lcell_at h4) (by simp)
            have l := le_upd (H := H3) (o := .lst (vs.set m x)) hm
            refine ⟨a, vs, j, m, rfl, r3.int_inv, ha, by rw [ra.length]; exact h5, k σ _ μ3 (sim_upd s3 hm ⟨_, upd_same, ?_⟩) ?_ (rE.mono ?_)⟩
            · exact (RepVs.set ((r1.mono l2).mono l3) m ra).mono l
            · exact l1.trans (l2.trans (l3.trans l))
            · exact l1.trans (l2.trans (l3.trans l))
          · cases e
        · cases e
      · cases e
    · cases e
  · cases e
end
end L3
end
section
set_option Elab.async false
set_option linter.all false
set_option maxRecDepth 100000
namespace L3
open PySem PySem.Spec PyProof.Rows L2

/-! ### texts in order -/
def insS (x : Str) : List Str → List Str
  | [] => [x]
  | y :: r => if PySem.Spec.ltCps y.cps.toList x.cps.toList then y :: insS x r else x :: y :: r
def srtS : List Str → List Str
  | [] => []
  | x :: r => insS x (srtS r)
abbrev leS (a b : Str) : Prop := PySem.Spec.ltCps b.cps.toList a.cps.toList = false
theorem lt_irr : ∀ a : List Nat, PySem.Spec.ltCps a a = false
  | [] => rfl
  | x :: r => by simp [PySem.Spec.ltCps, lt_irr r]
theorem lt_tr : ∀ a b c : List Nat, PySem.Spec.ltCps a b = true → PySem.Spec.ltCps b c = true → PySem.Spec.ltCps a c = true
  | _, _, [], _, h => by rename_i b _; cases b <;> simp [PySem.Spec.ltCps] at h
  | [], _, _ :: _, _, _ => rfl
  | _ :: _, [], _ :: _, h, _ => by simp [PySem.Spec.ltCps] at h
  | x :: a, y :: b, z :: c, h1, h2 => by
    simp only [PySem.Spec.ltCps, Bool.or_eq_true, Bool.and_eq_true, decide_eq_true_eq, beq_iff_eq] at h1 h2 ⊢
    rcases h1 with h1 | ⟨rfl, h1⟩
    · rcases h2 with h2 | ⟨rfl, h2⟩
      · exact .inl (by omega)
      · exact .inl h1
    · rcases h2 with h2 | ⟨rfl, h2⟩
      · exact .inl h2
      · exact .inr ⟨rfl, lt_tr a b c h1 h2⟩
theorem lt_tri : ∀ a b : List Nat, PySem.Spec.ltCps a b = false → PySem.Spec.ltCps b a = false → a = b
  | [], [], _, _ => rfl
  | [], _ :: _, h, _ => by simp [PySem.Spec.ltCps] at h
  | _ :: _, [], _, h => by simp [PySem.Spec.ltCps] at h
  | x :: a, y :: b, h1, h2 => by
    simp only [PySem.Spec.ltCps, Bool.or_eq_false_iff, Bool.and_eq_false_iff, decide_eq_false_iff_not, beq_eq_false_iff_ne] at h1 h2
    have e : x = y := by omega
    subst e
    have q1 : PySem.Spec.ltCps a b = false := by rcases h1.2 with h | h; exact absurd rfl h; exact h
    have q2 : PySem.Spec.ltCps b a = false := by rcases h2.2 with h | h; exact absurd rfl h; exact h
    rw [lt_tri a b q1 q2]
theorem le_tr {a b c : Str} (h1 : leS a b) (h2 : leS b c) : leS a c := by
  unfold leS at *
  cases h : PySem.Spec.ltCps c.cps.toList a.cps.toList with
  | false => rfl
  | true =>
    cases h3 : PySem.Spec.ltCps a.cps.toList b.cps.toList with
    | true => rw [lt_tr _ _ _ h h3] at h2; cases h2
    | false =>
      have e := lt_tri _ _ h3 h1
      rw [e] at h
      rw [h] at h2; cases h2
theorem le_anti {a b : Str} (h1 : leS a b) (h2 : leS b a) : a = b := by
  have e := lt_tri _ _ h2 h1
  cases a; cases b
  simp only [Str.mk.injEq]
  exact Array.toList_inj.mp e
theorem le_tot {a b : Str} (h : PySem.Spec.ltCps a.cps.toList b.cps.toList = true) : leS a b := by
  unfold leS
  cases h2 : PySem.Spec.ltCps b.cps.toList a.cps.toList with
  | false => rfl
  | true => rw [← lt_irr a.cps.toList]; exact (lt_tr _ _ _ h h2).symm
theorem rising_pw : ∀ (r : List Str) (x : Str), risingS x r = true → (x :: r).Pairwise leS
  | [], x, _ => List.pairwise_singleton _ _
  | y :: r, x, h => by
    simp only [risingS, Bool.and_eq_true, Bool.not_eq_true'] at h
    have ih := rising_pw r y h.2
    refine List.pairwise_cons.mpr ⟨fun z hz => ?_, ih⟩
    rcases List.mem_cons.mp hz with rfl | hz
    · exact h.1
    · exact le_tr h.1 ((List.pairwise_cons.mp ih).1 z hz)
theorem sorted_pw {l : List Str} (h : sortedS l = true) : l.Pairwise leS := by
  cases l with
  | nil => exact List.Pairwise.nil
  | cons x r => exact rising_pw r x h
theorem ins_perm (x : Str) : ∀ l : List Str, (insS x l).Perm (x :: l)
  | [] => List.Perm.refl _
  | y :: r => by
    unfold insS
    split
    · exact ((ins_perm x r).cons y).trans (List.Perm.swap x y r)
    · exact List.Perm.refl _
theorem srt_perm : ∀ l : List Str, (srtS l).Perm l
  | [] => List.Perm.refl _
  | x :: r => (ins_perm x (srtS r)).trans ((srt_perm r).cons x)
theorem ins_pw {x : Str} : ∀ {l : List Str}, l.Pairwise leS → (insS x l).Pairwise leS
  | [], _ => List.pairwise_singleton _ _
  | y :: r, h => by
    obtain ⟨h1, h2⟩ := List.pairwise_cons.mp h
    unfold insS
    split
    · rename_i hy
      refine List.pairwise_cons.mpr ⟨fun z hz => ?_, ins_pw h2⟩
      rcases List.mem_cons.mp ((ins_perm x r).mem_iff.mp hz) with rfl | hz
      · exact le_tot hy
      · exact h1 z hz
    · rename_i hy
      have hxy : leS x y := by simpa using hy
      refine List.pairwise_cons.mpr ⟨fun z hz => ?_, h⟩
      rcases List.mem_cons.mp hz with rfl | hz
      · exact hxy
      · exact le_tr hxy (h1 z hz)
theorem srt_pw : ∀ l : List Str, (srtS l).Pairwise leS
  | [] => List.Pairwise.nil
  | _ :: r => ins_pw (srt_pw r)
theorem pw_uniq : ∀ {l m : List Str}, l.Perm m → l.Pairwise leS → m.Pairwise leS → l = m
  | [], m, p, _, _ => (List.nil_perm.mp p).symm
  | x :: l, [], p, _, _ => absurd p.length_eq (by simp)
  | x :: l, y :: m, p, h1, h2 => by
    obtain ⟨a1, a2⟩ := List.pairwise_cons.mp h1
    obtain ⟨b1, b2⟩ := List.pairwise_cons.mp h2
    have e : x = y := by
      have hx : x ∈ y :: m := p.mem_iff.mp (by simp)
      have hy : y ∈ x :: l := p.mem_iff.mpr (by simp)
      rcases List.mem_cons.mp hx with h | hx
      · exact h
      · rcases List.mem_cons.mp hy with h | hy
        · exact h.symm
        · exact le_anti (a1 y hy) (b1 x hx)
    subst e
    rw [pw_uniq (List.Perm.cons_inv p) a2 b2]
def keysS : List (Key × PV) → Option (List Str)
  | [] => some []
  | (.inr x, _) :: r => (match keysS r with
    | some ks => some (x :: ks)
    | none => none)
  | _ => none
theorem keysS_at : ∀ {kvs : List (Key × PV)} {ks : List Str}, keysS kvs = some ks → kvs.map (·.1) = ks.map Sum.inr
  | [], ks, h => by cases h; rfl
  | (.inl _, _) :: r, ks, h => by simp [keysS] at h
  | (.inr x, v) :: r, ks, h => by
    unfold keysS at h
    split at h
    · rename_i k2 h2
      cases h
      rw [List.map_cons, List.map_cons, keysS_at h2]
    · cases h
/-- sorted(d) -/
def cSrtD : GA := fun as st => match as with
  | [.loc n] => (match dcell n st with
    | some kvs => (match keysS kvs with
      | some ks => if ks.length < 64 then some (.lst ((srtS ks).map .str), st) else none
      | none => none)
    | none => none)
  | _ => none
section
variable {X : Cx} {pos pos' p : Pos} {o i e e2 : Expr} {fo fk fv f : FE} {fa : FA}
theorem rep_strs {K : PySem.W.Frag} {B : Addr → Prop} {μ : Mu} {H : Hp} : ∀ ks : List Str, RepVs K B μ H (ks.map V.str) (ks.map PV.str)
  | [] => .nil
  | x :: r => .cons (.str x) (rep_strs r)
theorem simE_sortedD (hc : X.calm = true) (hgl : Gl X "sorted") (hm : X.mg "sorted" = none) (ha : SimA X [e] fa) (he : starEach [e] X.env = (false, eval e X.env) :: starEach [] X.env := by rfl) : SimE X (.Call (.Name "sorted" p) [e] [] pos) (eCall cSrtD fa) := by
  refine simE_callB (call_sortedD hc) ?_ hgl hm (by decide +kernel) ha (he := he)
  intro B μ st H xs ps v st' Q s r e k
  unfold cSrtD at e
  split at e
  · split at e
    · rename_i kvs h
      split at e
      · rename_i ks hk
        split at e
        · rename_i h64
          cases e
          obtain ⟨x, rfl, rx⟩ := r.one
          obtain ⟨a, rfl, hm, gs, ha, ra⟩ := s.loc rx (dcell_at h) (by simp)
          refine ⟨a, gs, ks, rfl, .inl ha, by rw [ra.keys]; exact keysS_at hk, h64, fun ys p hp hs hq => ?_⟩
          have ey : ys = srtS ks := pw_uniq (hp.trans (srt_perm ks).symm) (sorted_pw hs) (srt_pw ks)
          subst ey
          exact k _ _ μ (sim_new s hq) (le_new s hq) (rep_lst s hq (rep_strs _))
        · cases e
      · cases e
    · cases e
  · cases e

/-! ### d.get(k) of a written dict with text keys -/
def eKget (tab : Str → Option PV) (f : FE) : FE := fun env st => match f env st with
  | some (.str z, st1) => some ((tab z).getD .non, st1)
  | _ => none
/-- what the written dict at d says, key by key -/
def KTab (K : PySem.W.Frag) (d : Addr) (tab : Str → Option PV) : Prop := ∀ z, ∃ r, PySem.W.nsIn K d z = some r ∧ match r, tab z with
  | some u, some p => ∃ v, RelV v u ∧ ∀ (B : Addr → Prop) (μ : Mu) (H : Hp), RepV K B μ H v p
  | none, none => True
  | _, _ => False
theorem simE_kget {x : Str} {d : Addr} {es : Array DictEntry} {n : Nat} {tab : Str → Option PV} {p1 apos cpos : Pos} (D : KDict X.K X.w d es n) (T : KTab X.K d tab) (hg : Gl X x) (hm : X.mg x = some (.ref d)) (he : SimE X e f) (m : M1 X (.Name x p1) "get" apos e cpos) (hdb : (x == ("__debug__" : Str)) = false := by decide) :
    SimE X (.Call (.Attribute (.Name x p1) "get" apos) [e] [] cpos) (eKget tab f) := by
  refine ⟨fun pins s σ H Q I ⟨B, μ, st, env, v, st', s0, rE, e, k⟩ => ?_⟩
  unfold eKget at e
  split at e
  · rename_i z st1 h1
    cases e
    refine wpAny_Call_method m.base m.few m.line PySem.F.plainAttrs_dict PySem.F.slot_dict_get PySem.F.type_dict_get (ld_glob I hg hm ?_ hdb)
    have hobj := I.kIn d _ D.at_
    refine ⟨kd_type D I, fun b q => ?_, ?_⟩
    · cases q; exact ⟨_, hobj, rfl⟩
    · rw [m.trees]
      refine Calls.callWith_builtin rfl (Calls.evalArgs_plain (Calls.spliced_cons (thn (he.run pins s σ H (fun y H1 => ∃ μ1, Sim X.K B μ1 st' H1 ∧ Le μ H μ1 H1 ∧ RepV X.K B μ1 H1 y (.str z)) I (Rd.go s0 rE h1 fun y H1 μ1 s1 l1 r1 => ⟨μ1, s1, l1, r1⟩)) fun iv s1 ⟨y, H1, I1, ry, μ1, sm, l1, rp⟩ => Calls.spliced_nil ?_)))
      cases rp
      obtain ⟨t, rfl⟩ := ry
      obtain ⟨r, hr, hrel⟩ := T z
      have hmap := PySem.W.mapOf_K (prog := X.prog) (w := X.w) I1.kIn D.at_ D.lit
      refine call_meetsIn PySem.F.slot_dict_get (kd_type D I1) PySem.F.entry_dict_get (PySem.F.args_dict_get_2 _ _) (meets_dict_get (PySem.strKind X.prog X.w) d (PySem.strKind_is X.prog X.w z t) D.low) ⟨_, hmap, ?_⟩
      rw [PySem.W.find_K D.at_ hr]
      cases r with
      | none =>
        cases ht : tab z with
        | none =>
          rw [ht] at k
          exact ⟨.non, H1, I1.tok _, rfl, k .non H1 μ1 sm l1 .non⟩
        | some p => rw [ht] at hrel; exact hrel.elim
      | some u =>
        cases ht : tab z with
        | none => rw [ht] at hrel; exact hrel.elim
        | some p =>
          rw [ht] at hrel k
          obtain ⟨w, rw', rr⟩ := hrel
          exact ⟨w, H1, I1.tok _, rw', k w H1 μ1 sm l1 (rr _ _ _)⟩
  · cases e
end

/-! ### a def f(a, *r) -/
section
variable {P : Program} {w : World} {K : PySem.W.Frag} {mg : Str → Option Value} {base : Heap}
def fnV (nmax m : Nat) (b : FS) : GA := fun ps st => match ps with
  | p :: rest => if rest.length ≤ nmax then (match b ([some p, some (.tup rest)] ++ List.replicate m none) st with
    | some (.ret v, _, st') => some (v, st')
    | some (.nx, _, st') => some (.non, st')
    | _ => none) else none
  | [] => none
theorem fnV_prom {x qual : Str} {st : Stmt} {f : Addr} {fd : FuncData} {N : List Str} {pa pv : Str} {k nmax : Nat} {b : FS} (F : Fun K x qual st f fd) (S : FnScope N [pa, pv] (defScope st)) (hz : nmax ≤ sizeLine)
    (hbind : ∀ (kV doc pm : Value) (an : Option Addr) (cdv ct : Value) (u : Value) (rest : List Value), rest.length ≤ nmax → bindArgs (PySem.W.fnOf x qual (defArgs st) (defBody st) (defScope st) .none kV doc pm an cdv ct) ⟨u :: rest, []⟩ = (newTuple rest >>= fun t => pure [(pa, u), (pv, t)]))
    (hb : ∀ (cdv : Value) (A : Around) (outer : List Env) (s : Shared) (H : Hp) (E : XK), Room k (A.deeper (envOfC qual (defScope st) s.heap.objs.size f cdv)) → SimSs (cxOf L2.CX0 P w K mg base N qual (defScope st) f cdv A outer s H E).nox (defBody st) b) :
    FnR P w K mg base L2.CX0 (k + 1) f (spF K (fnV nmax (N.length - 2) b)) := by
  obtain ⟨oc, od, kV, doc, pm, an, cdv, ct, osl, rfl, lk, hcd⟩ := F.ex
  have G := fn_ofV (CX := L2.CX0) (P := P) (w := w) (mg := mg) (base := base) (k := k) (sp := spF K fun ps st => match ps with
    | [p, t] => (match b ([some p, some t] ++ List.replicate (N.length - 2) none) st with
      | some (.ret v, _, st') => some (v, st')
      | some (.nx, _, st') => some (.non, st')
      | _ => none)
    | _ => none) lk hcd S hz (fun u rest hl => hbind kV doc pm an cdv ct u rest hl) (fun _ _ _ _ _ _ _ _ _ _ _ _ h => h.elim) (fun A outer s H vs Q E hr ⟨B, μ, st, ps', v, st', sm, r, e, kk⟩ => ?_)
  · refine G.imp fun vs H Q E ⟨B, μ, st, ps', v, st', sm, r, e, kk⟩ => ?_
    unfold fnV at e
    split at e
    · rename_i p rest
      split at e
      · rename_i hl
        cases r with
        | @cons vp vr _ _ rp rr =>
          refine ⟨vp, vr, rfl, by rw [rr.length]; exact hl, fun q hq => ?_⟩
          refine ⟨B, μ, st, [p, .tup rest], v, st', sim_new sm hq, .cons (rp.mono (le_new sm hq)) (.cons (rep_tup sm hq rr) .nil), e, Got_mono kk (le_new sm hq)⟩
      · cases e
    · cases e
  · refine ⟨_, (hb cdv A outer s H E hr).nox, ?_⟩
    simp only at e
    split at e
    · rename_i p t
      have hl : vs.length = 2 := r.length
      have hst : L2.start N vs = vs.map some ++ List.replicate (N.length - 2) none := by unfold L2.start; rw [hl]
      rw [hst]
      have re := repE_start (m := N.length - 2) r
      split at e
      · rename_i u env1 st1 h1
        have e5 : u = v ∧ st1 = st' := by cases e; exact ⟨rfl, rfl⟩
        obtain ⟨e5, e6⟩ := e5
        subst e5 e6
        exact RdS.go sm re h1 fun σ' H' μ' s' l' r' => fun x rx => kk x H' μ' s' l' rx
      · rename_i env1 st1 h1
        have e5 : PV.non = v ∧ st1 = st' := by cases e; exact ⟨rfl, rfl⟩
        obtain ⟨e5, e6⟩ := e5
        subst e5 e6
        exact RdS.go sm re h1 fun σ' H' μ' s' l' r' => kk .non H' μ' s' l' .non
      · cases e
    · cases e
end
end L3
end
section
set_option Elab.async false
set_option linter.all false
set_option maxRecDepth 100000
namespace L3
open PySem PySem.Spec PyProof.Rows L2

/-- a text and the tuple at b, the items in new pairs -/
def ItzS (K : PySem.W.Frag) (x : Str) (b : Addr) : It :=
  ⟨fun i H => ∃ (c : Nat) (ys : List V) (y : V), x.cps[i]? = some c ∧ SqT K H b ys ∧ ys[i]? = some y,
    fun i H v H' => ∃ T c y, v = .ref T ∧ H T = none ∧ H' = upd H T (.tup [.str ⟨#[c]⟩, y]) ∧ x.cps[i]? = some c ∧ ∀ ys, SqT K H b ys → ys[i]? = some y,
    fun i H => ∃ ys : List V, SqT K H b ys ∧ min x.cps.size ys.length = i⟩
theorem turn_zipS {P : Program} {w : World} {K : PySem.W.Frag} {elts : List Expr} {kk : Nat} {tpos : Pos} {b z TI TO i1 i2 : Addr} {x : Str} {t : Tok} (S : ZipSep2 z TI TO i1 i2 [i1] [i2, b]) (hbz : b ≠ z ∧ b ≠ TO ∧ b ≠ i1 ∧ b ≠ i2) :
    Turn P w K (.Tuple elts kk tpos) (ItzS K x b) [z, TI, TO, i1, i2] z (fun i h => IsZip h z TI TO .none ∧ IsTupOf2 h TI (.ref i1) (.ref i2) ∧ (∃ a1 a2, IsTupOf2 h TO a1 a2) ∧ h.IsStrIter i1 (strIterType x) x t i ∧ h.IsTupleIter i2 b i) where
  mem := by simp
  obj := fun i h st c hc => by
    obtain ⟨hz, hTI, ⟨x, y, hTO⟩, ⟨o1, e1, _, d1⟩, ⟨o2, e2, _, d2⟩⟩ := st
    have e' : c = z ∨ c = TI ∨ c = TO ∨ c = i1 ∨ c = i2 := by simpa using hc
    rcases e' with q | q | q | q | q
    · rw [q]; exact ⟨_, hz, fun v q => nomatch q⟩
    · rw [q]; exact ⟨_, hTI, fun v q => nomatch q⟩
    · rw [q]; exact ⟨_, hTO, fun v q => nomatch q⟩
    · rw [q]; exact ⟨o1, e1, fun v q => by rw [d1] at q; cases q⟩
    · rw [q]; exact ⟨o2, e2, fun v q => by rw [d2] at q; cases q⟩
  keep := fun i h h' st k => by
    obtain ⟨hz, hTI, ⟨x, y, hTO⟩, h1, h2⟩ := st
    exact ⟨k z (by simp) _ hz, k TI (by simp) _ hTI, ⟨x, y, k TO (by simp) _ hTO⟩, (let ⟨o, e, c, d⟩ := h1; ⟨o, k i1 (by simp) o e, c, d⟩), h2.at fun o q => k i2 (by simp) o q⟩
  item := by
    intro X hP hw hK hc i pins s σ H E I hf st hg
    subst hP hw hK
    obtain ⟨hz, hTI, hTO, h1, h2⟩ := st
    obtain ⟨c, ys, y, hx, hqy, hy⟩ := hg
    obtain ⟨its2, rv2, p2, _⟩ := I.tuple hqy
    obtain ⟨u2, hu2, ru2⟩ := rv2.get hy
    have hh : X.A.in1.handled = none := I.ok.hd hc
    have W := WalksT.zipD2 (prog := X.prog) (w := X.w) (A := X.A) S (Draws.text hh i1 x t) (Draws.tuple hh i2 b hbz.2.2.2 its2.toArray)
    have hi1 : i < x.cps.size := (Array.getElem?_eq_some_iff.mp hx).1
    have hi2 : i < its2.toArray.size := by
      have := (List.getElem?_eq_some_iff.mp hu2).1
      simpa using this
    refine W.item i s _ _ (by omega) ⟨hz, hTI, hTO, h1, h2, p2⟩ fun T vals h' tk hP hTs hT hMid hk => ?_
    obtain ⟨w1, w2, ⟨c', tc, hc', rfl⟩, hw2, rfl⟩ := hP
    rw [hx] at hc'; cases hc'
    have eu : w2 = u2 := by
      rw [List.getElem?_toArray, hu2] at hw2
      exact (Option.some.inj hw2).symm
    subst eu
    refine ⟨_, rfl, W.go elts kk tpos i T { s with heap := h', toks := tk } _ _ hMid fun h'' st' hk2 => ?_⟩
    have apT := W.apart i T h' hMid
    obtain ⟨oT, eT, cT, nT, dT⟩ := (show IsTup h' T #[.str ⟨#[c]⟩ tc, w2] from hT)
    have hT2 : IsTup h'' T #[.str ⟨#[c]⟩ tc, w2] := ⟨oT, hk2 T oT apT eT, cT, nT, dT⟩
    have hHT : H T = none := I.hok.fresh hTs
    have new : ObjOk X.prog X.w (upd H T (.tup [.str ⟨#[c]⟩, y])) h'' T (.tup [.str ⟨#[c]⟩, y]) :=
      ⟨by show 2 ≤ sizeLine; decide, [.str ⟨#[c]⟩ tc, w2], .cons ⟨tc, rfl⟩ (.cons ru2 .nil), hT2⟩
    have sub : ∀ d, d ∈ [z, TO, i1, i2] → d ∈ [z, TI, TO, i1, i2] := fun d hd => by
      rcases (by simpa using hd : d = z ∨ d = TO ∨ d = i1 ∨ d = i2) with q | q | q | q <;> simp [q]
    have I1 : Inv X pins σ (upd H T (.tup [.str ⟨#[c]⟩, y])) { s with heap := h'', toks := tk } :=
      I.turnedNew (t' := tk) (ch := [z, TI, TO, i1, i2]) (fun d o hb q => hk2 d o (fun m => hb (sub d m)) (hk d o (fun m => hb (sub d m)) q)) hf hTs new
    obtain ⟨s1, s2, s3, s4, s5, _⟩ := st'
    refine ⟨.ref T, _, I1, rfl, ⟨_, c, y, rfl, hHT, rfl, hx, fun l hl => by rw [I.tuple_inj hl hqy]; exact hy⟩, ⟨s1, s2, s3, s4, s5⟩, fun d hd => ?_⟩
    have hlt : d < s.heap.objs.size := by
      have e' : d = z ∨ d = TI ∨ d = TO ∨ d = i1 ∨ d = i2 := by simpa using hd
      rcases e' with q | q | q | q | q
      · rw [q]; exact Heap.lt_size hz
      · rw [q]; exact Heap.lt_size hTI
      · rw [q]; obtain ⟨_, _, h⟩ := hTO; exact Heap.lt_size h
      · rw [q]; obtain ⟨_, e1, _⟩ := h1; exact Heap.lt_size e1
      · rw [q]; obtain ⟨_, e2, _⟩ := h2; exact Heap.lt_size e2
    rw [upd_ne (Nat.ne_of_lt (Nat.lt_of_lt_of_le hlt hTs))]
    exact (hf d hd).1
  done := by
    intro X hP hw hK hc i pins s σ H E I hf st hg
    subst hP hw hK
    obtain ⟨hz, hTI, hTO, h1, h2⟩ := st
    obtain ⟨ys, hqy, hend⟩ := hg
    obtain ⟨its2, rv2, p2, _⟩ := I.tuple hqy
    have l2 := rv2.length
    have hh : X.A.in1.handled = none := I.ok.hd hc
    have W := WalksT.zipD2 (prog := X.prog) (w := X.w) (A := X.A) S (Draws.text hh i1 x t) (Draws.tuple hh i2 b hbz.2.2.2 its2.toArray)
    have ei : min x.cps.size its2.toArray.size = i := by rw [show its2.toArray.size = ys.length from List.size_toArray.trans l2.symm]; exact hend
    have sub : ∀ d, d ∈ [z, TO, i1, i2] → d ∈ [z, TI, TO, i1, i2] := fun d hd => by
      rcases (by simpa using hd : d = z ∨ d = TO ∨ d = i1 ∨ d = i2) with q | q | q | q <;> simp [q]
    refine W.done s _ _ (by rw [ei]; exact ⟨hz, hTI, hTO, h1, h2, p2⟩) fun h' tk hk => ?_
    exact ⟨rfl, I.turnedL (t' := tk) (ch := [z, TI, TO, i1, i2]) (fun d o hb q => hk d o (fun m => hb (sub d m)) q) hf⟩
  self := fun A i s Q E st h => wpAny_pyIter_zip st.1 h
section
variable {X : Cx} {e e2 : Expr} {fa : FA}
theorem pi_zipS {ta : L2.TA} {p pos tpos : Pos} {elts : List Expr} {kk : Nat} (hg : Gl X "zip") (hm : X.mg "zip" = none) (ha : PA X [e, e2] ta)
    (hs : starEach [e, e2] X.env = (false, eval e X.env) :: starEach [e2] X.env := by rfl) (hpl : (backTo pos (starEach [e2] X.env)).any (·.1) = false := by rfl) :
    PI X (.Tuple elts kk tpos) (.Call (.Name "zip" p) [e, e2] [] pos) (fun σ H R => ta σ H fun vs H1 => ∃ x b ys, vs = [.str x, .ref b] ∧ SqT X.K H1 b ys ∧ R (ItzS X.K x b) H1) := by
  refine ⟨fun pins s σ H R I h => ?_⟩
  refine Call_ (ld_blt I hg hm PyProof.Rows.boot_zip (PyProof.Rows.callWith_type1 (thn (ha.run pos pins s σ H _ I h) fun us s1 ⟨vs, H1, I1, r1, q1⟩ => ?_) hs hpl))
  obtain ⟨x, b, ys, ex, hqy, q⟩ := q1
  subst ex
  obtain ⟨u1, u2, rfl, rx, ry⟩ := Vals.two r1
  obtain ⟨t, rfl⟩ := rx
  cases ry
  have fresh5 : ∀ c, c ∈ [s1.heap.objs.size + 4, s1.heap.objs.size + 2, s1.heap.objs.size + 3, s1.heap.objs.size, s1.heap.objs.size + 1] → FpOk X pins H1 c := fun c hcm => by
    have e' : c = s1.heap.objs.size + 4 ∨ c = s1.heap.objs.size + 2 ∨ c = s1.heap.objs.size + 3 ∨ c = s1.heap.objs.size ∨ c = s1.heap.objs.size + 1 := by simpa using hcm
    have hle : s1.heap.objs.size ≤ c := by
      rcases e' with z | z | z | z | z
      · rw [z]; exact Nat.le_add_right _ _
      · rw [z]; exact Nat.le_add_right _ _
      · rw [z]; exact Nat.le_add_right _ _
      · rw [z]; exact Nat.le_refl _
      · rw [z]; exact Nat.le_add_right _ _
    exact I1.fpOk hle (I1.hok.fresh hle)
  obtain ⟨its2, rv2, p2, _⟩ := I1.tuple hqy
  have hb : b < s1.heap.objs.size := by obtain ⟨_, e, _⟩ := p2; exact Heap.lt_size e
  refine zip_begins2 (begins_text x t) (begins_tuple b its2.toArray) trivial p2 fun h' hz hTI hTO h1 h2 hsz hk => wpAny_pyIter_zip hz ?_
  have I2 : Inv X pins σ H1 { s1 with heap := h' } := I1.kept (t' := s1.toks) hk
  have S := zip_sep2 (N := s1.heap.objs.size) (fp1 := []) (fp2 := [b]) (by simp) (by simpa using hb)
  have ne : ∀ k : Nat, b ≠ s1.heap.objs.size + k := fun k => Nat.ne_of_lt (Nat.lt_of_lt_of_le hb (Nat.le_add_right _ _))
  exact ⟨s1.heap.objs.size + 4, [s1.heap.objs.size + 4, s1.heap.objs.size + 2, s1.heap.objs.size + 3, s1.heap.objs.size, s1.heap.objs.size + 1], _, _, H1, rfl, I2, turn_zipS (x := x) (t := t) S ⟨ne 4, ne 3, ne 0, ne 1⟩,
    ⟨hz, hTI, ⟨_, _, hTO⟩, ⟨_, h1, rfl, rfl⟩, ⟨_, h2, rfl, rfl⟩⟩, fresh5, q⟩
def iZpS (fa : FA) : FI := fun env st => match fa env st with
  | some ([.str z, .tup ys], st1) => some (zipP (signs z) ys, st1)
  | _ => none
theorem itP_zipS {K : PySem.W.Frag} {B : Addr → Prop} {μ : Mu} {H : Hp} {ys : List PV} {x : Str} {b : Addr} {ws : List V} (hr : (¬ live μ b ∧ H b = some (.tup ws)) ∨ SqT K (fun _ => none) b ws) (r2 : RepVs K B μ H ws ys) : ItP K B (ItzS K x b) (zipP (signs x) ys) μ H where
  go := fun i μ2 H2 hi l => by
    have hi' : i < x.cps.size ∧ i < ys.length := by simpa [zipP, signs, Nat.lt_min] using hi
    obtain ⟨w, hw, _⟩ := r2.get (List.getElem?_eq_getElem hi'.2)
    exact ⟨x.cps[i], ws, w, Array.getElem?_eq_getElem hi'.1, sqT_keep hr l, hw⟩
  stop := fun μ2 H2 l => ⟨ws, sqT_keep hr l, by rw [r2.length]; simp [zipP, signs]⟩
  yld := fun B' hbb i z μ2 st H2 v H3 hx l s y => by
    obtain ⟨T, c, w, rfl, hT, rfl, hc, hy2⟩ := y
    have hi : i < (zipP (signs x) ys).length := (List.getElem?_eq_some_iff.mp hx).1
    have hi' : i < x.cps.size ∧ i < ys.length := by simpa [zipP, signs, Nat.lt_min] using hi
    have ex : z = .tup [.str ⟨#[c]⟩, ys[i]] := by
      have := (List.getElem?_eq_some_iff.mp hx).2
      rw [← this]
      have hc2 := (Array.getElem?_eq_some_iff.mp hc).2
      simp [zipP, signs, hc2]
    subst ex
    obtain ⟨w', hw, rw'⟩ := (r2.wide hbb).get (List.getElem?_eq_getElem hi'.2)
    have q2 := hy2 ws (sqT_keep hr l)
    rw [hw] at q2; cases q2
    exact pair_new s hT (.str _) (rw'.mono l)
theorem simI_zipS {p pos tpos : Pos} {elts : List Expr} {kk : Nat} (hg : Gl X "zip") (hm : X.mg "zip" = none) (ha : SimA X [e, e2] fa)
    (hs : starEach [e, e2] X.env = (false, eval e X.env) :: starEach [e2] X.env := by rfl) (hpl : (backTo pos (starEach [e2] X.env)).any (·.1) = false := by rfl) :
    SimI X (.Tuple elts kk tpos) (.Call (.Name "zip" p) [e, e2] [] pos) (iZpS fa) := by
  refine piI (pi_zipS hg hm ha hs hpl) fun σ H R ⟨B, μ, st, env, xs, st', s, r, e, k⟩ => ?_
  unfold iZpS at e
  split at e
  · rename_i z ys st1 h1
    cases e
    refine RdA.go s r h1 fun vs H1 μ1 s1 l1 r1 => ?_
    obtain ⟨x, y, rfl, rx, ry⟩ := r1.two
    cases rx
    obtain ⟨b, ws, rfl, hr, rb⟩ := ry.tup_at
    exact ⟨_, _, _, rfl, sqT_keep hr (Le.refl _ _), k _ H1 μ1 s1 l1 (itP_zipS hr rb)⟩
  · cases e
end
end L3
end
section
set_option Elab.async false
set_option linter.all false
set_option maxRecDepth 100000
namespace L3
open PySem PySem.Spec PyProof.Rows L2

/-! ### defs by name -/
structure Cal (P : Program) (w : World) (K : PySem.W.Frag) (mg : Str → Option Value) (base : Heap) (k : Nat) (x : Str) (g : GA) : Prop where
  ex : ∃ f, FnR P w K mg base L2.CX0 k f (spF K g) ∧ mg x = some (.ref f) ∧ PySem.W.keepIn K (.ref f) = true
structure Met (P : Program) (w : World) (K : PySem.W.Frag) (mg : Str → Option Value) (base : Heap) (k : Nat) (C : Addr) (m : Str) (g : GA) : Prop where
  ex : ∃ f, Cls K C ∧ Meth K C m f ∧ FnR P w K mg base L2.CX0 k f (spF K g)
structure Mak (P : Program) (w : World) (K : PySem.W.Frag) (mg : Str → Option Value) (base : Heap) (k : Nat) (x : Str) (C : Addr) (g : GA) : Prop where
  ex : ∃ f fd ps, L2.Mk K C f ∧ FnOk P w K mg base L2.CX0 k f fd ps (spF K g) ∧ mg x = some (.ref C) ∧ Binds K fd ps []
/-- room for deep data -/
theorem hu_big {A : Around} {n : Nat} (hr : Room (n + 50) A) : A.units + 1000 < cLine := by
  have := hr.un
  omega
section
variable {X : Cx} {pos p apos : Pos} {x m : Str} {k : Nat} {C : Addr} {g : GA} {e o : Expr} {es : List Expr} {f fo : FE} {fa : FA}
theorem caS (c : Cal X.prog X.w X.K X.mg X.base k x g) (hr : Room k X.A) (hg : Gl X x) (ha : SimA X (e :: es) fa)
    (hdb : (x == ("__debug__" : Str)) = false := by decide) (he : starEach (e :: es) X.env = (false, eval e X.env) :: starEach es X.env := by rfl) (hpl : (backTo pos (starEach es X.env)).any (·.1) = false := by rfl) : SimE X (.Call (.Name x p) (e :: es) [] pos) (eS g fa) := by
  obtain ⟨a, F, hm, hk⟩ := c.ex
  exact simE_callS F hr hg hm hk ha hdb he hpl
theorem caP (c : Cal X.prog X.w X.K X.mg X.base k x g) (hr : Room k X.A) (hg : Gl X x) (ha : SimA X (e :: es) fa)
    (hdb : (x == ("__debug__" : Str)) = false := by decide) (he : starEach (e :: es) X.env = (false, eval e X.env) :: starEach es X.env := by rfl) (hpl : (backTo pos (starEach es X.env)).any (·.1) = false := by rfl) : SimE X (.Call (.Name x p) (e :: es) [] pos) (eP g fa) := by
  obtain ⟨a, F, hm, hk⟩ := c.ex
  exact simE_callP F hr hg hm hk ha hdb he hpl
theorem caS0 (c : Cal X.prog X.w X.K X.mg X.base k x g) (hr : Room k X.A) (hg : Gl X x) (hdb : (x == ("__debug__" : Str)) = false := by decide) : SimE X (.Call (.Name x p) [] [] pos) (eS g aNil) := by
  obtain ⟨a, F, hm, hk⟩ := c.ex
  exact simE_callS0 F hr hg hm hk hdb
theorem caP0 (c : Cal X.prog X.w X.K X.mg X.base k x g) (hr : Room k X.A) (hg : Gl X x) (hdb : (x == ("__debug__" : Str)) = false := by decide) : SimE X (.Call (.Name x p) [] [] pos) (eP g aNil) := by
  obtain ⟨a, F, hm, hk⟩ := c.ex
  exact simE_callP0 F hr hg hm hk hdb
theorem meS {pl : Sem Bool} (c : Met X.prog X.w X.K X.mg X.base k C m g) (hr : Room k X.A) (ho : SimE X o fo) (ha : SimA X (e :: es) fa)
    (hst : starEach (e :: es) X.env = (false, eval e X.env) :: starEach es X.env := by rfl) (hpl : (backTo pos (starEach es X.env)).any (·.1) = false := by rfl)
    (ht : eval (.Call (.Attribute o m apos) (e :: es) [] pos) X.env = (do
      let ov ← eval o X.env
      standAt apos.atName
      let (f, first) ← holding [ov] (getMethod ov m pl)
      callWith pos f first (backTo pos (starEach (e :: es) X.env)) (backToKw pos (keywordEach [] X.env))) := by rfl) : SimE X (.Call (.Attribute o m apos) (e :: es) [] pos) (eM C m g fo fa) := by
  obtain ⟨a, hC, hM, F⟩ := c.ex
  exact simE_meth hC hM F hr ho ha hst hpl ht
theorem meS0 {pl : Sem Bool} (c : Met X.prog X.w X.K X.mg X.base k C m g) (hr : Room k X.A) (ho : SimE X o fo)
    (ht : eval (.Call (.Attribute o m apos) [] [] pos) X.env = (do
      let ov ← eval o X.env
      standAt apos.atName
      let (f, first) ← holding [ov] (getMethod ov m pl)
      callWith pos f first (backTo pos (starEach [] X.env)) (backToKw pos (keywordEach [] X.env))) := by rfl) : SimE X (.Call (.Attribute o m apos) [] [] pos) (eM C m g fo aNil) := by
  obtain ⟨a, hC, hM, F⟩ := c.ex
  exact simE_meth0 hC hM F hr ho ht
theorem mkS (c : Mak X.prog X.w X.K X.mg X.base k x C g) (hr : Room (k + 1) X.A) (hg : Gl X x) (ha : SimA X (e :: es) fa)
    (hdb : (x == ("__debug__" : Str)) = false := by decide) (he : starEach (e :: es) X.env = (false, eval e X.env) :: starEach es X.env := by rfl) (hpl : (backTo pos (starEach es X.env)).any (·.1) = false := by rfl) : SimE X (.Call (.Name x p) (e :: es) [] pos) (eNew C g fa) := by
  obtain ⟨fi, fd, ps, M, F, hm, hb⟩ := c.ex
  exact simE_new M F hr hg hm hb ha hdb he hpl
end

/-! ### ghosts: a field's list is done -/
/-- the list in the field fn of the instance in slot i is no cell any more -/
def sFrzF (i : Nat) (fn : Str) (b : FS) : FS := fun env st => match env[i]? with
  | some (some (.loc n)) => (match icell n st with
    | some (C, fs) => (match fs.lookup fn with
      | some (.loc m) => (match lcell m st with
        | some xs => b env ((st.set m .dead).set n (.ins C (putFP fn (.lst xs) fs)))
        | none => none)
      | _ => none)
    | none => none)
  | _ => none
section
variable {K : PySem.W.Frag} {B : Addr → Prop} {μ μ' : Mu} {H H' : Hp} {st st' : Store}
theorem kill {m : Nat} {a : Addr} {vs : List V} {xs : List PV} (s : Sim K B μ st H) (hm : μ[m]? = some (some a)) (ha : H a = some (.lst vs)) (ra : RepVs K B μ H vs xs) :
    Sim K B (μ.set m none) (st.set m .dead) H ∧ Le μ H (μ.set m none) H ∧ RepV K B (μ.set m none) H (.ref a) (.lst xs) := by
  have bk : ∀ (i : Nat) (b : Addr), (μ.set m none)[i]? = some (some b) → μ[i]? = some (some b) ∧ i ≠ m := fun i b hi => by
    by_cases h : m = i
    · subst h
      have hl : m < μ.length := (List.getElem?_eq_some_iff.mp hm).1
      rw [List.getElem?_set_self hl] at hi
      cases hi
    · rw [List.getElem?_set_ne h] at hi
      exact ⟨hi, fun e => h e.symm⟩
  have l2 : Le μ H (μ.set m none) H := ⟨by simp, fun i b _ hi => (bk i b hi).1, fun b o e nb => ⟨e, fun ⟨i, z⟩ => nb ⟨i, (bk i b z).1⟩⟩⟩
  refine ⟨⟨by simp [s.len], fun i j b h1 h2 => s.inj i j b (bk i b h1).1 (bk j b h2).1, fun i b h => s.out i b (bk i b h).1, s.occ, fun i c e => ?_⟩, l2, .lst (s.out m a hm) (fun ⟨i, z⟩ => (bk i a z).2 (s.inj i m a (bk i a z).1 hm)) ha (ra.mono l2)⟩
  by_cases h : m = i
  · subst h
    have hl : m < st.length := by
      have := (List.getElem?_eq_some_iff.mp e).1
      simpa using this
    rw [List.getElem?_set_self hl] at e
    cases e
    exact .inl ⟨rfl, by rw [List.getElem?_set_self (by rw [s.len]; exact hl)]⟩
  · rw [List.getElem?_set_ne h] at e
    rcases s.at_ i c e with ⟨q, z⟩ | ⟨b, z, rc⟩
    · exact .inl ⟨q, by rw [List.getElem?_set_ne h]; exact z⟩
    · exact .inr ⟨b, by rw [List.getElem?_set_ne h]; exact z, rc.mono l2 fun o e => e⟩
/-- another value for the same field, of the same thing -/
theorem RepKs.same {fn : Str} {v : V} {p : PV} (rv : RepV K B μ H v p) : ∀ {gs : List (Str × V)} {fs : List (Str × PV)}, RepKs K B μ H gs fs → gs.lookup fn = some v → RepKs K B μ H gs (putFP fn p fs)
  | _, _, .nil, e => by simp at e
  | (k, w) :: gs, (k', q) :: fs, .cons ⟨e, r⟩ t, h => by
    have e' : k = k' := e
    subst e'
    unfold putFP
    by_cases hk : k = fn
    · subst hk
      rw [if_pos rfl]
      have : w = v := by simpa [List.lookup_cons] using h
      subst this
      exact .cons ⟨rfl, rv⟩ t
    · rw [if_neg hk]
      have hb : (fn == k) = false := by simpa using fun e => hk e.symm
      exact .cons ⟨rfl, r⟩ (RepKs.same rv t (by simpa [List.lookup_cons, hb] using h))
end
theorem simSs_frzF {X : Cx} {ss : List Stmt} {i : Nat} {fn : Str} {b : FS} (h : SimSs X ss b) : SimSs X ss (sFrzF i fn b) := by
  refine pssI h fun D σ H ⟨B, μ, st, env, fl, env', st', s, r, e, k⟩ => ?_
  unfold sFrzF at e
  split at e
  · rename_i n h1
    split at e
    · rename_i C fs h2
      split at e
      · rename_i m h3
        split at e
        · rename_i xs h4
          obtain ⟨v, hv, rv⟩ := r.2 i _ h1
          obtain ⟨a, rfl, hn, dx, gs, ha, ra⟩ := s.loc rv (icell_at h2) (by simp)
          rcases ra.look fn with ⟨q, _⟩ | ⟨u, p, q1, q2, ru⟩
          · rw [h3] at q; cases q
          · rw [h3] at q1
            cases q1
            obtain ⟨b2, rfl, hm, vs, hb, rb⟩ := s.loc ru (lcell_at h4) (by simp)
            obtain ⟨s2, l2, rl⟩ := kill s hm hb rb
            have hmn : m ≠ n := fun z => by
              subst z
              have e1 := icell_at h2
              have e2 := lcell_at h4
              rw [e1] at e2; cases e2
            have hn2 : (μ.set m none)[n]? = some (some a) := by rw [List.getElem?_set_ne hmn]; exact hn
            have hu : upd H a (.ins C dx gs) = H := by
              funext z
              by_cases hz : z = a
              · subst hz; rw [upd_same, ha]
              · rw [upd_ne hz]
            have s3 := sim_upd (o := .ins C dx gs) (c := .ins C (putFP fn (.lst xs) fs)) s2 hn2 ⟨dx, gs, upd_same, by rw [hu]; exact RepKs.same rl (ra.mono l2) q2⟩
            rw [hu] at s3
            exact RdS.go s3 (r.mono l2) e (GotS_mono k l2)
        · cases e
      · cases e
    · cases e
  · cases e
end L3
end
section
set_option Elab.async false
set_option linter.all false
set_option maxRecDepth 100000
namespace L3
open PySem PySem.Spec PyProof.Rows L2

/-! ### zip over two tuples whose pairs are kept -/
section
variable {prog : Program} {w : World} {A : Around} {E : Value → Shared → Prop} {s : Shared} {z TI TO T i1 i2 l1 l2 : Addr} {f : Bool} {oT : Obj} {k1 k2 : Nat} {xs ys : Array Value}
theorem zk_item {x y : Value} {Q : Value → Shared → Prop} (D : ZipApart z TI TO i1 i2 l1 l2)
    (hz : IsZipHeld s.heap z TI TO T f) (hT : s.heap.get? T = some oT) (hTI : IsPair s.heap TI (.ref i1) (.ref i2))
    (h1 : s.heap.IsTupleIter i1 l1 k1) (h2 : s.heap.IsTupleIter i2 l2 k2) (hl1 : s.heap.IsTuple l1 xs) (hl2 : s.heap.IsTuple l2 ys) (hx : xs[k1]? = some x) (hy : ys[k2]? = some y)
    (hQ : ∀ h', IsZipHeld h' z TI TO T true → h'.IsTupleIter i1 l1 (k1 + 1) → h'.IsTupleIter i2 l2 (k2 + 1) → IsPair h' s.heap.objs.size x y →
      (∀ c o, ¬ c ∈ [z, i1, i2] → s.heap.get? c = some o → h'.get? c = some o) → Q (.ref s.heap.objs.size) { s with heap := h' }) :
    wpAny (model prog w) A (Builtin.«zip.__next__» ⟨[.ref z], []⟩) (fun fin s' => ∃ v, fin = .done (.ret v) ∧ Q v s') E s := by
  have f2 : ∀ {Q : Value → Shared → Prop}, Q (.bool false) s → wpAny (model prog w) A (field (.ref z) 2) Q E s := fun q => wpAny_field hz rfl (x := .bool false) rfl q
  have f3 : ∀ {Q : Value → Shared → Prop}, Q (.ref TI) s → wpAny (model prog w) A (field (.ref z) 3) Q E s := fun q => wpAny_field hz rfl (x := .ref TI) rfl q
  show wpAny _ _ (field (.ref z) 2 >>= _) _ _ _
  refine wpAny_bind (f2 ?_)
  show wpAny _ _ (field (.ref z) 3 >>= _) _ _ _
  refine wpAny_bind (f3 ?_)
  refine wpAny_bind (wpAny_seqItems hTI rfl ?_)
  show wpAny _ _ (Builtin.SmallTypes.ownedTupleIsFree (.ref z) >>= _) _ _ _
  refine wpAny_bind (wpAny_tupleHeld_zip hz hT fun ha za sa => ?_)
  simp only [Bool.false_eq_true, if_false]
  refine wpAny_bind ?_
  rw [← Array.forIn_toList]
  simp only [List.forIn_cons, List.forIn_nil]
  refine wpAny_bind (wpAny_bind (wpAny_holding (wpAny_bind (RZ.nextOf_tuple_item (h1.extBut sa.extBut D.i1z) (hl1.extBut sa.extBut D.l1z) hx fun hb qb sb => wpAny_pure (wpAny_pure ?_)))))
  refine wpAny_bind (wpAny_bind (wpAny_holding (wpAny_bind (RZ.nextOf_tuple_item ((h2.extBut sa.extBut D.i2z).extBut sb.extBut D.i12.symm) ((hl2.extBut sa.extBut D.l2z).extBut sb.extBut D.l2i1) hy fun hc qc sc => wpAny_pure (wpAny_pure (wpAny_pure ?_))))))
  change wpAny (model prog w) A (newTuple [x, y] >>= fun t => _) _ _ _
  refine wpAny_bind (wpAny_newTuple ?_)
  have n : hc.objs.size = s.heap.objs.size := by rw [sc.1, sb.1, sa.1]
  have up : ∀ c o, hc.get? c = some o → (hc.push { cls := .type "tuple", data := .seq #[x, y] }).get? c = some o := fun c o e => Heap.get?_push_of_some _ e
  have hp : IsPair (hc.push { cls := .type "tuple", data := .seq #[x, y] }) hc.objs.size x y := Heap.get?_push_size _ rfl
  have zc : IsZipHeld hc z TI TO T true := sc.extBut _ _ D.i2z.symm (sb.extBut _ _ D.i1z.symm za)
  have q1 : hc.IsTupleIter i1 l1 (k1 + 1) := qb.extBut sc.extBut D.i12
  refine wpAny_pure ⟨_, rfl, ?_⟩
  have kk : ∀ c o, ¬ c ∈ [z, i1, i2] → s.heap.get? c = some o → (hc.push { cls := .type "tuple", data := .seq #[x, y] }).get? c = some o := fun c o m e => up c o (sc.extBut _ _ (fun q => m (by simp [q])) (sb.extBut _ _ (fun q => m (by simp [q])) (sa.extBut _ _ (fun q => m (by simp [q])) e)))
  have := hQ _ (up _ _ zc) (q1.at fun o e => up _ o e) (qc.at fun o e => up _ o e) (by rw [← n]; exact hp) kk
  rw [← n] at this
  exact this
theorem zk_end {Q : Fin → Shared → Prop} (hh : A.handled = none) (D : ZipApart z TI TO i1 i2 l1 l2)
    (hz : IsZipHeld s.heap z TI TO T f) (hT : s.heap.get? T = some oT) (hTI : IsPair s.heap TI (.ref i1) (.ref i2))
    (h1 : s.heap.IsTupleIter i1 l1 k1) (h2 : s.heap.IsTupleIter i2 l2 k2) (hl1 : s.heap.IsTuple l1 xs) (hl2 : s.heap.IsTuple l2 ys) (hend : xs[k1]? = none ∨ ys[k2]? = none)
    (hE : ∀ h' e, (∀ c o, ¬ c ∈ [z, i1, i2] → s.heap.get? c = some o → h'.get? c = some o) → (∃ o, h'.get? e = some o ∧ o.cls = .type "StopIteration") → E (.ref e) { s with heap := h' }) :
    wpAny (model prog w) A (Builtin.«zip.__next__» ⟨[.ref z], []⟩) Q E s := by
  have f2 : ∀ {Q : Value → Shared → Prop}, Q (.bool false) s → wpAny (model prog w) A (field (.ref z) 2) Q E s := fun q => wpAny_field hz rfl (x := .bool false) rfl q
  have f3 : ∀ {Q : Value → Shared → Prop}, Q (.ref TI) s → wpAny (model prog w) A (field (.ref z) 3) Q E s := fun q => wpAny_field hz rfl (x := .ref TI) rfl q
  show wpAny _ _ (field (.ref z) 2 >>= _) _ _ _
  refine wpAny_bind (f2 ?_)
  show wpAny _ _ (field (.ref z) 3 >>= _) _ _ _
  refine wpAny_bind (f3 ?_)
  refine wpAny_bind (wpAny_seqItems hTI rfl ?_)
  show wpAny _ _ (Builtin.SmallTypes.ownedTupleIsFree (.ref z) >>= _) _ _ _
  refine wpAny_bind (wpAny_tupleHeld_zip hz hT fun ha za sa => ?_)
  simp only [Bool.false_eq_true, if_false]
  refine wpAny_bind ?_
  rw [← Array.forIn_toList]
  simp only [List.forIn_cons, List.forIn_nil]
  cases hx : xs[k1]? with
  | none =>
    refine wpAny_bind (wpAny_bind (wpAny_holding (wpAny_bind (RZ.nextOf_tuple_end hh (h1.extBut sa.extBut D.i1z) (hl1.extBut sa.extBut D.l1z) hx fun hb e sb he => ?_))))
    exact hE hb e (fun c o m q => sb _ _ (fun q => m (by simp [q])) (sa.extBut _ _ (fun q => m (by simp [q])) q)) he
  | some x =>
    have hy : ys[k2]? = none := by rcases hend with h | h; rw [hx] at h; cases h; exact h
    refine wpAny_bind (wpAny_bind (wpAny_holding (wpAny_bind (RZ.nextOf_tuple_item (h1.extBut sa.extBut D.i1z) (hl1.extBut sa.extBut D.l1z) hx fun hb qb sb => wpAny_pure (wpAny_pure ?_)))))
    refine wpAny_bind (wpAny_bind (wpAny_holding (wpAny_bind (RZ.nextOf_tuple_end hh ((h2.extBut sa.extBut D.i2z).extBut sb.extBut D.i12.symm) ((hl2.extBut sa.extBut D.l2z).extBut sb.extBut D.l2i1) hy fun hc e sc he => ?_))))
    exact hE hc e (fun c o m q => sc _ _ (fun q => m (by simp [q])) (sb.extBut _ _ (fun q => m (by simp [q])) (sa.extBut _ _ (fun q => m (by simp [q])) q))) he
theorem zk_next {Q : Option Value → Shared → Prop} (hh : A.handled = none) (D : ZipApart z TI TO i1 i2 l1 l2)
    (hz : IsZipHeld s.heap z TI TO T f) (hT : s.heap.get? T = some oT) (hTI : IsPair s.heap TI (.ref i1) (.ref i2))
    (h1 : s.heap.IsTupleIter i1 l1 k1) (h2 : s.heap.IsTupleIter i2 l2 k2) (hl1 : s.heap.IsTuple l1 xs) (hl2 : s.heap.IsTuple l2 ys)
    (hQ : ∀ h' x y, xs[k1]? = some x → ys[k2]? = some y → IsZipHeld h' z TI TO T true → h'.IsTupleIter i1 l1 (k1 + 1) → h'.IsTupleIter i2 l2 (k2 + 1) → IsPair h' s.heap.objs.size x y →
      (∀ c o, ¬ c ∈ [z, i1, i2] → s.heap.get? c = some o → h'.get? c = some o) → Q (some (.ref s.heap.objs.size)) { s with heap := h' })
    (hE : ∀ h', (xs[k1]? = none ∨ ys[k2]? = none) → (∀ c o, ¬ c ∈ [z, i1, i2] → s.heap.get? c = some o → h'.get? c = some o) → Q none { s with heap := h' }) :
    wpAny (model prog w) A (pyNext (.ref z)) Q E s := by
  have ty : s.TypeIs (.ref z) "zip" := ⟨_, hz, rfl⟩
  unfold pyNext
  refine wpAny_bind (wpAny_attempt (wpAny_callSpecial?_slot (name := Str.ofString "__next__") ty F.slot_zip_next (wpAny_call_entry F.slot_zip_next ty F.entry_zip_next ?_ (F.args_zip_next_1 _))))
  cases hx : xs[k1]? with
  | none =>
    refine zk_end hh D hz hT hTI h1 h2 hl1 hl2 (.inl hx) fun h' e hk ⟨o, ho, hc⟩ => ?_
    exact wpAny_bind (wpAny_isInstance (T := "StopIteration") (b := true) ⟨o, ho, hc⟩ isSubtype_stop (wpAny_pure (hE _ (.inl hx) hk)))
  | some x =>
    cases hy : ys[k2]? with
    | none =>
      refine zk_end hh D hz hT hTI h1 h2 hl1 hl2 (.inr hy) fun h' e hk ⟨o, ho, hc⟩ => ?_
      exact wpAny_bind (wpAny_isInstance (T := "StopIteration") (b := true) ⟨o, ho, hc⟩ isSubtype_stop (wpAny_pure (hE _ (.inr hy) hk)))
    | some y => exact zk_item D hz hT hTI h1 h2 hl1 hl2 hx hy fun h' a b c d e => wpAny_pure (hQ h' x y hx hy a b c d e)
end
end L3
end
section
set_option Elab.async false
set_option linter.all false
set_option maxRecDepth 100000
namespace L3
open PySem PySem.Spec PyProof.Rows L2

theorem zip_nolen : typeLookup (.type "zip") "__len__" = pure none := am_miss_of_fast (by decide +kernel)
theorem zip_nohint : typeLookup (.type "zip") "__length_hint__" = pure none := am_miss_of_fast (by decide +kernel)

/-- pairs in new tuples -/
def PrsAt (H0 H : Hp) (xs ys acc : List V) : Prop := ∀ (j : Nat) (v : V), acc[j]? = some v → ∃ (T : Addr) (x y : V), v = V.ref T ∧ xs[j]? = some x ∧ ys[j]? = some y ∧ H T = some (.tup [x, y]) ∧ H0 T = none
structure ZipEnd (H0 : Hp) (q : Addr) (xs ys : List V) (H : Hp) : Prop where
  ex : ∃ acc, H q = some (.lst acc) ∧ acc.length = min xs.length ys.length ∧ PrsAt H0 H xs ys acc
  up : ∀ c o, H0 c = some o → H c = some o
  new : H0 q = none
def ZSt (h : Heap) (z TI TO i1 i2 a b q : Addr) (i : Nat) : Prop := IsPair h TI (.ref i1) (.ref i2) ∧ h.IsTupleIter i1 a i ∧ h.IsTupleIter i2 b i ∧
  (∃ u v, IsPair h TO u v) ∧ (IsZip h z TI TO .none ∨ ∃ T f oT, IsZipHeld h z TI TO T f ∧ h.get? T = some oT ∧ ¬ T ∈ [z, TI, TO, i1, i2, q])
theorem ZSt.keep {h h' : Heap} {z TI TO i1 i2 a b q : Addr} {i : Nat} (s : ZSt h z TI TO i1 i2 a b q i) (hq : ¬ q ∈ [z, TI, TO, i1, i2]) (k : ∀ c o, c ≠ q → h.get? c = some o → h'.get? c = some o) : ZSt h' z TI TO i1 i2 a b q i := by
  obtain ⟨h1, h2, h3, ⟨u, v, h5⟩, h4⟩ := s
  have n : ∀ c, c ∈ [z, TI, TO, i1, i2] → c ≠ q := fun c hc e => hq (e ▸ hc)
  refine ⟨k _ _ (n TI (by simp)) h1, h2.at fun o e => k _ o (n i1 (by simp)) e, h3.at fun o e => k _ o (n i2 (by simp)) e, ⟨u, v, k _ _ (n TO (by simp)) h5⟩, ?_⟩
  rcases h4 with h4 | ⟨T, f, oT, h4, h5, h6⟩
  · exact .inl (k _ _ (n z (by simp)) h4)
  · exact .inr ⟨T, f, oT, k _ _ (n z (by simp)) h4, k _ _ (fun e => h6 (by simp [e])) h5, h6⟩
theorem sqT_up {K : PySem.W.Frag} {H H' : Hp} {a : Addr} {xs : List V} (h : SqT K H a xs) (k : ∀ o, H a = some o → H' a = some o) : SqT K H' a xs := by
  rcases h with (h | ⟨o, h⟩) | h
  · exact .inl (.inl (k _ h))
  · exact .inl (.inr ⟨o, k _ h⟩)
  · exact .inr h
section
variable {X : Cx} {pins : List (Addr × Obj)} {σ : L2.St} {z TI TO i1 i2 a b q : Addr} {xs ys : List V} {H0 : Hp} {Rs : Result → Shared → Prop}
theorem zl_loop (hc : X.calm = true) (D : ZipApart z TI TO i1 i2 a b) (hq : ¬ q ∈ [z, TI, TO, i1, i2]) (hxs : SqT X.K H0 a xs) (hys : SqT X.K H0 b ys) (h0q : H0 q = none)
    (hdone : ∀ H s, Inv X pins σ H s → ZipEnd H0 q xs ys H → Rs (.ok (.ret .none)) s) :
    ∀ (m i : Nat) (acc : List V) (H : Hp) (s : Shared), min xs.length ys.length = m + i → Inv X pins σ H s → (∀ c ∈ [z, TI, TO, i1, i2], FpOk X pins H c) → ZSt s.heap z TI TO i1 i2 a b q i →
      H q = some (.lst acc) → acc.length = i → PrsAt H0 H xs ys acc → (∀ c o, H0 c = some o → H c = some o) →
      codeAny (model X.prog X.w) X.A.in1 (.builtin "list.extend.loop" ⟨[.ref q, .ref z, .none], []⟩) Rs s := by
  intro m
  induction m with
  | zero =>
    intro i acc H s hm I hf st hH hl hp up
    refine codeAny_builtin PySem.F.entry_extend_loop ?_
    rw [Around.under_plainId PySem.F.plain_extend_loop _]
    show wpAny _ X.A.in1.in1 (pyNext (.ref z) >>= _) _ _ s
    have hh : X.A.in1.in1.handled = none := I.ok.hd hc
    obtain ⟨its, rv, p1, _⟩ := I.tuple (sqT_up hxs fun o e => up _ o e)
    obtain ⟨its2, rv2, p2, _⟩ := I.tuple (sqT_up hys fun o e => up _ o e)
    have l1 := rv.length
    have l2 := rv2.length
    have he : its.toArray[i]? = none ∨ its2.toArray[i]? = none := by
      by_cases h : xs.length ≤ ys.length
      · exact .inl (by simp; omega)
      · exact .inr (by simp; omega)
    have fin : ∀ (h' : Heap) (tk : Nat), (∀ c o, ¬ c ∈ [z, TI, TO, i1, i2] → s.heap.get? c = some o → h'.get? c = some o) → Rs (.ok (.ret .none)) { s with heap := h', toks := tk } := fun h' tk hk =>
      hdone H _ (I.turnedL (t' := tk) (ch := [z, TI, TO, i1, i2]) hk hf) ⟨⟨acc, hH, by omega, hp⟩, up, h0q⟩
    obtain ⟨s1, s2, s3, ⟨u, v, s0⟩, s4⟩ := st
    rcases s4 with s4 | ⟨T, f, oT, s4, s5, s6⟩
    · refine wpAny_bind (RZ.pyNext_zipT_end hh D s4 s1 s0 s2 s3 p1 p2 he fun h' hk => wpAny_pure (fin h' s.toks fun c o m e => hk c o (fun x => m (by simp [x])) (fun x => m (by simp [x])) (fun x => m (by simp [x])) (fun x => m (by simp [x])) e))
    · refine wpAny_bind (zk_next hh D s4 s5 s1 s2 s3 p1 p2 (fun h' x y e1 e2 => ?_) fun h' _ hk => wpAny_pure (fin h' s.toks fun c o m e => hk c o (fun x => m (by rcases (by simpa using x : c = z ∨ c = i1 ∨ c = i2) with r | r | r <;> simp [r])) e))
      rcases he with he | he
      · rw [he] at e1; cases e1
      · rw [he] at e2; cases e2
  | succ m ih =>
    intro i acc H s hm I hf st hH hl hp up
    refine codeAny_builtin PySem.F.entry_extend_loop ?_
    rw [Around.under_plainId PySem.F.plain_extend_loop _]
    show wpAny _ X.A.in1.in1 (pyNext (.ref z) >>= _) _ _ s
    have hh : X.A.in1.in1.handled = none := I.ok.hd hc
    obtain ⟨its, rv, p1, hz1⟩ := I.tuple (sqT_up hxs fun o e => up _ o e)
    obtain ⟨its2, rv2, p2, hz2⟩ := I.tuple (sqT_up hys fun o e => up _ o e)
    have l1 := rv.length
    have l2 := rv2.length
    obtain ⟨x, hx⟩ : ∃ x, xs[i]? = some x := ⟨_, List.getElem?_eq_getElem (by omega)⟩
    obtain ⟨y, hy⟩ : ∃ y, ys[i]? = some y := ⟨_, List.getElem?_eq_getElem (by omega)⟩
    obtain ⟨u, hu, ru⟩ := rv.get hx
    obtain ⟨u2, hu2, ru2⟩ := rv2.get hy
    have hu' : its.toArray[i]? = some u := by simpa using hu
    have hu2' : its2.toArray[i]? = some u2 := by simpa using hu2
    have qT : q ≠ s.heap.objs.size := by
      obtain ⟨zz, its0, k0, r0, ll0, e0⟩ := I.lstM hH
      exact Nat.ne_of_lt (Heap.lt_size e0)
    have lt5 : ∀ c, c ∈ [z, TI, TO, i1, i2] → c < s.heap.objs.size := fun c hcm => by
      obtain ⟨s1, ⟨o1, e1, _⟩, ⟨o2, e2, _⟩, ⟨u, v, s0⟩, s4⟩ := st
      have e' : c = z ∨ c = TI ∨ c = TO ∨ c = i1 ∨ c = i2 := by simpa using hcm
      rcases e' with r | r | r | r | r
      · rw [r]
        rcases s4 with s4 | ⟨T, f, oT, s4, _⟩
        · exact Heap.lt_size s4
        · exact Heap.lt_size s4
      · rw [r]; exact Heap.lt_size s1
      · rw [r]; exact Heap.lt_size s0
      · rw [r]; exact Heap.lt_size e1
      · rw [r]; exact Heap.lt_size e2
    have turn : ∀ (h' : Heap), IsPair h' s.heap.objs.size u u2 → (∀ c o, ¬ c ∈ [z, TI, TO, i1, i2] → s.heap.get? c = some o → h'.get? c = some o) → ZSt h' z TI TO i1 i2 a b q (i + 1) →
        wpAny (model X.prog X.w) X.A.in1.in1 (updateSeq q (·.push (Value.ref s.heap.objs.size)) >>= fun _ => again (.builtin "list.extend.loop" ⟨[.ref q, .ref z, .none], []⟩))
          (fun fin s' => match fin with | .done f => Rs (.ok f) s' | .again c' => c'.quiet = true ∧ codeAny (model X.prog X.w) X.A.in1 c' Rs s') (fun e s' => Rs (.error e) s') { s with heap := h' } := by
      intro h' hT hk st'
      have new : ObjOk X.prog X.w (upd H s.heap.objs.size (.tup [x, y])) h' s.heap.objs.size (.tup [x, y]) := ⟨by show 2 ≤ sizeLine; decide, [u, u2], .cons ru (.cons ru2 .nil), ⟨_, hT, rfl, _, rfl⟩⟩
      have I1 : Inv X pins σ (upd H s.heap.objs.size (.tup [x, y])) { s with heap := h' } := I.turnedNew (t' := s.toks) (ch := [z, TI, TO, i1, i2]) hk hf (Nat.le_refl _) new
      have hH1 : upd H s.heap.objs.size (.tup [x, y]) q = some (.lst acc) := by rw [upd_ne qT]; exact hH
      have hT0 : H s.heap.objs.size = none := I.hok.fresh (Nat.le_refl _)
      obtain ⟨zz, its0, k0, r0, ll0, e0⟩ := I1.lstM hH1
      have hal : acc.length < sizeLine := by omega
      refine wpAny_bind (wpAny_updateSeq e0 rfl (wpAny_pure ⟨plainId_quiet PySem.F.plain_extend_loop _, ?_⟩) (by rw [List.size_toArray]; omega) (by show (its0.toArray.push _).size ≤ sizeLine + 1; rw [Array.size_push, List.size_toArray]; omega))
      have hI2 := I1.lset (f := (·.push (Value.ref s.heap.objs.size))) (its' := its0 ++ [Value.ref s.heap.objs.size]) (ys := acc ++ [V.ref s.heap.objs.size]) (t' := s.toks) hH1 e0 (by simp) (r0.append (.cons (show RelV (V.ref s.heap.objs.size) (Value.ref s.heap.objs.size) from rfl) .nil)) (by rw [List.length_append, List.length_singleton]; omega)
      refine ih (i + 1) (acc ++ [V.ref s.heap.objs.size]) _ _ (by omega) hI2 (fun c hcm => ?_) (st'.keep hq fun c o hcq e => (Heap.get?_update_other _ _ (Ne.symm hcq)).trans e) upd_same (by simp [hl]) (fun j v hj => ?_) (fun c o e => ?_)
      · have hcT : c ≠ s.heap.objs.size := Nat.ne_of_lt (lt5 c hcm)
        obtain ⟨f1, f2⟩ := hf c hcm
        have hcq : c ≠ q := fun e => hq (by rw [← e]; exact hcm)
        exact ⟨by rw [upd_ne hcq, upd_ne hcT]; exact f1, f2⟩
      · by_cases hjl : j < acc.length
        · rw [List.getElem?_append_left hjl] at hj
          obtain ⟨T, x', y', e1, e2, e3, e4, e5⟩ := hp j v hj
          refine ⟨T, x', y', e1, e2, e3, ?_, e5⟩
          rw [upd_ne (ne_of e4 hH (fun z => nomatch z)), upd_ne (ne_of_none e4 hT0)]
          exact e4
        · have hj' : j = acc.length := by
            have := (List.getElem?_eq_some_iff.mp hj).1
            simp at this
            omega
          subst hj'
          simp at hj
          refine ⟨s.heap.objs.size, x, y, hj.symm, by rw [hl]; exact hx, by rw [hl]; exact hy, by rw [upd_ne (Ne.symm qT)]; exact upd_same, ?_⟩
          cases hh0 : H0 s.heap.objs.size with
          | none => rfl
          | some o => have := up _ _ hh0; rw [hT0] at this; cases this
      · rw [upd_ne (fun z => by subst z; rw [h0q] at e; cases e), upd_ne (ne_of_none (up c o e) hT0)]
        exact up c o e
    have TO_lt : s.heap.objs.size ∉ [z, TI, TO, i1, i2, q] := fun hm => by
      have e' : s.heap.objs.size ∈ [z, TI, TO, i1, i2] ∨ s.heap.objs.size = q := by
        rcases (by simpa using hm : s.heap.objs.size = z ∨ s.heap.objs.size = TI ∨ s.heap.objs.size = TO ∨ s.heap.objs.size = i1 ∨ s.heap.objs.size = i2 ∨ s.heap.objs.size = q) with r | r | r | r | r | r
        · exact .inl (by rw [r]; simp)
        · exact .inl (by rw [r]; simp)
        · exact .inl (by rw [r]; simp)
        · exact .inl (by rw [r]; simp)
        · exact .inl (by rw [r]; simp)
        · exact .inr r
      rcases e' with r | r
      · exact Nat.lt_irrefl _ (lt5 _ r)
      · exact qT r.symm
    obtain ⟨s1, s2, s3, ⟨v1, v2, s0⟩, s4⟩ := st
    rcases s4 with s4 | ⟨T, f, oT, s4, s5, s6⟩
    · refine wpAny_bind (RZ.pyNext_zipT_item D s4 s1 s0 s2 s3 p1 p2 hu' hu2' fun h' z' TO' h1' h2' hT hsz hk => ?_)
      refine turn h' hT (fun c o m e => hk c o (fun x => m (by simp [x])) (fun x => m (by simp [x])) (fun x => m (by simp [x])) (fun x => m (by simp [x])) e) ⟨hk _ _ D.TIz D.TITO D.TIi1 D.TIi2 s1, h1', h2', ⟨_, _, TO'⟩, .inr ⟨_, false, _, z', hT, TO_lt⟩⟩
    · refine wpAny_bind (zk_next hh D s4 s5 s1 s2 s3 p1 p2 (fun h' x' y' e1 e2 z' h1' h2' hT hk => ?_) fun h' he => ?_)
      · rw [hu'] at e1; cases e1
        rw [hu2'] at e2; cases e2
        have hk2 : ∀ c o, ¬ c ∈ [z, TI, TO, i1, i2] → s.heap.get? c = some o → h'.get? c = some o := fun c o m e => hk c o (fun x => m (by rcases (by simpa using x : c = z ∨ c = i1 ∨ c = i2) with r | r | r <;> simp [r])) e
        refine turn h' hT hk2 ⟨hk _ _ (by simp [D.TIz, D.TIi1, D.TIi2]) s1, h1', h2', ⟨v1, v2, hk _ _ (by simp [D.TOz, D.TOi1, D.TOi2]) s0⟩, .inr ⟨T, true, oT, z', hk _ _ (fun m => s6 ?_) s5, s6⟩⟩
        rcases (by simpa using m : T = z ∨ T = i1 ∨ T = i2) with r | r | r <;> simp [r]
      · rcases he with he | he
        · rw [hu'] at he; cases he
        · rw [hu2'] at he; cases he
end
end L3
end
section
set_option Elab.async false
set_option linter.all false
set_option maxRecDepth 100000
namespace L3
open PySem PySem.Spec PyProof.Rows L2
section
variable {X : Cx} {pins : List (Addr × Obj)} {σ : L2.St} {z TI TO i1 i2 a b : Addr} {xs ys : List V} {H : Hp} {s : Shared} {Q : VK}
theorem zl_call (hc : X.calm = true) (D : ZipApart z TI TO i1 i2 a b) (I : Inv X pins σ H s) (hxs : SqT X.K H a xs) (hys : SqT X.K H b ys) (hf : ∀ c ∈ [z, TI, TO, i1, i2], FpOk X pins H c) (hlt : ∀ c ∈ [z, TI, TO, i1, i2], c < s.heap.objs.size)
    (sz : IsZip s.heap z TI TO .none) (sI : IsPair s.heap TI (.ref i1) (.ref i2)) (sO : IsPair s.heap TO .none .none) (s1 : s.heap.IsTupleIter i1 a 0) (s2 : s.heap.IsTupleIter i2 b 0)
    (hQ : ∀ q H', ZipEnd H q xs ys H' → Q (.ref q) H') :
    wpAny (model X.prog X.w) X.A (call (.type "list") [.ref z]) (EP X pins σ Q) X.xe s := by
  have sp : s.heap.objs.size ∉ [z, TI, TO, i1, i2] := fun h => Nat.lt_irrefl _ (hlt _ h)
  have spz : s.heap.objs.size ≠ z := fun e => sp (by simp [e])
  refine callType_codes (Q₁ := fun obj t => obj = .ref s.heap.objs.size ∧ t = { s with heap := s.heap.push { cls := .type "list", data := .seq #[] } }) PySem.F.called_list (PySem.F.typeCall_list_1 _) PySem.F.entry_list_init (code_list_new _ ⟨rfl, rfl⟩) fun obj t h => ?_
  obtain ⟨rfl, rfl⟩ := h
  have gS : (s.heap.push { cls := .type "list", data := .seq #[] }).get? s.heap.objs.size = some { cls := .type "list", data := .seq #[] } := Heap.get?_push_size _ rfl
  have fr : H s.heap.objs.size = none := I.hok.fresh (Nat.le_refl _)
  refine ⟨⟨_, gS, rfl⟩, PySem.F.args_list_init_2 _ _, ?_⟩
  have Ia : Inv X pins σ (upd H s.heap.objs.size (.lst [])) { s with heap := s.heap.push { cls := .type "list", data := .seq #[] } } := I.lnew (its := []) (t' := s.toks) .nil (Nat.zero_le _)
  have sta : ZSt (s.heap.push { cls := .type "list", data := .seq #[] }) z TI TO i1 i2 a b s.heap.objs.size 0 :=
    ⟨Heap.get?_push_of_some _ sI, s1.at fun o e => Heap.get?_push_of_some _ e, s2.at fun o e => Heap.get?_push_of_some _ e, ⟨_, _, Heap.get?_push_of_some _ sO⟩, .inl (Heap.get?_push_of_some _ sz)⟩
  unfold Builtin.«list.__init__»
  refine wpAny_bind ?_
  show wpAny _ _ (Builtin.List.listItems (.ref s.heap.objs.size)) _ _ _
  unfold Builtin.List.listItems
  refine wpAny_bind (wpAny_seqItems gS rfl (wpAny_pure ?_))
  change wpAny _ _ (updateSeq s.heap.objs.size (fun _ => #[]) >>= fun _ => letGo (#[] : Array Value).toList.reverse >>= fun _ => Builtin.List.listExtendWith (.ref s.heap.objs.size) (.ref z) .none) _ _ _
  refine wpAny_bind (wpAny_updateSeq gS rfl ?_)
  have Ib := Ia.lset (f := fun _ => #[]) (its := []) (its' := []) (ys := []) (t' := s.toks) upd_same gS rfl .nil (Nat.zero_le _)
  rw [upd_upd] at Ib
  have stb := sta.keep (h' := (s.heap.push { cls := .type "list", data := .seq #[] }).update s.heap.objs.size (Obj.mapSeq fun _ => #[])) sp fun c o hcq e => (Heap.get?_update_other _ _ (Ne.symm hcq)).trans e
  refine wpAny_bind (wpAny_letGo ?_)
  obtain ⟨_, its, k, r3, l3, e3⟩ := Ib.lstM upd_same
  cases r3
  have tz : (⟨(s.heap.push { cls := .type "list", data := .seq #[] }).update s.heap.objs.size (Obj.mapSeq fun _ => #[]), s.gens, s.drawn, s.toks, s.os⟩ : Shared).TypeIs (.ref z) "zip" := by
    obtain ⟨_, _, _, _, q⟩ := stb
    rcases q with q | ⟨_, _, _, q, _⟩
    · exact ⟨_, q, rfl⟩
    · exact ⟨_, q, rfl⟩
  have iz : IsZip ((s.heap.push { cls := .type "list", data := .seq #[] }).update s.heap.objs.size (Obj.mapSeq fun _ => #[])) z TI TO .none := (Heap.get?_update_other _ _ spz).trans (Heap.get?_push_of_some _ sz)
  unfold Builtin.List.listExtendWith
  refine wpAny_bind (wpAny_typeOf tz ?_)
  have n1 : Builtin.List.listSameRef (.ref s.heap.objs.size) (.ref z) = false := by simp [Builtin.List.listSameRef, spz]
  have n2 : (Value.type "zip" == Value.type "list") = false := by decide
  have n3 : (Value.type "zip" == Value.type "tuple") = false := by decide
  simp only [n1, n2, n3, Bool.or_false, Bool.false_eq_true, if_false]
  refine wpAny_bind (wpAny_pyIter_zip iz ?_)
  refine wpAny_bind (wpAny_holding ?_)
  unfold Builtin.List.listLengthHint
  refine wpAny_bind (wpAny_specialOf tz zip_nolen ?_)
  change wpAny _ _ (specialOf (Value.ref z) (Str.ofString "__length_hint__") >>= _) _ _ _
  refine wpAny_bind (wpAny_specialOf tz zip_nohint (wpAny_pure ?_))
  change wpAny _ _ (rule "list.extend.makes-room" >>= fun _ => Builtin.List.listTouch (.ref s.heap.objs.size) >>= fun _ => again (.builtin "list.extend.loop" ⟨[.ref s.heap.objs.size, .ref z, .none], []⟩)) _ _ _
  refine wpAny_bind (wpAny_rule (wpAny_bind ?_))
  change wpAny _ _ (updateSeq s.heap.objs.size (·.push .none) >>= fun _ => updateSeq s.heap.objs.size (·.pop)) _ _ _
  refine wpAny_bind (wpAny_updateSeq e3 rfl ?_)
  have Ic := Ib.lset (f := (·.push Value.none)) (its' := [Value.none]) (ys := [.non]) (t' := s.toks) upd_same e3 (by simp) (.cons rfl .nil) (by rw [List.length_singleton, sizeLine_eq]; decide)
  have stc := stb.keep (h' := Heap.update _ s.heap.objs.size (Obj.mapSeq (·.push Value.none))) sp fun c o hcq e => (Heap.get?_update_other _ _ (Ne.symm hcq)).trans e
  obtain ⟨_, its4, k4, r4, l4, e4⟩ := Ic.lstM upd_same
  obtain ⟨u4, rfl, ru4⟩ := r4.one
  refine wpAny_updateSeq e4 rfl ?_ (by show 1 ≤ sizeLine; rw [sizeLine_eq]; decide) (by show 0 ≤ sizeLine + 1; exact Nat.zero_le _)
  have Id := Ic.lset (f := (·.pop)) (its := [u4]) (its' := []) (ys := []) (t' := s.toks) upd_same e4 (by rfl) .nil (Nat.zero_le _)
  have std := stc.keep (h' := Heap.update _ s.heap.objs.size (Obj.mapSeq (·.pop))) sp fun c o hcq e => (Heap.get?_update_other _ _ (Ne.symm hcq)).trans e
  rw [upd_upd, upd_upd] at Id
  refine wpAny_pure ⟨plainId_quiet PySem.F.plain_extend_loop _, ?_⟩
  refine zl_loop (H0 := H) hc D sp hxs hys fr (fun H' s' I' hE => ⟨rfl, .ref s.heap.objs.size, H', I', rfl, hQ _ H' hE⟩) (min xs.length ys.length) 0 [] _ _ rfl Id (fun c hcm => ?_) std upd_same rfl (fun j v hj => by simp at hj) (fun c o e => by rw [upd_ne (ne_of_none e fr)]; exact e)
  obtain ⟨f1, f2⟩ := hf c hcm
  exact ⟨by rw [upd_ne (fun e => sp (by rw [← e]; exact hcm))]; exact f1, f2⟩
end

/-! ### list(zip(a, b)) of tuples -/
def eLstZ (fa : FA) : FE := fun env st => match fa env st with
  | some ([.tup xs, .tup ys], st1) => some (.lst (zipP xs ys), st1)
  | some ([.tup xs, .tupx ys], st1) => some (.lst (zipP xs ys), st1)
  | _ => none
section
variable {K : PySem.W.Frag} {B : Addr → Prop} {μ : Mu} {H H' : Hp} {st : Store}
theorem le_up (s : Sim K B μ st H) (up : ∀ c o, H c = some o → H' c = some o) : Le μ H μ H' := ⟨Nat.le_refl _, fun _ _ _ h => h, fun a o e n => ⟨up a o e, n⟩⟩
theorem rep_pairs {vs ws : List V} {xs ys : List PV} (s : Sim K B μ st H) (l : Le μ H μ H') (hx : RepVs K B μ H vs xs) (hy : RepVs K B μ H ws ys) : ∀ (acc : List V), acc.length = min vs.length ws.length → PrsAt H H' vs ws acc → RepVs K B μ H' acc (zipP xs ys) := by
  intro acc
  induction acc generalizing vs ws xs ys with
  | nil =>
    intro hl _
    have hz : zipP xs ys = [] := by
      have h1 := hx.length
      have h2 := hy.length
      have : (zipP xs ys).length = 0 := by
        have e : (zipP xs ys).length = min xs.length ys.length := by simp [zipP]
        simp at hl
        omega
      exact List.eq_nil_of_length_eq_zero this
    rw [hz]; exact .nil
  | cons v acc ih =>
    intro hl hp
    cases hx with
    | nil => simp at hl
    | cons r1 rs1 =>
      cases hy with
      | nil => simp at hl
      | cons r2 rs2 =>
        obtain ⟨T, x', y', e1, e2, e3, e4, e5⟩ := hp 0 v rfl
        simp at e2 e3
        subst e1 e2 e3
        refine .cons (.tup (s.free e5) (s.not_live e5) e4 (.cons (r1.mono l) (.cons (r2.mono l) .nil))) (ih rs1 rs2 (by simp at hl; omega) fun j v hj => ?_)
        obtain ⟨T, x', y', e1, e2, e3, e4, e5⟩ := hp (j + 1) v (by simpa using hj)
        exact ⟨T, x', y', e1, by simpa using e2, by simpa using e3, e4, e5⟩
end
section
variable {X : Cx} {e e2 : Expr} {fa : FA}
theorem lstZ_core {p p2 pos pos2 : Pos} (hc : X.calm = true) (hg : Gl X "list") (hg2 : Gl X "zip") (hm : X.mg "list" = none) (hm2 : X.mg "zip" = none) (ha : SimA X [e, e2] fa)
    (hs : starEach [e, e2] X.env = (false, eval e X.env) :: starEach [e2] X.env) (hpl : (backTo pos2 (starEach [e2] X.env)).any (·.1) = false)
    (hs2 : starEach [.Call (.Name "zip" p2) [e, e2] [] pos2] X.env = [(false, eval (.Call (.Name "zip" p2) [e, e2] [] pos2) X.env)]) :
    PE X (.Call (.Name "list" p) [.Call (.Name "zip" p2) [e, e2] [] pos2] [] pos) (fun σ H Q => RdA X.K fa σ H (fun vs H1 => ∃ a b ws1 ws2, vs = [V.ref a, V.ref b] ∧ SqT X.K H1 a ws1 ∧ SqT X.K H1 b ws2 ∧ ∀ q H', ZipEnd H1 q ws1 ws2 H' → Q (.ref q) H')) := by
  refine ⟨fun pins s σ H Q I hr => ?_⟩
  refine wpAny_Call_Name_kw (ld_blt I hg hm PyProof.Rows.boot_list ?_)
  refine PyProof.Rows.callWith_type1 ?_ hs2 rfl
  rw [hs2]
  refine Calls.spliced_cons ?_
  refine Call_ (ld_blt I hg2 hm2 PyProof.Rows.boot_zip (PyProof.Rows.callWith_type1 (thn (ha.run pos2 pins s σ H _ I hr) fun us s1 ⟨vs, H1, I1, r1, a, b, ws1, ws2, ev, hqx, hqy, hQ⟩ => ?_) hs hpl))
  subst ev
  obtain ⟨u1, u2, rfl, q1, q2⟩ := Vals.two r1
  cases q1
  cases q2
  obtain ⟨its, rv, p1, _⟩ := I1.tuple hqx
  obtain ⟨its2, rv2, p2, _⟩ := I1.tuple hqy
  obtain ⟨o1, ho1, _⟩ := id p1
  obtain ⟨o2, ho2, _⟩ := id p2
  refine RZ.call_zipT (show s1.heap.IsTuple a its.toArray from p1) (show s1.heap.IsTuple b its2.toArray from p2) fun h' hz hTI hTO h1' h2' hsz hk => ?_
  have I2 : Inv X pins σ H1 { s1 with heap := h' } := I1.kept (t' := s1.toks) hk
  have mem : ∀ c, c ∈ [s1.heap.objs.size + 4, s1.heap.objs.size + 2, s1.heap.objs.size + 3, s1.heap.objs.size, s1.heap.objs.size + 1] → s1.heap.objs.size ≤ c ∧ c < s1.heap.objs.size + 5 := fun c hcm => by
    have e' : c = s1.heap.objs.size + 4 ∨ c = s1.heap.objs.size + 2 ∨ c = s1.heap.objs.size + 3 ∨ c = s1.heap.objs.size ∨ c = s1.heap.objs.size + 1 := by simpa using hcm
    have g : ∀ k : Nat, k < 5 → s1.heap.objs.size ≤ s1.heap.objs.size + k ∧ s1.heap.objs.size + k < s1.heap.objs.size + 5 := fun k hk => ⟨Nat.le_add_right _ _, Nat.add_lt_add_left hk _⟩
    rcases e' with r | r | r | r | r
    · rw [r]; exact g 4 (by decide)
    · rw [r]; exact g 2 (by decide)
    · rw [r]; exact g 3 (by decide)
    · rw [r]; exact g 0 (by decide)
    · rw [r]; exact g 1 (by decide)
  refine Calls.spliced_nil ?_
  refine zl_call hc (PySem.W.ktu_apart s1.heap.objs.size a b (Heap.lt_size ho1) (Heap.lt_size ho2)) I2 hqx hqy (fun c hcm => I1.fpOk (mem c hcm).1 (I1.hok.fresh (mem c hcm).1)) (fun c hcm => by
    show c < h'.objs.size
    rw [hsz]; exact (mem c hcm).2) hz hTI hTO h1' h2' hQ
theorem simE_lstZ {p p2 pos pos2 : Pos} (hc : X.calm = true) (hg : Gl X "list") (hg2 : Gl X "zip") (hm : X.mg "list" = none) (hm2 : X.mg "zip" = none) (ha : SimA X [e, e2] fa)
    (hs : starEach [e, e2] X.env = (false, eval e X.env) :: starEach [e2] X.env := by rfl) (hpl : (backTo pos2 (starEach [e2] X.env)).any (·.1) = false := by rfl)
    (hs2 : starEach [.Call (.Name "zip" p2) [e, e2] [] pos2] X.env = [(false, eval (.Call (.Name "zip" p2) [e, e2] [] pos2) X.env)] := by rfl) :
    SimE X (.Call (.Name "list" p) [.Call (.Name "zip" p2) [e, e2] [] pos2] [] pos) (eLstZ fa) := by
  refine ⟨fun pins s σ H Q I ⟨B, μ, st, env, v, st', s0, rE, e, k⟩ => ?_⟩
  refine (lstZ_core hc hg hg2 hm hm2 ha hs hpl hs2).run pins s σ H Q I ?_
  have fin : ∀ {xs ys : List PV} {ws1 ws2 : List V} {H1 : Hp} {μ1 : Mu}, Sim X.K B μ1 st' H1 → Le μ H μ1 H1 → RepVs X.K B μ1 H1 ws1 xs → RepVs X.K B μ1 H1 ws2 ys → v = .lst (zipP xs ys) →
      ∀ q H', ZipEnd H1 q ws1 ws2 H' → Q (.ref q) H' := fun sm l1 ra rb ev q H' E => by
    obtain ⟨⟨acc, hq, hl, hp⟩, up, new⟩ := E
    have l2 := le_up sm up
    subst ev
    exact k _ _ _ (sm.stay up) (l1.trans l2) (.lst (sm.free new) (sm.not_live new) hq (rep_pairs sm l2 ra rb acc hl hp))
  unfold eLstZ at e
  split at e
  · rename_i xs ys st1 h1
    cases e
    refine RdA.go s0 rE h1 fun vs H1 μ1 s1 l1 rp => ?_
    obtain ⟨x, y, rfl, rx, ry⟩ := rp.two
    obtain ⟨a, ws1, rfl, hr1, ra⟩ := rx.tup_at
    obtain ⟨b, ws2, rfl, hr2, rb⟩ := ry.tup_at
    exact ⟨a, b, ws1, ws2, rfl, sqT_keep hr1 (Le.refl _ _), sqT_keep hr2 (Le.refl _ _), fin s1 l1 ra rb rfl⟩
  · rename_i xs ys st1 h1
    cases e
    refine RdA.go s0 rE h1 fun vs H1 μ1 s1 l1 rp => ?_
    obtain ⟨x, y, rfl, rx, ry⟩ := rp.two
    obtain ⟨a, ws1, rfl, hr1, ra⟩ := rx.tup_at
    obtain ⟨b, o2, ws2, rfl, hb, _, rb⟩ := ry.tupx_inv
    exact ⟨a, b, ws1, ws2, rfl, sqT_keep hr1 (Le.refl _ _), .inl (.inr ⟨_, hb⟩), fin s1 l1 ra rb rfl⟩
  · cases e
end

/-! ### zip of two lists or two tuples -/
section
variable {K : PySem.W.Frag} {B : Addr → Prop} {μ : Mu} {H : Hp} {xs ys : List PV}
theorem itP_zipT {a b : Addr} {vs ws : List V} (hr1 : (¬ live μ a ∧ H a = some (.tup vs)) ∨ SqT K (fun _ => none) a vs) (r : RepVs K B μ H vs xs) (hr2 : (¬ live μ b ∧ H b = some (.tup ws)) ∨ SqT K (fun _ => none) b ws) (r2 : RepVs K B μ H ws ys) : ItP K B (RZ.ItzT K a b) (zipP xs ys) μ H where
  go := fun i μ2 H2 hi l => by
    have hi' : i < xs.length ∧ i < ys.length := by simpa [zipP, Nat.lt_min] using hi
    obtain ⟨v, hv, _⟩ := r.get (List.getElem?_eq_getElem hi'.1)
    obtain ⟨w, hw, _⟩ := r2.get (List.getElem?_eq_getElem hi'.2)
    exact ⟨vs, ws, v, w, sqT_keep hr1 l, sqT_keep hr2 l, hv, hw⟩
  stop := fun μ2 H2 l => by
    refine ⟨vs, ws, sqT_keep hr1 l, sqT_keep hr2 l, ?_⟩
    rw [r.length, r2.length]
    simp [zipP]
    omega
  yld := fun B' hbb i x μ2 st H2 v H3 hx l s y => by
    obtain ⟨T, u, w, rfl, hT, rfl, hy1, hy2⟩ := y
    have hi : i < (zipP xs ys).length := (List.getElem?_eq_some_iff.mp hx).1
    have hi' : i < xs.length ∧ i < ys.length := by simpa [zipP, Nat.lt_min] using hi
    have ex : x = .tup [xs[i], ys[i]] := by
      have := (List.getElem?_eq_some_iff.mp hx).2
      rw [← this]
      simp [zipP]
    subst ex
    obtain ⟨u', hu, ru⟩ := (r.wide hbb).get (List.getElem?_eq_getElem hi'.1)
    obtain ⟨w', hw, rw'⟩ := (r2.wide hbb).get (List.getElem?_eq_getElem hi'.2)
    have q1 := hy1 vs (sqT_keep hr1 l)
    have q2 := hy2 ws (sqT_keep hr2 l)
    rw [hu] at q1; cases q1
    rw [hw] at q2; cases q2
    exact pair_new s hT (ru.mono l) (rw'.mono l)
end
section
variable {X : Cx} {e e2 : Expr} {fa : FA}
theorem simI_zip {p pos tpos : Pos} {elts : List Expr} {kk : Nat} (hg : Gl X "zip") (hm : X.mg "zip" = none) (ha : SimA X [e, e2] fa)
    (hs : starEach [e, e2] X.env = (false, eval e X.env) :: starEach [e2] X.env := by rfl) (hpl : (backTo pos (starEach [e2] X.env)).any (·.1) = false := by rfl) :
    SimI X (.Tuple elts kk tpos) (.Call (.Name "zip" p) [e, e2] [] pos) (iZp fa) := by
  refine piI (RZ.pi_zipA hg hm ha hs hpl) fun σ H R ⟨B, μ, st, env, xs, st', s, r, e, k⟩ => ?_
  unfold iZp at e
  split at e
  · rename_i xs ys st1 h1
    cases e
    refine RdA.go s r h1 fun vs H1 μ1 s1 l1 r1 => ?_
    obtain ⟨x, y, rfl, rx, ry⟩ := r1.two
    obtain ⟨a, ws, rfl, hr, ra⟩ := rx.tup_at
    obtain ⟨b, ws2, rfl, hr2, rb⟩ := ry.tup_at
    exact ⟨_, _, _, _, rfl, .inr ⟨sqT_keep hr (Le.refl _ _), sqT_keep hr2 (Le.refl _ _), k _ H1 μ1 s1 l1 (itP_zipT hr ra hr2 rb)⟩⟩
  · rename_i xs ys st1 h1
    cases e
    refine RdA.go s r h1 fun vs H1 μ1 s1 l1 r1 => ?_
    obtain ⟨x, y, rfl, rx, ry⟩ := r1.two
    cases rx with
    | lst nb nl h ra =>
      cases ry with
      | lst nb2 nl2 h2 rb => exact ⟨_, _, _, _, rfl, .inl ⟨SqL.of h, SqL.of h2, k _ H1 μ1 s1 l1 (itP_zipL nl h ra nl2 h2 rb)⟩⟩
  · cases e
end

/-! ### constants, written dicts, guards -/
structure Glo (K : PySem.W.Frag) (mg : Str → Option Value) (x : Str) (p : PV) : Prop where
  ex : ∃ u v, mg x = some u ∧ RelV v u ∧ ∀ (B : Addr → Prop) (μ : Mu) (H : Hp), RepV K B μ H v p
structure KGlo (K : PySem.W.Frag) (w : World) (mg : Str → Option Value) (x : Str) (tab : Str → Option PV) : Prop where
  ex : ∃ d es n, mg x = some (.ref d) ∧ KDict K w d es n ∧ KTab K d tab
section
variable {X : Cx} {x : Str} {pos p1 apos cpos : Pos} {e : Expr} {f : FE} {p : PV} {tab : Str → Option PV}
theorem simE_glo (g : Glo X.K X.mg x p) (hg : Gl X x) (hd : (x == ("__debug__" : Str)) = false := by decide) : SimE X (.Name x pos) (eC p) := by
  obtain ⟨u, v, hm, r, hr⟩ := g.ex
  exact simE_gl hg hm r hr hd
theorem simE_kgetG (g : KGlo X.K X.w X.mg x tab) (hg : Gl X x) (he : SimE X e f) (m : M1 X (.Name x p1) "get" apos e cpos) (hd : (x == ("__debug__" : Str)) = false := by decide) :
    SimE X (.Call (.Attribute (.Name x p1) "get" apos) [e] [] cpos) (eKget tab f) := by
  obtain ⟨d, es, n, hm, D, T⟩ := g.ex
  exact simE_kget D T hg hm he m hd
end
end L3
end
section
set_option Elab.async false
set_option linter.all false
set_option maxRecDepth 100000
namespace L3
open PySem PySem.Spec PyProof.Rows L2

/-! ### from the text behind the top to promises -/
section
variable {P : Program} {w : World} {K : PySem.W.Frag} {mg : Str → Option Value} {base : Heap}
theorem fn_promD {x qual : Str} {params : Arguments} {body : List Stmt} {scope : Scope} {dvs : List V} {f : Addr} {fd : FuncData} {N ps : List Str} {k : Nat} {b : FS} (F : FunD K x qual params body scope dvs [] f fd) (S : FnScope N ps scope)
    (hb : ∀ (cdv : Value) (A : Around) (outer : List Env) (s : Shared) (H : Hp) (E : XK), Room k (A.deeper (envOfC qual scope s.heap.objs.size f cdv)) → SimSs (cxOf L2.CX0 P w K mg base N qual scope f cdv A outer s H E).nox body b) :
    FnOk P w K mg base L2.CX0 (k + 1) f fd ps (spF K (fnS ps.length (N.length - ps.length) b)) := by
  refine F.ok S (fun vs H Q E ⟨B, μ, st, ps', v, st', s, r, e, _⟩ => ?_) fun cdv A outer s H vs Q E hr ⟨B, μ, st, ps', v, st', s, r, e, k⟩ => ?_
  · unfold fnS at e
    split at e
    · rename_i h; rw [r.length]; exact h
    · cases e
  · refine ⟨_, (hb cdv A outer _ H E hr).nox, ?_⟩
    unfold fnS at e
    split at e
    · rename_i hl
      have hl' : vs.length = ps.length := by rw [r.length]; exact hl
      have hst : L2.start N vs = vs.map some ++ List.replicate (N.length - ps.length) none := by unfold L2.start; rw [hl']
      rw [hst]
      split at e
      · rename_i u env1 st1 h1
        have e5 : u = v ∧ st1 = st' := by cases e; exact ⟨rfl, rfl⟩
        obtain ⟨e5, e6⟩ := e5
        subst e5 e6
        exact RdS.go s (repE_start r) h1 fun σ' H' μ' s' l' r' => fun x rx => k x H' μ' s' l' rx
      · rename_i env1 st1 h1
        have e5 : PV.non = v ∧ st1 = st' := by cases e; exact ⟨rfl, rfl⟩
        obtain ⟨e5, e6⟩ := e5
        subst e5 e6
        exact RdS.go s (repE_start r) h1 fun σ' H' μ' s' l' r' => k .non H' μ' s' l' .non
      · cases e
    · cases e
/-- a choice by the number of arguments -/
theorem fnR_ite {f : Addr} {k m : Nat} {g1 g2 : GA} (h1 : FnR P w K mg base L2.CX0 k f (spF K g1)) (h2 : FnR P w K mg base L2.CX0 k f (spF K g2)) : FnR P w K mg base L2.CX0 k f (spF K fun as st => if as.length = m then g1 as st else g2 as st) := by
  intro A outer s H us vs Q E hr e0 r ⟨B, μ, st, ps, v, st', sm, rp, e, kk⟩
  by_cases hm : ps.length = m
  · exact h1 A outer s H us vs Q E hr e0 r ⟨B, μ, st, ps, v, st', sm, rp, by simpa [hm] using e, kk⟩
  · exact h2 A outer s H us vs Q E hr e0 r ⟨B, μ, st, ps, v, st', sm, rp, by simpa [hm] using e, kk⟩
theorem cal_of {k : Nat} {x : Str} {g : GA} {a : Addr} (F : FnR P w K mg base L2.CX0 k a (spF K g)) (m : mg x = some (.ref a)) (kp : PySem.W.keepIn K (.ref a) = true) : Cal P w K mg base k x g := ⟨a, F, m, kp⟩
theorem met_of {k : Nat} {C : Addr} {m : Str} {g : GA} {a : Addr} (F : FnR P w K mg base L2.CX0 k a (spF K g)) (c : Cls K C) (M : Meth K C m a) : Met P w K mg base k C m g := ⟨a, c, M, F⟩

/-! ### the top's data -/
theorem glo_str {x : Str} {z : Str} {t : Tok} (m : mg x = some (.str z t)) : Glo K mg x (.str z) := ⟨_, .str z, m, ⟨t, rfl⟩, fun _ _ _ => .str z⟩
theorem glo_int {x : Str} {i : Int} {t : Tok} (m : mg x = some (.int i t)) : Glo K mg x (.int i) := ⟨_, .int i, m, ⟨t, rfl⟩, fun _ _ _ => .int i⟩
theorem glo_tup {x : Str} {T : Addr} {od : Option Addr} {its : Array Value} {n : Nat} {sl : Array (Option Value)} {vs : List V} {xs : List PV} (m : mg x = some (.ref T)) (l : K.lookup T = some ⟨.type "tuple", od, .seq its n, sl⟩) (hs : its.size ≤ sizeLine) (hv : Vals vs its.toList)
    (hr : ∀ (B : Addr → Prop) (μ : Mu) (H : Hp), RepVs K B μ H vs xs) : Glo K mg x (.tup xs) := ⟨_, .ref T, m, rfl, fun B μ H => .tupK l rfl rfl hs hv (hr B μ H)⟩
def kvOf (e : DictEntry) : Option (Str × Str) := match e.key, e.val with
  | .str x _, .str y _ => some (x, y)
  | _, _ => none
def shapeP (tab : List (Str × Str)) (z : Str) : Option PV := (tab.find? fun p => p.1 == z).map fun p => .str p.2
theorem isStr_eq (x z : Str) (t : Tok) : (Value.str x t).isStr z = (x == z) := by
  rw [PySem.W.isStr_of]; rfl
theorem ktab_of {d : Addr} {c : Value} {od : Option Addr} {es : Array DictEntry} {n : Nat} {sl : Array (Option Value)} {tab : List (Str × Str)} (l : K.lookup d = some ⟨c, od, .dict es n, sl⟩) (h : es.toList.map kvOf = tab.map some) : KTab K d (shapeP tab) := by
  intro z
  have hr : es.toList.any (·.refKey) = false := by
    rw [List.any_eq_false]
    intro e he
    have h1 : kvOf e ∈ tab.map some := by rw [← h]; exact List.mem_map_of_mem he
    obtain ⟨p, _, hp⟩ := List.mem_map.mp h1
    unfold kvOf at hp
    split at hp
    · rename_i x t y u e1 e2
      simp [DictEntry.refKey, e1]
    · cases hp
  have key : ∀ (L : List DictEntry) (T : List (Str × Str)), L.map kvOf = T.map some → match L.find? (·.key.isStr z), shapeP T z with
      | some e, some p => ∃ v, RelV v e.val ∧ ∀ (B : Addr → Prop) (μ : Mu) (H : Hp), RepV K B μ H v p
      | none, none => True
      | _, _ => False := by
    intro L
    induction L with
    | nil => intro T hT; cases T with
      | nil => simp [shapeP]
      | cons => cases hT
    | cons e L ih =>
      intro T hT
      cases T with
      | nil => cases hT
      | cons p T =>
        rw [List.map_cons, List.map_cons] at hT
        injection hT with h1 h2
        have ih' := ih T h2
        unfold kvOf at h1
        split at h1
        · rename_i x t y u e1 e2
          cases h1
          have hk : e.key.isStr z = (x == z) := by rw [e1]; exact isStr_eq x z t
          by_cases hz : (x == z) = true
          · rw [List.find?_cons_of_pos (by rw [hk]; exact hz)]
            unfold shapeP
            rw [List.find?_cons_of_pos (by exact hz)]
            exact ⟨.str y, by rw [e2]; exact ⟨u, rfl⟩, fun _ _ _ => .str y⟩
          · rw [List.find?_cons_of_neg (by rw [hk]; exact hz)]
            unfold shapeP
            rw [List.find?_cons_of_neg (by exact hz)]
            exact ih'
        · cases h1
  have := key es.toList tab h
  unfold PySem.W.nsIn
  rw [l]
  simp only
  cases hf : es.toList.find? (·.key.isStr z) with
  | none =>
    rw [hf] at this
    refine ⟨none, by simp [hr], ?_⟩
    cases hl : shapeP tab z with
    | none => trivial
    | some p => rw [hl] at this; exact this.elim
  | some e =>
    rw [hf] at this
    refine ⟨some e.val, rfl, ?_⟩
    cases hl : shapeP tab z with
    | none => rw [hl] at this; exact this.elim
    | some p => rw [hl] at this; exact this
theorem kglo_of {x : Str} {d : Addr} {es : Array DictEntry} {n : Nat} {tab : List (Str × Str)} (m : mg x = some (.ref d)) (l : K.lookup d = some ⟨.type "dict", none, .dict es n, #[]⟩) (lit : PySem.W.KeysLit w.params es.toList) (low : (d == sysModules) = false) (h : es.toList.map kvOf = tab.map some) : KGlo K w mg x (shapeP tab) :=
  ⟨d, es, n, m, ⟨l, lit, low⟩, ktab_of l h⟩
/-- the law's promise -/
def spLaw (K : PySem.W.Frag) (most : Nat) : Sp := fun vs H Q _ => ∃ (a : Addr) (ns : List Int), vs = [.ref a] ∧ ns.length ≤ most ∧ SqL K H a (ns.map V.int) ∧ ∀ H', Q (.bl true) H'
theorem law_end {k most : Nat} {f : Addr} {fd : FuncData} {g : GA} (F : FnOk P w K mg base L2.CX0 k f fd ["script"] (spF K g)) (h : ∀ ns : List Int, ns.length ≤ most → ∃ st, g [.ro ns] [] = some (.bl true, st)) : FnOk P w K mg base L2.CX0 k f fd ["script"] (spLaw K most) :=
  F.imp fun vs H Q E ⟨a, ns, e, hl, hS, q⟩ => by
    subst e
    obtain ⟨st, hg⟩ := h ns hl
    have nl : ¬ live ([] : Mu) a := fun ⟨i, z⟩ => by simp at z
    have rp : RepV K (fun _ => False) [] H (.ref a) (.ro ns) := by
      rcases hS with hS | hS
      · exact .ro (fun z => z) nl hS
      · exact .roK (.inr hS)
    refine ⟨fun _ => False, [], [], [.ro ns], .bl true, st, ⟨rfl, fun i j b h1 => by simp at h1, fun i b h1 => by simp at h1, fun b z => z.elim, fun i c z => by simp at z⟩, .cons rp .nil, hg, fun x H' μ' s' l' r' => ?_⟩
    cases r'
    exact q H'
end
end L3
end
section
set_option Elab.async false
set_option linter.all false
set_option maxRecDepth 100000
set_option maxHeartbeats 0
namespace L3
open PySem PySem.Spec PyProof.Rows L2
namespace K07
def tab_SHAPES : List (Str × Str) := [("var", "n"), ("fun", "st"), ("app", "tt"), ("pair", "tt"), ("first", "t"), ("second", "t"), ("left", "st"), ("right", "st"), ("case", "ttt"), ("never", "st")]
/-! ### the text: printed by gen.py -/
def topS (i : Nat) : Stmt := PySem.Challenge.pw_proofsthatrun_k07_whole_sentences_known.main.body.getD i (.Pass ⟨0, 0, 0, 0⟩)
inductive Fn where
  | is_name | size_within | is_sentence | Search_fresh | Search_more | Search_without | solve | solve_case | solve_both | take_atom | take_arrow | solve_open | solve_asked | settled | decide | is_proved | is_program | kind_of | made_kind | case_kind | proves | law_draws | law_draw | law_pick | law_atoms | law_sentence | law_size | law_forms | law_equal | law
def nm : Fn → Str
  | .is_name => "is_name"
  | .size_within => "size_within"
  | .is_sentence => "is_sentence"
  | .Search_fresh => "fresh"
  | .Search_more => "more"
  | .Search_without => "without"
  | .solve => "solve"
  | .solve_case => "solve_case"
  | .solve_both => "solve_both"
  | .take_atom => "take_atom"
  | .take_arrow => "take_arrow"
  | .solve_open => "solve_open"
  | .solve_asked => "solve_asked"
  | .settled => "settled"
  | .decide => "decide"
  | .is_proved => "is_proved"
  | .is_program => "is_program"
  | .kind_of => "kind_of"
  | .made_kind => "made_kind"
  | .case_kind => "case_kind"
  | .proves => "proves"
  | .law_draws => "_law_draws"
  | .law_draw => "_law_draw"
  | .law_pick => "_law_pick"
  | .law_atoms => "_law_atoms"
  | .law_sentence => "_law_sentence"
  | .law_size => "_law_size"
  | .law_forms => "_law_forms"
  | .law_equal => "_law_equal"
  | .law => "law"
abbrev N_Search___init__ : List Str := ["self", "names", "facts", "arrows", "todo"]
def b_Search___init__ (R : Fn → GA) (C : Addr) (n : Nat) : FS := sSeq (sFl C "names" (eVar 0) (eVar 1)) (sSeq (sFl C "facts" (eVar 0) (eVar 2)) (sSeq (sFl C "arrows" (eVar 0) (eVar 3)) (sFl C "todo" (eVar 0) (eVar 4))))
def g_init (C : Addr) : GA := fnS 5 0 (b_Search___init__ (fun _ _ _ => none) C 0)
abbrev N_is_name : List Str := ["value", "sign"]
def b_is_name (R : Fn → GA) (C : Addr) (n : Nat) : FS := sSeq (sIf (tOr2 (tNot2 (tOf (eUn (gIsi "str") (eVar 0)))) (tOr2 (tNot2 (tChn gLe gLe (eC (.int 1)) (eCall cLen (aCons (eVar 0) (aNil))) (eC (.int 12)))) (tOf (eBin gNotInS (eBin gIx (eVar 0) (eC (.int 0))) (eC (.str "abcdefghijklmnopqrstuvwxyz")))))) (sRet (eC (.bl false))) (sNx)) (sRet (eCall (cBls fun bs => bs.all id) (aCons (eLc (iSeq (eVar 0)) (tN 1) (tYes) (eBin gInS (eVar 1) (eBin gAdd (eC (.str "abcdefghijklmnopqrstuvwxyz")) (eC (.str "0123456789")))) [1]) (aNil))))
abbrev N_size_within : List Str := ["value", "most", "first", "other"]
def b_size_within (R : Fn → GA) (C : Addr) (n : Nat) : FS := sSeq (sIf (tOr2 (tOf (eBin gLt (eVar 1) (eC (.int 1)))) (tOr2 (tNot2 (tOf (eUn (gIsi "tuple") (eVar 0)))) (tOr2 (tOf (eBin gEq (eCall cLen (aCons (eVar 0) (aNil))) (eC (.int 0)))) (tNot2 (tOf (eUn (gIsi "str") (eBin gIx (eVar 0) (eC (.int 0))))))))) (sRet (eC .non)) (sNx)) (sSeq (sIf (tOf (eBin gEq (eBin gIx (eVar 0) (eC (.int 0))) (eC (.str "false")))) (sRet (eIf (tOf (eBin gEq (eCall cLen (aCons (eVar 0) (aNil))) (eC (.int 1)))) (eC (.int 1)) (eC .non))) (sNx)) (sSeq (sIf (tOf (eBin gEq (eBin gIx (eVar 0) (eC (.int 0))) (eC (.str "atom")))) (sRet (eIf (tAnd2 (tOf (eBin gEq (eCall cLen (aCons (eVar 0) (aNil))) (eC (.int 2)))) (tOf (eP (R .is_name) (aCons (eBin gIx (eVar 0) (eC (.int 1))) (aNil))))) (eC (.int 1)) (eC .non))) (sNx)) (sSeq (sIf (tOr2 (tOf (eBin gNotIn (eBin gIx (eVar 0) (eC (.int 0))) (eTup (aCons (eC (.str "and")) (aCons (eC (.str "or")) (aCons (eC (.str "to")) (aNil))))))) (tOf (eBin gNe (eCall cLen (aCons (eVar 0) (aNil))) (eC (.int 3))))) (sRet (eC .non)) (sNx)) (sSeq (sSet 2 (eP (R .size_within) (aCons (eBin gIx (eVar 0) (eC (.int 1))) (aCons (eBin gSub (eVar 1) (eC (.int 1))) (aNil))))) (sSeq (sIf (tOf (eBin (gIsN false) (eVar 2) (eC .non))) (sRet (eC .non)) (sNx)) (sSeq (sSet 3 (eP (R .size_within) (aCons (eBin gIx (eVar 0) (eC (.int 2))) (aCons (eBin gSub (eBin gSub (eVar 1) (eC (.int 1))) (eVar 2)) (aNil))))) (sRet (eIf (tOf (eBin (gIsN false) (eVar 3) (eC .non))) (eC .non) (eBin gAdd (eBin gAdd (eC (.int 1)) (eVar 2)) (eVar 3))))))))))
abbrev N_is_sentence : List Str := ["value"]
def b_is_sentence (R : Fn → GA) (C : Addr) (n : Nat) : FS := sRet (eBin (gIsN true) (eP (R .size_within) (aCons (eVar 0) (aCons (eC (.int 60)) (aNil)))) (eC .non))
abbrev N_Search_fresh : List Str := ["self"]
def b_Search_fresh (R : Fn → GA) (C : Addr) (n : Nat) : FS := sSeq (sEx (eBM mAppend (eFld C "names" (eVar 0)) (aCons (eC (.bl true)) (aNil)))) (sRet (eTup (aCons (eC (.str "name")) (aCons (eBin gSub (eCall cLen (aCons (eFld C "names" (eVar 0)) (aNil))) (eC (.int 1))) (aNil)))))
abbrev N_Search_more : List Str := ["self", "pairs"]
def b_Search_more (R : Fn → GA) (C : Addr) (n : Nat) : FS := sRet (eNew C (g_init C) (aCons (eFld C "names" (eVar 0)) (aCons (eCall cDicC (aCons (eFld C "facts" (eVar 0)) (aNil))) (aCons (eCall cLstM (aCons (eFld C "arrows" (eVar 0)) (aNil))) (aCons (eBin gCatM (eCall cLst (aCons (eFld C "todo" (eVar 0)) (aNil))) (eCall cLst (aCons (eVar 1) (aNil)))) (aNil))))))
abbrev N_Search_without : List Str := ["self", "at"]
def b_Search_without (R : Fn → GA) (C : Addr) (n : Nat) : FS := sRet (eNew C (g_init C) (aCons (eFld C "names" (eVar 0)) (aCons (eCall cDicC (aCons (eFld C "facts" (eVar 0)) (aNil))) (aCons (eBin gCatM (eSl gSlL (eFld C "arrows" (eVar 0)) (oNone) (oSome (eVar 1))) (eSl gSlL (eFld C "arrows" (eVar 0)) (oSome (eBin gAdd (eVar 1) (eC (.int 1)))) (oNone))) (aCons (eCall cLstM (aCons (eFld C "todo" (eVar 0)) (aNil))) (aNil))))))
abbrev N_solve : List Str := ["state", "goal", "word", "name", "found", "sentence", "program"]
def b_solve (R : Fn → GA) (C : Addr) (n : Nat) : FS := sSeq (wloop (tOf (eBin gGt (eCall cLen (aCons (eFld C "todo" (eVar 0)) (aNil))) (eC (.int 0)))) (sSeq (sAsg (tT 2 (tCons (tN 5) (tCons (tN 6) (tNil)))) (eBM0 mPop (eFld C "todo" (eVar 0)))) (sSeq (sSet 2 (eBin gIx (eVar 5) (eC (.int 0)))) (sSeq (sIf (tOf (eBin gEq (eVar 2) (eC (.str "false")))) (sRet (eTup (aCons (eC (.str "program")) (aCons (eTup (aCons (eC (.str "never")) (aCons (eVar 1) (aCons (eVar 6) (aNil))))) (aNil))))) (sNx)) (sSeq (sIf (tOf (eBin gEq (eVar 2) (eC (.str "or")))) (sRet (eS (R .solve_case) (aCons (eVar 0) (aCons (eVar 5) (aCons (eVar 6) (aCons (eVar 1) (aNil))))))) (sNx)) (sIf (tOf (eBin gEq (eVar 2) (eC (.str "and")))) (sEx (eBM mExtend (eFld C "todo" (eVar 0)) (aCons (eLst (aCons (eTup (aCons (eBin gIx (eVar 5) (eC (.int 2))) (aCons (eTup (aCons (eC (.str "second")) (aCons (eVar 6) (aNil)))) (aNil)))) (aCons (eTup (aCons (eBin gIx (eVar 5) (eC (.int 1))) (aCons (eTup (aCons (eC (.str "first")) (aCons (eVar 6) (aNil)))) (aNil)))) (aNil)))) (aNil)))) (sIf (tOf (eBin gEq (eVar 2) (eC (.str "atom")))) (sEx (eS (R .take_atom) (aCons (eVar 0) (aCons (eVar 5) (aCons (eVar 6) (aNil)))))) (sEx (eS (R .take_arrow) (aCons (eVar 0) (aCons (eVar 5) (aCons (eVar 6) (aNil)))))))))))) 100000) (sSeq (sIf (tAnd2 (tOf (eBin gEq (eBin gIx (eVar 1) (eC (.int 0))) (eC (.str "atom")))) (tOf (eDin false (eBin gIx (eVar 1) (eC (.int 1))) (eFld C "facts" (eVar 0))))) (sRet (eTup (aCons (eC (.str "program")) (aCons (eDget (eFld C "facts" (eVar 0)) (eBin gIx (eVar 1) (eC (.int 1)))) (aNil))))) (sNx)) (sSeq (sIf (tOf (eBin gEq (eBin gIx (eVar 1) (eC (.int 0))) (eC (.str "to")))) (sSeq (sSet 3 (eM C "fresh" (R .Search_fresh) (eVar 0) aNil)) (sSeq (sSet 4 (eS (R .solve) (aCons (eM C "more" (R .Search_more) (eVar 0) (aCons (eTup (aCons (eBin gIx (eVar 1) (eC (.int 1))) (aCons (eVar 3) (aNil)))) (aNil))) (aCons (eBin gIx (eVar 1) (eC (.int 2))) (aNil))))) (sRet (eIf (tOf (eBin gEq (eBin gIx (eVar 4) (eC (.int 0))) (eC (.str "world")))) (eVar 4) (eTup (aCons (eC (.str "program")) (aCons (eTup (aCons (eC (.str "bind")) (aCons (eVar 3) (aCons (eBin gIx (eVar 1) (eC (.int 1))) (aCons (eBin gIx (eVar 4) (eC (.int 1))) (aNil)))))) (aNil)))))))) (sNx)) (sSeq (sIf (tOf (eBin gEq (eBin gIx (eVar 1) (eC (.int 0))) (eC (.str "and")))) (sRet (eS (R .solve_both) (aCons (eVar 0) (aCons (eVar 1) (aNil))))) (sNx)) (sRet (eS (R .solve_open) (aCons (eVar 0) (aCons (eVar 1) (aNil))))))))
abbrev N_solve_case : List Str := ["state", "sentence", "program", "goal", "found", "side", "name", "told"]
def b_solve_case (R : Fn → GA) (C : Addr) (n : Nat) : FS := sSeq (sSet 4 (eLstM (aNil))) (sSeq (sFor (iSeq (eSl gSlT (eVar 1) (oSome (eC (.int 1))) (oNone))) (tN 5) (sSeq (sSet 6 (eM C "fresh" (R .Search_fresh) (eVar 0) aNil)) (sSeq (sSet 7 (eS (R .solve) (aCons (eM C "more" (R .Search_more) (eVar 0) (aCons (eTup (aCons (eVar 5) (aCons (eVar 6) (aNil)))) (aNil))) (aCons (eVar 3) (aNil))))) (sSeq (sIf (tOf (eBin gEq (eBin gIx (eVar 7) (eC (.int 0))) (eC (.str "world")))) (sRet (eVar 7)) (sNx)) (sEx (eBM mAppend (eVar 4) (aCons (eTup (aCons (eVar 6) (aCons (eBin gIx (eVar 7) (eC (.int 1))) (aNil)))) (aNil)))))))) (sRet (eTup (aCons (eC (.str "program")) (aCons (eTup (aCons (eC (.str "split")) (aCons (eVar 2) (aCons (eBin gIx (eVar 4) (eC (.int 0))) (aCons (eBin gIx (eVar 4) (eC (.int 1))) (aNil)))))) (aNil))))))
abbrev N_solve_both : List Str := ["state", "goal", "found", "part", "told"]
def b_solve_both (R : Fn → GA) (C : Addr) (n : Nat) : FS := sSeq (sSet 2 (eLstM (aNil))) (sSeq (sFor (iSeq (eSl gSlT (eVar 1) (oSome (eC (.int 1))) (oNone))) (tN 3) (sSeq (sSet 4 (eS (R .solve) (aCons (eM C "more" (R .Search_more) (eVar 0) aNil) (aCons (eVar 3) (aNil))))) (sSeq (sIf (tOf (eBin gEq (eBin gIx (eVar 4) (eC (.int 0))) (eC (.str "world")))) (sRet (eVar 4)) (sNx)) (sEx (eBM mAppend (eVar 2) (aCons (eBin gIx (eVar 4) (eC (.int 1))) (aNil))))))) (sRet (eTup (aCons (eC (.str "program")) (aCons (eTup (aCons (eC (.str "pair")) (aCons (eBin gIx (eVar 2) (eC (.int 0))) (aCons (eBin gIx (eVar 2) (eC (.int 1))) (aNil))))) (aNil))))))
abbrev N_take_atom : List Str := ["state", "sentence", "program", "arrow", "other"]
def b_take_atom (R : Fn → GA) (C : Addr) (n : Nat) : FS := sSeq (sIf (tOf (eDin false (eBin gIx (eVar 1) (eC (.int 1))) (eFld C "facts" (eVar 0)))) (sRetN) (sNx)) (sSeq (sDput (eFld C "facts" (eVar 0)) (eBin gIx (eVar 1) (eC (.int 1))) (eVar 2)) (sFor (iSeq (eCall cLst (aCons (eFld C "arrows" (eVar 0)) (aNil)))) (tT 2 (tCons (tN 3) (tCons (tN 4) (tNil)))) (sIf (tOf (eBin gEq (eBin gIx (eVar 3) (eC (.int 1))) (eVar 1))) (sSeq (sEx (eBM mRemove (eFld C "arrows" (eVar 0)) (aCons (eTup (aCons (eVar 3) (aCons (eVar 4) (aNil)))) (aNil)))) (sEx (eBM mAppend (eFld C "todo" (eVar 0)) (aCons (eTup (aCons (eBin gIx (eVar 3) (eC (.int 2))) (aCons (eTup (aCons (eC (.str "app")) (aCons (eVar 4) (aCons (eVar 2) (aNil))))) (aNil)))) (aNil))))) (sNx))))
abbrev N_take_arrow : List Str := ["state", "sentence", "program", "asked", "given", "inner", "first", "other", "word", "side", "name"]
def b_take_arrow (R : Fn → GA) (C : Addr) (n : Nat) : FS := sSeq (sPar2 3 4 (aCons (eBin gIx (eVar 1) (eC (.int 1))) (aCons (eBin gIx (eVar 1) (eC (.int 2))) (aNil)))) (sSeq (sIf (tOf (eBin gEq (eVar 3) (eC (.tup [.str "false"])))) (sRetN) (sNx)) (sIf (tAnd2 (tOf (eBin gEq (eBin gIx (eVar 3) (eC (.int 0))) (eC (.str "atom")))) (tOf (eDin false (eBin gIx (eVar 3) (eC (.int 1))) (eFld C "facts" (eVar 0))))) (sEx (eBM mAppend (eFld C "todo" (eVar 0)) (aCons (eTup (aCons (eVar 4) (aCons (eTup (aCons (eC (.str "app")) (aCons (eVar 2) (aCons (eDget (eFld C "facts" (eVar 0)) (eBin gIx (eVar 3) (eC (.int 1)))) (aNil))))) (aNil)))) (aNil)))) (sIf (tOf (eBin gEq (eBin gIx (eVar 3) (eC (.int 0))) (eC (.str "and")))) (sSeq (sPar2 6 7 (aCons (eM C "fresh" (R .Search_fresh) (eVar 0) aNil) (aCons (eM C "fresh" (R .Search_fresh) (eVar 0) aNil) (aNil)))) (sSeq (sSet 5 (eTup (aCons (eC (.str "bind")) (aCons (eVar 7) (aCons (eBin gIx (eVar 3) (eC (.int 2))) (aCons (eTup (aCons (eC (.str "app")) (aCons (eVar 2) (aCons (eTup (aCons (eC (.str "pair")) (aCons (eVar 6) (aCons (eVar 7) (aNil))))) (aNil))))) (aNil))))))) (sEx (eBM mAppend (eFld C "todo" (eVar 0)) (aCons (eTup (aCons (eTup (aCons (eC (.str "to")) (aCons (eBin gIx (eVar 3) (eC (.int 1))) (aCons (eTup (aCons (eC (.str "to")) (aCons (eBin gIx (eVar 3) (eC (.int 2))) (aCons (eVar 4) (aNil))))) (aNil))))) (aCons (eTup (aCons (eC (.str "bind")) (aCons (eVar 6) (aCons (eBin gIx (eVar 3) (eC (.int 1))) (aCons (eVar 5) (aNil)))))) (aNil)))) (aNil)))))) (sIf (tOf (eBin gEq (eBin gIx (eVar 3) (eC (.int 0))) (eC (.str "or")))) (sFor (iSeq (eTup (aCons (eTup (aCons (eC (.str "left")) (aCons (eBin gIx (eVar 3) (eC (.int 1))) (aNil)))) (aCons (eTup (aCons (eC (.str "right")) (aCons (eBin gIx (eVar 3) (eC (.int 2))) (aNil)))) (aNil))))) (tT 2 (tCons (tN 8) (tCons (tN 9) (tNil)))) (sSeq (sSet 10 (eM C "fresh" (R .Search_fresh) (eVar 0) aNil)) (sEx (eBM mAppend (eFld C "todo" (eVar 0)) (aCons (eTup (aCons (eTup (aCons (eC (.str "to")) (aCons (eVar 9) (aCons (eVar 4) (aNil))))) (aCons (eTup (aCons (eC (.str "bind")) (aCons (eVar 10) (aCons (eVar 9) (aCons (eTup (aCons (eC (.str "app")) (aCons (eVar 2) (aCons (eTup (aCons (eVar 8) (aCons (eVar 3) (aCons (eVar 10) (aNil))))) (aNil))))) (aNil)))))) (aNil)))) (aNil)))))) (sEx (eBM mAppend (eFld C "arrows" (eVar 0)) (aCons (eTup (aCons (eVar 1) (aCons (eVar 2) (aNil)))) (aNil))))))))
abbrev N_solve_open : List Str := ["state", "goal", "trees", "at", "word", "side", "told", "arrow", "program"]
def b_solve_open (R : Fn → GA) (C : Addr) (n : Nat) : FS := sFrzF 0 "arrows" (sSeq (sSet 2 (eLstM (aNil))) (sSeq (sIf (tOf (eBin gEq (eBin gIx (eVar 1) (eC (.int 0))) (eC (.str "or")))) (sFor (iSeq (eTup (aCons (eTup (aCons (eC (.str "left")) (aCons (eBin gIx (eVar 1) (eC (.int 1))) (aNil)))) (aCons (eTup (aCons (eC (.str "right")) (aCons (eBin gIx (eVar 1) (eC (.int 2))) (aNil)))) (aNil))))) (tT 2 (tCons (tN 4) (tCons (tN 5) (tNil)))) (sSeq (sSet 6 (eS (R .solve) (aCons (eM C "more" (R .Search_more) (eVar 0) aNil) (aCons (eVar 5) (aNil))))) (sSeq (sIf (tOf (eBin gEq (eBin gIx (eVar 6) (eC (.int 0))) (eC (.str "program")))) (sRet (eTup (aCons (eC (.str "program")) (aCons (eTup (aCons (eVar 4) (aCons (eVar 1) (aCons (eBin gIx (eVar 6) (eC (.int 1))) (aNil))))) (aNil))))) (sNx)) (sEx (eBM mAppend (eVar 2) (aCons (eBin gIx (eVar 6) (eC (.int 1))) (aNil))))))) (sNx)) (sSeq (sFor (iEnm (aCons (eFld C "arrows" (eVar 0)) (aNil))) (tT 2 (tCons (tN 3) (tCons (tT 2 (tCons (tN 7) (tCons (tN 8) (tNil)))) (tNil)))) (sIf (tOf (eBin gEq (eBin gIx (eBin gIx (eVar 7) (eC (.int 1))) (eC (.int 0))) (eC (.str "to")))) (sSeq (sSet 6 (eS (R .solve_asked) (aCons (eVar 0) (aCons (eVar 3) (aCons (eVar 7) (aCons (eVar 8) (aNil))))))) (sSeq (sIf (tOf (eBin gEq (eBin gIx (eVar 6) (eC (.int 0))) (eC (.str "program")))) (sRet (eS (R .solve) (aCons (eM C "more" (R .Search_more) (eM C "without" (R .Search_without) (eVar 0) (aCons (eVar 3) (aNil))) (aCons (eTup (aCons (eBin gIx (eVar 7) (eC (.int 2))) (aCons (eTup (aCons (eC (.str "app")) (aCons (eVar 8) (aCons (eBin gIx (eVar 6) (eC (.int 1))) (aNil))))) (aNil)))) (aNil))) (aCons (eVar 1) (aNil))))) (sNx)) (sEx (eBM mAppend (eVar 2) (aCons (eBin gIx (eVar 6) (eC (.int 1))) (aNil)))))) (sNx))) (sRet (eTup (aCons (eC (.str "world")) (aCons (eTup (aCons (eC (.str "world")) (aCons (eCall cTup (aCons (eCall cSrtD (aCons (eFld C "facts" (eVar 0)) (aNil))) (aNil))) (aCons (eCall cTup (aCons (eVar 2) (aNil))) (aNil))))) (aNil))))))))
abbrev N_solve_asked : List Str := ["state", "at", "arrow", "program", "less", "_", "given", "ending", "idle", "first", "last"]
def b_solve_asked (R : Fn → GA) (C : Addr) (n : Nat) : FS := sSeq (sAsg (tT 3 (tCons (tN 5) (tCons (tT 3 (tCons (tN 5) (tCons (tN 9) (tCons (tN 10) (tNil))))) (tCons (tN 6) (tNil))))) (eVar 2)) (sSeq (sPar2 7 8 (aCons (eM C "fresh" (R .Search_fresh) (eVar 0) aNil) (aCons (eM C "fresh" (R .Search_fresh) (eVar 0) aNil) (aNil)))) (sSeq (sSet 4 (eTup (aCons (eC (.str "bind")) (aCons (eVar 7) (aCons (eVar 10) (aCons (eTup (aCons (eC (.str "app")) (aCons (eVar 3) (aCons (eTup (aCons (eC (.str "bind")) (aCons (eVar 8) (aCons (eVar 9) (aCons (eVar 7) (aNil)))))) (aNil))))) (aNil))))))) (sRet (eS (R .solve) (aCons (eM C "more" (R .Search_more) (eM C "without" (R .Search_without) (eVar 0) (aCons (eVar 1) (aNil))) (aCons (eTup (aCons (eTup (aCons (eC (.str "to")) (aCons (eVar 10) (aCons (eVar 6) (aNil))))) (aCons (eVar 4) (aNil)))) (aNil))) (aCons (eTup (aCons (eC (.str "to")) (aCons (eVar 9) (aCons (eVar 10) (aNil))))) (aNil)))))))
abbrev N_settled : List Str := ["program", "names", "word", "sides", "name", "part"]
def b_settled (R : Fn → GA) (C : Addr) (n : Nat) : FS := sSeq (sSet 2 (eBin gIx (eVar 0) (eC (.int 0)))) (sSeq (sIf (tOf (eBin gEq (eVar 2) (eC (.str "name")))) (sRet (eTup (aCons (eC (.str "var")) (aCons (eIdxX (eVar 1) (eVar 0)) (aNil))))) (sNx)) (sSeq (sIf (tOf (eBin gEq (eVar 2) (eC (.str "bind")))) (sRet (eTup (aCons (eC (.str "fun")) (aCons (eBin gIx (eVar 0) (eC (.int 2))) (aCons (eP (R .settled) (aCons (eBin gIx (eVar 0) (eC (.int 3))) (aCons (eBin gAddX (eTupX (aCons (eBin gIx (eVar 0) (eC (.int 1))) (aNil))) (eVar 1)) (aNil)))) (aNil)))))) (sNx)) (sSeq (sIf (tOf (eBin gEq (eVar 2) (eC (.str "split")))) (sSeq (sSet 3 (eLc (iSeq (eSl gSlT (eVar 0) (oSome (eC (.int 2))) (oNone))) (tT 2 (tCons (tN 4) (tCons (tN 5) (tNil)))) (tYes) (eP (R .settled) (aCons (eVar 5) (aCons (eBin gAddX (eTupX (aCons (eVar 4) (aNil))) (eVar 1)) (aNil)))) [4, 5])) (sRet (eTup (aCons (eC (.str "case")) (aCons (eP (R .settled) (aCons (eBin gIx (eVar 0) (eC (.int 1))) (aCons (eVar 1) (aNil)))) (aCons (eBin gIx (eVar 3) (eC (.int 0))) (aCons (eBin gIx (eVar 3) (eC (.int 1))) (aNil)))))))) (sNx)) (sSeq (sIf (tOf (eBin gIn (eVar 2) (eTup (aCons (eC (.str "left")) (aCons (eC (.str "right")) (aCons (eC (.str "never")) (aNil))))))) (sRet (eTup (aCons (eVar 2) (aCons (eBin gIx (eVar 0) (eC (.int 1))) (aCons (eP (R .settled) (aCons (eBin gIx (eVar 0) (eC (.int 2))) (aCons (eVar 1) (aNil)))) (aNil)))))) (sNx)) (sRet (eBin gAdd (eTup (aCons (eVar 2) (aNil))) (eCall cTup (aCons (eLc (iSeq (eSl gSlT (eVar 0) (oSome (eC (.int 1))) (oNone))) (tN 5) (tYes) (eP (R .settled) (aCons (eVar 5) (aCons (eVar 1) (aNil)))) [5]) (aNil)))))))))
abbrev N_decide : List Str := ["context", "sentence", "state", "names", "found", "_"]
def b_decide (R : Fn → GA) (C : Addr) (n : Nat) : FS := sSeq (sSet 2 (eNew C (g_init C) (aCons (eLstM (aNil)) (aCons (eDic) (aCons (eLstM (aNil)) (aCons (eLstM (aNil)) (aNil))))))) (sSeq (sSet 3 (eCall cTupX (aCons (eLc (iSeq (eVar 0)) (tN 5) (tYes) (eM C "fresh" (R .Search_fresh) (eVar 2) aNil) [5]) (aNil)))) (sSeq (sEx (eBM mExtend (eFld C "todo" (eVar 2)) (aCons (eUn gRev (eLstZ (aCons (eVar 0) (aCons (eVar 3) (aNil))))) (aNil)))) (sSeq (sSet 4 (eS (R .solve) (aCons (eVar 2) (aCons (eVar 1) (aNil))))) (sRet (eIf (tOf (eBin gEq (eBin gIx (eVar 4) (eC (.int 0))) (eC (.str "world")))) (eVar 4) (eTup (aCons (eC (.str "program")) (aCons (eP (R .settled) (aCons (eBin gIx (eVar 4) (eC (.int 1))) (aCons (eVar 3) (aNil)))) (aNil)))))))))
abbrev N_is_proved : List Str := ["context", "sentence"]
def b_is_proved (R : Fn → GA) (C : Addr) (n : Nat) : FS := sRet (eBin gEq (eBin gIx (eP (R .decide) (aCons (eVar 0) (aCons (eVar 1) (aNil)))) (eC (.int 0))) (eC (.str "program")))
abbrev N_is_program : List Str := ["value", "depth", "shape", "kind", "part"]
def b_is_program (R : Fn → GA) (C : Addr) (n : Nat) : FS := sSeq (sIf (tOr2 (tOf (eBin gLt (eVar 1) (eC (.int 1)))) (tOr2 (tNot2 (tOf (eUn (gIsi "tuple") (eVar 0)))) (tOr2 (tOf (eBin gEq (eCall cLen (aCons (eVar 0) (aNil))) (eC (.int 0)))) (tNot2 (tOf (eUn (gIsi "str") (eBin gIx (eVar 0) (eC (.int 0))))))))) (sRet (eC (.bl false))) (sNx)) (sSeq (sSet 2 (eKget (shapeP tab_SHAPES) (eBin gIx (eVar 0) (eC (.int 0))))) (sSeq (sIf (tOr2 (tOf (eBin (gIsN false) (eVar 2) (eC .non))) (tOf (eBin gNe (eCall cLen (aCons (eVar 0) (aNil))) (eBin gAdd (eC (.int 1)) (eCall cLen (aCons (eVar 2) (aNil))))))) (sRet (eC (.bl false))) (sNx)) (sSeq (sFor (iZpS (aCons (eVar 2) (aCons (eSl gSlT (eVar 0) (oSome (eC (.int 1))) (oNone)) (aNil)))) (tT 2 (tCons (tN 3) (tCons (tN 4) (tNil)))) (sSeq (sIf (tAnd2 (tOf (eBin gEq (eVar 3) (eC (.str "n")))) (tOr2 (tNot2 (tOf (eUn (gIsi "int") (eVar 4)))) (tOr2 (tOf (eUn (gIsi "bool") (eVar 4))) (tOf (eBin gLt (eVar 4) (eC (.int 0))))))) (sRet (eC (.bl false))) (sNx)) (sSeq (sIf (tAnd2 (tOf (eBin gEq (eVar 3) (eC (.str "s")))) (tNot2 (tOf (eP (R .is_sentence) (aCons (eVar 4) (aNil)))))) (sRet (eC (.bl false))) (sNx)) (sIf (tAnd2 (tOf (eBin gEq (eVar 3) (eC (.str "t")))) (tNot2 (tOf (eP (R .is_program) (aCons (eVar 4) (aCons (eBin gSub (eVar 1) (eC (.int 1))) (aNil))))))) (sRet (eC (.bl false))) (sNx))))) (sRet (eC (.bl true))))))
abbrev N_kind_of : List Str := ["context", "program", "word", "kinds", "kind", "part"]
def b_kind_of (R : Fn → GA) (C : Addr) (n : Nat) : FS := sSeq (sSet 2 (eBin gIx (eVar 1) (eC (.int 0)))) (sSeq (sIf (tOf (eBin gEq (eVar 2) (eC (.str "var")))) (sRet (eIf (tOf (eBin gLt (eBin gIx (eVar 1) (eC (.int 1))) (eCall cLen (aCons (eVar 0) (aNil))))) (eBin gIx (eVar 0) (eBin gIx (eVar 1) (eC (.int 1)))) (eC .non))) (sNx)) (sSeq (sIf (tOf (eBin gEq (eVar 2) (eC (.str "fun")))) (sSeq (sSet 4 (eP (R .kind_of) (aCons (eBin gAdd (eTup (aCons (eBin gIx (eVar 1) (eC (.int 1))) (aNil))) (eVar 0)) (aCons (eBin gIx (eVar 1) (eC (.int 2))) (aNil))))) (sRet (eIf (tOf (eBin (gIsN false) (eVar 4) (eC .non))) (eC .non) (eTup (aCons (eC (.str "to")) (aCons (eBin gIx (eVar 1) (eC (.int 1))) (aCons (eVar 4) (aNil)))))))) (sNx)) (sSeq (sIf (tOf (eBin gIn (eVar 2) (eTup (aCons (eC (.str "left")) (aCons (eC (.str "right")) (aCons (eC (.str "never")) (aNil))))))) (sRet (eP (R .made_kind) (aCons (eVar 2) (aCons (eBin gIx (eVar 1) (eC (.int 1))) (aCons (eP (R .kind_of) (aCons (eVar 0) (aCons (eBin gIx (eVar 1) (eC (.int 2))) (aNil)))) (aNil)))))) (sNx)) (sSeq (sIf (tOf (eBin gEq (eVar 2) (eC (.str "case")))) (sRet (eP (R .case_kind) (aCons (eVar 0) (aCons (eVar 1) (aNil))))) (sNx)) (sSeq (sSet 3 (eLc (iSeq (eSl gSlT (eVar 1) (oSome (eC (.int 1))) (oNone))) (tN 5) (tYes) (eP (R .kind_of) (aCons (eVar 0) (aCons (eVar 5) (aNil)))) [5])) (sSeq (sIf (tOf (eBin gIn (eC .non) (eVar 3))) (sRet (eC .non)) (sNx)) (sSeq (sIf (tOf (eBin gEq (eVar 2) (eC (.str "pair")))) (sRet (eTup (aCons (eC (.str "and")) (aCons (eBin gIx (eVar 3) (eC (.int 0))) (aCons (eBin gIx (eVar 3) (eC (.int 1))) (aNil)))))) (sNx)) (sSeq (sIf (tOf (eBin gEq (eVar 2) (eC (.str "app")))) (sRet (eIf (tAnd2 (tOf (eBin gEq (eBin gIx (eBin gIx (eVar 3) (eC (.int 0))) (eC (.int 0))) (eC (.str "to")))) (tOf (eBin gEq (eBin gIx (eBin gIx (eVar 3) (eC (.int 0))) (eC (.int 1))) (eBin gIx (eVar 3) (eC (.int 1)))))) (eBin gIx (eBin gIx (eVar 3) (eC (.int 0))) (eC (.int 2))) (eC .non))) (sNx)) (sRet (eIf (tOf (eBin gEq (eBin gIx (eBin gIx (eVar 3) (eC (.int 0))) (eC (.int 0))) (eC (.str "and")))) (eBin gIx (eBin gIx (eVar 3) (eC (.int 0))) (eIf (tOf (eBin gEq (eVar 2) (eC (.str "first")))) (eC (.int 1)) (eC (.int 2)))) (eC .non)))))))))))
abbrev N_made_kind : List Str := ["word", "sentence", "kind", "side"]
def b_made_kind (R : Fn → GA) (C : Addr) (n : Nat) : FS := sSeq (sIf (tOf (eBin (gIsN false) (eVar 2) (eC .non))) (sRet (eC .non)) (sNx)) (sSeq (sIf (tOf (eBin gEq (eVar 0) (eC (.str "never")))) (sRet (eIf (tOf (eBin gEq (eVar 2) (eTup (aCons (eC (.str "false")) (aNil))))) (eVar 1) (eC .non))) (sNx)) (sSeq (sSet 3 (eIf (tOf (eBin gEq (eVar 0) (eC (.str "left")))) (eC (.int 1)) (eC (.int 2)))) (sRet (eIf (tAnd2 (tOf (eBin gEq (eBin gIx (eVar 1) (eC (.int 0))) (eC (.str "or")))) (tOf (eBin gEq (eBin gIx (eVar 1) (eVar 3)) (eVar 2)))) (eVar 1) (eC .non)))))
abbrev N_case_kind : List Str := ["context", "program", "kind", "first", "other"]
def b_case_kind (R : Fn → GA) (C : Addr) (n : Nat) : FS := sSeq (sSet 2 (eP (R .kind_of) (aCons (eVar 0) (aCons (eBin gIx (eVar 1) (eC (.int 1))) (aNil))))) (sSeq (sIf (tOr2 (tOf (eBin (gIsN false) (eVar 2) (eC .non))) (tOf (eBin gNe (eBin gIx (eVar 2) (eC (.int 0))) (eC (.str "or"))))) (sRet (eC .non)) (sNx)) (sSeq (sSet 3 (eP (R .kind_of) (aCons (eBin gAdd (eTup (aCons (eBin gIx (eVar 2) (eC (.int 1))) (aNil))) (eVar 0)) (aCons (eBin gIx (eVar 1) (eC (.int 2))) (aNil))))) (sSeq (sSet 4 (eP (R .kind_of) (aCons (eBin gAdd (eTup (aCons (eBin gIx (eVar 2) (eC (.int 2))) (aNil))) (eVar 0)) (aCons (eBin gIx (eVar 1) (eC (.int 3))) (aNil))))) (sRet (eIf (tAnd2 (tOf (eBin (gIsN true) (eVar 3) (eC .non))) (tOf (eBin gEq (eVar 3) (eVar 4)))) (eVar 3) (eC .non))))))
abbrev N_proves : List Str := ["context", "program", "sentence"]
def b_proves (R : Fn → GA) (C : Addr) (n : Nat) : FS := sRet (eAnd2 (eP (R .is_program) (aCons (eVar 1) (aNil))) (eBin gEq (eP (R .kind_of) (aCons (eCall cTup (aCons (eVar 0) (aNil))) (aCons (eVar 1) (aNil)))) (eVar 2)))
abbrev N_law_draws : List Str := ["script"]
def b_law_draws (R : Fn → GA) (C : Addr) (n : Nat) : FS := sRet (eLstM (aCons (eCall cLstM (aCons (eVar 0) (aNil))) (aCons (eC (.int 0)) (aCons (eC (.int 0)) (aCons (eC (.int 1)) (aNil))))))
abbrev N_law_draw : List Str := ["draws", "limit", "cell", "value"]
def b_law_draw (R : Fn → GA) (C : Addr) (n : Nat) : FS := sSeq (sIf (tAnd2 (tOf (eBin gEq (eBin gIx (eVar 0) (eC (.int 2))) (eC (.int 0)))) (tOf (eBin gLt (eBin gIx (eVar 0) (eC (.int 1))) (eCall cLen (aCons (eBin gIx (eVar 0) (eC (.int 0))) (aNil)))))) (sSeq (sSet 2 (eBin gIx (eBin gIx (eVar 0) (eC (.int 0))) (eBin gIx (eVar 0) (eC (.int 1))))) (sSeq (sLput (eVar 0) (eC (.int 1)) (eBin gAdd (eBin gIx (eVar 0) (eC (.int 1))) (eC (.int 1)))) (sSeq (sIf (tOf (eBin gGe (eVar 2) (eBin gPow (eC (.int 10)) (eC (.int 18))))) (sLput (eVar 0) (eC (.int 2)) (eVar 2)) (sNx)) (sLput (eVar 0) (eC (.int 3)) (eBin gMod (eCall cInt (aCons (eBin gAdd (eBin gAdd (eBin gMul (eBin gIx (eVar 0) (eC (.int 3))) (eC (.int 48271))) (eVar 2)) (eC (.int 13))) (aNil))) (eC (.int 2147483647))))))) (sNx)) (sSeq (sIf (tOf (eBin gGt (eBin gIx (eVar 0) (eC (.int 2))) (eC (.int 0)))) (sSeq (sSet 3 (eBin gMod (eCall cInt (aCons (eBin gIx (eVar 0) (eC (.int 2))) (aNil))) (eVar 1))) (sSeq (sLput (eVar 0) (eC (.int 2)) (eBin gDiv (eBin gIx (eVar 0) (eC (.int 2))) (eVar 1))) (sRet (eVar 3)))) (sNx)) (sSeq (sLput (eVar 0) (eC (.int 3)) (eBin gMod (eCall cInt (aCons (eBin gAdd (eBin gMul (eBin gIx (eVar 0) (eC (.int 3))) (eC (.int 69621))) (eC (.int 7))) (aNil))) (eC (.int 2147483629)))) (sRet (eBin gMod (eCall cInt (aCons (eBin gDiv (eBin gIx (eVar 0) (eC (.int 3))) (eC (.int 11))) (aNil))) (eVar 1)))))
abbrev N_law_pick : List Str := ["draws", "row"]
def b_law_pick (R : Fn → GA) (C : Addr) (n : Nat) : FS := sRet (eBin gIx (eVar 1) (eS (R .law_draw) (aCons (eVar 0) (aCons (eCall cLen (aCons (eVar 1) (aNil))) (aNil)))))
abbrev N_law_atoms : List Str := []
def b_law_atoms (R : Fn → GA) (C : Addr) (n : Nat) : FS := sRet (eLst (aCons (eC (.str "p")) (aCons (eC (.str "q")) (aCons (eC (.str "r")) (aNil)))))
abbrev N_law_sentence : List Str := ["draws", "left", "kind", "first", "other"]
def b_law_sentence (R : Fn → GA) (C : Addr) (n : Nat) : FS := sSeq (sSet 2 (eS (R .law_draw) (aCons (eVar 0) (aCons (eC (.int 9)) (aNil))))) (sSeq (sIf (tOr2 (tOf (eBin gLt (eVar 1) (eC (.int 3)))) (tOf (eBin gEq (eVar 2) (eC (.int 0))))) (sRet (eIf (tOf (eBin gEq (eS (R .law_draw) (aCons (eVar 0) (aCons (eC (.int 5)) (aNil)))) (eC (.int 0)))) (eTup (aCons (eC (.str "false")) (aNil))) (eTup (aCons (eC (.str "atom")) (aCons (eS (R .law_pick) (aCons (eVar 0) (aCons (eP (R .law_atoms) aNil) (aNil)))) (aNil)))))) (sNx)) (sSeq (sIf (tAnd2 (tOf (eBin gEq (eVar 2) (eC (.int 1)))) (tOf (eBin gGt (eVar 1) (eC (.int 3))))) (sRet (eTup (aCons (eC (.str "to")) (aCons (eS (R .law_sentence) (aCons (eVar 0) (aCons (eBin gSub (eVar 1) (eC (.int 2))) (aNil)))) (aCons (eTup (aCons (eC (.str "false")) (aNil))) (aNil)))))) (sNx)) (sSeq (sSet 3 (eS (R .law_sentence) (aCons (eVar 0) (aCons (eIf (tOf (eBin gGt (eS (R .law_draw) (aCons (eVar 0) (aCons (eC (.int 3)) (aNil)))) (eC (.int 0)))) (eBin gDiv (eBin gSub (eVar 1) (eC (.int 1))) (eC (.int 2))) (eBin gSub (eVar 1) (eC (.int 2)))) (aNil))))) (sSeq (sSet 4 (eS (R .law_sentence) (aCons (eVar 0) (aCons (eBin gSub (eBin gSub (eVar 1) (eC (.int 1))) (eP (R .law_size) (aCons (eVar 3) (aNil)))) (aNil))))) (sRet (eTup (aCons (eS (R .law_pick) (aCons (eVar 0) (aCons (eLst (aCons (eC (.str "to")) (aCons (eC (.str "to")) (aCons (eC (.str "to")) (aCons (eC (.str "and")) (aCons (eC (.str "or")) (aNil))))))) (aNil)))) (aCons (eVar 3) (aCons (eVar 4) (aNil))))))))))
abbrev N_law_size : List Str := ["sentence", "part"]
def b_law_size (R : Fn → GA) (C : Addr) (n : Nat) : FS := sRet (eIf (tOf (eBin gIn (eBin gIx (eVar 0) (eC (.int 0))) (eTup (aCons (eC (.str "and")) (aCons (eC (.str "or")) (aCons (eC (.str "to")) (aNil))))))) (eBin gAdd (eC (.int 1)) (eCall (cInts fun ns => some ns.sum) (aCons (eLc (iSeq (eSl gSlT (eVar 0) (oSome (eC (.int 1))) (oNone))) (tN 1) (tYes) (eP (R .law_size) (aCons (eVar 1) (aNil))) [1]) (aNil)))) (eC (.int 1)))
abbrev N_law_forms : List Str := ["a", "b", "c", "no"]
def b_law_forms (R : Fn → GA) (C : Addr) (n : Nat) : FS := sSeq (sSet 3 (eTup (aCons (eC (.str "false")) (aNil)))) (sRet (eLst (aCons (eTup (aCons (eC (.str "to")) (aCons (eVar 0) (aCons (eTup (aCons (eC (.str "to")) (aCons (eVar 1) (aCons (eVar 0) (aNil))))) (aNil))))) (aCons (eTup (aCons (eC (.str "to")) (aCons (eTup (aCons (eC (.str "to")) (aCons (eVar 0) (aCons (eTup (aCons (eC (.str "to")) (aCons (eVar 1) (aCons (eVar 2) (aNil))))) (aNil))))) (aCons (eTup (aCons (eC (.str "to")) (aCons (eTup (aCons (eC (.str "to")) (aCons (eVar 0) (aCons (eVar 1) (aNil))))) (aCons (eTup (aCons (eC (.str "to")) (aCons (eVar 0) (aCons (eVar 2) (aNil))))) (aNil))))) (aNil))))) (aCons (eTup (aCons (eC (.str "to")) (aCons (eTup (aCons (eC (.str "and")) (aCons (eVar 0) (aCons (eVar 1) (aNil))))) (aCons (eVar 0) (aNil))))) (aCons (eTup (aCons (eC (.str "to")) (aCons (eVar 0) (aCons (eTup (aCons (eC (.str "or")) (aCons (eVar 0) (aCons (eVar 1) (aNil))))) (aNil))))) (aCons (eTup (aCons (eC (.str "to")) (aCons (eTup (aCons (eC (.str "to")) (aCons (eVar 0) (aCons (eVar 2) (aNil))))) (aCons (eTup (aCons (eC (.str "to")) (aCons (eTup (aCons (eC (.str "to")) (aCons (eVar 1) (aCons (eVar 2) (aNil))))) (aCons (eTup (aCons (eC (.str "to")) (aCons (eTup (aCons (eC (.str "or")) (aCons (eVar 0) (aCons (eVar 1) (aNil))))) (aCons (eVar 2) (aNil))))) (aNil))))) (aNil))))) (aCons (eTup (aCons (eC (.str "to")) (aCons (eVar 3) (aCons (eVar 0) (aNil))))) (aCons (eTup (aCons (eC (.str "to")) (aCons (eVar 0) (aCons (eTup (aCons (eC (.str "to")) (aCons (eTup (aCons (eC (.str "to")) (aCons (eVar 0) (aCons (eVar 3) (aNil))))) (aCons (eVar 3) (aNil))))) (aNil))))) (aCons (eTup (aCons (eC (.str "to")) (aCons (eTup (aCons (eC (.str "to")) (aCons (eVar 0) (aCons (eVar 1) (aNil))))) (aCons (eTup (aCons (eC (.str "to")) (aCons (eTup (aCons (eC (.str "to")) (aCons (eVar 1) (aCons (eVar 3) (aNil))))) (aCons (eTup (aCons (eC (.str "to")) (aCons (eVar 0) (aCons (eVar 3) (aNil))))) (aNil))))) (aNil))))) (aCons (eTup (aCons (eC (.str "to")) (aCons (eTup (aCons (eC (.str "to")) (aCons (eTup (aCons (eC (.str "to")) (aCons (eTup (aCons (eC (.str "to")) (aCons (eVar 0) (aCons (eVar 3) (aNil))))) (aCons (eVar 3) (aNil))))) (aCons (eVar 3) (aNil))))) (aCons (eTup (aCons (eC (.str "to")) (aCons (eVar 0) (aCons (eVar 3) (aNil))))) (aNil))))) (aCons (eTup (aCons (eC (.str "to")) (aCons (eTup (aCons (eC (.str "or")) (aCons (eTup (aCons (eC (.str "to")) (aCons (eVar 0) (aCons (eVar 3) (aNil))))) (aCons (eVar 1) (aNil))))) (aCons (eTup (aCons (eC (.str "to")) (aCons (eVar 0) (aCons (eVar 1) (aNil))))) (aNil))))) (aCons (eTup (aCons (eC (.str "to")) (aCons (eTup (aCons (eC (.str "to")) (aCons (eTup (aCons (eC (.str "or")) (aCons (eVar 0) (aCons (eTup (aCons (eC (.str "to")) (aCons (eVar 0) (aCons (eVar 3) (aNil))))) (aNil))))) (aCons (eVar 3) (aNil))))) (aCons (eVar 3) (aNil))))) (aCons (eTup (aCons (eC (.str "to")) (aCons (eTup (aCons (eC (.str "to")) (aCons (eTup (aCons (eC (.str "to")) (aCons (eTup (aCons (eC (.str "to")) (aCons (eTup (aCons (eC (.str "to")) (aCons (eVar 0) (aCons (eVar 1) (aNil))))) (aCons (eVar 0) (aNil))))) (aCons (eVar 0) (aNil))))) (aCons (eVar 3) (aNil))))) (aCons (eVar 3) (aNil))))) (aCons (eTup (aCons (eC (.str "to")) (aCons (eTup (aCons (eC (.str "or")) (aCons (eTup (aCons (eC (.str "to")) (aCons (eVar 0) (aCons (eVar 3) (aNil))))) (aCons (eTup (aCons (eC (.str "to")) (aCons (eVar 1) (aCons (eVar 3) (aNil))))) (aNil))))) (aCons (eTup (aCons (eC (.str "to")) (aCons (eTup (aCons (eC (.str "and")) (aCons (eVar 0) (aCons (eVar 1) (aNil))))) (aCons (eVar 3) (aNil))))) (aNil))))) (aNil))))))))))))))))
abbrev N_law_equal : List Str := ["a", "b", "c", "no"]
def b_law_equal (R : Fn → GA) (C : Addr) (n : Nat) : FS := sSeq (sSet 3 (eTup (aCons (eC (.str "false")) (aNil)))) (sRet (eLst (aCons (eTup (aCons (eTup (aCons (eC (.str "and")) (aCons (eVar 0) (aCons (eVar 1) (aNil))))) (aCons (eTup (aCons (eC (.str "and")) (aCons (eVar 1) (aCons (eVar 0) (aNil))))) (aNil)))) (aCons (eTup (aCons (eTup (aCons (eC (.str "or")) (aCons (eVar 0) (aCons (eTup (aCons (eC (.str "or")) (aCons (eVar 1) (aCons (eVar 2) (aNil))))) (aNil))))) (aCons (eTup (aCons (eC (.str "or")) (aCons (eTup (aCons (eC (.str "or")) (aCons (eVar 0) (aCons (eVar 1) (aNil))))) (aCons (eVar 2) (aNil))))) (aNil)))) (aCons (eTup (aCons (eTup (aCons (eC (.str "and")) (aCons (eVar 0) (aCons (eTup (aCons (eC (.str "or")) (aCons (eVar 1) (aCons (eVar 2) (aNil))))) (aNil))))) (aCons (eTup (aCons (eC (.str "or")) (aCons (eTup (aCons (eC (.str "and")) (aCons (eVar 0) (aCons (eVar 1) (aNil))))) (aCons (eTup (aCons (eC (.str "and")) (aCons (eVar 0) (aCons (eVar 2) (aNil))))) (aNil))))) (aNil)))) (aCons (eTup (aCons (eTup (aCons (eC (.str "or")) (aCons (eVar 0) (aCons (eTup (aCons (eC (.str "and")) (aCons (eVar 1) (aCons (eVar 2) (aNil))))) (aNil))))) (aCons (eTup (aCons (eC (.str "and")) (aCons (eTup (aCons (eC (.str "or")) (aCons (eVar 0) (aCons (eVar 1) (aNil))))) (aCons (eTup (aCons (eC (.str "or")) (aCons (eVar 0) (aCons (eVar 2) (aNil))))) (aNil))))) (aNil)))) (aCons (eTup (aCons (eTup (aCons (eC (.str "to")) (aCons (eTup (aCons (eC (.str "and")) (aCons (eVar 0) (aCons (eVar 1) (aNil))))) (aCons (eVar 2) (aNil))))) (aCons (eTup (aCons (eC (.str "to")) (aCons (eVar 0) (aCons (eTup (aCons (eC (.str "to")) (aCons (eVar 1) (aCons (eVar 2) (aNil))))) (aNil))))) (aNil)))) (aCons (eTup (aCons (eTup (aCons (eC (.str "to")) (aCons (eTup (aCons (eC (.str "or")) (aCons (eVar 0) (aCons (eVar 1) (aNil))))) (aCons (eVar 2) (aNil))))) (aCons (eTup (aCons (eC (.str "and")) (aCons (eTup (aCons (eC (.str "to")) (aCons (eVar 0) (aCons (eVar 2) (aNil))))) (aCons (eTup (aCons (eC (.str "to")) (aCons (eVar 1) (aCons (eVar 2) (aNil))))) (aNil))))) (aNil)))) (aCons (eTup (aCons (eTup (aCons (eC (.str "to")) (aCons (eVar 0) (aCons (eTup (aCons (eC (.str "and")) (aCons (eVar 1) (aCons (eVar 2) (aNil))))) (aNil))))) (aCons (eTup (aCons (eC (.str "and")) (aCons (eTup (aCons (eC (.str "to")) (aCons (eVar 0) (aCons (eVar 1) (aNil))))) (aCons (eTup (aCons (eC (.str "to")) (aCons (eVar 0) (aCons (eVar 2) (aNil))))) (aNil))))) (aNil)))) (aCons (eTup (aCons (eTup (aCons (eC (.str "to")) (aCons (eTup (aCons (eC (.str "or")) (aCons (eVar 0) (aCons (eVar 1) (aNil))))) (aCons (eVar 3) (aNil))))) (aCons (eTup (aCons (eC (.str "and")) (aCons (eTup (aCons (eC (.str "to")) (aCons (eVar 0) (aCons (eVar 3) (aNil))))) (aCons (eTup (aCons (eC (.str "to")) (aCons (eVar 1) (aCons (eVar 3) (aNil))))) (aNil))))) (aNil)))) (aCons (eTup (aCons (eTup (aCons (eC (.str "and")) (aCons (eVar 0) (aCons (eTup (aCons (eC (.str "or")) (aCons (eVar 0) (aCons (eVar 1) (aNil))))) (aNil))))) (aCons (eVar 0) (aNil)))) (aCons (eTup (aCons (eTup (aCons (eC (.str "to")) (aCons (eVar 0) (aCons (eTup (aCons (eC (.str "to")) (aCons (eVar 0) (aCons (eVar 1) (aNil))))) (aNil))))) (aCons (eTup (aCons (eC (.str "to")) (aCons (eVar 0) (aCons (eVar 1) (aNil))))) (aNil)))) (aNil)))))))))))))
abbrev N_law : List Str := ["script", "draws", "no", "form", "told", "goal", "atom", "denied", "a", "b", "c", "one", "two"]
def b_law (R : Fn → GA) (C : Addr) (n : Nat) : FS := sSeq (sSet 1 (eS (R .law_draws) (aCons (eVar 0) (aNil)))) (sSeq (sPar3 8 9 10 (aCons (eS (R .law_sentence) (aCons (eVar 1) (aCons (eC (.int 4)) (aNil)))) (aCons (eS (R .law_sentence) (aCons (eVar 1) (aCons (eC (.int 4)) (aNil)))) (aCons (eS (R .law_sentence) (aCons (eVar 1) (aCons (eC (.int 3)) (aNil)))) (aNil))))) (sSeq (sSet 2 (eTup (aCons (eC (.str "false")) (aNil)))) (sSeq (sSet 3 (eS (R .law_pick) (aCons (eVar 1) (aCons (eP (R .law_forms) (aCons (eVar 8) (aCons (eVar 9) (aCons (eVar 10) (aNil))))) (aNil))))) (sSeq (sSet 4 (eP (R .decide) (aCons (eTup (aNil)) (aCons (eVar 3) (aNil))))) (sSeq (sIf (tOr2 (tOf (eBin gNe (eBin gIx (eVar 4) (eC (.int 0))) (eC (.str "program")))) (tNot2 (tOf (eP (R .proves) (aCons (eTup (aNil)) (aCons (eBin gIx (eVar 4) (eC (.int 1))) (aCons (eVar 3) (aNil)))))))) (sRet (eC (.bl false))) (sNx)) (sSeq (sAsg (tT 2 (tCons (tN 11) (tCons (tN 12) (tNil)))) (eS (R .law_pick) (aCons (eVar 1) (aCons (eP (R .law_equal) (aCons (eVar 8) (aCons (eVar 9) (aCons (eVar 10) (aNil))))) (aNil))))) (sSeq (sIf (tOr2 (tNot2 (tOf (eP (R .is_proved) (aCons (eTup (aCons (eVar 11) (aNil))) (aCons (eVar 12) (aNil)))))) (tNot2 (tOf (eP (R .is_proved) (aCons (eTup (aCons (eVar 12) (aNil))) (aCons (eVar 11) (aNil))))))) (sRet (eC (.bl false))) (sNx)) (sSeq (sSet 5 (eS (R .law_sentence) (aCons (eVar 1) (aCons (eC (.int 5)) (aNil))))) (sSeq (sIf (tOr2 (tOf (eBin gNe (eP (R .is_proved) (aCons (eTup (aCons (eVar 11) (aNil))) (aCons (eVar 5) (aNil)))) (eP (R .is_proved) (aCons (eTup (aCons (eVar 12) (aNil))) (aCons (eVar 5) (aNil)))))) (tOf (eBin gNe (eP (R .is_proved) (aCons (eTup (aCons (eVar 5) (aNil))) (aCons (eVar 11) (aNil)))) (eP (R .is_proved) (aCons (eTup (aCons (eVar 5) (aNil))) (aCons (eVar 12) (aNil))))))) (sRet (eC (.bl false))) (sNx)) (sSeq (sIf (tOr2 (tOf (eBin gNe (eP (R .is_proved) (aCons (eTup (aCons (eVar 8) (aCons (eVar 9) (aNil)))) (aCons (eVar 5) (aNil)))) (eP (R .is_proved) (aCons (eTup (aCons (eTup (aCons (eC (.str "and")) (aCons (eVar 8) (aCons (eVar 9) (aNil))))) (aNil))) (aCons (eVar 5) (aNil)))))) (tOf (eBin gNe (eP (R .is_proved) (aCons (eTup (aCons (eVar 8) (aCons (eVar 9) (aNil)))) (aCons (eVar 5) (aNil)))) (eP (R .is_proved) (aCons (eTup (aCons (eVar 9) (aCons (eVar 8) (aCons (eVar 9) (aNil))))) (aCons (eVar 5) (aNil))))))) (sRet (eC (.bl false))) (sNx)) (sSeq (sIf (tOf (eBin gNe (eP (R .is_proved) (aCons (eTup (aCons (eTup (aCons (eC (.str "or")) (aCons (eVar 8) (aCons (eVar 9) (aNil))))) (aNil))) (aCons (eVar 5) (aNil)))) (eAnd2 (eP (R .is_proved) (aCons (eTup (aCons (eVar 8) (aNil))) (aCons (eVar 5) (aNil)))) (eP (R .is_proved) (aCons (eTup (aCons (eVar 9) (aNil))) (aCons (eVar 5) (aNil))))))) (sRet (eC (.bl false))) (sNx)) (sSeq (sIf (tAnd2 (tOf (eP (R .is_proved) (aCons (eTup (aCons (eVar 8) (aNil))) (aCons (eVar 5) (aNil))))) (tAnd2 (tOf (eP (R .is_proved) (aCons (eTup (aCons (eVar 5) (aNil))) (aCons (eVar 9) (aNil))))) (tNot2 (tOf (eP (R .is_proved) (aCons (eTup (aCons (eVar 8) (aNil))) (aCons (eVar 9) (aNil)))))))) (sRet (eC (.bl false))) (sNx)) (sSeq (sFor (iSeq (eTup (aCons (eTup (aCons (eC (.str "atom")) (aCons (eC (.str "p")) (aNil)))) (aCons (eTup (aCons (eC (.str "atom")) (aCons (eC (.str "q")) (aNil)))) (aNil))))) (tN 6) (sIf (tOr2 (tOf (eP (R .is_proved) (aCons (eTup (aNil)) (aCons (eTup (aCons (eC (.str "or")) (aCons (eVar 6) (aCons (eTup (aCons (eC (.str "to")) (aCons (eVar 6) (aCons (eVar 2) (aNil))))) (aNil))))) (aNil))))) (tOf (eP (R .is_proved) (aCons (eTup (aNil)) (aCons (eTup (aCons (eC (.str "to")) (aCons (eTup (aCons (eC (.str "to")) (aCons (eTup (aCons (eC (.str "to")) (aCons (eVar 6) (aCons (eVar 2) (aNil))))) (aCons (eVar 2) (aNil))))) (aCons (eVar 6) (aNil))))) (aNil)))))) (sRet (eC (.bl false))) (sNx))) (sSeq (sSet 7 (eTup (aCons (eC (.str "to")) (aCons (eVar 8) (aCons (eVar 2) (aNil)))))) (sRet (eAnd2 (eP (R .is_proved) (aCons (eTup (aNil)) (aCons (eTup (aCons (eC (.str "to")) (aCons (eTup (aCons (eC (.str "to")) (aCons (eTup (aCons (eC (.str "to")) (aCons (eVar 7) (aCons (eVar 2) (aNil))))) (aCons (eVar 2) (aNil))))) (aCons (eVar 7) (aNil))))) (aNil)))) (eP (R .is_proved) (aCons (eTup (aCons (eTup (aCons (eC (.str "to")) (aCons (eVar 2) (aCons (eVar 8) (aNil))))) (aCons (eTup (aCons (eC (.str "or")) (aCons (eVar 2) (aCons (eVar 9) (aNil))))) (aNil)))) (aCons (eVar 9) (aNil))))))))))))))))))))
def run (C : Addr) : Nat → Fn → GA
  | 0, _ => fun _ _ => none
  | n + 1, .is_name => fnS 1 1 (b_is_name (run C n) C n)
  | n + 1, .size_within => fnS 2 2 (b_size_within (run C n) C n)
  | n + 1, .is_sentence => fnS 1 0 (b_is_sentence (run C n) C n)
  | n + 1, .Search_fresh => fnS 1 0 (b_Search_fresh (run C n) C n)
  | n + 1, .Search_more => fnV 5 0 (b_Search_more (run C n) C n)
  | n + 1, .Search_without => fnS 2 0 (b_Search_without (run C n) C n)
  | n + 1, .solve => fnS 2 5 (b_solve (run C n) C n)
  | n + 1, .solve_case => fnS 4 4 (b_solve_case (run C n) C n)
  | n + 1, .solve_both => fnS 2 3 (b_solve_both (run C n) C n)
  | n + 1, .take_atom => fnS 3 2 (b_take_atom (run C n) C n)
  | n + 1, .take_arrow => fnS 3 8 (b_take_arrow (run C n) C n)
  | n + 1, .solve_open => fnS 2 7 (b_solve_open (run C n) C n)
  | n + 1, .solve_asked => fnS 4 7 (b_solve_asked (run C n) C n)
  | n + 1, .settled => fnS 2 4 (b_settled (run C n) C n)
  | n + 1, .decide => fnS 2 4 (b_decide (run C n) C n)
  | n + 1, .is_proved => fnS 2 0 (b_is_proved (run C n) C n)
  | n + 1, .is_program => fun as st => if as.length = 1 then fnS 2 3 (b_is_program (run C n) C n) (as ++ [.int 120]) st else fnS 2 3 (b_is_program (run C n) C n) as st
  | n + 1, .kind_of => fnS 2 4 (b_kind_of (run C n) C n)
  | n + 1, .made_kind => fnS 3 1 (b_made_kind (run C n) C n)
  | n + 1, .case_kind => fnS 2 3 (b_case_kind (run C n) C n)
  | n + 1, .proves => fnS 3 0 (b_proves (run C n) C n)
  | n + 1, .law_draws => fnS 1 0 (b_law_draws (run C n) C n)
  | n + 1, .law_draw => fnS 2 2 (b_law_draw (run C n) C n)
  | n + 1, .law_pick => fnS 2 0 (b_law_pick (run C n) C n)
  | n + 1, .law_atoms => fnS 0 0 (b_law_atoms (run C n) C n)
  | n + 1, .law_sentence => fnS 2 3 (b_law_sentence (run C n) C n)
  | n + 1, .law_size => fnS 1 1 (b_law_size (run C n) C n)
  | n + 1, .law_forms => fnS 3 1 (b_law_forms (run C n) C n)
  | n + 1, .law_equal => fnS 3 1 (b_law_equal (run C n) C n)
  | n + 1, .law => fnS 1 12 (b_law (run C n) C n)
structure Hyp (P : Program) (w : World) (K : PySem.W.Frag) (mg : Str → Option Value) (base : Heap) (C : Addr) : Prop where
  z_all : mg "all" = none
  z_bool : mg "bool" = none
  z_dict : mg "dict" = none
  z_enumerate : mg "enumerate" = none
  z_int : mg "int" = none
  z_isinstance : mg "isinstance" = none
  z_len : mg "len" = none
  z_list : mg "list" = none
  z_sorted : mg "sorted" = none
  z_str : mg "str" = none
  z_sum : mg "sum" = none
  z_tuple : mg "tuple" = none
  z_zip : mg "zip" = none
  g_SMALL : Glo K mg "SMALL" (.str "abcdefghijklmnopqrstuvwxyz")
  g_FIGURES : Glo K mg "FIGURES" (.str "0123456789")
  g_MOST_SIGNS : Glo K mg "MOST_SIGNS" (.int 12)
  g_MOST_SIZE : Glo K mg "MOST_SIZE" (.int 60)
  g_FALSE : Glo K mg "FALSE" (.tup [.str "false"])
  k_SHAPES : KGlo K w mg "SHAPES" (shapeP tab_SHAPES)
  cls : Cls K C
  f_names : NoAttr K C "names"
  f_facts : NoAttr K C "facts"
  f_arrows : NoAttr K C "arrows"
  f_todo : NoAttr K C "todo"
def isDef : Fn → Bool
  | .is_name => true
  | .size_within => true
  | .is_sentence => true
  | .Search_fresh => false
  | .Search_more => false
  | .Search_without => false
  | .solve => true
  | .solve_case => true
  | .solve_both => true
  | .take_atom => true
  | .take_arrow => true
  | .solve_open => true
  | .solve_asked => true
  | .settled => true
  | .decide => true
  | .is_proved => true
  | .is_program => true
  | .kind_of => true
  | .made_kind => true
  | .case_kind => true
  | .proves => true
  | .law_draws => true
  | .law_draw => true
  | .law_pick => true
  | .law_atoms => true
  | .law_sentence => true
  | .law_size => true
  | .law_forms => true
  | .law_equal => true
  | .law => true
structure HypR (P : Program) (w : World) (K : PySem.W.Frag) (mg : Str → Option Value) (base : Heap) (C : Addr) (n : Nat) : Prop extends Hyp P w K mg base C where
  R : ∀ f : Fn, isDef f = true → Cal P w K mg base (n + 50) (nm f) (run C n f)
  m_Search_fresh : Met P w K mg base (n + 50) C "fresh" (run C n .Search_fresh)
  m_Search_more : Met P w K mg base (n + 50) C "more" (run C n .Search_more)
  m_Search_without : Met P w K mg base (n + 50) C "without" (run C n .Search_without)
  mkk : Mak P w K mg base 1 "Search" C (g_init C)
end K07
end L3
end
section
set_option Elab.async false
set_option linter.all false
set_option maxRecDepth 100000
set_option maxHeartbeats 0
namespace L3
open PySem PySem.Spec PyProof.Rows L2
namespace K07
variable {P : Program} {w : World} {K : PySem.W.Frag} {mg : Str → Option Value} {base : Heap} {C : Addr} {n : Nat} {f : Addr}
theorem sc_Search___init__ : FnScope N_Search___init__ ["self", "names", "facts", "arrows", "todo"] (defScope (inClass (topS 10) 0)) := ⟨rfl, rfl, rfl, by decide +kernel, rfl, by decide +kernel, by decide +kernel⟩
theorem t_Search___init__ (h : Hyp P w K mg base C) {R : Fn → GA} (cdv : Value) (A : Around) (outer : List Env) (s : Shared) (H : Hp) (E : XK) (hr : Room 0 (A.deeper (envOfC "Search.__init__" (defScope (inClass (topS 10) 0)) s.heap.objs.size f cdv))) :
    SimSs (cxOf L2.CX0 P w K mg base N_Search___init__ "Search.__init__" (defScope (inClass (topS 10) 0)) f cdv A outer s H E).nox (defBody (inClass (topS 10) 0)) (b_Search___init__ R C n) := by
  have nd := (sc_Search___init__).nd
  exact simSs_cons (simS_fld h.cls h.f_names (simE_var 0) (simE_var 1)) (simSs_cons (simS_fld h.cls h.f_facts (simE_var 0) (simE_var 2)) (simSs_cons (simS_fld h.cls h.f_arrows (simE_var 0) (simE_var 3)) (simSs_one (simS_fld h.cls h.f_todo (simE_var 0) (simE_var 4)))))
theorem sc_is_name : FnScope N_is_name ["value"] (defScope (topS 6)) := ⟨rfl, rfl, rfl, by decide +kernel, rfl, by decide +kernel, by decide +kernel⟩
theorem t_is_name (h : HypR P w K mg base C n) (cdv : Value) (A : Around) (outer : List Env) (s : Shared) (H : Hp) (E : XK) (hr : Room (n + 50) (A.deeper (envOfC "is_name" (defScope (topS 6)) s.heap.objs.size f cdv))) :
    SimSs (cxOf L2.CX0 P w K mg base N_is_name "is_name" (defScope (topS 6)) f cdv A outer s H E).nox (defBody (topS 6)) (b_is_name (run C n) C n) := by
  have nd := (sc_is_name).nd
  have hu := hu_big hr
  exact simSs_cons (simS_if (PW.pt (simW_or (simT_not (simT_val (simE_isi rfl h.z_isinstance rfl h.z_str (by decide +kernel) (simE_var 0)))) (simW_or (simT_not (simT_leLe (simE_int) (simE_len rfl h.z_len (simA_cons (simE_var 0) (simA_nil))) (simE_glo h.g_MOST_SIGNS rfl))) (simW_or1 (simT_notInS (simE_ix (simE_var 0) (simE_int)) (simE_glo h.g_SMALL rfl)))))) (simSs_one (simS_ret (simE_bl))) (simSs_nil)) (simSs_one (simS_ret (simE_all rfl rfl h.z_all (simA_cons (simE_lc (own := [("sign", 1)]) (S := [1]) rfl nd (by decide) (blkOk_by (N := N_is_name) (sc := defScope (topS 6)) (by decide +kernel)) (simI_seq (simE_var 0)) (fun _ _ _ _ _ => simG_name (i := 1) nd) (fun _ _ _ _ _ => simTs_nil) (fun _ _ _ _ _ => simE_inS (simE_var 1) (simE_add (simE_glo h.g_SMALL rfl) (simE_glo h.g_FIGURES rfl)))) (simA_nil)))))
theorem sc_size_within : FnScope N_size_within ["value", "most"] (defScope (topS 7)) := ⟨rfl, rfl, rfl, by decide +kernel, rfl, by decide +kernel, by decide +kernel⟩
theorem t_size_within (h : HypR P w K mg base C n) (cdv : Value) (A : Around) (outer : List Env) (s : Shared) (H : Hp) (E : XK) (hr : Room (n + 50) (A.deeper (envOfC "size_within" (defScope (topS 7)) s.heap.objs.size f cdv))) :
    SimSs (cxOf L2.CX0 P w K mg base N_size_within "size_within" (defScope (topS 7)) f cdv A outer s H E).nox (defBody (topS 7)) (b_size_within (run C n) C n) := by
  have nd := (sc_size_within).nd
  have hu := hu_big hr
  exact simSs_cons (simS_if (PW.pt (simW_or (simT_lt (simE_var 1) (simE_int)) (simW_or (simT_not (simT_val (simE_isi rfl h.z_isinstance rfl h.z_tuple (by decide +kernel) (simE_var 0)))) (simW_or (simT_eq hu (simE_len rfl h.z_len (simA_cons (simE_var 0) (simA_nil))) (simE_int)) (simW_or1 (simT_not (simT_val (simE_isi rfl h.z_isinstance rfl h.z_str (by decide +kernel) (simE_ix (simE_var 0) (simE_int)))))))))) (simSs_one (simS_ret (simE_non))) (simSs_nil)) (simSs_cons (simS_if (simT_eq hu (simE_ix (simE_var 0) (simE_int)) (simE_str)) (simSs_one (simS_ret (simE_if (simT_eq hu (simE_len rfl h.z_len (simA_cons (simE_var 0) (simA_nil))) (simE_int)) (simE_int) (simE_non)))) (simSs_nil)) (simSs_cons (simS_if (simT_eq hu (simE_ix (simE_var 0) (simE_int)) (simE_str)) (simSs_one (simS_ret (simE_if (PW.pt (simW_and (simT_eq hu (simE_len rfl h.z_len (simA_cons (simE_var 0) (simA_nil))) (simE_int)) (simW_and1 (simT_val (caP (h.R .is_name rfl) hr rfl (simA_cons (simE_ix (simE_var 0) (simE_int)) (simA_nil))))))) (simE_int) (simE_non)))) (simSs_nil)) (simSs_cons (simS_if (PW.pt (simW_or (simT_notIn hu (simE_ix (simE_var 0) (simE_int)) (simE_tup (simA_cons (simE_str) (simA_cons (simE_str) (simA_cons (simE_str) (simA_nil)))))) (simW_or1 (simT_ne hu (simE_len rfl h.z_len (simA_cons (simE_var 0) (simA_nil))) (simE_int))))) (simSs_one (simS_ret (simE_non))) (simSs_nil)) (simSs_cons (simS_set (i := 2) nd (caP (h.R .size_within rfl) hr rfl (simA_cons (simE_ix (simE_var 0) (simE_int)) (simA_cons (simE_sub (simE_var 1) (simE_int)) (simA_nil))))) (simSs_cons (simS_if (simT_isN (simE_var 2) (simE_non)) (simSs_one (simS_ret (simE_non))) (simSs_nil)) (simSs_cons (simS_set (i := 3) nd (caP (h.R .size_within rfl) hr rfl (simA_cons (simE_ix (simE_var 0) (simE_int)) (simA_cons (simE_sub (simE_sub (simE_var 1) (simE_int)) (simE_var 2)) (simA_nil))))) (simSs_one (simS_ret (simE_if (simT_isN (simE_var 3) (simE_non)) (simE_non) (simE_add (simE_add (simE_int) (simE_var 2)) (simE_var 3)))))))))))
theorem sc_is_sentence : FnScope N_is_sentence ["value"] (defScope (topS 8)) := ⟨rfl, rfl, rfl, by decide +kernel, rfl, by decide +kernel, by decide +kernel⟩
theorem t_is_sentence (h : HypR P w K mg base C n) (cdv : Value) (A : Around) (outer : List Env) (s : Shared) (H : Hp) (E : XK) (hr : Room (n + 50) (A.deeper (envOfC "is_sentence" (defScope (topS 8)) s.heap.objs.size f cdv))) :
    SimSs (cxOf L2.CX0 P w K mg base N_is_sentence "is_sentence" (defScope (topS 8)) f cdv A outer s H E).nox (defBody (topS 8)) (b_is_sentence (run C n) C n) := by
  have nd := (sc_is_sentence).nd
  have hu := hu_big hr
  exact simSs_one (simS_ret (simE_notN (caP (h.R .size_within rfl) hr rfl (simA_cons (simE_var 0) (simA_cons (simE_glo h.g_MOST_SIZE rfl) (simA_nil)))) (simE_non)))
theorem sc_Search_fresh : FnScope N_Search_fresh ["self"] (defScope (inClass (topS 10) 1)) := ⟨rfl, rfl, rfl, by decide +kernel, rfl, by decide +kernel, by decide +kernel⟩
theorem t_Search_fresh (h : HypR P w K mg base C n) (cdv : Value) (A : Around) (outer : List Env) (s : Shared) (H : Hp) (E : XK) (hr : Room (n + 50) (A.deeper (envOfC "Search.fresh" (defScope (inClass (topS 10) 1)) s.heap.objs.size f cdv))) :
    SimSs (cxOf L2.CX0 P w K mg base N_Search_fresh "Search.fresh" (defScope (inClass (topS 10) 1)) f cdv A outer s H E).nox (defBody (inClass (topS 10) 1)) (b_Search_fresh (run C n) C n) := by
  have nd := (sc_Search_fresh).nd
  have hu := hu_big hr
  exact simSs_cons (simS_ex (simE_append (simE_fld h.cls h.f_names (simE_var 0)) (simA_cons (simE_bl) (simA_nil)))) (simSs_one (simS_ret (simE_tup (simA_cons (simE_str) (simA_cons (simE_sub (simE_len rfl h.z_len (simA_cons (simE_fld h.cls h.f_names (simE_var 0)) (simA_nil))) (simE_int)) (simA_nil))))))
theorem sc_Search_more : FnScope N_Search_more ["self", "pairs"] (defScope (inClass (topS 10) 2)) := ⟨rfl, rfl, rfl, by decide +kernel, rfl, by decide +kernel, by decide +kernel⟩
theorem t_Search_more (h : HypR P w K mg base C n) (cdv : Value) (A : Around) (outer : List Env) (s : Shared) (H : Hp) (E : XK) (hr : Room (n + 50) (A.deeper (envOfC "Search.more" (defScope (inClass (topS 10) 2)) s.heap.objs.size f cdv))) :
    SimSs (cxOf L2.CX0 P w K mg base N_Search_more "Search.more" (defScope (inClass (topS 10) 2)) f cdv A outer s H E).nox (defBody (inClass (topS 10) 2)) (b_Search_more (run C n) C n) := by
  have nd := (sc_Search_more).nd
  have hu := hu_big hr
  exact simSs_one (simS_ret (mkS h.mkk (hr.mono (by omega)) rfl (simA_cons (simE_fld h.cls h.f_names (simE_var 0)) (simA_cons (simE_dictC rfl h.z_dict (simA_cons (simE_fld h.cls h.f_facts (simE_var 0)) (simA_nil))) (simA_cons (simE_listM rfl h.z_list (simA_cons (simE_fld h.cls h.f_arrows (simE_var 0)) (simA_nil))) (simA_cons (simE_catM (simE_list rfl h.z_list (simA_cons (simE_fld h.cls h.f_todo (simE_var 0)) (simA_nil))) (simE_list rfl h.z_list (simA_cons (simE_var 1) (simA_nil)))) (simA_nil)))))))
theorem sc_Search_without : FnScope N_Search_without ["self", "at"] (defScope (inClass (topS 10) 3)) := ⟨rfl, rfl, rfl, by decide +kernel, rfl, by decide +kernel, by decide +kernel⟩
theorem t_Search_without (h : HypR P w K mg base C n) (cdv : Value) (A : Around) (outer : List Env) (s : Shared) (H : Hp) (E : XK) (hr : Room (n + 50) (A.deeper (envOfC "Search.without" (defScope (inClass (topS 10) 3)) s.heap.objs.size f cdv))) :
    SimSs (cxOf L2.CX0 P w K mg base N_Search_without "Search.without" (defScope (inClass (topS 10) 3)) f cdv A outer s H E).nox (defBody (inClass (topS 10) 3)) (b_Search_without (run C n) C n) := by
  have nd := (sc_Search_without).nd
  have hu := hu_big hr
  exact simSs_one (simS_ret (mkS h.mkk (hr.mono (by omega)) rfl (simA_cons (simE_fld h.cls h.f_names (simE_var 0)) (simA_cons (simE_dictC rfl h.z_dict (simA_cons (simE_fld h.cls h.f_facts (simE_var 0)) (simA_nil))) (simA_cons (simE_catM (simE_slL (simE_fld h.cls h.f_arrows (simE_var 0)) (simO_none) (simO_some (simE_var 1))) (simE_slL (simE_fld h.cls h.f_arrows (simE_var 0)) (simO_some (simE_add (simE_var 1) (simE_int))) (simO_none))) (simA_cons (simE_listM rfl h.z_list (simA_cons (simE_fld h.cls h.f_todo (simE_var 0)) (simA_nil))) (simA_nil)))))))
theorem sc_solve : FnScope N_solve ["state", "goal"] (defScope (topS 11)) := ⟨rfl, rfl, rfl, by decide +kernel, rfl, by decide +kernel, by decide +kernel⟩
theorem t_solve (h : HypR P w K mg base C n) (cdv : Value) (A : Around) (outer : List Env) (s : Shared) (H : Hp) (E : XK) (hr : Room (n + 50) (A.deeper (envOfC "solve" (defScope (topS 11)) s.heap.objs.size f cdv))) :
    SimSs (cxOf L2.CX0 P w K mg base N_solve "solve" (defScope (topS 11)) f cdv A outer s H E).nox (defBody (topS 11)) (b_solve (run C n) C n) := by
  have nd := (sc_solve).nd
  have hu := hu_big hr
  exact simSs_cons (simS_while 100000 PassesOwn.never (simT_gt (simE_len rfl h.z_len (simA_cons (simE_fld h.cls h.f_todo (simE_var 0)) (simA_nil))) (simE_int)) (simSs_cons (simS_asg (S := (([5] ++ ([6] ++ [])))) (simE_pop (simE_fld h.cls h.f_todo (simE_var 0))) (simG_tup rfl (simGs_cons (simG_name (i := 5) nd) (simGs_cons (simG_name (i := 6) nd) (simGs_nil))))) (simSs_cons (simS_set (i := 2) nd (simE_ix (simE_var 5) (simE_int))) (simSs_cons (simS_if (simT_eq hu (simE_var 2) (simE_str)) (simSs_one (simS_ret (simE_tup (simA_cons (simE_str) (simA_cons (simE_tup (simA_cons (simE_str) (simA_cons (simE_var 1) (simA_cons (simE_var 6) (simA_nil))))) (simA_nil)))))) (simSs_nil)) (simSs_cons (simS_if (simT_eq hu (simE_var 2) (simE_str)) (simSs_one (simS_ret (caS (h.R .solve_case rfl) hr rfl (simA_cons (simE_var 0) (simA_cons (simE_var 5) (simA_cons (simE_var 6) (simA_cons (simE_var 1) (simA_nil)))))))) (simSs_nil)) (simSs_one (simS_if (simT_eq hu (simE_var 2) (simE_str)) (simSs_one (simS_ex (simE_extend (simE_fld h.cls h.f_todo (simE_var 0)) (simA_cons (simE_lst (simA_cons (simE_tup (simA_cons (simE_ix (simE_var 5) (simE_int)) (simA_cons (simE_tup (simA_cons (simE_str) (simA_cons (simE_var 6) (simA_nil)))) (simA_nil)))) (simA_cons (simE_tup (simA_cons (simE_ix (simE_var 5) (simE_int)) (simA_cons (simE_tup (simA_cons (simE_str) (simA_cons (simE_var 6) (simA_nil)))) (simA_nil)))) (simA_nil)))) (simA_nil))))) (simSs_one (simS_if (simT_eq hu (simE_var 2) (simE_str)) (simSs_one (simS_ex (caS (h.R .take_atom rfl) hr rfl (simA_cons (simE_var 0) (simA_cons (simE_var 5) (simA_cons (simE_var 6) (simA_nil))))))) (simSs_one (simS_ex (caS (h.R .take_arrow rfl) hr rfl (simA_cons (simE_var 0) (simA_cons (simE_var 5) (simA_cons (simE_var 6) (simA_nil)))))))))))))))) (simSs_cons (simS_if (PW.pt (simW_and (simT_eq hu (simE_ix (simE_var 1) (simE_int)) (simE_str)) (simW_and1 (simT_din hu (simE_ix (simE_var 1) (simE_int)) (simE_fld h.cls h.f_facts (simE_var 0)))))) (simSs_one (simS_ret (simE_tup (simA_cons (simE_str) (simA_cons (simE_dget hu (simE_fld h.cls h.f_facts (simE_var 0)) (simE_ix (simE_var 1) (simE_int))) (simA_nil)))))) (simSs_nil)) (simSs_cons (simS_if (simT_eq hu (simE_ix (simE_var 1) (simE_int)) (simE_str)) (simSs_cons (simS_set (i := 3) nd (meS0 h.m_Search_fresh hr (simE_var 0))) (simSs_cons (simS_set (i := 4) nd (caS (h.R .solve rfl) hr rfl (simA_cons (meS h.m_Search_more hr (simE_var 0) (simA_cons (simE_tup (simA_cons (simE_ix (simE_var 1) (simE_int)) (simA_cons (simE_var 3) (simA_nil)))) (simA_nil))) (simA_cons (simE_ix (simE_var 1) (simE_int)) (simA_nil))))) (simSs_one (simS_ret (simE_if (simT_eq hu (simE_ix (simE_var 4) (simE_int)) (simE_str)) (simE_var 4) (simE_tup (simA_cons (simE_str) (simA_cons (simE_tup (simA_cons (simE_str) (simA_cons (simE_var 3) (simA_cons (simE_ix (simE_var 1) (simE_int)) (simA_cons (simE_ix (simE_var 4) (simE_int)) (simA_nil)))))) (simA_nil))))))))) (simSs_nil)) (simSs_cons (simS_if (simT_eq hu (simE_ix (simE_var 1) (simE_int)) (simE_str)) (simSs_one (simS_ret (caS (h.R .solve_both rfl) hr rfl (simA_cons (simE_var 0) (simA_cons (simE_var 1) (simA_nil)))))) (simSs_nil)) (simSs_one (simS_ret (caS (h.R .solve_open rfl) hr rfl (simA_cons (simE_var 0) (simA_cons (simE_var 1) (simA_nil)))))))))
theorem sc_solve_case : FnScope N_solve_case ["state", "sentence", "program", "goal"] (defScope (topS 12)) := ⟨rfl, rfl, rfl, by decide +kernel, rfl, by decide +kernel, by decide +kernel⟩
theorem t_solve_case (h : HypR P w K mg base C n) (cdv : Value) (A : Around) (outer : List Env) (s : Shared) (H : Hp) (E : XK) (hr : Room (n + 50) (A.deeper (envOfC "solve_case" (defScope (topS 12)) s.heap.objs.size f cdv))) :
    SimSs (cxOf L2.CX0 P w K mg base N_solve_case "solve_case" (defScope (topS 12)) f cdv A outer s H E).nox (defBody (topS 12)) (b_solve_case (run C n) C n) := by
  have nd := (sc_solve_case).nd
  have hu := hu_big hr
  exact simSs_cons (simS_set (i := 4) nd (simE_lstM (simA_nil))) (simSs_cons (simS_for (S := [5]) PassesOwn.never rfl (simI_seq (simE_slT (simE_var 1) (simO_some (simE_int)) (simO_none))) (simG_name (i := 5) nd) (simSs_cons (simS_set (i := 6) nd (meS0 h.m_Search_fresh hr (simE_var 0))) (simSs_cons (simS_set (i := 7) nd (caS (h.R .solve rfl) hr rfl (simA_cons (meS h.m_Search_more hr (simE_var 0) (simA_cons (simE_tup (simA_cons (simE_var 5) (simA_cons (simE_var 6) (simA_nil)))) (simA_nil))) (simA_cons (simE_var 3) (simA_nil))))) (simSs_cons (simS_if (simT_eq hu (simE_ix (simE_var 7) (simE_int)) (simE_str)) (simSs_one (simS_ret (simE_var 7))) (simSs_nil)) (simSs_one (simS_ex (simE_append (simE_var 4) (simA_cons (simE_tup (simA_cons (simE_var 6) (simA_cons (simE_ix (simE_var 7) (simE_int)) (simA_nil)))) (simA_nil))))))))) (simSs_one (simS_ret (simE_tup (simA_cons (simE_str) (simA_cons (simE_tup (simA_cons (simE_str) (simA_cons (simE_var 2) (simA_cons (simE_ix (simE_var 4) (simE_int)) (simA_cons (simE_ix (simE_var 4) (simE_int)) (simA_nil)))))) (simA_nil)))))))
theorem sc_solve_both : FnScope N_solve_both ["state", "goal"] (defScope (topS 13)) := ⟨rfl, rfl, rfl, by decide +kernel, rfl, by decide +kernel, by decide +kernel⟩
theorem t_solve_both (h : HypR P w K mg base C n) (cdv : Value) (A : Around) (outer : List Env) (s : Shared) (H : Hp) (E : XK) (hr : Room (n + 50) (A.deeper (envOfC "solve_both" (defScope (topS 13)) s.heap.objs.size f cdv))) :
    SimSs (cxOf L2.CX0 P w K mg base N_solve_both "solve_both" (defScope (topS 13)) f cdv A outer s H E).nox (defBody (topS 13)) (b_solve_both (run C n) C n) := by
  have nd := (sc_solve_both).nd
  have hu := hu_big hr
  exact simSs_cons (simS_set (i := 2) nd (simE_lstM (simA_nil))) (simSs_cons (simS_for (S := [3]) PassesOwn.never rfl (simI_seq (simE_slT (simE_var 1) (simO_some (simE_int)) (simO_none))) (simG_name (i := 3) nd) (simSs_cons (simS_set (i := 4) nd (caS (h.R .solve rfl) hr rfl (simA_cons (meS0 h.m_Search_more hr (simE_var 0)) (simA_cons (simE_var 3) (simA_nil))))) (simSs_cons (simS_if (simT_eq hu (simE_ix (simE_var 4) (simE_int)) (simE_str)) (simSs_one (simS_ret (simE_var 4))) (simSs_nil)) (simSs_one (simS_ex (simE_append (simE_var 2) (simA_cons (simE_ix (simE_var 4) (simE_int)) (simA_nil)))))))) (simSs_one (simS_ret (simE_tup (simA_cons (simE_str) (simA_cons (simE_tup (simA_cons (simE_str) (simA_cons (simE_ix (simE_var 2) (simE_int)) (simA_cons (simE_ix (simE_var 2) (simE_int)) (simA_nil))))) (simA_nil)))))))
theorem sc_take_atom : FnScope N_take_atom ["state", "sentence", "program"] (defScope (topS 14)) := ⟨rfl, rfl, rfl, by decide +kernel, rfl, by decide +kernel, by decide +kernel⟩
theorem t_take_atom (h : HypR P w K mg base C n) (cdv : Value) (A : Around) (outer : List Env) (s : Shared) (H : Hp) (E : XK) (hr : Room (n + 50) (A.deeper (envOfC "take_atom" (defScope (topS 14)) s.heap.objs.size f cdv))) :
    SimSs (cxOf L2.CX0 P w K mg base N_take_atom "take_atom" (defScope (topS 14)) f cdv A outer s H E).nox (defBody (topS 14)) (b_take_atom (run C n) C n) := by
  have nd := (sc_take_atom).nd
  have hu := hu_big hr
  exact simSs_cons (simS_if (simT_din hu (simE_ix (simE_var 1) (simE_int)) (simE_fld h.cls h.f_facts (simE_var 0))) (simSs_one (simS_retN)) (simSs_nil)) (simSs_cons (simS_dput hu (simE_fld h.cls h.f_facts (simE_var 0)) (simE_ix (simE_var 1) (simE_int)) (simE_var 2)) (simSs_one (simS_for (S := (([3] ++ ([4] ++ [])))) PassesOwn.never rfl (simI_seq (simE_list rfl h.z_list (simA_cons (simE_fld h.cls h.f_arrows (simE_var 0)) (simA_nil)))) (simG_tup rfl (simGs_cons (simG_name (i := 3) nd) (simGs_cons (simG_name (i := 4) nd) (simGs_nil)))) (simSs_one (simS_if (simT_eq hu (simE_ix (simE_var 3) (simE_int)) (simE_var 1)) (simSs_cons (simS_ex (simE_remove hu (simE_fld h.cls h.f_arrows (simE_var 0)) (simA_cons (simE_tup (simA_cons (simE_var 3) (simA_cons (simE_var 4) (simA_nil)))) (simA_nil)))) (simSs_one (simS_ex (simE_append (simE_fld h.cls h.f_todo (simE_var 0)) (simA_cons (simE_tup (simA_cons (simE_ix (simE_var 3) (simE_int)) (simA_cons (simE_tup (simA_cons (simE_str) (simA_cons (simE_var 4) (simA_cons (simE_var 2) (simA_nil))))) (simA_nil)))) (simA_nil)))))) (simSs_nil))))))
theorem sc_take_arrow : FnScope N_take_arrow ["state", "sentence", "program"] (defScope (topS 15)) := ⟨rfl, rfl, rfl, by decide +kernel, rfl, by decide +kernel, by decide +kernel⟩
theorem t_take_arrow (h : HypR P w K mg base C n) (cdv : Value) (A : Around) (outer : List Env) (s : Shared) (H : Hp) (E : XK) (hr : Room (n + 50) (A.deeper (envOfC "take_arrow" (defScope (topS 15)) s.heap.objs.size f cdv))) :
    SimSs (cxOf L2.CX0 P w K mg base N_take_arrow "take_arrow" (defScope (topS 15)) f cdv A outer s H E).nox (defBody (topS 15)) (b_take_arrow (run C n) C n) := by
  have nd := (sc_take_arrow).nd
  have hu := hu_big hr
  exact simSs_cons (simS_par2 (i := 3) (j := 4) rfl nd (simA_cons (simE_ix (simE_var 1) (simE_int)) (simA_cons (simE_ix (simE_var 1) (simE_int)) (simA_nil)))) (simSs_cons (simS_if (simT_eq hu (simE_var 3) (simE_glo h.g_FALSE rfl)) (simSs_one (simS_retN)) (simSs_nil)) (simSs_one (simS_if (PW.pt (simW_and (simT_eq hu (simE_ix (simE_var 3) (simE_int)) (simE_str)) (simW_and1 (simT_din hu (simE_ix (simE_var 3) (simE_int)) (simE_fld h.cls h.f_facts (simE_var 0)))))) (simSs_one (simS_ex (simE_append (simE_fld h.cls h.f_todo (simE_var 0)) (simA_cons (simE_tup (simA_cons (simE_var 4) (simA_cons (simE_tup (simA_cons (simE_str) (simA_cons (simE_var 2) (simA_cons (simE_dget hu (simE_fld h.cls h.f_facts (simE_var 0)) (simE_ix (simE_var 3) (simE_int))) (simA_nil))))) (simA_nil)))) (simA_nil))))) (simSs_one (simS_if (simT_eq hu (simE_ix (simE_var 3) (simE_int)) (simE_str)) (simSs_cons (simS_par2 (i := 6) (j := 7) rfl nd (simA_cons (meS0 h.m_Search_fresh hr (simE_var 0)) (simA_cons (meS0 h.m_Search_fresh hr (simE_var 0)) (simA_nil)))) (simSs_cons (simS_set (i := 5) nd (simE_tup (simA_cons (simE_str) (simA_cons (simE_var 7) (simA_cons (simE_ix (simE_var 3) (simE_int)) (simA_cons (simE_tup (simA_cons (simE_str) (simA_cons (simE_var 2) (simA_cons (simE_tup (simA_cons (simE_str) (simA_cons (simE_var 6) (simA_cons (simE_var 7) (simA_nil))))) (simA_nil))))) (simA_nil))))))) (simSs_one (simS_ex (simE_append (simE_fld h.cls h.f_todo (simE_var 0)) (simA_cons (simE_tup (simA_cons (simE_tup (simA_cons (simE_str) (simA_cons (simE_ix (simE_var 3) (simE_int)) (simA_cons (simE_tup (simA_cons (simE_str) (simA_cons (simE_ix (simE_var 3) (simE_int)) (simA_cons (simE_var 4) (simA_nil))))) (simA_nil))))) (simA_cons (simE_tup (simA_cons (simE_str) (simA_cons (simE_var 6) (simA_cons (simE_ix (simE_var 3) (simE_int)) (simA_cons (simE_var 5) (simA_nil)))))) (simA_nil)))) (simA_nil))))))) (simSs_one (simS_if (simT_eq hu (simE_ix (simE_var 3) (simE_int)) (simE_str)) (simSs_one (simS_for (S := (([8] ++ ([9] ++ [])))) PassesOwn.never rfl (simI_seq (simE_tup (simA_cons (simE_tup (simA_cons (simE_str) (simA_cons (simE_ix (simE_var 3) (simE_int)) (simA_nil)))) (simA_cons (simE_tup (simA_cons (simE_str) (simA_cons (simE_ix (simE_var 3) (simE_int)) (simA_nil)))) (simA_nil))))) (simG_tup rfl (simGs_cons (simG_name (i := 8) nd) (simGs_cons (simG_name (i := 9) nd) (simGs_nil)))) (simSs_cons (simS_set (i := 10) nd (meS0 h.m_Search_fresh hr (simE_var 0))) (simSs_one (simS_ex (simE_append (simE_fld h.cls h.f_todo (simE_var 0)) (simA_cons (simE_tup (simA_cons (simE_tup (simA_cons (simE_str) (simA_cons (simE_var 9) (simA_cons (simE_var 4) (simA_nil))))) (simA_cons (simE_tup (simA_cons (simE_str) (simA_cons (simE_var 10) (simA_cons (simE_var 9) (simA_cons (simE_tup (simA_cons (simE_str) (simA_cons (simE_var 2) (simA_cons (simE_tup (simA_cons (simE_var 8) (simA_cons (simE_var 3) (simA_cons (simE_var 10) (simA_nil))))) (simA_nil))))) (simA_nil)))))) (simA_nil)))) (simA_nil)))))))) (simSs_one (simS_ex (simE_append (simE_fld h.cls h.f_arrows (simE_var 0)) (simA_cons (simE_tup (simA_cons (simE_var 1) (simA_cons (simE_var 2) (simA_nil)))) (simA_nil))))))))))))
theorem sc_solve_open : FnScope N_solve_open ["state", "goal"] (defScope (topS 16)) := ⟨rfl, rfl, rfl, by decide +kernel, rfl, by decide +kernel, by decide +kernel⟩
theorem t_solve_open (h : HypR P w K mg base C n) (cdv : Value) (A : Around) (outer : List Env) (s : Shared) (H : Hp) (E : XK) (hr : Room (n + 50) (A.deeper (envOfC "solve_open" (defScope (topS 16)) s.heap.objs.size f cdv))) :
    SimSs (cxOf L2.CX0 P w K mg base N_solve_open "solve_open" (defScope (topS 16)) f cdv A outer s H E).nox (defBody (topS 16)) (b_solve_open (run C n) C n) := by
  have nd := (sc_solve_open).nd
  have hu := hu_big hr
  exact simSs_frzF (simSs_cons (simS_set (i := 2) nd (simE_lstM (simA_nil))) (simSs_cons (simS_if (simT_eq hu (simE_ix (simE_var 1) (simE_int)) (simE_str)) (simSs_one (simS_for (S := (([4] ++ ([5] ++ [])))) PassesOwn.never rfl (simI_seq (simE_tup (simA_cons (simE_tup (simA_cons (simE_str) (simA_cons (simE_ix (simE_var 1) (simE_int)) (simA_nil)))) (simA_cons (simE_tup (simA_cons (simE_str) (simA_cons (simE_ix (simE_var 1) (simE_int)) (simA_nil)))) (simA_nil))))) (simG_tup rfl (simGs_cons (simG_name (i := 4) nd) (simGs_cons (simG_name (i := 5) nd) (simGs_nil)))) (simSs_cons (simS_set (i := 6) nd (caS (h.R .solve rfl) hr rfl (simA_cons (meS0 h.m_Search_more hr (simE_var 0)) (simA_cons (simE_var 5) (simA_nil))))) (simSs_cons (simS_if (simT_eq hu (simE_ix (simE_var 6) (simE_int)) (simE_str)) (simSs_one (simS_ret (simE_tup (simA_cons (simE_str) (simA_cons (simE_tup (simA_cons (simE_var 4) (simA_cons (simE_var 1) (simA_cons (simE_ix (simE_var 6) (simE_int)) (simA_nil))))) (simA_nil)))))) (simSs_nil)) (simSs_one (simS_ex (simE_append (simE_var 2) (simA_cons (simE_ix (simE_var 6) (simE_int)) (simA_nil))))))))) (simSs_nil)) (simSs_cons (simS_for (S := (([3] ++ ((([7] ++ ([8] ++ []))) ++ [])))) PassesOwn.never rfl (simI_enum rfl h.z_enumerate (simA_cons (simE_fld h.cls h.f_arrows (simE_var 0)) (simA_nil))) (simG_tup rfl (simGs_cons (simG_name (i := 3) nd) (simGs_cons (simG_tup rfl (simGs_cons (simG_name (i := 7) nd) (simGs_cons (simG_name (i := 8) nd) (simGs_nil)))) (simGs_nil)))) (simSs_one (simS_if (simT_eq hu (simE_ix (simE_ix (simE_var 7) (simE_int)) (simE_int)) (simE_str)) (simSs_cons (simS_set (i := 6) nd (caS (h.R .solve_asked rfl) hr rfl (simA_cons (simE_var 0) (simA_cons (simE_var 3) (simA_cons (simE_var 7) (simA_cons (simE_var 8) (simA_nil))))))) (simSs_cons (simS_if (simT_eq hu (simE_ix (simE_var 6) (simE_int)) (simE_str)) (simSs_one (simS_ret (caS (h.R .solve rfl) hr rfl (simA_cons (meS h.m_Search_more hr (meS h.m_Search_without hr (simE_var 0) (simA_cons (simE_var 3) (simA_nil))) (simA_cons (simE_tup (simA_cons (simE_ix (simE_var 7) (simE_int)) (simA_cons (simE_tup (simA_cons (simE_str) (simA_cons (simE_var 8) (simA_cons (simE_ix (simE_var 6) (simE_int)) (simA_nil))))) (simA_nil)))) (simA_nil))) (simA_cons (simE_var 1) (simA_nil)))))) (simSs_nil)) (simSs_one (simS_ex (simE_append (simE_var 2) (simA_cons (simE_ix (simE_var 6) (simE_int)) (simA_nil))))))) (simSs_nil)))) (simSs_one (simS_ret (simE_tup (simA_cons (simE_str) (simA_cons (simE_tup (simA_cons (simE_str) (simA_cons (simE_tuple rfl h.z_tuple (simA_cons (simE_sortedD rfl rfl h.z_sorted (simA_cons (simE_fld h.cls h.f_facts (simE_var 0)) (simA_nil))) (simA_nil))) (simA_cons (simE_tuple rfl h.z_tuple (simA_cons (simE_var 2) (simA_nil))) (simA_nil))))) (simA_nil)))))))))
theorem sc_solve_asked : FnScope N_solve_asked ["state", "at", "arrow", "program"] (defScope (topS 17)) := ⟨rfl, rfl, rfl, by decide +kernel, rfl, by decide +kernel, by decide +kernel⟩
theorem t_solve_asked (h : HypR P w K mg base C n) (cdv : Value) (A : Around) (outer : List Env) (s : Shared) (H : Hp) (E : XK) (hr : Room (n + 50) (A.deeper (envOfC "solve_asked" (defScope (topS 17)) s.heap.objs.size f cdv))) :
    SimSs (cxOf L2.CX0 P w K mg base N_solve_asked "solve_asked" (defScope (topS 17)) f cdv A outer s H E).nox (defBody (topS 17)) (b_solve_asked (run C n) C n) := by
  have nd := (sc_solve_asked).nd
  have hu := hu_big hr
  exact simSs_cons (simS_asg (S := (([5] ++ ((([5] ++ ([9] ++ ([10] ++ [])))) ++ ([6] ++ []))))) (simE_var 2) (simG_tup rfl (simGs_cons (simG_name (i := 5) nd) (simGs_cons (simG_tup rfl (simGs_cons (simG_name (i := 5) nd) (simGs_cons (simG_name (i := 9) nd) (simGs_cons (simG_name (i := 10) nd) (simGs_nil))))) (simGs_cons (simG_name (i := 6) nd) (simGs_nil)))))) (simSs_cons (simS_par2 (i := 7) (j := 8) rfl nd (simA_cons (meS0 h.m_Search_fresh hr (simE_var 0)) (simA_cons (meS0 h.m_Search_fresh hr (simE_var 0)) (simA_nil)))) (simSs_cons (simS_set (i := 4) nd (simE_tup (simA_cons (simE_str) (simA_cons (simE_var 7) (simA_cons (simE_var 10) (simA_cons (simE_tup (simA_cons (simE_str) (simA_cons (simE_var 3) (simA_cons (simE_tup (simA_cons (simE_str) (simA_cons (simE_var 8) (simA_cons (simE_var 9) (simA_cons (simE_var 7) (simA_nil)))))) (simA_nil))))) (simA_nil))))))) (simSs_one (simS_ret (caS (h.R .solve rfl) hr rfl (simA_cons (meS h.m_Search_more hr (meS h.m_Search_without hr (simE_var 0) (simA_cons (simE_var 1) (simA_nil))) (simA_cons (simE_tup (simA_cons (simE_tup (simA_cons (simE_str) (simA_cons (simE_var 10) (simA_cons (simE_var 6) (simA_nil))))) (simA_cons (simE_var 4) (simA_nil)))) (simA_nil))) (simA_cons (simE_tup (simA_cons (simE_str) (simA_cons (simE_var 9) (simA_cons (simE_var 10) (simA_nil))))) (simA_nil))))))))
theorem sc_settled : FnScope N_settled ["program", "names"] (defScope (topS 18)) := ⟨rfl, rfl, rfl, by decide +kernel, rfl, by decide +kernel, by decide +kernel⟩
theorem t_settled (h : HypR P w K mg base C n) (cdv : Value) (A : Around) (outer : List Env) (s : Shared) (H : Hp) (E : XK) (hr : Room (n + 50) (A.deeper (envOfC "settled" (defScope (topS 18)) s.heap.objs.size f cdv))) :
    SimSs (cxOf L2.CX0 P w K mg base N_settled "settled" (defScope (topS 18)) f cdv A outer s H E).nox (defBody (topS 18)) (b_settled (run C n) C n) := by
  have nd := (sc_settled).nd
  have hu := hu_big hr
  exact simSs_cons (simS_set (i := 2) nd (simE_ix (simE_var 0) (simE_int))) (simSs_cons (simS_if (simT_eq hu (simE_var 2) (simE_str)) (simSs_one (simS_ret (simE_tup (simA_cons (simE_str) (simA_cons (simE_indexX hu (simE_var 1) (simE_var 0)) (simA_nil)))))) (simSs_nil)) (simSs_cons (simS_if (simT_eq hu (simE_var 2) (simE_str)) (simSs_one (simS_ret (simE_tup (simA_cons (simE_str) (simA_cons (simE_ix (simE_var 0) (simE_int)) (simA_cons (caP (h.R .settled rfl) hr rfl (simA_cons (simE_ix (simE_var 0) (simE_int)) (simA_cons (simE_addX (simE_tupX (simA_cons (simE_ix (simE_var 0) (simE_int)) (simA_nil))) (simE_var 1)) (simA_nil)))) (simA_nil))))))) (simSs_nil)) (simSs_cons (simS_if (simT_eq hu (simE_var 2) (simE_str)) (simSs_cons (simS_setLc (i := 3) (own := [("name", 4), ("part", 5)]) (S := (([4] ++ ([5] ++ [])))) rfl nd (by decide) (blkOk_by (N := N_settled) (sc := defScope (topS 18)) (by decide +kernel)) (sw_true rfl rfl rfl (by decide +kernel)) (simI_seq (simE_slT (simE_var 0) (simO_some (simE_int)) (simO_none))) (fun _ _ _ _ _ => simG_tup rfl (simGs_cons (simG_name (i := 4) nd) (simGs_cons (simG_name (i := 5) nd) (simGs_nil)))) (fun _ _ _ _ _ => simTs_nil) (fun _ _ _ _ _ => caP (h.R .settled rfl) hr rfl (simA_cons (simE_var 5) (simA_cons (simE_addX (simE_tupX (simA_cons (simE_var 4) (simA_nil))) (simE_var 1)) (simA_nil))))) (simSs_one (simS_ret (simE_tup (simA_cons (simE_str) (simA_cons (caP (h.R .settled rfl) hr rfl (simA_cons (simE_ix (simE_var 0) (simE_int)) (simA_cons (simE_var 1) (simA_nil)))) (simA_cons (simE_ix (simE_var 3) (simE_int)) (simA_cons (simE_ix (simE_var 3) (simE_int)) (simA_nil))))))))) (simSs_nil)) (simSs_cons (simS_if (simT_in hu (simE_var 2) (simE_tup (simA_cons (simE_str) (simA_cons (simE_str) (simA_cons (simE_str) (simA_nil)))))) (simSs_one (simS_ret (simE_tup (simA_cons (simE_var 2) (simA_cons (simE_ix (simE_var 0) (simE_int)) (simA_cons (caP (h.R .settled rfl) hr rfl (simA_cons (simE_ix (simE_var 0) (simE_int)) (simA_cons (simE_var 1) (simA_nil)))) (simA_nil))))))) (simSs_nil)) (simSs_one (simS_ret (simE_add (simE_tup (simA_cons (simE_var 2) (simA_nil))) (simE_tuple rfl h.z_tuple (simA_cons (simE_lc (own := [("part", 5)]) (S := [5]) rfl nd (by decide) (blkOk_by (N := N_settled) (sc := defScope (topS 18)) (by decide +kernel)) (simI_seq (simE_slT (simE_var 0) (simO_some (simE_int)) (simO_none))) (fun _ _ _ _ _ => simG_name (i := 5) nd) (fun _ _ _ _ _ => simTs_nil) (fun _ _ _ _ _ => caP (h.R .settled rfl) hr rfl (simA_cons (simE_var 5) (simA_cons (simE_var 1) (simA_nil))))) (simA_nil))))))))))
theorem sc_decide : FnScope N_decide ["context", "sentence"] (defScope (topS 19)) := ⟨rfl, rfl, rfl, by decide +kernel, rfl, by decide +kernel, by decide +kernel⟩
theorem t_decide (h : HypR P w K mg base C n) (cdv : Value) (A : Around) (outer : List Env) (s : Shared) (H : Hp) (E : XK) (hr : Room (n + 50) (A.deeper (envOfC "decide" (defScope (topS 19)) s.heap.objs.size f cdv))) :
    SimSs (cxOf L2.CX0 P w K mg base N_decide "decide" (defScope (topS 19)) f cdv A outer s H E).nox (defBody (topS 19)) (b_decide (run C n) C n) := by
  have nd := (sc_decide).nd
  have hu := hu_big hr
  exact simSs_cons (simS_set (i := 2) nd (mkS h.mkk (hr.mono (by omega)) rfl (simA_cons (simE_lstM (simA_nil)) (simA_cons (simE_dic) (simA_cons (simE_lstM (simA_nil)) (simA_cons (simE_lstM (simA_nil)) (simA_nil))))))) (simSs_cons (simS_set (i := 3) nd (simE_tupleX rfl h.z_tuple (simA_cons (simE_lc (own := [("_", 5)]) (S := [5]) rfl nd (by decide) (blkOk_by (N := N_decide) (sc := defScope (topS 19)) (by decide +kernel)) (simI_seq (simE_var 0)) (fun _ _ _ _ _ => simG_name (i := 5) nd) (fun _ _ _ _ _ => simTs_nil) (fun _ _ _ _ _ => meS0 h.m_Search_fresh hr (simE_var 2))) (simA_nil)))) (simSs_cons (simS_ex (simE_extend (simE_fld h.cls h.f_todo (simE_var 2)) (simA_cons (simE_rev (simE_lstZ rfl rfl rfl h.z_list h.z_zip (simA_cons (simE_var 0) (simA_cons (simE_var 3) (simA_nil))))) (simA_nil)))) (simSs_cons (simS_set (i := 4) nd (caS (h.R .solve rfl) hr rfl (simA_cons (simE_var 2) (simA_cons (simE_var 1) (simA_nil))))) (simSs_one (simS_ret (simE_if (simT_eq hu (simE_ix (simE_var 4) (simE_int)) (simE_str)) (simE_var 4) (simE_tup (simA_cons (simE_str) (simA_cons (caP (h.R .settled rfl) hr rfl (simA_cons (simE_ix (simE_var 4) (simE_int)) (simA_cons (simE_var 3) (simA_nil)))) (simA_nil))))))))))
theorem sc_is_proved : FnScope N_is_proved ["context", "sentence"] (defScope (topS 20)) := ⟨rfl, rfl, rfl, by decide +kernel, rfl, by decide +kernel, by decide +kernel⟩
theorem t_is_proved (h : HypR P w K mg base C n) (cdv : Value) (A : Around) (outer : List Env) (s : Shared) (H : Hp) (E : XK) (hr : Room (n + 50) (A.deeper (envOfC "is_proved" (defScope (topS 20)) s.heap.objs.size f cdv))) :
    SimSs (cxOf L2.CX0 P w K mg base N_is_proved "is_proved" (defScope (topS 20)) f cdv A outer s H E).nox (defBody (topS 20)) (b_is_proved (run C n) C n) := by
  have nd := (sc_is_proved).nd
  have hu := hu_big hr
  exact simSs_one (simS_ret (simE_eq hu (simE_ix (caP (h.R .decide rfl) hr rfl (simA_cons (simE_var 0) (simA_cons (simE_var 1) (simA_nil)))) (simE_int)) (simE_str)))
theorem sc_is_program : FnScope N_is_program ["value", "depth"] (defScope (topS 24)) := ⟨rfl, rfl, rfl, by decide +kernel, rfl, by decide +kernel, by decide +kernel⟩
theorem t_is_program (h : HypR P w K mg base C n) (cdv : Value) (A : Around) (outer : List Env) (s : Shared) (H : Hp) (E : XK) (hr : Room (n + 50) (A.deeper (envOfC "is_program" (defScope (topS 24)) s.heap.objs.size f cdv))) :
    SimSs (cxOf L2.CX0 P w K mg base N_is_program "is_program" (defScope (topS 24)) f cdv A outer s H E).nox (defBody (topS 24)) (b_is_program (run C n) C n) := by
  have nd := (sc_is_program).nd
  have hu := hu_big hr
  exact simSs_cons (simS_if (PW.pt (simW_or (simT_lt (simE_var 1) (simE_int)) (simW_or (simT_not (simT_val (simE_isi rfl h.z_isinstance rfl h.z_tuple (by decide +kernel) (simE_var 0)))) (simW_or (simT_eq hu (simE_len rfl h.z_len (simA_cons (simE_var 0) (simA_nil))) (simE_int)) (simW_or1 (simT_not (simT_val (simE_isi rfl h.z_isinstance rfl h.z_str (by decide +kernel) (simE_ix (simE_var 0) (simE_int)))))))))) (simSs_one (simS_ret (simE_bl))) (simSs_nil)) (simSs_cons (simS_set (i := 2) nd (simE_kgetG h.k_SHAPES rfl (simE_ix (simE_var 0) (simE_int)) ⟨rfl, rfl, rfl, rfl⟩)) (simSs_cons (simS_if (PW.pt (simW_or (simT_isN (simE_var 2) (simE_non)) (simW_or1 (simT_ne hu (simE_len rfl h.z_len (simA_cons (simE_var 0) (simA_nil))) (simE_add (simE_int) (simE_len rfl h.z_len (simA_cons (simE_var 2) (simA_nil)))))))) (simSs_one (simS_ret (simE_bl))) (simSs_nil)) (simSs_cons (simS_for (S := (([3] ++ ([4] ++ [])))) PassesOwn.never rfl (simI_zipS rfl h.z_zip (simA_cons (simE_var 2) (simA_cons (simE_slT (simE_var 0) (simO_some (simE_int)) (simO_none)) (simA_nil)))) (simG_tup rfl (simGs_cons (simG_name (i := 3) nd) (simGs_cons (simG_name (i := 4) nd) (simGs_nil)))) (simSs_cons (simS_if (PW.pt (simW_and (simT_eq hu (simE_var 3) (simE_str)) (simW_and1 (PW.pt (simW_or (simT_not (simT_val (simE_isi rfl h.z_isinstance rfl h.z_int (by decide +kernel) (simE_var 4)))) (simW_or (simT_val (simE_isi rfl h.z_isinstance rfl h.z_bool (by decide +kernel) (simE_var 4))) (simW_or1 (simT_lt (simE_var 4) (simE_int))))))))) (simSs_one (simS_ret (simE_bl))) (simSs_nil)) (simSs_cons (simS_if (PW.pt (simW_and (simT_eq hu (simE_var 3) (simE_str)) (simW_and1 (simT_not (simT_val (caP (h.R .is_sentence rfl) hr rfl (simA_cons (simE_var 4) (simA_nil)))))))) (simSs_one (simS_ret (simE_bl))) (simSs_nil)) (simSs_one (simS_if (PW.pt (simW_and (simT_eq hu (simE_var 3) (simE_str)) (simW_and1 (simT_not (simT_val (caP (h.R .is_program rfl) hr rfl (simA_cons (simE_var 4) (simA_cons (simE_sub (simE_var 1) (simE_int)) (simA_nil))))))))) (simSs_one (simS_ret (simE_bl))) (simSs_nil)))))) (simSs_one (simS_ret (simE_bl))))))
theorem sc_kind_of : FnScope N_kind_of ["context", "program"] (defScope (topS 25)) := ⟨rfl, rfl, rfl, by decide +kernel, rfl, by decide +kernel, by decide +kernel⟩
theorem t_kind_of (h : HypR P w K mg base C n) (cdv : Value) (A : Around) (outer : List Env) (s : Shared) (H : Hp) (E : XK) (hr : Room (n + 50) (A.deeper (envOfC "kind_of" (defScope (topS 25)) s.heap.objs.size f cdv))) :
    SimSs (cxOf L2.CX0 P w K mg base N_kind_of "kind_of" (defScope (topS 25)) f cdv A outer s H E).nox (defBody (topS 25)) (b_kind_of (run C n) C n) := by
  have nd := (sc_kind_of).nd
  have hu := hu_big hr
  exact simSs_cons (simS_set (i := 2) nd (simE_ix (simE_var 1) (simE_int))) (simSs_cons (simS_if (simT_eq hu (simE_var 2) (simE_str)) (simSs_one (simS_ret (simE_if (simT_lt (simE_ix (simE_var 1) (simE_int)) (simE_len rfl h.z_len (simA_cons (simE_var 0) (simA_nil)))) (simE_ix (simE_var 0) (simE_ix (simE_var 1) (simE_int))) (simE_non)))) (simSs_nil)) (simSs_cons (simS_if (simT_eq hu (simE_var 2) (simE_str)) (simSs_cons (simS_set (i := 4) nd (caP (h.R .kind_of rfl) hr rfl (simA_cons (simE_add (simE_tup (simA_cons (simE_ix (simE_var 1) (simE_int)) (simA_nil))) (simE_var 0)) (simA_cons (simE_ix (simE_var 1) (simE_int)) (simA_nil))))) (simSs_one (simS_ret (simE_if (simT_isN (simE_var 4) (simE_non)) (simE_non) (simE_tup (simA_cons (simE_str) (simA_cons (simE_ix (simE_var 1) (simE_int)) (simA_cons (simE_var 4) (simA_nil))))))))) (simSs_nil)) (simSs_cons (simS_if (simT_in hu (simE_var 2) (simE_tup (simA_cons (simE_str) (simA_cons (simE_str) (simA_cons (simE_str) (simA_nil)))))) (simSs_one (simS_ret (caP (h.R .made_kind rfl) hr rfl (simA_cons (simE_var 2) (simA_cons (simE_ix (simE_var 1) (simE_int)) (simA_cons (caP (h.R .kind_of rfl) hr rfl (simA_cons (simE_var 0) (simA_cons (simE_ix (simE_var 1) (simE_int)) (simA_nil)))) (simA_nil))))))) (simSs_nil)) (simSs_cons (simS_if (simT_eq hu (simE_var 2) (simE_str)) (simSs_one (simS_ret (caP (h.R .case_kind rfl) hr rfl (simA_cons (simE_var 0) (simA_cons (simE_var 1) (simA_nil)))))) (simSs_nil)) (simSs_cons (simS_setLc (i := 3) (own := [("part", 5)]) (S := [5]) rfl nd (by decide) (blkOk_by (N := N_kind_of) (sc := defScope (topS 25)) (by decide +kernel)) (sw_true rfl rfl rfl (by decide +kernel)) (simI_seq (simE_slT (simE_var 1) (simO_some (simE_int)) (simO_none))) (fun _ _ _ _ _ => simG_name (i := 5) nd) (fun _ _ _ _ _ => simTs_nil) (fun _ _ _ _ _ => caP (h.R .kind_of rfl) hr rfl (simA_cons (simE_var 0) (simA_cons (simE_var 5) (simA_nil))))) (simSs_cons (simS_if (simT_in hu (simE_non) (simE_var 3)) (simSs_one (simS_ret (simE_non))) (simSs_nil)) (simSs_cons (simS_if (simT_eq hu (simE_var 2) (simE_str)) (simSs_one (simS_ret (simE_tup (simA_cons (simE_str) (simA_cons (simE_ix (simE_var 3) (simE_int)) (simA_cons (simE_ix (simE_var 3) (simE_int)) (simA_nil))))))) (simSs_nil)) (simSs_cons (simS_if (simT_eq hu (simE_var 2) (simE_str)) (simSs_one (simS_ret (simE_if (PW.pt (simW_and (simT_eq hu (simE_ix (simE_ix (simE_var 3) (simE_int)) (simE_int)) (simE_str)) (simW_and1 (simT_eq hu (simE_ix (simE_ix (simE_var 3) (simE_int)) (simE_int)) (simE_ix (simE_var 3) (simE_int)))))) (simE_ix (simE_ix (simE_var 3) (simE_int)) (simE_int)) (simE_non)))) (simSs_nil)) (simSs_one (simS_ret (simE_if (simT_eq hu (simE_ix (simE_ix (simE_var 3) (simE_int)) (simE_int)) (simE_str)) (simE_ix (simE_ix (simE_var 3) (simE_int)) (simE_if (simT_eq hu (simE_var 2) (simE_str)) (simE_int) (simE_int))) (simE_non))))))))))))
theorem sc_made_kind : FnScope N_made_kind ["word", "sentence", "kind"] (defScope (topS 26)) := ⟨rfl, rfl, rfl, by decide +kernel, rfl, by decide +kernel, by decide +kernel⟩
theorem t_made_kind (h : HypR P w K mg base C n) (cdv : Value) (A : Around) (outer : List Env) (s : Shared) (H : Hp) (E : XK) (hr : Room (n + 50) (A.deeper (envOfC "made_kind" (defScope (topS 26)) s.heap.objs.size f cdv))) :
    SimSs (cxOf L2.CX0 P w K mg base N_made_kind "made_kind" (defScope (topS 26)) f cdv A outer s H E).nox (defBody (topS 26)) (b_made_kind (run C n) C n) := by
  have nd := (sc_made_kind).nd
  have hu := hu_big hr
  exact simSs_cons (simS_if (simT_isN (simE_var 2) (simE_non)) (simSs_one (simS_ret (simE_non))) (simSs_nil)) (simSs_cons (simS_if (simT_eq hu (simE_var 0) (simE_str)) (simSs_one (simS_ret (simE_if (simT_eq hu (simE_var 2) (simE_tup (simA_cons (simE_str) (simA_nil)))) (simE_var 1) (simE_non)))) (simSs_nil)) (simSs_cons (simS_set (i := 3) nd (simE_if (simT_eq hu (simE_var 0) (simE_str)) (simE_int) (simE_int))) (simSs_one (simS_ret (simE_if (PW.pt (simW_and (simT_eq hu (simE_ix (simE_var 1) (simE_int)) (simE_str)) (simW_and1 (simT_eq hu (simE_ix (simE_var 1) (simE_var 3)) (simE_var 2))))) (simE_var 1) (simE_non))))))
theorem sc_case_kind : FnScope N_case_kind ["context", "program"] (defScope (topS 27)) := ⟨rfl, rfl, rfl, by decide +kernel, rfl, by decide +kernel, by decide +kernel⟩
theorem t_case_kind (h : HypR P w K mg base C n) (cdv : Value) (A : Around) (outer : List Env) (s : Shared) (H : Hp) (E : XK) (hr : Room (n + 50) (A.deeper (envOfC "case_kind" (defScope (topS 27)) s.heap.objs.size f cdv))) :
    SimSs (cxOf L2.CX0 P w K mg base N_case_kind "case_kind" (defScope (topS 27)) f cdv A outer s H E).nox (defBody (topS 27)) (b_case_kind (run C n) C n) := by
  have nd := (sc_case_kind).nd
  have hu := hu_big hr
  exact simSs_cons (simS_set (i := 2) nd (caP (h.R .kind_of rfl) hr rfl (simA_cons (simE_var 0) (simA_cons (simE_ix (simE_var 1) (simE_int)) (simA_nil))))) (simSs_cons (simS_if (PW.pt (simW_or (simT_isN (simE_var 2) (simE_non)) (simW_or1 (simT_ne hu (simE_ix (simE_var 2) (simE_int)) (simE_str))))) (simSs_one (simS_ret (simE_non))) (simSs_nil)) (simSs_cons (simS_set (i := 3) nd (caP (h.R .kind_of rfl) hr rfl (simA_cons (simE_add (simE_tup (simA_cons (simE_ix (simE_var 2) (simE_int)) (simA_nil))) (simE_var 0)) (simA_cons (simE_ix (simE_var 1) (simE_int)) (simA_nil))))) (simSs_cons (simS_set (i := 4) nd (caP (h.R .kind_of rfl) hr rfl (simA_cons (simE_add (simE_tup (simA_cons (simE_ix (simE_var 2) (simE_int)) (simA_nil))) (simE_var 0)) (simA_cons (simE_ix (simE_var 1) (simE_int)) (simA_nil))))) (simSs_one (simS_ret (simE_if (PW.pt (simW_and (simT_notN (simE_var 3) (simE_non)) (simW_and1 (simT_eq hu (simE_var 3) (simE_var 4))))) (simE_var 3) (simE_non)))))))
theorem sc_proves : FnScope N_proves ["context", "program", "sentence"] (defScope (topS 28)) := ⟨rfl, rfl, rfl, by decide +kernel, rfl, by decide +kernel, by decide +kernel⟩
theorem t_proves (h : HypR P w K mg base C n) (cdv : Value) (A : Around) (outer : List Env) (s : Shared) (H : Hp) (E : XK) (hr : Room (n + 50) (A.deeper (envOfC "proves" (defScope (topS 28)) s.heap.objs.size f cdv))) :
    SimSs (cxOf L2.CX0 P w K mg base N_proves "proves" (defScope (topS 28)) f cdv A outer s H E).nox (defBody (topS 28)) (b_proves (run C n) C n) := by
  have nd := (sc_proves).nd
  have hu := hu_big hr
  exact simSs_one (simS_ret (simE_and (caP (h.R .is_program rfl) hr rfl (simA_cons (simE_var 1) (simA_nil))) (simE_one (simE_eq hu (caP (h.R .kind_of rfl) hr rfl (simA_cons (simE_tuple rfl h.z_tuple (simA_cons (simE_var 0) (simA_nil))) (simA_cons (simE_var 1) (simA_nil)))) (simE_var 2)))))
theorem sc_law_draws : FnScope N_law_draws ["script"] (defScope (topS 30)) := ⟨rfl, rfl, rfl, by decide +kernel, rfl, by decide +kernel, by decide +kernel⟩
theorem t_law_draws (h : HypR P w K mg base C n) (cdv : Value) (A : Around) (outer : List Env) (s : Shared) (H : Hp) (E : XK) (hr : Room (n + 50) (A.deeper (envOfC "_law_draws" (defScope (topS 30)) s.heap.objs.size f cdv))) :
    SimSs (cxOf L2.CX0 P w K mg base N_law_draws "_law_draws" (defScope (topS 30)) f cdv A outer s H E).nox (defBody (topS 30)) (b_law_draws (run C n) C n) := by
  have nd := (sc_law_draws).nd
  have hu := hu_big hr
  exact simSs_one (simS_ret (simE_lstM (simA_cons (simE_listM rfl h.z_list (simA_cons (simE_var 0) (simA_nil))) (simA_cons (simE_int) (simA_cons (simE_int) (simA_cons (simE_int) (simA_nil)))))))
theorem sc_law_draw : FnScope N_law_draw ["draws", "limit"] (defScope (topS 31)) := ⟨rfl, rfl, rfl, by decide +kernel, rfl, by decide +kernel, by decide +kernel⟩
theorem t_law_draw (h : HypR P w K mg base C n) (cdv : Value) (A : Around) (outer : List Env) (s : Shared) (H : Hp) (E : XK) (hr : Room (n + 50) (A.deeper (envOfC "_law_draw" (defScope (topS 31)) s.heap.objs.size f cdv))) :
    SimSs (cxOf L2.CX0 P w K mg base N_law_draw "_law_draw" (defScope (topS 31)) f cdv A outer s H E).nox (defBody (topS 31)) (b_law_draw (run C n) C n) := by
  have nd := (sc_law_draw).nd
  have hu := hu_big hr
  exact simSs_cons (simS_if (PW.pt (simW_and (simT_eq hu (simE_ix (simE_var 0) (simE_int)) (simE_int)) (simW_and1 (simT_lt (simE_ix (simE_var 0) (simE_int)) (simE_len rfl h.z_len (simA_cons (simE_ix (simE_var 0) (simE_int)) (simA_nil))))))) (simSs_cons (simS_set (i := 2) nd (simE_ix (simE_ix (simE_var 0) (simE_int)) (simE_ix (simE_var 0) (simE_int)))) (simSs_cons (simS_lput (simE_var 0) (simE_int) (simE_add (simE_ix (simE_var 0) (simE_int)) (simE_int))) (simSs_cons (simS_if (simT_ge (simE_var 2) (simE_pow (simE_int) (simE_int))) (simSs_one (simS_lput (simE_var 0) (simE_int) (simE_var 2))) (simSs_nil)) (simSs_one (simS_lput (simE_var 0) (simE_int) (simE_mod (simE_intC rfl h.z_int (simA_cons (simE_add (simE_add (simE_mul (simE_ix (simE_var 0) (simE_int)) (simE_int)) (simE_var 2)) (simE_int)) (simA_nil))) (simE_int))))))) (simSs_nil)) (simSs_cons (simS_if (simT_gt (simE_ix (simE_var 0) (simE_int)) (simE_int)) (simSs_cons (simS_set (i := 3) nd (simE_mod (simE_intC rfl h.z_int (simA_cons (simE_ix (simE_var 0) (simE_int)) (simA_nil))) (simE_var 1))) (simSs_cons (simS_lput (simE_var 0) (simE_int) (simE_div (simE_ix (simE_var 0) (simE_int)) (simE_var 1))) (simSs_one (simS_ret (simE_var 3))))) (simSs_nil)) (simSs_cons (simS_lput (simE_var 0) (simE_int) (simE_mod (simE_intC rfl h.z_int (simA_cons (simE_add (simE_mul (simE_ix (simE_var 0) (simE_int)) (simE_int)) (simE_int)) (simA_nil))) (simE_int))) (simSs_one (simS_ret (simE_mod (simE_intC rfl h.z_int (simA_cons (simE_div (simE_ix (simE_var 0) (simE_int)) (simE_int)) (simA_nil))) (simE_var 1))))))
theorem sc_law_pick : FnScope N_law_pick ["draws", "row"] (defScope (topS 32)) := ⟨rfl, rfl, rfl, by decide +kernel, rfl, by decide +kernel, by decide +kernel⟩
theorem t_law_pick (h : HypR P w K mg base C n) (cdv : Value) (A : Around) (outer : List Env) (s : Shared) (H : Hp) (E : XK) (hr : Room (n + 50) (A.deeper (envOfC "_law_pick" (defScope (topS 32)) s.heap.objs.size f cdv))) :
    SimSs (cxOf L2.CX0 P w K mg base N_law_pick "_law_pick" (defScope (topS 32)) f cdv A outer s H E).nox (defBody (topS 32)) (b_law_pick (run C n) C n) := by
  have nd := (sc_law_pick).nd
  have hu := hu_big hr
  exact simSs_one (simS_ret (simE_ix (simE_var 1) (caS (h.R .law_draw rfl) hr rfl (simA_cons (simE_var 0) (simA_cons (simE_len rfl h.z_len (simA_cons (simE_var 1) (simA_nil))) (simA_nil))))))
theorem sc_law_atoms : FnScope N_law_atoms [] (defScope (topS 34)) := ⟨rfl, rfl, rfl, by decide +kernel, rfl, by decide +kernel, by decide +kernel⟩
theorem t_law_atoms (h : HypR P w K mg base C n) (cdv : Value) (A : Around) (outer : List Env) (s : Shared) (H : Hp) (E : XK) (hr : Room (n + 50) (A.deeper (envOfC "_law_atoms" (defScope (topS 34)) s.heap.objs.size f cdv))) :
    SimSs (cxOf L2.CX0 P w K mg base N_law_atoms "_law_atoms" (defScope (topS 34)) f cdv A outer s H E).nox (defBody (topS 34)) (b_law_atoms (run C n) C n) := by
  have nd := (sc_law_atoms).nd
  have hu := hu_big hr
  exact simSs_one (simS_ret (simE_lst (simA_cons (simE_str) (simA_cons (simE_str) (simA_cons (simE_str) (simA_nil))))))
theorem sc_law_sentence : FnScope N_law_sentence ["draws", "left"] (defScope (topS 35)) := ⟨rfl, rfl, rfl, by decide +kernel, rfl, by decide +kernel, by decide +kernel⟩
theorem t_law_sentence (h : HypR P w K mg base C n) (cdv : Value) (A : Around) (outer : List Env) (s : Shared) (H : Hp) (E : XK) (hr : Room (n + 50) (A.deeper (envOfC "_law_sentence" (defScope (topS 35)) s.heap.objs.size f cdv))) :
    SimSs (cxOf L2.CX0 P w K mg base N_law_sentence "_law_sentence" (defScope (topS 35)) f cdv A outer s H E).nox (defBody (topS 35)) (b_law_sentence (run C n) C n) := by
  have nd := (sc_law_sentence).nd
  have hu := hu_big hr
  exact simSs_cons (simS_set (i := 2) nd (caS (h.R .law_draw rfl) hr rfl (simA_cons (simE_var 0) (simA_cons (simE_int) (simA_nil))))) (simSs_cons (simS_if (PW.pt (simW_or (simT_lt (simE_var 1) (simE_int)) (simW_or1 (simT_eq hu (simE_var 2) (simE_int))))) (simSs_one (simS_ret (simE_if (simT_eq hu (caS (h.R .law_draw rfl) hr rfl (simA_cons (simE_var 0) (simA_cons (simE_int) (simA_nil)))) (simE_int)) (simE_tup (simA_cons (simE_str) (simA_nil))) (simE_tup (simA_cons (simE_str) (simA_cons (caS (h.R .law_pick rfl) hr rfl (simA_cons (simE_var 0) (simA_cons (caP0 (h.R .law_atoms rfl) hr rfl) (simA_nil)))) (simA_nil))))))) (simSs_nil)) (simSs_cons (simS_if (PW.pt (simW_and (simT_eq hu (simE_var 2) (simE_int)) (simW_and1 (simT_gt (simE_var 1) (simE_int))))) (simSs_one (simS_ret (simE_tup (simA_cons (simE_str) (simA_cons (caS (h.R .law_sentence rfl) hr rfl (simA_cons (simE_var 0) (simA_cons (simE_sub (simE_var 1) (simE_int)) (simA_nil)))) (simA_cons (simE_tup (simA_cons (simE_str) (simA_nil))) (simA_nil))))))) (simSs_nil)) (simSs_cons (simS_set (i := 3) nd (caS (h.R .law_sentence rfl) hr rfl (simA_cons (simE_var 0) (simA_cons (simE_if (simT_gt (caS (h.R .law_draw rfl) hr rfl (simA_cons (simE_var 0) (simA_cons (simE_int) (simA_nil)))) (simE_int)) (simE_div (simE_sub (simE_var 1) (simE_int)) (simE_int)) (simE_sub (simE_var 1) (simE_int))) (simA_nil))))) (simSs_cons (simS_set (i := 4) nd (caS (h.R .law_sentence rfl) hr rfl (simA_cons (simE_var 0) (simA_cons (simE_sub (simE_sub (simE_var 1) (simE_int)) (caP (h.R .law_size rfl) hr rfl (simA_cons (simE_var 3) (simA_nil)))) (simA_nil))))) (simSs_one (simS_ret (simE_tup (simA_cons (caS (h.R .law_pick rfl) hr rfl (simA_cons (simE_var 0) (simA_cons (simE_lst (simA_cons (simE_str) (simA_cons (simE_str) (simA_cons (simE_str) (simA_cons (simE_str) (simA_cons (simE_str) (simA_nil))))))) (simA_nil)))) (simA_cons (simE_var 3) (simA_cons (simE_var 4) (simA_nil)))))))))))
theorem sc_law_size : FnScope N_law_size ["sentence"] (defScope (topS 36)) := ⟨rfl, rfl, rfl, by decide +kernel, rfl, by decide +kernel, by decide +kernel⟩
theorem t_law_size (h : HypR P w K mg base C n) (cdv : Value) (A : Around) (outer : List Env) (s : Shared) (H : Hp) (E : XK) (hr : Room (n + 50) (A.deeper (envOfC "_law_size" (defScope (topS 36)) s.heap.objs.size f cdv))) :
    SimSs (cxOf L2.CX0 P w K mg base N_law_size "_law_size" (defScope (topS 36)) f cdv A outer s H E).nox (defBody (topS 36)) (b_law_size (run C n) C n) := by
  have nd := (sc_law_size).nd
  have hu := hu_big hr
  exact simSs_one (simS_ret (simE_if (simT_in hu (simE_ix (simE_var 0) (simE_int)) (simE_tup (simA_cons (simE_str) (simA_cons (simE_str) (simA_cons (simE_str) (simA_nil)))))) (simE_add (simE_int) (simE_sum rfl rfl h.z_sum (simA_cons (simE_lc (own := [("part", 1)]) (S := [1]) rfl nd (by decide) (blkOk_by (N := N_law_size) (sc := defScope (topS 36)) (by decide +kernel)) (simI_seq (simE_slT (simE_var 0) (simO_some (simE_int)) (simO_none))) (fun _ _ _ _ _ => simG_name (i := 1) nd) (fun _ _ _ _ _ => simTs_nil) (fun _ _ _ _ _ => caP (h.R .law_size rfl) hr rfl (simA_cons (simE_var 1) (simA_nil)))) (simA_nil)))) (simE_int)))
theorem sc_law_forms : FnScope N_law_forms ["a", "b", "c"] (defScope (topS 41)) := ⟨rfl, rfl, rfl, by decide +kernel, rfl, by decide +kernel, by decide +kernel⟩
theorem t_law_forms (h : HypR P w K mg base C n) (cdv : Value) (A : Around) (outer : List Env) (s : Shared) (H : Hp) (E : XK) (hr : Room (n + 50) (A.deeper (envOfC "_law_forms" (defScope (topS 41)) s.heap.objs.size f cdv))) :
    SimSs (cxOf L2.CX0 P w K mg base N_law_forms "_law_forms" (defScope (topS 41)) f cdv A outer s H E).nox (defBody (topS 41)) (b_law_forms (run C n) C n) := by
  have nd := (sc_law_forms).nd
  have hu := hu_big hr
  exact simSs_cons (simS_set (i := 3) nd (simE_tup (simA_cons (simE_str) (simA_nil)))) (simSs_one (simS_ret (simE_lst (simA_cons (simE_tup (simA_cons (simE_str) (simA_cons (simE_var 0) (simA_cons (simE_tup (simA_cons (simE_str) (simA_cons (simE_var 1) (simA_cons (simE_var 0) (simA_nil))))) (simA_nil))))) (simA_cons (simE_tup (simA_cons (simE_str) (simA_cons (simE_tup (simA_cons (simE_str) (simA_cons (simE_var 0) (simA_cons (simE_tup (simA_cons (simE_str) (simA_cons (simE_var 1) (simA_cons (simE_var 2) (simA_nil))))) (simA_nil))))) (simA_cons (simE_tup (simA_cons (simE_str) (simA_cons (simE_tup (simA_cons (simE_str) (simA_cons (simE_var 0) (simA_cons (simE_var 1) (simA_nil))))) (simA_cons (simE_tup (simA_cons (simE_str) (simA_cons (simE_var 0) (simA_cons (simE_var 2) (simA_nil))))) (simA_nil))))) (simA_nil))))) (simA_cons (simE_tup (simA_cons (simE_str) (simA_cons (simE_tup (simA_cons (simE_str) (simA_cons (simE_var 0) (simA_cons (simE_var 1) (simA_nil))))) (simA_cons (simE_var 0) (simA_nil))))) (simA_cons (simE_tup (simA_cons (simE_str) (simA_cons (simE_var 0) (simA_cons (simE_tup (simA_cons (simE_str) (simA_cons (simE_var 0) (simA_cons (simE_var 1) (simA_nil))))) (simA_nil))))) (simA_cons (simE_tup (simA_cons (simE_str) (simA_cons (simE_tup (simA_cons (simE_str) (simA_cons (simE_var 0) (simA_cons (simE_var 2) (simA_nil))))) (simA_cons (simE_tup (simA_cons (simE_str) (simA_cons (simE_tup (simA_cons (simE_str) (simA_cons (simE_var 1) (simA_cons (simE_var 2) (simA_nil))))) (simA_cons (simE_tup (simA_cons (simE_str) (simA_cons (simE_tup (simA_cons (simE_str) (simA_cons (simE_var 0) (simA_cons (simE_var 1) (simA_nil))))) (simA_cons (simE_var 2) (simA_nil))))) (simA_nil))))) (simA_nil))))) (simA_cons (simE_tup (simA_cons (simE_str) (simA_cons (simE_var 3) (simA_cons (simE_var 0) (simA_nil))))) (simA_cons (simE_tup (simA_cons (simE_str) (simA_cons (simE_var 0) (simA_cons (simE_tup (simA_cons (simE_str) (simA_cons (simE_tup (simA_cons (simE_str) (simA_cons (simE_var 0) (simA_cons (simE_var 3) (simA_nil))))) (simA_cons (simE_var 3) (simA_nil))))) (simA_nil))))) (simA_cons (simE_tup (simA_cons (simE_str) (simA_cons (simE_tup (simA_cons (simE_str) (simA_cons (simE_var 0) (simA_cons (simE_var 1) (simA_nil))))) (simA_cons (simE_tup (simA_cons (simE_str) (simA_cons (simE_tup (simA_cons (simE_str) (simA_cons (simE_var 1) (simA_cons (simE_var 3) (simA_nil))))) (simA_cons (simE_tup (simA_cons (simE_str) (simA_cons (simE_var 0) (simA_cons (simE_var 3) (simA_nil))))) (simA_nil))))) (simA_nil))))) (simA_cons (simE_tup (simA_cons (simE_str) (simA_cons (simE_tup (simA_cons (simE_str) (simA_cons (simE_tup (simA_cons (simE_str) (simA_cons (simE_tup (simA_cons (simE_str) (simA_cons (simE_var 0) (simA_cons (simE_var 3) (simA_nil))))) (simA_cons (simE_var 3) (simA_nil))))) (simA_cons (simE_var 3) (simA_nil))))) (simA_cons (simE_tup (simA_cons (simE_str) (simA_cons (simE_var 0) (simA_cons (simE_var 3) (simA_nil))))) (simA_nil))))) (simA_cons (simE_tup (simA_cons (simE_str) (simA_cons (simE_tup (simA_cons (simE_str) (simA_cons (simE_tup (simA_cons (simE_str) (simA_cons (simE_var 0) (simA_cons (simE_var 3) (simA_nil))))) (simA_cons (simE_var 1) (simA_nil))))) (simA_cons (simE_tup (simA_cons (simE_str) (simA_cons (simE_var 0) (simA_cons (simE_var 1) (simA_nil))))) (simA_nil))))) (simA_cons (simE_tup (simA_cons (simE_str) (simA_cons (simE_tup (simA_cons (simE_str) (simA_cons (simE_tup (simA_cons (simE_str) (simA_cons (simE_var 0) (simA_cons (simE_tup (simA_cons (simE_str) (simA_cons (simE_var 0) (simA_cons (simE_var 3) (simA_nil))))) (simA_nil))))) (simA_cons (simE_var 3) (simA_nil))))) (simA_cons (simE_var 3) (simA_nil))))) (simA_cons (simE_tup (simA_cons (simE_str) (simA_cons (simE_tup (simA_cons (simE_str) (simA_cons (simE_tup (simA_cons (simE_str) (simA_cons (simE_tup (simA_cons (simE_str) (simA_cons (simE_tup (simA_cons (simE_str) (simA_cons (simE_var 0) (simA_cons (simE_var 1) (simA_nil))))) (simA_cons (simE_var 0) (simA_nil))))) (simA_cons (simE_var 0) (simA_nil))))) (simA_cons (simE_var 3) (simA_nil))))) (simA_cons (simE_var 3) (simA_nil))))) (simA_cons (simE_tup (simA_cons (simE_str) (simA_cons (simE_tup (simA_cons (simE_str) (simA_cons (simE_tup (simA_cons (simE_str) (simA_cons (simE_var 0) (simA_cons (simE_var 3) (simA_nil))))) (simA_cons (simE_tup (simA_cons (simE_str) (simA_cons (simE_var 1) (simA_cons (simE_var 3) (simA_nil))))) (simA_nil))))) (simA_cons (simE_tup (simA_cons (simE_str) (simA_cons (simE_tup (simA_cons (simE_str) (simA_cons (simE_var 0) (simA_cons (simE_var 1) (simA_nil))))) (simA_cons (simE_var 3) (simA_nil))))) (simA_nil))))) (simA_nil)))))))))))))))))
theorem sc_law_equal : FnScope N_law_equal ["a", "b", "c"] (defScope (topS 42)) := ⟨rfl, rfl, rfl, by decide +kernel, rfl, by decide +kernel, by decide +kernel⟩
theorem t_law_equal (h : HypR P w K mg base C n) (cdv : Value) (A : Around) (outer : List Env) (s : Shared) (H : Hp) (E : XK) (hr : Room (n + 50) (A.deeper (envOfC "_law_equal" (defScope (topS 42)) s.heap.objs.size f cdv))) :
    SimSs (cxOf L2.CX0 P w K mg base N_law_equal "_law_equal" (defScope (topS 42)) f cdv A outer s H E).nox (defBody (topS 42)) (b_law_equal (run C n) C n) := by
  have nd := (sc_law_equal).nd
  have hu := hu_big hr
  exact simSs_cons (simS_set (i := 3) nd (simE_tup (simA_cons (simE_str) (simA_nil)))) (simSs_one (simS_ret (simE_lst (simA_cons (simE_tup (simA_cons (simE_tup (simA_cons (simE_str) (simA_cons (simE_var 0) (simA_cons (simE_var 1) (simA_nil))))) (simA_cons (simE_tup (simA_cons (simE_str) (simA_cons (simE_var 1) (simA_cons (simE_var 0) (simA_nil))))) (simA_nil)))) (simA_cons (simE_tup (simA_cons (simE_tup (simA_cons (simE_str) (simA_cons (simE_var 0) (simA_cons (simE_tup (simA_cons (simE_str) (simA_cons (simE_var 1) (simA_cons (simE_var 2) (simA_nil))))) (simA_nil))))) (simA_cons (simE_tup (simA_cons (simE_str) (simA_cons (simE_tup (simA_cons (simE_str) (simA_cons (simE_var 0) (simA_cons (simE_var 1) (simA_nil))))) (simA_cons (simE_var 2) (simA_nil))))) (simA_nil)))) (simA_cons (simE_tup (simA_cons (simE_tup (simA_cons (simE_str) (simA_cons (simE_var 0) (simA_cons (simE_tup (simA_cons (simE_str) (simA_cons (simE_var 1) (simA_cons (simE_var 2) (simA_nil))))) (simA_nil))))) (simA_cons (simE_tup (simA_cons (simE_str) (simA_cons (simE_tup (simA_cons (simE_str) (simA_cons (simE_var 0) (simA_cons (simE_var 1) (simA_nil))))) (simA_cons (simE_tup (simA_cons (simE_str) (simA_cons (simE_var 0) (simA_cons (simE_var 2) (simA_nil))))) (simA_nil))))) (simA_nil)))) (simA_cons (simE_tup (simA_cons (simE_tup (simA_cons (simE_str) (simA_cons (simE_var 0) (simA_cons (simE_tup (simA_cons (simE_str) (simA_cons (simE_var 1) (simA_cons (simE_var 2) (simA_nil))))) (simA_nil))))) (simA_cons (simE_tup (simA_cons (simE_str) (simA_cons (simE_tup (simA_cons (simE_str) (simA_cons (simE_var 0) (simA_cons (simE_var 1) (simA_nil))))) (simA_cons (simE_tup (simA_cons (simE_str) (simA_cons (simE_var 0) (simA_cons (simE_var 2) (simA_nil))))) (simA_nil))))) (simA_nil)))) (simA_cons (simE_tup (simA_cons (simE_tup (simA_cons (simE_str) (simA_cons (simE_tup (simA_cons (simE_str) (simA_cons (simE_var 0) (simA_cons (simE_var 1) (simA_nil))))) (simA_cons (simE_var 2) (simA_nil))))) (simA_cons (simE_tup (simA_cons (simE_str) (simA_cons (simE_var 0) (simA_cons (simE_tup (simA_cons (simE_str) (simA_cons (simE_var 1) (simA_cons (simE_var 2) (simA_nil))))) (simA_nil))))) (simA_nil)))) (simA_cons (simE_tup (simA_cons (simE_tup (simA_cons (simE_str) (simA_cons (simE_tup (simA_cons (simE_str) (simA_cons (simE_var 0) (simA_cons (simE_var 1) (simA_nil))))) (simA_cons (simE_var 2) (simA_nil))))) (simA_cons (simE_tup (simA_cons (simE_str) (simA_cons (simE_tup (simA_cons (simE_str) (simA_cons (simE_var 0) (simA_cons (simE_var 2) (simA_nil))))) (simA_cons (simE_tup (simA_cons (simE_str) (simA_cons (simE_var 1) (simA_cons (simE_var 2) (simA_nil))))) (simA_nil))))) (simA_nil)))) (simA_cons (simE_tup (simA_cons (simE_tup (simA_cons (simE_str) (simA_cons (simE_var 0) (simA_cons (simE_tup (simA_cons (simE_str) (simA_cons (simE_var 1) (simA_cons (simE_var 2) (simA_nil))))) (simA_nil))))) (simA_cons (simE_tup (simA_cons (simE_str) (simA_cons (simE_tup (simA_cons (simE_str) (simA_cons (simE_var 0) (simA_cons (simE_var 1) (simA_nil))))) (simA_cons (simE_tup (simA_cons (simE_str) (simA_cons (simE_var 0) (simA_cons (simE_var 2) (simA_nil))))) (simA_nil))))) (simA_nil)))) (simA_cons (simE_tup (simA_cons (simE_tup (simA_cons (simE_str) (simA_cons (simE_tup (simA_cons (simE_str) (simA_cons (simE_var 0) (simA_cons (simE_var 1) (simA_nil))))) (simA_cons (simE_var 3) (simA_nil))))) (simA_cons (simE_tup (simA_cons (simE_str) (simA_cons (simE_tup (simA_cons (simE_str) (simA_cons (simE_var 0) (simA_cons (simE_var 3) (simA_nil))))) (simA_cons (simE_tup (simA_cons (simE_str) (simA_cons (simE_var 1) (simA_cons (simE_var 3) (simA_nil))))) (simA_nil))))) (simA_nil)))) (simA_cons (simE_tup (simA_cons (simE_tup (simA_cons (simE_str) (simA_cons (simE_var 0) (simA_cons (simE_tup (simA_cons (simE_str) (simA_cons (simE_var 0) (simA_cons (simE_var 1) (simA_nil))))) (simA_nil))))) (simA_cons (simE_var 0) (simA_nil)))) (simA_cons (simE_tup (simA_cons (simE_tup (simA_cons (simE_str) (simA_cons (simE_var 0) (simA_cons (simE_tup (simA_cons (simE_str) (simA_cons (simE_var 0) (simA_cons (simE_var 1) (simA_nil))))) (simA_nil))))) (simA_cons (simE_tup (simA_cons (simE_str) (simA_cons (simE_var 0) (simA_cons (simE_var 1) (simA_nil))))) (simA_nil)))) (simA_nil))))))))))))))
theorem sc_law : FnScope N_law ["script"] (defScope (topS 43)) := ⟨rfl, rfl, rfl, by decide +kernel, rfl, by decide +kernel, by decide +kernel⟩
theorem t_law (h : HypR P w K mg base C n) (cdv : Value) (A : Around) (outer : List Env) (s : Shared) (H : Hp) (E : XK) (hr : Room (n + 50) (A.deeper (envOfC "law" (defScope (topS 43)) s.heap.objs.size f cdv))) :
    SimSs (cxOf L2.CX0 P w K mg base N_law "law" (defScope (topS 43)) f cdv A outer s H E).nox (defBody (topS 43)) (b_law (run C n) C n) := by
  have nd := (sc_law).nd
  have hu := hu_big hr
  exact simSs_cons (simS_set (i := 1) nd (caS (h.R .law_draws rfl) hr rfl (simA_cons (simE_var 0) (simA_nil)))) (simSs_cons (simS_par3 (i := 8) (j := 9) (l := 10) rfl nd (simA_cons (caS (h.R .law_sentence rfl) hr rfl (simA_cons (simE_var 1) (simA_cons (simE_int) (simA_nil)))) (simA_cons (caS (h.R .law_sentence rfl) hr rfl (simA_cons (simE_var 1) (simA_cons (simE_int) (simA_nil)))) (simA_cons (caS (h.R .law_sentence rfl) hr rfl (simA_cons (simE_var 1) (simA_cons (simE_int) (simA_nil)))) (simA_nil))))) (simSs_cons (simS_set (i := 2) nd (simE_tup (simA_cons (simE_str) (simA_nil)))) (simSs_cons (simS_set (i := 3) nd (caS (h.R .law_pick rfl) hr rfl (simA_cons (simE_var 1) (simA_cons (caP (h.R .law_forms rfl) hr rfl (simA_cons (simE_var 8) (simA_cons (simE_var 9) (simA_cons (simE_var 10) (simA_nil))))) (simA_nil))))) (simSs_cons (simS_set (i := 4) nd (caP (h.R .decide rfl) hr rfl (simA_cons (simE_tup (simA_nil)) (simA_cons (simE_var 3) (simA_nil))))) (simSs_cons (simS_if (PW.pt (simW_or (simT_ne hu (simE_ix (simE_var 4) (simE_int)) (simE_str)) (simW_or1 (simT_not (simT_val (caP (h.R .proves rfl) hr rfl (simA_cons (simE_tup (simA_nil)) (simA_cons (simE_ix (simE_var 4) (simE_int)) (simA_cons (simE_var 3) (simA_nil)))))))))) (simSs_one (simS_ret (simE_bl))) (simSs_nil)) (simSs_cons (simS_asg (S := (([11] ++ ([12] ++ [])))) (caS (h.R .law_pick rfl) hr rfl (simA_cons (simE_var 1) (simA_cons (caP (h.R .law_equal rfl) hr rfl (simA_cons (simE_var 8) (simA_cons (simE_var 9) (simA_cons (simE_var 10) (simA_nil))))) (simA_nil)))) (simG_tup rfl (simGs_cons (simG_name (i := 11) nd) (simGs_cons (simG_name (i := 12) nd) (simGs_nil))))) (simSs_cons (simS_if (PW.pt (simW_or (simT_not (simT_val (caP (h.R .is_proved rfl) hr rfl (simA_cons (simE_tup (simA_cons (simE_var 11) (simA_nil))) (simA_cons (simE_var 12) (simA_nil)))))) (simW_or1 (simT_not (simT_val (caP (h.R .is_proved rfl) hr rfl (simA_cons (simE_tup (simA_cons (simE_var 12) (simA_nil))) (simA_cons (simE_var 11) (simA_nil))))))))) (simSs_one (simS_ret (simE_bl))) (simSs_nil)) (simSs_cons (simS_set (i := 5) nd (caS (h.R .law_sentence rfl) hr rfl (simA_cons (simE_var 1) (simA_cons (simE_int) (simA_nil))))) (simSs_cons (simS_if (PW.pt (simW_or (simT_ne hu (caP (h.R .is_proved rfl) hr rfl (simA_cons (simE_tup (simA_cons (simE_var 11) (simA_nil))) (simA_cons (simE_var 5) (simA_nil)))) (caP (h.R .is_proved rfl) hr rfl (simA_cons (simE_tup (simA_cons (simE_var 12) (simA_nil))) (simA_cons (simE_var 5) (simA_nil))))) (simW_or1 (simT_ne hu (caP (h.R .is_proved rfl) hr rfl (simA_cons (simE_tup (simA_cons (simE_var 5) (simA_nil))) (simA_cons (simE_var 11) (simA_nil)))) (caP (h.R .is_proved rfl) hr rfl (simA_cons (simE_tup (simA_cons (simE_var 5) (simA_nil))) (simA_cons (simE_var 12) (simA_nil)))))))) (simSs_one (simS_ret (simE_bl))) (simSs_nil)) (simSs_cons (simS_if (PW.pt (simW_or (simT_ne hu (caP (h.R .is_proved rfl) hr rfl (simA_cons (simE_tup (simA_cons (simE_var 8) (simA_cons (simE_var 9) (simA_nil)))) (simA_cons (simE_var 5) (simA_nil)))) (caP (h.R .is_proved rfl) hr rfl (simA_cons (simE_tup (simA_cons (simE_tup (simA_cons (simE_str) (simA_cons (simE_var 8) (simA_cons (simE_var 9) (simA_nil))))) (simA_nil))) (simA_cons (simE_var 5) (simA_nil))))) (simW_or1 (simT_ne hu (caP (h.R .is_proved rfl) hr rfl (simA_cons (simE_tup (simA_cons (simE_var 8) (simA_cons (simE_var 9) (simA_nil)))) (simA_cons (simE_var 5) (simA_nil)))) (caP (h.R .is_proved rfl) hr rfl (simA_cons (simE_tup (simA_cons (simE_var 9) (simA_cons (simE_var 8) (simA_cons (simE_var 9) (simA_nil))))) (simA_cons (simE_var 5) (simA_nil)))))))) (simSs_one (simS_ret (simE_bl))) (simSs_nil)) (simSs_cons (simS_if (simT_ne hu (caP (h.R .is_proved rfl) hr rfl (simA_cons (simE_tup (simA_cons (simE_tup (simA_cons (simE_str) (simA_cons (simE_var 8) (simA_cons (simE_var 9) (simA_nil))))) (simA_nil))) (simA_cons (simE_var 5) (simA_nil)))) (simE_and (caP (h.R .is_proved rfl) hr rfl (simA_cons (simE_tup (simA_cons (simE_var 8) (simA_nil))) (simA_cons (simE_var 5) (simA_nil)))) (simE_one (caP (h.R .is_proved rfl) hr rfl (simA_cons (simE_tup (simA_cons (simE_var 9) (simA_nil))) (simA_cons (simE_var 5) (simA_nil))))))) (simSs_one (simS_ret (simE_bl))) (simSs_nil)) (simSs_cons (simS_if (PW.pt (simW_and (simT_val (caP (h.R .is_proved rfl) hr rfl (simA_cons (simE_tup (simA_cons (simE_var 8) (simA_nil))) (simA_cons (simE_var 5) (simA_nil))))) (simW_and (simT_val (caP (h.R .is_proved rfl) hr rfl (simA_cons (simE_tup (simA_cons (simE_var 5) (simA_nil))) (simA_cons (simE_var 9) (simA_nil))))) (simW_and1 (simT_not (simT_val (caP (h.R .is_proved rfl) hr rfl (simA_cons (simE_tup (simA_cons (simE_var 8) (simA_nil))) (simA_cons (simE_var 9) (simA_nil)))))))))) (simSs_one (simS_ret (simE_bl))) (simSs_nil)) (simSs_cons (simS_for (S := [6]) PassesOwn.never rfl (simI_seq (simE_tup (simA_cons (simE_tup (simA_cons (simE_str) (simA_cons (simE_str) (simA_nil)))) (simA_cons (simE_tup (simA_cons (simE_str) (simA_cons (simE_str) (simA_nil)))) (simA_nil))))) (simG_name (i := 6) nd) (simSs_one (simS_if (PW.pt (simW_or (simT_val (caP (h.R .is_proved rfl) hr rfl (simA_cons (simE_tup (simA_nil)) (simA_cons (simE_tup (simA_cons (simE_str) (simA_cons (simE_var 6) (simA_cons (simE_tup (simA_cons (simE_str) (simA_cons (simE_var 6) (simA_cons (simE_var 2) (simA_nil))))) (simA_nil))))) (simA_nil))))) (simW_or1 (simT_val (caP (h.R .is_proved rfl) hr rfl (simA_cons (simE_tup (simA_nil)) (simA_cons (simE_tup (simA_cons (simE_str) (simA_cons (simE_tup (simA_cons (simE_str) (simA_cons (simE_tup (simA_cons (simE_str) (simA_cons (simE_var 6) (simA_cons (simE_var 2) (simA_nil))))) (simA_cons (simE_var 2) (simA_nil))))) (simA_cons (simE_var 6) (simA_nil))))) (simA_nil)))))))) (simSs_one (simS_ret (simE_bl))) (simSs_nil)))) (simSs_cons (simS_set (i := 7) nd (simE_tup (simA_cons (simE_str) (simA_cons (simE_var 8) (simA_cons (simE_var 2) (simA_nil)))))) (simSs_one (simS_ret (simE_and (caP (h.R .is_proved rfl) hr rfl (simA_cons (simE_tup (simA_nil)) (simA_cons (simE_tup (simA_cons (simE_str) (simA_cons (simE_tup (simA_cons (simE_str) (simA_cons (simE_tup (simA_cons (simE_str) (simA_cons (simE_var 7) (simA_cons (simE_var 2) (simA_nil))))) (simA_cons (simE_var 2) (simA_nil))))) (simA_cons (simE_var 7) (simA_nil))))) (simA_nil)))) (simE_one (caP (h.R .is_proved rfl) hr rfl (simA_cons (simE_tup (simA_cons (simE_tup (simA_cons (simE_str) (simA_cons (simE_var 2) (simA_cons (simE_var 8) (simA_nil))))) (simA_cons (simE_tup (simA_cons (simE_str) (simA_cons (simE_var 2) (simA_cons (simE_var 9) (simA_nil))))) (simA_nil)))) (simA_cons (simE_var 9) (simA_nil))))))))))))))))))))))
end K07
end L3
end
section
set_option Elab.async false
set_option linter.all false
set_option maxRecDepth 100000
set_option maxHeartbeats 0
namespace L3
open PySem PySem.Spec PyProof.Rows L2
namespace K07
structure Txt (w : World) (K : PySem.W.Frag) (mg : Str → Option Value) (C : Addr) : Prop where
  i_Search___init__ : ∃ a fd, Fun K "__init__" "Search.__init__" (inClass (topS 10) 0) a fd ∧ L2.Mk K C a
  f_is_name : ∃ a fd, Fun K "is_name" "is_name" (topS 6) a fd ∧ mg "is_name" = some (.ref a)
  f_size_within : ∃ a fd, Fun K "size_within" "size_within" (topS 7) a fd ∧ mg "size_within" = some (.ref a)
  f_is_sentence : ∃ a fd, Fun K "is_sentence" "is_sentence" (topS 8) a fd ∧ mg "is_sentence" = some (.ref a)
  m_Search_fresh : ∃ a fd, Fun K "fresh" "Search.fresh" (inClass (topS 10) 1) a fd ∧ Meth K C "fresh" a
  m_Search_more : ∃ a fd, Fun K "more" "Search.more" (inClass (topS 10) 2) a fd ∧ Meth K C "more" a
  m_Search_without : ∃ a fd, Fun K "without" "Search.without" (inClass (topS 10) 3) a fd ∧ Meth K C "without" a
  f_solve : ∃ a fd, Fun K "solve" "solve" (topS 11) a fd ∧ mg "solve" = some (.ref a)
  f_solve_case : ∃ a fd, Fun K "solve_case" "solve_case" (topS 12) a fd ∧ mg "solve_case" = some (.ref a)
  f_solve_both : ∃ a fd, Fun K "solve_both" "solve_both" (topS 13) a fd ∧ mg "solve_both" = some (.ref a)
  f_take_atom : ∃ a fd, Fun K "take_atom" "take_atom" (topS 14) a fd ∧ mg "take_atom" = some (.ref a)
  f_take_arrow : ∃ a fd, Fun K "take_arrow" "take_arrow" (topS 15) a fd ∧ mg "take_arrow" = some (.ref a)
  f_solve_open : ∃ a fd, Fun K "solve_open" "solve_open" (topS 16) a fd ∧ mg "solve_open" = some (.ref a)
  f_solve_asked : ∃ a fd, Fun K "solve_asked" "solve_asked" (topS 17) a fd ∧ mg "solve_asked" = some (.ref a)
  f_settled : ∃ a fd, Fun K "settled" "settled" (topS 18) a fd ∧ mg "settled" = some (.ref a)
  f_decide : ∃ a fd, Fun K "decide" "decide" (topS 19) a fd ∧ mg "decide" = some (.ref a)
  f_is_proved : ∃ a fd, Fun K "is_proved" "is_proved" (topS 20) a fd ∧ mg "is_proved" = some (.ref a)
  f_is_program : ∃ a fd, FunD K "is_program" "is_program" (defArgs (topS 24)) (defBody (topS 24)) (defScope (topS 24)) [V.int 120] [] a fd ∧ mg "is_program" = some (.ref a)
  f_kind_of : ∃ a fd, Fun K "kind_of" "kind_of" (topS 25) a fd ∧ mg "kind_of" = some (.ref a)
  f_made_kind : ∃ a fd, Fun K "made_kind" "made_kind" (topS 26) a fd ∧ mg "made_kind" = some (.ref a)
  f_case_kind : ∃ a fd, Fun K "case_kind" "case_kind" (topS 27) a fd ∧ mg "case_kind" = some (.ref a)
  f_proves : ∃ a fd, Fun K "proves" "proves" (topS 28) a fd ∧ mg "proves" = some (.ref a)
  f_law_draws : ∃ a fd, Fun K "_law_draws" "_law_draws" (topS 30) a fd ∧ mg "_law_draws" = some (.ref a)
  f_law_draw : ∃ a fd, Fun K "_law_draw" "_law_draw" (topS 31) a fd ∧ mg "_law_draw" = some (.ref a)
  f_law_pick : ∃ a fd, Fun K "_law_pick" "_law_pick" (topS 32) a fd ∧ mg "_law_pick" = some (.ref a)
  f_law_atoms : ∃ a fd, Fun K "_law_atoms" "_law_atoms" (topS 34) a fd ∧ mg "_law_atoms" = some (.ref a)
  f_law_sentence : ∃ a fd, Fun K "_law_sentence" "_law_sentence" (topS 35) a fd ∧ mg "_law_sentence" = some (.ref a)
  f_law_size : ∃ a fd, Fun K "_law_size" "_law_size" (topS 36) a fd ∧ mg "_law_size" = some (.ref a)
  f_law_forms : ∃ a fd, Fun K "_law_forms" "_law_forms" (topS 41) a fd ∧ mg "_law_forms" = some (.ref a)
  f_law_equal : ∃ a fd, Fun K "_law_equal" "_law_equal" (topS 42) a fd ∧ mg "_law_equal" = some (.ref a)
  f_law : ∃ a fd, Fun K "law" "law" (topS 43) a fd ∧ mg "law" = some (.ref a)
  cls : Cls K C
  gC : mg "Search" = some (.ref C)
  a_names : NoAttr K C "names"
  a_facts : NoAttr K C "facts"
  a_arrows : NoAttr K C "arrows"
  a_todo : NoAttr K C "todo"
  z_all : mg "all" = none
  z_bool : mg "bool" = none
  z_dict : mg "dict" = none
  z_enumerate : mg "enumerate" = none
  z_int : mg "int" = none
  z_isinstance : mg "isinstance" = none
  z_len : mg "len" = none
  z_list : mg "list" = none
  z_sorted : mg "sorted" = none
  z_str : mg "str" = none
  z_sum : mg "sum" = none
  z_tuple : mg "tuple" = none
  z_zip : mg "zip" = none
  g_SMALL : Glo K mg "SMALL" (.str "abcdefghijklmnopqrstuvwxyz")
  g_FIGURES : Glo K mg "FIGURES" (.str "0123456789")
  g_MOST_SIGNS : Glo K mg "MOST_SIGNS" (.int 12)
  g_MOST_SIZE : Glo K mg "MOST_SIZE" (.int 60)
  g_FALSE : Glo K mg "FALSE" (.tup [.str "false"])
  k_SHAPES : KGlo K w mg "SHAPES" (shapeP tab_SHAPES)
variable {P : Program} {w : World} {K : PySem.W.Frag} {mg : Str → Option Value} {base : Heap} {C : Addr}
theorem hyp (t : Txt w K mg C) : Hyp P w K mg base C := ⟨t.z_all, t.z_bool, t.z_dict, t.z_enumerate, t.z_int, t.z_isinstance, t.z_len, t.z_list, t.z_sorted, t.z_str, t.z_sum, t.z_tuple, t.z_zip, t.g_SMALL, t.g_FIGURES, t.g_MOST_SIGNS, t.g_MOST_SIZE, t.g_FALSE, t.k_SHAPES, t.cls, t.a_names, t.a_facts, t.a_arrows, t.a_todo⟩
theorem mk_init (t : Txt w K mg C) : Mak P w K mg base 1 "Search" C (g_init C) := by
  obtain ⟨a, fd, F, M⟩ := t.i_Search___init__
  have H0 : Hyp P w K mg base C := hyp t
  exact ⟨a, fd, _, M, fn_prom (k := 0) F sc_Search___init__ (fun cdv A outer s H E hr => t_Search___init__ (R := fun _ _ _ => none) (n := 0) H0 cdv A outer s H E hr), t.gC, F.binds (fun _ _ _ _ _ _ us hl => match us, hl with | [_, _, _, _, _], _ => rfl)⟩
theorem p_is_name (t : Txt w K mg C) {n : Nat} (h : HypR P w K mg base C n) : Cal P w K mg base (n + 1 + 50) "is_name" (run C (n + 1) .is_name) := by
  obtain ⟨a, fd, F, M⟩ := t.f_is_name
  have R : FnR P w K mg base L2.CX0 (n + 1 + 50) a (spF K (run C (n + 1) .is_name)) := fn_raw0 (fn_prom (k := n + 50) F sc_is_name (fun cdv A outer s H E hr => t_is_name h cdv A outer s H E hr)) (F.binds (fun _ _ _ _ _ _ us hl => match us, hl with | [_], _ => rfl))
  exact cal_of R M F.kp
theorem p_size_within (t : Txt w K mg C) {n : Nat} (h : HypR P w K mg base C n) : Cal P w K mg base (n + 1 + 50) "size_within" (run C (n + 1) .size_within) := by
  obtain ⟨a, fd, F, M⟩ := t.f_size_within
  have R : FnR P w K mg base L2.CX0 (n + 1 + 50) a (spF K (run C (n + 1) .size_within)) := fn_raw0 (fn_prom (k := n + 50) F sc_size_within (fun cdv A outer s H E hr => t_size_within h cdv A outer s H E hr)) (F.binds (fun _ _ _ _ _ _ us hl => match us, hl with | [_, _], _ => rfl))
  exact cal_of R M F.kp
theorem p_is_sentence (t : Txt w K mg C) {n : Nat} (h : HypR P w K mg base C n) : Cal P w K mg base (n + 1 + 50) "is_sentence" (run C (n + 1) .is_sentence) := by
  obtain ⟨a, fd, F, M⟩ := t.f_is_sentence
  have R : FnR P w K mg base L2.CX0 (n + 1 + 50) a (spF K (run C (n + 1) .is_sentence)) := fn_raw0 (fn_prom (k := n + 50) F sc_is_sentence (fun cdv A outer s H E hr => t_is_sentence h cdv A outer s H E hr)) (F.binds (fun _ _ _ _ _ _ us hl => match us, hl with | [_], _ => rfl))
  exact cal_of R M F.kp
theorem p_Search_fresh (t : Txt w K mg C) {n : Nat} (h : HypR P w K mg base C n) : Met P w K mg base (n + 1 + 50) C "fresh" (run C (n + 1) .Search_fresh) := by
  obtain ⟨a, fd, F, M⟩ := t.m_Search_fresh
  have R : FnR P w K mg base L2.CX0 (n + 1 + 50) a (spF K (run C (n + 1) .Search_fresh)) := fn_raw0 (fn_prom (k := n + 50) F sc_Search_fresh (fun cdv A outer s H E hr => t_Search_fresh h cdv A outer s H E hr)) (F.binds (fun _ _ _ _ _ _ us hl => match us, hl with | [_], _ => rfl))
  exact met_of R t.cls M
theorem p_Search_more (t : Txt w K mg C) {n : Nat} (h : HypR P w K mg base C n) : Met P w K mg base (n + 1 + 50) C "more" (run C (n + 1) .Search_more) := by
  obtain ⟨a, fd, F, M⟩ := t.m_Search_more
  have R : FnR P w K mg base L2.CX0 (n + 1 + 50) a (spF K (run C (n + 1) .Search_more)) := fnV_prom (k := n + 50) (nmax := 5) F sc_Search_more (by decide) (fun _ _ _ _ _ _ _ rest _ => match rest with | [] => rfl | _ :: _ => rfl) (fun cdv A outer s H E hr => t_Search_more h cdv A outer s H E hr)
  exact met_of R t.cls M
theorem p_Search_without (t : Txt w K mg C) {n : Nat} (h : HypR P w K mg base C n) : Met P w K mg base (n + 1 + 50) C "without" (run C (n + 1) .Search_without) := by
  obtain ⟨a, fd, F, M⟩ := t.m_Search_without
  have R : FnR P w K mg base L2.CX0 (n + 1 + 50) a (spF K (run C (n + 1) .Search_without)) := fn_raw0 (fn_prom (k := n + 50) F sc_Search_without (fun cdv A outer s H E hr => t_Search_without h cdv A outer s H E hr)) (F.binds (fun _ _ _ _ _ _ us hl => match us, hl with | [_, _], _ => rfl))
  exact met_of R t.cls M
theorem p_solve (t : Txt w K mg C) {n : Nat} (h : HypR P w K mg base C n) : Cal P w K mg base (n + 1 + 50) "solve" (run C (n + 1) .solve) := by
  obtain ⟨a, fd, F, M⟩ := t.f_solve
  have R : FnR P w K mg base L2.CX0 (n + 1 + 50) a (spF K (run C (n + 1) .solve)) := fn_raw0 (fn_prom (k := n + 50) F sc_solve (fun cdv A outer s H E hr => t_solve h cdv A outer s H E hr)) (F.binds (fun _ _ _ _ _ _ us hl => match us, hl with | [_, _], _ => rfl))
  exact cal_of R M F.kp
theorem p_solve_case (t : Txt w K mg C) {n : Nat} (h : HypR P w K mg base C n) : Cal P w K mg base (n + 1 + 50) "solve_case" (run C (n + 1) .solve_case) := by
  obtain ⟨a, fd, F, M⟩ := t.f_solve_case
  have R : FnR P w K mg base L2.CX0 (n + 1 + 50) a (spF K (run C (n + 1) .solve_case)) := fn_raw0 (fn_prom (k := n + 50) F sc_solve_case (fun cdv A outer s H E hr => t_solve_case h cdv A outer s H E hr)) (F.binds (fun _ _ _ _ _ _ us hl => match us, hl with | [_, _, _, _], _ => rfl))
  exact cal_of R M F.kp
theorem p_solve_both (t : Txt w K mg C) {n : Nat} (h : HypR P w K mg base C n) : Cal P w K mg base (n + 1 + 50) "solve_both" (run C (n + 1) .solve_both) := by
  obtain ⟨a, fd, F, M⟩ := t.f_solve_both
  have R : FnR P w K mg base L2.CX0 (n + 1 + 50) a (spF K (run C (n + 1) .solve_both)) := fn_raw0 (fn_prom (k := n + 50) F sc_solve_both (fun cdv A outer s H E hr => t_solve_both h cdv A outer s H E hr)) (F.binds (fun _ _ _ _ _ _ us hl => match us, hl with | [_, _], _ => rfl))
  exact cal_of R M F.kp
theorem p_take_atom (t : Txt w K mg C) {n : Nat} (h : HypR P w K mg base C n) : Cal P w K mg base (n + 1 + 50) "take_atom" (run C (n + 1) .take_atom) := by
  obtain ⟨a, fd, F, M⟩ := t.f_take_atom
  have R : FnR P w K mg base L2.CX0 (n + 1 + 50) a (spF K (run C (n + 1) .take_atom)) := fn_raw0 (fn_prom (k := n + 50) F sc_take_atom (fun cdv A outer s H E hr => t_take_atom h cdv A outer s H E hr)) (F.binds (fun _ _ _ _ _ _ us hl => match us, hl with | [_, _, _], _ => rfl))
  exact cal_of R M F.kp
theorem p_take_arrow (t : Txt w K mg C) {n : Nat} (h : HypR P w K mg base C n) : Cal P w K mg base (n + 1 + 50) "take_arrow" (run C (n + 1) .take_arrow) := by
  obtain ⟨a, fd, F, M⟩ := t.f_take_arrow
  have R : FnR P w K mg base L2.CX0 (n + 1 + 50) a (spF K (run C (n + 1) .take_arrow)) := fn_raw0 (fn_prom (k := n + 50) F sc_take_arrow (fun cdv A outer s H E hr => t_take_arrow h cdv A outer s H E hr)) (F.binds (fun _ _ _ _ _ _ us hl => match us, hl with | [_, _, _], _ => rfl))
  exact cal_of R M F.kp
theorem p_solve_open (t : Txt w K mg C) {n : Nat} (h : HypR P w K mg base C n) : Cal P w K mg base (n + 1 + 50) "solve_open" (run C (n + 1) .solve_open) := by
  obtain ⟨a, fd, F, M⟩ := t.f_solve_open
  have R : FnR P w K mg base L2.CX0 (n + 1 + 50) a (spF K (run C (n + 1) .solve_open)) := fn_raw0 (fn_prom (k := n + 50) F sc_solve_open (fun cdv A outer s H E hr => t_solve_open h cdv A outer s H E hr)) (F.binds (fun _ _ _ _ _ _ us hl => match us, hl with | [_, _], _ => rfl))
  exact cal_of R M F.kp
theorem p_solve_asked (t : Txt w K mg C) {n : Nat} (h : HypR P w K mg base C n) : Cal P w K mg base (n + 1 + 50) "solve_asked" (run C (n + 1) .solve_asked) := by
  obtain ⟨a, fd, F, M⟩ := t.f_solve_asked
  have R : FnR P w K mg base L2.CX0 (n + 1 + 50) a (spF K (run C (n + 1) .solve_asked)) := fn_raw0 (fn_prom (k := n + 50) F sc_solve_asked (fun cdv A outer s H E hr => t_solve_asked h cdv A outer s H E hr)) (F.binds (fun _ _ _ _ _ _ us hl => match us, hl with | [_, _, _, _], _ => rfl))
  exact cal_of R M F.kp
theorem p_settled (t : Txt w K mg C) {n : Nat} (h : HypR P w K mg base C n) : Cal P w K mg base (n + 1 + 50) "settled" (run C (n + 1) .settled) := by
  obtain ⟨a, fd, F, M⟩ := t.f_settled
  have R : FnR P w K mg base L2.CX0 (n + 1 + 50) a (spF K (run C (n + 1) .settled)) := fn_raw0 (fn_prom (k := n + 50) F sc_settled (fun cdv A outer s H E hr => t_settled h cdv A outer s H E hr)) (F.binds (fun _ _ _ _ _ _ us hl => match us, hl with | [_, _], _ => rfl))
  exact cal_of R M F.kp
theorem p_decide (t : Txt w K mg C) {n : Nat} (h : HypR P w K mg base C n) : Cal P w K mg base (n + 1 + 50) "decide" (run C (n + 1) .decide) := by
  obtain ⟨a, fd, F, M⟩ := t.f_decide
  have R : FnR P w K mg base L2.CX0 (n + 1 + 50) a (spF K (run C (n + 1) .decide)) := fn_raw0 (fn_prom (k := n + 50) F sc_decide (fun cdv A outer s H E hr => t_decide h cdv A outer s H E hr)) (F.binds (fun _ _ _ _ _ _ us hl => match us, hl with | [_, _], _ => rfl))
  exact cal_of R M F.kp
theorem p_is_proved (t : Txt w K mg C) {n : Nat} (h : HypR P w K mg base C n) : Cal P w K mg base (n + 1 + 50) "is_proved" (run C (n + 1) .is_proved) := by
  obtain ⟨a, fd, F, M⟩ := t.f_is_proved
  have R : FnR P w K mg base L2.CX0 (n + 1 + 50) a (spF K (run C (n + 1) .is_proved)) := fn_raw0 (fn_prom (k := n + 50) F sc_is_proved (fun cdv A outer s H E hr => t_is_proved h cdv A outer s H E hr)) (F.binds (fun _ _ _ _ _ _ us hl => match us, hl with | [_, _], _ => rfl))
  exact cal_of R M F.kp
theorem p_is_program (t : Txt w K mg C) {n : Nat} (h : HypR P w K mg base C n) : Cal P w K mg base (n + 1 + 50) "is_program" (run C (n + 1) .is_program) := by
  obtain ⟨a, fd, F, M⟩ := t.f_is_program
  have O := fn_promD (P := P) (w := w) (mg := mg) (base := base) (k := n + 50) F sc_is_program (fun cdv A outer s H E hr => t_is_program h cdv A outer s H E hr)
  obtain ⟨ds, hv, hb⟩ := FunD.binds1 (ps := ["value", "depth"]) F 1 0 (by decide) rfl fun T kV doc pm an cdv ct us its hl hd => match us, hl, its, hd with | [_], _, [_], _ => ⟨_, rfl, rfl⟩
  obtain ⟨ds2, hv2, hb2⟩ := FunD.binds1 (ps := ["value", "depth"]) F 2 1 (by decide) rfl fun T kV doc pm an cdv ct us its hl hd => match us, hl, its, hd with | [_, _], _, [_], _ => ⟨_, rfl, rfl⟩
  cases hv2
  have R : FnR P w K mg base L2.CX0 (n + 1 + 50) a (spF K (run C (n + 1) .is_program)) := fnR_ite (m := 1) (fn_raw (dps := [.int 120]) O hb hv fun _ _ _ => .cons (.int 120) .nil) (fn_raw0 O hb2)
  exact cal_of R M F.kp
theorem p_kind_of (t : Txt w K mg C) {n : Nat} (h : HypR P w K mg base C n) : Cal P w K mg base (n + 1 + 50) "kind_of" (run C (n + 1) .kind_of) := by
  obtain ⟨a, fd, F, M⟩ := t.f_kind_of
  have R : FnR P w K mg base L2.CX0 (n + 1 + 50) a (spF K (run C (n + 1) .kind_of)) := fn_raw0 (fn_prom (k := n + 50) F sc_kind_of (fun cdv A outer s H E hr => t_kind_of h cdv A outer s H E hr)) (F.binds (fun _ _ _ _ _ _ us hl => match us, hl with | [_, _], _ => rfl))
  exact cal_of R M F.kp
theorem p_made_kind (t : Txt w K mg C) {n : Nat} (h : HypR P w K mg base C n) : Cal P w K mg base (n + 1 + 50) "made_kind" (run C (n + 1) .made_kind) := by
  obtain ⟨a, fd, F, M⟩ := t.f_made_kind
  have R : FnR P w K mg base L2.CX0 (n + 1 + 50) a (spF K (run C (n + 1) .made_kind)) := fn_raw0 (fn_prom (k := n + 50) F sc_made_kind (fun cdv A outer s H E hr => t_made_kind h cdv A outer s H E hr)) (F.binds (fun _ _ _ _ _ _ us hl => match us, hl with | [_, _, _], _ => rfl))
  exact cal_of R M F.kp
theorem p_case_kind (t : Txt w K mg C) {n : Nat} (h : HypR P w K mg base C n) : Cal P w K mg base (n + 1 + 50) "case_kind" (run C (n + 1) .case_kind) := by
  obtain ⟨a, fd, F, M⟩ := t.f_case_kind
  have R : FnR P w K mg base L2.CX0 (n + 1 + 50) a (spF K (run C (n + 1) .case_kind)) := fn_raw0 (fn_prom (k := n + 50) F sc_case_kind (fun cdv A outer s H E hr => t_case_kind h cdv A outer s H E hr)) (F.binds (fun _ _ _ _ _ _ us hl => match us, hl with | [_, _], _ => rfl))
  exact cal_of R M F.kp
theorem p_proves (t : Txt w K mg C) {n : Nat} (h : HypR P w K mg base C n) : Cal P w K mg base (n + 1 + 50) "proves" (run C (n + 1) .proves) := by
  obtain ⟨a, fd, F, M⟩ := t.f_proves
  have R : FnR P w K mg base L2.CX0 (n + 1 + 50) a (spF K (run C (n + 1) .proves)) := fn_raw0 (fn_prom (k := n + 50) F sc_proves (fun cdv A outer s H E hr => t_proves h cdv A outer s H E hr)) (F.binds (fun _ _ _ _ _ _ us hl => match us, hl with | [_, _, _], _ => rfl))
  exact cal_of R M F.kp
theorem p_law_draws (t : Txt w K mg C) {n : Nat} (h : HypR P w K mg base C n) : Cal P w K mg base (n + 1 + 50) "_law_draws" (run C (n + 1) .law_draws) := by
  obtain ⟨a, fd, F, M⟩ := t.f_law_draws
  have R : FnR P w K mg base L2.CX0 (n + 1 + 50) a (spF K (run C (n + 1) .law_draws)) := fn_raw0 (fn_prom (k := n + 50) F sc_law_draws (fun cdv A outer s H E hr => t_law_draws h cdv A outer s H E hr)) (F.binds (fun _ _ _ _ _ _ us hl => match us, hl with | [_], _ => rfl))
  exact cal_of R M F.kp
theorem p_law_draw (t : Txt w K mg C) {n : Nat} (h : HypR P w K mg base C n) : Cal P w K mg base (n + 1 + 50) "_law_draw" (run C (n + 1) .law_draw) := by
  obtain ⟨a, fd, F, M⟩ := t.f_law_draw
  have R : FnR P w K mg base L2.CX0 (n + 1 + 50) a (spF K (run C (n + 1) .law_draw)) := fn_raw0 (fn_prom (k := n + 50) F sc_law_draw (fun cdv A outer s H E hr => t_law_draw h cdv A outer s H E hr)) (F.binds (fun _ _ _ _ _ _ us hl => match us, hl with | [_, _], _ => rfl))
  exact cal_of R M F.kp
theorem p_law_pick (t : Txt w K mg C) {n : Nat} (h : HypR P w K mg base C n) : Cal P w K mg base (n + 1 + 50) "_law_pick" (run C (n + 1) .law_pick) := by
  obtain ⟨a, fd, F, M⟩ := t.f_law_pick
  have R : FnR P w K mg base L2.CX0 (n + 1 + 50) a (spF K (run C (n + 1) .law_pick)) := fn_raw0 (fn_prom (k := n + 50) F sc_law_pick (fun cdv A outer s H E hr => t_law_pick h cdv A outer s H E hr)) (F.binds (fun _ _ _ _ _ _ us hl => match us, hl with | [_, _], _ => rfl))
  exact cal_of R M F.kp
theorem p_law_atoms (t : Txt w K mg C) {n : Nat} (h : HypR P w K mg base C n) : Cal P w K mg base (n + 1 + 50) "_law_atoms" (run C (n + 1) .law_atoms) := by
  obtain ⟨a, fd, F, M⟩ := t.f_law_atoms
  have R : FnR P w K mg base L2.CX0 (n + 1 + 50) a (spF K (run C (n + 1) .law_atoms)) := fn_raw0 (fn_prom (k := n + 50) F sc_law_atoms (fun cdv A outer s H E hr => t_law_atoms h cdv A outer s H E hr)) (F.binds (fun _ _ _ _ _ _ us hl => match us, hl with | [], _ => rfl))
  exact cal_of R M F.kp
theorem p_law_sentence (t : Txt w K mg C) {n : Nat} (h : HypR P w K mg base C n) : Cal P w K mg base (n + 1 + 50) "_law_sentence" (run C (n + 1) .law_sentence) := by
  obtain ⟨a, fd, F, M⟩ := t.f_law_sentence
  have R : FnR P w K mg base L2.CX0 (n + 1 + 50) a (spF K (run C (n + 1) .law_sentence)) := fn_raw0 (fn_prom (k := n + 50) F sc_law_sentence (fun cdv A outer s H E hr => t_law_sentence h cdv A outer s H E hr)) (F.binds (fun _ _ _ _ _ _ us hl => match us, hl with | [_, _], _ => rfl))
  exact cal_of R M F.kp
theorem p_law_size (t : Txt w K mg C) {n : Nat} (h : HypR P w K mg base C n) : Cal P w K mg base (n + 1 + 50) "_law_size" (run C (n + 1) .law_size) := by
  obtain ⟨a, fd, F, M⟩ := t.f_law_size
  have R : FnR P w K mg base L2.CX0 (n + 1 + 50) a (spF K (run C (n + 1) .law_size)) := fn_raw0 (fn_prom (k := n + 50) F sc_law_size (fun cdv A outer s H E hr => t_law_size h cdv A outer s H E hr)) (F.binds (fun _ _ _ _ _ _ us hl => match us, hl with | [_], _ => rfl))
  exact cal_of R M F.kp
theorem p_law_forms (t : Txt w K mg C) {n : Nat} (h : HypR P w K mg base C n) : Cal P w K mg base (n + 1 + 50) "_law_forms" (run C (n + 1) .law_forms) := by
  obtain ⟨a, fd, F, M⟩ := t.f_law_forms
  have R : FnR P w K mg base L2.CX0 (n + 1 + 50) a (spF K (run C (n + 1) .law_forms)) := fn_raw0 (fn_prom (k := n + 50) F sc_law_forms (fun cdv A outer s H E hr => t_law_forms h cdv A outer s H E hr)) (F.binds (fun _ _ _ _ _ _ us hl => match us, hl with | [_, _, _], _ => rfl))
  exact cal_of R M F.kp
theorem p_law_equal (t : Txt w K mg C) {n : Nat} (h : HypR P w K mg base C n) : Cal P w K mg base (n + 1 + 50) "_law_equal" (run C (n + 1) .law_equal) := by
  obtain ⟨a, fd, F, M⟩ := t.f_law_equal
  have R : FnR P w K mg base L2.CX0 (n + 1 + 50) a (spF K (run C (n + 1) .law_equal)) := fn_raw0 (fn_prom (k := n + 50) F sc_law_equal (fun cdv A outer s H E hr => t_law_equal h cdv A outer s H E hr)) (F.binds (fun _ _ _ _ _ _ us hl => match us, hl with | [_, _, _], _ => rfl))
  exact cal_of R M F.kp
theorem p_law (t : Txt w K mg C) {n : Nat} (h : HypR P w K mg base C n) : Cal P w K mg base (n + 1 + 50) "law" (run C (n + 1) .law) := by
  obtain ⟨a, fd, F, M⟩ := t.f_law
  have R : FnR P w K mg base L2.CX0 (n + 1 + 50) a (spF K (run C (n + 1) .law)) := fn_raw0 (fn_prom (k := n + 50) F sc_law (fun cdv A outer s H E hr => t_law h cdv A outer s H E hr)) (F.binds (fun _ _ _ _ _ _ us hl => match us, hl with | [_], _ => rfl))
  exact cal_of R M F.kp
theorem all (t : Txt w K mg C) : ∀ n : Nat, HypR P w K mg base C n
  | 0 => { hyp (P := P) (base := base) t with
    R := fun f hf => by
      cases f
      · obtain ⟨a, fd, F, M⟩ := t.f_is_name; exact cal_of fn_none M F.kp
      · obtain ⟨a, fd, F, M⟩ := t.f_size_within; exact cal_of fn_none M F.kp
      · obtain ⟨a, fd, F, M⟩ := t.f_is_sentence; exact cal_of fn_none M F.kp
      · cases hf
      · cases hf
      · cases hf
      · obtain ⟨a, fd, F, M⟩ := t.f_solve; exact cal_of fn_none M F.kp
      · obtain ⟨a, fd, F, M⟩ := t.f_solve_case; exact cal_of fn_none M F.kp
      · obtain ⟨a, fd, F, M⟩ := t.f_solve_both; exact cal_of fn_none M F.kp
      · obtain ⟨a, fd, F, M⟩ := t.f_take_atom; exact cal_of fn_none M F.kp
      · obtain ⟨a, fd, F, M⟩ := t.f_take_arrow; exact cal_of fn_none M F.kp
      · obtain ⟨a, fd, F, M⟩ := t.f_solve_open; exact cal_of fn_none M F.kp
      · obtain ⟨a, fd, F, M⟩ := t.f_solve_asked; exact cal_of fn_none M F.kp
      · obtain ⟨a, fd, F, M⟩ := t.f_settled; exact cal_of fn_none M F.kp
      · obtain ⟨a, fd, F, M⟩ := t.f_decide; exact cal_of fn_none M F.kp
      · obtain ⟨a, fd, F, M⟩ := t.f_is_proved; exact cal_of fn_none M F.kp
      · obtain ⟨a, fd, F, M⟩ := t.f_is_program; exact cal_of fn_none M F.kp
      · obtain ⟨a, fd, F, M⟩ := t.f_kind_of; exact cal_of fn_none M F.kp
      · obtain ⟨a, fd, F, M⟩ := t.f_made_kind; exact cal_of fn_none M F.kp
      · obtain ⟨a, fd, F, M⟩ := t.f_case_kind; exact cal_of fn_none M F.kp
      · obtain ⟨a, fd, F, M⟩ := t.f_proves; exact cal_of fn_none M F.kp
      · obtain ⟨a, fd, F, M⟩ := t.f_law_draws; exact cal_of fn_none M F.kp
      · obtain ⟨a, fd, F, M⟩ := t.f_law_draw; exact cal_of fn_none M F.kp
      · obtain ⟨a, fd, F, M⟩ := t.f_law_pick; exact cal_of fn_none M F.kp
      · obtain ⟨a, fd, F, M⟩ := t.f_law_atoms; exact cal_of fn_none M F.kp
      · obtain ⟨a, fd, F, M⟩ := t.f_law_sentence; exact cal_of fn_none M F.kp
      · obtain ⟨a, fd, F, M⟩ := t.f_law_size; exact cal_of fn_none M F.kp
      · obtain ⟨a, fd, F, M⟩ := t.f_law_forms; exact cal_of fn_none M F.kp
      · obtain ⟨a, fd, F, M⟩ := t.f_law_equal; exact cal_of fn_none M F.kp
      · obtain ⟨a, fd, F, M⟩ := t.f_law; exact cal_of fn_none M F.kp
    m_Search_fresh := by obtain ⟨a, fd, F, M⟩ := t.m_Search_fresh; exact met_of fn_none t.cls M
    m_Search_more := by obtain ⟨a, fd, F, M⟩ := t.m_Search_more; exact met_of fn_none t.cls M
    m_Search_without := by obtain ⟨a, fd, F, M⟩ := t.m_Search_without; exact met_of fn_none t.cls M
    mkk := mk_init t }
  | n + 1 => { hyp (P := P) (base := base) t with
    R := fun f hf => by
      cases f
      · exact p_is_name t (all t n)
      · exact p_size_within t (all t n)
      · exact p_is_sentence t (all t n)
      · cases hf
      · cases hf
      · cases hf
      · exact p_solve t (all t n)
      · exact p_solve_case t (all t n)
      · exact p_solve_both t (all t n)
      · exact p_take_atom t (all t n)
      · exact p_take_arrow t (all t n)
      · exact p_solve_open t (all t n)
      · exact p_solve_asked t (all t n)
      · exact p_settled t (all t n)
      · exact p_decide t (all t n)
      · exact p_is_proved t (all t n)
      · exact p_is_program t (all t n)
      · exact p_kind_of t (all t n)
      · exact p_made_kind t (all t n)
      · exact p_case_kind t (all t n)
      · exact p_proves t (all t n)
      · exact p_law_draws t (all t n)
      · exact p_law_draw t (all t n)
      · exact p_law_pick t (all t n)
      · exact p_law_atoms t (all t n)
      · exact p_law_sentence t (all t n)
      · exact p_law_size t (all t n)
      · exact p_law_forms t (all t n)
      · exact p_law_equal t (all t n)
      · exact p_law t (all t n)
    m_Search_fresh := p_Search_fresh t (all t n)
    m_Search_more := p_Search_more t (all t n)
    m_Search_without := p_Search_without t (all t n)
    mkk := mk_init t }
theorem law_ok (t : Txt w K mg C) (n : Nat) {fa : Addr} (hfa : mg "law" = some (.ref fa)) : ∃ fd : FuncData, (∀ (s : Shared) (v : Value), BindsTo s fd ⟨[v], []⟩ [("script", v)]) ∧ ∀ base : Heap, FnOk P w K mg base L2.CX0 (n + 1 + 50) fa fd ["script"] (spF K (run C (n + 1) .law)) := by
  obtain ⟨a, fd, F, M⟩ := t.f_law
  rw [hfa] at M
  cases M
  refine ⟨fd, fun s v => ?_, fun base => fn_prom (k := n + 50) F sc_law (fun cdv A outer s H E hr => t_law (all t n) cdv A outer s H E hr)⟩
  obtain ⟨oc, od, kV, doc, pm, an, cdv, ct, osl, rfl, _, _⟩ := F.ex
  exact .of_eq rfl
theorem txt_mk {h : Heap} (X : K.In h) (G : h.Ns mainGlobals mg)
    {gt_SMALL : Tok}
    {gt_FIGURES : Tok}
    {gt_MOST_SIGNS : Tok}
    {gt_MOST_SIZE : Tok}
    {gT_FALSE : Addr} {god_FALSE : Option Addr} {gn_FALSE : Nat} {gsl_FALSE : Array (Option Value)} {gtk_FALSE : Tok}
    {kd_SHAPES : Addr} {kes_SHAPES : Array DictEntry} {kn_SHAPES : Nat}
    {f_Search___init__ : Addr} {oc_Search___init__ kV_Search___init__ dc_Search___init__ pm_Search___init__ cd_Search___init__ ct_Search___init__ : Value} {od_Search___init__ an_Search___init__ : Option Addr} {sl_Search___init__ : Array (Option Value)}
    {f_is_name : Addr} {oc_is_name kV_is_name dc_is_name pm_is_name cd_is_name ct_is_name : Value} {od_is_name an_is_name : Option Addr} {sl_is_name : Array (Option Value)}
    {f_size_within : Addr} {oc_size_within kV_size_within dc_size_within pm_size_within cd_size_within ct_size_within : Value} {od_size_within an_size_within : Option Addr} {sl_size_within : Array (Option Value)}
    {f_is_sentence : Addr} {oc_is_sentence kV_is_sentence dc_is_sentence pm_is_sentence cd_is_sentence ct_is_sentence : Value} {od_is_sentence an_is_sentence : Option Addr} {sl_is_sentence : Array (Option Value)}
    {f_Search_fresh : Addr} {oc_Search_fresh kV_Search_fresh dc_Search_fresh pm_Search_fresh cd_Search_fresh ct_Search_fresh : Value} {od_Search_fresh an_Search_fresh : Option Addr} {sl_Search_fresh : Array (Option Value)}
    {f_Search_more : Addr} {oc_Search_more kV_Search_more dc_Search_more pm_Search_more cd_Search_more ct_Search_more : Value} {od_Search_more an_Search_more : Option Addr} {sl_Search_more : Array (Option Value)}
    {f_Search_without : Addr} {oc_Search_without kV_Search_without dc_Search_without pm_Search_without cd_Search_without ct_Search_without : Value} {od_Search_without an_Search_without : Option Addr} {sl_Search_without : Array (Option Value)}
    {f_solve : Addr} {oc_solve kV_solve dc_solve pm_solve cd_solve ct_solve : Value} {od_solve an_solve : Option Addr} {sl_solve : Array (Option Value)}
    {f_solve_case : Addr} {oc_solve_case kV_solve_case dc_solve_case pm_solve_case cd_solve_case ct_solve_case : Value} {od_solve_case an_solve_case : Option Addr} {sl_solve_case : Array (Option Value)}
    {f_solve_both : Addr} {oc_solve_both kV_solve_both dc_solve_both pm_solve_both cd_solve_both ct_solve_both : Value} {od_solve_both an_solve_both : Option Addr} {sl_solve_both : Array (Option Value)}
    {f_take_atom : Addr} {oc_take_atom kV_take_atom dc_take_atom pm_take_atom cd_take_atom ct_take_atom : Value} {od_take_atom an_take_atom : Option Addr} {sl_take_atom : Array (Option Value)}
    {f_take_arrow : Addr} {oc_take_arrow kV_take_arrow dc_take_arrow pm_take_arrow cd_take_arrow ct_take_arrow : Value} {od_take_arrow an_take_arrow : Option Addr} {sl_take_arrow : Array (Option Value)}
    {f_solve_open : Addr} {oc_solve_open kV_solve_open dc_solve_open pm_solve_open cd_solve_open ct_solve_open : Value} {od_solve_open an_solve_open : Option Addr} {sl_solve_open : Array (Option Value)}
    {f_solve_asked : Addr} {oc_solve_asked kV_solve_asked dc_solve_asked pm_solve_asked cd_solve_asked ct_solve_asked : Value} {od_solve_asked an_solve_asked : Option Addr} {sl_solve_asked : Array (Option Value)}
    {f_settled : Addr} {oc_settled kV_settled dc_settled pm_settled cd_settled ct_settled : Value} {od_settled an_settled : Option Addr} {sl_settled : Array (Option Value)}
    {f_decide : Addr} {oc_decide kV_decide dc_decide pm_decide cd_decide ct_decide : Value} {od_decide an_decide : Option Addr} {sl_decide : Array (Option Value)}
    {f_is_proved : Addr} {oc_is_proved kV_is_proved dc_is_proved pm_is_proved cd_is_proved ct_is_proved : Value} {od_is_proved an_is_proved : Option Addr} {sl_is_proved : Array (Option Value)}
    {f_is_program : Addr} {oc_is_program kV_is_program dc_is_program pm_is_program cd_is_program ct_is_program : Value} {od_is_program an_is_program : Option Addr} {sl_is_program : Array (Option Value)}
    {T_is_program : Addr} {td_is_program : Option Addr} {tt_is_program : Tok} {tn_is_program : Nat} {ts_is_program : Array (Option Value)}
    {f_kind_of : Addr} {oc_kind_of kV_kind_of dc_kind_of pm_kind_of cd_kind_of ct_kind_of : Value} {od_kind_of an_kind_of : Option Addr} {sl_kind_of : Array (Option Value)}
    {f_made_kind : Addr} {oc_made_kind kV_made_kind dc_made_kind pm_made_kind cd_made_kind ct_made_kind : Value} {od_made_kind an_made_kind : Option Addr} {sl_made_kind : Array (Option Value)}
    {f_case_kind : Addr} {oc_case_kind kV_case_kind dc_case_kind pm_case_kind cd_case_kind ct_case_kind : Value} {od_case_kind an_case_kind : Option Addr} {sl_case_kind : Array (Option Value)}
    {f_proves : Addr} {oc_proves kV_proves dc_proves pm_proves cd_proves ct_proves : Value} {od_proves an_proves : Option Addr} {sl_proves : Array (Option Value)}
    {f_law_draws : Addr} {oc_law_draws kV_law_draws dc_law_draws pm_law_draws cd_law_draws ct_law_draws : Value} {od_law_draws an_law_draws : Option Addr} {sl_law_draws : Array (Option Value)}
    {f_law_draw : Addr} {oc_law_draw kV_law_draw dc_law_draw pm_law_draw cd_law_draw ct_law_draw : Value} {od_law_draw an_law_draw : Option Addr} {sl_law_draw : Array (Option Value)}
    {f_law_pick : Addr} {oc_law_pick kV_law_pick dc_law_pick pm_law_pick cd_law_pick ct_law_pick : Value} {od_law_pick an_law_pick : Option Addr} {sl_law_pick : Array (Option Value)}
    {f_law_atoms : Addr} {oc_law_atoms kV_law_atoms dc_law_atoms pm_law_atoms cd_law_atoms ct_law_atoms : Value} {od_law_atoms an_law_atoms : Option Addr} {sl_law_atoms : Array (Option Value)}
    {f_law_sentence : Addr} {oc_law_sentence kV_law_sentence dc_law_sentence pm_law_sentence cd_law_sentence ct_law_sentence : Value} {od_law_sentence an_law_sentence : Option Addr} {sl_law_sentence : Array (Option Value)}
    {f_law_size : Addr} {oc_law_size kV_law_size dc_law_size pm_law_size cd_law_size ct_law_size : Value} {od_law_size an_law_size : Option Addr} {sl_law_size : Array (Option Value)}
    {f_law_forms : Addr} {oc_law_forms kV_law_forms dc_law_forms pm_law_forms cd_law_forms ct_law_forms : Value} {od_law_forms an_law_forms : Option Addr} {sl_law_forms : Array (Option Value)}
    {f_law_equal : Addr} {oc_law_equal kV_law_equal dc_law_equal pm_law_equal cd_law_equal ct_law_equal : Value} {od_law_equal an_law_equal : Option Addr} {sl_law_equal : Array (Option Value)}
    {f_law : Addr} {oc_law kV_law dc_law pm_law cd_law ct_law : Value} {od_law an_law : Option Addr} {sl_law : Array (Option Value)}
    (aC : PySem.W.nsIn K mainGlobals "Search" = some (some (.ref C)))
    (pg : PySem.W.plainGet K C Str.empty = true)
    (hd : PySem.W.hasDictIn K C = true)
    (po : PySem.W.plainOver K C = true)
    (sa : PySem.W.findIn K (.ref C) "__setattr__" = some (some (.builtin "object.__setattr__")))
    (mkC : PySem.W.makesIn K C = true)
    (kc : PySem.W.keepIn K (.ref C) = true)
    (n_names : PySem.W.findIn K (.ref C) "names" = some none)
    (n_facts : PySem.W.findIn K (.ref C) "facts" = some none)
    (n_arrows : PySem.W.findIn K (.ref C) "arrows" = some none)
    (n_todo : PySem.W.findIn K (.ref C) "todo" = some none)
    (a_Search___init__ : PySem.W.findIn K (.ref C) "__init__" = some (some (.ref f_Search___init__)))
    (i_Search___init__ : PySem.W.isFn K (.ref f_Search___init__) = true)
    (l_Search___init__ : K.lookup f_Search___init__ = some ⟨oc_Search___init__, od_Search___init__, .func (PySem.W.fnOf "__init__" "Search.__init__" (defArgs (inClass (topS 10) 0)) (defBody (inClass (topS 10) 0)) (defScope (inClass (topS 10) 0)) .none kV_Search___init__ dc_Search___init__ pm_Search___init__ an_Search___init__ cd_Search___init__ ct_Search___init__), sl_Search___init__⟩)
    (c_Search___init__ : PySem.W.codeIn K cd_Search___init__ "Search.__init__" = true)
    (k_Search___init__ : PySem.W.keepIn K (.ref f_Search___init__) = true)
    (a_is_name : PySem.W.nsIn K mainGlobals "is_name" = some (some (.ref f_is_name)))
    (l_is_name : K.lookup f_is_name = some ⟨oc_is_name, od_is_name, .func (PySem.W.fnOf "is_name" "is_name" (defArgs (topS 6)) (defBody (topS 6)) (defScope (topS 6)) .none kV_is_name dc_is_name pm_is_name an_is_name cd_is_name ct_is_name), sl_is_name⟩)
    (c_is_name : PySem.W.codeIn K cd_is_name "is_name" = true)
    (k_is_name : PySem.W.keepIn K (.ref f_is_name) = true)
    (a_size_within : PySem.W.nsIn K mainGlobals "size_within" = some (some (.ref f_size_within)))
    (l_size_within : K.lookup f_size_within = some ⟨oc_size_within, od_size_within, .func (PySem.W.fnOf "size_within" "size_within" (defArgs (topS 7)) (defBody (topS 7)) (defScope (topS 7)) .none kV_size_within dc_size_within pm_size_within an_size_within cd_size_within ct_size_within), sl_size_within⟩)
    (c_size_within : PySem.W.codeIn K cd_size_within "size_within" = true)
    (k_size_within : PySem.W.keepIn K (.ref f_size_within) = true)
    (a_is_sentence : PySem.W.nsIn K mainGlobals "is_sentence" = some (some (.ref f_is_sentence)))
    (l_is_sentence : K.lookup f_is_sentence = some ⟨oc_is_sentence, od_is_sentence, .func (PySem.W.fnOf "is_sentence" "is_sentence" (defArgs (topS 8)) (defBody (topS 8)) (defScope (topS 8)) .none kV_is_sentence dc_is_sentence pm_is_sentence an_is_sentence cd_is_sentence ct_is_sentence), sl_is_sentence⟩)
    (c_is_sentence : PySem.W.codeIn K cd_is_sentence "is_sentence" = true)
    (k_is_sentence : PySem.W.keepIn K (.ref f_is_sentence) = true)
    (a_Search_fresh : PySem.W.findIn K (.ref C) "fresh" = some (some (.ref f_Search_fresh)))
    (i_Search_fresh : PySem.W.isFn K (.ref f_Search_fresh) = true)
    (l_Search_fresh : K.lookup f_Search_fresh = some ⟨oc_Search_fresh, od_Search_fresh, .func (PySem.W.fnOf "fresh" "Search.fresh" (defArgs (inClass (topS 10) 1)) (defBody (inClass (topS 10) 1)) (defScope (inClass (topS 10) 1)) .none kV_Search_fresh dc_Search_fresh pm_Search_fresh an_Search_fresh cd_Search_fresh ct_Search_fresh), sl_Search_fresh⟩)
    (c_Search_fresh : PySem.W.codeIn K cd_Search_fresh "Search.fresh" = true)
    (k_Search_fresh : PySem.W.keepIn K (.ref f_Search_fresh) = true)
    (a_Search_more : PySem.W.findIn K (.ref C) "more" = some (some (.ref f_Search_more)))
    (i_Search_more : PySem.W.isFn K (.ref f_Search_more) = true)
    (l_Search_more : K.lookup f_Search_more = some ⟨oc_Search_more, od_Search_more, .func (PySem.W.fnOf "more" "Search.more" (defArgs (inClass (topS 10) 2)) (defBody (inClass (topS 10) 2)) (defScope (inClass (topS 10) 2)) .none kV_Search_more dc_Search_more pm_Search_more an_Search_more cd_Search_more ct_Search_more), sl_Search_more⟩)
    (c_Search_more : PySem.W.codeIn K cd_Search_more "Search.more" = true)
    (k_Search_more : PySem.W.keepIn K (.ref f_Search_more) = true)
    (a_Search_without : PySem.W.findIn K (.ref C) "without" = some (some (.ref f_Search_without)))
    (i_Search_without : PySem.W.isFn K (.ref f_Search_without) = true)
    (l_Search_without : K.lookup f_Search_without = some ⟨oc_Search_without, od_Search_without, .func (PySem.W.fnOf "without" "Search.without" (defArgs (inClass (topS 10) 3)) (defBody (inClass (topS 10) 3)) (defScope (inClass (topS 10) 3)) .none kV_Search_without dc_Search_without pm_Search_without an_Search_without cd_Search_without ct_Search_without), sl_Search_without⟩)
    (c_Search_without : PySem.W.codeIn K cd_Search_without "Search.without" = true)
    (k_Search_without : PySem.W.keepIn K (.ref f_Search_without) = true)
    (a_solve : PySem.W.nsIn K mainGlobals "solve" = some (some (.ref f_solve)))
    (l_solve : K.lookup f_solve = some ⟨oc_solve, od_solve, .func (PySem.W.fnOf "solve" "solve" (defArgs (topS 11)) (defBody (topS 11)) (defScope (topS 11)) .none kV_solve dc_solve pm_solve an_solve cd_solve ct_solve), sl_solve⟩)
    (c_solve : PySem.W.codeIn K cd_solve "solve" = true)
    (k_solve : PySem.W.keepIn K (.ref f_solve) = true)
    (a_solve_case : PySem.W.nsIn K mainGlobals "solve_case" = some (some (.ref f_solve_case)))
    (l_solve_case : K.lookup f_solve_case = some ⟨oc_solve_case, od_solve_case, .func (PySem.W.fnOf "solve_case" "solve_case" (defArgs (topS 12)) (defBody (topS 12)) (defScope (topS 12)) .none kV_solve_case dc_solve_case pm_solve_case an_solve_case cd_solve_case ct_solve_case), sl_solve_case⟩)
    (c_solve_case : PySem.W.codeIn K cd_solve_case "solve_case" = true)
    (k_solve_case : PySem.W.keepIn K (.ref f_solve_case) = true)
    (a_solve_both : PySem.W.nsIn K mainGlobals "solve_both" = some (some (.ref f_solve_both)))
    (l_solve_both : K.lookup f_solve_both = some ⟨oc_solve_both, od_solve_both, .func (PySem.W.fnOf "solve_both" "solve_both" (defArgs (topS 13)) (defBody (topS 13)) (defScope (topS 13)) .none kV_solve_both dc_solve_both pm_solve_both an_solve_both cd_solve_both ct_solve_both), sl_solve_both⟩)
    (c_solve_both : PySem.W.codeIn K cd_solve_both "solve_both" = true)
    (k_solve_both : PySem.W.keepIn K (.ref f_solve_both) = true)
    (a_take_atom : PySem.W.nsIn K mainGlobals "take_atom" = some (some (.ref f_take_atom)))
    (l_take_atom : K.lookup f_take_atom = some ⟨oc_take_atom, od_take_atom, .func (PySem.W.fnOf "take_atom" "take_atom" (defArgs (topS 14)) (defBody (topS 14)) (defScope (topS 14)) .none kV_take_atom dc_take_atom pm_take_atom an_take_atom cd_take_atom ct_take_atom), sl_take_atom⟩)
    (c_take_atom : PySem.W.codeIn K cd_take_atom "take_atom" = true)
    (k_take_atom : PySem.W.keepIn K (.ref f_take_atom) = true)
    (a_take_arrow : PySem.W.nsIn K mainGlobals "take_arrow" = some (some (.ref f_take_arrow)))
    (l_take_arrow : K.lookup f_take_arrow = some ⟨oc_take_arrow, od_take_arrow, .func (PySem.W.fnOf "take_arrow" "take_arrow" (defArgs (topS 15)) (defBody (topS 15)) (defScope (topS 15)) .none kV_take_arrow dc_take_arrow pm_take_arrow an_take_arrow cd_take_arrow ct_take_arrow), sl_take_arrow⟩)
    (c_take_arrow : PySem.W.codeIn K cd_take_arrow "take_arrow" = true)
    (k_take_arrow : PySem.W.keepIn K (.ref f_take_arrow) = true)
    (a_solve_open : PySem.W.nsIn K mainGlobals "solve_open" = some (some (.ref f_solve_open)))
    (l_solve_open : K.lookup f_solve_open = some ⟨oc_solve_open, od_solve_open, .func (PySem.W.fnOf "solve_open" "solve_open" (defArgs (topS 16)) (defBody (topS 16)) (defScope (topS 16)) .none kV_solve_open dc_solve_open pm_solve_open an_solve_open cd_solve_open ct_solve_open), sl_solve_open⟩)
    (c_solve_open : PySem.W.codeIn K cd_solve_open "solve_open" = true)
    (k_solve_open : PySem.W.keepIn K (.ref f_solve_open) = true)
    (a_solve_asked : PySem.W.nsIn K mainGlobals "solve_asked" = some (some (.ref f_solve_asked)))
    (l_solve_asked : K.lookup f_solve_asked = some ⟨oc_solve_asked, od_solve_asked, .func (PySem.W.fnOf "solve_asked" "solve_asked" (defArgs (topS 17)) (defBody (topS 17)) (defScope (topS 17)) .none kV_solve_asked dc_solve_asked pm_solve_asked an_solve_asked cd_solve_asked ct_solve_asked), sl_solve_asked⟩)
    (c_solve_asked : PySem.W.codeIn K cd_solve_asked "solve_asked" = true)
    (k_solve_asked : PySem.W.keepIn K (.ref f_solve_asked) = true)
    (a_settled : PySem.W.nsIn K mainGlobals "settled" = some (some (.ref f_settled)))
    (l_settled : K.lookup f_settled = some ⟨oc_settled, od_settled, .func (PySem.W.fnOf "settled" "settled" (defArgs (topS 18)) (defBody (topS 18)) (defScope (topS 18)) .none kV_settled dc_settled pm_settled an_settled cd_settled ct_settled), sl_settled⟩)
    (c_settled : PySem.W.codeIn K cd_settled "settled" = true)
    (k_settled : PySem.W.keepIn K (.ref f_settled) = true)
    (a_decide : PySem.W.nsIn K mainGlobals "decide" = some (some (.ref f_decide)))
    (l_decide : K.lookup f_decide = some ⟨oc_decide, od_decide, .func (PySem.W.fnOf "decide" "decide" (defArgs (topS 19)) (defBody (topS 19)) (defScope (topS 19)) .none kV_decide dc_decide pm_decide an_decide cd_decide ct_decide), sl_decide⟩)
    (c_decide : PySem.W.codeIn K cd_decide "decide" = true)
    (k_decide : PySem.W.keepIn K (.ref f_decide) = true)
    (a_is_proved : PySem.W.nsIn K mainGlobals "is_proved" = some (some (.ref f_is_proved)))
    (l_is_proved : K.lookup f_is_proved = some ⟨oc_is_proved, od_is_proved, .func (PySem.W.fnOf "is_proved" "is_proved" (defArgs (topS 20)) (defBody (topS 20)) (defScope (topS 20)) .none kV_is_proved dc_is_proved pm_is_proved an_is_proved cd_is_proved ct_is_proved), sl_is_proved⟩)
    (c_is_proved : PySem.W.codeIn K cd_is_proved "is_proved" = true)
    (k_is_proved : PySem.W.keepIn K (.ref f_is_proved) = true)
    (a_is_program : PySem.W.nsIn K mainGlobals "is_program" = some (some (.ref f_is_program)))
    (l_is_program : K.lookup f_is_program = some ⟨oc_is_program, od_is_program, .func (PySem.W.fnOf "is_program" "is_program" (defArgs (topS 24)) (defBody (topS 24)) (defScope (topS 24)) (.ref T_is_program) kV_is_program dc_is_program pm_is_program an_is_program cd_is_program ct_is_program), sl_is_program⟩)
    (c_is_program : PySem.W.codeIn K cd_is_program "is_program" = true)
    (k_is_program : PySem.W.keepIn K (.ref f_is_program) = true)
    (d_is_program : K.lookup T_is_program = some ⟨.type "tuple", td_is_program, .seq [.int 120 tt_is_program].toArray tn_is_program, ts_is_program⟩)
    (a_kind_of : PySem.W.nsIn K mainGlobals "kind_of" = some (some (.ref f_kind_of)))
    (l_kind_of : K.lookup f_kind_of = some ⟨oc_kind_of, od_kind_of, .func (PySem.W.fnOf "kind_of" "kind_of" (defArgs (topS 25)) (defBody (topS 25)) (defScope (topS 25)) .none kV_kind_of dc_kind_of pm_kind_of an_kind_of cd_kind_of ct_kind_of), sl_kind_of⟩)
    (c_kind_of : PySem.W.codeIn K cd_kind_of "kind_of" = true)
    (k_kind_of : PySem.W.keepIn K (.ref f_kind_of) = true)
    (a_made_kind : PySem.W.nsIn K mainGlobals "made_kind" = some (some (.ref f_made_kind)))
    (l_made_kind : K.lookup f_made_kind = some ⟨oc_made_kind, od_made_kind, .func (PySem.W.fnOf "made_kind" "made_kind" (defArgs (topS 26)) (defBody (topS 26)) (defScope (topS 26)) .none kV_made_kind dc_made_kind pm_made_kind an_made_kind cd_made_kind ct_made_kind), sl_made_kind⟩)
    (c_made_kind : PySem.W.codeIn K cd_made_kind "made_kind" = true)
    (k_made_kind : PySem.W.keepIn K (.ref f_made_kind) = true)
    (a_case_kind : PySem.W.nsIn K mainGlobals "case_kind" = some (some (.ref f_case_kind)))
    (l_case_kind : K.lookup f_case_kind = some ⟨oc_case_kind, od_case_kind, .func (PySem.W.fnOf "case_kind" "case_kind" (defArgs (topS 27)) (defBody (topS 27)) (defScope (topS 27)) .none kV_case_kind dc_case_kind pm_case_kind an_case_kind cd_case_kind ct_case_kind), sl_case_kind⟩)
    (c_case_kind : PySem.W.codeIn K cd_case_kind "case_kind" = true)
    (k_case_kind : PySem.W.keepIn K (.ref f_case_kind) = true)
    (a_proves : PySem.W.nsIn K mainGlobals "proves" = some (some (.ref f_proves)))
    (l_proves : K.lookup f_proves = some ⟨oc_proves, od_proves, .func (PySem.W.fnOf "proves" "proves" (defArgs (topS 28)) (defBody (topS 28)) (defScope (topS 28)) .none kV_proves dc_proves pm_proves an_proves cd_proves ct_proves), sl_proves⟩)
    (c_proves : PySem.W.codeIn K cd_proves "proves" = true)
    (k_proves : PySem.W.keepIn K (.ref f_proves) = true)
    (a_law_draws : PySem.W.nsIn K mainGlobals "_law_draws" = some (some (.ref f_law_draws)))
    (l_law_draws : K.lookup f_law_draws = some ⟨oc_law_draws, od_law_draws, .func (PySem.W.fnOf "_law_draws" "_law_draws" (defArgs (topS 30)) (defBody (topS 30)) (defScope (topS 30)) .none kV_law_draws dc_law_draws pm_law_draws an_law_draws cd_law_draws ct_law_draws), sl_law_draws⟩)
    (c_law_draws : PySem.W.codeIn K cd_law_draws "_law_draws" = true)
    (k_law_draws : PySem.W.keepIn K (.ref f_law_draws) = true)
    (a_law_draw : PySem.W.nsIn K mainGlobals "_law_draw" = some (some (.ref f_law_draw)))
    (l_law_draw : K.lookup f_law_draw = some ⟨oc_law_draw, od_law_draw, .func (PySem.W.fnOf "_law_draw" "_law_draw" (defArgs (topS 31)) (defBody (topS 31)) (defScope (topS 31)) .none kV_law_draw dc_law_draw pm_law_draw an_law_draw cd_law_draw ct_law_draw), sl_law_draw⟩)
    (c_law_draw : PySem.W.codeIn K cd_law_draw "_law_draw" = true)
    (k_law_draw : PySem.W.keepIn K (.ref f_law_draw) = true)
    (a_law_pick : PySem.W.nsIn K mainGlobals "_law_pick" = some (some (.ref f_law_pick)))
    (l_law_pick : K.lookup f_law_pick = some ⟨oc_law_pick, od_law_pick, .func (PySem.W.fnOf "_law_pick" "_law_pick" (defArgs (topS 32)) (defBody (topS 32)) (defScope (topS 32)) .none kV_law_pick dc_law_pick pm_law_pick an_law_pick cd_law_pick ct_law_pick), sl_law_pick⟩)
    (c_law_pick : PySem.W.codeIn K cd_law_pick "_law_pick" = true)
    (k_law_pick : PySem.W.keepIn K (.ref f_law_pick) = true)
    (a_law_atoms : PySem.W.nsIn K mainGlobals "_law_atoms" = some (some (.ref f_law_atoms)))
    (l_law_atoms : K.lookup f_law_atoms = some ⟨oc_law_atoms, od_law_atoms, .func (PySem.W.fnOf "_law_atoms" "_law_atoms" (defArgs (topS 34)) (defBody (topS 34)) (defScope (topS 34)) .none kV_law_atoms dc_law_atoms pm_law_atoms an_law_atoms cd_law_atoms ct_law_atoms), sl_law_atoms⟩)
    (c_law_atoms : PySem.W.codeIn K cd_law_atoms "_law_atoms" = true)
    (k_law_atoms : PySem.W.keepIn K (.ref f_law_atoms) = true)
    (a_law_sentence : PySem.W.nsIn K mainGlobals "_law_sentence" = some (some (.ref f_law_sentence)))
    (l_law_sentence : K.lookup f_law_sentence = some ⟨oc_law_sentence, od_law_sentence, .func (PySem.W.fnOf "_law_sentence" "_law_sentence" (defArgs (topS 35)) (defBody (topS 35)) (defScope (topS 35)) .none kV_law_sentence dc_law_sentence pm_law_sentence an_law_sentence cd_law_sentence ct_law_sentence), sl_law_sentence⟩)
    (c_law_sentence : PySem.W.codeIn K cd_law_sentence "_law_sentence" = true)
    (k_law_sentence : PySem.W.keepIn K (.ref f_law_sentence) = true)
    (a_law_size : PySem.W.nsIn K mainGlobals "_law_size" = some (some (.ref f_law_size)))
    (l_law_size : K.lookup f_law_size = some ⟨oc_law_size, od_law_size, .func (PySem.W.fnOf "_law_size" "_law_size" (defArgs (topS 36)) (defBody (topS 36)) (defScope (topS 36)) .none kV_law_size dc_law_size pm_law_size an_law_size cd_law_size ct_law_size), sl_law_size⟩)
    (c_law_size : PySem.W.codeIn K cd_law_size "_law_size" = true)
    (k_law_size : PySem.W.keepIn K (.ref f_law_size) = true)
    (a_law_forms : PySem.W.nsIn K mainGlobals "_law_forms" = some (some (.ref f_law_forms)))
    (l_law_forms : K.lookup f_law_forms = some ⟨oc_law_forms, od_law_forms, .func (PySem.W.fnOf "_law_forms" "_law_forms" (defArgs (topS 41)) (defBody (topS 41)) (defScope (topS 41)) .none kV_law_forms dc_law_forms pm_law_forms an_law_forms cd_law_forms ct_law_forms), sl_law_forms⟩)
    (c_law_forms : PySem.W.codeIn K cd_law_forms "_law_forms" = true)
    (k_law_forms : PySem.W.keepIn K (.ref f_law_forms) = true)
    (a_law_equal : PySem.W.nsIn K mainGlobals "_law_equal" = some (some (.ref f_law_equal)))
    (l_law_equal : K.lookup f_law_equal = some ⟨oc_law_equal, od_law_equal, .func (PySem.W.fnOf "_law_equal" "_law_equal" (defArgs (topS 42)) (defBody (topS 42)) (defScope (topS 42)) .none kV_law_equal dc_law_equal pm_law_equal an_law_equal cd_law_equal ct_law_equal), sl_law_equal⟩)
    (c_law_equal : PySem.W.codeIn K cd_law_equal "_law_equal" = true)
    (k_law_equal : PySem.W.keepIn K (.ref f_law_equal) = true)
    (a_law : PySem.W.nsIn K mainGlobals "law" = some (some (.ref f_law)))
    (l_law : K.lookup f_law = some ⟨oc_law, od_law, .func (PySem.W.fnOf "law" "law" (defArgs (topS 43)) (defBody (topS 43)) (defScope (topS 43)) .none kV_law dc_law pm_law an_law cd_law ct_law), sl_law⟩)
    (c_law : PySem.W.codeIn K cd_law "law" = true)
    (k_law : PySem.W.keepIn K (.ref f_law) = true)
    (z_all : PySem.W.nsIn K mainGlobals "all" = some none)
    (z_bool : PySem.W.nsIn K mainGlobals "bool" = some none)
    (z_dict : PySem.W.nsIn K mainGlobals "dict" = some none)
    (z_enumerate : PySem.W.nsIn K mainGlobals "enumerate" = some none)
    (z_int : PySem.W.nsIn K mainGlobals "int" = some none)
    (z_isinstance : PySem.W.nsIn K mainGlobals "isinstance" = some none)
    (z_len : PySem.W.nsIn K mainGlobals "len" = some none)
    (z_list : PySem.W.nsIn K mainGlobals "list" = some none)
    (z_sorted : PySem.W.nsIn K mainGlobals "sorted" = some none)
    (z_str : PySem.W.nsIn K mainGlobals "str" = some none)
    (z_sum : PySem.W.nsIn K mainGlobals "sum" = some none)
    (z_tuple : PySem.W.nsIn K mainGlobals "tuple" = some none)
    (z_zip : PySem.W.nsIn K mainGlobals "zip" = some none)
    (g_SMALL : PySem.W.nsIn K mainGlobals "SMALL" = some (some (.str "abcdefghijklmnopqrstuvwxyz" gt_SMALL)))
    (g_FIGURES : PySem.W.nsIn K mainGlobals "FIGURES" = some (some (.str "0123456789" gt_FIGURES)))
    (g_MOST_SIGNS : PySem.W.nsIn K mainGlobals "MOST_SIGNS" = some (some (.int 12 gt_MOST_SIGNS)))
    (g_MOST_SIZE : PySem.W.nsIn K mainGlobals "MOST_SIZE" = some (some (.int 60 gt_MOST_SIZE)))
    (g_FALSE : PySem.W.nsIn K mainGlobals "FALSE" = some (some (.ref gT_FALSE)))
    (gl_FALSE : K.lookup gT_FALSE = some ⟨.type "tuple", god_FALSE, .seq [.str "false" gtk_FALSE].toArray gn_FALSE, gsl_FALSE⟩)
    (kg_SHAPES : PySem.W.nsIn K mainGlobals "SHAPES" = some (some (.ref kd_SHAPES)))
    (kl_SHAPES : K.lookup kd_SHAPES = some ⟨.type "dict", none, .dict kes_SHAPES kn_SHAPES, #[]⟩)
    (kt_SHAPES : PySem.W.KeysLit w.params kes_SHAPES.toList)
    (kb_SHAPES : (kd_SHAPES == sysModules) = false)
    (km_SHAPES : kes_SHAPES.toList.map kvOf = tab_SHAPES.map some)
    : Txt w K mg C := by
  exact ⟨⟨_, _, fun_mk (st := inClass (topS 10) 0) l_Search___init__ c_Search___init__ k_Search___init__, ⟨mkC, a_Search___init__, i_Search___init__, kc⟩⟩,
    ⟨_, _, fun_mk (st := topS 6) l_is_name c_is_name k_is_name, PySem.W.mg_of X G a_is_name⟩,
    ⟨_, _, fun_mk (st := topS 7) l_size_within c_size_within k_size_within, PySem.W.mg_of X G a_size_within⟩,
    ⟨_, _, fun_mk (st := topS 8) l_is_sentence c_is_sentence k_is_sentence, PySem.W.mg_of X G a_is_sentence⟩,
    ⟨_, _, fun_mk (st := inClass (topS 10) 1) l_Search_fresh c_Search_fresh k_Search_fresh, ⟨a_Search_fresh, i_Search_fresh, k_Search_fresh⟩⟩,
    ⟨_, _, fun_mk (st := inClass (topS 10) 2) l_Search_more c_Search_more k_Search_more, ⟨a_Search_more, i_Search_more, k_Search_more⟩⟩,
    ⟨_, _, fun_mk (st := inClass (topS 10) 3) l_Search_without c_Search_without k_Search_without, ⟨a_Search_without, i_Search_without, k_Search_without⟩⟩,
    ⟨_, _, fun_mk (st := topS 11) l_solve c_solve k_solve, PySem.W.mg_of X G a_solve⟩,
    ⟨_, _, fun_mk (st := topS 12) l_solve_case c_solve_case k_solve_case, PySem.W.mg_of X G a_solve_case⟩,
    ⟨_, _, fun_mk (st := topS 13) l_solve_both c_solve_both k_solve_both, PySem.W.mg_of X G a_solve_both⟩,
    ⟨_, _, fun_mk (st := topS 14) l_take_atom c_take_atom k_take_atom, PySem.W.mg_of X G a_take_atom⟩,
    ⟨_, _, fun_mk (st := topS 15) l_take_arrow c_take_arrow k_take_arrow, PySem.W.mg_of X G a_take_arrow⟩,
    ⟨_, _, fun_mk (st := topS 16) l_solve_open c_solve_open k_solve_open, PySem.W.mg_of X G a_solve_open⟩,
    ⟨_, _, fun_mk (st := topS 17) l_solve_asked c_solve_asked k_solve_asked, PySem.W.mg_of X G a_solve_asked⟩,
    ⟨_, _, fun_mk (st := topS 18) l_settled c_settled k_settled, PySem.W.mg_of X G a_settled⟩,
    ⟨_, _, fun_mk (st := topS 19) l_decide c_decide k_decide, PySem.W.mg_of X G a_decide⟩,
    ⟨_, _, fun_mk (st := topS 20) l_is_proved c_is_proved k_is_proved, PySem.W.mg_of X G a_is_proved⟩,
    ⟨_, _, ⟨⟨_, _, _, _, _, _, _, _, _, _, rfl, l_is_program, c_is_program, .inr ⟨by decide, _, _, _, _, rfl, d_is_program, rfl, .cons ⟨_, rfl⟩ .nil⟩, .inl rfl⟩, k_is_program⟩, PySem.W.mg_of X G a_is_program⟩,
    ⟨_, _, fun_mk (st := topS 25) l_kind_of c_kind_of k_kind_of, PySem.W.mg_of X G a_kind_of⟩,
    ⟨_, _, fun_mk (st := topS 26) l_made_kind c_made_kind k_made_kind, PySem.W.mg_of X G a_made_kind⟩,
    ⟨_, _, fun_mk (st := topS 27) l_case_kind c_case_kind k_case_kind, PySem.W.mg_of X G a_case_kind⟩,
    ⟨_, _, fun_mk (st := topS 28) l_proves c_proves k_proves, PySem.W.mg_of X G a_proves⟩,
    ⟨_, _, fun_mk (st := topS 30) l_law_draws c_law_draws k_law_draws, PySem.W.mg_of X G a_law_draws⟩,
    ⟨_, _, fun_mk (st := topS 31) l_law_draw c_law_draw k_law_draw, PySem.W.mg_of X G a_law_draw⟩,
    ⟨_, _, fun_mk (st := topS 32) l_law_pick c_law_pick k_law_pick, PySem.W.mg_of X G a_law_pick⟩,
    ⟨_, _, fun_mk (st := topS 34) l_law_atoms c_law_atoms k_law_atoms, PySem.W.mg_of X G a_law_atoms⟩,
    ⟨_, _, fun_mk (st := topS 35) l_law_sentence c_law_sentence k_law_sentence, PySem.W.mg_of X G a_law_sentence⟩,
    ⟨_, _, fun_mk (st := topS 36) l_law_size c_law_size k_law_size, PySem.W.mg_of X G a_law_size⟩,
    ⟨_, _, fun_mk (st := topS 41) l_law_forms c_law_forms k_law_forms, PySem.W.mg_of X G a_law_forms⟩,
    ⟨_, _, fun_mk (st := topS 42) l_law_equal c_law_equal k_law_equal, PySem.W.mg_of X G a_law_equal⟩,
    ⟨_, _, fun_mk (st := topS 43) l_law c_law k_law, PySem.W.mg_of X G a_law⟩,
    ⟨pg, hd, po, sa⟩,
    PySem.W.mg_of X G aC,
    n_names,
    n_facts,
    n_arrows,
    n_todo,
    PySem.W.mg_none_of X G z_all,
    PySem.W.mg_none_of X G z_bool,
    PySem.W.mg_none_of X G z_dict,
    PySem.W.mg_none_of X G z_enumerate,
    PySem.W.mg_none_of X G z_int,
    PySem.W.mg_none_of X G z_isinstance,
    PySem.W.mg_none_of X G z_len,
    PySem.W.mg_none_of X G z_list,
    PySem.W.mg_none_of X G z_sorted,
    PySem.W.mg_none_of X G z_str,
    PySem.W.mg_none_of X G z_sum,
    PySem.W.mg_none_of X G z_tuple,
    PySem.W.mg_none_of X G z_zip,
    glo_str (PySem.W.mg_of X G g_SMALL),
    glo_str (PySem.W.mg_of X G g_FIGURES),
    glo_int (PySem.W.mg_of X G g_MOST_SIGNS),
    glo_int (PySem.W.mg_of X G g_MOST_SIZE),
    glo_tup (PySem.W.mg_of X G g_FALSE) gl_FALSE (by show 1 ≤ sizeLine; decide) (vs := [.str "false"]) (.cons ⟨_, rfl⟩ .nil) fun _ _ _ => .cons (.str _) .nil,
    kglo_of (PySem.W.mg_of X G kg_SHAPES) kl_SHAPES kt_SHAPES kb_SHAPES km_SHAPES⟩
end K07
end L3
end
section
set_option Elab.async false
set_option linter.all false
set_option maxRecDepth 100000
namespace L3
namespace G
open PySem

/-! ### sentences, trees of worlds -/
def okNames : List Str := ["p", "q", "r", "a", "k", "a0", "s", "t"]
abbrev Nm := { x : Str // x ∈ okNames }
inductive Fm where
  | bot | atom (x : Nm) | and (a b : Fm) | or (a b : Fm) | imp (a b : Fm)
deriving DecidableEq
inductive Tree where
  | node (fs : List Str) (cs : List Tree)
def Tree.fs : Tree → List Str | .node fs _ => fs
def Tree.cs : Tree → List Tree | .node _ cs => cs
inductive Sub : Tree → Tree → Prop
  | refl (t : Tree) : Sub t t
  | step {fs : List Str} {cs : List Tree} {c u : Tree} : c ∈ cs → Sub c u → Sub (.node fs cs) u
theorem Sub.trans {t u v : Tree} (h : Sub t u) (k : Sub u v) : Sub t v := by
  induction h with
  | refl => exact k
  | step hc _ ih => exact .step hc (ih k)
def force (t : Tree) : Fm → Prop
  | .bot => False
  | .atom x => x.1 ∈ t.fs
  | .and a b => force t a ∧ force t b
  | .or a b => force t a ∨ force t b
  | .imp a b => ∀ u, Sub t u → force u a → force u b
/-- what holds goes on to hold -/
def Mono (t : Tree) : Prop := ∀ u, Sub t u → ∀ v, Sub u v → ∀ x, x ∈ u.fs → x ∈ v.fs
theorem Mono.sub {t u : Tree} (h : Mono t) (s : Sub t u) : Mono u := fun v hv => h v (s.trans hv)
theorem force_mono {t u : Tree} (m : Mono t) (s : Sub t u) : ∀ {A : Fm}, force t A → force u A
  | .bot, h => h
  | .atom x, h => m t (.refl t) u s x.1 h
  | .and a b, h => ⟨force_mono m s h.1, force_mono m s h.2⟩
  | .or a b, h => h.elim (fun q => .inl (force_mono m s q)) (fun q => .inr (force_mono m s q))
  | .imp a b, h => fun v hv => h v (s.trans hv)
def Valid (Γ : List Fm) (A : Fm) : Prop := ∀ t, Mono t → (∀ B ∈ Γ, force t B) → force t A

/-! ### programs with names, their kinds -/
inductive Pg where
  | name (k : Nat) | bind (k : Nat) (A : Fm) (p : Pg) | app (p q : Pg) | pair (p q : Pg) | fst (p : Pg) | snd (p : Pg) | inl (A : Fm) (p : Pg) | inr (A : Fm) (p : Pg) | never (A : Fm) (p : Pg) | split (p : Pg) (k1 : Nat) (p1 : Pg) (k2 : Nat) (p2 : Pg)
abbrev Cx := List (Nat × Fm)
inductive Ty : Cx → Pg → Fm → Prop
  | name {Δ : Cx} {k : Nat} {A : Fm} : Δ.lookup k = some A → Ty Δ (.name k) A
  | bind {Δ : Cx} {k : Nat} {A B : Fm} {p : Pg} : Ty ((k, A) :: Δ) p B → Ty Δ (.bind k A p) (.imp A B)
  | app {Δ : Cx} {A B : Fm} {p q : Pg} : Ty Δ p (.imp A B) → Ty Δ q A → Ty Δ (.app p q) B
  | pair {Δ : Cx} {A B : Fm} {p q : Pg} : Ty Δ p A → Ty Δ q B → Ty Δ (.pair p q) (.and A B)
  | fst {Δ : Cx} {A B : Fm} {p : Pg} : Ty Δ p (.and A B) → Ty Δ (.fst p) A
  | snd {Δ : Cx} {A B : Fm} {p : Pg} : Ty Δ p (.and A B) → Ty Δ (.snd p) B
  | inl {Δ : Cx} {A B : Fm} {p : Pg} : Ty Δ p A → Ty Δ (.inl (.or A B) p) (.or A B)
  | inr {Δ : Cx} {A B : Fm} {p : Pg} : Ty Δ p B → Ty Δ (.inr (.or A B) p) (.or A B)
  | never {Δ : Cx} {A : Fm} {p : Pg} : Ty Δ p .bot → Ty Δ (.never A p) A
  | split {Δ : Cx} {A B D : Fm} {p p1 p2 : Pg} {k1 k2 : Nat} : Ty Δ p (.or A B) → Ty ((k1, A) :: Δ) p1 D → Ty ((k2, B) :: Δ) p2 D → Ty Δ (.split p k1 p1 k2 p2) D
def Ext (Δ Δ' : Cx) : Prop := ∀ k A, Δ.lookup k = some A → Δ'.lookup k = some A
theorem Ext.refl (Δ : Cx) : Ext Δ Δ := fun _ _ h => h
theorem Ext.trans {a b c : Cx} (h : Ext a b) (k : Ext b c) : Ext a c := fun x A e => k x A (h x A e)
theorem Ext.cons {Δ Δ' : Cx} (h : Ext Δ Δ') (q : Nat × Fm) : Ext (q :: Δ) (q :: Δ') := fun k A e => by
  obtain ⟨x, B⟩ := q
  rw [List.lookup_cons] at e ⊢
  cases hk : k == x with
  | true => rw [hk] at e; exact e
  | false => rw [hk] at e; exact h k A e
theorem Ty.weak {Δ : Cx} {p : Pg} {A : Fm} (h : Ty Δ p A) : ∀ {Δ' : Cx}, Ext Δ Δ' → Ty Δ' p A := by
  induction h with
  | name e => exact fun x => .name (x _ _ e)
  | bind _ ih => exact fun x => .bind (ih (x.cons _))
  | app _ _ i1 i2 => exact fun x => .app (i1 x) (i2 x)
  | pair _ _ i1 i2 => exact fun x => .pair (i1 x) (i2 x)
  | fst _ i => exact fun x => .fst (i x)
  | snd _ i => exact fun x => .snd (i x)
  | inl _ i => exact fun x => .inl (i x)
  | inr _ i => exact fun x => .inr (i x)
  | never _ i => exact fun x => .never (i x)
  | split _ _ _ i1 i2 i3 => exact fun x => .split (i1 x) (i2 (x.cons _)) (i3 (x.cons _))
/-- all names are below k -/
def Bd (k : Nat) (Δ : Cx) : Prop := ∀ x A, Δ.lookup x = some A → x < k
theorem Bd.ext {k : Nat} {Δ : Cx} (h : Bd k Δ) {j : Nat} (hj : k ≤ j) (A : Fm) : Ext Δ ((j, A) :: Δ) := fun x B e => by
  rw [List.lookup_cons]
  have := h x B e
  have : (x == j) = false := by simp; omega
  rw [this]; exact e
theorem Bd.cons {k : Nat} {Δ : Cx} (h : Bd k Δ) (A : Fm) : Bd (k + 1) ((k, A) :: Δ) := fun x B e => by
  rw [List.lookup_cons] at e
  cases hk : x == k with
  | true => simp at hk; omega
  | false => rw [hk] at e; have := h x B e; omega
theorem Bd.mono {k j : Nat} {Δ : Cx} (h : Bd k Δ) (l : k ≤ j) : Bd j Δ := fun x A e => Nat.lt_of_lt_of_le (h x A e) l
theorem Ty.sound {Δ : Cx} {p : Pg} {A : Fm} (h : Ty Δ p A) : ∀ t, Mono t → (∀ k B, Δ.lookup k = some B → force t B) → force t A := by
  have up : ∀ {Δ : Cx} {t u : Tree} {k : Nat} {A : Fm}, Mono t → Sub t u → (∀ k B, Δ.lookup k = some B → force t B) → force u A → ∀ j B, ((k, A) :: Δ).lookup j = some B → force u B := fun {Δ t u k A} m s h q j B e => by
    rw [List.lookup_cons] at e
    cases hk : j == k with
    | true => rw [hk] at e; cases e; exact q
    | false => rw [hk] at e; exact force_mono m s (h j B e)
  induction h with
  | name e => exact fun t m h => h _ _ e
  | bind _ ih => exact fun t m h u s q => ih u (m.sub s) (up m s h q)
  | app _ _ i1 i2 => exact fun t m h => i1 t m h t (.refl t) (i2 t m h)
  | pair _ _ i1 i2 => exact fun t m h => ⟨i1 t m h, i2 t m h⟩
  | fst _ i => exact fun t m h => (i t m h).1
  | snd _ i => exact fun t m h => (i t m h).2
  | inl _ i => exact fun t m h => .inl (i t m h)
  | inr _ i => exact fun t m h => .inr (i t m h)
  | never _ i => exact fun t m h => (i t m h).elim
  | split _ _ _ i1 i2 i3 => exact fun t m h => (i1 t m h).elim (fun q => i2 t m (up m (.refl t) h q)) (fun q => i3 t m (up m (.refl t) h q))

/-! ### the search -/
structure St where
  k : Nat
  facts : List (Nm × Pg)
  arrows : List (Fm × Pg)
  todo : List (Fm × Pg)
inductive Res where
  | prog (p : Pg) | world (t : Tree)
inductive PR where
  | dead (k : Nat) (p : Pg) | case (s : St) (a b : Fm) (p : Pg) | opn (s : St)
def waits (x : Nm) : Fm → Bool
  | .imp (.atom y) _ => y == x
  | _ => false
def given : Fm → Fm
  | .imp _ c => c
  | A => A
def takeAtom (x : Nm) (p : Pg) (s : St) : St := match s.facts.lookup x with
  | some _ => s
  | none => { s with facts := s.facts ++ [(x, p)], arrows := s.arrows.filter fun q => !waits x q.1, todo := ((s.arrows.filter fun q => waits x q.1).map fun q => (given q.1, .app q.2 p)).reverse ++ s.todo }
def takeArrow (a b : Fm) (p : Pg) (s : St) : St := match a with
  | .bot => s
  | .atom x => (match s.facts.lookup x with
    | some q => { s with todo := (b, .app p q) :: s.todo }
    | none => { s with arrows := s.arrows ++ [(.imp a b, p)] })
  | .and c d => { s with k := s.k + 2, todo := (.imp c (.imp d b), .bind s.k c (.bind (s.k + 1) d (.app p (.pair (.name s.k) (.name (s.k + 1)))))) :: s.todo }
  | .or c d => { s with k := s.k + 2, todo := (.imp d b, .bind (s.k + 1) d (.app p (.inr (.or c d) (.name (s.k + 1))))) :: (.imp c b, .bind s.k c (.app p (.inl (.or c d) (.name s.k)))) :: s.todo }
  | .imp _ _ => { s with arrows := s.arrows ++ [(.imp a b, p)] }
def lim : Nat := 16777216
def pdep : Pg → Nat
  | .name _ => 1
  | .bind _ _ p => pdep p + 1
  | .app p q => max (pdep p) (pdep q) + 1
  | .pair p q => max (pdep p) (pdep q) + 1
  | .fst p => pdep p + 1
  | .snd p => pdep p + 1
  | .inl _ p => pdep p + 1
  | .inr _ p => pdep p + 1
  | .never _ p => pdep p + 1
  | .split p _ q _ r => max (pdep p) (max (pdep q) (pdep r)) + 2
def sz : Fm → Nat
  | .bot => 1
  | .atom _ => 1
  | .and a b => 1 + sz a + sz b
  | .or a b => 1 + sz a + sz b
  | .imp a b => 1 + sz a + sz b
/-- the sentences in a program have at most n words -/
def Small (n : Nat) : Pg → Prop
  | .name _ => True
  | .bind _ A p => sz A ≤ n ∧ Small n p
  | .app p q => Small n p ∧ Small n q
  | .pair p q => Small n p ∧ Small n q
  | .fst p => Small n p
  | .snd p => Small n p
  | .inl A p => sz A ≤ n ∧ Small n p
  | .inr A p => sz A ≤ n ∧ Small n p
  | .never A p => sz A ≤ n ∧ Small n p
  | .split p _ q _ r => Small n p ∧ Small n q ∧ Small n r
instance decSmall (n : Nat) : ∀ p : Pg, Decidable (Small n p)
  | .name _ => isTrue trivial
  | .bind _ A p => @instDecidableAnd _ _ _ (decSmall n p)
  | .app p q => @instDecidableAnd _ _ (decSmall n p) (decSmall n q)
  | .pair p q => @instDecidableAnd _ _ (decSmall n p) (decSmall n q)
  | .fst p => decSmall n p
  | .snd p => decSmall n p
  | .inl A p => @instDecidableAnd _ _ _ (decSmall n p)
  | .inr A p => @instDecidableAnd _ _ _ (decSmall n p)
  | .never A p => @instDecidableAnd _ _ _ (decSmall n p)
  | .split p _ q _ r => @instDecidableAnd _ _ (decSmall n p) (@instDecidableAnd _ _ (decSmall n q) (decSmall n r))
/-- all programs are of small depth, so that == ends -/
def low (l : List (Fm × Pg)) : Bool := l.all fun q => decide (pdep q.2 ≤ 400 ∧ sz q.1 ≤ 60 ∧ Small 60 q.2)
/-- so few that no list grows too long -/
def few (s : St) : Bool := decide (s.todo.length + s.arrows.length + s.facts.length ≤ 1000)
def pump : Nat → St → Option PR
  | 0, _ => none
  | f + 1, s => if few s = true then (match s.todo with
    | [] => some (.opn s)
    | (.bot, p) :: r => some (.dead s.k p)
    | (.or a b, p) :: r => some (.case { s with todo := r } a b p)
    | (.and a b, p) :: r => pump f { s with todo := (a, .fst p) :: (b, .snd p) :: r }
    | (.atom x, p) :: r => if low s.arrows = true then pump f (takeAtom x p { s with todo := r }) else none
    | (.imp a b, p) :: r => if s.k + 2 ≤ lim then pump f (takeArrow a b p { s with todo := r }) else none) else none
abbrev Sv := St → Fm → Option (Nat × Res)
/-- the loop over the arrows: d are done, r are left -/
def arrLoop (sv0 sv1 : Sv) (s : St) (g : Fm) : Nat → List (Fm × Pg) → List (Fm × Pg) → List Tree → Option (Nat × Res)
  | k, _, [], ts => if s.facts.length < 64 then some (k, .world (.node (srtS (s.facts.map (·.1.1))) ts)) else none
  | k, d, (.imp (.imp a b) c, p) :: r, ts => if k + 2 ≤ lim then (match sv0 ⟨k + 2, s.facts, d ++ r, (.imp b c, .bind k b (.app p (.bind (k + 1) a (.name k)))) :: s.todo⟩ (.imp a b) with
    | some (k', .prog q) => sv1 ⟨k', s.facts, d ++ r, (c, .app p q) :: s.todo⟩ g
    | some (k', .world t) => arrLoop sv0 sv1 s g k' (d ++ [(.imp (.imp a b) c, p)]) r (ts ++ [t])
    | none => none) else none
  | k, d, q :: r, ts => arrLoop sv0 sv1 s g k (d ++ [q]) r ts
def openG (sv0 sv1 : Sv) (s : St) (g : Fm) : Option (Nat × Res) := match g with
  | .or a b => (match sv1 s a with
    | some (k1, .prog p) => some (k1, .prog (.inl g p))
    | some (k1, .world t1) => (match sv1 { s with k := k1 } b with
      | some (k2, .prog p) => some (k2, .prog (.inr g p))
      | some (k2, .world t2) => arrLoop sv0 sv1 s g k2 [] s.arrows [t1, t2]
      | none => none)
    | none => none)
  | _ => arrLoop sv0 sv1 s g s.k [] s.arrows []
def sv : Nat → Sv
  | 0 => fun _ _ => none
  | 1 => fun _ _ => none
  | 2 => fun _ _ => none
  | n + 3 => fun s g => match pump 100000 s with
    | none => none
    | some (.dead k p) => some (k, .prog (.never g p))
    | some (.case s a b p) => if s.k < lim then (match sv (n + 1) { s with k := s.k + 1, todo := (a, .name s.k) :: s.todo } g with
      | some (k1, .prog p1) => if k1 < lim then (match sv (n + 1) { s with k := k1 + 1, todo := (b, .name k1) :: s.todo } g with
        | some (k2, .prog p2) => some (k2, .prog (.split p s.k p1 k1 p2))
        | some (k2, .world t) => some (k2, .world t)
        | none => none) else none
      | some (k1, .world t) => some (k1, .world t)
      | none => none) else none
    | some (.opn s) => (match g with
      | .atom x => (match s.facts.lookup x with
        | some p => some (s.k, .prog p)
        | none => openG (sv n) (sv (n + 1)) s g)
      | .imp a b => if s.k < lim then (match sv (n + 2) { s with k := s.k + 1, todo := (a, .name s.k) :: s.todo } b with
        | some (k1, .prog p) => some (k1, .prog (.bind s.k a p))
        | some (k1, .world t) => some (k1, .world t)
        | none => none) else none
      | .and a b => (match sv (n + 1) s a with
        | some (k1, .prog p1) => (match sv (n + 1) { s with k := k1 } b with
          | some (k2, .prog p2) => some (k2, .prog (.pair p1 p2))
          | some (k2, .world t) => some (k2, .world t)
          | none => none)
        | some (k1, .world t) => some (k1, .world t)
        | none => none)
      | _ => openG (sv n) (sv (n + 1)) s g)
end G
end L3
end
section
set_option Elab.async false
set_option linter.all false
set_option maxRecDepth 100000
namespace L3
namespace G
open PySem

/-! ### what a state says -/
def Fits (t : Tree) (s : St) : Prop := (∀ q ∈ s.todo, force t q.1) ∧ (∀ q ∈ s.facts, q.1.1 ∈ t.fs) ∧ ∀ q ∈ s.arrows, force t q.1
structure Wf (Δ : Cx) (s : St) : Prop where
  bd : Bd s.k Δ
  todo : ∀ q ∈ s.todo, Ty Δ q.2 q.1
  facts : ∀ q ∈ s.facts, Ty Δ q.2 (.atom q.1)
  arrows : ∀ q ∈ s.arrows, Ty Δ q.2 q.1
  shape : ∀ q ∈ s.arrows, (∃ x c, q.1 = .imp (.atom x) c ∧ s.facts.lookup x = none) ∨ ∃ a b c, q.1 = .imp (.imp a b) c
/-- a tree that says no, seen from its root -/
def No (t : Tree) : Fm → Prop
  | .imp a b => force t a ∧ No t b
  | A => ¬ force t A
theorem No.not {t : Tree} : ∀ {A : Fm}, No t A → ¬ force t A
  | .bot, h => h
  | .atom _, h => h
  | .and _ _, h => h
  | .or _ _, h => h
  | .imp a b, h => fun q => No.not h.2 (q t (.refl t) h.1)
theorem lookup_none_mem {α : Type} {l : List (Nm × α)} {x : Nm} (h : l.lookup x = none) : ∀ q ∈ l, q.1 ≠ x := by
  induction l with
  | nil => intro q hq; cases hq
  | cons p l ih =>
    intro q hq
    rw [List.lookup_cons] at h
    cases hk : x == p.1 with
    | true => rw [hk] at h; cases h
    | false =>
      rw [hk] at h
      rcases List.mem_cons.mp hq with e | hq
      · subst e; intro e; rw [e] at hk; simp at hk
      · exact ih h q hq
theorem lookup_some_mem {α : Type} {l : List (Nm × α)} {x : Nm} {v : α} (h : l.lookup x = some v) : (x, v) ∈ l := by
  induction l with
  | nil => cases h
  | cons p l ih =>
    obtain ⟨y, w⟩ := p
    rw [List.lookup_cons] at h
    cases hk : x == y with
    | true => rw [hk] at h; cases h; have : x = y := eq_of_beq hk
              subst this; exact List.mem_cons_self ..
    | false => rw [hk] at h; exact List.mem_cons_of_mem _ (ih h)
theorem lookup_append_none {α : Type} {l : List (Nm × α)} {x y : Nm} {v : α} (h : (l ++ [(y, v)]).lookup x = none) : l.lookup x = none ∧ x ≠ y := by
  induction l with
  | nil =>
    refine ⟨rfl, fun e => ?_⟩
    subst e
    simp [List.lookup] at h
  | cons p l ih =>
    rw [List.cons_append, List.lookup_cons] at h
    rw [List.lookup_cons]
    cases hk : x == p.1 with
    | true => rw [hk] at h; cases h
    | false => rw [hk] at h; exact ih h
theorem lookup_append {α : Type} {l : List (Nm × α)} {x y : Nm} {v : α} (h : l.lookup x = none) (hy : x ≠ y) : (l ++ [(y, v)]).lookup x = none := by
  induction l with
  | nil =>
    have : (x == y) = false := beq_eq_false_iff_ne.mpr hy
    rw [List.nil_append, List.lookup_cons, this]
    rfl
  | cons p l ih =>
    rw [List.cons_append, List.lookup_cons]
    rw [List.lookup_cons] at h
    cases hk : x == p.1 with
    | true => rw [hk] at h; cases h
    | false => rw [hk] at h; exact ih h
/-- from one state to the next: the new hypotheses say no less -/
def Keeps (s s' : St) : Prop := s.k ≤ s'.k ∧ ∀ t, Fits t s' → Fits t s
theorem waits_at {x : Nm} {A : Fm} (h : waits x A = true) : A = .imp (.atom x) (given A) := by
  unfold waits at h
  split at h
  · rename_i y c
    have : y = x := eq_of_beq h
    subst this
    rfl
  · cases h

theorem takeAtom_ok {Δ : Cx} {x : Nm} {p : Pg} {r : List (Fm × Pg)} {s : St} (w : Wf Δ s) (e : s.todo = (.atom x, p) :: r) :
    Wf Δ (takeAtom x p { s with todo := r }) ∧ s.k ≤ (takeAtom x p { s with todo := r }).k ∧ ∀ t, Mono t → Fits t (takeAtom x p { s with todo := r }) → Fits t s := by
  have hp : Ty Δ p (.atom x) := w.todo (.atom x, p) (by rw [e]; exact List.mem_cons_self ..)
  have hr : ∀ q ∈ r, Ty Δ q.2 q.1 := fun q hq => w.todo q (by rw [e]; exact List.mem_cons_of_mem _ hq)
  unfold takeAtom
  cases hx : s.facts.lookup x with
  | some p0 =>
    simp only [hx]
    refine ⟨⟨w.bd, hr, w.facts, w.arrows, w.shape⟩, Nat.le_refl _, fun t m h => ⟨fun q hq => ?_, h.2.1, h.2.2⟩⟩
    rw [e] at hq
    rcases List.mem_cons.mp hq with q1 | q1
    · subst q1; exact h.2.1 _ (lookup_some_mem hx)
    · exact h.1 q q1
  | none =>
    simp only [hx]
    refine ⟨⟨w.bd, fun q hq => ?_, fun q hq => ?_, fun q hq => ?_, fun q hq => ?_⟩, Nat.le_refl _, fun t m h => ⟨fun q hq => ?_, fun q hq => ?_, fun q hq => ?_⟩⟩
    · rcases List.mem_append.mp hq with h1 | h1
      · rw [List.mem_reverse, List.mem_map] at h1
        obtain ⟨q0, h2, rfl⟩ := h1
        obtain ⟨h3, h4⟩ := List.mem_filter.mp h2
        have h5 := w.arrows q0 h3
        rw [waits_at h4] at h5
        exact .app h5 hp
      · exact hr q h1
    · rcases List.mem_append.mp hq with h1 | h1
      · exact w.facts q h1
      · rw [List.mem_singleton] at h1; subst h1; exact hp
    · exact w.arrows q (List.mem_filter.mp hq).1
    · obtain ⟨h3, h4⟩ := List.mem_filter.mp hq
      rcases w.shape q h3 with ⟨y, c, h5, h6⟩ | h5
      · refine .inl ⟨y, c, h5, lookup_append h6 fun z => ?_⟩
        subst z
        rw [h5] at h4
        simp [waits] at h4
      · exact .inr h5
    · rw [e] at hq
      rcases List.mem_cons.mp hq with q1 | q1
      · subst q1; exact h.2.1 (x, p) (List.mem_append_right _ (List.mem_singleton.mpr rfl))
      · exact h.1 q (List.mem_append_right _ q1)
    · exact h.2.1 q (List.mem_append_left _ hq)
    · by_cases hw : waits x q.1 = true
      · rw [waits_at hw]
        intro u hu _
        have h1 := h.1 (given q.1, .app q.2 p) (List.mem_append_left _ (List.mem_reverse.mpr (List.mem_map.mpr ⟨q, List.mem_filter.mpr ⟨hq, hw⟩, rfl⟩)))
        exact force_mono m hu h1
      · exact h.2.2 q (List.mem_filter.mpr ⟨hq, by simpa using hw⟩)
theorem Ty.up {Δ : Cx} {p : Pg} {A : Fm} {k : Nat} (b : Bd k Δ) (h : Ty Δ p A) {j : Nat} (hj : k ≤ j) (B : Fm) : Ty ((j, B) :: Δ) p A := h.weak (b.ext hj B)
theorem ty_new {Δ : Cx} {k : Nat} {A : Fm} : Ty ((k, A) :: Δ) (.name k) A := .name (by rw [List.lookup_cons]; simp)
theorem takeArrow_ok {Δ : Cx} {a b : Fm} {p : Pg} {r : List (Fm × Pg)} {s : St} (w : Wf Δ s) (e : s.todo = (.imp a b, p) :: r) :
    Wf Δ (takeArrow a b p { s with todo := r }) ∧ s.k ≤ (takeArrow a b p { s with todo := r }).k ∧ ∀ t, Mono t → Fits t (takeArrow a b p { s with todo := r }) → Fits t s := by
  have hp : Ty Δ p (.imp a b) := w.todo (.imp a b, p) (by rw [e]; exact List.mem_cons_self ..)
  have hr : ∀ q ∈ r, Ty Δ q.2 q.1 := fun q hq => w.todo q (by rw [e]; exact List.mem_cons_of_mem _ hq)
  have old : ∀ {t : Tree}, (∀ q ∈ r, force t q.1) → force t (.imp a b) → ∀ q ∈ s.todo, force t q.1 := fun h1 h2 q hq => by
    rw [e] at hq
    rcases List.mem_cons.mp hq with q1 | q1
    · subst q1; exact h2
    · exact h1 q q1
  unfold takeArrow
  cases a with
  | bot => exact ⟨⟨w.bd, hr, w.facts, w.arrows, w.shape⟩, Nat.le_refl _, fun t m h => ⟨old h.1 fun u _ z => z.elim, h.2.1, h.2.2⟩⟩
  | atom x =>
    simp only
    cases hx : s.facts.lookup x with
    | some q0 =>
      simp only
      have hq0 : Ty Δ q0 (.atom x) := w.facts _ (lookup_some_mem hx)
      refine ⟨⟨w.bd, fun q hq => ?_, w.facts, w.arrows, w.shape⟩, Nat.le_refl _, fun t m h => ⟨old (fun q hq => h.1 q (List.mem_cons_of_mem _ hq)) fun u hu _ => force_mono m hu (h.1 _ (List.mem_cons_self ..)), h.2.1, h.2.2⟩⟩
      rcases List.mem_cons.mp hq with q1 | q1
      · subst q1; exact .app hp hq0
      · exact hr q q1
    | none =>
      simp only
      refine ⟨⟨w.bd, hr, w.facts, fun q hq => ?_, fun q hq => ?_⟩, Nat.le_refl _, fun t m h => ⟨old h.1 (h.2.2 (.imp (.atom x) b, p) (List.mem_append_right _ (List.mem_singleton.mpr rfl))), h.2.1, fun q hq => h.2.2 q (List.mem_append_left _ hq)⟩⟩
      · rcases List.mem_append.mp hq with h1 | h1
        · exact w.arrows q h1
        · rw [List.mem_singleton] at h1; subst h1; exact hp
      · rcases List.mem_append.mp hq with h1 | h1
        · exact w.shape q h1
        · rw [List.mem_singleton] at h1; subst h1; exact .inl ⟨x, b, rfl, hx⟩
  | imp c d =>
    refine ⟨⟨w.bd, hr, w.facts, fun q hq => ?_, fun q hq => ?_⟩, Nat.le_refl _, fun t m h => ⟨old h.1 (h.2.2 (.imp (.imp c d) b, p) (List.mem_append_right _ (List.mem_singleton.mpr rfl))), h.2.1, fun q hq => h.2.2 q (List.mem_append_left _ hq)⟩⟩
    · rcases List.mem_append.mp hq with h1 | h1
      · exact w.arrows q h1
      · rw [List.mem_singleton] at h1; subst h1; exact hp
    · rcases List.mem_append.mp hq with h1 | h1
      · exact w.shape q h1
      · rw [List.mem_singleton] at h1; subst h1; exact .inr ⟨c, d, b, rfl⟩
  | and c d =>
    have b1 := w.bd.cons c
    refine ⟨⟨w.bd.mono (Nat.le_add_right _ 2), fun q hq => ?_, w.facts, w.arrows, w.shape⟩, Nat.le_add_right _ 2, fun t m h => ⟨old (fun q hq => h.1 q (List.mem_cons_of_mem _ hq)) fun u hu q => ?_, h.2.1, h.2.2⟩⟩
    · rcases List.mem_cons.mp hq with q1 | q1
      · subst q1
        refine .bind (.bind (.app ((hp.up w.bd (Nat.le_refl _) c).up b1 (Nat.le_refl _) d) (.pair ?_ ty_new)))
        exact (ty_new (Δ := Δ) (k := s.k) (A := c)).up b1 (Nat.le_refl _) d
      · exact hr q q1
    · exact h.1 (.imp c (.imp d b), _) (List.mem_cons_self ..) u hu q.1 u (.refl u) q.2
  | or c d =>
    refine ⟨⟨w.bd.mono (Nat.le_add_right _ 2), fun q hq => ?_, w.facts, w.arrows, w.shape⟩, Nat.le_add_right _ 2, fun t m h => ⟨old (fun q hq => h.1 q (List.mem_cons_of_mem _ (List.mem_cons_of_mem _ hq))) fun u hu q => ?_, h.2.1, h.2.2⟩⟩
    · rcases List.mem_cons.mp hq with q1 | q1
      · subst q1
        exact .bind (.app (hp.up w.bd (Nat.le_add_right _ 1) d) (.inr ty_new))
      · rcases List.mem_cons.mp q1 with q1 | q1
        · subst q1
          exact .bind (.app (hp.up w.bd (Nat.le_refl _) c) (.inl ty_new))
        · exact hr q q1
    · rcases q with q | q
      · exact h.1 (.imp c b, _) (List.mem_cons_of_mem _ (List.mem_cons_self ..)) u hu q
      · exact h.1 (.imp d b, _) (List.mem_cons_self ..) u hu q

/-- what the pump ends with -/
def PumpOk (Δ : Cx) (s : St) : PR → Prop
  | .dead k p => s.k ≤ k ∧ Ty Δ p .bot
  | .case s' a b p => s.k ≤ s'.k ∧ Wf Δ s' ∧ Ty Δ p (.or a b) ∧ ∀ t, Mono t → Fits t s' → force t (.or a b) → Fits t s
  | .opn s' => s.k ≤ s'.k ∧ Wf Δ s' ∧ s'.todo = [] ∧ ∀ t, Mono t → Fits t s' → Fits t s
theorem PumpOk.after {Δ : Cx} {s s1 : St} (hk : s.k ≤ s1.k) (hf : ∀ t, Mono t → Fits t s1 → Fits t s) : ∀ {r : PR}, PumpOk Δ s1 r → PumpOk Δ s r
  | .dead _ _, h => ⟨Nat.le_trans hk h.1, h.2⟩
  | .case _ _ _ _, h => ⟨Nat.le_trans hk h.1, h.2.1, h.2.2.1, fun t m f o => hf t m (h.2.2.2 t m f o)⟩
  | .opn _, h => ⟨Nat.le_trans hk h.1, h.2.1, h.2.2.1, fun t m f => hf t m (h.2.2.2 t m f)⟩
theorem pump_ok {Δ : Cx} : ∀ (f : Nat) {s : St} {r : PR}, Wf Δ s → pump f s = some r → PumpOk Δ s r
  | 0, _, _, _, h => by cases h
  | f + 1, s, r, w, h => by
    have tail : ∀ {q r}, s.todo = q :: r → ∀ x ∈ r, Ty Δ x.2 x.1 := fun e x hx => w.todo x (by rw [e]; exact List.mem_cons_of_mem _ hx)
    unfold pump at h
    split at h
    rotate_left
    · cases h
    split at h
    · rename_i e
      cases h
      exact ⟨Nat.le_refl _, w, e, fun t m f => f⟩
    · rename_i p r' e
      cases h
      exact ⟨Nat.le_refl _, w.todo (.bot, p) (by rw [e]; exact List.mem_cons_self ..)⟩
    · rename_i a b p r' e
      cases h
      refine ⟨Nat.le_refl _, ⟨w.bd, tail e, w.facts, w.arrows, w.shape⟩, w.todo (.or a b, p) (by rw [e]; exact List.mem_cons_self ..), fun t m f o => ⟨fun q hq => ?_, f.2.1, f.2.2⟩⟩
      rw [e] at hq
      rcases List.mem_cons.mp hq with q1 | q1
      · subst q1; exact o
      · exact f.1 q q1
    · rename_i a b p r' e
      have hp : Ty Δ p (.and a b) := w.todo (.and a b, p) (by rw [e]; exact List.mem_cons_self ..)
      have w1 : Wf Δ { s with todo := (a, .fst p) :: (b, .snd p) :: r' } := ⟨w.bd, fun q hq => by
        rcases List.mem_cons.mp hq with q1 | q1
        · subst q1; exact .fst hp
        · rcases List.mem_cons.mp q1 with q1 | q1
          · subst q1; exact .snd hp
          · exact tail e q q1, w.facts, w.arrows, w.shape⟩
      refine PumpOk.after (s := s) (s1 := { s with todo := (a, .fst p) :: (b, .snd p) :: r' }) (Nat.le_refl s.k) (fun t m f => ?_) (pump_ok f w1 h)
      refine ⟨fun q hq => ?_, f.2.1, f.2.2⟩
      rw [e] at hq
      rcases List.mem_cons.mp hq with q1 | q1
      · subst q1; exact ⟨f.1 (a, _) (List.mem_cons_self ..), f.1 (b, _) (List.mem_cons_of_mem _ (List.mem_cons_self ..))⟩
      · exact f.1 q (List.mem_cons_of_mem _ (List.mem_cons_of_mem _ q1))
    · rename_i x p r' e
      obtain ⟨h1, h2, h3⟩ := takeAtom_ok w e
      split at h
      · exact (pump_ok f h1 h).after h2 h3
      · cases h
    · rename_i a b p r' e
      obtain ⟨h1, h2, h3⟩ := takeArrow_ok w e
      split at h
      · exact (pump_ok f h1 h).after h2 h3
      · cases h

/-- what the search ends with -/
def SvOk (Δ : Cx) (s : St) (g : Fm) : Nat × Res → Prop
  | (k, .prog p) => s.k ≤ k ∧ Ty Δ p g
  | (k, .world t) => s.k ≤ k ∧ Mono t ∧ Fits t s ∧ No t g
def SvGood (f : Sv) : Prop := ∀ (Δ : Cx) (s : St) (g : Fm) (r : Nat × Res), Wf Δ s → f s g = some r → SvOk Δ s g r
theorem mem_srt {x : Str} {l : List Str} : x ∈ srtS l ↔ x ∈ l := (srt_perm l).mem_iff
theorem fits_facts {s : St} {l : List Str} {ts : List Tree} (h : s.facts.map (·.1.1) = l) : ∀ q ∈ s.facts, q.1.1 ∈ (Tree.node (srtS l) ts).fs := fun q hq => by
  show q.1.1 ∈ srtS l
  rw [mem_srt, ← h]
  exact List.mem_map_of_mem (f := fun q : Nm × Pg => q.1.1) hq
/-- the root over its trees -/
theorem root_mono {l : List Str} {ts : List Tree} (h : ∀ t ∈ ts, Mono t ∧ ∀ x ∈ l, x ∈ t.fs) : Mono (.node l ts) := by
  intro u hu v hv x hx
  cases hu with
  | refl =>
    cases hv with
    | refl => exact hx
    | step hc hs => exact (h _ hc).1 _ (.refl _) v hs x ((h _ hc).2 x hx)
  | step hc hs => exact (h _ hc).1 u hs v hv x hx
theorem arrLoop_ok {Δ : Cx} {sv0 sv1 : Sv} (h0 : SvGood sv0) (h1 : SvGood sv1) {s : St} {g : Fm} (w : Wf Δ s) (ht : s.todo = []) (hg : match g with | .imp _ _ => False | .and _ _ => False | .atom x => s.facts.lookup x = none | _ => True) :
    ∀ (r d : List (Fm × Pg)) (k : Nat) (ts : List Tree) (res : Nat × Res), s.arrows = d ++ r → s.k ≤ k →
      (∀ t ∈ ts, Mono t ∧ ∀ q ∈ s.facts, q.1.1 ∈ t.fs) →
      (∀ t ∈ ts, ∀ q ∈ s.arrows, force t q.1 ∨ ∃ a b c, q.1 = .imp (.imp a b) c ∧ force t (.imp b c) ∧ force t a) →
      (∀ q ∈ d, ∀ a b c, q.1 = .imp (.imp a b) c → ∃ t ∈ ts, force t a ∧ ¬ force t b) →
      (∀ a b, g = .or a b → (∃ t ∈ ts, ¬ force t a) ∧ ∃ t ∈ ts, ¬ force t b) →
      arrLoop sv0 sv1 s g k d r ts = some res → SvOk Δ s g res := by
  intro r
  induction r with
  | nil =>
    intro d k ts res e hk hT hA hD hO h
    unfold arrLoop at h
    split at h
    rotate_left
    · cases h
    cases h
    rw [List.append_nil] at e
    have ff : ∀ q ∈ s.facts, q.1.1 ∈ (Tree.node (srtS (s.facts.map (·.1.1))) ts).fs := fits_facts rfl
    have hm : Mono (.node (srtS (s.facts.map (·.1.1))) ts) := root_mono fun t h => ⟨(hT t h).1, fun x hx => by
      rw [mem_srt] at hx
      obtain ⟨q, hq, rfl⟩ := List.mem_map.mp hx
      exact (hT t h).2 q hq⟩
    have no_atom : ∀ x : Nm, s.facts.lookup x = none → x.1 ∉ (Tree.node (srtS (s.facts.map (·.1.1))) ts).fs := fun x hx hm => by
      have h1 : x.1 ∈ srtS (s.facts.map (·.1.1)) := hm
      rw [mem_srt] at h1
      obtain ⟨q, hq, e⟩ := List.mem_map.mp h1
      exact lookup_none_mem hx q hq (Subtype.ext e)
    have harr : ∀ q ∈ s.arrows, force (.node (srtS (s.facts.map (·.1.1))) ts) q.1 := by
      intro q hq
      -- at a child
      have child : ∀ t ∈ ts, ∀ u, Sub t u → ∀ a c, q.1 = .imp a c → force u a → force u c := by
        intro t htt u hu a c ea ha
        rcases hA t htt q hq with h1 | ⟨a0, b0, c0, e0, h1, h2⟩
        · rw [ea] at h1
          exact h1 u hu ha
        · rw [e0] at ea
          cases ea
          have m := (hT t htt).1
          have h3 : force u a0 := force_mono m hu h2
          exact h1 u hu (ha u (.refl u) h3)
      rcases w.shape q hq with ⟨x, c, e1, e2⟩ | ⟨a, b, c, e1⟩
      · rw [e1]
        intro u hu ha
        cases hu with
        | refl => exact absurd ha (no_atom x e2)
        | step hct hs => exact child _ hct u hs _ _ e1 ha
      · rw [e1]
        intro u hu ha
        cases hu with
        | refl =>
          obtain ⟨t, htt, h1, h2⟩ := hD q (by rw [← e]; exact hq) a b c e1
          exact absurd (ha t (.step htt (.refl t)) h1) h2
        | step hct hs => exact child _ hct u hs _ _ e1 ha
    refine ⟨hk, hm, ⟨(by rw [ht]; intro q hq; cases hq), ff, harr⟩, ?_⟩
    cases g with
    | bot => exact fun z => z
    | atom x => exact no_atom x hg
    | imp => exact hg.elim
    | and => exact hg.elim
    | or a b =>
      obtain ⟨⟨t1, m1, n1⟩, t2, m2, n2⟩ := hO a b rfl
      intro z
      rcases z with z | z
      · exact n1 (force_mono hm (.step m1 (.refl t1)) z)
      · exact n2 (force_mono hm (.step m2 (.refl t2)) z)
  | cons q r ih =>
    intro d k ts res e hk hT hA hD hO h
    have e' : s.arrows = (d ++ [q]) ++ r := by rw [e]; simp
    have hq : q ∈ s.arrows := by rw [e]; simp
    have sub : ∀ x ∈ d ++ r, x ∈ s.arrows := fun x hx => by
      rw [e]
      rcases List.mem_append.mp hx with h1 | h1
      · exact List.mem_append_left _ h1
      · exact List.mem_append_right _ (List.mem_cons_of_mem _ h1)
    have hcase : (∃ a b c p, q = (.imp (.imp a b) c, p)) ∨ ((∀ a b c p, q ≠ (.imp (.imp a b) c, p)) ∧ arrLoop sv0 sv1 s g k d (q :: r) ts = arrLoop sv0 sv1 s g k (d ++ [q]) r ts) := by
      obtain ⟨A, p⟩ := q
      cases A with
      | imp A c =>
        cases A with
        | imp a b => exact .inl ⟨a, b, c, p, rfl⟩
        | _ => exact .inr ⟨(fun _ _ _ _ z => nomatch z), rfl⟩
      | _ => exact .inr ⟨(fun _ _ _ _ z => nomatch z), rfl⟩
    rcases hcase with ⟨a, b, c, p, rfl⟩ | ⟨hne, heq⟩
    · unfold arrLoop at h
      split at h
      rotate_left
      · cases h
      have hp : Ty Δ p (.imp (.imp a b) c) := w.arrows _ hq
      have w0 : Wf Δ ⟨k + 2, s.facts, d ++ r, (.imp b c, .bind k b (.app p (.bind (k + 1) a (.name k)))) :: s.todo⟩ := by
        refine ⟨(w.bd.mono hk).mono (Nat.le_add_right _ 2), fun x hx => ?_, w.facts, fun x hx => w.arrows x (sub x hx), fun x hx => w.shape x (sub x hx)⟩
        rcases List.mem_cons.mp hx with h1 | h1
        · subst h1
          have b0 := w.bd.mono hk
          exact .bind (.app (hp.up b0 (Nat.le_refl _) b) (.bind (ty_new.up (b0.cons b) (Nat.le_refl _) a)))
        · exact w.todo x h1
      split at h
      · rename_i k1 q1 e1
        have g1 := h0 Δ _ _ _ w0 e1
        obtain ⟨hk1, hq1⟩ := g1
        have hk1' : k + 2 ≤ k1 := hk1
        have w1 : Wf Δ ⟨k1, s.facts, d ++ r, (c, .app p q1) :: s.todo⟩ := by
          refine ⟨w.bd.mono (show s.k ≤ k1 by omega), fun x hx => ?_, w.facts, fun x hx => w.arrows x (sub x hx), fun x hx => w.shape x (sub x hx)⟩
          rcases List.mem_cons.mp hx with h1 | h1
          · subst h1; exact .app hp hq1
          · exact w.todo x h1
        have g2 := h1 Δ _ _ _ w1 h
        obtain ⟨k2, r2⟩ := res
        cases r2 with
        | prog p2 => exact ⟨Nat.le_trans (show s.k ≤ k1 by omega) g2.1, g2.2⟩
        | world t =>
          obtain ⟨z1, z2, z3, z4⟩ := g2
          refine ⟨Nat.le_trans (show s.k ≤ k1 by omega) z1, z2, ⟨fun x hx => z3.1 x (List.mem_cons_of_mem _ hx), z3.2.1, fun x hx => ?_⟩, z4⟩
          rw [e] at hx
          rcases List.mem_append.mp hx with h3 | h3
          · exact z3.2.2 x (List.mem_append_left _ h3)
          · rcases List.mem_cons.mp h3 with h4 | h4
            · subst h4
              intro u hu _
              exact force_mono z2 hu (z3.1 (c, _) (List.mem_cons_self ..))
            · exact z3.2.2 x (List.mem_append_right _ h4)
      · rename_i k1 t e1
        obtain ⟨z1, z2, z3, z4⟩ := h0 Δ _ _ _ w0 e1
        have z1' : k + 2 ≤ k1 := z1
        refine ih (d ++ [(.imp (.imp a b) c, p)]) k1 (ts ++ [t]) res e' (by omega) (fun u hu => ?_) (fun u hu x hx => ?_) (fun x hx a' b' c' ex => ?_) (fun a' b' eg => ?_) h
        · rcases List.mem_append.mp hu with h3 | h3
          · exact hT u h3
          · rw [List.mem_singleton] at h3; subst h3; exact ⟨z2, z3.2.1⟩
        · rcases List.mem_append.mp hu with h3 | h3
          · exact hA u h3 x hx
          · rw [List.mem_singleton] at h3; subst h3
            rw [e] at hx
            rcases List.mem_append.mp hx with h4 | h4
            · exact .inl (z3.2.2 x (List.mem_append_left _ h4))
            · rcases List.mem_cons.mp h4 with h5 | h5
              · subst h5
                exact .inr ⟨a, b, c, rfl, z3.1 (.imp b c, _) (List.mem_cons_self ..), z4.1⟩
              · exact .inl (z3.2.2 x (List.mem_append_right _ h5))
        · rcases List.mem_append.mp hx with h3 | h3
          · obtain ⟨u, hu, h4⟩ := hD x h3 a' b' c' ex
            exact ⟨u, List.mem_append_left _ hu, h4⟩
          · rw [List.mem_singleton] at h3; subst h3
            cases ex
            exact ⟨t, List.mem_append_right _ (List.mem_singleton.mpr rfl), z4.1, No.not z4.2⟩
        · obtain ⟨⟨t1, m1, n1⟩, t2, m2, n2⟩ := hO a' b' eg
          exact ⟨⟨t1, List.mem_append_left _ m1, n1⟩, t2, List.mem_append_left _ m2, n2⟩
      · cases h
    · rw [heq] at h
      refine ih (d ++ [q]) k ts res e' hk hT hA (fun x hx a' b' c' ex => ?_) hO h
      rcases List.mem_append.mp hx with h3 | h3
      · exact hD x h3 a' b' c' ex
      · rw [List.mem_singleton] at h3; subst h3
        exact (hne a' b' c' x.2 (by rw [← ex])).elim
end G
end L3
end
section
set_option Elab.async false
set_option linter.all false
set_option maxRecDepth 100000
namespace L3
namespace G
open PySem

theorem Wf.todo_ {Δ : Cx} {s : St} (w : Wf Δ s) {k : Nat} (hk : s.k ≤ k) {A : Fm} {p : Pg} (hp : Ty Δ p A) : Wf Δ { s with k := k, todo := (A, p) :: s.todo } :=
  ⟨w.bd.mono hk, fun q hq => by
    rcases List.mem_cons.mp hq with h1 | h1
    · subst h1; exact hp
    · exact w.todo q h1, w.facts, w.arrows, w.shape⟩
theorem Wf.up {Δ : Cx} {s : St} (w : Wf Δ s) {k : Nat} (hk : s.k ≤ k) : Wf Δ { s with k := k } := ⟨w.bd.mono hk, w.todo, w.facts, w.arrows, w.shape⟩
/-- a new name for a hypothesis -/
theorem Wf.fresh {Δ : Cx} {s : St} (w : Wf Δ s) {k : Nat} (hk : s.k ≤ k) (A : Fm) : Wf ((k, A) :: Δ) { s with k := k + 1, todo := (A, .name k) :: s.todo } :=
  ⟨(w.bd.mono hk).cons A, fun q hq => by
    rcases List.mem_cons.mp hq with h1 | h1
    · subst h1; exact ty_new
    · exact (w.todo q h1).weak (w.bd.ext hk A), fun q hq => (w.facts q hq).weak (w.bd.ext hk A), fun q hq => (w.arrows q hq).weak (w.bd.ext hk A), w.shape⟩
theorem Fits.drop {t : Tree} {s : St} {k : Nat} {q : Fm × Pg} (h : Fits t { s with k := k, todo := q :: s.todo }) : Fits t s ∧ force t q.1 :=
  ⟨⟨fun x hx => h.1 x (List.mem_cons_of_mem _ hx), h.2.1, h.2.2⟩, h.1 q (List.mem_cons_self ..)⟩
theorem openG_ok {Δ : Cx} {sv0 sv1 : Sv} (h0 : SvGood sv0) (h1 : SvGood sv1) {s : St} {g : Fm} (w : Wf Δ s) (ht : s.todo = []) (hg : match g with | .imp _ _ => False | .and _ _ => False | .atom x => s.facts.lookup x = none | _ => True)
    {res : Nat × Res} (h : openG sv0 sv1 s g = some res) : SvOk Δ s g res := by
  have base : ∀ (k : Nat), s.k ≤ k → (∀ a b, g ≠ .or a b) → arrLoop sv0 sv1 s g k [] s.arrows [] = some res → SvOk Δ s g res := fun k hk hno h =>
    arrLoop_ok h0 h1 w ht hg s.arrows [] k [] res rfl hk (fun t ht => by cases ht) (fun t ht => by cases ht) (fun q hq => by cases hq) (fun a b e => (hno a b e).elim) h
  unfold openG at h
  split at h
  · rename_i a b
    split at h
    · rename_i k1 p e
      cases h
      have z := h1 Δ s a _ w e
      exact ⟨z.1, .inl z.2⟩
    · rename_i k1 t1 e
      obtain ⟨z1, z2, z3, z4⟩ := h1 Δ s a _ w e
      split at h
      · rename_i k2 p e2
        cases h
        have y := h1 Δ _ b _ (w.up z1) e2
        exact ⟨Nat.le_trans z1 y.1, .inr y.2⟩
      · rename_i k2 t2 e2
        obtain ⟨y1, y2, y3, y4⟩ := h1 Δ _ b _ (w.up z1) e2
        have hk : s.k ≤ k2 := Nat.le_trans z1 y1
        refine arrLoop_ok h0 h1 w ht hg s.arrows [] k2 [t1, t2] res rfl hk (fun t hm => ?_) (fun t hm q hq => ?_) (fun q hq => by cases hq) (fun a' b' eg => ?_) h
        · rcases List.mem_cons.mp hm with r | r
          · subst r; exact ⟨z2, z3.2.1⟩
          · rw [List.mem_singleton] at r; subst r; exact ⟨y2, y3.2.1⟩
        · rcases List.mem_cons.mp hm with r | r
          · subst r; exact .inl (z3.2.2 q hq)
          · rw [List.mem_singleton] at r; subst r; exact .inl (y3.2.2 q hq)
        · cases eg
          exact ⟨⟨t1, List.mem_cons_self .., No.not z4⟩, t2, List.mem_cons_of_mem _ (List.mem_singleton.mpr rfl), No.not y4⟩
      · cases h
    · cases h
  · rename_i hno
    exact base s.k (Nat.le_refl _) (fun a b e => hno a b e) h
theorem sv_ok : ∀ n : Nat, SvGood (sv n)
  | 0 => fun _ _ _ _ _ h => by cases h
  | 1 => fun _ _ _ _ _ h => by cases h
  | 2 => fun _ _ _ _ _ h => by cases h
  | n + 3 => fun Δ s g res w h => by
    have I0 := sv_ok n
    have I1 := sv_ok (n + 1)
    have I2 := sv_ok (n + 2)
    unfold sv at h
    split at h
    · cases h
    · rename_i k p e
      have z := pump_ok _ w e
      cases h
      exact ⟨z.1, .never z.2⟩
    · rename_i s1 a b p e
      obtain ⟨z1, z2, z3, z4⟩ := pump_ok _ w e
      split at h
      rotate_left
      · cases h
      split at h
      · rename_i k1 p1 e1
        obtain ⟨y1, y2⟩ := I1 _ _ _ _ (z2.fresh (Nat.le_refl _) a) e1
        have y1' : s1.k + 1 ≤ k1 := y1
        have hk1 : s1.k ≤ k1 := by omega
        split at h
        rotate_left
        · cases h
        split at h
        · rename_i k2 p2 e2
          obtain ⟨x1, x2⟩ := I1 _ _ _ _ (z2.fresh hk1 b) e2
          have x1' : k1 + 1 ≤ k2 := x1
          cases h
          exact ⟨show s.k ≤ k2 by omega, .split z3 y2 x2⟩
        · rename_i k2 t e2
          obtain ⟨x1, x2, x3, x4⟩ := I1 _ _ _ _ (z2.fresh hk1 b) e2
          have x1' : k1 + 1 ≤ k2 := x1
          cases h
          have d := Fits.drop x3
          exact ⟨show s.k ≤ k2 by omega, x2, z4 t x2 d.1 (.inr d.2), x4⟩
        · cases h
      · rename_i k1 t e1
        obtain ⟨y1, y2, y3, y4⟩ := I1 _ _ _ _ (z2.fresh (Nat.le_refl _) a) e1
        have y1' : s1.k + 1 ≤ k1 := y1
        cases h
        have d := Fits.drop y3
        exact ⟨show s.k ≤ k1 by omega, y2, z4 t y2 d.1 (.inl d.2), y4⟩
      · cases h
    · rename_i s1 e
      obtain ⟨z1, z2, z3, z4⟩ := pump_ok _ w e
      have lift : ∀ {r : Nat × Res}, SvOk Δ s1 g r → SvOk Δ s g r := fun {r} q => by
        obtain ⟨k, r⟩ := r
        cases r with
        | prog p => exact ⟨Nat.le_trans z1 q.1, q.2⟩
        | world t => exact ⟨Nat.le_trans z1 q.1, q.2.1, z4 t q.2.1 q.2.2.1, q.2.2.2⟩
      split at h
      · rename_i x
        split at h
        · rename_i p e1
          cases h
          exact ⟨z1, z2.facts _ (lookup_some_mem e1)⟩
        · rename_i e1
          exact lift (openG_ok I0 I1 z2 z3 e1 h)
      · rename_i a b
        split at h
        rotate_left
        · cases h
        split at h
        · rename_i k1 p e1
          obtain ⟨y1, y2⟩ := I2 _ _ _ _ (z2.fresh (Nat.le_refl _) a) e1
          have y1' : s1.k + 1 ≤ k1 := y1
          cases h
          exact ⟨show s.k ≤ k1 by omega, .bind y2⟩
        · rename_i k1 t e1
          obtain ⟨y1, y2, y3, y4⟩ := I2 _ _ _ _ (z2.fresh (Nat.le_refl _) a) e1
          have y1' : s1.k + 1 ≤ k1 := y1
          cases h
          have d := Fits.drop y3
          exact ⟨show s.k ≤ k1 by omega, y2, z4 t y2 d.1, d.2, y4⟩
        · cases h
      · rename_i a b
        split at h
        · rename_i k1 p1 e1
          obtain ⟨y1, y2⟩ := I1 _ _ _ _ z2 e1
          split at h
          · rename_i k2 p2 e2
            obtain ⟨x1, x2⟩ := I1 _ _ _ _ (z2.up y1) e2
            have x1' : k1 ≤ k2 := x1
            cases h
            exact ⟨show s.k ≤ k2 by omega, .pair y2 x2⟩
          · rename_i k2 t e2
            obtain ⟨x1, x2, x3, x4⟩ := I1 _ _ _ _ (z2.up y1) e2
            have x1' : k1 ≤ k2 := x1
            cases h
            exact ⟨show s.k ≤ k2 by omega, x2, z4 t x2 x3, fun q => No.not x4 q.2⟩
          · cases h
        · rename_i k1 t e1
          obtain ⟨y1, y2, y3, y4⟩ := I1 _ _ _ _ z2 e1
          cases h
          exact ⟨show s.k ≤ k1 by omega, y2, z4 t y2 y3, fun q => No.not y4 q.1⟩
        · cases h
      · rename_i hno1 hno2 hno3
        refine lift (openG_ok I0 I1 z2 z3 ?_ h)
        cases g with
        | bot => trivial
        | atom x => exact (hno1 x rfl).elim
        | and a b => exact (hno3 a b rfl).elim
        | or a b => trivial
        | imp a b => exact (hno2 a b rfl).elim

/-! ### decide -/
def startCx : Nat → List Fm → Cx
  | _, [] => []
  | i, A :: Γ => (i, A) :: startCx (i + 1) Γ
def startTodo : Nat → List Fm → List (Fm × Pg)
  | _, [] => []
  | i, A :: Γ => (A, .name i) :: startTodo (i + 1) Γ
def start (Γ : List Fm) : St := ⟨Γ.length, [], [], startTodo 0 Γ⟩
theorem start_bd : ∀ (Γ : List Fm) (i : Nat), Bd (i + Γ.length) (startCx i Γ) ∧ ∀ x A, (startCx i Γ).lookup x = some A → i ≤ x
  | [], i => ⟨(fun x A e => nomatch e), (fun x A e => nomatch e)⟩
  | A :: Γ, i => by
    obtain ⟨h1, h2⟩ := start_bd Γ (i + 1)
    refine ⟨fun x B e => ?_, fun x B e => ?_⟩
    · rw [startCx, List.lookup_cons] at e
      cases hk : x == i with
      | true => simp at hk; simp; omega
      | false => rw [hk] at e; have := h1 x B e; simp; omega
    · rw [startCx, List.lookup_cons] at e
      cases hk : x == i with
      | true => simp at hk; omega
      | false => rw [hk] at e; have := h2 x B e; omega
theorem start_ty : ∀ (Γ : List Fm) (i : Nat), ∀ q ∈ startTodo i Γ, Ty (startCx i Γ) q.2 q.1
  | [], i => fun q hq => by cases hq
  | A :: Γ, i => fun q hq => by
    rcases List.mem_cons.mp hq with h | h
    · subst h; exact ty_new
    · refine (start_ty Γ (i + 1) q h).weak fun x B e => ?_
      rw [startCx, List.lookup_cons]
      have := (start_bd Γ (i + 1)).2 x B e
      have : (x == i) = false := by simp; omega
      rw [this]; exact e
theorem start_wf (Γ : List Fm) : Wf (startCx 0 Γ) (start Γ) := ⟨(by have := (start_bd Γ 0).1; rw [Nat.zero_add] at this; exact this), start_ty Γ 0, (fun q hq => nomatch hq), (fun q hq => nomatch hq), (fun q hq => nomatch hq)⟩
theorem start_look : ∀ (Γ : List Fm) (i x : Nat) (A : Fm), (startCx i Γ).lookup x = some A → A ∈ Γ
  | [], _, _, _, e => by cases e
  | B :: Γ, i, x, A, e => by
    rw [startCx, List.lookup_cons] at e
    cases hk : x == i with
    | true => rw [hk] at e; cases e; exact List.mem_cons_self ..
    | false => rw [hk] at e; exact List.mem_cons_of_mem _ (start_look Γ (i + 1) x A e)
theorem start_mem : ∀ (Γ : List Fm) (i : Nat) (A : Fm), A ∈ Γ → ∃ q ∈ startTodo i Γ, q.1 = A
  | [], _, _, h => by cases h
  | B :: Γ, i, A, h => by
    rcases List.mem_cons.mp h with h | h
    · exact ⟨_, List.mem_cons_self .., h.symm⟩
    · obtain ⟨q, hq, e⟩ := start_mem Γ (i + 1) A h
      exact ⟨q, List.mem_cons_of_mem _ hq, e⟩
theorem prog_valid {n : Nat} {Γ : List Fm} {g : Fm} {k : Nat} {p : Pg} (h : sv n (start Γ) g = some (k, .prog p)) : Ty (startCx 0 Γ) p g ∧ Valid Γ g := by
  have z := sv_ok n _ _ _ _ (start_wf Γ) h
  exact ⟨z.2, fun t m hf => z.2.sound t m fun x B e => hf B (start_look Γ 0 x B e)⟩
theorem world_not {n : Nat} {Γ : List Fm} {g : Fm} {k : Nat} {t : Tree} (h : sv n (start Γ) g = some (k, .world t)) : Mono t ∧ (∀ B ∈ Γ, force t B) ∧ ¬ force t g := by
  obtain ⟨_, z2, z3, z4⟩ := sv_ok n _ _ _ _ (start_wf Γ) h
  exact ⟨z2, fun B hB => by
    obtain ⟨q, hq, e⟩ := start_mem Γ 0 B hB
    rw [← e]; exact z3.1 q hq, No.not z4⟩
end G
end L3
end
section
set_option Elab.async false
set_option linter.all false
set_option maxRecDepth 100000
namespace L3
namespace G
open PySem

/-! ### measures of sentences -/
structure Wt where
  (bot atom and or iB iA iC iO n1 n2 gi ga go : Nat)
def meas (W : Wt) : Fm → Nat × (Nat → Nat) × Nat
  | .bot => (W.bot, fun _ => W.iB, 0)
  | .atom _ => (W.atom, fun x => W.iA + x, 0)
  | .and a b => (W.and + (meas W a).1 + (meas W b).1, fun x => W.iC + (meas W a).2.1 ((meas W b).2.1 x), W.ga + max (meas W a).2.2 (meas W b).2.2)
  | .or a b => (W.or + max (meas W a).1 (meas W b).1, fun x => W.iO + (meas W a).2.1 x + (meas W b).2.1 x, W.go + max (meas W a).2.2 (meas W b).2.2)
  | .imp a b => ((meas W a).2.1 (meas W b).1, fun x => max (W.n1 + (meas W b).2.1 x + (W.gi + (meas W a).1 + (meas W b).2.2)) (W.n2 + x), W.gi + (meas W a).1 + (meas W b).2.2)
def Wt.h (W : Wt) (A : Fm) : Nat := (meas W A).1
def Wt.g (W : Wt) (A : Fm) : Nat := (meas W A).2.2
/-- what the pump needs of a measure -/
structure IsM (h : Fm → Nat) (kand katom kfire kC kO : Nat) : Prop where
  and_ : ∀ a b, h a + h b + kand ≤ h (.and a b)
  atom : ∀ x, katom ≤ h (.atom x)
  fire : ∀ x c, h c + kfire ≤ h (.imp (.atom x) c)
  iAnd : ∀ c d b, h (.imp c (.imp d b)) + kC ≤ h (.imp (.and c d) b)
  iOr : ∀ c d b, h (.imp c b) + h (.imp d b) + kO ≤ h (.imp (.or c d) b)
theorem Wt.isM (W : Wt) : IsM W.h W.and W.atom W.iA W.iC W.iO where
  and_ := fun a b => by show _ ≤ W.and + (meas W a).1 + (meas W b).1; unfold Wt.h; omega
  atom := fun x => Nat.le_refl _
  fire := fun x c => by show _ ≤ W.iA + (meas W c).1; unfold Wt.h; omega
  iAnd := fun c d b => by
    show (meas W c).2.1 ((meas W d).2.1 (meas W b).1) + _ ≤ W.iC + (meas W c).2.1 ((meas W d).2.1 (meas W b).1)
    omega
  iOr := fun c d b => by
    show (meas W c).2.1 (meas W b).1 + (meas W d).2.1 (meas W b).1 + _ ≤ W.iO + (meas W c).2.1 (meas W b).1 + (meas W d).2.1 (meas W b).1
    omega
theorem Wt.h_or (W : Wt) (a b : Fm) : W.h (.or a b) = W.or + max (W.h a) (W.h b) := rfl
theorem Wt.g_and (W : Wt) (a b : Fm) : W.g (.and a b) = W.ga + max (W.g a) (W.g b) := rfl
theorem Wt.g_or (W : Wt) (a b : Fm) : W.g (.or a b) = W.go + max (W.g a) (W.g b) := rfl
theorem Wt.g_imp (W : Wt) (a b : Fm) : W.g (.imp a b) = W.gi + W.h a + W.g b := rfl
theorem Wt.h_nest (W : Wt) (a b c : Fm) : W.h (.imp (.imp a b) c) = max (W.n1 + W.h (.imp b c) + W.g (.imp a b)) (W.n2 + W.h c) := rfl
/-- depth of programs: doublings and cost -/
def isBot : Fm → Bool
  | .bot => true
  | _ => false
def md : Fm → (Nat × Nat) × (Bool → Nat × Nat → Nat × Nat) × (Nat × Nat)
  | .bot => ((0, 0), fun _ _ => (0, 0), (0, 0))
  | .atom _ => ((0, 0), fun _ x => (x.1, 1 + x.2), (0, 0))
  | .and a b => (((md a).1.1 + (md b).1.1, 1 + (md a).1.2 + (md b).1.2), fun t x => (((md a).2.1 false ((md b).2.1 t x)).1, 3 + ((md a).2.1 false ((md b).2.1 t x)).2), (max (md a).2.2.1 (md b).2.2.1, 1 + max (md a).2.2.2 (md b).2.2.2))
  | .or a b => ((max (md a).1.1 (md b).1.1, 2 + max (md a).1.2 (md b).1.2), fun t x => (((md a).2.1 t x).1 + ((md b).2.1 t x).1, 2 + ((md a).2.1 t x).2 + ((md b).2.1 t x).2), (max (md a).2.2.1 (md b).2.2.1, 1 + max (md a).2.2.2 (md b).2.2.2))
  | .imp a b => ((md a).2.1 (isBot b) (md b).1, fun t x => match t with
      | true => (((md b).2.1 true x).1 + ((md a).1.1 + (md b).2.2.1), ((md b).2.1 true x).2 + (1 + (md a).1.2 + (md b).2.2.2) + 4)
      | false => (1 + max (((md b).2.1 false x).1 + ((md a).1.1 + (md b).2.2.1)) x.1, (((md b).2.1 false x).2 + (1 + (md a).1.2 + (md b).2.2.2) + x.2 + 1) / 2), ((md a).1.1 + (md b).2.2.1, 1 + (md a).1.2 + (md b).2.2.2))
def hn (A : Fm) : Nat := (md A).1.1
def hc (A : Fm) : Nat := (md A).1.2
def gn (A : Fm) : Nat := (md A).2.2.1
def gc (A : Fm) : Nat := (md A).2.2.2
theorem hn_isM : IsM hn 0 0 0 0 0 where
  and_ := fun a b => Nat.le_refl _
  atom := fun x => Nat.le_refl _
  fire := fun x c => Nat.le_refl _
  iAnd := fun c d b => Nat.le_refl _
  iOr := fun c d b => Nat.le_refl _
theorem hc_isM : IsM hc 1 0 1 3 2 where
  and_ := fun a b => by show _ ≤ 1 + (md a).1.2 + (md b).1.2; unfold hc; omega
  atom := fun x => Nat.le_refl _
  fire := fun x c => by show _ ≤ 1 + (md c).1.2; unfold hc; omega
  iAnd := fun c d b => by
    show ((md c).2.1 false ((md d).2.1 (isBot b) (md b).1)).2 + 3 ≤ 3 + ((md c).2.1 false ((md d).2.1 (isBot b) (md b).1)).2
    omega
  iOr := fun c d b => by
    show ((md c).2.1 (isBot b) (md b).1).2 + ((md d).2.1 (isBot b) (md b).1).2 + 2 ≤ 2 + ((md c).2.1 (isBot b) (md b).1).2 + ((md d).2.1 (isBot b) (md b).1).2
    omega
theorem hn_or (a b : Fm) : hn (.or a b) = max (hn a) (hn b) := rfl
theorem hc_or (a b : Fm) : hc (.or a b) = 2 + max (hc a) (hc b) := rfl
theorem gn_or (a b : Fm) : gn (.or a b) = max (gn a) (gn b) := rfl
theorem gc_or (a b : Fm) : gc (.or a b) = 1 + max (gc a) (gc b) := rfl
theorem gn_and (a b : Fm) : gn (.and a b) = max (gn a) (gn b) := rfl
theorem gc_and (a b : Fm) : gc (.and a b) = 1 + max (gc a) (gc b) := rfl
theorem gn_imp (a b : Fm) : gn (.imp a b) = hn a + gn b := rfl
theorem gc_imp (a b : Fm) : gc (.imp a b) = 1 + hc a + gc b := rfl
theorem nest_bot (a b : Fm) : hn (.imp (.imp a b) .bot) = hn (.imp b .bot) + gn (.imp a b) ∧ hc (.imp (.imp a b) .bot) = hc (.imp b .bot) + gc (.imp a b) + 4 := ⟨rfl, rfl⟩
theorem nest_else (a b : Fm) {c : Fm} (h : isBot c = false) : hn (.imp (.imp a b) c) = 1 + max (hn (.imp b c) + gn (.imp a b)) (hn c) ∧ hc (.imp (.imp a b) c) = (hc (.imp b c) + gc (.imp a b) + hc c + 1) / 2 := by
  constructor
  · show ((md (.imp a b)).2.1 (isBot c) (md c).1).1 = _
    rw [h]
    show 1 + max (((md b).2.1 false (md c).1).1 + ((md a).1.1 + (md b).2.2.1)) (md c).1.1 = 1 + max (((md b).2.1 (isBot c) (md c).1).1 + ((md a).1.1 + (md b).2.2.1)) (md c).1.1
    rw [h]
  · show ((md (.imp a b)).2.1 (isBot c) (md c).1).2 = _
    rw [h]
    show (((md b).2.1 false (md c).1).2 + (1 + (md a).1.2 + (md b).2.2.2) + (md c).1.2 + 1) / 2 = (((md b).2.1 (isBot c) (md c).1).2 + (1 + (md a).1.2 + (md b).2.2.2) + (md c).1.2 + 1) / 2
    rw [h]

/-! ### measures of states -/
def tot (h : Fm → Nat) (l : List (Fm × Pg)) : Nat := (l.map fun q => h q.1).sum
theorem tot_nil {h : Fm → Nat} : tot h [] = 0 := rfl
theorem tot_cons {h : Fm → Nat} {q : Fm × Pg} {l : List (Fm × Pg)} : tot h (q :: l) = h q.1 + tot h l := rfl
theorem tot_append {h : Fm → Nat} {l m : List (Fm × Pg)} : tot h (l ++ m) = tot h l + tot h m := by unfold tot; rw [List.map_append, List.sum_append]
theorem tot_reverse {h : Fm → Nat} {l : List (Fm × Pg)} : tot h l.reverse = tot h l := by unfold tot; rw [List.map_reverse, List.sum_reverse]
def sm (h : Fm → Nat) (s : St) : Nat := tot h s.todo + tot h s.arrows
/-- firing -/
theorem tot_fire {h : Fm → Nat} {k1 k2 k3 k4 k5 : Nat} (I : IsM h k1 k2 k3 k4 k5) {x : Nm} {p : Pg} : ∀ l : List (Fm × Pg),
    tot h (((l.filter fun q => waits x q.1).map fun q => (given q.1, .app q.2 p)).reverse) + tot h (l.filter fun q => !waits x q.1) + k3 * (l.filter fun q => waits x q.1).length ≤ tot h l
  | [] => by simp [tot]
  | q :: l => by
    have ih := tot_fire I (x := x) (p := p) l
    rw [tot_reverse] at ih ⊢
    by_cases hw : waits x q.1 = true
    · have hn : (!waits x q.1) = false := by rw [hw]; rfl
      rw [List.filter_cons_of_pos (p := fun q : Fm × Pg => waits x q.1) hw, List.filter_cons_of_neg (p := fun q : Fm × Pg => !waits x q.1) (by rw [hn]; decide), List.map_cons, tot_cons, tot_cons, List.length_cons, Nat.mul_add]
      have h1 := I.fire x (given q.1)
      rw [← waits_at hw] at h1
      show h (given q.1) + _ + _ + (_ + k3 * 1) ≤ _
      omega
    · have hn : (!waits x q.1) = true := by simpa using hw
      rw [List.filter_cons_of_neg (p := fun q : Fm × Pg => waits x q.1) hw, List.filter_cons_of_pos (p := fun q : Fm × Pg => !waits x q.1) hn, tot_cons, tot_cons]
      omega
theorem len_fire {x : Nm} : ∀ l : List (Fm × Pg), (l.filter fun q => waits x q.1).length + (l.filter fun q => !waits x q.1).length = l.length
  | [] => rfl
  | q :: l => by
    have ih := len_fire (x := x) l
    by_cases hw : waits x q.1 = true
    · have hn : (!waits x q.1) = false := by rw [hw]; rfl
      rw [List.filter_cons_of_pos (p := fun q : Fm × Pg => waits x q.1) hw, List.filter_cons_of_neg (p := fun q : Fm × Pg => !waits x q.1) (by rw [hn]; decide)]
      simp; omega
    · have hn : (!waits x q.1) = true := by simpa using hw
      rw [List.filter_cons_of_neg (p := fun q : Fm × Pg => waits x q.1) hw, List.filter_cons_of_pos (p := fun q : Fm × Pg => !waits x q.1) hn]
      simp; omega
/-- sentences of at most 60 words -/
structure Sz (s : St) : Prop where
  todo : ∀ q ∈ s.todo, sz q.1 ≤ 60 ∧ Small 60 q.2
  facts : ∀ q ∈ s.facts, Small 60 q.2
  arrows : ∀ q ∈ s.arrows, sz q.1 ≤ 60 ∧ Small 60 q.2
/-- programs of depth at most M -/
structure Dp (M : Nat) (s : St) : Prop where
  todo : ∀ q ∈ s.todo, pdep q.2 ≤ M
  facts : ∀ q ∈ s.facts, pdep q.2 ≤ M
  arrows : ∀ q ∈ s.arrows, pdep q.2 ≤ M
theorem Dp.mono {M N : Nat} {s : St} (d : Dp M s) (h : M ≤ N) : Dp N s := ⟨fun q hq => Nat.le_trans (d.todo q hq) h, fun q hq => Nat.le_trans (d.facts q hq) h, fun q hq => Nat.le_trans (d.arrows q hq) h⟩
end G
end L3
end
section
set_option Elab.async false
set_option linter.all false
set_option maxRecDepth 100000
namespace L3
namespace G
open PySem

theorem IsM.weak {h : Fm → Nat} {a b c d e : Nat} (I : IsM h a b c d e) : IsM h 0 0 0 0 0 where
  and_ := fun x y => by have := I.and_ x y; omega
  atom := fun x => Nat.zero_le _
  fire := fun x c => by have := I.fire x c; omega
  iAnd := fun x y z => by have := I.iAnd x y z; omega
  iOr := fun x y z => by have := I.iOr x y z; omega
theorem Wt.isM0 (W : Wt) : IsM W.h 0 0 0 0 0 := W.isM.weak
/-- steps of the pump -/
def wZ : Wt := ⟨1, 1, 1, 1, 1, 1, 1, 1, 1, 1, 0, 0, 0⟩
/-- names -/
def wC : Wt := ⟨0, 0, 0, 2, 0, 0, 2, 2, 2, 0, 1, 0, 0⟩
theorem k_pos : ∀ (a : Fm) (x : Nat), 1 ≤ (meas wZ a).2.1 x
  | .bot, x => Nat.le_refl _
  | .atom _, x => Nat.le_add_right _ _
  | .and a b, x => by show 1 ≤ 1 + (meas wZ a).2.1 ((meas wZ b).2.1 x); omega
  | .or a b, x => by show 1 ≤ 1 + (meas wZ a).2.1 x + (meas wZ b).2.1 x; omega
  | .imp a b, x => by show 1 ≤ max (1 + (meas wZ b).2.1 x + (0 + (meas wZ a).1 + (meas wZ b).2.2)) (1 + x); omega
theorem z_pos : ∀ A : Fm, 1 ≤ wZ.h A
  | .bot => Nat.le_refl _
  | .atom _ => Nat.le_refl _
  | .and a b => by show 1 ≤ 1 + (meas wZ a).1 + (meas wZ b).1; omega
  | .or a b => by show 1 ≤ 1 + max (meas wZ a).1 (meas wZ b).1; omega
  | .imp a b => k_pos a _
/-- one step of the pump -/
structure Stp (M : Nat) (s : St) (M1 : Nat) (s1 : St) : Prop where
  all : ∀ h, IsM h 0 0 0 0 0 → sm h s1 ≤ sm h s
  nam : s1.k + sm wC.h s1 ≤ s.k + sm wC.h s
  le : M ≤ M1
  dp : Dp M1 s1
  dep : M1 + sm hc s1 ≤ M + sm hc s
  stp : sm wZ.h s1 + s.arrows.length + 1 ≤ sm wZ.h s + s1.arrows.length
  fac : s1.facts.length + sm wZ.h s1 ≤ s.facts.length + sm wZ.h s
theorem sm_todo {h : Fm → Nat} {s : St} {q : Fm × Pg} {r : List (Fm × Pg)} (e : s.todo = q :: r) : sm h s = h q.1 + tot h r + tot h s.arrows := by
  unfold sm; rw [e, tot_cons]
theorem stp_and {M : Nat} {s : St} {a b : Fm} {p : Pg} {r : List (Fm × Pg)} (d : Dp M s) (e : s.todo = (.and a b, p) :: r) : Stp M s (M + 1) { s with todo := (a, .fst p) :: (b, .snd p) :: r } := by
  have s1 : ∀ h : Fm → Nat, sm h { s with todo := (a, .fst p) :: (b, .snd p) :: r } = h a + (h b + tot h r) + tot h s.arrows := fun h => rfl
  have hp : pdep p ≤ M := d.todo (.and a b, p) (by rw [e]; exact List.mem_cons_self ..)
  refine ⟨fun h I => ?_, ?_, Nat.le_succ _, ⟨fun q hq => ?_, (d.mono (Nat.le_succ _)).facts, (d.mono (Nat.le_succ _)).arrows⟩, ?_, ?_, ?_⟩
  · rw [s1, sm_todo e]; have := I.and_ a b; show _ ≤ h (.and a b) + _ + _; omega
  · rw [s1, sm_todo e]; have := wC.isM.and_ a b; show s.k + _ ≤ s.k + (wC.h (.and a b) + _ + _); omega
  · rcases List.mem_cons.mp hq with h1 | h1
    · subst h1; show pdep p + 1 ≤ M + 1; omega
    · rcases List.mem_cons.mp h1 with h1 | h1
      · subst h1; show pdep p + 1 ≤ M + 1; omega
      · have := d.todo q (by rw [e]; exact List.mem_cons_of_mem _ h1); omega
  · rw [s1, sm_todo e]; have := hc_isM.and_ a b; show _ ≤ M + (hc (.and a b) + _ + _); omega
  · rw [s1, sm_todo e]; have := wZ.isM.and_ a b
    have w : wZ.and = 1 := rfl
    show _ + s.arrows.length + 1 ≤ wZ.h (.and a b) + _ + _ + s.arrows.length; omega
  · rw [s1, sm_todo e]; have := wZ.isM.and_ a b
    show s.facts.length + _ ≤ s.facts.length + (wZ.h (.and a b) + _ + _); omega
theorem stp_atom {M : Nat} {s : St} {x : Nm} {p : Pg} {r : List (Fm × Pg)} (d : Dp M s) (e : s.todo = (.atom x, p) :: r) : ∃ M1, Stp M s M1 (takeAtom x p { s with todo := r }) := by
  have hp : pdep p ≤ M := d.todo (.atom x, p) (by rw [e]; exact List.mem_cons_self ..)
  have hr : ∀ q ∈ r, pdep q.2 ≤ M := fun q hq => d.todo q (by rw [e]; exact List.mem_cons_of_mem _ hq)
  unfold takeAtom
  cases hx : s.facts.lookup x with
  | some p0 =>
    simp only [hx]
    have s1 : ∀ h : Fm → Nat, sm h { s with todo := r } = tot h r + tot h s.arrows := fun h => rfl
    refine ⟨M, fun h I => ?_, ?_, Nat.le_refl _, ⟨hr, d.facts, d.arrows⟩, ?_, ?_, ?_⟩
    · rw [s1, sm_todo e]; omega
    · rw [s1, sm_todo e]; show s.k + _ ≤ s.k + _; omega
    · rw [s1, sm_todo e]; omega
    · rw [s1, sm_todo e]; have := z_pos (.atom x); show _ + s.arrows.length + 1 ≤ wZ.h (.atom x) + _ + _ + s.arrows.length; omega
    · rw [s1, sm_todo e]; show s.facts.length + _ ≤ s.facts.length + _; omega
  | none =>
    simp only [hx]
    have s1 : ∀ h : Fm → Nat, sm h { s with facts := s.facts ++ [(x, p)], arrows := s.arrows.filter fun q => !waits x q.1, todo := ((s.arrows.filter fun q => waits x q.1).map fun q => (given q.1, .app q.2 p)).reverse ++ r } =
        tot h (((s.arrows.filter fun q => waits x q.1).map fun q => (given q.1, .app q.2 p)).reverse) + tot h r + tot h (s.arrows.filter fun q => !waits x q.1) := fun h => by unfold sm; rw [tot_append]
    have lf := len_fire (x := x) s.arrows
    have fz := tot_fire wZ.isM (x := x) (p := p) s.arrows
    have fc := tot_fire hc_isM (x := x) (p := p) s.arrows
    have wz : wZ.iA = 1 := rfl
    rw [wz] at fz
    refine ⟨if (s.arrows.filter fun q => waits x q.1).length = 0 then M else M + 1, fun h I => ?_, ?_, ?_, ⟨fun q hq => ?_, fun q hq => ?_, fun q hq => ?_⟩, ?_, ?_, ?_⟩
    · have := tot_fire I (x := x) (p := p) s.arrows
      rw [s1, sm_todo e]; omega
    · have := tot_fire wC.isM (x := x) (p := p) s.arrows
      rw [s1, sm_todo e]; show s.k + _ ≤ s.k + _; omega
    · split <;> omega
    · rcases List.mem_append.mp hq with h1 | h1
      · rw [List.mem_reverse, List.mem_map] at h1
        obtain ⟨q0, h2, rfl⟩ := h1
        have hl : ¬ (s.arrows.filter fun q => waits x q.1).length = 0 := fun z => by
          rw [List.eq_nil_of_length_eq_zero z] at h2; cases h2
        rw [if_neg hl]
        have := d.arrows q0 (List.mem_filter.mp h2).1
        show max (pdep q0.2) (pdep p) + 1 ≤ M + 1
        omega
      · have := hr q h1
        split <;> omega
    · have : pdep q.2 ≤ M := by
        rcases List.mem_append.mp hq with h1 | h1
        · exact d.facts q h1
        · rw [List.mem_singleton] at h1; subst h1; exact hp
      split <;> omega
    · have := d.arrows q (List.mem_filter.mp hq).1
      split <;> omega
    · rw [s1, sm_todo e]
      split <;> omega
    · rw [s1, sm_todo e]
      have := z_pos (.atom x)
      show _ + s.arrows.length + 1 ≤ wZ.h (.atom x) + _ + _ + (s.arrows.filter fun q => !waits x q.1).length
      omega
    · rw [s1, sm_todo e]
      have := z_pos (.atom x)
      show (s.facts ++ [(x, p)]).length + _ ≤ s.facts.length + (wZ.h (.atom x) + _ + _)
      rw [List.length_append, List.length_singleton]
      omega
theorem stp_imp {M : Nat} {s : St} {a b : Fm} {p : Pg} {r : List (Fm × Pg)} (hM : 2 ≤ M) (d : Dp M s) (e : s.todo = (.imp a b, p) :: r) : ∃ M1, Stp M s M1 (takeArrow a b p { s with todo := r }) := by
  have hp : pdep p ≤ M := d.todo (.imp a b, p) (by rw [e]; exact List.mem_cons_self ..)
  have hr : ∀ q ∈ r, pdep q.2 ≤ M := fun q hq => d.todo q (by rw [e]; exact List.mem_cons_of_mem _ hq)
  have wait : Stp M s M { s with todo := r, arrows := s.arrows ++ [(Fm.imp a b, p)] } := by
    have s1 : ∀ h : Fm → Nat, sm h { s with todo := r, arrows := s.arrows ++ [(Fm.imp a b, p)] } = tot h r + (tot h s.arrows + (h (.imp a b) + 0)) := fun h => by unfold sm; rw [tot_append]; rfl
    refine ⟨fun h I => ?_, ?_, Nat.le_refl _, ⟨hr, d.facts, fun q hq => ?_⟩, ?_, ?_, ?_⟩
    · rw [s1, sm_todo e]; show _ ≤ h (.imp a b) + _ + _; omega
    · rw [s1, sm_todo e]; show s.k + _ ≤ s.k + (wC.h (.imp a b) + _ + _); omega
    · rcases List.mem_append.mp hq with h1 | h1
      · exact d.arrows q h1
      · rw [List.mem_singleton] at h1; subst h1; exact hp
    · rw [s1, sm_todo e]; show _ ≤ M + (hc (.imp a b) + _ + _); omega
    · rw [s1, sm_todo e]; show _ + s.arrows.length + 1 ≤ wZ.h (Fm.imp a b) + _ + _ + (s.arrows ++ [(Fm.imp a b, p)]).length; simp; omega
    · rw [s1, sm_todo e]; show s.facts.length + _ ≤ s.facts.length + (wZ.h (.imp a b) + _ + _); omega
  unfold takeArrow
  cases a with
  | bot =>
    have s1 : ∀ h : Fm → Nat, sm h { s with todo := r } = tot h r + tot h s.arrows := fun h => rfl
    refine ⟨M, fun h I => ?_, ?_, Nat.le_refl _, ⟨hr, d.facts, d.arrows⟩, ?_, ?_, ?_⟩
    · show sm h { s with todo := r } ≤ _; rw [s1, sm_todo e]; omega
    · show s.k + sm wC.h { s with todo := r } ≤ _; rw [s1, sm_todo e]; omega
    · show M + sm hc { s with todo := r } ≤ _; rw [s1, sm_todo e]; omega
    · show sm wZ.h { s with todo := r } + _ + 1 ≤ _; rw [s1, sm_todo e]; have := z_pos (.imp .bot b); show _ + s.arrows.length + 1 ≤ wZ.h (.imp .bot b) + _ + _ + s.arrows.length; omega
    · show s.facts.length + sm wZ.h { s with todo := r } ≤ _; rw [s1, sm_todo e]; omega
  | atom x =>
    simp only
    cases hx : s.facts.lookup x with
    | some q0 =>
      simp only
      have hq0 : pdep q0 ≤ M := d.facts _ (lookup_some_mem hx)
      have s1 : ∀ h : Fm → Nat, sm h { s with todo := (b, .app p q0) :: r } = h b + tot h r + tot h s.arrows := fun h => rfl
      refine ⟨M + 1, fun h I => ?_, ?_, Nat.le_succ _, ⟨fun q hq => ?_, (d.mono (Nat.le_succ _)).facts, (d.mono (Nat.le_succ _)).arrows⟩, ?_, ?_, ?_⟩
      · rw [s1, sm_todo e]; have := I.fire x b; show _ ≤ h (.imp (.atom x) b) + _ + _; omega
      · rw [s1, sm_todo e]; have := wC.isM.fire x b; show s.k + _ ≤ s.k + (wC.h (.imp (.atom x) b) + _ + _); omega
      · rcases List.mem_cons.mp hq with h1 | h1
        · subst h1; show max (pdep p) (pdep q0) + 1 ≤ M + 1; omega
        · have := hr q h1; omega
      · rw [s1, sm_todo e]; have := hc_isM.fire x b; show _ ≤ M + (hc (.imp (.atom x) b) + _ + _); omega
      · rw [s1, sm_todo e]; have := wZ.isM.fire x b
        have w : wZ.iA = 1 := rfl
        show _ + s.arrows.length + 1 ≤ wZ.h (.imp (.atom x) b) + _ + _ + s.arrows.length; omega
      · rw [s1, sm_todo e]; have := wZ.isM.fire x b; show s.facts.length + _ ≤ s.facts.length + (wZ.h (.imp (.atom x) b) + _ + _); omega
    | none => exact ⟨M, wait⟩
  | imp c c' => exact ⟨M, wait⟩
  | and c c' =>
    have s1 : ∀ (h : Fm → Nat) (k : Nat) (u : Pg), sm h { s with k := k, todo := (.imp c (.imp c' b), u) :: r } = h (.imp c (.imp c' b)) + tot h r + tot h s.arrows := fun h k u => rfl
    refine ⟨M + 3, fun h I => ?_, ?_, Nat.le_add_right _ 3, ⟨fun q hq => ?_, (d.mono (Nat.le_add_right _ 3)).facts, (d.mono (Nat.le_add_right _ 3)).arrows⟩, ?_, ?_, ?_⟩
    · rw [s1, sm_todo e]; have := I.iAnd c c' b; show _ ≤ h (.imp (.and c c') b) + _ + _; omega
    · rw [s1, sm_todo e]; have := wC.isM.iAnd c c' b
      have w : wC.iC = 2 := rfl
      show s.k + 2 + _ ≤ s.k + (wC.h (.imp (.and c c') b) + _ + _); omega
    · rcases List.mem_cons.mp hq with h1 | h1
      · subst h1; show max (pdep p) (max 1 1 + 1) + 1 + 1 + 1 ≤ M + 3; omega
      · have := hr q h1; omega
    · rw [s1, sm_todo e]; have := hc_isM.iAnd c c' b; show _ ≤ M + (hc (.imp (.and c c') b) + _ + _); omega
    · rw [s1, sm_todo e]; have := wZ.isM.iAnd c c' b
      have w : wZ.iC = 1 := rfl
      show _ + s.arrows.length + 1 ≤ wZ.h (.imp (.and c c') b) + _ + _ + s.arrows.length; omega
    · rw [s1, sm_todo e]; have := wZ.isM.iAnd c c' b; show s.facts.length + _ ≤ s.facts.length + (wZ.h (.imp (.and c c') b) + _ + _); omega
  | or c c' =>
    have s1 : ∀ (h : Fm → Nat) (k : Nat) (u v : Pg), sm h { s with k := k, todo := (.imp c' b, u) :: (.imp c b, v) :: r } = h (.imp c' b) + (h (.imp c b) + tot h r) + tot h s.arrows := fun h k u v => rfl
    refine ⟨M + 2, fun h I => ?_, ?_, Nat.le_add_right _ 2, ⟨fun q hq => ?_, (d.mono (Nat.le_add_right _ 2)).facts, (d.mono (Nat.le_add_right _ 2)).arrows⟩, ?_, ?_, ?_⟩
    · rw [s1, sm_todo e]; have := I.iOr c c' b; show _ ≤ h (.imp (.or c c') b) + _ + _; omega
    · rw [s1, sm_todo e]; have := wC.isM.iOr c c' b
      have w : wC.iO = 2 := rfl
      show s.k + 2 + _ ≤ s.k + (wC.h (.imp (.or c c') b) + _ + _); omega
    · rcases List.mem_cons.mp hq with h1 | h1
      · subst h1; show max (pdep p) (1 + 1) + 1 + 1 ≤ M + 2; omega
      · rcases List.mem_cons.mp h1 with h1 | h1
        · subst h1; show max (pdep p) (1 + 1) + 1 + 1 ≤ M + 2; omega
        · have := hr q h1; omega
    · rw [s1, sm_todo e]; have := hc_isM.iOr c c' b; show _ ≤ M + (hc (.imp (.or c c') b) + _ + _); omega
    · rw [s1, sm_todo e]; have := wZ.isM.iOr c c' b
      have w : wZ.iO = 1 := rfl
      show _ + s.arrows.length + 1 ≤ wZ.h (.imp (.or c c') b) + _ + _ + s.arrows.length; omega
    · rw [s1, sm_todo e]; have := wZ.isM.iOr c c' b; show s.facts.length + _ ≤ s.facts.length + (wZ.h (.imp (.or c c') b) + _ + _); omega

theorem siz_and {s : St} {a b : Fm} {p : Pg} {r : List (Fm × Pg)} (z : Sz s) (e : s.todo = (.and a b, p) :: r) : Sz { s with todo := (a, .fst p) :: (b, .snd p) :: r } := by
  have h := z.todo (.and a b, p) (by rw [e]; exact List.mem_cons_self ..)
  have h1 : 1 + sz a + sz b ≤ 60 := h.1
  refine ⟨fun q hq => ?_, z.facts, z.arrows⟩
  rcases List.mem_cons.mp hq with h2 | h2
  · subst h2; exact ⟨by show sz a ≤ 60; omega, h.2⟩
  · rcases List.mem_cons.mp h2 with h2 | h2
    · subst h2; exact ⟨by show sz b ≤ 60; omega, h.2⟩
    · exact z.todo q (by rw [e]; exact List.mem_cons_of_mem _ h2)
theorem siz_atom {s : St} {x : Nm} {p : Pg} {r : List (Fm × Pg)} (z : Sz s) (e : s.todo = (.atom x, p) :: r) : Sz (takeAtom x p { s with todo := r }) := by
  have hp := z.todo (.atom x, p) (by rw [e]; exact List.mem_cons_self ..)
  have hr : ∀ q ∈ r, sz q.1 ≤ 60 ∧ Small 60 q.2 := fun q hq => z.todo q (by rw [e]; exact List.mem_cons_of_mem _ hq)
  unfold takeAtom
  cases hx : s.facts.lookup x with
  | some p0 => simp only [hx]; exact ⟨hr, z.facts, z.arrows⟩
  | none =>
    simp only [hx]
    refine ⟨fun q hq => ?_, fun q hq => ?_, fun q hq => z.arrows q (List.mem_filter.mp hq).1⟩
    · rcases List.mem_append.mp hq with h1 | h1
      · rw [List.mem_reverse, List.mem_map] at h1
        obtain ⟨q0, h2, rfl⟩ := h1
        obtain ⟨h3, h4⟩ := List.mem_filter.mp h2
        have h5 := z.arrows q0 h3
        have h6 := h5.1
        rw [waits_at h4] at h6
        have h7 : 1 + 1 + sz (given q0.1) ≤ 60 := h6
        exact ⟨by show sz (given q0.1) ≤ 60; omega, h5.2, hp.2⟩
      · exact hr q h1
    · rcases List.mem_append.mp hq with h1 | h1
      · exact z.facts q h1
      · rw [List.mem_singleton] at h1; subst h1; exact hp.2
theorem siz_imp {s : St} {a b : Fm} {p : Pg} {r : List (Fm × Pg)} (z : Sz s) (e : s.todo = (.imp a b, p) :: r) : Sz (takeArrow a b p { s with todo := r }) := by
  have hp := z.todo (.imp a b, p) (by rw [e]; exact List.mem_cons_self ..)
  have hr : ∀ q ∈ r, sz q.1 ≤ 60 ∧ Small 60 q.2 := fun q hq => z.todo q (by rw [e]; exact List.mem_cons_of_mem _ hq)
  have h1 : 1 + sz a + sz b ≤ 60 := hp.1
  have wait : Sz { s with todo := r, arrows := s.arrows ++ [(Fm.imp a b, p)] } := ⟨hr, z.facts, fun q hq => by
    rcases List.mem_append.mp hq with h | h
    · exact z.arrows q h
    · rw [List.mem_singleton] at h; subst h; exact hp⟩
  unfold takeArrow
  cases a with
  | bot => exact ⟨hr, z.facts, z.arrows⟩
  | atom x =>
    simp only
    cases hx : s.facts.lookup x with
    | some q0 =>
      simp only
      refine ⟨fun q hq => ?_, z.facts, z.arrows⟩
      rcases List.mem_cons.mp hq with h | h
      · subst h; exact ⟨by show sz b ≤ 60; omega, hp.2, z.facts _ (lookup_some_mem hx)⟩
      · exact hr q h
    | none => exact wait
  | imp c c' => exact wait
  | and c c' =>
    have h2 : 1 + (1 + sz c + sz c') + sz b ≤ 60 := h1
    refine ⟨fun q hq => ?_, z.facts, z.arrows⟩
    rcases List.mem_cons.mp hq with h | h
    · subst h
      exact ⟨by show 1 + sz c + (1 + sz c' + sz b) ≤ 60; omega, by omega, by omega, hp.2, trivial, trivial⟩
    · exact hr q h
  | or c c' =>
    have h2 : 1 + (1 + sz c + sz c') + sz b ≤ 60 := h1
    refine ⟨fun q hq => ?_, z.facts, z.arrows⟩
    rcases List.mem_cons.mp hq with h | h
    · subst h
      exact ⟨by show 1 + sz c' + sz b ≤ 60; omega, by omega, hp.2, by show 1 + sz c + sz c' ≤ 60; omega, trivial⟩
    · rcases List.mem_cons.mp h with h | h
      · subst h
        exact ⟨by show 1 + sz c + sz b ≤ 60; omega, by omega, hp.2, by show 1 + sz c + sz c' ≤ 60; omega, trivial⟩
      · exact hr q h
/-- sizes at the pump's end -/
def SzR : PR → Prop
  | .dead _ p => Small 60 p
  | .case s a b p => Sz s ∧ sz a ≤ 60 ∧ sz b ≤ 60 ∧ Small 60 p
  | .opn s => Sz s
/-- the pump ends, and with what -/
def PT (M : Nat) (s : St) : PR → Prop
  | .dead k p => k ≤ s.k + sm wC.h s ∧ pdep p ≤ M + sm hc s
  | .case s' a b p => (∀ h, IsM h 0 0 0 0 0 → sm h s' + h (.or a b) ≤ sm h s) ∧ s'.k + sm wC.h s' + wC.h (.or a b) ≤ s.k + sm wC.h s ∧ s'.facts.length + sm wZ.h s' + wZ.h (.or a b) ≤ s.facts.length + sm wZ.h s ∧ ∃ M1, M ≤ M1 ∧ Dp M1 s' ∧ pdep p ≤ M1 ∧ M1 + sm hc s' + hc (.or a b) ≤ M + sm hc s
  | .opn s' => (∀ h, IsM h 0 0 0 0 0 → sm h s' ≤ sm h s) ∧ s'.k + sm wC.h s' ≤ s.k + sm wC.h s ∧ s'.facts.length + sm wZ.h s' ≤ s.facts.length + sm wZ.h s ∧ ∃ M1, M ≤ M1 ∧ Dp M1 s' ∧ M1 + sm hc s' ≤ M + sm hc s
theorem Stp.then {M M1 : Nat} {s s1 : St} (t : Stp M s M1 s1) : ∀ {r : PR}, PT M1 s1 r → PT M s r
  | .dead k p, h => ⟨Nat.le_trans h.1 t.nam, Nat.le_trans h.2 t.dep⟩
  | .case s' a b p, ⟨h1, h2, hz, M2, h3, h4, h5, h6⟩ => ⟨fun h I => Nat.le_trans (h1 h I) (t.all h I), Nat.le_trans h2 t.nam, Nat.le_trans hz t.fac, M2, Nat.le_trans t.le h3, h4, h5, Nat.le_trans h6 t.dep⟩
  | .opn s', ⟨h1, h2, hz, M2, h3, h4, h6⟩ => ⟨fun h I => Nat.le_trans (h1 h I) (t.all h I), Nat.le_trans h2 t.nam, Nat.le_trans hz t.fac, M2, Nat.le_trans t.le h3, h4, Nat.le_trans h6 t.dep⟩
theorem tot_len : ∀ l : List (Fm × Pg), l.length ≤ tot wZ.h l
  | [] => Nat.le_refl _
  | q :: l => by have ih := tot_len l; rw [tot_cons, List.length_cons]; have := z_pos q.1; omega
theorem few_ok {s : St} (h : s.facts.length + sm wZ.h s ≤ 1000) : few s = true := by
  have h1 := tot_len s.todo
  have h2 := tot_len s.arrows
  unfold sm at h
  exact decide_eq_true (by omega)
theorem pump_tot : ∀ (f : Nat) (s : St) (M : Nat), 2 ≤ M → Dp M s → Sz s → s.facts.length + sm wZ.h s ≤ 1000 → sm wZ.h s + 1 ≤ f + s.arrows.length → M + sm hc s ≤ 400 → s.k + sm wC.h s + 2 ≤ lim → ∃ r, pump f s = some r ∧ PT M s r ∧ SzR r
  | 0, s, M, hM, d, z, hw, hf, h4, hk => by
    have : s.arrows.length ≤ tot wZ.h s.arrows := by
      have : ∀ l : List (Fm × Pg), l.length ≤ tot wZ.h l := fun l => by
        induction l with
        | nil => exact Nat.le_refl _
        | cons q l ih => rw [tot_cons, List.length_cons]; have := z_pos q.1; omega
      exact this _
    unfold sm at hf
    omega
  | f + 1, s, M, hM, d, z, hw, hf, h4, hk => by
    have next : ∀ {M1 : Nat} {s1 : St}, Stp M s M1 s1 → Sz s1 → ∃ r, pump f s1 = some r ∧ PT M s r ∧ SzR r := fun {M1 s1} t z1 => by
      obtain ⟨r, e, h, h2⟩ := pump_tot f s1 M1 (Nat.le_trans hM t.le) t.dp z1 (by have := t.fac; omega) (by have := t.stp; omega) (by have := t.dep; omega) (by have := t.nam; omega)
      exact ⟨r, e, t.then h, h2⟩
    unfold pump
    rw [if_pos (few_ok hw)]
    cases e : s.todo with
    | nil => exact ⟨.opn s, rfl, ⟨fun h I => Nat.le_refl _, Nat.le_refl _, Nat.le_refl _, M, Nat.le_refl _, d, Nat.le_refl _⟩, z⟩
    | cons q r =>
      obtain ⟨A, p⟩ := q
      have hp : pdep p ≤ M := d.todo (A, p) (by rw [e]; exact List.mem_cons_self ..)
      have hz := z.todo (A, p) (by rw [e]; exact List.mem_cons_self ..)
      cases A with
      | bot => exact ⟨_, rfl, ⟨Nat.le_add_right _ _, Nat.le_trans hp (Nat.le_add_right _ _)⟩, hz.2⟩
      | or a b =>
        have h60 : 1 + sz a + sz b ≤ 60 := hz.1
        refine ⟨_, rfl, ⟨fun h I => ?_, ?_, ?_, M, Nat.le_refl _, ⟨fun q hq => d.todo q (by rw [e]; exact List.mem_cons_of_mem _ hq), d.facts, d.arrows⟩, hp, ?_⟩, ⟨fun q hq => z.todo q (by rw [e]; exact List.mem_cons_of_mem _ hq), z.facts, z.arrows⟩, by omega, by omega, hz.2⟩
        · rw [sm_todo e]; show tot h r + tot h s.arrows + h (.or a b) ≤ h (.or a b) + _ + _; omega
        · rw [sm_todo e]; show s.k + (tot wC.h r + tot wC.h s.arrows) + wC.h (.or a b) ≤ s.k + (wC.h (.or a b) + _ + _); omega
        · rw [sm_todo e]; show s.facts.length + (tot wZ.h r + tot wZ.h s.arrows) + wZ.h (.or a b) ≤ s.facts.length + (wZ.h (.or a b) + _ + _); omega
        · rw [sm_todo e]; show M + (tot hc r + tot hc s.arrows) + hc (.or a b) ≤ M + (hc (.or a b) + _ + _); omega
      | and a b => exact next (stp_and d e) (siz_and z e)
      | atom x =>
        obtain ⟨M1, t⟩ := stp_atom d e
        have hl : low s.arrows = true := by
          unfold low
          rw [List.all_eq_true]
          intro q hq
          have h1 := d.arrows q hq
          have h2 := z.arrows q hq
          exact decide_eq_true ⟨by omega, h2⟩
        show ∃ r_1, (if low s.arrows = true then _ else none) = some r_1 ∧ _
        rw [if_pos hl]
        exact next t (siz_atom z e)
      | imp a b =>
        obtain ⟨M1, t⟩ := stp_imp hM d e
        show ∃ r_1, (if s.k + 2 ≤ lim then _ else none) = some r_1 ∧ _
        rw [if_pos (by omega)]
        exact next t (siz_imp z e)
end G
end L3
end
section
set_option Elab.async false
set_option linter.all false
set_option maxRecDepth 100000
namespace L3
namespace G
open PySem

def wD : Wt := ⟨0, 0, 0, 2, 0, 0, 0, 0, 3, 2, 1, 2, 2⟩
def wN : Wt := ⟨0, 0, 0, 0, 0, 0, 0, 0, 1, 1, 0, 0, 0⟩
def wR : Wt := ⟨0, 0, 0, 1, 0, 0, 0, 0, 0, 0, 0, 1, 2⟩
def aF : Nat → Nat
  | 0 => 1
  | v + 1 => 2 * (v + 2) * aF v
def NB (v r c : Nat) : Nat := aF v * 2 ^ r * (c + 2)
def FB (n c : Nat) : Nat := 2 ^ n * (c + 4)
theorem aF_pos : ∀ v, 1 ≤ aF v
  | 0 => Nat.le_refl _
  | v + 1 => by
    have := aF_pos v
    show 1 ≤ 2 * (v + 2) * aF v
    exact Nat.mul_pos (by omega) this
theorem aF_mono : ∀ {v w : Nat}, v ≤ w → aF v ≤ aF w := by
  intro v w h
  induction h with
  | refl => exact Nat.le_refl _
  | step _ ih =>
    rename_i m _
    refine Nat.le_trans ih ?_
    show aF m ≤ 2 * (m + 2) * aF m
    exact Nat.le_mul_of_pos_left _ (by omega)
theorem NB_le {v v' r r' c c' j : Nat} (hv : v' ≤ v) (hr : r' ≤ r) (h : c' + j ≤ c) : NB v' r' c' + j ≤ NB v r c := by
  unfold NB
  have h1 : aF v' * 2 ^ r' ≤ aF v * 2 ^ r := Nat.mul_le_mul (aF_mono hv) (Nat.pow_le_pow_right (by decide) hr)
  have h2 : 1 ≤ aF v * 2 ^ r := Nat.mul_pos (aF_pos v) (Nat.pow_pos (by decide))
  have h3 : aF v' * 2 ^ r' * (c' + 2) ≤ aF v * 2 ^ r * (c' + 2) := Nat.mul_le_mul_right _ h1
  have h4 : aF v * 2 ^ r * (c' + 2) + aF v * 2 ^ r * j = aF v * 2 ^ r * (c' + 2 + j) := (Nat.mul_add _ _ _).symm
  have h5 : j ≤ aF v * 2 ^ r * j := Nat.le_mul_of_pos_left _ h2
  have h6 : aF v * 2 ^ r * (c' + 2 + j) ≤ aF v * 2 ^ r * (c + 2) := Nat.mul_le_mul_left _ (by omega)
  omega
theorem NB_two (v r c : Nat) : NB v r c + NB v r c = NB v (r + 1) c := by
  unfold NB
  rw [Nat.pow_succ, ← Nat.two_mul]
  rw [show aF v * (2 ^ r * 2) * (c + 2) = 2 * (aF v * 2 ^ r * (c + 2)) by
    rw [show aF v * (2 ^ r * 2) = 2 * (aF v * 2 ^ r) by rw [← Nat.mul_assoc, Nat.mul_comm]]
    rw [Nat.mul_assoc]]
theorem NB_ge (v r c : Nat) : c + 2 ≤ NB v r c := by
  unfold NB
  exact Nat.le_mul_of_pos_left _ (Nat.mul_pos (aF_pos v) (Nat.pow_pos (by decide)))
theorem NB_nest (v r c : Nat) : NB (v + 1) r c = 2 * ((v + 2) * NB v r c) := by
  unfold NB
  show 2 * (v + 2) * aF v * 2 ^ r * (c + 2) = _
  rw [Nat.mul_assoc 2, Nat.mul_assoc 2, Nat.mul_assoc 2, Nat.mul_assoc (v + 2), Nat.mul_assoc (v + 2)]
theorem FB_le {n n' c c' j : Nat} (hn : n' ≤ n) (h : c' + j ≤ c) : FB n' c' + j ≤ FB n c := by
  unfold FB
  have h1 : 2 ^ n' ≤ 2 ^ n := Nat.pow_le_pow_right (by decide) hn
  have h2 : 1 ≤ 2 ^ n := Nat.pow_pos (by decide)
  have h3 : 2 ^ n' * (c' + 4) ≤ 2 ^ n * (c' + 4) := Nat.mul_le_mul_right _ h1
  have h4 : 2 ^ n * (c' + 4) + 2 ^ n * j = 2 ^ n * (c' + 4 + j) := (Nat.mul_add _ _ _).symm
  have h5 : j ≤ 2 ^ n * j := Nat.le_mul_of_pos_left _ h2
  have h6 : 2 ^ n * (c' + 4 + j) ≤ 2 ^ n * (c + 4) := Nat.mul_le_mul_left _ (by omega)
  omega
theorem FB_ge (n c : Nat) : c + 4 ≤ FB n c := by
  unfold FB
  exact Nat.le_mul_of_pos_left _ (Nat.pow_pos (by decide))
theorem FB_nest {n c c1 c2 : Nat} (h : c1 + c2 ≤ 2 * c) : FB n c1 + FB n c2 ≤ FB (n + 1) c := by
  unfold FB
  rw [← Nat.mul_add, Nat.pow_succ, Nat.mul_assoc]
  exact Nat.mul_le_mul_left _ (by omega)
def NBs (s : St) (g : Fm) : Nat := NB (sm wN.h s + wN.g g) (sm wR.h s + wR.g g) (sm wC.h s + wC.g g)
def FBs (s : St) (g : Fm) : Nat := FB (sm hn s + gn g) (sm hc s + gc g)
def Ds (s : St) (g : Fm) : Nat := sm wD.h s + wD.g g
structure Ok (s : St) (g : Fm) (M : Nat) : Prop where
  m2 : 2 ≤ M
  dp : Dp M s
  sml : Sz s
  gz : sz g ≤ 60
  Z : s.facts.length + (sm wZ.h s + wZ.g g) ≤ 63
  nam : s.k + NBs s g ≤ lim
  dep : M + FBs s g ≤ 400
def Ends (f : Sv) (s : St) (g : Fm) (M : Nat) : Prop := ∃ k r, f s g = some (k, r) ∧ k + 2 ≤ s.k + NBs s g ∧ ∀ p, r = .prog p → pdep p + 3 ≤ M + FBs s g ∧ Small 60 p
/-- f ends where the depth stays d below n -/
def Tot (f : Sv) (n d : Nat) : Prop := ∀ s g M, Ds s g + d ≤ n → Ok s g M → Ends f s g M

def isN : Fm → Bool
  | .imp (.imp _ _) _ => true
  | _ => false
def nn (l : List (Fm × Pg)) : Nat := (l.filter fun q => isN q.1).length
theorem nn_le : ∀ l : List (Fm × Pg), nn l ≤ tot wN.h l
  | [] => Nat.le_refl _
  | q :: l => by
    have ih := nn_le l
    rw [tot_cons]
    unfold nn at ih ⊢
    by_cases h : isN q.1 = true
    · rw [List.filter_cons_of_pos (p := fun q : Fm × Pg => isN q.1) h, List.length_cons]
      have : 1 ≤ wN.h q.1 := by
        obtain ⟨A, p⟩ := q
        unfold isN at h
        split at h
        · rename_i a b c e
          show 1 ≤ wN.h A
          rw [show A = .imp (.imp a b) c from e, Wt.h_nest]
          have : wN.n1 = 1 := rfl
          omega
        · cases h
      omega
    · rw [List.filter_cons_of_neg (p := fun q : Fm × Pg => isN q.1) h]
      omega
def cost (Y : Nat) : Nat → Nat
  | 0 => 0
  | m + 1 => (m + 2) * Y
theorem cost_step (Y m : Nat) : Y + cost Y m ≤ cost Y (m + 1) ∧ Y + Y ≤ cost Y (m + 1) := by
  cases m with
  | zero => exact ⟨by show Y + 0 ≤ 2 * Y; omega, by show Y + Y ≤ 2 * Y; omega⟩
  | succ m => exact ⟨by show Y + (m + 2) * Y ≤ (m + 3) * Y; rw [Nat.add_mul m 3, Nat.add_mul m 2]; omega, by show Y + Y ≤ (m + 3) * Y; rw [Nat.add_mul]; omega⟩
theorem arrLoop_tot {sv0 sv1 : Sv} {n : Nat} (h0 : Tot sv0 n 3) (h1 : Tot sv1 n 2) (hbot : ∀ (s : St) (p : Pg) (r : List (Fm × Pg)) (g : Fm), s.todo = (.bot, p) :: r → few s = true → sv1 s g = some (s.k, .prog (.never g p)) ∨ sv1 s g = none) {s : St} {g : Fm} {M : Nat} (ht : s.todo = []) (hD : Ds s g ≤ n) (K : Ok s g M) (hb1 : ∀ (s : St) (p : Pg) (r : List (Fm × Pg)) (g : Fm), s.todo = (.bot, p) :: r → few s = true → sv1 s g ≠ none ∨ n < 2) :
    ∀ (r d : List (Fm × Pg)) (k : Nat) (ts : List Tree), s.arrows = d ++ r → k + cost (NB (sm wN.h s + wN.g g - 1) (sm wR.h s + wR.g g) (sm wC.h s + wC.g g)) (nn r) ≤ lim →
      ∃ k' res, arrLoop sv0 sv1 s g k d r ts = some (k', res) ∧ k' ≤ k + cost (NB (sm wN.h s + wN.g g - 1) (sm wR.h s + wR.g g) (sm wC.h s + wC.g g)) (nn r) ∧ ∀ p, res = .prog p → pdep p + 3 ≤ M + FBs s g ∧ Small 60 p := by
  intro r
  induction r with
  | nil =>
    intro d k ts e hk
    have hf : s.facts.length < 64 := by have := K.Z; omega
    exact ⟨k, .world (.node (srtS (s.facts.map (·.1))) ts), by show (if s.facts.length < 64 then _ else none) = _; rw [if_pos hf], Nat.le_add_right _ _, fun p z => nomatch z⟩
  | cons q r ih =>
    intro d k ts e hk
    have e' : s.arrows = (d ++ [q]) ++ r := by rw [e]; simp
    have hcase : (∃ a b c p, q = (.imp (.imp a b) c, p)) ∨ (isN q.1 = false ∧ arrLoop sv0 sv1 s g k d (q :: r) ts = arrLoop sv0 sv1 s g k (d ++ [q]) r ts) := by
      obtain ⟨A, p⟩ := q
      cases A with
      | imp A c =>
        cases A with
        | imp a b => exact .inl ⟨a, b, c, p, rfl⟩
        | _ => exact .inr ⟨rfl, rfl⟩
      | _ => exact .inr ⟨rfl, rfl⟩
    rcases hcase with ⟨a, b, c, p, rfl⟩ | ⟨hne, heq⟩
    · have hnn : nn ((.imp (.imp a b) c, p) :: r) = nn r + 1 := rfl
      rw [hnn] at hk ⊢
      generalize hY : NB (sm wN.h s + wN.g g - 1) (sm wR.h s + wR.g g) (sm wC.h s + wC.g g) = Y at hk ih ⊢
      obtain ⟨cs1, cs2⟩ := cost_step Y (nn r)
      have hq : (.imp (.imp a b) c, p) ∈ s.arrows := by rw [e]; simp
      have hp : pdep p ≤ M := K.dp.arrows _ hq
      have hz := K.sml.arrows _ hq
      have hz1 : 1 + (1 + sz a + sz b) + sz c ≤ 60 := hz.1
      have sub : ∀ x ∈ d ++ r, x ∈ s.arrows := fun x hx => by
        rw [e]
        rcases List.mem_append.mp hx with h1 | h1
        · exact List.mem_append_left _ h1
        · exact List.mem_append_right _ (List.mem_cons_of_mem _ h1)
      -- sums
      have S : ∀ h : Fm → Nat, sm h s = tot h d + (h (.imp (.imp a b) c) + tot h r) := fun h => by
        unfold sm; rw [ht, e, tot_append, tot_cons, tot_nil]; exact Nat.zero_add _
      have S1 : ∀ (h : Fm → Nat) (k : Nat) (A : Fm) (u : Pg), sm h ⟨k, s.facts, d ++ r, (A, u) :: s.todo⟩ = h A + (tot h d + tot h r) := fun h k A u => by
        show tot h ((A, u) :: s.todo) + tot h (d ++ r) = _
        rw [ht, tot_append, tot_cons, tot_nil]; rfl
      have wd := wD.h_nest a b c
      have wn := wN.h_nest a b c
      have wr := wR.h_nest a b c
      have wc := wC.h_nest a b c
      have wz := wZ.h_nest a b c
      have d1 : wD.n1 = 3 := rfl
      have d2 : wD.n2 = 2 := rfl
      have n1 : wN.n1 = 1 := rfl
      have n2 : wN.n2 = 1 := rfl
      have c1 : wC.n1 = 2 := rfl
      have z1 : wZ.n1 = 1 := rfl
      have z2 : wZ.n2 = 1 := rfl
      have ng0 : wN.g g + 0 = wN.g g := rfl
      -- the depth of what comes of it
      have F : FB (sm hn ⟨k + 2, s.facts, d ++ r, (.imp b c, .bind k b (.app p (.bind (k + 1) a (.name k)))) :: s.todo⟩ + gn (.imp a b)) (sm hc ⟨k + 2, s.facts, d ++ r, (.imp b c, .bind k b (.app p (.bind (k + 1) a (.name k)))) :: s.todo⟩ + gc (.imp a b)) + 4 ≤ FBs s g ∧
          (isBot c = false → FB (sm hn ⟨k + 2, s.facts, d ++ r, (.imp b c, .bind k b (.app p (.bind (k + 1) a (.name k)))) :: s.todo⟩ + gn (.imp a b)) (sm hc ⟨k + 2, s.facts, d ++ r, (.imp b c, .bind k b (.app p (.bind (k + 1) a (.name k)))) :: s.todo⟩ + gc (.imp a b)) + FB (hn c + (tot hn d + tot hn r) + gn g) (hc c + (tot hc d + tot hc r) + gc g) ≤ FBs s g) := by
        unfold FBs
        rw [S1, S1, S hn, S hc]
        by_cases hb : isBot c = true
        · have : c = .bot := by cases c <;> first | rfl | cases hb
          subst this
          obtain ⟨y1, y2⟩ := nest_bot a b
          refine ⟨FB_le (by omega) (by omega), fun z => nomatch z⟩
        · have hb' : isBot c = false := by simpa using hb
          obtain ⟨y1, y2⟩ := nest_else a b hb'
          have G1 := FB_nest (n := max (hn (.imp b c) + (tot hn d + tot hn r) + gn (.imp a b)) (hn c + (tot hn d + tot hn r) + gn g)) (c1 := hc (.imp b c) + (tot hc d + tot hc r) + gc (.imp a b)) (c2 := hc c + (tot hc d + tot hc r) + gc g) (c := tot hc d + (hc (.imp (.imp a b) c) + tot hc r) + gc g) (by omega)
          have G2 := FB_le (n := max (hn (.imp b c) + (tot hn d + tot hn r) + gn (.imp a b)) (hn c + (tot hn d + tot hn r) + gn g)) (n' := hn (.imp b c) + (tot hn d + tot hn r) + gn (.imp a b)) (c := hc (.imp b c) + (tot hc d + tot hc r) + gc (.imp a b)) (c' := hc (.imp b c) + (tot hc d + tot hc r) + gc (.imp a b)) (j := 0) (by omega) (by omega)
          have G3 := FB_le (n := max (hn (.imp b c) + (tot hn d + tot hn r) + gn (.imp a b)) (hn c + (tot hn d + tot hn r) + gn g)) (n' := hn c + (tot hn d + tot hn r) + gn g) (c := hc c + (tot hc d + tot hc r) + gc g) (c' := hc c + (tot hc d + tot hc r) + gc g) (j := 0) (by omega) (by omega)
          have G4 := FB_le (n := tot hn d + (hn (.imp (.imp a b) c) + tot hn r) + gn g) (n' := max (hn (.imp b c) + (tot hn d + tot hn r) + gn (.imp a b)) (hn c + (tot hn d + tot hn r) + gn g) + 1) (c := tot hc d + (hc (.imp (.imp a b) c) + tot hc r) + gc g) (c' := tot hc d + (hc (.imp (.imp a b) c) + tot hc r) + gc g) (j := 0) (by omega) (by omega)
          have G5 := FB_ge (hn c + (tot hn d + tot hn r) + gn g) (hc c + (tot hc d + tot hc r) + gc g)
          refine ⟨by omega, fun _ => by omega⟩
      obtain ⟨F1, F2⟩ := F
      generalize hX : FB (sm hn ⟨k + 2, s.facts, d ++ r, (.imp b c, .bind k b (.app p (.bind (k + 1) a (.name k)))) :: s.todo⟩ + gn (.imp a b)) (sm hc ⟨k + 2, s.facts, d ++ r, (.imp b c, .bind k b (.app p (.bind (k + 1) a (.name k)))) :: s.todo⟩ + gc (.imp a b)) = X at F1 F2
      have X4 : 4 ≤ X := by rw [← hX]; have := FB_ge (sm hn ⟨k + 2, s.facts, d ++ r, (.imp b c, .bind k b (.app p (.bind (k + 1) a (.name k)))) :: s.todo⟩ + gn (.imp a b)) (sm hc ⟨k + 2, s.facts, d ++ r, (.imp b c, .bind k b (.app p (.bind (k + 1) a (.name k)))) :: s.todo⟩ + gc (.imp a b)); omega
      -- the first question
      have N1 : NBs ⟨k + 2, s.facts, d ++ r, (.imp b c, .bind k b (.app p (.bind (k + 1) a (.name k)))) :: s.todo⟩ (.imp a b) + 2 ≤ Y := by
        unfold NBs
        rw [← hY, S1, S1, S1, S wN.h, S wR.h, S wC.h]
        exact NB_le (by omega) (by omega) (by omega)
      have K0 : Ok ⟨k + 2, s.facts, d ++ r, (.imp b c, .bind k b (.app p (.bind (k + 1) a (.name k)))) :: s.todo⟩ (.imp a b) (M + 2) := by
        refine ⟨by omega, ⟨fun x hx => ?_, (K.dp.mono (Nat.le_add_right _ 2)).facts, fun x hx => (K.dp.mono (Nat.le_add_right _ 2)).arrows x (sub x hx)⟩, ⟨fun x hx => ?_, K.sml.facts, fun x hx => K.sml.arrows x (sub x hx)⟩, by show 1 + sz a + sz b ≤ 60; omega, ?_, ?_, ?_⟩
        · have hx' : x ∈ (Fm.imp b c, Pg.bind k b (.app p (.bind (k + 1) a (.name k)))) :: s.todo := hx
          rw [ht, List.mem_singleton] at hx'
          subst hx'
          show max (pdep p) (1 + 1) + 1 + 1 ≤ M + 2
          have := K.m2
          omega
        · have hx' : x ∈ (Fm.imp b c, Pg.bind k b (.app p (.bind (k + 1) a (.name k)))) :: s.todo := hx
          rw [ht, List.mem_singleton] at hx'
          subst hx'
          exact ⟨by show 1 + sz b + sz c ≤ 60; omega, by omega, hz.2, by omega, trivial⟩
        · have := K.Z
          show s.facts.length + _ ≤ 63
          rw [S1]
          rw [S wZ.h] at this
          omega
        · show k + 2 + _ ≤ lim; omega
        · unfold FBs; rw [hX]; have := K.dep; omega
      have D0 : Ds ⟨k + 2, s.facts, d ++ r, (.imp b c, .bind k b (.app p (.bind (k + 1) a (.name k)))) :: s.todo⟩ (.imp a b) + 3 ≤ n := by
        unfold Ds at hD ⊢
        rw [S1]
        rw [S wD.h] at hD
        omega
      obtain ⟨k1, r1, e1, b1, p1⟩ := h0 _ _ _ D0 K0
      have b1' : k1 + 2 ≤ k + 2 + NBs ⟨k + 2, s.facts, d ++ r, (.imp b c, .bind k b (.app p (.bind (k + 1) a (.name k)))) :: s.todo⟩ (.imp a b) := b1
      unfold arrLoop
      rw [if_pos (by omega), e1]
      cases r1 with
      | world t =>
        obtain ⟨k', res, e2, b2, p2⟩ := ih (d ++ [(.imp (.imp a b) c, p)]) k1 (ts ++ [t]) e' (by omega)
        exact ⟨k', res, e2, by omega, p2⟩
      | prog q1 =>
        have p1' : pdep q1 + 3 ≤ M + 2 + X := by have := (p1 q1 rfl).1; unfold FBs at this; rw [hX] at this; exact this
        have z1' : Small 60 q1 := (p1 q1 rfl).2
        have D1 : Ds ⟨k1, s.facts, d ++ r, (c, .app p q1) :: s.todo⟩ g + 2 ≤ n := by
          unfold Ds at hD ⊢
          rw [S1]
          rw [S wD.h] at hD
          omega
        by_cases hb : isBot c = true
        · have : c = .bot := by cases c <;> first | rfl | cases hb
          subst this
          have e2 : sv1 ⟨k1, s.facts, d ++ r, (.bot, .app p q1) :: s.todo⟩ g = some (k1, .prog (.never g (.app p q1))) := by
            have hfew : few ⟨k1, s.facts, d ++ r, (.bot, .app p q1) :: s.todo⟩ = true := few_ok (by
              have := K.Z
              show s.facts.length + _ ≤ 1000
              rw [S1]
              rw [S wZ.h] at this
              have : wZ.h .bot = 1 := rfl
              have := z_pos (.imp (.imp a b) .bot)
              omega)
            rcases hbot ⟨k1, s.facts, d ++ r, (.bot, .app p q1) :: s.todo⟩ (.app p q1) s.todo g rfl hfew with h | h
            · exact h
            · rcases hb1 ⟨k1, s.facts, d ++ r, (.bot, .app p q1) :: s.todo⟩ (.app p q1) s.todo g rfl hfew with h2 | h2
              · exact absurd h h2
              · unfold Ds at D1; omega
          refine ⟨k1, _, e2, by omega, fun p' hp' => ?_⟩
          cases hp'
          refine ⟨?_, K.gz, hz.2, z1'⟩
          show max (pdep p) (pdep q1) + 1 + 1 + 3 ≤ _
          omega
        · have hb' : isBot c = false := by simpa using hb
          have F2' := F2 hb'
          have N2 : NBs ⟨k1, s.facts, d ++ r, (c, .app p q1) :: s.todo⟩ g ≤ Y := by
            unfold NBs
            rw [← hY, S1, S1, S1, S wN.h, S wR.h, S wC.h]
            have := NB_le (v := tot wN.h d + (wN.h (.imp (.imp a b) c) + tot wN.h r) + wN.g g - 1) (v' := wN.h c + (tot wN.h d + tot wN.h r) + wN.g g) (r := tot wR.h d + (wR.h (.imp (.imp a b) c) + tot wR.h r) + wR.g g) (r' := wR.h c + (tot wR.h d + tot wR.h r) + wR.g g) (c := tot wC.h d + (wC.h (.imp (.imp a b) c) + tot wC.h r) + wC.g g) (c' := wC.h c + (tot wC.h d + tot wC.h r) + wC.g g) (j := 0) (by omega) (by omega) (by omega)
            omega
          have K1 : Ok ⟨k1, s.facts, d ++ r, (c, .app p q1) :: s.todo⟩ g (M + X) := by
            refine ⟨by have := K.m2; omega, ⟨fun x hx => ?_, (K.dp.mono (Nat.le_add_right _ X)).facts, fun x hx => (K.dp.mono (Nat.le_add_right _ X)).arrows x (sub x hx)⟩, ⟨fun x hx => ?_, K.sml.facts, fun x hx => K.sml.arrows x (sub x hx)⟩, K.gz, ?_, ?_, ?_⟩
            · have hx' : x ∈ (c, Pg.app p q1) :: s.todo := hx
              rw [ht, List.mem_singleton] at hx'
              subst hx'
              show max (pdep p) (pdep q1) + 1 ≤ M + X
              omega
            · have hx' : x ∈ (c, Pg.app p q1) :: s.todo := hx
              rw [ht, List.mem_singleton] at hx'
              subst hx'
              exact ⟨by show sz c ≤ 60; omega, hz.2, z1'⟩
            · have := K.Z
              show s.facts.length + _ ≤ 63
              rw [S1]
              rw [S wZ.h] at this
              omega
            · show k1 + _ ≤ lim; omega
            · unfold FBs; rw [S1, S1]; have := K.dep; omega
          obtain ⟨k2, r2, e2, b2, p2⟩ := h1 _ _ _ D1 K1
          have b2' : k2 + 2 ≤ k1 + NBs ⟨k1, s.facts, d ++ r, (c, .app p q1) :: s.todo⟩ g := b2
          refine ⟨k2, r2, e2, by omega, fun p' hp' => ?_⟩
          have := (p2 p' hp').1
          unfold FBs at this
          rw [S1, S1] at this
          exact ⟨by omega, (p2 p' hp').2⟩
    · rw [heq]
      have hnn : nn (q :: r) = nn r := by unfold nn; rw [List.filter_cons_of_neg (p := fun q : Fm × Pg => isN q.1) (by rw [hne]; decide)]
      rw [hnn] at hk ⊢
      exact ih (d ++ [q]) k ts e' hk
end G
end L3
end
section
set_option Elab.async false
set_option linter.all false
set_option maxRecDepth 100000
set_option maxHeartbeats 0
namespace L3
namespace G
open PySem

theorem le_mx {f : Fm → Nat} {x a b : Fm} (h : x = a ∨ x = b) : f x ≤ max (f a) (f b) := by
  rcases h with r | r
  · rw [r]; exact Nat.le_max_left ..
  · rw [r]; exact Nat.le_max_right ..
theorem sv_bot (m : Nat) {s : St} {p : Pg} {r : List (Fm × Pg)} {g : Fm} (e : s.todo = (.bot, p) :: r) (hf : few s = true) : sv (m + 3) s g = some (s.k, .prog (.never g p)) := by
  unfold sv
  have : pump 100000 s = some (.dead s.k p) := by
    show pump (99999 + 1) s = _
    unfold pump
    rw [if_pos hf, e]
  rw [this]
theorem cost_fin (v r c Y : Nat) (hY : Y = NB (v - 1) r c) {m : Nat} (hm : m ≤ v) : cost Y m + 2 ≤ NB v r c ∧ (cost Y m + cost Y m ≤ NB v r c) := by
  have g := NB_ge v r c
  cases m with
  | zero => exact ⟨by show 0 + 2 ≤ _; omega, by show 0 + 0 ≤ _; omega⟩
  | succ m =>
    cases v with
    | zero => omega
    | succ v =>
      rw [NB_nest]
      have : Y = NB v r c := hY
      rw [← this]
      have g2 := NB_ge v r c
      rw [← this] at g2
      show (m + 2) * Y + 2 ≤ _ ∧ (m + 2) * Y + (m + 2) * Y ≤ _
      have h1 : (m + 2) * Y ≤ (v + 2) * Y := Nat.mul_le_mul_right _ (by omega)
      have h2 : (v + 2) * Y = v * Y + 2 * Y := Nat.add_mul _ _ _
      omega
theorem openG_tot {sv0 sv1 : Sv} {n : Nat} (h0 : Tot sv0 n 3) (h1 : Tot sv1 n 2) (hb : 2 ≤ n → ∀ (s : St) (p : Pg) (r : List (Fm × Pg)) (g : Fm), s.todo = (.bot, p) :: r → few s = true → sv1 s g = some (s.k, .prog (.never g p))) (hb0 : n < 2 → ∀ s g, sv1 s g = none) {s : St} {g : Fm} {M : Nat} (ht : s.todo = []) (hD : Ds s g ≤ n) (K : Ok s g M)
    (hg : match g with | .imp _ _ => False | .and _ _ => False | _ => True) : Ends (openG sv0 sv1) s g M := by
  have L := fun k ts => arrLoop_tot h0 h1 (fun s p r g e hf => by
    by_cases hn : 2 ≤ n
    · exact .inl (hb hn s p r g e hf)
    · exact .inr (hb0 (by omega) s g)) ht hD K (fun s p r g e hf => by
    by_cases hn : 2 ≤ n
    · exact .inl (by rw [hb hn s p r g e hf]; exact fun z => nomatch z)
    · exact .inr (by omega)) s.arrows [] k ts rfl
  have hnn : nn s.arrows ≤ sm wN.h s + wN.g g := by have := nn_le s.arrows; unfold sm; omega
  obtain ⟨cf1, cf2⟩ := cost_fin (sm wN.h s + wN.g g) (sm wR.h s + wR.g g) (sm wC.h s + wC.g g) _ rfl hnn
  have nam := K.nam
  have plain : (∀ a b, g ≠ .or a b) → openG sv0 sv1 s g = arrLoop sv0 sv1 s g s.k [] s.arrows [] → Ends (openG sv0 sv1) s g M := fun _ e => by
    obtain ⟨k', res, e1, e2, e3⟩ := L s.k [] (by unfold NBs at nam; omega)
    exact ⟨k', res, by rw [e, e1], by unfold NBs; omega, e3⟩
  cases g with
  | bot => exact plain (fun _ _ z => nomatch z) rfl
  | atom x => exact plain (fun _ _ z => nomatch z) rfl
  | imp => exact hg.elim
  | and => exact hg.elim
  | or a b =>
    have dr := wD.g_or a b
    have dg : wD.go = 2 := rfl
    have zr := wZ.g_or a b
    have zg : wZ.go = 0 := rfl
    have nr := wN.g_or a b
    have ng : wN.go = 0 := rfl
    have rr := wR.g_or a b
    have rg : wR.go = 2 := rfl
    have cr := wC.g_or a b
    have cg : wC.go = 0 := rfl
    have er := gn_or a b
    have fr := gc_or a b
    -- what a side may take
    generalize hS : NB (sm wN.h s + wN.g (.or a b)) (sm wR.h s + max (wR.g a) (wR.g b)) (sm wC.h s + wC.g (.or a b)) = Q
    have q4 : Q + Q + (Q + Q) = NBs s (.or a b) := by
      rw [← hS, NB_two, NB_two]
      unfold NBs
      rw [show sm wR.h s + wR.g (.or a b) = sm wR.h s + max (wR.g a) (wR.g b) + 1 + 1 by omega]
    have q2 : 2 ≤ Q := by have := NB_ge (sm wN.h s + wN.g (.or a b)) (sm wR.h s + max (wR.g a) (wR.g b)) (sm wC.h s + wC.g (.or a b)); omega
    have side : ∀ (k : Nat) (x : Fm), k + Q ≤ lim → x = a ∨ x = b → Ok { s with k := k } x M ∧ Ds { s with k := k } x + 2 ≤ n ∧ NBs { s with k := k } x ≤ Q ∧ FBs { s with k := k } x + 1 ≤ FBs s (.or a b) := fun k x hk hx => by
      have lD : wD.g x ≤ max (wD.g a) (wD.g b) := le_mx hx
      have lZ : wZ.g x ≤ max (wZ.g a) (wZ.g b) := le_mx hx
      have lN : wN.g x ≤ max (wN.g a) (wN.g b) := le_mx hx
      have lR : wR.g x ≤ max (wR.g a) (wR.g b) := le_mx hx
      have lC : wC.g x ≤ max (wC.g a) (wC.g b) := le_mx hx
      have ln : gn x ≤ max (gn a) (gn b) := le_mx hx
      have lc : gc x ≤ max (gc a) (gc b) := le_mx hx
      have B : NBs { s with k := k } x ≤ Q := by
        rw [← hS]
        exact NB_le (j := 0) (show sm wN.h s + _ ≤ _ by omega) (show sm wR.h s + _ ≤ _ by omega) (show sm wC.h s + _ + 0 ≤ _ by omega)
      have Fq : FBs { s with k := k } x + 1 ≤ FBs s (.or a b) := FB_le (show sm hn s + gn x ≤ sm hn s + gn (.or a b) by omega) (show sm hc s + gc x + 1 ≤ sm hc s + gc (.or a b) by omega)
      refine ⟨⟨K.m2, ⟨K.dp.todo, K.dp.facts, K.dp.arrows⟩, ⟨K.sml.todo, K.sml.facts, K.sml.arrows⟩, ?_, ?_, ?_, ?_⟩, ?_, B, Fq⟩
      · have h1 : 1 + sz a + sz b ≤ 60 := K.gz
        rcases hx with r | r
        · rw [r]; omega
        · rw [r]; omega
      · have := K.Z; show s.facts.length + (sm wZ.h s + _) ≤ _; omega
      · show k + _ ≤ lim; omega
      · have := K.dep; omega
      · unfold Ds at hD ⊢; show sm wD.h s + _ + 2 ≤ n; omega
    obtain ⟨A1, A2, A3, A4⟩ := side s.k a (by omega) (.inl rfl)
    obtain ⟨k1, r1, e1, b1, p1⟩ := h1 _ _ _ A2 A1
    have e1' : sv1 s a = some (k1, r1) := e1
    have b1' : k1 + 2 ≤ s.k + Q := Nat.le_trans b1 (Nat.add_le_add_left A3 _)
    have p1' : ∀ p, r1 = .prog p → pdep p + 3 + 1 ≤ M + FBs s (.or a b) := fun p h => Nat.le_trans (Nat.add_le_add_right (p1 p h).1 1) (Nat.add_le_add_left A4 M)
    unfold Ends openG
    simp only [e1']
    cases r1 with
    | prog p =>
      refine ⟨k1, _, rfl, by omega, fun p' hp' => ?_⟩
      cases hp'
      have := p1' p rfl
      refine ⟨?_, K.gz, (p1 p rfl).2⟩
      show pdep p + 1 + 3 ≤ _
      omega
    | world t =>
      obtain ⟨B1, B2, B3, B4⟩ := side k1 b (by omega) (.inr rfl)
      obtain ⟨k2, r2, e2, b2, p2⟩ := h1 _ _ _ B2 B1
      have b2' : k2 + 2 ≤ k1 + Q := Nat.le_trans b2 (Nat.add_le_add_left B3 _)
      have p2' : ∀ p, r2 = .prog p → pdep p + 3 + 1 ≤ M + FBs s (.or a b) := fun p h => Nat.le_trans (Nat.add_le_add_right (p2 p h).1 1) (Nat.add_le_add_left B4 M)
      simp only [e2]
      cases r2 with
      | prog p =>
        refine ⟨k2, _, rfl, by omega, fun p' hp' => ?_⟩
        cases hp'
        have := p2' p rfl
        refine ⟨?_, K.gz, (p2 p rfl).2⟩
        show pdep p + 1 + 3 ≤ _
        omega
      | world t2 =>
        have hh : cost (NB (sm wN.h s + wN.g (.or a b) - 1) (sm wR.h s + wR.g (.or a b)) (sm wC.h s + wC.g (.or a b))) (nn s.arrows) ≤ Q + Q := by unfold NBs at q4; omega
        obtain ⟨k', res, e3, b3, p3⟩ := L k2 [t, t2] (by omega)
        exact ⟨k', res, e3, by omega, p3⟩
theorem sv_tot : ∀ n : Nat, Tot (sv (n + 3)) n 0 := by
  intro n
  induction n using Nat.strongRecOn with
  | _ n ih =>
  have T : ∀ d m, m + 3 + d = n + 3 → 1 ≤ d → Tot (sv (m + 3)) n d := fun d m hm hd s g M hD K => ih m (by omega) s g M (by omega) K
  have T0 : Tot (sv n) n 3 := fun s g M hD K => by
    have : n = (n - 3) + 3 := by omega
    rw [this]
    exact T 3 (n - 3) (by omega) (by decide) s g M hD K
  have T1 : Tot (sv (n + 1)) n 2 := fun s g M hD K => by
    have : n + 1 = (n - 2) + 3 := by omega
    rw [this]
    exact T 2 (n - 2) (by omega) (by decide) s g M hD K
  have T2 : Tot (sv (n + 2)) n 1 := fun s g M hD K => by
    have : n + 2 = (n - 1) + 3 := by omega
    rw [this]
    exact T 1 (n - 1) (by omega) (by decide) s g M hD K
  have hb : 2 ≤ n → ∀ (s : St) (p : Pg) (r : List (Fm × Pg)) (g : Fm), s.todo = (.bot, p) :: r → few s = true → sv (n + 1) s g = some (s.k, .prog (.never g p)) := fun hn s p r g e hf => by
    have : n + 1 = (n - 2) + 3 := by omega
    rw [this]
    exact sv_bot _ e hf
  have hb0 : n < 2 → ∀ s g, sv (n + 1) s g = none := fun hn s g => by
    have : n = 0 ∨ n = 1 := by omega
    rcases this with h | h
    · subst h; rfl
    · subst h; rfl
  intro s g M hD K
  have nam := K.nam
  have g1 := NB_ge (sm wN.h s + wN.g g) (sm wR.h s + wR.g g) (sm wC.h s + wC.g g)
  have f1 := FB_ge (sm hn s + gn g) (sm hc s + gc g)
  have dep := K.dep
  have Z := K.Z
  obtain ⟨r, e, pt, ps⟩ := pump_tot 100000 s M K.m2 K.dp K.sml (by omega) (by omega) (by unfold FBs at dep; omega) (by unfold NBs at nam; omega)
  unfold Ends sv
  rw [e]
  cases r with
  | dead k p =>
    obtain ⟨h1, h2⟩ := pt
    refine ⟨k, _, rfl, by unfold NBs; omega, fun p' hp' => ?_⟩
    cases hp'
    refine ⟨?_, K.gz, ps⟩
    show pdep p + 1 + 3 ≤ _
    unfold FBs; omega
  | case s1 a b p =>
    obtain ⟨h1, h2, hz, M1, h3, h4, h5, h6⟩ := pt
    obtain ⟨ps1, ps2, ps3, ps4⟩ := ps
    have xD := h1 wD.h wD.isM0
    have xN := h1 wN.h wN.isM0
    have xR := h1 wR.h wR.isM0
    have xZ := h1 wZ.h wZ.isM0
    have xn := h1 hn hn_isM.weak
    have dr := wD.h_or a b
    have dg : wD.or = 2 := rfl
    have nr := wN.h_or a b
    have ng : wN.or = 0 := rfl
    have rr := wR.h_or a b
    have rg : wR.or = 1 := rfl
    have cr := wC.h_or a b
    have cg : wC.or = 2 := rfl
    have zr := wZ.h_or a b
    have zg : wZ.or = 1 := rfl
    have er := hn_or a b
    have fr := hc_or a b
    generalize hS : NB (sm wN.h s1 + max (wN.h a) (wN.h b) + wN.g g) (sm wR.h s1 + max (wR.h a) (wR.h b) + wR.g g) (sm wC.h s1 + max (wC.h a) (wC.h b) + wC.g g) = Q
    have cC : sm wC.h s1 + max (wC.h a) (wC.h b) + 2 + s1.k ≤ s.k + sm wC.h s := by omega
    have q2 : Q + Q + s1.k + 2 ≤ s.k + NBs s g := by
      rw [← hS, NB_two]
      unfold NBs
      have c1 := IsM.weak wC.isM
      have xC := h1 wC.h c1
      have := NB_le (v := sm wN.h s + wN.g g) (v' := sm wN.h s1 + max (wN.h a) (wN.h b) + wN.g g) (r := sm wR.h s + wR.g g) (r' := sm wR.h s1 + max (wR.h a) (wR.h b) + wR.g g + 1) (c := sm wC.h s + wC.g g) (c' := sm wC.h s1 + max (wC.h a) (wC.h b) + wC.g g) (j := (sm wC.h s + wC.g g) - (sm wC.h s1 + max (wC.h a) (wC.h b) + wC.g g)) (by omega) (by omega) (by omega)
      omega
    have qge : 2 ≤ Q := by have := NB_ge (sm wN.h s1 + max (wN.h a) (wN.h b) + wN.g g) (sm wR.h s1 + max (wR.h a) (wR.h b) + wR.g g) (sm wC.h s1 + max (wC.h a) (wC.h b) + wC.g g); omega
    have side : ∀ (k : Nat) (x : Fm), k + 1 + Q ≤ lim → x = a ∨ x = b → Ok { s1 with k := k + 1, todo := (x, .name k) :: s1.todo } g M1 ∧ Ds { s1 with k := k + 1, todo := (x, .name k) :: s1.todo } g + 2 ≤ n ∧ NBs { s1 with k := k + 1, todo := (x, .name k) :: s1.todo } g ≤ Q ∧ M1 + FBs { s1 with k := k + 1, todo := (x, .name k) :: s1.todo } g + 2 ≤ M + FBs s g := fun k x hk hx => by
      have S1 : ∀ h : Fm → Nat, sm h { s1 with k := k + 1, todo := (x, .name k) :: s1.todo } = h x + sm h s1 := fun h => by
        show tot h ((x, .name k) :: s1.todo) + tot h s1.arrows = _
        rw [tot_cons]; unfold sm; show h x + tot h s1.todo + _ = _; omega
      have lD : wD.h x ≤ max (wD.h a) (wD.h b) := le_mx hx
      have lZ : wZ.h x ≤ max (wZ.h a) (wZ.h b) := le_mx hx
      have lN : wN.h x ≤ max (wN.h a) (wN.h b) := le_mx hx
      have lR : wR.h x ≤ max (wR.h a) (wR.h b) := le_mx hx
      have lC : wC.h x ≤ max (wC.h a) (wC.h b) := le_mx hx
      have ln : hn x ≤ max (hn a) (hn b) := le_mx hx
      have lc : hc x ≤ max (hc a) (hc b) := le_mx hx
      have B : NBs { s1 with k := k + 1, todo := (x, .name k) :: s1.todo } g ≤ Q := by
        unfold NBs
        rw [← hS, S1, S1, S1]
        exact NB_le (j := 0) (by omega) (by omega) (by omega)
      have Fq : M1 + FBs { s1 with k := k + 1, todo := (x, .name k) :: s1.todo } g + 2 ≤ M + FBs s g := by
        unfold FBs
        rw [S1, S1]
        have := FB_le (n := sm hn s + gn g) (n' := hn x + sm hn s1 + gn g) (c := sm hc s + gc g) (c' := hc x + sm hc s1 + gc g) (j := (sm hc s + gc g) - (hc x + sm hc s1 + gc g)) (by omega) (by omega)
        omega
      refine ⟨⟨Nat.le_trans K.m2 h3, ⟨fun q hq => ?_, h4.facts, h4.arrows⟩, ⟨fun q hq => ?_, ps1.facts, ps1.arrows⟩, K.gz, ?_, ?_, by omega⟩, ?_, B, Fq⟩
      · rcases List.mem_cons.mp hq with h | h
        · subst h; show 1 ≤ M1; have := K.m2; omega
        · exact h4.todo q h
      · rcases List.mem_cons.mp hq with h | h
        · subst h
          rcases hx with r | r
          · rw [r]; exact ⟨ps2, trivial⟩
          · rw [r]; exact ⟨ps3, trivial⟩
        · exact ps1.todo q h
      · show s1.facts.length + _ ≤ 63; rw [S1]; omega
      · show k + 1 + _ ≤ lim; omega
      · unfold Ds at hD ⊢; rw [S1]; omega
    obtain ⟨A1, A2, A3, A4⟩ := side s1.k a (by omega) (.inl rfl)
    obtain ⟨k1, r1, e1, b1, p1⟩ := T1 _ _ _ A2 A1
    have b1' : k1 + 2 ≤ s1.k + 1 + NBs { s1 with k := s1.k + 1, todo := (a, .name s1.k) :: s1.todo } g := b1
    simp only
    rw [if_pos (by omega)]
    simp only [e1]
    cases r1 with
    | world t => exact ⟨k1, _, rfl, by omega, fun p' hp' => nomatch hp'⟩
    | prog pa =>
      obtain ⟨B1, B2, B3, B4⟩ := side k1 b (by omega) (.inr rfl)
      obtain ⟨k2, r2, e2, b2, p2⟩ := T1 _ _ _ B2 B1
      have b2' : k2 + 2 ≤ k1 + 1 + NBs { s1 with k := k1 + 1, todo := (b, .name k1) :: s1.todo } g := b2
      simp only
      rw [if_pos (by omega)]
      simp only [e2]
      cases r2 with
      | world t => exact ⟨k2, _, rfl, by omega, fun p' hp' => nomatch hp'⟩
      | prog pb =>
        refine ⟨k2, _, rfl, by omega, fun p' hp' => ?_⟩
        cases hp'
        have y1 := (p1 pa rfl).1
        have y2 := (p2 pb rfl).1
        have y3 := FB_ge (sm hn { s1 with k := k1 + 1, todo := (b, .name k1) :: s1.todo } + gn g) (sm hc { s1 with k := k1 + 1, todo := (b, .name k1) :: s1.todo } + gc g)
        have y4 : 4 ≤ FBs { s1 with k := k1 + 1, todo := (b, .name k1) :: s1.todo } g := by unfold FBs; omega
        refine ⟨?_, ps4, (p1 pa rfl).2, (p2 pb rfl).2⟩
        show max (pdep p) (max (pdep pa) (pdep pb)) + 2 + 3 ≤ _
        omega
  | opn s1 =>
    obtain ⟨h1, h2, hz, M1, h3, h4, h6⟩ := pt
    have xD := h1 wD.h wD.isM0
    have xN := h1 wN.h wN.isM0
    have xR := h1 wR.h wR.isM0
    have xZ := h1 wZ.h wZ.isM0
    have xC := h1 wC.h wC.isM0
    have xn := h1 hn hn_isM.weak
    have xc := h1 hc hc_isM.weak
    have ht : s1.todo = [] := by
      have : ∀ (f : Nat) (s : St) (s1 : St), pump f s = some (.opn s1) → s1.todo = [] := by
        intro f
        induction f with
        | zero => intro s s1 h; cases h
        | succ f ih =>
          intro s s1 h
          unfold pump at h
          split at h
          rotate_left
          · cases h
          split at h
          · rename_i e; cases h; exact e
          · cases h
          · cases h
          · exact ih _ _ h
          · split at h
            · exact ih _ _ h
            · cases h
          · split at h
            · exact ih _ _ h
            · cases h
      exact this _ _ _ e
    have nb : s1.k + NBs s1 g ≤ s.k + NBs s g := by
      unfold NBs
      have := NB_le (v := sm wN.h s + wN.g g) (v' := sm wN.h s1 + wN.g g) (r := sm wR.h s + wR.g g) (r' := sm wR.h s1 + wR.g g) (c := sm wC.h s + wC.g g) (c' := sm wC.h s1 + wC.g g) (j := sm wC.h s - sm wC.h s1) (by omega) (by omega) (by omega)
      omega
    have fb : M1 + FBs s1 g ≤ M + FBs s g := by
      unfold FBs
      have := FB_le (n := sm hn s + gn g) (n' := sm hn s1 + gn g) (c := sm hc s + gc g) (c' := sm hc s1 + gc g) (j := sm hc s - sm hc s1) (by omega) (by omega)
      omega
    have ps1 : Sz s1 := ps
    have K1 : Ok s1 g M1 := ⟨Nat.le_trans K.m2 h3, h4, ps1, K.gz, by omega, by omega, by omega⟩
    have D1 : Ds s1 g ≤ n := by unfold Ds at hD ⊢; omega
    have lift : ∀ {f : Sv}, Ends f s1 g M1 → ∃ k r, f s1 g = some (k, r) ∧ k + 2 ≤ s.k + NBs s g ∧ ∀ p, r = .prog p → pdep p + 3 ≤ M + FBs s g ∧ Small 60 p := fun {f} ⟨k, r, a, b, c⟩ => ⟨k, r, a, by omega, fun p hp => ⟨by have := (c p hp).1; omega, (c p hp).2⟩⟩
    have nge := NB_ge (sm wN.h s1 + wN.g g) (sm wR.h s1 + wR.g g) (sm wC.h s1 + wC.g g)
    have fge := FB_ge (sm hn s1 + gn g) (sm hc s1 + gc g)
    have nge' : 2 ≤ NBs s1 g := by unfold NBs; omega
    have fge' : 4 ≤ FBs s1 g := by unfold FBs; omega
    simp only
    cases g with
    | bot => exact lift (openG_tot T0 T1 hb hb0 ht D1 K1 trivial)
    | or a b => exact lift (openG_tot T0 T1 hb hb0 ht D1 K1 trivial)
    | atom x =>
      simp only
      cases hx : s1.facts.lookup x with
      | some p =>
        simp only
        refine ⟨s1.k, _, rfl, by omega, fun p' hp' => ?_⟩
        cases hp'
        have := h4.facts _ (lookup_some_mem hx)
        have : pdep p ≤ M1 := this
        exact ⟨by omega, ps1.facts _ (lookup_some_mem hx)⟩
      | none =>
        simp only
        exact lift (openG_tot T0 T1 hb hb0 ht D1 K1 trivial)
    | imp a b =>
      have dr := wD.g_imp a b
      have dg : wD.gi = 1 := rfl
      have zr := wZ.g_imp a b
      have nr := wN.g_imp a b
      have rr := wR.g_imp a b
      have cr := wC.g_imp a b
      have cg : wC.gi = 1 := rfl
      have er := gn_imp a b
      have fr := gc_imp a b
      have S1 : ∀ h : Fm → Nat, sm h { s1 with k := s1.k + 1, todo := (a, .name s1.k) :: s1.todo } = h a + sm h s1 := fun h => by
        show tot h ((a, .name s1.k) :: s1.todo) + tot h s1.arrows = _
        rw [tot_cons]; unfold sm; show h a + tot h s1.todo + _ = _; omega
      have B : NBs { s1 with k := s1.k + 1, todo := (a, .name s1.k) :: s1.todo } b + 1 ≤ NBs s1 (.imp a b) := by
        unfold NBs; rw [S1, S1, S1]
        exact NB_le (by omega) (by omega) (by omega)
      have Fq : FBs { s1 with k := s1.k + 1, todo := (a, .name s1.k) :: s1.todo } b + 1 ≤ FBs s1 (.imp a b) := by
        unfold FBs; rw [S1, S1]
        exact FB_le (by omega) (by omega)
      have K2 : Ok { s1 with k := s1.k + 1, todo := (a, .name s1.k) :: s1.todo } b M1 := by
        have h60 : 1 + sz a + sz b ≤ 60 := K.gz
        refine ⟨K1.m2, ⟨fun q hq => ?_, h4.facts, h4.arrows⟩, ⟨fun q hq => ?_, ps1.facts, ps1.arrows⟩, by omega, ?_, ?_, ?_⟩
        · rcases List.mem_cons.mp hq with h | h
          · subst h; show 1 ≤ M1; have := K1.m2; omega
          · exact h4.todo q h
        · rcases List.mem_cons.mp hq with h | h
          · subst h; exact ⟨by show sz a ≤ 60; omega, trivial⟩
          · exact ps1.todo q h
        · show s1.facts.length + _ ≤ 63; rw [S1]; have := K1.Z; omega
        · show s1.k + 1 + _ ≤ lim; omega
        · have := K1.dep; omega
      have D2 : Ds { s1 with k := s1.k + 1, todo := (a, .name s1.k) :: s1.todo } b + 1 ≤ n := by unfold Ds at D1 ⊢; rw [S1]; omega
      obtain ⟨k1, r1, e1, b1, p1⟩ := T2 _ _ _ D2 K2
      have b1' : k1 + 2 ≤ s1.k + 1 + NBs { s1 with k := s1.k + 1, todo := (a, .name s1.k) :: s1.todo } b := b1
      simp only
      rw [if_pos (by omega)]
      simp only [e1]
      cases r1 with
      | world t => exact ⟨k1, _, rfl, by omega, fun p' hp' => nomatch hp'⟩
      | prog p =>
        refine ⟨k1, _, rfl, by omega, fun p' hp' => ?_⟩
        cases hp'
        have := (p1 p rfl).1
        have h60 : 1 + sz a + sz b ≤ 60 := K.gz
        refine ⟨?_, by omega, (p1 p rfl).2⟩
        show pdep p + 1 + 3 ≤ _
        omega
    | and a b =>
      have dr := wD.g_and a b
      have dg : wD.ga = 2 := rfl
      have zr := wZ.g_and a b
      have zg : wZ.ga = 0 := rfl
      have nr := wN.g_and a b
      have ng : wN.ga = 0 := rfl
      have rr := wR.g_and a b
      have rg : wR.ga = 1 := rfl
      have cr := wC.g_and a b
      have cg : wC.ga = 0 := rfl
      have er := gn_and a b
      have fr := gc_and a b
      generalize hS : NB (sm wN.h s1 + wN.g (.and a b)) (sm wR.h s1 + max (wR.g a) (wR.g b)) (sm wC.h s1 + wC.g (.and a b)) = Q
      have q2 : Q + Q = NBs s1 (.and a b) := by
        rw [← hS, NB_two]
        unfold NBs
        rw [show sm wR.h s1 + wR.g (.and a b) = sm wR.h s1 + max (wR.g a) (wR.g b) + 1 by omega]
      have side : ∀ (k : Nat) (x : Fm), k + Q ≤ lim → x = a ∨ x = b → Ok { s1 with k := k } x M1 ∧ Ds { s1 with k := k } x + 2 ≤ n ∧ NBs { s1 with k := k } x ≤ Q ∧ FBs { s1 with k := k } x + 1 ≤ FBs s1 (.and a b) := fun k x hk hx => by
        have lD : wD.g x ≤ max (wD.g a) (wD.g b) := le_mx hx
        have lZ : wZ.g x ≤ max (wZ.g a) (wZ.g b) := le_mx hx
        have lN : wN.g x ≤ max (wN.g a) (wN.g b) := le_mx hx
        have lR : wR.g x ≤ max (wR.g a) (wR.g b) := le_mx hx
        have lC : wC.g x ≤ max (wC.g a) (wC.g b) := le_mx hx
        have ln : gn x ≤ max (gn a) (gn b) := le_mx hx
        have lc : gc x ≤ max (gc a) (gc b) := le_mx hx
        have B : NBs { s1 with k := k } x ≤ Q := by
          rw [← hS]
          exact NB_le (j := 0) (show sm wN.h s1 + _ ≤ _ by omega) (show sm wR.h s1 + _ ≤ _ by omega) (show sm wC.h s1 + _ + 0 ≤ _ by omega)
        have Fq : FBs { s1 with k := k } x + 1 ≤ FBs s1 (.and a b) := FB_le (show sm hn s1 + gn x ≤ sm hn s1 + gn (.and a b) by omega) (show sm hc s1 + gc x + 1 ≤ sm hc s1 + gc (.and a b) by omega)
        refine ⟨⟨K1.m2, ⟨h4.todo, h4.facts, h4.arrows⟩, ⟨ps1.todo, ps1.facts, ps1.arrows⟩, ?_, ?_, ?_, ?_⟩, ?_, B, Fq⟩
        · have h1 : 1 + sz a + sz b ≤ 60 := K.gz
          rcases hx with r | r
          · rw [r]; omega
          · rw [r]; omega
        · have := K1.Z; show s1.facts.length + (sm wZ.h s1 + _) ≤ _; omega
        · show k + _ ≤ lim; omega
        · have := K1.dep; omega
        · unfold Ds at D1 ⊢; show sm wD.h s1 + _ + 2 ≤ n; omega
      obtain ⟨A1, A2, A3, A4⟩ := side s1.k a (by omega) (.inl rfl)
      obtain ⟨k1, r1, e1, b1, p1⟩ := T1 _ _ _ A2 A1
      have e1' : sv (n + 1) s1 a = some (k1, r1) := e1
      have b1' : k1 + 2 ≤ s1.k + Q := Nat.le_trans b1 (Nat.add_le_add_left A3 _)
      have p1' : ∀ p, r1 = .prog p → pdep p + 3 + 1 ≤ M1 + FBs s1 (.and a b) := fun p h => Nat.le_trans (Nat.add_le_add_right (p1 p h).1 1) (Nat.add_le_add_left A4 M1)
      simp only [e1']
      cases r1 with
      | world t => exact ⟨k1, _, rfl, by omega, fun p' hp' => nomatch hp'⟩
      | prog pa =>
        obtain ⟨B1, B2, B3, B4⟩ := side k1 b (by omega) (.inr rfl)
        obtain ⟨k2, r2, e2, b2, p2⟩ := T1 _ _ _ B2 B1
        have b2' : k2 + 2 ≤ k1 + Q := Nat.le_trans b2 (Nat.add_le_add_left B3 _)
        have p2' : ∀ p, r2 = .prog p → pdep p + 3 + 1 ≤ M1 + FBs s1 (.and a b) := fun p h => Nat.le_trans (Nat.add_le_add_right (p2 p h).1 1) (Nat.add_le_add_left B4 M1)
        simp only [e2]
        cases r2 with
        | world t => exact ⟨k2, _, rfl, by omega, fun p' hp' => nomatch hp'⟩
        | prog pb =>
          refine ⟨k2, _, rfl, by omega, fun p' hp' => ?_⟩
          cases hp'
          have y1 := p1' pa rfl
          have y2 := p2' pb rfl
          refine ⟨?_, (p1 pa rfl).2, (p2 pb rfl).2⟩
          show max (pdep pa) (pdep pb) + 1 + 3 ≤ _
          omega
end G
end L3
end
section
set_option Elab.async false
set_option linter.all false
set_option maxRecDepth 100000
namespace L3
namespace G
open PySem

/-! ### as Python values -/
def encF : Fm → PV
  | .bot => .tup [.str "false"]
  | .atom x => .tup [.str "atom", .str x.1]
  | .and a b => .tup [.str "and", encF a, encF b]
  | .or a b => .tup [.str "or", encF a, encF b]
  | .imp a b => .tup [.str "to", encF a, encF b]
def encN (k : Nat) : PV := .tup [.str "name", .int k]
def encP : Pg → PV
  | .name k => encN k
  | .bind k A p => .tup [.str "bind", encN k, encF A, encP p]
  | .app p q => .tup [.str "app", encP p, encP q]
  | .pair p q => .tup [.str "pair", encP p, encP q]
  | .fst p => .tup [.str "first", encP p]
  | .snd p => .tup [.str "second", encP p]
  | .inl A p => .tup [.str "left", encF A, encP p]
  | .inr A p => .tup [.str "right", encF A, encP p]
  | .never A p => .tup [.str "never", encF A, encP p]
  | .split p k q j r => .tup [.str "split", encP p, .tup [encN k, encP q], .tup [encN j, encP r]]
def encQ (q : Fm × Pg) : PV := .tup [encF q.1, encP q.2]
mutual
def encT : Tree → PV
  | .node fs cs => .tup [.str "world", .tup (fs.map .str), .tup (encTs cs)]
def encTs : List Tree → List PV
  | [] => []
  | t :: ts => encT t :: encTs ts
end
def encR : Res → PV
  | .prog p => .tup [.str "program", encP p]
  | .world t => .tup [.str "world", encT t]
theorem pureF : ∀ A : Fm, (encF A).pure = true
  | .bot => rfl
  | .atom _ => rfl
  | .and a b => by show (true && ((encF a).pure && ((encF b).pure && true))) = true; rw [pureF a, pureF b]; rfl
  | .or a b => by show (true && ((encF a).pure && ((encF b).pure && true))) = true; rw [pureF a, pureF b]; rfl
  | .imp a b => by show (true && ((encF a).pure && ((encF b).pure && true))) = true; rw [pureF a, pureF b]; rfl
theorem pureP : ∀ p : Pg, (encP p).pure = true
  | .name _ => rfl
  | .bind k A p => by show (true && ((encN k).pure && ((encF A).pure && ((encP p).pure && true)))) = true; rw [pureF A, pureP p]; rfl
  | .app p q => by show (true && ((encP p).pure && ((encP q).pure && true))) = true; rw [pureP p, pureP q]; rfl
  | .pair p q => by show (true && ((encP p).pure && ((encP q).pure && true))) = true; rw [pureP p, pureP q]; rfl
  | .fst p => by show (true && ((encP p).pure && true)) = true; rw [pureP p]; rfl
  | .snd p => by show (true && ((encP p).pure && true)) = true; rw [pureP p]; rfl
  | .inl A p => by show (true && ((encF A).pure && ((encP p).pure && true))) = true; rw [pureF A, pureP p]; rfl
  | .inr A p => by show (true && ((encF A).pure && ((encP p).pure && true))) = true; rw [pureF A, pureP p]; rfl
  | .never A p => by show (true && ((encF A).pure && ((encP p).pure && true))) = true; rw [pureF A, pureP p]; rfl
  | .split p k q j r => by show (true && ((encP p).pure && (((encN k).pure && ((encP q).pure && true)) && (((encN j).pure && ((encP r).pure && true)) && true)))) = true; rw [pureP p, pureP q, pureP r]; rfl
theorem nm_ok (x : Nm) : PyData.strOk x.1 = true := by
  have : ∀ y ∈ okNames, PyData.strOk y = true := by decide +kernel
  exact this x.1 x.2
theorem layF : ∀ A : Fm, (encF A).toD.canLay0 = true
  | .bot => by decide +kernel
  | .atom x => by
    show (PyData.canLay0 (.str "atom") && (PyData.strOk x.1 && true)) = true
    rw [nm_ok x]; decide +kernel
  | .and a b => by show (PyData.canLay0 (.str "and") && ((encF a).toD.canLay0 && ((encF b).toD.canLay0 && true))) = true; rw [layF a, layF b]; decide +kernel
  | .or a b => by show (PyData.canLay0 (.str "or") && ((encF a).toD.canLay0 && ((encF b).toD.canLay0 && true))) = true; rw [layF a, layF b]; decide +kernel
  | .imp a b => by show (PyData.canLay0 (.str "to") && ((encF a).toD.canLay0 && ((encF b).toD.canLay0 && true))) = true; rw [layF a, layF b]; decide +kernel
theorem layN (k : Nat) : (encN k).toD.canLay0 = true := by
  show (PyData.canLay0 (.str "name") && (true && true)) = true
  decide +kernel
theorem layP : ∀ p : Pg, (encP p).toD.canLay0 = true
  | .name k => layN k
  | .bind k A p => by show (PyData.canLay0 (.str "bind") && ((encN k).toD.canLay0 && ((encF A).toD.canLay0 && ((encP p).toD.canLay0 && true)))) = true; rw [layN, layF A, layP p]; decide +kernel
  | .app p q => by show (PyData.canLay0 (.str "app") && ((encP p).toD.canLay0 && ((encP q).toD.canLay0 && true))) = true; rw [layP p, layP q]; decide +kernel
  | .pair p q => by show (PyData.canLay0 (.str "pair") && ((encP p).toD.canLay0 && ((encP q).toD.canLay0 && true))) = true; rw [layP p, layP q]; decide +kernel
  | .fst p => by show (PyData.canLay0 (.str "first") && ((encP p).toD.canLay0 && true)) = true; rw [layP p]; decide +kernel
  | .snd p => by show (PyData.canLay0 (.str "second") && ((encP p).toD.canLay0 && true)) = true; rw [layP p]; decide +kernel
  | .inl A p => by show (PyData.canLay0 (.str "left") && ((encF A).toD.canLay0 && ((encP p).toD.canLay0 && true))) = true; rw [layF A, layP p]; decide +kernel
  | .inr A p => by show (PyData.canLay0 (.str "right") && ((encF A).toD.canLay0 && ((encP p).toD.canLay0 && true))) = true; rw [layF A, layP p]; decide +kernel
  | .never A p => by show (PyData.canLay0 (.str "never") && ((encF A).toD.canLay0 && ((encP p).toD.canLay0 && true))) = true; rw [layF A, layP p]; decide +kernel
  | .split p k q j r => by
    show (PyData.canLay0 (.str "split") && ((encP p).toD.canLay0 && (((encN k).toD.canLay0 && ((encP q).toD.canLay0 && true)) && (((encN j).toD.canLay0 && ((encP r).toD.canLay0 && true)) && true)))) = true
    rw [layP p, layP q, layP r, layN, layN]; decide +kernel
theorem layF' (A : Fm) : (encF A).lay = true := by unfold PV.lay; rw [pureF, layF]; rfl
theorem layQ (q : Fm × Pg) : (encQ q).toD.canLay0 = true := by
  show ((encF q.1).toD.canLay0 && ((encP q.2).toD.canLay0 && true)) = true
  rw [layF, layP]; rfl
theorem pureQ (q : Fm × Pg) : (encQ q).pure = true := by
  show ((encF q.1).pure && ((encP q.2).pure && true)) = true
  rw [pureF, pureP]; rfl
theorem depF : ∀ A : Fm, (encF A).toD.depth ≤ sz A
  | .bot => Nat.le_refl _
  | .atom _ => Nat.le_refl _
  | .and a b => by
    have := depF a; have := depF b
    show max 0 (max (encF a).toD.depth (max (encF b).toD.depth 0)) + 1 ≤ 1 + sz a + sz b; omega
  | .or a b => by
    have := depF a; have := depF b
    show max 0 (max (encF a).toD.depth (max (encF b).toD.depth 0)) + 1 ≤ 1 + sz a + sz b; omega
  | .imp a b => by
    have := depF a; have := depF b
    show max 0 (max (encF a).toD.depth (max (encF b).toD.depth 0)) + 1 ≤ 1 + sz a + sz b; omega
theorem depP : ∀ p : Pg, Small 60 p → (encP p).toD.depth ≤ 2 * pdep p + 60
  | .name _, _ => by show max 0 (max 0 0) + 1 ≤ 2 * 1 + 60; omega
  | .bind _ A p, h => by
    have := depF A; have := depP p h.2; have := h.1
    show max 0 (max 1 (max (encF A).toD.depth (max (encP p).toD.depth 0))) + 1 ≤ 2 * (pdep p + 1) + 60; omega
  | .app p q, h => by
    have := depP p h.1; have := depP q h.2
    show max 0 (max (encP p).toD.depth (max (encP q).toD.depth 0)) + 1 ≤ 2 * (max (pdep p) (pdep q) + 1) + 60; omega
  | .pair p q, h => by
    have := depP p h.1; have := depP q h.2
    show max 0 (max (encP p).toD.depth (max (encP q).toD.depth 0)) + 1 ≤ 2 * (max (pdep p) (pdep q) + 1) + 60; omega
  | .fst p, h => by have := depP p h; show max 0 (max (encP p).toD.depth 0) + 1 ≤ 2 * (pdep p + 1) + 60; omega
  | .snd p, h => by have := depP p h; show max 0 (max (encP p).toD.depth 0) + 1 ≤ 2 * (pdep p + 1) + 60; omega
  | .inl A p, h => by
    have := depF A; have := depP p h.2; have := h.1
    show max 0 (max (encF A).toD.depth (max (encP p).toD.depth 0)) + 1 ≤ 2 * (pdep p + 1) + 60; omega
  | .inr A p, h => by
    have := depF A; have := depP p h.2; have := h.1
    show max 0 (max (encF A).toD.depth (max (encP p).toD.depth 0)) + 1 ≤ 2 * (pdep p + 1) + 60; omega
  | .never A p, h => by
    have := depF A; have := depP p h.2; have := h.1
    show max 0 (max (encF A).toD.depth (max (encP p).toD.depth 0)) + 1 ≤ 2 * (pdep p + 1) + 60; omega
  | .split p k q j r, h => by
    have := depP p h.1; have := depP q h.2.1; have := depP r h.2.2
    show max 0 (max (encP p).toD.depth (max (max 1 (max (encP q).toD.depth 0) + 1) (max (max 1 (max (encP r).toD.depth 0) + 1) 0))) + 1 ≤ 2 * (max (pdep p) (max (pdep q) (pdep r)) + 2) + 60; omega
theorem depQ (q : Fm × Pg) (h1 : sz q.1 ≤ 60) (h2 : Small 60 q.2) (h3 : pdep q.2 ≤ 400) : (encQ q).toD.depth ≤ 861 := by
  have := depF q.1; have := depP q.2 h2
  show max (encF q.1).toD.depth (max (encP q.2).toD.depth 0) + 1 ≤ 861
  omega
/-! ### == -/
theorem eqs (x y : Str) : PyData.eqv (.str x) (.str y) = decide (x = y) := by
  show (x == y) = _
  by_cases h : x = y
  · subst h; simp
  · rw [beq_eq_false_iff_ne.mpr h]; simp [h]
theorem eqF : ∀ a b : Fm, PyData.eqv (encF a).toD (encF b).toD = decide (a = b) := by
  have two : ∀ {a b a' b' : Fm} {P : Prop} [Decidable P], (PyData.eqv (encF a).toD (encF a').toD = decide (a = a')) → (PyData.eqv (encF b).toD (encF b').toD = decide (b = b')) → (P ↔ a = a' ∧ b = b') → (true && (PyData.eqv (encF a).toD (encF a').toD && (PyData.eqv (encF b).toD (encF b').toD && true))) = decide P := fun {a b a' b' P} _ h1 h2 h3 => by
    rw [h1, h2, Bool.true_and, Bool.and_true, ← Bool.decide_and]
    exact decide_eq_decide.mpr h3.symm
  intro a
  induction a with
  | bot => intro b; cases b <;> rfl
  | atom x =>
    intro b
    cases b with
    | atom y =>
      show (true && (PyData.eqv (.str x.1) (.str y.1) && true)) = _
      rw [eqs, Bool.true_and, Bool.and_true]
      exact decide_eq_decide.mpr ⟨fun h => by rw [Subtype.ext h], fun h => by injection h with h; rw [h]⟩
    | _ => rfl
  | and a b ia ib =>
    intro c
    cases c with
    | and a' b' => exact two (ia a') (ib b') ⟨fun h => by injection h with h1 h2; exact ⟨h1, h2⟩, fun h => by rw [h.1, h.2]⟩
    | _ => rfl
  | or a b ia ib =>
    intro c
    cases c with
    | or a' b' => exact two (ia a') (ib b') ⟨fun h => by injection h with h1 h2; exact ⟨h1, h2⟩, fun h => by rw [h.1, h.2]⟩
    | _ => rfl
  | imp a b ia ib =>
    intro c
    cases c with
    | imp a' b' => exact two (ia a') (ib b') ⟨fun h => by injection h with h1 h2; exact ⟨h1, h2⟩, fun h => by rw [h.1, h.2]⟩
    | _ => rfl
mutual
theorem eqRefl : ∀ d : PyData, d.canLay0 = true → PyData.eqv d d = true
  | .none, _ => rfl
  | .bool b, _ => by cases b <;> rfl
  | .int i, _ => by show (i == i) = true; simp
  | .str x, _ => by show (x == x) = true; simp
  | .list xs, h => eqReflAll xs h
  | .tuple xs, h => eqReflAll xs h
  | .dict kvs, h => by cases h
theorem eqReflAll : ∀ ds : List PyData, PyData.canLayAll0 ds = true → PyData.eqvAll ds ds = true
  | [], _ => rfl
  | d :: ds, h => by
    have h' : (d.canLay0 && PyData.canLayAll0 ds) = true := h
    obtain ⟨h1, h2⟩ := Bool.and_eq_true_iff.mp h'
    show (PyData.eqv d d && PyData.eqvAll ds ds) = true
    rw [eqRefl d h1, eqReflAll ds h2]; rfl
end
theorem eqQ_fst {q q' : Fm × Pg} (h : q.1 ≠ q'.1) : PyData.eqv (encQ q).toD (encQ q').toD = false := by
  show (PyData.eqv (encF q.1).toD (encF q'.1).toD && _) = false
  rw [eqF, decide_eq_false h]; rfl
end G
end L3
end
section
set_option Elab.async false
set_option linter.all false
set_option maxRecDepth 100000
namespace L3
namespace G
open PySem

/-! ### programs with numbers -/
inductive Db where
  | var (i : Nat) | fn (A : Fm) (p : Db) | app (p q : Db) | pair (p q : Db) | fst (p : Db) | snd (p : Db) | inl (A : Fm) (p : Db) | inr (A : Fm) (p : Db) | never (A : Fm) (p : Db) | case (p q r : Db)
def encD : Db → PV
  | .var i => .tup [.str "var", .int i]
  | .fn A p => .tup [.str "fun", encF A, encD p]
  | .app p q => .tup [.str "app", encD p, encD q]
  | .pair p q => .tup [.str "pair", encD p, encD q]
  | .fst p => .tup [.str "first", encD p]
  | .snd p => .tup [.str "second", encD p]
  | .inl A p => .tup [.str "left", encF A, encD p]
  | .inr A p => .tup [.str "right", encF A, encD p]
  | .never A p => .tup [.str "never", encF A, encD p]
  | .case p q r => .tup [.str "case", encD p, encD q, encD r]
def idx (k : Nat) : List Nat → Nat → Option Nat
  | [], _ => none
  | x :: r, n => if x = k then some n else idx k r (n + 1)
def o2 (f : Db → Db → Db) : Option Db → Option Db → Option Db
  | some a, some b => some (f a b)
  | _, _ => none
def stl : Pg → List Nat → Option Db
  | .name k, ns => (idx k ns 0).map .var
  | .bind k A p, ns => (stl p (k :: ns)).map (.fn A)
  | .app p q, ns => o2 .app (stl p ns) (stl q ns)
  | .pair p q, ns => o2 .pair (stl p ns) (stl q ns)
  | .fst p, ns => (stl p ns).map .fst
  | .snd p, ns => (stl p ns).map .snd
  | .inl A p, ns => (stl p ns).map (.inl A)
  | .inr A p, ns => (stl p ns).map (.inr A)
  | .never A p, ns => (stl p ns).map (.never A)
  | .split p k q j r, ns => (match stl p ns, stl q (k :: ns), stl r (j :: ns) with
    | some a, some b, some c => some (.case a b c)
    | _, _, _ => none)
theorem pureD : ∀ p : Db, (encD p).pure = true
  | .var _ => rfl
  | .fn A p => by show (true && ((encF A).pure && ((encD p).pure && true))) = true; rw [pureF A, pureD p]; rfl
  | .app p q => by show (true && ((encD p).pure && ((encD q).pure && true))) = true; rw [pureD p, pureD q]; rfl
  | .pair p q => by show (true && ((encD p).pure && ((encD q).pure && true))) = true; rw [pureD p, pureD q]; rfl
  | .fst p => by show (true && ((encD p).pure && true)) = true; rw [pureD p]; rfl
  | .snd p => by show (true && ((encD p).pure && true)) = true; rw [pureD p]; rfl
  | .inl A p => by show (true && ((encF A).pure && ((encD p).pure && true))) = true; rw [pureF A, pureD p]; rfl
  | .inr A p => by show (true && ((encF A).pure && ((encD p).pure && true))) = true; rw [pureF A, pureD p]; rfl
  | .never A p => by show (true && ((encF A).pure && ((encD p).pure && true))) = true; rw [pureF A, pureD p]; rfl
  | .case p q r => by show (true && ((encD p).pure && ((encD q).pure && ((encD r).pure && true)))) = true; rw [pureD p, pureD q, pureD r]; rfl
/-- kinds of such programs: the nearest hypothesis first -/
inductive TyD : List Fm → Db → Fm → Prop
  | var {Γ : List Fm} {i : Nat} {A : Fm} : Γ[i]? = some A → TyD Γ (.var i) A
  | fn {Γ : List Fm} {A B : Fm} {p : Db} : TyD (A :: Γ) p B → TyD Γ (.fn A p) (.imp A B)
  | app {Γ : List Fm} {A B : Fm} {p q : Db} : TyD Γ p (.imp A B) → TyD Γ q A → TyD Γ (.app p q) B
  | pair {Γ : List Fm} {A B : Fm} {p q : Db} : TyD Γ p A → TyD Γ q B → TyD Γ (.pair p q) (.and A B)
  | fst {Γ : List Fm} {A B : Fm} {p : Db} : TyD Γ p (.and A B) → TyD Γ (.fst p) A
  | snd {Γ : List Fm} {A B : Fm} {p : Db} : TyD Γ p (.and A B) → TyD Γ (.snd p) B
  | inl {Γ : List Fm} {A B : Fm} {p : Db} : TyD Γ p A → TyD Γ (.inl (.or A B) p) (.or A B)
  | inr {Γ : List Fm} {A B : Fm} {p : Db} : TyD Γ p B → TyD Γ (.inr (.or A B) p) (.or A B)
  | never {Γ : List Fm} {A : Fm} {p : Db} : TyD Γ p .bot → TyD Γ (.never A p) A
  | case {Γ : List Fm} {A B D : Fm} {p q r : Db} : TyD Γ p (.or A B) → TyD (A :: Γ) q D → TyD (B :: Γ) r D → TyD Γ (.case p q r) D
theorem idx_ok : ∀ (Δ : Cx) (k n : Nat) (A : Fm), Δ.lookup k = some A → ∃ i, idx k (Δ.map (·.1)) n = some (n + i) ∧ (Δ.map (·.2))[i]? = some A
  | [], _, _, _, h => by cases h
  | (x, B) :: Δ, k, n, A, h => by
    rw [List.lookup_cons] at h
    show ∃ i, (if x = k then some n else idx k (Δ.map (·.1)) (n + 1)) = some (n + i) ∧ _
    by_cases hx : x = k
    · subst hx
      rw [show (x == x) = true by simp] at h
      cases h
      exact ⟨0, by rw [if_pos rfl]; rfl, rfl⟩
    · have : (k == x) = false := by simp; exact fun e => hx e.symm
      rw [this] at h
      obtain ⟨i, e, g⟩ := idx_ok Δ k (n + 1) A h
      exact ⟨i + 1, by rw [if_neg hx, e]; congr 1; omega, by simpa using g⟩
theorem stl_ok {Δ : Cx} {p : Pg} {A : Fm} (h : Ty Δ p A) : ∃ d, stl p (Δ.map (·.1)) = some d ∧ TyD (Δ.map (·.2)) d A := by
  induction h with
  | name e =>
    obtain ⟨i, h1, h2⟩ := idx_ok _ _ 0 _ e
    exact ⟨.var i, by show (idx _ _ 0).map Db.var = _; rw [h1, Nat.zero_add]; rfl, .var h2⟩
  | bind _ ih => obtain ⟨d, h1, h2⟩ := ih; exact ⟨_, by show (stl _ _).map _ = _; rw [show stl _ (_ :: _) = _ from h1]; rfl, .fn h2⟩
  | app _ _ i1 i2 => obtain ⟨d, h1, h2⟩ := i1; obtain ⟨e, h3, h4⟩ := i2; exact ⟨_, by show o2 _ _ _ = _; rw [h1, h3]; rfl, .app h2 h4⟩
  | pair _ _ i1 i2 => obtain ⟨d, h1, h2⟩ := i1; obtain ⟨e, h3, h4⟩ := i2; exact ⟨_, by show o2 _ _ _ = _; rw [h1, h3]; rfl, .pair h2 h4⟩
  | fst _ ih => obtain ⟨d, h1, h2⟩ := ih; exact ⟨_, by show (stl _ _).map _ = _; rw [h1]; rfl, .fst h2⟩
  | snd _ ih => obtain ⟨d, h1, h2⟩ := ih; exact ⟨_, by show (stl _ _).map _ = _; rw [h1]; rfl, .snd h2⟩
  | inl _ ih => obtain ⟨d, h1, h2⟩ := ih; exact ⟨_, by show (stl _ _).map _ = _; rw [h1]; rfl, .inl h2⟩
  | inr _ ih => obtain ⟨d, h1, h2⟩ := ih; exact ⟨_, by show (stl _ _).map _ = _; rw [h1]; rfl, .inr h2⟩
  | never _ ih => obtain ⟨d, h1, h2⟩ := ih; exact ⟨_, by show (stl _ _).map _ = _; rw [h1]; rfl, .never h2⟩
  | split _ _ _ i1 i2 i3 =>
    obtain ⟨d, h1, h2⟩ := i1
    obtain ⟨e, h3, h4⟩ := i2
    obtain ⟨f, h5, h6⟩ := i3
    refine ⟨.case d e f, ?_, .case h2 h4 h6⟩
    unfold stl
    rw [h1, show stl _ (_ :: _) = _ from h3, show stl _ (_ :: _) = _ from h5]
end G
end L3
end
section
set_option Elab.async false
set_option linter.all false
set_option maxRecDepth 100000
namespace L3
namespace G
open PySem

/-! ### when the search surely ends: vectors of the measures -/
structure Vc where
  (D Z N R C n c : Nat)
def Vc.leb (v w : Vc) : Bool := Nat.ble v.D w.D && (Nat.ble v.Z w.Z && (Nat.ble v.N w.N && (Nat.ble v.R w.R && (Nat.ble v.C w.C && (Nat.ble v.n w.n && Nat.ble v.c w.c)))))
def Vc.add (v w : Vc) : Vc := ⟨v.D + w.D, v.Z + w.Z, v.N + w.N, v.R + w.R, v.C + w.C, v.n + w.n, v.c + w.c⟩
def hv (A : Fm) : Vc := ⟨wD.h A, wZ.h A, wN.h A, wR.h A, wC.h A, hn A, hc A⟩
def gv (A : Fm) : Vc := ⟨wD.g A, wZ.g A, wN.g A, wR.g A, wC.g A, gn A, gc A⟩
def hvs : List Fm → Vc
  | [] => ⟨0, 0, 0, 0, 0, 0, 0⟩
  | A :: Γ => (hv A).add (hvs Γ)
theorem Vc.leb_iff {v w : Vc} : v.leb w = true ↔ v.D ≤ w.D ∧ v.Z ≤ w.Z ∧ v.N ≤ w.N ∧ v.R ≤ w.R ∧ v.C ≤ w.C ∧ v.n ≤ w.n ∧ v.c ≤ w.c := by
  unfold Vc.leb
  simp only [Bool.and_eq_true, Nat.ble_eq]
theorem Vc.leb_trans {u v w : Vc} (h : u.leb v = true) (k : v.leb w = true) : u.leb w = true := by
  rw [Vc.leb_iff] at *
  obtain ⟨a1, a2, a3, a4, a5, a6, a7⟩ := h
  obtain ⟨b1, b2, b3, b4, b5, b6, b7⟩ := k
  exact ⟨Nat.le_trans a1 b1, Nat.le_trans a2 b2, Nat.le_trans a3 b3, Nat.le_trans a4 b4, Nat.le_trans a5 b5, Nat.le_trans a6 b6, Nat.le_trans a7 b7⟩
theorem Vc.leb_add {u v w x : Vc} (h : u.leb v = true) (k : w.leb x = true) : (u.add w).leb (v.add x) = true := by
  rw [Vc.leb_iff] at *
  obtain ⟨a1, a2, a3, a4, a5, a6, a7⟩ := h
  obtain ⟨b1, b2, b3, b4, b5, b6, b7⟩ := k
  exact ⟨Nat.add_le_add a1 b1, Nat.add_le_add a2 b2, Nat.add_le_add a3 b3, Nat.add_le_add a4 b4, Nat.add_le_add a5 b5, Nat.add_le_add a6 b6, Nat.add_le_add a7 b7⟩
theorem Vc.leb_refl (v : Vc) : v.leb v = true := Vc.leb_iff.mpr ⟨Nat.le_refl _, Nat.le_refl _, Nat.le_refl _, Nat.le_refl _, Nat.le_refl _, Nat.le_refl _, Nat.le_refl _⟩
/-- enough room: the search's level n, the program's depth dep -/
def fit (v : Vc) (n dep : Nat) : Bool := Nat.ble v.D n && (Nat.ble v.Z 63 && (Nat.ble (3 + NB v.N v.R v.C) 16777216 && (Nat.ble (FB v.n v.c) (dep + 1) && Nat.ble dep 397)))
theorem fit_le {v w : Vc} {n dep : Nat} (h : v.leb w = true) (k : fit w n dep = true) : fit v n dep = true := by
  rw [Vc.leb_iff] at h
  obtain ⟨a1, a2, a3, a4, a5, a6, a7⟩ := h
  unfold fit at *
  simp only [Bool.and_eq_true, Nat.ble_eq] at *
  obtain ⟨b1, b2, b3, b4, b5⟩ := k
  have e1 := NB_le (c := w.C) (c' := v.C) (j := 0) a3 a4 a5
  have e2 := FB_le (c := w.c) (c' := v.c) (j := 0) a6 a7
  exact ⟨Nat.le_trans a1 b1, Nat.le_trans a2 b2, by omega, by omega, b5⟩
theorem start_tot (h : Fm → Nat) : ∀ (Γ : List Fm) (i : Nat), tot h (startTodo i Γ) = (Γ.map h).sum
  | [], _ => rfl
  | A :: Γ, i => by show tot h ((A, .name i) :: startTodo (i + 1) Γ) = _; rw [tot_cons, start_tot h Γ (i + 1)]; simp
theorem start_sm (h : Fm → Nat) (Γ : List Fm) : sm h (start Γ) = (Γ.map h).sum := by
  show tot h (startTodo 0 Γ) + 0 = _
  rw [start_tot]; rfl
theorem hvs_eq : ∀ Γ : List Fm, hvs Γ = ⟨(Γ.map wD.h).sum, (Γ.map wZ.h).sum, (Γ.map wN.h).sum, (Γ.map wR.h).sum, (Γ.map wC.h).sum, (Γ.map hn).sum, (Γ.map hc).sum⟩
  | [] => rfl
  | A :: Γ => by unfold hvs; rw [hvs_eq Γ]; simp [Vc.add, hv]
theorem start_progs : ∀ (Γ : List Fm) (i : Nat), ∀ q ∈ startTodo i Γ, q.1 ∈ Γ ∧ pdep q.2 = 1 ∧ Small 60 q.2
  | [], _, q, h => nomatch h
  | A :: Γ, i, q, h => by
    rcases List.mem_cons.mp h with h | h
    · subst h; exact ⟨List.mem_cons_self .., rfl, trivial⟩
    · obtain ⟨a, b, c⟩ := start_progs Γ (i + 1) q h
      exact ⟨List.mem_cons_of_mem _ a, b, c⟩
/-- the search ends: with a program of little depth, or the sentence does not follow -/
theorem decided {Γ : List Fm} {g : Fm} {n dep : Nat} (hf : fit ((hvs Γ).add (gv g)) n dep = true) (hs : ∀ B ∈ Γ, sz B ≤ 60) (hg : sz g ≤ 60) (hl : Γ.length ≤ 3) :
    (∃ k p, sv (n + 3) (start Γ) g = some (k, .prog p) ∧ Ty (startCx 0 Γ) p g ∧ Valid Γ g ∧ pdep p ≤ dep ∧ Small 60 p) ∨ (∃ k t, sv (n + 3) (start Γ) g = some (k, .world t) ∧ ¬ Valid Γ g) := by
  rw [hvs_eq] at hf
  unfold fit Vc.add gv at hf
  simp only [Bool.and_eq_true, Nat.ble_eq] at hf
  obtain ⟨b1, b2, b3, b4, b5⟩ := hf
  have E := sv_tot n (start Γ) g 2 (by unfold Ds; rw [start_sm]; exact b1) (by
    refine ⟨Nat.le_refl _, ⟨fun q hq => ?_, fun q hq => (nomatch hq), fun q hq => (nomatch hq)⟩, ⟨fun q hq => ?_, fun q hq => (nomatch hq), fun q hq => (nomatch hq)⟩, hg, ?_, ?_, ?_⟩
    · rw [(start_progs Γ 0 q hq).2.1]; decide
    · obtain ⟨h1, h2, h3⟩ := start_progs Γ 0 q hq
      exact ⟨hs _ h1, h3⟩
    · rw [start_sm]; show 0 + _ ≤ 63; omega
    · unfold NBs; rw [start_sm, start_sm, start_sm]; show Γ.length + _ ≤ 16777216; omega
    · unfold FBs; rw [start_sm, start_sm]; omega)
  obtain ⟨k, r, e, hk, hp⟩ := E
  cases r with
  | prog p =>
    obtain ⟨h1, h2⟩ := hp p rfl
    obtain ⟨z1, z2⟩ := prog_valid e
    refine .inl ⟨k, p, e, z1, z2, ?_, h2⟩
    unfold FBs at h1
    rw [start_sm, start_sm] at h1
    omega
  | world t =>
    obtain ⟨z1, z2, z3⟩ := world_not e
    exact .inr ⟨k, t, e, fun h => z3 (h t z1 z2)⟩
/-! ### shapes: one atom in the place of all -/
def P0 : Fm := .atom ⟨"p", by decide⟩
def cl : Fm → Fm
  | .bot => .bot
  | .atom _ => P0
  | .and a b => .and (cl a) (cl b)
  | .or a b => .or (cl a) (cl b)
  | .imp a b => .imp (cl a) (cl b)
theorem cl_bot (A : Fm) : isBot (cl A) = isBot A := by cases A <;> rfl
theorem meas_cl (W : Wt) : ∀ A, meas W (cl A) = meas W A
  | .bot => rfl
  | .atom _ => rfl
  | .and a b => by simp only [cl, meas, meas_cl W a, meas_cl W b]
  | .or a b => by simp only [cl, meas, meas_cl W a, meas_cl W b]
  | .imp a b => by simp only [cl, meas, meas_cl W a, meas_cl W b]
theorem md_cl : ∀ A, md (cl A) = md A
  | .bot => rfl
  | .atom _ => rfl
  | .and a b => by simp only [cl, md, md_cl a, md_cl b]
  | .or a b => by simp only [cl, md, md_cl a, md_cl b]
  | .imp a b => by simp only [cl, md, md_cl a, md_cl b, cl_bot]
theorem sz_cl : ∀ A, sz (cl A) = sz A
  | .bot => rfl
  | .atom _ => rfl
  | .and a b => by simp only [cl, sz, sz_cl a, sz_cl b]
  | .or a b => by simp only [cl, sz, sz_cl a, sz_cl b]
  | .imp a b => by simp only [cl, sz, sz_cl a, sz_cl b]
theorem hv_cl (A : Fm) : hv (cl A) = hv A := by
  have e : ∀ W : Wt, W.h (cl A) = W.h A := fun W => by unfold Wt.h; rw [meas_cl]
  have e1 : hn (cl A) = hn A := by unfold hn; rw [md_cl]
  have e2 : hc (cl A) = hc A := by unfold hc; rw [md_cl]
  unfold hv
  rw [e, e, e, e, e, e1, e2]
theorem gv_cl (A : Fm) : gv (cl A) = gv A := by
  have e : ∀ W : Wt, W.g (cl A) = W.g A := fun W => by unfold Wt.g; rw [meas_cl]
  have e1 : gn (cl A) = gn A := by unfold gn; rw [md_cl]
  have e2 : gc (cl A) = gc A := by unfold gc; rw [md_cl]
  unfold gv
  rw [e, e, e, e, e, e1, e2]
theorem sz_pos : ∀ A, 1 ≤ sz A
  | .bot => Nat.le_refl _
  | .atom _ => Nat.le_refl _
  | .and a b => by unfold sz; omega
  | .or a b => by unfold sz; omega
  | .imp a b => by unfold sz; omega
def s1 : List Fm := [.bot, P0]
def two (l m : List Fm) : List Fm := l.flatMap fun a => m.flatMap fun b => [.and a b, .or a b, .imp a b]
def s3 : List Fm := s1 ++ two s1 s1
def s5 : List Fm := s3 ++ (two s1 s3 ++ two s3 s1)
theorem mem_two {l m : List Fm} {a b : Fm} (ha : a ∈ l) (hb : b ∈ m) : .and a b ∈ two l m ∧ .or a b ∈ two l m ∧ .imp a b ∈ two l m := by
  unfold two
  simp only [List.mem_flatMap]
  exact ⟨⟨a, ha, b, hb, by simp⟩, ⟨a, ha, b, hb, by simp⟩, ⟨a, ha, b, hb, by simp⟩⟩
theorem mem_s1 : ∀ {A : Fm}, sz A ≤ 2 → cl A ∈ s1
  | .bot, _ => by simp [cl, s1]
  | .atom _, _ => by simp [cl, s1]
  | .and a b, h => by have := sz_pos a; have := sz_pos b; unfold sz at h; omega
  | .or a b, h => by have := sz_pos a; have := sz_pos b; unfold sz at h; omega
  | .imp a b, h => by have := sz_pos a; have := sz_pos b; unfold sz at h; omega
theorem mem_s3 : ∀ {A : Fm}, sz A ≤ 4 → cl A ∈ s3 := by
  intro A h
  have h1 := fun (a : Fm) => sz_pos a
  cases A with
  | bot => exact List.mem_append_left _ (mem_s1 (A := .bot) (by decide))
  | atom x => exact List.mem_append_left _ (mem_s1 (A := .atom x) (by show 1 ≤ 2; decide))
  | and a b =>
    have := h1 a; have := h1 b; have h' : 1 + sz a + sz b ≤ 4 := h
    exact List.mem_append_right _ (mem_two (mem_s1 (by omega)) (mem_s1 (by omega))).1
  | or a b =>
    have := h1 a; have := h1 b; have h' : 1 + sz a + sz b ≤ 4 := h
    exact List.mem_append_right _ (mem_two (mem_s1 (by omega)) (mem_s1 (by omega))).2.1
  | imp a b =>
    have := h1 a; have := h1 b; have h' : 1 + sz a + sz b ≤ 4 := h
    exact List.mem_append_right _ (mem_two (mem_s1 (by omega)) (mem_s1 (by omega))).2.2
theorem mem_s5 : ∀ {A : Fm}, sz A ≤ 5 → cl A ∈ s5 := by
  intro A h
  have h1 := fun (a : Fm) => sz_pos a
  cases A with
  | bot => exact List.mem_append_left _ (mem_s3 (A := .bot) (by decide))
  | atom x => exact List.mem_append_left _ (mem_s3 (A := .atom x) (by show 1 ≤ 4; decide))
  | and a b =>
    have := h1 a; have := h1 b; have h' : 1 + sz a + sz b ≤ 5 := h
    by_cases hq : sz a ≤ 2
    · exact List.mem_append_right _ (List.mem_append_left _ (mem_two (mem_s1 hq) (mem_s3 (by omega))).1)
    · exact List.mem_append_right _ (List.mem_append_right _ (mem_two (mem_s3 (by omega)) (mem_s1 (by omega))).1)
  | or a b =>
    have := h1 a; have := h1 b; have h' : 1 + sz a + sz b ≤ 5 := h
    by_cases hq : sz a ≤ 2
    · exact List.mem_append_right _ (List.mem_append_left _ (mem_two (mem_s1 hq) (mem_s3 (by omega))).2.1)
    · exact List.mem_append_right _ (List.mem_append_right _ (mem_two (mem_s3 (by omega)) (mem_s1 (by omega))).2.1)
  | imp a b =>
    have := h1 a; have := h1 b; have h' : 1 + sz a + sz b ≤ 5 := h
    by_cases hq : sz a ≤ 2
    · exact List.mem_append_right _ (List.mem_append_left _ (mem_two (mem_s1 hq) (mem_s3 (by omega))).2.2)
    · exact List.mem_append_right _ (List.mem_append_right _ (mem_two (mem_s3 (by omega)) (mem_s1 (by omega))).2.2)
end G
end L3
end
section
set_option Elab.async false
set_option linter.all false
set_option maxRecDepth 100000
namespace L3
namespace G
open PySem

/-! ### what follows from what, by the trees -/
theorem force_ands {t : Tree} {a b : Fm} : force t (.and a b) ↔ force t a ∧ force t b := Iff.rfl
theorem force_ors {t : Tree} {a b : Fm} : force t (.or a b) ↔ force t a ∨ force t b := Iff.rfl
def Eqv (A B : Fm) : Prop := ∀ t, Mono t → (force t A ↔ force t B)
theorem Eqv.symm {A B : Fm} (h : Eqv A B) : Eqv B A := fun t m => (h t m).symm
theorem Eqv.valid {A B : Fm} (h : Eqv A B) : Valid [A] B := fun t m k => (h t m).1 (k A (List.mem_cons_self ..))
theorem Eqv.left {A B g : Fm} (h : Eqv A B) : Valid [A] g ↔ Valid [B] g :=
  ⟨fun v t m k => v t m fun C hC => by
    have e := List.mem_singleton.mp hC
    subst e
    exact (h t m).2 (k B (List.mem_cons_self ..)), fun v t m k => v t m fun C hC => by
    have e := List.mem_singleton.mp hC
    subst e
    exact (h t m).1 (k A (List.mem_cons_self ..))⟩
theorem Eqv.right {A B : Fm} {Γ : List Fm} (h : Eqv A B) : Valid Γ A ↔ Valid Γ B :=
  ⟨fun v t m k => (h t m).1 (v t m k), fun v t m k => (h t m).2 (v t m k)⟩
def no (A : Fm) : Fm := .imp A .bot
/-- the forms that are always proved -/
def formsF (a b c : Fm) : List Fm :=
  [.imp a (.imp b a), .imp (.imp a (.imp b c)) (.imp (.imp a b) (.imp a c)), .imp (.and a b) a, .imp a (.or a b),
   .imp (.imp a c) (.imp (.imp b c) (.imp (.or a b) c)), .imp .bot a, .imp a (no (no a)),
   .imp (.imp a b) (.imp (no b) (no a)), .imp (no (no (no a))) (no a),
   .imp (.or (no a) b) (.imp a b), no (no (.or a (no a))),
   no (no (.imp (.imp (.imp a b) a) a)), .imp (.or (no a) (no b)) (no (.and a b))]
def equalF (a b c : Fm) : List (Fm × Fm) :=
  [(.and a b, .and b a), (.or a (.or b c), .or (.or a b) c), (.and a (.or b c), .or (.and a b) (.and a c)),
   (.or a (.and b c), .and (.or a b) (.or a c)), (.imp (.and a b) c, .imp a (.imp b c)), (.imp (.or a b) c, .and (.imp a c) (.imp b c)),
   (.imp a (.and b c), .and (.imp a b) (.imp a c)), (no (.or a b), .and (no a) (no b)),
   (.and a (.or a b), a), (.imp a (.imp a b), .imp a b)]
section
variable {t u : Tree} {a b c : Fm}
theorem up (m : Mono t) (s : Sub t u) {A : Fm} (h : force t A) : force u A := force_mono m s h
theorem forms_valid (a b c : Fm) : ∀ f ∈ formsF a b c, Valid [] f := by
  intro f hf t m _
  simp only [formsF, List.mem_cons, List.not_mem_nil, or_false] at hf
  rcases hf with h | h | h | h | h | h | h | h | h | h | h | h | h <;> subst h
  · exact fun u su ha v sv hb => up (m.sub su) sv ha
  · exact fun u su h v sv k w sw ha => h w (sv.trans sw) ha w (.refl w) (k w sw ha)
  · exact fun u su h => h.1
  · exact fun u su h => .inl h
  · exact fun u su h v sv k w sw q => q.elim (fun x => h w (sv.trans sw) x) (fun x => k w sw x)
  · exact fun u su h => False.elim h
  · exact fun u su h v sv k => k v (.refl v) (up (m.sub su) sv h)
  · exact fun u su h v sv k w sw ha => k w sw (h w (sv.trans sw) ha)
  · exact fun u su h v sv ha => h v sv fun w sw k => k w (.refl w) (up ((m.sub su).sub sv) sw ha)
  · exact fun u su h v sv ha => (up (m.sub su) sv h).elim (fun k => False.elim (k v (.refl v) ha)) fun x => x
  · exact fun u su h => h u (.refl u) (.inr fun v sv ha => h v sv (.inl ha))
  · exact fun u su h => h u (.refl u) fun v sv k => k v (.refl v) fun w sw ha => False.elim (h w (sv.trans sw) fun x sx _ => up ((((m.sub su).sub sv).sub sw)) sx ha)
  · exact fun u su h v sv k => (up (m.sub su) sv h).elim (fun x => x v (.refl v) k.1) fun x => x v (.refl v) k.2
theorem equal_eqv (a b c : Fm) : ∀ q ∈ equalF a b c, Eqv q.1 q.2 := by
  intro q hq t m
  simp only [equalF, List.mem_cons, List.not_mem_nil, or_false] at hq
  rcases hq with h | h | h | h | h | h | h | h | h | h <;> subst h
  · exact ⟨fun h => ⟨h.2, h.1⟩, fun h => ⟨h.2, h.1⟩⟩
  · exact ⟨fun h => h.elim (fun x => .inl (.inl x)) fun h => h.elim (fun x => .inl (.inr x)) fun x => .inr x, fun h => h.elim (fun h => h.elim (fun x => .inl x) fun x => .inr (.inl x)) fun x => .inr (.inr x)⟩
  · exact ⟨fun h => h.2.elim (fun x => .inl ⟨h.1, x⟩) fun x => .inr ⟨h.1, x⟩, fun h => h.elim (fun x => ⟨x.1, .inl x.2⟩) fun x => ⟨x.1, .inr x.2⟩⟩
  · exact ⟨fun h => h.elim (fun x => ⟨.inl x, .inl x⟩) fun x => ⟨.inr x.1, .inr x.2⟩, fun h => h.1.elim (fun x => .inl x) fun x => h.2.elim (fun y => .inl y) fun y => .inr ⟨x, y⟩⟩
  · exact ⟨fun h u su ha v sv hb => h v (su.trans sv) ⟨up (m.sub su) sv ha, hb⟩, fun h u su k => h u su k.1 u (.refl u) k.2⟩
  · exact ⟨fun h => ⟨fun u su x => h u su (.inl x), fun u su x => h u su (.inr x)⟩, fun h u su k => k.elim (fun x => h.1 u su x) fun x => h.2 u su x⟩
  · exact ⟨fun h => ⟨fun u su x => (h u su x).1, fun u su x => (h u su x).2⟩, fun h u su k => ⟨h.1 u su k, h.2 u su k⟩⟩
  · exact ⟨fun h => ⟨fun u su x => h u su (.inl x), fun u su x => h u su (.inr x)⟩, fun h u su k => k.elim (fun x => h.1 u su x) fun x => h.2 u su x⟩
  · exact ⟨fun h => h.1, fun h => ⟨h, .inl h⟩⟩
  · exact ⟨fun h u su ha => h u su ha u (.refl u) ha, fun h u su ha v sv _ => h v (su.trans sv) (up (m.sub su) sv ha)⟩
end
section
variable {a b g : Fm}
theorem v_and : Valid [a, b] g ↔ Valid [.and a b] g :=
  ⟨fun v t m k => v t m fun C hC => by
    have q : force t (.and a b) := k _ (List.mem_cons_self ..)
    simp only [List.mem_cons, List.not_mem_nil, or_false] at hC
    rcases hC with h | h <;> subst h
    · exact q.1
    · exact q.2, fun v t m k => v t m fun C hC => by
    simp only [List.mem_cons, List.not_mem_nil, or_false] at hC
    subst hC
    exact ⟨k a (by simp), k b (by simp)⟩⟩
theorem v_more : Valid [a, b] g ↔ Valid [b, a, b] g :=
  ⟨fun v t m k => v t m fun C hC => k C (List.mem_cons_of_mem _ hC), fun v t m k => v t m fun C hC => k C (by
    simp only [List.mem_cons, List.not_mem_nil, or_false] at hC ⊢
    rcases hC with h | h | h
    · exact .inr h
    · exact .inl h
    · exact .inr h)⟩
theorem v_or : Valid [.or a b] g ↔ Valid [a] g ∧ Valid [b] g :=
  ⟨fun v => ⟨fun t m k => v t m fun C hC => by
    simp only [List.mem_cons, List.not_mem_nil, or_false] at hC
    subst hC
    exact .inl (k a (by simp)), fun t m k => v t m fun C hC => by
    simp only [List.mem_cons, List.not_mem_nil, or_false] at hC
    subst hC
    exact .inr (k b (by simp))⟩, fun v t m k => (k (.or a b) (by simp)).elim
      (fun x => v.1 t m fun C hC => by
        simp only [List.mem_cons, List.not_mem_nil, or_false] at hC
        subst hC
        exact x)
      fun x => v.2 t m fun C hC => by
        simp only [List.mem_cons, List.not_mem_nil, or_false] at hC
        subst hC
        exact x⟩
theorem v_cut (h : Valid [a] g) (k : Valid [g] b) : Valid [a] b := fun t m q => k t m fun C hC => by
  simp only [List.mem_cons, List.not_mem_nil, or_false] at hC
  subst hC
  exact h t m q
theorem v_last : Valid [.imp .bot a, .or .bot b] b := fun t m k => (k (.or .bot b) (by simp)).elim (fun x => False.elim x) fun x => x
end
/-- the tree that refutes plain truth -/
def two_worlds (x : Str) : Tree := .node [] [.node [x] []]
theorem sub_leaf {x : Str} {u : Tree} (h : Sub (.node [x] []) u) : u = .node [x] [] := by
  cases h with
  | refl => rfl
  | step hc _ => cases hc
theorem sub_two {x : Str} {u : Tree} (h : Sub (two_worlds x) u) : u = two_worlds x ∨ u = .node [x] [] := by
  cases h with
  | refl => exact .inl rfl
  | step hc hs =>
    have e := List.mem_singleton.mp hc
    subst e
    exact .inr (sub_leaf hs)
theorem mono_two (x : Str) : Mono (two_worlds x) := by
  intro u hu v hv y hy
  rcases sub_two hu with e | e
  · subst e; cases hy
  · subst e; rw [sub_leaf hv]; exact hy
theorem sub_step (x : Str) : Sub (two_worlds x) (.node [x] []) := .step (List.mem_singleton.mpr rfl) (.refl _)
theorem no_middle (x : Nm) : ¬ Valid [] (.or (.atom x) (no (.atom x))) := fun v => by
  have h := v (two_worlds x.1) (mono_two x.1) (fun B hB => nomatch hB)
  rcases h with h | h
  · cases h
  · exact h _ (sub_step x.1) (List.mem_singleton.mpr rfl)
theorem no_stable (x : Nm) : ¬ Valid [] (.imp (no (no (.atom x))) (.atom x)) := fun v => by
  have h := v (two_worlds x.1) (mono_two x.1) (fun B hB => nomatch hB) (two_worlds x.1) (.refl _) fun u hu k => by
    rcases sub_two hu with e | e
    · subst e
      have z : force (.node [x.1] []) .bot := k _ (sub_step x.1) (List.mem_singleton.mpr rfl)
      exact z
    · subst e
      have z : force (.node [x.1] []) .bot := k _ (.refl _) (List.mem_singleton.mpr rfl)
      exact z
  cases h
end G
end L3
end
section
set_option Elab.async false
set_option linter.all false
set_option maxRecDepth 100000
namespace L3
namespace G
open PySem

/-! ### the sentences of the law stay within bounds -/
def formsAB (a b : Fm) : List Fm :=
  [.imp a (.imp b a), .imp (.and a b) a, .imp a (.or a b), .imp .bot a, .imp a (no (no a)),
   .imp (.imp a b) (.imp (no b) (no a)), .imp (no (no (no a))) (no a),
   .imp (.or (no a) b) (.imp a b), no (no (.or a (no a))),
   no (no (.imp (.imp (.imp a b) a) a)), .imp (.or (no a) (no b)) (no (.and a b))]
def formsABC (a b c : Fm) : List Fm := [.imp (.imp a (.imp b c)) (.imp (.imp a b) (.imp a c)), .imp (.imp a c) (.imp (.imp b c) (.imp (.or a b) c))]
theorem forms_split {a b c f : Fm} (h : f ∈ formsF a b c) : f ∈ formsAB a b ∨ f ∈ formsABC a b c := by
  simp only [formsF, formsAB, formsABC, List.mem_cons, List.not_mem_nil, or_false] at h ⊢
  rcases h with h | h | h | h | h | h | h | h | h | h | h | h | h <;> simp [h]
def equalAB (a b : Fm) : List (Fm × Fm) := [(.and a b, .and b a), (no (.or a b), .and (no a) (no b)), (.and a (.or a b), a), (.imp a (.imp a b), .imp a b)]
def equalABC (a b c : Fm) : List (Fm × Fm) :=
  [(.or a (.or b c), .or (.or a b) c), (.and a (.or b c), .or (.and a b) (.and a c)),
   (.or a (.and b c), .and (.or a b) (.or a c)), (.imp (.and a b) c, .imp a (.imp b c)), (.imp (.or a b) c, .and (.imp a c) (.imp b c)),
   (.imp a (.and b c), .and (.imp a b) (.imp a c))]
theorem equal_split {a b c : Fm} {q : Fm × Fm} (h : q ∈ equalF a b c) : q ∈ equalAB a b ∨ q ∈ equalABC a b c := by
  simp only [equalF, equalAB, equalABC, List.mem_cons, List.not_mem_nil, or_false] at h ⊢
  rcases h with h | h | h | h | h | h | h | h | h | h <;> simp [h]
def okF (f : Fm) : Bool := fit (gv f) 170 119 && Nat.ble (sz f) 60
def HX : Vc := ⟨12, 22, 2, 4, 16, 2, 23⟩
def GX : Vc := ⟨8, 8, 0, 6, 7, 0, 7⟩
def okH (f : Fm) : Bool := (hv f).leb HX && Nat.ble (sz f) 60
def okG (f : Fm) : Bool := (gv f).leb GX && Nat.ble (sz f) 60
def okQ (q : Fm × Fm) : Bool := (okH q.1 && okG q.1) && (okH q.2 && okG q.2)
set_option maxHeartbeats 0
theorem fAB : (s3.all fun a => s3.all fun b => (formsAB a b).all okF) = true := by decide +kernel
def fA (a : Fm) : Bool := s3.all fun b => s3.all fun c => (formsABC a b c).all okF
theorem fA0 : fA (.bot) = true := by decide +kernel
theorem fA1 : fA (P0) = true := by decide +kernel
theorem fA2 : fA (.and .bot .bot) = true := by decide +kernel
theorem fA3 : fA (.or .bot .bot) = true := by decide +kernel
theorem fA4 : fA (.imp .bot .bot) = true := by decide +kernel
theorem fA5 : fA (.and .bot P0) = true := by decide +kernel
theorem fA6 : fA (.or .bot P0) = true := by decide +kernel
theorem fA7 : fA (.imp .bot P0) = true := by decide +kernel
theorem fA8 : fA (.and P0 .bot) = true := by decide +kernel
theorem fA9 : fA (.or P0 .bot) = true := by decide +kernel
theorem fA10 : fA (.imp P0 .bot) = true := by decide +kernel
theorem fA11 : fA (.and P0 P0) = true := by decide +kernel
theorem fA12 : fA (.or P0 P0) = true := by decide +kernel
theorem fA13 : fA (.imp P0 P0) = true := by decide +kernel
theorem fABC : (s3.all fun a => s3.all fun b => s3.all fun c => (formsABC a b c).all okF) = true := by
  show (fA (.bot) && (fA (P0) && (fA (.and .bot .bot) && (fA (.or .bot .bot) && (fA (.imp .bot .bot) && (fA (.and .bot P0) && (fA (.or .bot P0) && (fA (.imp .bot P0) && (fA (.and P0 .bot) && (fA (.or P0 .bot) && (fA (.imp P0 .bot) && (fA (.and P0 P0) && (fA (.or P0 P0) && (fA (.imp P0 P0) && true)))))))))))))) = true
  rw [fA0, fA1, fA2, fA3, fA4, fA5, fA6, fA7, fA8, fA9, fA10, fA11, fA12, fA13]
  rfl
theorem eAB : (s3.all fun a => s3.all fun b => (equalAB a b).all okQ) = true := by decide +kernel
def eA (a : Fm) : Bool := s3.all fun b => s3.all fun c => (equalABC a b c).all okQ
theorem eA0 : eA (.bot) = true := by decide +kernel
theorem eA1 : eA (P0) = true := by decide +kernel
theorem eA2 : eA (.and .bot .bot) = true := by decide +kernel
theorem eA3 : eA (.or .bot .bot) = true := by decide +kernel
theorem eA4 : eA (.imp .bot .bot) = true := by decide +kernel
theorem eA5 : eA (.and .bot P0) = true := by decide +kernel
theorem eA6 : eA (.or .bot P0) = true := by decide +kernel
theorem eA7 : eA (.imp .bot P0) = true := by decide +kernel
theorem eA8 : eA (.and P0 .bot) = true := by decide +kernel
theorem eA9 : eA (.or P0 .bot) = true := by decide +kernel
theorem eA10 : eA (.imp P0 .bot) = true := by decide +kernel
theorem eA11 : eA (.and P0 P0) = true := by decide +kernel
theorem eA12 : eA (.or P0 P0) = true := by decide +kernel
theorem eA13 : eA (.imp P0 P0) = true := by decide +kernel
theorem eABC : (s3.all fun a => s3.all fun b => s3.all fun c => (equalABC a b c).all okQ) = true := by
  show (eA (.bot) && (eA (P0) && (eA (.and .bot .bot) && (eA (.or .bot .bot) && (eA (.imp .bot .bot) && (eA (.and .bot P0) && (eA (.or .bot P0) && (eA (.imp .bot P0) && (eA (.and P0 .bot) && (eA (.or P0 .bot) && (eA (.imp P0 .bot) && (eA (.and P0 P0) && (eA (.or P0 P0) && (eA (.imp P0 P0) && true)))))))))))))) = true
  rw [eA0, eA1, eA2, eA3, eA4, eA5, eA6, eA7, eA8, eA9, eA10, eA11, eA12, eA13]
  rfl
theorem e5 : (s5.all fun g => okH g && okG g) = true := by decide +kernel
def leH (Γ : List Fm) : Bool := (hvs Γ).leb HX && Γ.all fun B => Nat.ble (sz B) 60
theorem e3 : (s3.all fun a => s3.all fun b => leH [a, b] && (leH [.and a b] && (leH [b, a, b] && (leH [.or a b] && leH [.imp .bot a, .or .bot b])))) = true := by decide +kernel
theorem fit_X : fit (HX.add GX) 170 135 = true := by decide +kernel
end G
end L3
end
section
set_option Elab.async false
set_option linter.all false
set_option maxRecDepth 100000
namespace L3
namespace G
open PySem
/-! ### depth of sentences and of programs with numbers; a case counts twice -/
def fdep : Fm → Nat
  | .bot => 1
  | .atom _ => 1
  | .and a b => 1 + max (fdep a) (fdep b)
  | .or a b => 1 + max (fdep a) (fdep b)
  | .imp a b => 1 + max (fdep a) (fdep b)
theorem sz_pos' : ∀ A, 1 ≤ sz A
  | .bot => Nat.le_refl _
  | .atom _ => Nat.le_refl _
  | .and a b => by unfold sz; omega
  | .or a b => by unfold sz; omega
  | .imp a b => by unfold sz; omega
theorem fdep_sz : ∀ A, 2 * fdep A ≤ sz A + 1
  | .bot => by decide
  | .atom _ => Nat.le_refl _
  | .and a b => by have := fdep_sz a; have := fdep_sz b; have := sz_pos' a; have := sz_pos' b; unfold fdep sz; omega
  | .or a b => by have := fdep_sz a; have := fdep_sz b; have := sz_pos' a; have := sz_pos' b; unfold fdep sz; omega
  | .imp a b => by have := fdep_sz a; have := fdep_sz b; have := sz_pos' a; have := sz_pos' b; unfold fdep sz; omega
theorem fdep_pos : ∀ A, 1 ≤ fdep A
  | .bot => Nat.le_refl _
  | .atom _ => Nat.le_refl _
  | .and a b => by unfold fdep; omega
  | .or a b => by unfold fdep; omega
  | .imp a b => by unfold fdep; omega
theorem depFd : ∀ A, (encF A).toD.depth ≤ 2 * fdep A + 1
  | .bot => by decide
  | .atom _ => by show max 0 (max 0 0) + 1 ≤ _; omega
  | .and a b => by have := depFd a; have := depFd b; show max 0 (max (encF a).toD.depth (max (encF b).toD.depth 0)) + 1 ≤ 2 * (1 + max (fdep a) (fdep b)) + 1; omega
  | .or a b => by have := depFd a; have := depFd b; show max 0 (max (encF a).toD.depth (max (encF b).toD.depth 0)) + 1 ≤ 2 * (1 + max (fdep a) (fdep b)) + 1; omega
  | .imp a b => by have := depFd a; have := depFd b; show max 0 (max (encF a).toD.depth (max (encF b).toD.depth 0)) + 1 ≤ 2 * (1 + max (fdep a) (fdep b)) + 1; omega
def wdep : Db → Nat
  | .var _ => 1
  | .fn _ p => wdep p + 1
  | .app p q => max (wdep p) (wdep q) + 1
  | .pair p q => max (wdep p) (wdep q) + 1
  | .fst p => wdep p + 1
  | .snd p => wdep p + 1
  | .inl _ p => wdep p + 1
  | .inr _ p => wdep p + 1
  | .never _ p => wdep p + 1
  | .case p q r => max (wdep p) (max (wdep q) (wdep r)) + 2
theorem wdep_pos : ∀ p, 1 ≤ wdep p
  | .var _ => Nat.le_refl _
  | .fn _ p => Nat.succ_pos _
  | .app p q => Nat.succ_pos _
  | .pair p q => Nat.succ_pos _
  | .fst p => Nat.succ_pos _
  | .snd p => Nat.succ_pos _
  | .inl _ p => Nat.succ_pos _
  | .inr _ p => Nat.succ_pos _
  | .never _ p => Nat.succ_pos _
  | .case p q r => Nat.succ_pos _
def SmallD (n : Nat) : Db → Prop
  | .var _ => True
  | .fn A p => sz A ≤ n ∧ SmallD n p
  | .app p q => SmallD n p ∧ SmallD n q
  | .pair p q => SmallD n p ∧ SmallD n q
  | .fst p => SmallD n p
  | .snd p => SmallD n p
  | .inl A p => sz A ≤ n ∧ SmallD n p
  | .inr A p => sz A ≤ n ∧ SmallD n p
  | .never A p => sz A ≤ n ∧ SmallD n p
  | .case p q r => SmallD n p ∧ SmallD n q ∧ SmallD n r
theorem map_some {α β : Type} {f : α → β} {x : Option α} {y : β} (h : x.map f = some y) : ∃ a, x = some a ∧ y = f a := by
  cases x with
  | none => cases h
  | some a => cases h; exact ⟨a, rfl, rfl⟩
theorem o2_some {f : Db → Db → Db} {x y : Option Db} {z : Db} (h : o2 f x y = some z) : ∃ a b, x = some a ∧ y = some b ∧ z = f a b := by
  unfold o2 at h
  split at h
  · cases h; exact ⟨_, _, rfl, rfl, rfl⟩
  · cases h
theorem stl_meas {n : Nat} : ∀ (p : Pg) (ns : List Nat) (d : Db), stl p ns = some d → Small n p → wdep d = pdep p ∧ SmallD n d
  | .name k, ns, d, h, s => by obtain ⟨i, _, rfl⟩ := map_some h; exact ⟨rfl, trivial⟩
  | .bind k A p, ns, d, h, s => by
    obtain ⟨e, h1, rfl⟩ := map_some h
    obtain ⟨a, b⟩ := stl_meas p _ e h1 s.2
    exact ⟨by unfold wdep pdep; rw [a], s.1, b⟩
  | .app p q, ns, d, h, s => by
    obtain ⟨e, f, h1, h2, rfl⟩ := o2_some h
    obtain ⟨a, b⟩ := stl_meas p _ e h1 s.1
    obtain ⟨c, g⟩ := stl_meas q _ f h2 s.2
    exact ⟨by unfold wdep pdep; rw [a, c], b, g⟩
  | .pair p q, ns, d, h, s => by
    obtain ⟨e, f, h1, h2, rfl⟩ := o2_some h
    obtain ⟨a, b⟩ := stl_meas p _ e h1 s.1
    obtain ⟨c, g⟩ := stl_meas q _ f h2 s.2
    exact ⟨by unfold wdep pdep; rw [a, c], b, g⟩
  | .fst p, ns, d, h, s => by
    obtain ⟨e, h1, rfl⟩ := map_some h
    obtain ⟨a, b⟩ := stl_meas p _ e h1 s
    exact ⟨by unfold wdep pdep; rw [a], b⟩
  | .snd p, ns, d, h, s => by
    obtain ⟨e, h1, rfl⟩ := map_some h
    obtain ⟨a, b⟩ := stl_meas p _ e h1 s
    exact ⟨by unfold wdep pdep; rw [a], b⟩
  | .inl A p, ns, d, h, s => by
    obtain ⟨e, h1, rfl⟩ := map_some h
    obtain ⟨a, b⟩ := stl_meas p _ e h1 s.2
    exact ⟨by unfold wdep pdep; rw [a], s.1, b⟩
  | .inr A p, ns, d, h, s => by
    obtain ⟨e, h1, rfl⟩ := map_some h
    obtain ⟨a, b⟩ := stl_meas p _ e h1 s.2
    exact ⟨by unfold wdep pdep; rw [a], s.1, b⟩
  | .never A p, ns, d, h, s => by
    obtain ⟨e, h1, rfl⟩ := map_some h
    obtain ⟨a, b⟩ := stl_meas p _ e h1 s.2
    exact ⟨by unfold wdep pdep; rw [a], s.1, b⟩
  | .split p k q j r, ns, d, h, s => by
    have h' : (match stl p ns, stl q (k :: ns), stl r (j :: ns) with
      | some a, some b, some c => some (Db.case a b c)
      | _, _, _ => none) = some d := h
    split at h'
    · rename_i a b c h1 h2 h3
      cases h'
      obtain ⟨u1, v1⟩ := stl_meas p _ a h1 s.1
      obtain ⟨u2, v2⟩ := stl_meas q _ b h2 s.2.1
      obtain ⟨u3, v3⟩ := stl_meas r _ c h3 s.2.2
      exact ⟨by unfold wdep pdep; rw [u1, u2, u3], v1, v2, v3⟩
    · cases h'
/-- kinds that grow by fn and pair alone -/
def Gen (M : Nat) : Fm → Prop
  | .imp a b => fdep (.imp a b) ≤ M ∨ (fdep a ≤ M ∧ Gen M b)
  | .and a b => fdep (.and a b) ≤ M ∨ (Gen M a ∧ Gen M b)
  | .or a b => fdep (.or a b) ≤ M
  | .bot => fdep .bot ≤ M
  | .atom x => fdep (.atom x) ≤ M
theorem Gen.of {M : Nat} : ∀ {A : Fm}, fdep A ≤ M → Gen M A
  | .imp a b, h => .inl h
  | .and a b, h => .inl h
  | .or a b, h => h
  | .bot, h => h
  | .atom x, h => h
theorem Gen.arg {M : Nat} {a b : Fm} (h : Gen M (.imp a b)) : fdep a ≤ M := by
  rcases h with h | h
  · have h' : 1 + max (fdep a) (fdep b) ≤ M := h
    omega
  · exact h.1
theorem Gen.res {M : Nat} {a b : Fm} (h : Gen M (.imp a b)) : Gen M b := by
  rcases h with h | h
  · have h' : 1 + max (fdep a) (fdep b) ≤ M := h
    exact .of (by omega)
  · exact h.2
theorem Gen.l {M : Nat} {a b : Fm} (h : Gen M (.and a b)) : Gen M a := by
  rcases h with h | h
  · have h' : 1 + max (fdep a) (fdep b) ≤ M := h
    exact .of (by omega)
  · exact h.1
theorem Gen.r {M : Nat} {a b : Fm} (h : Gen M (.and a b)) : Gen M b := by
  rcases h with h | h
  · have h' : 1 + max (fdep a) (fdep b) ≤ M := h
    exact .of (by omega)
  · exact h.2
theorem fd60 {A : Fm} (h : sz A ≤ 60) : fdep A ≤ 60 := by have := fdep_sz A; omega
theorem tyGen {Γ : List Fm} {d : Db} {A : Fm} (h : TyD Γ d A) : SmallD 60 d → (∀ B ∈ Γ, fdep B ≤ 60) → Gen 60 A ∧ fdep A ≤ 60 + wdep d := by
  induction h with
  | var e => exact fun _ hc => ⟨.of (hc _ (List.mem_of_getElem? e)), Nat.le_trans (hc _ (List.mem_of_getElem? e)) (Nat.le_add_right _ _)⟩
  | @fn Γ A B p _ ih =>
    intro s hc
    have hA := fd60 s.1
    obtain ⟨h1, h2⟩ := ih s.2 fun C hC => by
      rcases List.mem_cons.mp hC with e | e
      · subst e; exact hA
      · exact hc C e
    exact ⟨.inr ⟨hA, h1⟩, by show 1 + max (fdep A) (fdep B) ≤ 60 + (wdep p + 1); omega⟩
  | @app Γ A B p q _ _ i1 i2 =>
    intro s hc
    obtain ⟨h1, h2⟩ := i1 s.1 hc
    have h2' : 1 + max (fdep A) (fdep B) ≤ 60 + wdep p := h2
    exact ⟨h1.res, by show _ ≤ 60 + (max (wdep p) (wdep q) + 1); omega⟩
  | @pair Γ A B p q _ _ i1 i2 =>
    intro s hc
    obtain ⟨h1, h2⟩ := i1 s.1 hc
    obtain ⟨h3, h4⟩ := i2 s.2 hc
    exact ⟨.inr ⟨h1, h3⟩, by show 1 + max (fdep A) (fdep B) ≤ 60 + (max (wdep p) (wdep q) + 1); omega⟩
  | @fst Γ A B p _ ih =>
    intro s hc
    obtain ⟨h1, h2⟩ := ih s hc
    have h2' : 1 + max (fdep A) (fdep B) ≤ 60 + wdep p := h2
    exact ⟨h1.l, by show _ ≤ 60 + (wdep p + 1); omega⟩
  | @snd Γ A B p _ ih =>
    intro s hc
    obtain ⟨h1, h2⟩ := ih s hc
    have h2' : 1 + max (fdep A) (fdep B) ≤ 60 + wdep p := h2
    exact ⟨h1.r, by show _ ≤ 60 + (wdep p + 1); omega⟩
  | inl _ ih => exact fun s hc => ⟨.of (fd60 s.1), Nat.le_trans (fd60 s.1) (Nat.le_add_right _ _)⟩
  | inr _ ih => exact fun s hc => ⟨.of (fd60 s.1), Nat.le_trans (fd60 s.1) (Nat.le_add_right _ _)⟩
  | never _ ih => exact fun s hc => ⟨.of (fd60 s.1), Nat.le_trans (fd60 s.1) (Nat.le_add_right _ _)⟩
  | @case Γ A B D p q r _ _ _ i1 i2 i3 =>
    intro s hc
    obtain ⟨h1, h2⟩ := i1 s.1 hc
    have h1' : 1 + max (fdep A) (fdep B) ≤ 60 := h1
    obtain ⟨h3, h4⟩ := i2 s.2.1 fun C hC => by
      rcases List.mem_cons.mp hC with e | e
      · subst e; omega
      · exact hc C e
    exact ⟨h3, by show _ ≤ 60 + (max (wdep p) (max (wdep q) (wdep r)) + 2); omega⟩
end G
end L3
end
section
set_option Elab.async false
set_option linter.all false
set_option maxRecDepth 100000
set_option maxHeartbeats 0
namespace L3
namespace K07
open PySem G

/-! ### the store: a search at i, its cells -/
def flds (nm f : Nat) (av : PV) (t : Nat) : List (Str × PV) := [("names", .loc nm), ("facts", .loc f), ("arrows", av), ("todo", .loc t)]
def encK (l : List (Nm × Pg)) : List (L2.Key × PV) := l.map fun q => ((Sum.inr q.1.1 : L2.Key), encP q.2)
def trues (k : Nat) : Cell := .lst (List.replicate k (.bl true))
/-- av: the arrows, a cell or (done) a list -/
structure Here (C : Addr) (st : Store) (i nm f : Nat) (av : PV) (t : Nat) (s : St) : Prop where
  ins : st[i]? = some (.ins C (flds nm f av t))
  nam : st[nm]? = some (trues s.k)
  fac : st[f]? = some (.dic (encK s.facts))
  arr : seqL av st = some (s.arrows.map encQ)
  tod : st[t]? = some (.lst (s.todo.reverse.map encQ))
  nt : nm ≠ t
  ok : ∀ a, av = .loc a → nm ≠ a ∧ a ≠ t
section
variable {C : Addr} {st : Store} {i nm f a t : Nat} {av : PV} {s : St} {env : EnvP}
theorem set_ne {n m : Nat} {c : Cell} (h : n ≠ m) : (st.set n c)[m]? = st[m]? := List.getElem?_set_ne h
theorem set_eq {n : Nat} {c d : Cell} (h : st[n]? = some d) : (st.set n c)[n]? = some c := List.getElem?_set_self (List.getElem?_eq_some_iff.mp h).1
theorem seqL_cell {xs : List PV} (h : st[a]? = some (.lst xs)) : seqL (.loc a) st = some xs := by
  show (match st[a]? with | some (.lst xs) => some xs | _ => none) = some xs
  rw [h]
theorem seqL_loc {xs : List PV} (h : seqL (.loc a) st = some xs) : st[a]? = some (.lst xs) := by
  have h' : (match st[a]? with | some (.lst xs) => some xs | _ => none) = some xs := h
  split at h'
  · rename_i q; cases h'; exact q
  · cases h'
theorem seqL_lst {xs : List PV} {st : Store} : seqL (.lst xs) st = some xs := rfl
theorem Here.ne (H : Here C st i nm f av t s) : i ≠ nm ∧ i ≠ f ∧ i ≠ t ∧ f ≠ nm ∧ f ≠ t := by
  have h1 := H.ins; have h2 := H.nam; have h3 := H.fac; have h5 := H.tod
  refine ⟨fun e => ?_, fun e => ?_, fun e => ?_, fun e => ?_, fun e => ?_⟩ <;> subst e
  · rw [h1] at h2; cases h2
  · rw [h1] at h3; cases h3
  · rw [h1] at h5; cases h5
  · rw [h3] at h2; cases h2
  · rw [h3] at h5; cases h5
theorem Here.nea (H : Here C st i nm f (.loc a) t s) : i ≠ a ∧ f ≠ a ∧ nm ≠ a ∧ a ≠ t := by
  have h1 := H.ins; have h3 := H.fac; have h4 := seqL_loc H.arr
  refine ⟨fun e => ?_, fun e => ?_, (H.ok a rfl).1, (H.ok a rfl).2⟩ <;> subst e
  · rw [h1] at h4; cases h4
  · rw [h3] at h4; cases h4
/-- the arrows stay where other cells change -/
theorem Here.arr_keep (H : Here C st i nm f av t s) {st' : Store} (k : ∀ a, av = .loc a → st'[a]? = st[a]?) : seqL av st' = some (s.arrows.map encQ) := by
  have h := H.arr
  cases av with
  | lst xs => exact h
  | loc a => exact seqL_cell (by rw [k a rfl]; exact seqL_loc h)
  | _ => cases h
theorem Here.setN (H : Here C st i nm f av t s) (k : Nat) : Here C (st.set nm (trues k)) i nm f av t { s with k := k } := by
  obtain ⟨n1, n2, n3, n4, n5⟩ := H.ne
  exact ⟨by rw [set_ne n1.symm]; exact H.ins, set_eq H.nam, by rw [set_ne n4.symm]; exact H.fac, H.arr_keep fun a e => set_ne (H.ok a e).1, by rw [set_ne H.nt]; exact H.tod, H.nt, H.ok⟩
theorem Here.setT (H : Here C st i nm f av t s) (l : List (Fm × Pg)) : Here C (st.set t (.lst (l.reverse.map encQ))) i nm f av t { s with todo := l } := by
  obtain ⟨n1, n2, n3, n4, n5⟩ := H.ne
  exact ⟨by rw [set_ne n3.symm]; exact H.ins, by rw [set_ne H.nt.symm]; exact H.nam, by rw [set_ne n5.symm]; exact H.fac, H.arr_keep fun a e => set_ne (H.ok a e).2.symm, set_eq H.tod, H.nt, H.ok⟩
theorem Here.setA (H : Here C st i nm f (.loc a) t s) (l : List (Fm × Pg)) : Here C (st.set a (.lst (l.map encQ))) i nm f (.loc a) t { s with arrows := l } := by
  obtain ⟨n1, n2, n3, n4⟩ := H.nea
  exact ⟨by rw [set_ne n1.symm]; exact H.ins, by rw [set_ne n3.symm]; exact H.nam, by rw [set_ne n2.symm]; exact H.fac, seqL_cell (set_eq (seqL_loc H.arr)), by rw [set_ne n4]; exact H.tod, H.nt, H.ok⟩
theorem Here.setF (H : Here C st i nm f av t s) (hf : ∀ a, av = .loc a → f ≠ a) (l : List (Nm × Pg)) : Here C (st.set f (.dic (encK l))) i nm f av t { s with facts := l } := by
  obtain ⟨n1, n2, n3, n4, n5⟩ := H.ne
  exact ⟨by rw [set_ne n2.symm]; exact H.ins, by rw [set_ne n4]; exact H.nam, set_eq H.fac, H.arr_keep fun a e => set_ne (hf a e), by rw [set_ne n5]; exact H.tod, H.nt, H.ok⟩
theorem Here.grow (H : Here C st i nm f av t s) (l : Store) : Here C (st ++ l) i nm f av t s := by
  have lt : ∀ {m : Nat} {c : Cell}, st[m]? = some c → (st ++ l)[m]? = some c := fun h => by
    rw [List.getElem?_append_left (List.getElem?_eq_some_iff.mp h).1]; exact h
  refine ⟨lt H.ins, lt H.nam, lt H.fac, H.arr_keep fun a e => ?_, lt H.tod, H.nt, H.ok⟩
  have h := H.arr
  subst e
  rw [lt (seqL_loc h), seqL_loc h]
/-- fields -/
theorem fld_at {fn : Str} {v : PV} {x : FE} (H : Here C st i nm f av t s) (hx : x env st = some (.loc i, st)) (hv : (flds nm f av t).lookup fn = some v) : eFld C fn x env st = some (v, st) := by
  unfold eFld icell
  rw [hx]
  simp only [H.ins, hv, if_true]
theorem lk_names : (flds nm f av t).lookup ("names" : Str) = some (PV.loc nm) := rfl
theorem lk_facts : (flds nm f av t).lookup ("facts" : Str) = some (PV.loc f) := rfl
theorem lk_arrows : (flds nm f av t).lookup ("arrows" : Str) = some av := rfl
theorem lk_todo : (flds nm f av t).lookup ("todo" : Str) = some (PV.loc t) := rfl
theorem fld0 {fn : Str} {v : PV} (H : Here C st i nm f av t s) (hv : (flds nm f av t).lookup fn = some v) (e : EnvP) : eFld C fn (eVar 0) (some (.loc i) :: e) st = some (v, st) := fld_at H rfl hv
theorem meth_at {m : Str} {g : GA} {x : FE} {fa : FA} {as : List PV} {st2 : Store} (H : Here C st i nm f av t s) (hx : x env st = some (.loc i, st)) (hm : (flds nm f av t).lookup m = none) (ha : fa env st = some (as, st2)) : eM C m g x fa env st = g (.loc i :: as) st2 := by
  unfold eM icell
  rw [hx]
  simp only [H.ins, hm, and_self, if_true, ha]
theorem fresh_at (n : Nat) (H : Here C st i nm f av t s) (hk : s.k < lim) : run C (n + 1) .Search_fresh [.loc i] st = some (encN s.k, st.set nm (trues (s.k + 1))) := by
  have H2 := H.setN (s.k + 1)
  have e1 : ∀ st', Here C st' i nm f av t { s with k := s.k + 1 } → eFld C "names" (eVar 0) [some (.loc i)] st' = some (.loc nm, st') := fun st' h => fld_at h rfl lk_names
  have e0 : eFld C "names" (eVar 0) [some (.loc i)] st = some (.loc nm, st) := fld_at H rfl lk_names
  have h1 : st[nm]? = some (.lst (List.replicate s.k (.bl true))) := H.nam
  have h2 : (st.set nm (trues (s.k + 1)))[nm]? = some (.lst (List.replicate (s.k + 1) (.bl true))) := H2.nam
  have hk' : s.k < sizeLine := hk
  have a1 : eBM mAppend (eFld C "names" (eVar 0)) (aCons (eC (.bl true)) aNil) [some (.loc i)] st = some (.non, st.set nm (trues (s.k + 1))) := by
    unfold eBM
    rw [e0]
    simp only [seqL, h1, aCons, eC, aNil, mAppend, lcell, List.length_replicate, hk', if_true]
    rw [show List.replicate s.k (PV.bl true) ++ [.bl true] = List.replicate (s.k + 1) (.bl true) by rw [List.replicate_succ']]
    rfl
  show fnS 1 0 (b_Search_fresh (run C n) C n) [.loc i] st = _
  unfold fnS b_Search_fresh
  simp only [List.length_singleton, if_true, List.map_cons, List.map_nil, List.replicate_zero, List.append_nil, sSeq, sEx, a1, sRet, eTup, aCons, eC, aNil, eBin, eCall, e1 _ H2, cLen, seqA, h2, gSub, gInt, List.length_replicate, List.length_cons, List.length_nil]
  rw [if_pos (by decide)]
  have : (((s.k + 1 : Nat) : Int) - 1) = (s.k : Int) := by omega
  rw [this]
  rfl
/-! ### new searches -/
theorem app_last (c : Cell) : (st ++ [c])[st.length]? = some c := by simp
theorem init_at (C : Addr) (st : Store) (v1 v2 v3 v4 : PV) : g_init C [.loc st.length, v1, v2, v3, v4] (st ++ [.ins C []]) = some (.non, st ++ [.ins C [("names", v1), ("facts", v2), ("arrows", v3), ("todo", v4)]]) := by
  have up : ∀ (c d : Cell), (st ++ [c]).set st.length d = st ++ [d] := fun c d => by
    rw [List.set_append_right _ _ (Nat.le_refl _)]; simp
  have step : ∀ (fn : Str) (k : Nat) (v : PV) (fs : List (Str × PV)) (env : EnvP), env[0]? = some (some (.loc st.length)) → env[k]? = some (some v) → fs.length < 1000 → sFl C fn (eVar 0) (eVar k) env (st ++ [.ins C fs]) = some (.nx, env, st ++ [.ins C (putFP fn v fs)]) := fun fn k v fs env h0 hk hl => by
    unfold sFl eVar icell
    simp only [hk, h0, app_last]
    rw [if_pos ⟨trivial, hl⟩, up]
  show fnS 5 0 (b_Search___init__ (fun _ _ _ => none) C 0) _ _ = _
  unfold fnS b_Search___init__
  simp only [List.length_cons, List.length_nil, if_true, List.map_cons, List.map_nil, List.replicate_zero, List.append_nil, sSeq]
  rw [step "names" 1 v1 [] _ rfl rfl (by decide)]
  simp only
  rw [step "facts" 2 v2 (putFP "names" v1 []) _ rfl rfl (show 1 < 1000 by decide)]
  simp only
  rw [step "arrows" 3 v3 (putFP "facts" v2 (putFP "names" v1 [])) _ rfl rfl (show 2 < 1000 by decide)]
  simp only
  rw [step "todo" 4 v4 (putFP "arrows" v3 (putFP "facts" v2 (putFP "names" v1 []))) _ rfl rfl (show 3 < 1000 by decide)]
  rfl
theorem new_at {fa : FA} {st1 : Store} {v1 v2 v3 v4 : PV} (ha : fa env st = some ([v1, v2, v3, v4], st1)) : eNew C (g_init C) fa env st = some (.loc st1.length, st1 ++ [.ins C [("names", v1), ("facts", v2), ("arrows", v3), ("todo", v4)]]) := by
  unfold eNew
  rw [ha]
  simp only [init_at]
/-- the cells of a new search behind those of st -/
def newCells (C : Addr) (n nm : Nat) (s : St) : Store := [.dic (encK s.facts), .lst (s.arrows.map encQ), .lst (s.todo.reverse.map encQ), .ins C (flds nm n (.loc (n + 1)) (n + 2))]
theorem here_new (H : Here C st i nm f av t s) (s' : St) (hk : s'.k = s.k) : Here C (st ++ newCells C st.length nm s') (st.length + 3) nm st.length (.loc (st.length + 1)) (st.length + 2) s' := by
  have hn : nm < st.length := (List.getElem?_eq_some_iff.mp H.nam).1
  refine ⟨?_, ?_, ?_, seqL_cell ?_, ?_, by omega, fun a e => by cases e; omega⟩
  · rw [List.getElem?_append_right (by omega)]; simp [newCells]
  · rw [List.getElem?_append_left hn, hk]; exact H.nam
  · rw [List.getElem?_append_right (by omega)]; simp [newCells]
  · rw [List.getElem?_append_right (by omega)]; simp [newCells]
  · rw [List.getElem?_append_right (by omega)]; simp [newCells]
theorem few_at {s : St} (h : few s = true) : s.todo.length + s.arrows.length + s.facts.length ≤ 1000 := of_decide_eq_true h
theorem line_le {n : Nat} (h : n ≤ 2000) : n ≤ sizeLine := Nat.le_trans h (by decide)
/-- state.more(*pairs) -/
theorem more_at (n : Nat) (H : Here C st i nm f av t s) (ps : List (Fm × Pg)) (hl : s.todo.length + ps.length ≤ 2000) (h5 : ps.length ≤ 5) :
    run C (n + 1) .Search_more (.loc i :: ps.map encQ) st = some (.loc (st.length + 3), st ++ newCells C st.length nm { s with todo := ps.reverse ++ s.todo }) := by
  have H1 := H.grow [.dic (encK s.facts)]
  have H2 := H1.grow [.lst (s.arrows.map encQ)]
  have f0 : st[f]? = some (.dic (encK s.facts)) := H.fac
  have f1 : seqL av (st ++ [.dic (encK s.facts)]) = some (s.arrows.map encQ) := H1.arr
  have f1' : cLstM [av] (st ++ [.dic (encK s.facts)]) = some (.loc (st.length + 1), (st ++ [.dic (encK s.facts)]) ++ [.lst (s.arrows.map encQ)]) := by
    cases av with
    | lst xs => cases f1; simp [cLstM, seqA]
    | loc a => simp [cLstM, seqA, seqL_loc f1]
    | _ => cases f1
  have f2 : ((st ++ [.dic (encK s.facts)]) ++ [.lst (s.arrows.map encQ)])[t]? = some (.lst (s.todo.reverse.map encQ)) := H2.tod
  show fnV 5 0 (b_Search_more (run C n) C n) _ _ = _
  unfold fnV b_Search_more
  simp only [List.length_map, h5, if_true, List.replicate_zero, List.append_nil, sRet]
  have ha : aCons (eFld C "names" (eVar 0)) (aCons (eCall cDicC (aCons (eFld C "facts" (eVar 0)) aNil)) (aCons (eCall cLstM (aCons (eFld C "arrows" (eVar 0)) aNil)) (aCons (eBin gCatM (eCall cLst (aCons (eFld C "todo" (eVar 0)) aNil)) (eCall cLst (aCons (eVar 1) aNil))) aNil))) [some (.loc i), some (.tup (ps.map encQ))] st
      = some ([.loc nm, .loc st.length, .loc (st.length + 1), .loc (st.length + 2)], ((st ++ [.dic (encK s.facts)]) ++ [.lst (s.arrows.map encQ)]) ++ [.lst ((ps.reverse ++ s.todo).reverse.map encQ)]) := by
    simp only [aCons, fld0 H lk_names, fld0 H lk_facts, fld0 H1 lk_arrows, fld0 H2 lk_todo,
      eCall, aNil, cDicC, dcell, f0, f1', seqA, eBin, cLst, f2, eVar, List.getElem?_cons_succ, List.getElem?_cons_zero, gCatM, seqL, List.length_map, List.length_reverse]
    rw [if_pos (line_le hl)]
    simp
  rw [new_at ha]
  simp [newCells, flds]
theorem six_some (n d k : Nat) : HT.sIx n d (some (k : Int)) = min k n := HT.sIx_nat n d k
theorem six_none (n d : Nat) : HT.sIx n d none = d := rfl
theorem cut_take (xs : List PV) (k : Nat) (h : k ≤ xs.length) : cutP xs none (some (k : Int)) = xs.take k := by
  unfold cutP
  rw [six_none, six_some, List.drop_zero, Nat.min_eq_left h, Nat.sub_zero]
theorem cut_drop (xs : List PV) (k : Nat) (h : k ≤ xs.length) : cutP xs (some (k : Int)) none = xs.drop k := by
  unfold cutP
  rw [six_none, six_some, Nat.min_eq_left h]
  exact List.take_of_length_le (by rw [List.length_drop]; exact Nat.le_refl _)
/-- state.without(at) -/
theorem without_at (n : Nat) (H : Here C st i nm f av t s) (d r : List (Fm × Pg)) (q : Fm × Pg) (e : s.arrows = d ++ q :: r) (hl : s.arrows.length ≤ 2000) :
    run C (n + 1) .Search_without [.loc i, .int (d.length : Nat)] st = some (.loc (st.length + 3), st ++ newCells C st.length nm { s with arrows := d ++ r }) := by
  have H1 := H.grow [.dic (encK s.facts)]
  have H2 := H1.grow [.lst ((d ++ r).map encQ)]
  have f0 : st[f]? = some (.dic (encK s.facts)) := H.fac
  have f1 : seqL av (st ++ [.dic (encK s.facts)]) = some (s.arrows.map encQ) := H1.arr
  have f2 : ((st ++ [.dic (encK s.facts)]) ++ [.lst ((d ++ r).map encQ)])[t]? = some (.lst (s.todo.reverse.map encQ)) := H2.tod
  have c1 : cutP (s.arrows.map encQ) none (some (d.length : Int)) = d.map encQ := by
    rw [cut_take _ _ (by rw [e]; simp), e]; simp
  have c2 : cutP (s.arrows.map encQ) (some ((d.length : Int) + 1)) none = r.map encQ := by
    rw [show (d.length : Int) + 1 = ((d.length + 1 : Nat) : Int) by omega, cut_drop _ _ (by rw [e]; simp), e]
    simp [List.drop_append]
  have hd : d.length + r.length ≤ 2000 := by rw [e] at hl; simp at hl; omega
  show fnS 2 0 (b_Search_without (run C n) C n) _ _ = _
  unfold fnS b_Search_without
  simp only [List.length_cons, List.length_nil, if_true, List.map_cons, List.map_nil, List.replicate_zero, List.append_nil, sRet]
  have ha : aCons (eFld C "names" (eVar 0)) (aCons (eCall cDicC (aCons (eFld C "facts" (eVar 0)) aNil)) (aCons (eBin gCatM (eSl gSlL (eFld C "arrows" (eVar 0)) oNone (oSome (eVar 1))) (eSl gSlL (eFld C "arrows" (eVar 0)) (oSome (eBin gAdd (eVar 1) (eC (.int 1)))) oNone)) (aCons (eCall cLstM (aCons (eFld C "todo" (eVar 0)) aNil)) aNil))) [some (.loc i), some (.int (d.length : Nat))] st
      = some ([.loc nm, .loc st.length, .loc (st.length + 1), .loc (st.length + 2)], ((st ++ [.dic (encK s.facts)]) ++ [.lst ((d ++ r).map encQ)]) ++ [.lst (s.todo.reverse.map encQ)]) := by
    simp only [aCons, fld0 H lk_names, fld0 H lk_facts, fld0 H1 lk_arrows, fld0 H2 lk_todo, eCall, aNil, cDicC, dcell, f0, eBin, eSl, oNone, oSome, gSlL, f1, c1, c2, gAdd, eC, eVar, List.getElem?_cons_succ, List.getElem?_cons_zero, gCatM, seqL_lst, List.length_map]
    rw [if_pos (line_le hd)]
    have g3 : cLstM [.loc t] ((st ++ [.dic (encK s.facts)]) ++ [.lst ((d ++ r).map encQ)]) = some (.loc (st.length + 2), ((st ++ [.dic (encK s.facts)]) ++ [.lst ((d ++ r).map encQ)]) ++ [.lst (s.todo.reverse.map encQ)]) := by
      simp only [cLstM, seqA, f2]
      simp
    simp only [← List.map_append, fld0 H2 lk_todo, g3]
    simp
  rw [new_at ha]
  simp [newCells, flds]
end
end K07
end L3
end
section
set_option Elab.async false
set_option linter.all false
set_option maxRecDepth 100000
set_option maxHeartbeats 0
namespace L3
namespace K07
open PySem G
section
variable {C : Addr} {st : Store} {i nm f a t : Nat} {av : PV} {s : St} {env : EnvP}
/-! ### dicts of facts -/
theorem val_at (l : List (Nm × Pg)) (x : Nm) : valP (encK l) (.inr x.1) = (l.lookup x).map encP := by
  induction l with
  | nil => rfl
  | cons q l ih =>
    obtain ⟨y, p⟩ := q
    unfold valP encK at ih ⊢
    rw [List.map_cons, List.lookup_cons]
    by_cases h : x = y
    · subst h
      rw [List.find?_cons_of_pos (by simp)]
      simp
    · have h1 : ¬ ((Sum.inr y.1 : L2.Key) = Sum.inr x.1) := fun e => h (Subtype.ext (by injection e with e; exact e.symm))
      rw [List.find?_cons_of_neg (by simpa using h1)]
      have : (x == y) = false := beq_eq_false_iff_ne.mpr h
      rw [this]
      exact ih
theorem put_at (l : List (Nm × Pg)) (x : Nm) (p : Pg) (h : l.lookup x = none) : putP (encK l) (.inr x.1) (encP p) = encK (l ++ [(x, p)]) := by
  unfold putP
  have hn : (encK l).any (fun kv => decide (kv.1 = (Sum.inr x.1 : L2.Key))) = false := by
    rw [List.any_eq_false]
    intro kv hk
    obtain ⟨q, hq, rfl⟩ := List.mem_map.mp hk
    have := lookup_none_mem h q hq
    simp only [decide_eq_true_eq]
    exact fun e => this (Subtype.ext (by injection e))
  rw [hn]
  simp [encK]
/-- d[x] in d -/
theorem din_at {x : Nm} {neg : Bool} {fk fd : FE} {kv : List (Nm × Pg)} (hk : fk env st = some (.str x.1, st)) (hd : fd env st = some (.loc f, st)) (hf : st[f]? = some (.dic (encK kv))) : eDin neg fk fd env st = some (.bl (if neg then !(kv.lookup x).isSome else (kv.lookup x).isSome), st) := by
  unfold eDin
  rw [hk]
  simp only [hd, dcell, hf, keyP, val_at, Option.isSome_map]
theorem dget_at {x : Nm} {fk fd : FE} {kv : List (Nm × Pg)} {p : Pg} (hk : fk env st = some (.str x.1, st)) (hd : fd env st = some (.loc f, st)) (hf : st[f]? = some (.dic (encK kv))) (hp : kv.lookup x = some p) : eDget fd fk env st = some (encP p, st) := by
  unfold eDget
  rw [hd]
  simp only [hk, dcell, hf, keyP, val_at, hp, Option.map_some]
theorem eqF_at (A B : Fm) (h : (encF B).toD.depth ≤ 900) : gEq (encF A) (encF B) st = some (.bl (decide (A = B)), st) := by
  unfold gEq lowD
  rw [layF', layF', eqF]
  rw [if_pos (by simp; omega)]
theorem eqF_at' (A B : Fm) (h : (encF A).toD.depth ≤ 900) : gEq (encF A) (encF B) st = some (.bl (decide (A = B)), st) := by
  unfold gEq lowD
  rw [layF', layF', eqF]
  rw [if_pos (by simp; omega)]
/-- two texts -/
theorem eqS_at (x y : Str) (hx : PyData.strOk x = true) (hy : PyData.strOk y = true) : gEq (.str x) (.str y) st = some (.bl (decide (x = y)), st) := by
  have l1 : (PV.str x).lay = true := by show (true && PyData.strOk x) = true; rw [hx]; rfl
  have l2 : (PV.str y).lay = true := by show (true && PyData.strOk y) = true; rw [hy]; rfl
  unfold gEq lowD
  rw [l1, l2]
  have hc : (true && true && decide (min (PV.str x).toD.depth (PV.str y).toD.depth ≤ 900)) = true := by
    have : min (PV.str x).toD.depth (PV.str y).toD.depth = 0 := rfl
    rw [this]; rfl
  rw [if_pos hc]
  show some (PV.bl (PyData.eqv (.str x) (.str y)), st) = _
  rw [eqs]
theorem waits_imp (x : Nm) (L c : Fm) : waits x (.imp L c) = decide (L = .atom x) := by
  cases L with
  | atom y =>
    show (y == x) = _
    by_cases h : y = x
    · subst h; simp
    · rw [beq_eq_false_iff_ne.mpr h]
      exact (decide_eq_false (fun e => h (by injection e))).symm
  | _ => rfl
/-! ### list.remove -/
theorem toDs_map (l : List (Fm × Pg)) : PV.toDs (l.map encQ) = l.map fun q => (encQ q).toD := by
  induction l with
  | nil => rfl
  | cons q l ih => show (encQ q).toD :: PV.toDs (l.map encQ) = _; rw [ih]; rfl
theorem pures_map (l : List (Fm × Pg)) : PV.pures (l.map encQ) = true := by
  induction l with
  | nil => rfl
  | cons q l ih => show ((encQ q).pure && PV.pures (l.map encQ)) = true; rw [pureQ, ih]; rfl
theorem lays_map (l : List (Fm × Pg)) : PyData.canLayAll0 (l.map fun q => (encQ q).toD) = true := by
  induction l with
  | nil => rfl
  | cons q l ih => show ((encQ q).toD.canLay0 && PyData.canLayAll0 (l.map fun q => (encQ q).toD)) = true; rw [layQ, ih]; rfl
theorem find_at (q : Fm × Pg) (r : List (Fm × Pg)) : ∀ (d : List (Fm × Pg)) (n : Nat), (∀ z ∈ d, z.1 ≠ q.1) → findD (encQ q).toD ((d ++ q :: r).map fun q => (encQ q).toD) n = some (n + d.length)
  | [], n, _ => by
    show (if PyData.eqv (encQ q).toD (encQ q).toD = true then some n else _) = _
    rw [if_pos (eqRefl _ (layQ q))]; rfl
  | z :: d, n, h => by
    show (if PyData.eqv (encQ z).toD (encQ q).toD = true then some n else findD (encQ q).toD ((d ++ q :: r).map fun q => (encQ q).toD) (n + 1)) = _
    rw [if_neg (by rw [eqQ_fst (h z (List.mem_cons_self ..))]; decide), find_at q r d (n + 1) fun y hy => h y (List.mem_cons_of_mem _ hy)]
    simp; omega
theorem remove_at (d r : List (Fm × Pg)) (q : Fm × Pg) (hd : ∀ z ∈ d, z.1 ≠ q.1) (hq : pdep q.2 ≤ 400 ∧ sz q.1 ≤ 60 ∧ Small 60 q.2) (ha : st[a]? = some (.lst ((d ++ q :: r).map encQ))) : mRemove (.loc a) [encQ q] st = some (.non, st.set a (.lst ((d ++ r).map encQ))) := by
  unfold mRemove
  simp only [lcell, ha]
  have hl : lowL (encQ q) ((d ++ q :: r).map encQ) = true := by
    unfold lowL
    have l1 : (encQ q).lay = true := by unfold PV.lay; rw [pureQ, layQ]; rfl
    have := depQ q hq.2.1 hq.2.2 hq.1
    rw [l1, pures_map, toDs_map, lays_map]
    simp; omega
  rw [if_pos hl, toDs_map, find_at q r d 0 hd, Nat.zero_add]
  simp only
  have er : ((d ++ q :: r).map encQ).eraseIdx d.length = (d ++ r).map encQ := by
    rw [List.map_append, List.map_cons, List.eraseIdx_append_of_length_le (by simp)]
    simp
  rw [er]
end
end K07
end L3
end
section
set_option Elab.async false
set_option linter.all false
set_option maxRecDepth 100000
set_option maxHeartbeats 0
namespace L3
namespace K07
open PySem G
section
variable {C : Addr} {st : Store} {i nm f a t : Nat} {av : PV} {s : St} {env : EnvP}
theorem ixn (xs : List PV) (k : Nat) (v : PV) (h : xs[k]? = some v) : gIx (.tup xs) (.int ((k : Nat) : Int)) st = some (v, st) := by
  show (match L2.atI xs ((k : Nat) : Int) with | some v => some (v, st) | none => none) = _
  rw [L2.atI_nat h]
theorem ix0 (x : PV) (r : List PV) : gIx (.tup (x :: r)) (.int 0) st = some (x, st) := ixn _ 0 x rfl
theorem ix1 (x y : PV) (r : List PV) : gIx (.tup (x :: y :: r)) (.int 1) st = some (y, st) := ixn _ 1 y rfl
theorem ix2 (x y z : PV) (r : List PV) : gIx (.tup (x :: y :: z :: r)) (.int 2) st = some (z, st) := ixn _ 2 z rfl
theorem ix3 (x y z w : PV) (r : List PV) : gIx (.tup (x :: y :: z :: w :: r)) (.int 3) st = some (w, st) := ixn _ 3 w rfl
def isImp : Fm → Bool
  | .imp _ _ => true
  | _ => false
theorem imp_at {A : Fm} (h : isImp A = true) : ∃ L c, A = .imp L c := by
  cases A with
  | imp L c => exact ⟨L, c, rfl⟩
  | _ => cases h
def bodyA (C : Addr) : FS := sIf (tOf (eBin gEq (eBin gIx (eVar 3) (eC (.int 1))) (eVar 1))) (sSeq (sEx (eBM mRemove (eFld C "arrows" (eVar 0)) (aCons (eTup (aCons (eVar 3) (aCons (eVar 4) (aNil)))) (aNil)))) (sEx (eBM mAppend (eFld C "todo" (eVar 0)) (aCons (eTup (aCons (eBin gIx (eVar 3) (eC (.int 2))) (aCons (eTup (aCons (eC (.str "app")) (aCons (eVar 4) (aCons (eVar 2) (aNil))))) (aNil)))) (aNil))))) (sNx)
def Frame (js : List Nat) (st st' : Store) : Prop := st'.length = st.length ∧ ∀ j, j ∉ js → st'[j]? = st[j]?
theorem Frame.refl (js : List Nat) (st : Store) : Frame js st st := ⟨rfl, fun _ _ => rfl⟩
theorem Frame.trans {js : List Nat} {st1 st2 st3 : Store} (h : Frame js st1 st2) (k : Frame js st2 st3) : Frame js st1 st3 := ⟨k.1.trans h.1, fun j hj => (k.2 j hj).trans (h.2 j hj)⟩
theorem Frame.set {js : List Nat} {n : Nat} {c : Cell} (h : n ∈ js) : Frame js st (st.set n c) := ⟨by simp, fun j hj => set_ne fun e => hj (e ▸ h)⟩
theorem Frame.mono {js ks : List Nat} {st1 st2 : Store} (h : Frame js st1 st2) (k : ∀ j ∈ js, j ∈ ks) : Frame ks st1 st2 := ⟨h.1, fun j hj => h.2 j fun m => hj (k j m)⟩
/-- appending one to the todo -/
theorem app_todo (H : Here C st i nm f av t s) (q : Fm × Pg) (hl : s.todo.length ≤ 2000) (x : FA) (e : EnvP) (hx : x (some (.loc i) :: e) st = some ([encQ q], st)) :
    eBM mAppend (eFld C "todo" (eVar 0)) x (some (.loc i) :: e) st = some (.non, st.set t (.lst ((q :: s.todo).reverse.map encQ))) := by
  unfold eBM
  rw [fld0 H lk_todo]
  have h1 : st[t]? = some (.lst (s.todo.reverse.map encQ)) := H.tod
  simp only [seqL_cell h1, hx, mAppend, lcell, h1, List.length_map, List.length_reverse]
  rw [if_pos (Nat.lt_of_le_of_lt hl (by decide))]
  simp
theorem loopA (x : Nm) (p : Pg) : ∀ (r : List (Fm × Pg)) (d : List (Fm × Pg)) (td : List (Fm × Pg)) (st : Store) (e3 e4 : Option PV) (ks : List (Nm × Pg)) (k : Nat), Here C st i nm f (.loc a) t ⟨k, ks, d ++ r, td⟩ → (∀ q ∈ r, isImp q.1 = true) → (∀ q ∈ d, waits x q.1 = false) → low r = true → td.length + r.length ≤ 2000 →
    ∃ st' f3 f4, loop (tT 2 (tCons (tN 3) (tCons (tN 4) tNil))) (bodyA C) (r.map encQ) [some (.loc i), some (encF (.atom x)), some (encP p), e3, e4] st = some (.nx, [some (.loc i), some (encF (.atom x)), some (encP p), f3, f4], st') ∧
      Here C st' i nm f (.loc a) t ⟨k, ks, d ++ (r.filter fun q => !waits x q.1), ((r.filter fun q => waits x q.1).map fun q => (given q.1, .app q.2 p)).reverse ++ td⟩ ∧ Frame [a, t] st st'
  | [], d, td, st, e3, e4, ks, k, H, _, _, _, _ => ⟨st, e3, e4, rfl, by simpa using H, Frame.refl _ _⟩
  | q :: r, d, td, st, e3, e4, ks, k, H, hi, hd, hl, hn => by
    obtain ⟨L, c, hA⟩ := imp_at (hi q (List.mem_cons_self ..))
    obtain ⟨A, pq⟩ := q
    have hA' : A = .imp L c := hA
    subst hA'
    have hq : pdep pq ≤ 400 ∧ sz (Fm.imp L c) ≤ 60 ∧ Small 60 pq := by
      have := List.all_eq_true.mp hl (.imp L c, pq) (List.mem_cons_self ..)
      exact of_decide_eq_true this
    have hl' : low r = true := List.all_eq_true.mpr fun z hz => List.all_eq_true.mp hl z (List.mem_cons_of_mem _ hz)
    have hi' : ∀ z ∈ r, isImp z.1 = true := fun z hz => hi z (List.mem_cons_of_mem _ hz)
    have hn' : td.length + (r.length + 1) ≤ 2000 := hn
    have test : ∀ (st : Store), tOf (eBin gEq (eBin gIx (eVar 3) (eC (.int 1))) (eVar 1)) [some (.loc i), some (encF (.atom x)), some (encP p), some (encF (.imp L c)), some (encP pq)] st = some (waits x (.imp L c), st) := fun st => by
      have : eBin gEq (eBin gIx (eVar 3) (eC (.int 1))) (eVar 1) [some (.loc i), some (encF (.atom x)), some (encP p), some (encF (.imp L c)), some (encP pq)] st = gEq (encF L) (encF (.atom x)) st := rfl
      unfold tOf
      rw [this, eqF_at L (.atom x) (by show 1 ≤ 900; decide)]
      simp only [waits_imp]
    have asg : tT 2 (tCons (tN 3) (tCons (tN 4) tNil)) (encQ (.imp L c, pq)) [some (.loc i), some (encF (.atom x)), some (encP p), e3, e4] = some [some (.loc i), some (encF (.atom x)), some (encP p), some (encF (.imp L c)), some (encP pq)] := rfl
    by_cases hw : waits x (.imp L c) = true
    · have hrem := remove_at (st := st) (a := a) d r (.imp L c, pq) (fun z hz e => by have := hd z hz; rw [e, hw] at this; cases this) hq (seqL_loc H.arr)
      have H1 : Here C (st.set a (.lst ((d ++ r).map encQ))) i nm f (.loc a) t ⟨k, ks, d ++ r, td⟩ := H.setA (d ++ r)
      have H2 := H1.setT ((c, .app pq p) :: td)
      have body : bodyA C [some (.loc i), some (encF (.atom x)), some (encP p), some (encF (.imp L c)), some (encP pq)] st = some (.nx, [some (.loc i), some (encF (.atom x)), some (encP p), some (encF (.imp L c)), some (encP pq)], (st.set a (.lst ((d ++ r).map encQ))).set t (.lst (((c, .app pq p) :: td).reverse.map encQ))) := by
        unfold bodyA sIf
        rw [test st, hw]
        simp only [sSeq, sEx]
        have r1 : eBM mRemove (eFld C "arrows" (eVar 0)) (aCons (eTup (aCons (eVar 3) (aCons (eVar 4) aNil))) aNil) [some (.loc i), some (encF (.atom x)), some (encP p), some (encF (.imp L c)), some (encP pq)] st = some (.non, st.set a (.lst ((d ++ r).map encQ))) := by
          unfold eBM
          rw [fld0 H lk_arrows]
          simp only [H.arr]
          have : aCons (eTup (aCons (eVar 3) (aCons (eVar 4) aNil))) aNil [some (.loc i), some (encF (.atom x)), some (encP p), some (encF (.imp L c)), some (encP pq)] st = some ([encQ (.imp L c, pq)], st) := rfl
          rw [this]
          exact hrem
        rw [r1]
        simp only
        have r2 := app_todo H1 (c, .app pq p) (by show td.length ≤ 2000; omega) (aCons (eTup (aCons (eBin gIx (eVar 3) (eC (.int 2))) (aCons (eTup (aCons (eC (.str "app")) (aCons (eVar 4) (aCons (eVar 2) (aNil))))) (aNil)))) (aNil)) [some (encF (.atom x)), some (encP p), some (encF (.imp L c)), some (encP pq)] rfl
        rw [r2]
      obtain ⟨st', f3, f4, e1, h1, fr⟩ := loopA x p r d ((c, .app pq p) :: td) _ (some (encF (.imp L c))) (some (encP pq)) ks k H2 hi' hd hl' (by show td.length + 1 + r.length ≤ 2000; omega)
      refine ⟨st', f3, f4, ?_, ?_, ((Frame.set (by simp)).trans (Frame.set (by simp))).trans fr⟩
      · show loop _ _ (encQ (.imp L c, pq) :: r.map encQ) _ _ = _
        unfold loop
        rw [asg]
        simp only [body]
        exact e1
      · have hwn : (!waits x (.imp L c)) = false := by rw [hw]; rfl
        rw [List.filter_cons_of_pos (p := fun q : Fm × Pg => waits x q.1) hw, List.filter_cons_of_neg (p := fun q : Fm × Pg => !waits x q.1) (by rw [hwn]; decide)]
        simpa [given] using h1
    · have hw' : waits x (.imp L c) = false := by simpa using hw
      have body : bodyA C [some (.loc i), some (encF (.atom x)), some (encP p), some (encF (.imp L c)), some (encP pq)] st = some (.nx, [some (.loc i), some (encF (.atom x)), some (encP p), some (encF (.imp L c)), some (encP pq)], st) := by
        unfold bodyA sIf
        rw [test st, hw']
        rfl
      obtain ⟨st', f3, f4, e1, h1, fr⟩ := loopA x p r (d ++ [(.imp L c, pq)]) td st (some (encF (.imp L c))) (some (encP pq)) ks k (by simpa using H) hi' (fun z hz => by
        rcases List.mem_append.mp hz with h | h
        · exact hd z h
        · rw [List.mem_singleton] at h; subst h; exact hw') hl' (by omega)
      refine ⟨st', f3, f4, ?_, ?_, fr⟩
      · show loop _ _ (encQ (.imp L c, pq) :: r.map encQ) _ _ = _
        unfold loop
        rw [asg]
        simp only [body]
        exact e1
      · have hwn : (!waits x (.imp L c)) = true := by rw [hw']; rfl
        rw [List.filter_cons_of_neg (p := fun q : Fm × Pg => waits x q.1) (by rw [hw']; decide), List.filter_cons_of_pos (p := fun q : Fm × Pg => !waits x q.1) hwn]
        simpa using h1
theorem take_atom_at (n : Nat) (H : Here C st i nm f (.loc a) t s) (x : Nm) (p : Pg) (hi : ∀ q ∈ s.arrows, isImp q.1 = true) (hl : low s.arrows = true) (hn : s.todo.length + s.arrows.length + s.facts.length ≤ 1000) :
    ∃ st', run C (n + 1) .take_atom [.loc i, encF (.atom x), encP p] st = some (.non, st') ∧ Here C st' i nm f (.loc a) t (takeAtom x p s) ∧ Frame [f, a, t] st st' := by
  show ∃ st', fnS 3 2 (b_take_atom (run C n) C n) _ _ = _ ∧ _
  unfold fnS b_take_atom
  simp only [List.length_cons, List.length_nil, if_true, List.map_cons, List.map_nil, sSeq, sIf]
  have key : ∀ (e : EnvP), eBin gIx (eVar 1) (eC (.int 1)) (some (.loc i) :: some (encF (.atom x)) :: e) st = some (.str x.1, st) := fun e => rfl
  have hin : eDin false (eBin gIx (eVar 1) (eC (.int 1))) (eFld C "facts" (eVar 0)) ([some (.loc i), some (encF (.atom x)), some (encP p)] ++ List.replicate 2 none) st = some (.bl (s.facts.lookup x).isSome, st) := din_at (neg := false) (key _) (fld0 H lk_facts _) H.fac
  unfold tOf
  rw [hin]
  unfold takeAtom
  cases hx : s.facts.lookup x with
  | some p0 => exact ⟨st, rfl, H, Frame.refl _ _⟩
  | none =>
    simp only [Option.isSome_none, sNx]
    have hput : sDput (eFld C "facts" (eVar 0)) (eBin gIx (eVar 1) (eC (.int 1))) (eVar 2) ([some (.loc i), some (encF (.atom x)), some (encP p)] ++ List.replicate 2 none) st = some (.nx, [some (.loc i), some (encF (.atom x)), some (encP p)] ++ List.replicate 2 none, st.set f (.dic (encK (s.facts ++ [(x, p)])))) := by
      unfold sDput
      have v2 : eVar 2 ([some (.loc i), some (encF (.atom x)), some (encP p)] ++ List.replicate 2 none) st = some (encP p, st) := rfl
      have h1 : st[f]? = some (.dic (encK s.facts)) := H.fac
      rw [v2]
      simp only [fld0 H lk_facts, List.cons_append, key, dcell, h1, keyP, put_at _ _ _ hx]
      rw [if_pos (by unfold encK; rw [List.length_map]; exact Nat.lt_of_le_of_lt (by omega : s.facts.length ≤ 1000) (by decide))]
    have H1 := H.setF (fun a' e => by cases e; exact H.nea.2.1) (s.facts ++ [(x, p)])
    rw [hput]
    simp only
    obtain ⟨st', f3, f4, e1, h1, fr⟩ := loopA x p s.arrows [] s.todo _ none none (s.facts ++ [(x, p)]) s.k H1 hi (fun q hq => by cases hq) hl (by omega)
    have hit : iSeq (eCall cLst (aCons (eFld C "arrows" (eVar 0)) aNil)) ([some (.loc i), some (encF (.atom x)), some (encP p)] ++ List.replicate 2 none) (st.set f (.dic (encK (s.facts ++ [(x, p)])))) = some (s.arrows.map encQ, st.set f (.dic (encK (s.facts ++ [(x, p)])))) := by
      unfold iSeq eCall
      have h2 := seqL_loc H1.arr
      simp only [aCons, List.cons_append, fld0 H1 lk_arrows, aNil, cLst, seqA, h2, itemsP]
    unfold sFor
    rw [hit]
    refine ⟨st', ?_, h1, (Frame.set (by simp)).trans (fr.mono fun j hj => by simp at hj ⊢; exact .inr hj)⟩
    have e2 : loop (tT 2 (tCons (tN 3) (tCons (tN 4) tNil))) (bodyA C) (s.arrows.map encQ) ([some (.loc i), some (encF (.atom x)), some (encP p)] ++ List.replicate 2 none) (st.set f (.dic (encK (s.facts ++ [(x, p)])))) = _ := e1
    unfold bodyA at e2
    simp only [sSeq, sIf] at e2 ⊢
    unfold tOf at e2
    rw [e2]
end
end K07
end L3
end
section
set_option Elab.async false
set_option linter.all false
set_option maxRecDepth 100000
set_option maxHeartbeats 0
namespace L3
namespace K07
open PySem G
section
variable {C : Addr} {st : Store} {i nm f a t : Nat} {av : PV} {s : St} {env : EnvP}
def tagF : Fm → Str
  | .bot => "false"
  | .atom _ => "atom"
  | .and _ _ => "and"
  | .or _ _ => "or"
  | .imp _ _ => "to"
theorem tag_ok (A : Fm) : PyData.strOk (tagF A) = true := by
  cases A with
  | bot => exact (show PyData.strOk "false" = true by decide +kernel)
  | atom => exact (show PyData.strOk "atom" = true by decide +kernel)
  | and => exact (show PyData.strOk "and" = true by decide +kernel)
  | or => exact (show PyData.strOk "or" = true by decide +kernel)
  | imp => exact (show PyData.strOk "to" = true by decide +kernel)
theorem encF_tag (A : Fm) : ∃ r, encF A = .tup (.str (tagF A) :: r) := by cases A <;> exact ⟨_, rfl⟩
theorem test_tup {k : Nat} {x : Str} {r : List PV} (h : env[k]? = some (some (.tup (.str x :: r)))) (hx : PyData.strOk x = true) (y : Str) (hy : PyData.strOk y = true) : tOf (eBin gEq (eBin gIx (eVar k) (eC (.int 0))) (eC (.str y))) env st = some (decide (x = y), st) := by
  unfold tOf eBin eVar eC
  simp only [h, ix0, eqS_at x y hx hy]
theorem test_tag {k : Nat} {A : Fm} (h : env[k]? = some (some (encF A))) (y : Str) (hy : PyData.strOk y = true) : tOf (eBin gEq (eBin gIx (eVar k) (eC (.int 0))) (eC (.str y))) env st = some (decide (tagF A = y), st) := by
  obtain ⟨r, e⟩ := encF_tag A
  rw [e] at h
  exact test_tup h (tag_ok A) y hy
theorem fresh_ev (n : Nat) (H : Here C st i nm f av t s) (hk : s.k < lim) (e : EnvP) : eM C "fresh" (run C (n + 1) .Search_fresh) (eVar 0) aNil (some (.loc i) :: e) st = some (encN s.k, st.set nm (trues (s.k + 1))) := by
  rw [meth_at H (env := some (.loc i) :: e) (as := []) (st2 := st) rfl rfl rfl]
  exact fresh_at n H hk
theorem app_arrow (H : Here C st i nm f (.loc a) t s) (q : Fm × Pg) (hl : s.arrows.length ≤ 2000) (x : FA) (e : EnvP) (hx : x (some (.loc i) :: e) st = some ([encQ q], st)) :
    eBM mAppend (eFld C "arrows" (eVar 0)) x (some (.loc i) :: e) st = some (.non, st.set a (.lst ((s.arrows ++ [q]).map encQ))) := by
  unfold eBM
  rw [fld0 H lk_arrows]
  have h1 := seqL_loc H.arr
  simp only [H.arr, hx, mAppend, lcell, h1, List.length_map]
  rw [if_pos (Nat.lt_of_le_of_lt hl (by decide))]
  simp
theorem take_arrow_at (n : Nat) (H : Here C st i nm f (.loc a) t s) (A b : Fm) (p : Pg) (hk : s.k + 2 ≤ lim) (hn : s.todo.length + s.arrows.length + s.facts.length ≤ 1000) :
    ∃ st', run C (n + 2) .take_arrow [.loc i, encF (.imp A b), encP p] st = some (.non, st') ∧ Here C st' i nm f (.loc a) t (takeArrow A b p s) ∧ Frame [nm, a, t] st st' := by
  show ∃ st', fnS 3 8 (b_take_arrow (run C (n + 1)) C (n + 1)) _ _ = _ ∧ _
  unfold fnS b_take_arrow
  simp only [List.length_cons, List.length_nil, if_true, List.map_cons, List.map_nil, sSeq]
  have par : sPar2 3 4 (aCons (eBin gIx (eVar 1) (eC (.int 1))) (aCons (eBin gIx (eVar 1) (eC (.int 2))) aNil)) ([some (.loc i), some (encF (.imp A b)), some (encP p)] ++ List.replicate 8 none) st = some (.nx, [some (.loc i), some (encF (.imp A b)), some (encP p), some (encF A), some (encF b), none, none, none, none, none, none], st) := rfl
  rw [par]
  simp only
  have t1 : tOf (eBin gEq (eVar 3) (eC (.tup [.str "false"]))) [some (.loc i), some (encF (.imp A b)), some (encP p), some (encF A), some (encF b), none, none, none, none, none, none] st = some (decide (A = .bot), st) := by
    have : eBin gEq (eVar 3) (eC (.tup [.str "false"])) [some (.loc i), some (encF (.imp A b)), some (encP p), some (encF A), some (encF b), none, none, none, none, none, none] st = gEq (encF A) (encF .bot) st := rfl
    unfold tOf
    rw [this, eqF_at A .bot (by show 1 ≤ 900; decide)]
  have tags := fun (e : EnvP) (y : Str) (hy : PyData.strOk y = true) => test_tag (st := st) (env := some (.loc i) :: some (encF (.imp A b)) :: some (encP p) :: some (encF A) :: e) (k := 3) (A := A) rfl y hy
  unfold sIf
  rw [t1]
  unfold takeArrow
  cases A with
  | bot => exact ⟨st, rfl, H, Frame.refl _ _⟩
  | atom x =>
    simp only [decide_eq_false (fun e : Fm.atom x = .bot => nomatch e), sNx]
    have t2 := tags [some (encF b), none, none, none, none, none, none] "atom" (by decide +kernel)
    unfold tAnd2
    rw [t2, show decide (tagF (.atom x) = "atom") = true from (show decide (("atom" : Str) = "atom") = true by decide +kernel)]
    simp only
    have hin : eDin false (eBin gIx (eVar 3) (eC (.int 1))) (eFld C "facts" (eVar 0)) [some (.loc i), some (encF (.imp (.atom x) b)), some (encP p), some (encF (.atom x)), some (encF b), none, none, none, none, none, none] st = some (.bl (s.facts.lookup x).isSome, st) := din_at (neg := false) rfl (fld0 H lk_facts _) H.fac
    have t3 : tOf (eDin false (eBin gIx (eVar 3) (eC (.int 1))) (eFld C "facts" (eVar 0))) [some (.loc i), some (encF (.imp (.atom x) b)), some (encP p), some (encF (.atom x)), some (encF b), none, none, none, none, none, none] st = some ((s.facts.lookup x).isSome, st) := by
      unfold tOf; rw [hin]
    rw [t3]
    cases hx : s.facts.lookup x with
    | some q0 =>
      simp only [Option.isSome_some, sEx]
      have hget : eDget (eFld C "facts" (eVar 0)) (eBin gIx (eVar 3) (eC (.int 1))) [some (.loc i), some (encF (.imp (.atom x) b)), some (encP p), some (encF (.atom x)), some (encF b), none, none, none, none, none, none] st = some (encP q0, st) := dget_at rfl (fld0 H lk_facts _) H.fac hx
      rw [app_todo H (b, .app p q0) (by omega) _ _ (by
        simp only [aCons, eTup, eVar, eC, aNil, List.getElem?_cons_succ, List.getElem?_cons_zero, hget]
        rfl)]
      exact ⟨_, rfl, H.setT _, Frame.set (by simp)⟩
    | none =>
      simp only [Option.isSome_none]
      have t4 := tags [some (encF b), none, none, none, none, none, none] "and" (by decide +kernel)
      rw [t4, show decide (tagF (.atom x) = "and") = false from (show decide (("atom" : Str) = "and") = false by decide +kernel)]
      simp only
      have t5 := tags [some (encF b), none, none, none, none, none, none] "or" (by decide +kernel)
      rw [t5, show decide (tagF (.atom x) = "or") = false from (show decide (("atom" : Str) = "or") = false by decide +kernel)]
      simp only [sEx]
      rw [app_arrow H (.imp (.atom x) b, p) (by omega) _ _ rfl]
      exact ⟨_, rfl, H.setA _, Frame.set (by simp)⟩
  | imp c c' =>
    simp only [decide_eq_false (fun e : Fm.imp c c' = .bot => nomatch e), sNx]
    have t2 := tags [some (encF b), none, none, none, none, none, none] "atom" (by decide +kernel)
    unfold tAnd2
    rw [t2, show decide (tagF (.imp c c') = "atom") = false from (show decide (("to" : Str) = "atom") = false by decide +kernel)]
    simp only
    have t4 := tags [some (encF b), none, none, none, none, none, none] "and" (by decide +kernel)
    rw [t4, show decide (tagF (.imp c c') = "and") = false from (show decide (("to" : Str) = "and") = false by decide +kernel)]
    simp only
    have t5 := tags [some (encF b), none, none, none, none, none, none] "or" (by decide +kernel)
    rw [t5, show decide (tagF (.imp c c') = "or") = false from (show decide (("to" : Str) = "or") = false by decide +kernel)]
    simp only [sEx]
    rw [app_arrow H (.imp (.imp c c') b, p) (by omega) _ _ rfl]
    exact ⟨_, rfl, H.setA _, Frame.set (by simp)⟩
  | and c d =>
    simp only [decide_eq_false (fun e : Fm.and c d = .bot => nomatch e), sNx]
    have t2 := tags [some (encF b), none, none, none, none, none, none] "atom" (by decide +kernel)
    unfold tAnd2
    rw [t2, show decide (tagF (.and c d) = "atom") = false from (show decide (("and" : Str) = "atom") = false by decide +kernel)]
    simp only
    have t4 := tags [some (encF b), none, none, none, none, none, none] "and" (by decide +kernel)
    rw [t4, show decide (tagF (.and c d) = "and") = true from (show decide (("and" : Str) = "and") = true by decide +kernel)]
    simp only [sSeq]
    have H1 := H.setN (s.k + 1)
    have H2 := H1.setN (s.k + 2)
    have p2 : sPar2 6 7 (aCons (eM C "fresh" (run C (n + 1) .Search_fresh) (eVar 0) aNil) (aCons (eM C "fresh" (run C (n + 1) .Search_fresh) (eVar 0) aNil) aNil)) [some (.loc i), some (encF (.imp (.and c d) b)), some (encP p), some (encF (.and c d)), some (encF b), none, none, none, none, none, none] st = some (.nx, [some (.loc i), some (encF (.imp (.and c d) b)), some (encP p), some (encF (.and c d)), some (encF b), none, some (encN s.k), some (encN (s.k + 1)), none, none, none], (st.set nm (trues (s.k + 1))).set nm (trues (s.k + 2))) := by
      unfold sPar2 aCons
      rw [fresh_ev n H (by omega)]
      simp only [aCons]
      rw [fresh_ev n H1 (by show s.k + 1 < lim; omega)]
      rfl
    rw [p2]
    simp only [sSet]
    have hin : eTup (aCons (eC (.str "bind")) (aCons (eVar 7) (aCons (eBin gIx (eVar 3) (eC (.int 2))) (aCons (eTup (aCons (eC (.str "app")) (aCons (eVar 2) (aCons (eTup (aCons (eC (.str "pair")) (aCons (eVar 6) (aCons (eVar 7) (aNil))))) (aNil))))) (aNil))))) [some (.loc i), some (encF (.imp (.and c d) b)), some (encP p), some (encF (.and c d)), some (encF b), none, some (encN s.k), some (encN (s.k + 1)), none, none, none] ((st.set nm (trues (s.k + 1))).set nm (trues (s.k + 2))) = some (encP (.bind (s.k + 1) d (.app p (.pair (.name s.k) (.name (s.k + 1))))), (st.set nm (trues (s.k + 1))).set nm (trues (s.k + 2))) := rfl
    rw [hin]
    simp only [sEx]
    have ap := app_todo H2 (.imp c (.imp d b), .bind s.k c (.bind (s.k + 1) d (.app p (.pair (.name s.k) (.name (s.k + 1)))))) (by show s.todo.length ≤ 2000; omega) (aCons (eTup (aCons (eTup (aCons (eC (.str "to")) (aCons (eBin gIx (eVar 3) (eC (.int 1))) (aCons (eTup (aCons (eC (.str "to")) (aCons (eBin gIx (eVar 3) (eC (.int 2))) (aCons (eVar 4) (aNil))))) (aNil))))) (aCons (eTup (aCons (eC (.str "bind")) (aCons (eVar 6) (aCons (eBin gIx (eVar 3) (eC (.int 1))) (aCons (eVar 5) (aNil)))))) (aNil)))) (aNil)) [some (encF (.imp (.and c d) b)), some (encP p), some (encF (.and c d)), some (encF b), some (encP (.bind (s.k + 1) d (.app p (.pair (.name s.k) (.name (s.k + 1)))))), some (encN s.k), some (encN (s.k + 1)), none, none, none] rfl
    have setenv : List.set [some (.loc i), some (encF (.imp (.and c d) b)), some (encP p), some (encF (.and c d)), some (encF b), none, some (encN s.k), some (encN (s.k + 1)), none, none, none] 5 (some (encP (.bind (s.k + 1) d (.app p (.pair (.name s.k) (.name (s.k + 1))))))) = [some (.loc i), some (encF (.imp (.and c d) b)), some (encP p), some (encF (.and c d)), some (encF b), some (encP (.bind (s.k + 1) d (.app p (.pair (.name s.k) (.name (s.k + 1)))))), some (encN s.k), some (encN (s.k + 1)), none, none, none] := rfl
    rw [setenv, ap]
    exact ⟨_, rfl, H2.setT _, ((Frame.set (by simp)).trans (Frame.set (by simp))).trans (Frame.set (by simp))⟩
  | or c d =>
    simp only [decide_eq_false (fun e : Fm.or c d = .bot => nomatch e), sNx]
    have t2 := tags [some (encF b), none, none, none, none, none, none] "atom" (by decide +kernel)
    unfold tAnd2
    rw [t2, show decide (tagF (.or c d) = "atom") = false from (show decide (("or" : Str) = "atom") = false by decide +kernel)]
    simp only
    have t4 := tags [some (encF b), none, none, none, none, none, none] "and" (by decide +kernel)
    rw [t4, show decide (tagF (.or c d) = "and") = false from (show decide (("or" : Str) = "and") = false by decide +kernel)]
    simp only
    have t5 := tags [some (encF b), none, none, none, none, none, none] "or" (by decide +kernel)
    rw [t5, show decide (tagF (.or c d) = "or") = true from (show decide (("or" : Str) = "or") = true by decide +kernel)]
    simp only
    have it : iSeq (eTup (aCons (eTup (aCons (eC (.str "left")) (aCons (eBin gIx (eVar 3) (eC (.int 1))) (aNil)))) (aCons (eTup (aCons (eC (.str "right")) (aCons (eBin gIx (eVar 3) (eC (.int 2))) (aNil)))) (aNil)))) [some (.loc i), some (encF (.imp (.or c d) b)), some (encP p), some (encF (.or c d)), some (encF b), none, none, none, none, none, none] st = some ([.tup [.str "left", encF c], .tup [.str "right", encF d]], st) := rfl
    unfold sFor
    rw [it]
    have H1 := H.setN (s.k + 1)
    have H1' := H1.setT ((.imp c b, .bind s.k c (.app p (.inl (.or c d) (.name s.k)))) :: s.todo)
    have H2 := H1'.setN (s.k + 2)
    have H2' := H2.setT ((.imp d b, .bind (s.k + 1) d (.app p (.inr (.or c d) (.name (s.k + 1))))) :: (.imp c b, .bind s.k c (.app p (.inl (.or c d) (.name s.k)))) :: s.todo)
    simp only [loop, sSeq]
    have g1 : tT 2 (tCons (tN 8) (tCons (tN 9) tNil)) (.tup [.str "left", encF c]) [some (.loc i), some (encF (.imp (.or c d) b)), some (encP p), some (encF (.or c d)), some (encF b), none, none, none, none, none, none] = some [some (.loc i), some (encF (.imp (.or c d) b)), some (encP p), some (encF (.or c d)), some (encF b), none, none, none, some (.str "left"), some (encF c), none] := rfl
    rw [g1]
    simp only [sSet, sEx]
    rw [fresh_ev n H (by omega)]
    have e1 : List.set [some (.loc i), some (encF (.imp (.or c d) b)), some (encP p), some (encF (.or c d)), some (encF b), none, none, none, some (.str "left"), some (encF c), none] 10 (some (encN s.k)) = [some (.loc i), some (encF (.imp (.or c d) b)), some (encP p), some (encF (.or c d)), some (encF b), none, none, none, some (.str "left"), some (encF c), some (encN s.k)] := rfl
    simp only
    rw [e1]
    have ap1 := app_todo H1 (.imp c b, .bind s.k c (.app p (.inl (.or c d) (.name s.k)))) (by show s.todo.length ≤ 2000; omega) (aCons (eTup (aCons (eTup (aCons (eC (.str "to")) (aCons (eVar 9) (aCons (eVar 4) (aNil))))) (aCons (eTup (aCons (eC (.str "bind")) (aCons (eVar 10) (aCons (eVar 9) (aCons (eTup (aCons (eC (.str "app")) (aCons (eVar 2) (aCons (eTup (aCons (eVar 8) (aCons (eVar 3) (aCons (eVar 10) (aNil))))) (aNil))))) (aNil)))))) (aNil)))) (aNil)) [some (encF (.imp (.or c d) b)), some (encP p), some (encF (.or c d)), some (encF b), none, none, none, some (.str "left"), some (encF c), some (encN s.k)] rfl
    rw [ap1]
    simp only
    have g2 : tT 2 (tCons (tN 8) (tCons (tN 9) tNil)) (.tup [.str "right", encF d]) [some (.loc i), some (encF (.imp (.or c d) b)), some (encP p), some (encF (.or c d)), some (encF b), none, none, none, some (.str "left"), some (encF c), some (encN s.k)] = some [some (.loc i), some (encF (.imp (.or c d) b)), some (encP p), some (encF (.or c d)), some (encF b), none, none, none, some (.str "right"), some (encF d), some (encN s.k)] := rfl
    rw [g2]
    simp only
    have fe := fresh_ev n H1' (by show s.k + 1 < lim; omega) [some (encF (.imp (.or c d) b)), some (encP p), some (encF (.or c d)), some (encF b), none, none, none, some (.str "right"), some (encF d), some (encN s.k)]
    rw [fe]
    have e2 : List.set [some (.loc i), some (encF (.imp (.or c d) b)), some (encP p), some (encF (.or c d)), some (encF b), none, none, none, some (.str "right"), some (encF d), some (encN s.k)] 10 (some (encN (s.k + 1))) = [some (.loc i), some (encF (.imp (.or c d) b)), some (encP p), some (encF (.or c d)), some (encF b), none, none, none, some (.str "right"), some (encF d), some (encN (s.k + 1))] := rfl
    simp only
    rw [e2]
    have ap2 := app_todo H2 (.imp d b, .bind (s.k + 1) d (.app p (.inr (.or c d) (.name (s.k + 1))))) (by show s.todo.length + 1 ≤ 2000; omega) (aCons (eTup (aCons (eTup (aCons (eC (.str "to")) (aCons (eVar 9) (aCons (eVar 4) (aNil))))) (aCons (eTup (aCons (eC (.str "bind")) (aCons (eVar 10) (aCons (eVar 9) (aCons (eTup (aCons (eC (.str "app")) (aCons (eVar 2) (aCons (eTup (aCons (eVar 8) (aCons (eVar 3) (aCons (eVar 10) (aNil))))) (aNil))))) (aNil)))))) (aNil)))) (aNil)) [some (encF (.imp (.or c d) b)), some (encP p), some (encF (.or c d)), some (encF b), none, none, none, some (.str "right"), some (encF d), some (encN (s.k + 1))] rfl
    rw [ap2]
    exact ⟨_, rfl, H2', (((Frame.set (by simp)).trans (Frame.set (by simp))).trans (Frame.set (by simp))).trans (Frame.set (by simp))⟩
end
end K07
end L3
end
section
set_option Elab.async false
set_option linter.all false
set_option maxRecDepth 100000
set_option maxHeartbeats 0
namespace L3
namespace K07
open PySem G
section
variable {C : Addr} {st : Store} {i nm f a t : Nat} {av : PV} {s : St} {env : EnvP}
def Imps (s : St) : Prop := ∀ q ∈ s.arrows, isImp q.1 = true
theorem imps_atom {x : Nm} {p : Pg} (h : Imps s) : Imps (takeAtom x p s) := by
  unfold takeAtom
  cases hx : s.facts.lookup x with
  | some _ => simp only [hx]; exact h
  | none => simp only [hx]; exact fun q hq => h q (List.mem_filter.mp hq).1
theorem imps_arrow {A b : Fm} {p : Pg} (h : Imps s) : Imps (takeArrow A b p s) := by
  have w : ∀ q ∈ s.arrows ++ [(Fm.imp A b, p)], isImp q.1 = true := fun q hq => by
    rcases List.mem_append.mp hq with h1 | h1
    · exact h q h1
    · rw [List.mem_singleton] at h1; subst h1; rfl
  unfold takeArrow
  cases A with
  | atom x =>
    simp only
    cases hx : s.facts.lookup x with
    | some _ => simp only; exact h
    | none => simp only; exact w
  | imp c d => exact w
  | _ => exact h
def tstW (C : Addr) : FT := tOf (eBin gGt (eCall cLen (aCons (eFld C "todo" (eVar 0)) (aNil))) (eC (.int 0)))
def bodW (C : Addr) (n : Nat) : FS := sSeq (sAsg (tT 2 (tCons (tN 5) (tCons (tN 6) (tNil)))) (eBM0 mPop (eFld C "todo" (eVar 0)))) (sSeq (sSet 2 (eBin gIx (eVar 5) (eC (.int 0)))) (sSeq (sIf (tOf (eBin gEq (eVar 2) (eC (.str "false")))) (sRet (eTup (aCons (eC (.str "program")) (aCons (eTup (aCons (eC (.str "never")) (aCons (eVar 1) (aCons (eVar 6) (aNil))))) (aNil))))) (sNx)) (sSeq (sIf (tOf (eBin gEq (eVar 2) (eC (.str "or")))) (sRet (eS (run C n .solve_case) (aCons (eVar 0) (aCons (eVar 5) (aCons (eVar 6) (aCons (eVar 1) (aNil))))))) (sNx)) (sIf (tOf (eBin gEq (eVar 2) (eC (.str "and")))) (sEx (eBM mExtend (eFld C "todo" (eVar 0)) (aCons (eLst (aCons (eTup (aCons (eBin gIx (eVar 5) (eC (.int 2))) (aCons (eTup (aCons (eC (.str "second")) (aCons (eVar 6) (aNil)))) (aNil)))) (aCons (eTup (aCons (eBin gIx (eVar 5) (eC (.int 1))) (aCons (eTup (aCons (eC (.str "first")) (aCons (eVar 6) (aNil)))) (aNil)))) (aNil)))) (aNil)))) (sIf (tOf (eBin gEq (eVar 2) (eC (.str "atom")))) (sEx (eS (run C n .take_atom) (aCons (eVar 0) (aCons (eVar 5) (aCons (eVar 6) (aNil)))))) (sEx (eS (run C n .take_arrow) (aCons (eVar 0) (aCons (eVar 5) (aCons (eVar 6) (aNil)))))))))))
theorem test_var {k : Nat} {x : Str} (h : env[k]? = some (some (.str x))) (hx : PyData.strOk x = true) (y : Str) (hy : PyData.strOk y = true) : tOf (eBin gEq (eVar k) (eC (.str y))) env st = some (decide (x = y), st) := by
  unfold tOf eBin eVar eC
  simp only [h, eqS_at x y hx hy]
theorem tstW_at (H : Here C st i nm f av t s) (e : EnvP) : tstW C (some (.loc i) :: e) st = some (decide (0 < s.todo.length), st) := by
  have h1 : st[t]? = some (.lst (s.todo.reverse.map encQ)) := H.tod
  unfold tstW tOf eBin eCall
  simp only [aCons, fld0 H lk_todo, aNil, cLen, seqA, h1, eC, gGt, gInt, List.length_map, List.length_reverse]
  congr 2
  simp
theorem pop_at (H : Here C st i nm f av t s) (q : Fm × Pg) (r : List (Fm × Pg)) (h : s.todo = q :: r) (e : EnvP) : eBM0 mPop (eFld C "todo" (eVar 0)) (some (.loc i) :: e) st = some (encQ q, st.set t (.lst (r.reverse.map encQ))) := by
  have h1 : st[t]? = some (.lst (s.todo.reverse.map encQ)) := H.tod
  unfold eBM0
  rw [fld0 H lk_todo]
  rw [h] at h1
  simp only [seqL_cell h1, mPop, lcell, h1]
  have e1 : ((q :: r).reverse.map encQ) = r.reverse.map encQ ++ [encQ q] := by simp
  rw [e1]
  simp
def W2 : Prop := True
/-- what the loop ends with -/
def PM (C : Addr) (n i nm f a t : Nat) (g : Fm) (st : Store) (out : Option (Fl × EnvP × Store)) : PR → Prop
  | .dead k p => ∃ st' env', Frame [nm, f, a, t] st st' ∧ st'[nm]? = some (trues k) ∧ out = some (.ret (encR (.prog (.never g p))), env', st')
  | .case s' A B p => ∃ st' env', Frame [nm, f, a, t] st st' ∧ Here C st' i nm f (.loc a) t s' ∧ Imps s' ∧ s'.todo.length + s'.arrows.length + s'.facts.length ≤ 1000 ∧ out = (match run C n .solve_case [.loc i, encF (.or A B), encP p, encF g] st' with
      | some (v, st2) => some (.ret v, env', st2)
      | none => none)
  | .opn s' => ∃ st' e2 e5 e6, Frame [nm, f, a, t] st st' ∧ Here C st' i nm f (.loc a) t s' ∧ Imps s' ∧ s'.todo.length + s'.arrows.length + s'.facts.length ≤ 1000 ∧ out = some (.nx, [some (.loc i), some (encF g), e2, none, none, e5, e6], st')
theorem PM.after {n : Nat} {g : Fm} {st1 : Store} {out : Option (Fl × EnvP × Store)} (fr : Frame [nm, f, a, t] st st1) : ∀ {r : PR}, PM C n i nm f a t g st1 out r → PM C n i nm f a t g st out r
  | .dead k p, ⟨st', env', h1, h2⟩ => ⟨st', env', fr.trans h1, h2⟩
  | .case s' A B p, ⟨st', env', h1, h2⟩ => ⟨st', env', fr.trans h1, h2⟩
  | .opn s', ⟨st', e2, e5, e6, h1, h2⟩ => ⟨st', e2, e5, e6, fr.trans h1, h2⟩
theorem pumpM (m : Nat) (g : Fm) : ∀ (fu : Nat) (s : St) (r : PR) (st : Store) (e2 e5 e6 : Option PV), pump fu s = some r → Here C st i nm f (.loc a) t s → Imps s → PM C (m + 2) i nm f a t g st (wloop (tstW C) (bodW C (m + 2)) fu [some (.loc i), some (encF g), e2, none, none, e5, e6] st) r
  | 0, s, r, st, e2, e5, e6, h, H, I => by cases h
  | fu + 1, s, r, st, e2, e5, e6, h, H, I => by
    unfold pump at h
    split at h
    rotate_left
    · cases h
    rename_i hfew
    have hn := few_at hfew
    unfold wloop
    rw [tstW_at H]
    cases hT : s.todo with
    | nil =>
      rw [hT] at h
      simp only at h
      cases h
      have : s.todo = [] := hT
      exact ⟨st, e2, e5, e6, Frame.refl _ _, H, I, hn, by rw [hT] at *; rfl⟩
    | cons q r' =>
      rw [hT] at h
      obtain ⟨A, p⟩ := q
      have hlen : decide (0 < ((A, p) :: r').length) = true := by simp
      rw [hlen]
      have H1 := H.setT r'
      have fr1 : Frame [nm, f, a, t] st (st.set t (.lst (r'.reverse.map encQ))) := Frame.set (by simp)
      have hn' : r'.length + 1 + s.arrows.length + s.facts.length ≤ 1000 := by rw [hT] at hn; simpa using hn
      have pop : sAsg (tT 2 (tCons (tN 5) (tCons (tN 6) (tNil)))) (eBM0 mPop (eFld C "todo" (eVar 0))) [some (.loc i), some (encF g), e2, none, none, e5, e6] st = some (.nx, [some (.loc i), some (encF g), e2, none, none, some (encF A), some (encP p)], st.set t (.lst (r'.reverse.map encQ))) := by
        unfold sAsg
        rw [pop_at H (A, p) r' hT]
        rfl
      have word : ∀ st1, sSet 2 (eBin gIx (eVar 5) (eC (.int 0))) [some (.loc i), some (encF g), e2, none, none, some (encF A), some (encP p)] st1 = some (.nx, [some (.loc i), some (encF g), some (.str (tagF A)), none, none, some (encF A), some (encP p)], st1) := fun st1 => by
        obtain ⟨rr, e⟩ := encF_tag A
        unfold sSet eBin eVar eC
        simp only [List.getElem?_cons_succ, List.getElem?_cons_zero, e, ix0]
        rfl
      have test : ∀ (y : Str) (st1 : Store), PyData.strOk y = true → tOf (eBin gEq (eVar 2) (eC (.str y))) [some (.loc i), some (encF g), some (.str (tagF A)), none, none, some (encF A), some (encP p)] st1 = some (decide (tagF A = y), st1) := fun y st1 hy => test_var rfl (tag_ok A) y hy
      have nextIt : ∀ {s1 : St} {st1 : Store}, Frame [nm, f, a, t] st st1 → Here C st1 i nm f (.loc a) t s1 → Imps s1 → pump fu s1 = some r → bodW C (m + 2) [some (.loc i), some (encF g), e2, none, none, e5, e6] st = some (.nx, [some (.loc i), some (encF g), some (.str (tagF A)), none, none, some (encF A), some (encP p)], st1) →
          PM C (m + 2) i nm f a t g st (match (some (true, st) : Option (Bool × Store)) with
            | some (false, st1) => some (.nx, [some (.loc i), some (encF g), e2, none, none, e5, e6], st1)
            | some (true, st1) => (match bodW C (m + 2) [some (.loc i), some (encF g), e2, none, none, e5, e6] st1 with
              | some (.nx, env2, st2) => wloop (tstW C) (bodW C (m + 2)) fu env2 st2
              | some (.ct, env2, st2) => wloop (tstW C) (bodW C (m + 2)) fu env2 st2
              | some (.bk, env2, st2) => some (.nx, env2, st2)
              | some (.ret v, env2, st2) => some (.ret v, env2, st2)
              | none => none)
            | none => none) r := fun {s1 st1} fr Hs Is hp hb => by
        simp only [hb]
        exact (pumpM m g fu s1 r st1 _ _ _ hp Hs Is).after fr
      have hb0 : bodW C (m + 2) [some (.loc i), some (encF g), e2, none, none, e5, e6] st = (sSeq (sIf (tOf (eBin gEq (eVar 2) (eC (.str "false")))) (sRet (eTup (aCons (eC (.str "program")) (aCons (eTup (aCons (eC (.str "never")) (aCons (eVar 1) (aCons (eVar 6) (aNil))))) (aNil))))) (sNx)) (sSeq (sIf (tOf (eBin gEq (eVar 2) (eC (.str "or")))) (sRet (eS (run C (m + 2) .solve_case) (aCons (eVar 0) (aCons (eVar 5) (aCons (eVar 6) (aCons (eVar 1) (aNil))))))) (sNx)) (sIf (tOf (eBin gEq (eVar 2) (eC (.str "and")))) (sEx (eBM mExtend (eFld C "todo" (eVar 0)) (aCons (eLst (aCons (eTup (aCons (eBin gIx (eVar 5) (eC (.int 2))) (aCons (eTup (aCons (eC (.str "second")) (aCons (eVar 6) (aNil)))) (aNil)))) (aCons (eTup (aCons (eBin gIx (eVar 5) (eC (.int 1))) (aCons (eTup (aCons (eC (.str "first")) (aCons (eVar 6) (aNil)))) (aNil)))) (aNil)))) (aNil)))) (sIf (tOf (eBin gEq (eVar 2) (eC (.str "atom")))) (sEx (eS (run C (m + 2) .take_atom) (aCons (eVar 0) (aCons (eVar 5) (aCons (eVar 6) (aNil)))))) (sEx (eS (run C (m + 2) .take_arrow) (aCons (eVar 0) (aCons (eVar 5) (aCons (eVar 6) (aNil)))))))))) [some (.loc i), some (encF g), some (.str (tagF A)), none, none, some (encF A), some (encP p)] (st.set t (.lst (r'.reverse.map encQ))) := by
        unfold bodW
        rw [sSeq, pop]
        simp only
        rw [sSeq, word]
      have tf := fun st1 => test "false" st1 (by decide +kernel)
      have to := fun st1 => test "or" st1 (by decide +kernel)
      have ta := fun st1 => test "and" st1 (by decide +kernel)
      have tt := fun st1 => test "atom" st1 (by decide +kernel)
      cases A with
      | bot =>
        cases h
        have hb : bodW C (m + 2) [some (.loc i), some (encF g), e2, none, none, e5, e6] st = some (.ret (encR (.prog (.never g p))), [some (.loc i), some (encF g), some (.str "false"), none, none, some (encF .bot), some (encP p)], st.set t (.lst (r'.reverse.map encQ))) := by
          rw [hb0, sSeq, sIf, tf, show decide (tagF .bot = "false") = true from (show decide (("false" : Str) = "false") = true by decide +kernel)]
          rfl
        refine ⟨st.set t (.lst (r'.reverse.map encQ)), [some (.loc i), some (encF g), some (.str "false"), none, none, some (encF .bot), some (encP p)], fr1, H1.nam, ?_⟩
        simp only [hb]
      | or x y =>
        cases h
        refine ⟨st.set t (.lst (r'.reverse.map encQ)), [some (.loc i), some (encF g), some (.str "or"), none, none, some (encF (.or x y)), some (encP p)], fr1, H1, I, by show r'.length + s.arrows.length + s.facts.length ≤ 1000; omega, ?_⟩
        have hb : bodW C (m + 2) [some (.loc i), some (encF g), e2, none, none, e5, e6] st = (match run C (m + 2) .solve_case [.loc i, encF (.or x y), encP p, encF g] (st.set t (.lst (r'.reverse.map encQ))) with
            | some (v, st2) => some (.ret v, [some (.loc i), some (encF g), some (.str "or"), none, none, some (encF (.or x y)), some (encP p)], st2)
            | none => none) := by
          rw [hb0, sSeq, sIf, tf, show decide (tagF (.or x y) = "false") = false from (show decide (("or" : Str) = "false") = false by decide +kernel)]
          simp only [sNx]
          rw [sSeq, sIf, to, show decide (tagF (.or x y) = "or") = true from (show decide (("or" : Str) = "or") = true by decide +kernel)]
          simp only
          have ea : (sRet (eS (run C (m + 2) .solve_case) (aCons (eVar 0) (aCons (eVar 5) (aCons (eVar 6) (aCons (eVar 1) (aNil))))))) [some (.loc i), some (encF g), some (.str (tagF (.or x y))), none, none, some (encF (.or x y)), some (encP p)] (st.set t (.lst (r'.reverse.map encQ))) = (match run C (m + 2) .solve_case [.loc i, encF (.or x y), encP p, encF g] (st.set t (.lst (r'.reverse.map encQ))) with
            | some (v, st2) => some (.ret v, [some (.loc i), some (encF g), some (.str "or"), none, none, some (encF (.or x y)), some (encP p)], st2)
            | none => none) := rfl
          rw [ea]
          cases run C (m + 2) .solve_case [.loc i, encF (.or x y), encP p, encF g] (st.set t (.lst (r'.reverse.map encQ))) with
          | none => rfl
          | some v => rfl
        simp only [hb]
        cases run C (m + 2) .solve_case [.loc i, encF (.or x y), encP p, encF g] (st.set t (.lst (r'.reverse.map encQ))) with
        | none => rfl
        | some v => rfl
      | and x y =>
        have H2 := H1.setT ((x, .fst p) :: (y, .snd p) :: r')
        refine nextIt (s1 := { s with todo := (x, .fst p) :: (y, .snd p) :: r' }) (st1 := (st.set t (.lst (r'.reverse.map encQ))).set t (.lst (((x, .fst p) :: (y, .snd p) :: r').reverse.map encQ))) (fr1.trans (Frame.set (by simp))) H2 I h ?_
        rw [hb0, sSeq, sIf, tf, show decide (tagF (.and x y) = "false") = false from (show decide (("and" : Str) = "false") = false by decide +kernel)]
        simp only [sNx]
        rw [sSeq, sIf, to, show decide (tagF (.and x y) = "or") = false from (show decide (("and" : Str) = "or") = false by decide +kernel)]
        simp only [sNx]
        rw [sIf, ta, show decide (tagF (.and x y) = "and") = true from (show decide (("and" : Str) = "and") = true by decide +kernel)]
        simp only
        have h1 : (st.set t (.lst (r'.reverse.map encQ)))[t]? = some (.lst (r'.reverse.map encQ)) := H1.tod
        have ex : eBM mExtend (eFld C "todo" (eVar 0)) (aCons (eLst (aCons (eTup (aCons (eBin gIx (eVar 5) (eC (.int 2))) (aCons (eTup (aCons (eC (.str "second")) (aCons (eVar 6) (aNil)))) (aNil)))) (aCons (eTup (aCons (eBin gIx (eVar 5) (eC (.int 1))) (aCons (eTup (aCons (eC (.str "first")) (aCons (eVar 6) (aNil)))) (aNil)))) (aNil)))) (aNil)) [some (.loc i), some (encF g), some (.str (tagF (.and x y))), none, none, some (encF (.and x y)), some (encP p)] (st.set t (.lst (r'.reverse.map encQ))) = some (.non, (st.set t (.lst (r'.reverse.map encQ))).set t (.lst (((x, .fst p) :: (y, .snd p) :: r').reverse.map encQ))) := by
          unfold eBM
          rw [fld0 H1 lk_todo]
          have ha : aCons (eLst (aCons (eTup (aCons (eBin gIx (eVar 5) (eC (.int 2))) (aCons (eTup (aCons (eC (.str "second")) (aCons (eVar 6) (aNil)))) (aNil)))) (aCons (eTup (aCons (eBin gIx (eVar 5) (eC (.int 1))) (aCons (eTup (aCons (eC (.str "first")) (aCons (eVar 6) (aNil)))) (aNil)))) (aNil)))) (aNil) [some (.loc i), some (encF g), some (.str (tagF (.and x y))), none, none, some (encF (.and x y)), some (encP p)] (st.set t (.lst (r'.reverse.map encQ))) = some ([.lst [encQ (y, .snd p), encQ (x, .fst p)]], st.set t (.lst (r'.reverse.map encQ))) := rfl
          simp only [seqL_cell h1, ha, mExtend, lcell, h1, seqL_lst, List.length_map, List.length_reverse, List.length_cons, List.length_nil]
          rw [if_pos (line_le (by omega))]
          simp
        rw [sEx, ex]
      | atom x =>
        simp only at h
        split at h
        rotate_left
        · cases h
        rename_i hlow
        obtain ⟨st2, e1, h2, fr2⟩ := take_atom_at (m + 1) H1 x p I hlow (by show r'.length + s.arrows.length + s.facts.length ≤ 1000; omega)
        refine nextIt (fr1.trans (fr2.mono fun j hj => by simp at hj ⊢; rcases hj with h | h | h <;> simp [h])) h2 (imps_atom I) h ?_
        rw [hb0, sSeq, sIf, tf, show decide (tagF (.atom x) = "false") = false from (show decide (("atom" : Str) = "false") = false by decide +kernel)]
        simp only [sNx]
        rw [sSeq, sIf, to, show decide (tagF (.atom x) = "or") = false from (show decide (("atom" : Str) = "or") = false by decide +kernel)]
        simp only [sNx]
        rw [sIf, ta, show decide (tagF (.atom x) = "and") = false from (show decide (("atom" : Str) = "and") = false by decide +kernel)]
        simp only
        rw [sIf, tt, show decide (tagF (.atom x) = "atom") = true from (show decide (("atom" : Str) = "atom") = true by decide +kernel)]
        simp only
        have ea : eS (run C (m + 2) .take_atom) (aCons (eVar 0) (aCons (eVar 5) (aCons (eVar 6) (aNil)))) [some (.loc i), some (encF g), some (.str (tagF (.atom x))), none, none, some (encF (.atom x)), some (encP p)] (st.set t (.lst (r'.reverse.map encQ))) = run C (m + 1 + 1) .take_atom [.loc i, encF (.atom x), encP p] (st.set t (.lst (r'.reverse.map encQ))) := rfl
        rw [sEx, ea, e1]
      | imp x y =>
        simp only at h
        split at h
        rotate_left
        · cases h
        rename_i hk
        obtain ⟨st2, e1, h2, fr2⟩ := take_arrow_at m H1 x y p hk (by show r'.length + s.arrows.length + s.facts.length ≤ 1000; omega)
        refine nextIt (fr1.trans (fr2.mono fun j hj => by simp at hj ⊢; rcases hj with h | h | h <;> simp [h])) h2 (imps_arrow I) h ?_
        rw [hb0, sSeq, sIf, tf, show decide (tagF (.imp x y) = "false") = false from (show decide (("to" : Str) = "false") = false by decide +kernel)]
        simp only [sNx]
        rw [sSeq, sIf, to, show decide (tagF (.imp x y) = "or") = false from (show decide (("to" : Str) = "or") = false by decide +kernel)]
        simp only [sNx]
        rw [sIf, ta, show decide (tagF (.imp x y) = "and") = false from (show decide (("to" : Str) = "and") = false by decide +kernel)]
        simp only
        rw [sIf, tt, show decide (tagF (.imp x y) = "atom") = false from (show decide (("to" : Str) = "atom") = false by decide +kernel)]
        simp only
        have ea : eS (run C (m + 2) .take_arrow) (aCons (eVar 0) (aCons (eVar 5) (aCons (eVar 6) (aNil)))) [some (.loc i), some (encF g), some (.str (tagF (.imp x y))), none, none, some (encF (.imp x y)), some (encP p)] (st.set t (.lst (r'.reverse.map encQ))) = run C (m + 2) .take_arrow [.loc i, encF (.imp x y), encP p] (st.set t (.lst (r'.reverse.map encQ))) := rfl
        rw [sEx, ea, e1]
end
end K07
end L3
end
section
set_option Elab.async false
set_option linter.all false
set_option maxRecDepth 100000
set_option maxHeartbeats 0
namespace L3
namespace K07
open PySem G
section
variable {C : Addr} {st : Store} {i nm f a t : Nat} {av : PV} {s : St} {env : EnvP}
structure Post (st st' : Store) (nm : Nat) (js : List Nat) (k : Nat) : Prop where
  len : st.length ≤ st'.length
  nam : st'[nm]? = some (trues k)
  old : ∀ j, j < st.length → j ≠ nm → j ∉ js → st'[j]? = st[j]?
theorem Post.here (H : Here C st i nm f av t s) {st' : Store} {k : Nat} (p : Post st st' nm [] k) : Here C st' i nm f av t { s with k := k } := by
  obtain ⟨n1, n2, n3, n4, n5⟩ := H.ne
  have lt : ∀ {m : Nat} {c : Cell}, st[m]? = some c → m < st.length := fun h => (List.getElem?_eq_some_iff.mp h).1
  refine ⟨by rw [p.old i (lt H.ins) n1 (by simp)]; exact H.ins, p.nam, by rw [p.old f (lt H.fac) n4 (by simp)]; exact H.fac, H.arr_keep fun b e => ?_, by rw [p.old t (lt H.tod) H.nt.symm (by simp)]; exact H.tod, H.nt, H.ok⟩
  subst e
  exact p.old b (lt (seqL_loc H.arr)) (H.ok b rfl).1.symm (by simp)
/-- another cell changes -/
theorem Here.setO (H : Here C st i nm f av t s) {j : Nat} {c : Cell} (hj : j ≠ i ∧ j ≠ nm ∧ j ≠ f ∧ j ≠ t ∧ ∀ b, av = .loc b → j ≠ b) : Here C (st.set j c) i nm f av t s :=
  ⟨by rw [set_ne hj.1]; exact H.ins, by rw [set_ne hj.2.1]; exact H.nam, by rw [set_ne hj.2.2.1]; exact H.fac, H.arr_keep fun b e => set_ne (hj.2.2.2.2 b e), by rw [set_ne hj.2.2.2.1]; exact H.tod, H.nt, H.ok⟩
/-- indices of a search lie in the store -/
theorem Here.lts (H : Here C st i nm f av t s) : i < st.length ∧ nm < st.length ∧ f < st.length ∧ t < st.length ∧ ∀ b, av = .loc b → b < st.length := by
  have lt : ∀ {m : Nat} {c : Cell}, st[m]? = some c → m < st.length := fun h => (List.getElem?_eq_some_iff.mp h).1
  exact ⟨lt H.ins, lt H.nam, lt H.fac, lt H.tod, fun b e => by subst e; exact lt (seqL_loc H.arr)⟩
theorem Here.setG (H : Here C st i nm f av t s) {j : Nat} {c : Cell} (hj : i < j ∧ nm < j ∧ f < j ∧ t < j ∧ ∀ b, av = .loc b → b < j) : Here C (st.set j c) i nm f av t s :=
  H.setO ⟨by omega, by omega, by omega, by omega, fun b e => by have := hj.2.2.2.2 b e; omega⟩
def MS (C : Addr) (n : Nat) (fn : Sv) : Prop := ∀ (st : Store) (i nm f a t : Nat) (s : St) (g : Fm) (k : Nat) (r : Res), Here C st i nm f (.loc a) t s → Imps s → fn s g = some (k, r) → ∃ st', run C n .solve [.loc i, encF g] st = some (encR r, st') ∧ Post st st' nm [i, f, a, t] k
/-- solve(state.more(*ps), g) -/
theorem sub_more {n m : Nat} {fn : Sv} (hs : MS C n fn) (H : Here C st i nm f av t s) (I : Imps s) (ps : List (Fm × Pg)) {g : Fm} {k : Nat} {r : Res} (h : fn { s with todo := ps.reverse ++ s.todo } g = some (k, r)) :
    ∃ st', run C n .solve [.loc (st.length + 3), encF g] (st ++ newCells C st.length nm { s with todo := ps.reverse ++ s.todo }) = some (encR r, st') ∧ Post st st' nm [] k := by
  have H1 := here_new H { s with todo := ps.reverse ++ s.todo } rfl
  obtain ⟨st', e, p⟩ := hs _ _ _ _ _ _ _ _ _ _ H1 I h
  have hl := p.len
  rw [List.length_append] at hl
  refine ⟨st', e, by omega, p.nam, fun j hj hn _ => ?_⟩
  rw [p.old j (by rw [List.length_append]; omega) hn (by simp; omega), List.getElem?_append_left hj]
theorem ixL {n : Nat} {xs : List PV} (h : st[n]? = some (.lst xs)) (k : Nat) (v : PV) (hk : xs[k]? = some v) : gIx (.loc n) (.int ((k : Nat) : Int)) st = some (v, st) := by
  show (match seqL (.loc n) st with | some xs => (match L2.atI xs ((k : Nat) : Int) with | some v => some (v, st) | none => none) | none => none) = _
  rw [seqL_cell h]
  simp only
  rw [L2.atI_nat hk]
theorem app_loc {n : Nat} {xs : List PV} {v : PV} {x : FE} {y : FA} (hx : x env st = some (.loc n, st)) (h : st[n]? = some (.lst xs)) (hl : xs.length ≤ 2000) (hy : y env st = some ([v], st)) : eBM mAppend x y env st = some (.non, st.set n (.lst (xs ++ [v]))) := by
  unfold eBM
  rw [hx]
  simp only [seqL_cell h, hy, mAppend, lcell, h]
  rw [if_pos (Nat.lt_of_le_of_lt hl (by decide))]
/-- told[0] == "world" -/
theorem told_at {k : Nat} {r : Res} (h : env[k]? = some (some (encR r))) : tOf (eBin gEq (eBin gIx (eVar k) (eC (.int 0))) (eC (.str "world"))) env st = some ((match r with | .world _ => true | .prog _ => false), st) := by
  cases r with
  | world t =>
    rw [test_tup (x := "world") h (by decide +kernel) "world" (by decide +kernel)]
    rfl
  | prog p =>
    rw [test_tup (x := "program") h (by decide +kernel) "world" (by decide +kernel), show decide (("program" : Str) = "world") = false by decide +kernel]
theorem toldP_at {k : Nat} {r : Res} (h : env[k]? = some (some (encR r))) : tOf (eBin gEq (eBin gIx (eVar k) (eC (.int 0))) (eC (.str "program"))) env st = some ((match r with | .world _ => false | .prog _ => true), st) := by
  cases r with
  | world t => rw [test_tup (x := "world") h (by decide +kernel) "program" (by decide +kernel), show decide (("world" : Str) = "program") = false by decide +kernel]
  | prog p => rw [test_tup (x := "program") h (by decide +kernel) "program" (by decide +kernel)]; rfl
/-- one side of a case -/
def bodC (C : Addr) (n : Nat) : FS := sSeq (sSet 6 (eM C "fresh" (run C n .Search_fresh) (eVar 0) aNil)) (sSeq (sSet 7 (eS (run C n .solve) (aCons (eM C "more" (run C n .Search_more) (eVar 0) (aCons (eTup (aCons (eVar 5) (aCons (eVar 6) (aNil)))) (aNil))) (aCons (eVar 3) (aNil))))) (sSeq (sIf (tOf (eBin gEq (eBin gIx (eVar 7) (eC (.int 0))) (eC (.str "world")))) (sRet (eVar 7)) (sNx)) (sEx (eBM mAppend (eVar 4) (aCons (eTup (aCons (eVar 6) (aCons (eBin gIx (eVar 7) (eC (.int 1))) (aNil)))) (aNil))))))
theorem bodC_at (m : Nat) {fn : Sv} (hs : MS C (m + 1) fn) (H : Here C st i nm f (.loc a) t s) (I : Imps s) (hk : s.k < lim) (hl : s.todo.length ≤ 1000) {x g : Fm} {e1 : Option PV} {p : Pg} {L : Nat} {xs : List PV} (hL : st[L]? = some (.lst xs)) (hLb : i < L ∧ nm < L ∧ f < L ∧ t < L ∧ ∀ b, (PV.loc a) = .loc b → b < L) (hxs : xs.length ≤ 10) {e6 e7 : Option PV} {k : Nat} {r : Res} (h : fn { s with k := s.k + 1, todo := (x, .name s.k) :: s.todo } g = some (k, r)) :
    ∃ st', (match r with
      | .world _ => bodC C (m + 1) [some (.loc i), e1, some (encP p), some (encF g), some (.loc L), some (encF x), e6, e7] st = some (.ret (encR r), [some (.loc i), e1, some (encP p), some (encF g), some (.loc L), some (encF x), some (encN s.k), some (encR r)], st') ∧ Post st st' nm [] k
      | .prog p1 => ∃ st2, Post st st2 nm [] k ∧ st' = st2.set L (.lst (xs ++ [.tup [encN s.k, encP p1]])) ∧ st2[L]? = some (.lst xs) ∧ bodC C (m + 1) [some (.loc i), e1, some (encP p), some (encF g), some (.loc L), some (encF x), e6, e7] st = some (.nx, [some (.loc i), e1, some (encP p), some (encF g), some (.loc L), some (encF x), some (encN s.k), some (encR r)], st')) := by
  have H1 := H.setN (s.k + 1)
  obtain ⟨st2, es, ps⟩ := sub_more (m := m) hs H1 I [(x, .name s.k)] (g := g) (k := k) (r := r) h
  have hlen : (st.set nm (trues (s.k + 1))).length = st.length := by simp
  have P : Post st st2 nm [] k := ⟨by have := ps.len; omega, ps.nam, fun j hj hn h0 => by rw [ps.old j (by omega) hn h0, set_ne (Ne.symm hn)]⟩
  have hL2 : st2[L]? = some (.lst xs) := by
    have hLlt := (List.getElem?_eq_some_iff.mp hL).1
    rw [P.old L hLlt (by omega) (by simp)]; exact hL
  have fr := fresh_ev (C := C) (st := st) m H hk [e1, some (encP p), some (encF g), some (.loc L), some (encF x), e6, e7]
  have mo : eM C "more" (run C (m + 1) .Search_more) (eVar 0) (aCons (eTup (aCons (eVar 5) (aCons (eVar 6) (aNil)))) (aNil)) [some (.loc i), e1, some (encP p), some (encF g), some (.loc L), some (encF x), some (encN s.k), e7] (st.set nm (trues (s.k + 1))) = some (.loc ((st.set nm (trues (s.k + 1))).length + 3), (st.set nm (trues (s.k + 1))) ++ newCells C (st.set nm (trues (s.k + 1))).length nm { s with k := s.k + 1, todo := (x, .name s.k) :: s.todo }) := by
    rw [meth_at H1 (env := [some (.loc i), e1, some (encP p), some (encF g), some (.loc L), some (encF x), some (encN s.k), e7]) (as := [encQ (x, .name s.k)]) (st2 := st.set nm (trues (s.k + 1))) rfl rfl rfl]
    exact more_at m H1 [(x, .name s.k)] (by show s.todo.length + 1 ≤ 2000; omega) (by show 1 ≤ 5; decide)
  have step : bodC C (m + 1) [some (.loc i), e1, some (encP p), some (encF g), some (.loc L), some (encF x), e6, e7] st = sSeq (sIf (tOf (eBin gEq (eBin gIx (eVar 7) (eC (.int 0))) (eC (.str "world")))) (sRet (eVar 7)) (sNx)) (sEx (eBM mAppend (eVar 4) (aCons (eTup (aCons (eVar 6) (aCons (eBin gIx (eVar 7) (eC (.int 1))) (aNil)))) (aNil)))) [some (.loc i), e1, some (encP p), some (encF g), some (.loc L), some (encF x), some (encN s.k), some (encR r)] st2 := by
    unfold bodC
    rw [sSeq, sSet, fr]
    simp only
    have se : List.set [some (.loc i), e1, some (encP p), some (encF g), some (.loc L), some (encF x), e6, e7] 6 (some (encN s.k)) = [some (.loc i), e1, some (encP p), some (encF g), some (.loc L), some (encF x), some (encN s.k), e7] := rfl
    rw [se, sSeq, sSet, eS, aCons, mo]
    simp only [aCons, eVar, List.getElem?_cons_succ, List.getElem?_cons_zero, aNil]
    have es' : run C (m + 1) .solve [.loc ((st.set nm (trues (s.k + 1))).length + 3), encF g] ((st.set nm (trues (s.k + 1))) ++ newCells C (st.set nm (trues (s.k + 1))).length nm { s with k := s.k + 1, todo := (x, .name s.k) :: s.todo }) = some (encR r, st2) := es
    rw [es']
    rfl
  have tw := told_at (st := st2) (env := [some (.loc i), e1, some (encP p), some (encF g), some (.loc L), some (encF x), some (encN s.k), some (encR r)]) (k := 7) (r := r) rfl
  cases r with
  | world t' =>
    refine ⟨st2, ?_, P⟩
    rw [step, sSeq, sIf, tw]
    rfl
  | prog p1 =>
    refine ⟨st2.set L (.lst (xs ++ [.tup [encN s.k, encP p1]])), st2, P, rfl, hL2, ?_⟩
    rw [step, sSeq, sIf, tw]
    simp only [sNx, sEx]
    rw [app_loc (n := L) (xs := xs) (v := .tup [encN s.k, encP p1]) rfl hL2 (by omega) rfl]
theorem solve_case_at (m : Nat) {fn : Sv} (hs : MS C (m + 1) fn) (H : Here C st i nm f (.loc a) t s) (I : Imps s) (hl : s.todo.length ≤ 1000) {x y g : Fm} {p : Pg} {k : Nat} {r : Res}
    (h : (if s.k < lim then (match fn { s with k := s.k + 1, todo := (x, .name s.k) :: s.todo } g with
      | some (k1, .prog p1) => if k1 < lim then (match fn { s with k := k1 + 1, todo := (y, .name k1) :: s.todo } g with
        | some (k2, .prog p2) => some (k2, .prog (.split p s.k p1 k1 p2))
        | some (k2, .world t) => some (k2, .world t)
        | none => none) else none
      | some (k1, .world t) => some (k1, .world t)
      | none => none) else none) = some (k, r)) :
    ∃ st', run C (m + 2) .solve_case [.loc i, encF (.or x y), encP p, encF g] st = some (encR r, st') ∧ Post st st' nm [] k := by
  split at h
  rotate_left
  · cases h
  rename_i hk
  show ∃ st', fnS 4 4 (b_solve_case (run C (m + 1)) C (m + 1)) _ _ = _ ∧ _
  unfold fnS b_solve_case
  simp only [List.length_cons, List.length_nil, if_true, List.map_cons, List.map_nil]
  have l0 : sSet 4 (eLstM aNil) ([some (.loc i), some (encF (.or x y)), some (encP p), some (encF g)] ++ List.replicate 4 none) st = some (.nx, [some (.loc i), some (encF (.or x y)), some (encP p), some (encF g), some (.loc st.length), none, none, none], st ++ [.lst []]) := rfl
  rw [sSeq, l0]
  simp only
  have it : iSeq (eSl gSlT (eVar 1) (oSome (eC (.int 1))) oNone) [some (.loc i), some (encF (.or x y)), some (encP p), some (encF g), some (.loc st.length), none, none, none] (st ++ [.lst []]) = some ([encF x, encF y], st ++ [.lst []]) := rfl
  rw [sSeq, sFor, it]
  simp only
  have H0 := H.grow [.lst []]
  obtain ⟨b1, b2, b3, b4, b5⟩ := H.lts
  have hL0 : (st ++ [Cell.lst []])[st.length]? = some (.lst []) := by simp
  have hb : i < st.length ∧ nm < st.length ∧ f < st.length ∧ t < st.length ∧ ∀ b, (PV.loc a) = .loc b → b < st.length := ⟨b1, b2, b3, b4, b5⟩
  have lift0 : ∀ {st' : Store} {k : Nat}, Post (st ++ [.lst []]) st' nm [] k → Post st st' nm [] k := fun {st' k} P => ⟨by have := P.len; simp at this; omega, P.nam, fun j hj hn h0 => by rw [P.old j (by simp; omega) hn h0, List.getElem?_append_left hj]⟩
  have body : ∀ (e : EnvP) (st' : Store), (sSeq (sSet 6 (eM C "fresh" (run C (m + 1) .Search_fresh) (eVar 0) aNil)) (sSeq (sSet 7 (eS (run C (m + 1) .solve) (aCons (eM C "more" (run C (m + 1) .Search_more) (eVar 0) (aCons (eTup (aCons (eVar 5) (aCons (eVar 6) (aNil)))) (aNil))) (aCons (eVar 3) (aNil))))) (sSeq (sIf (tOf (eBin gEq (eBin gIx (eVar 7) (eC (.int 0))) (eC (.str "world")))) (sRet (eVar 7)) (sNx)) (sEx (eBM mAppend (eVar 4) (aCons (eTup (aCons (eVar 6) (aCons (eBin gIx (eVar 7) (eC (.int 1))) (aNil)))) (aNil))))))) e st' = bodC C (m + 1) e st' := fun _ _ => rfl
  have tn : ∀ (v : PV) (w5 w6 w7 : Option PV), tN 5 v [some (.loc i), some (encF (.or x y)), some (encP p), some (encF g), some (.loc st.length), w5, w6, w7] = some [some (.loc i), some (encF (.or x y)), some (encP p), some (encF g), some (.loc st.length), some v, w6, w7] := fun _ _ _ _ => rfl
  cases h1 : fn { s with k := s.k + 1, todo := (x, .name s.k) :: s.todo } g with
  | none => rw [h1] at h; cases h
  | some kr =>
    obtain ⟨k1, r1⟩ := kr
    rw [h1] at h
    obtain ⟨sa, oa⟩ := bodC_at m hs H0 I hk hl (e1 := some (encF (.or x y))) (p := p) hL0 hb (by show 0 ≤ 10; decide) (e6 := none) (e7 := none) h1
    cases r1 with
    | world t1 =>
      cases h
      obtain ⟨ea, Pa⟩ := oa
      refine ⟨sa, ?_, lift0 Pa⟩
      simp only [loop, tn, body, ea]
    | prog p1 =>
      simp only at h
      split at h
      rotate_left
      · cases h
      rename_i hk1
      obtain ⟨s2, P2, rfl, hL2, ea⟩ := oa
      have H2 := Post.here H0 P2
      have H3 := H2.setG (j := st.length) (c := .lst ([] ++ [.tup [encN s.k, encP p1]])) hb
      have hL3 : (s2.set st.length (.lst ([] ++ [.tup [encN s.k, encP p1]])))[st.length]? = some (.lst [.tup [encN s.k, encP p1]]) := set_eq hL2
      cases h2 : fn { s with k := k1 + 1, todo := (y, .name k1) :: s.todo } g with
      | none => rw [h2] at h; cases h
      | some kr2 =>
        obtain ⟨k2, r2⟩ := kr2
        rw [h2] at h
        obtain ⟨sb, ob⟩ := bodC_at m hs H3 I hk1 hl (e1 := some (encF (.or x y))) (p := p) hL3 hb (by show 1 ≤ 10; decide) (e6 := some (encN s.k)) (e7 := some (encR (.prog p1))) h2
        have join : ∀ {st' : Store} {k : Nat}, Post (s2.set st.length (.lst ([] ++ [.tup [encN s.k, encP p1]]))) st' nm [] k → Post st st' nm [] k := fun {st' k} P => by
          have hlen : (s2.set st.length (.lst ([] ++ [.tup [encN s.k, encP p1]]))).length = s2.length := by simp
          have l2 := P2.len
          have l3 : (st ++ [Cell.lst []]).length = st.length + 1 := by simp
          refine ⟨by have := P.len; omega, P.nam, fun j hj hn h0 => ?_⟩
          rw [P.old j (by omega) hn h0, set_ne (by omega), P2.old j (by omega) hn h0, List.getElem?_append_left hj]
        cases r2 with
        | world t2 =>
          cases h
          obtain ⟨eb, Pb⟩ := ob
          refine ⟨sb, ?_, join Pb⟩
          simp only [loop, tn, body, ea]
          rw [eb]
        | prog p2 =>
          cases h
          obtain ⟨s4, P4, rfl, hL4, eb⟩ := ob
          have hL5 : (s4.set st.length (.lst ([.tup [encN s.k, encP p1]] ++ [.tup [encN k1, encP p2]])))[st.length]? = some (.lst [.tup [encN s.k, encP p1], .tup [encN k1, encP p2]]) := set_eq hL4
          refine ⟨s4.set st.length (.lst ([.tup [encN s.k, encP p1]] ++ [.tup [encN k1, encP p2]])), ?_, ?_⟩
          · simp only [loop, tn, body, ea]
            rw [eb]
            simp only
            have fin : ∀ (e : EnvP) (st5 : Store), e[2]? = some (some (encP p)) → e[4]? = some (some (.loc st.length)) → st5[st.length]? = some (.lst [.tup [encN s.k, encP p1], .tup [encN k1, encP p2]]) → sRet (eTup (aCons (eC (.str "program")) (aCons (eTup (aCons (eC (.str "split")) (aCons (eVar 2) (aCons (eBin gIx (eVar 4) (eC (.int 0))) (aCons (eBin gIx (eVar 4) (eC (.int 1))) (aNil)))))) (aNil)))) e st5 = some (.ret (encR (.prog (.split p s.k p1 k1 p2))), e, st5) := fun e st5 h2 h4 hL => by
              have i0 : gIx (.loc st.length) (.int 0) st5 = some (.tup [encN s.k, encP p1], st5) := ixL hL 0 _ rfl
              have i1 : gIx (.loc st.length) (.int 1) st5 = some (.tup [encN k1, encP p2], st5) := ixL hL 1 _ rfl
              unfold sRet eTup
              simp only [aCons, eC, eTup, eVar, h2, eBin, h4, i0, i1, aNil]
              rfl
            rw [fin _ _ rfl rfl hL5]
          · have Q := join P4
            exact ⟨by simp; exact Q.len, by rw [set_ne (by omega)]; exact Q.nam, fun j hj hn h0 => by rw [set_ne (by omega)]; exact Q.old j hj hn h0⟩
end
end K07
end L3
end
section
set_option Elab.async false
set_option linter.all false
set_option maxRecDepth 100000
set_option maxHeartbeats 0
namespace L3
namespace K07
open PySem G
section
variable {C : Addr} {st : Store} {i nm f a t : Nat} {av : PV} {s : St} {env : EnvP}
theorem meth_to {m : Str} {g : GA} {x : FE} {fa : FA} {as : List PV} {st0 st2 : Store} (H : Here C st i nm f av t s) (hx : x env st0 = some (.loc i, st)) (hm : (flds nm f av t).lookup m = none) (ha : fa env st = some (as, st2)) : eM C m g x fa env st0 = g (.loc i :: as) st2 := by
  unfold eM icell
  rw [hx]
  simp only [H.ins, hm, and_self, if_true, ha]
theorem more0_ev (m : Nat) (H : Here C st i nm f av t s) (hl : s.todo.length ≤ 1000) (e : EnvP) : eM C "more" (run C (m + 1) .Search_more) (eVar 0) aNil (some (.loc i) :: e) st = some (.loc (st.length + 3), st ++ newCells C st.length nm s) := by
  rw [meth_at H (env := some (.loc i) :: e) (as := []) (st2 := st) rfl rfl rfl]
  exact more_at m H [] (by show s.todo.length + 0 ≤ 2000; omega) (by decide)
theorem Post.grow {L : Store} {st' : Store} {k : Nat} (P : Post (st ++ L) st' nm [] k) : Post st st' nm [] k :=
  ⟨by have := P.len; rw [List.length_append] at this; omega, P.nam, fun j hj hn h0 => by rw [P.old j (by rw [List.length_append]; omega) hn h0, List.getElem?_append_left hj]⟩
theorem Post.trans {st1 st2 : Store} {k1 k2 : Nat} (P : Post st st1 nm [] k1) (Q : Post st1 st2 nm [] k2) : Post st st2 nm [] k2 :=
  ⟨Nat.le_trans P.len Q.len, Q.nam, fun j hj hn h0 => by rw [Q.old j (Nat.lt_of_lt_of_le hj P.len) hn h0, P.old j hj hn h0]⟩
/-- a cell behind st changes -/
theorem Post.put {st1 : Store} {k L : Nat} {c : Cell} (P : Post st st1 nm [] k) (hL : st.length ≤ L) (hn : nm < st.length) : Post st (st1.set L c) nm [] k :=
  ⟨by simp; exact P.len, by rw [set_ne (by omega)]; exact P.nam, fun j hj h0 h1 => by rw [set_ne (by omega)]; exact P.old j hj h0 h1⟩
def bodB (C : Addr) (n : Nat) : FS := sSeq (sSet 4 (eS (run C n .solve) (aCons (eM C "more" (run C n .Search_more) (eVar 0) aNil) (aCons (eVar 3) (aNil))))) (sSeq (sIf (tOf (eBin gEq (eBin gIx (eVar 4) (eC (.int 0))) (eC (.str "world")))) (sRet (eVar 4)) (sNx)) (sEx (eBM mAppend (eVar 2) (aCons (eBin gIx (eVar 4) (eC (.int 1))) (aNil)))))
theorem bodB_at (m : Nat) {fn : Sv} (hs : MS C (m + 1) fn) (H : Here C st i nm f (.loc a) t s) (I : Imps s) (hl : s.todo.length ≤ 1000) {x : Fm} {e1 : Option PV} {L : Nat} {xs : List PV} (hL : st[L]? = some (.lst xs)) (hLb : nm < L) (hxs : xs.length ≤ 10) {e4 : Option PV} {k : Nat} {r : Res} (h : fn s x = some (k, r)) :
    ∃ st', (match r with
      | .world _ => bodB C (m + 1) [some (.loc i), e1, some (.loc L), some (encF x), e4] st = some (.ret (encR r), [some (.loc i), e1, some (.loc L), some (encF x), some (encR r)], st') ∧ Post st st' nm [] k
      | .prog p1 => ∃ st2, Post st st2 nm [] k ∧ st' = st2.set L (.lst (xs ++ [encP p1])) ∧ st2[L]? = some (.lst xs) ∧ bodB C (m + 1) [some (.loc i), e1, some (.loc L), some (encF x), e4] st = some (.nx, [some (.loc i), e1, some (.loc L), some (encF x), some (encR r)], st')) := by
  obtain ⟨st2, es, P⟩ := sub_more (m := m) hs H I [] (g := x) (k := k) (r := r) h
  have hL2 : st2[L]? = some (.lst xs) := by
    have hLlt := (List.getElem?_eq_some_iff.mp hL).1
    rw [P.old L hLlt (by omega) (by simp)]; exact hL
  have mo := more0_ev m H hl [e1, some (.loc L), some (encF x), e4]
  have step : bodB C (m + 1) [some (.loc i), e1, some (.loc L), some (encF x), e4] st = sSeq (sIf (tOf (eBin gEq (eBin gIx (eVar 4) (eC (.int 0))) (eC (.str "world")))) (sRet (eVar 4)) (sNx)) (sEx (eBM mAppend (eVar 2) (aCons (eBin gIx (eVar 4) (eC (.int 1))) (aNil)))) [some (.loc i), e1, some (.loc L), some (encF x), some (encR r)] st2 := by
    unfold bodB
    rw [sSeq, sSet, eS, aCons, mo]
    simp only [aCons, eVar, List.getElem?_cons_succ, List.getElem?_cons_zero, aNil]
    have es' : run C (m + 1) .solve [.loc (st.length + 3), encF x] (st ++ newCells C st.length nm s) = some (encR r, st2) := es
    rw [es']
    rfl
  have tw := told_at (st := st2) (env := [some (.loc i), e1, some (.loc L), some (encF x), some (encR r)]) (k := 4) (r := r) rfl
  cases r with
  | world t' =>
    refine ⟨st2, ?_, P⟩
    rw [step, sSeq, sIf, tw]
    rfl
  | prog p1 =>
    refine ⟨st2.set L (.lst (xs ++ [encP p1])), st2, P, rfl, hL2, ?_⟩
    rw [step, sSeq, sIf, tw]
    simp only [sNx, sEx]
    rw [app_loc (n := L) (xs := xs) (v := encP p1) rfl hL2 (by omega) rfl]
theorem solve_both_at (m : Nat) {fn : Sv} (hs : MS C (m + 1) fn) (H : Here C st i nm f (.loc a) t s) (I : Imps s) (hl : s.todo.length ≤ 1000) {x y : Fm} {k : Nat} {r : Res}
    (h : (match fn s x with
        | some (k1, .prog p1) => (match fn { s with k := k1 } y with
          | some (k2, .prog p2) => some (k2, .prog (.pair p1 p2))
          | some (k2, .world t) => some (k2, .world t)
          | none => none)
        | some (k1, .world t) => some (k1, .world t)
        | none => none) = some (k, r)) :
    ∃ st', run C (m + 2) .solve_both [.loc i, encF (.and x y)] st = some (encR r, st') ∧ Post st st' nm [] k := by
  show ∃ st', fnS 2 3 (b_solve_both (run C (m + 1)) C (m + 1)) _ _ = _ ∧ _
  unfold fnS b_solve_both
  simp only [List.length_cons, List.length_nil, if_true, List.map_cons, List.map_nil]
  have l0 : sSet 2 (eLstM aNil) ([some (.loc i), some (encF (.and x y))] ++ List.replicate 3 none) st = some (.nx, [some (.loc i), some (encF (.and x y)), some (.loc st.length), none, none], st ++ [.lst []]) := rfl
  rw [sSeq, l0]
  simp only
  have it : iSeq (eSl gSlT (eVar 1) (oSome (eC (.int 1))) oNone) [some (.loc i), some (encF (.and x y)), some (.loc st.length), none, none] (st ++ [.lst []]) = some ([encF x, encF y], st ++ [.lst []]) := rfl
  rw [sSeq, sFor, it]
  simp only
  have H0 := H.grow [.lst []]
  obtain ⟨b1, b2, b3, b4, b5⟩ := H.lts
  have hL0 : (st ++ [Cell.lst []])[st.length]? = some (.lst []) := by simp
  have hb : i < st.length ∧ nm < st.length ∧ f < st.length ∧ t < st.length ∧ ∀ b, (PV.loc a) = .loc b → b < st.length := ⟨b1, b2, b3, b4, b5⟩
  have body : ∀ (e : EnvP) (st' : Store), (sSeq (sSet 4 (eS (run C (m + 1) .solve) (aCons (eM C "more" (run C (m + 1) .Search_more) (eVar 0) aNil) (aCons (eVar 3) (aNil))))) (sSeq (sIf (tOf (eBin gEq (eBin gIx (eVar 4) (eC (.int 0))) (eC (.str "world")))) (sRet (eVar 4)) (sNx)) (sEx (eBM mAppend (eVar 2) (aCons (eBin gIx (eVar 4) (eC (.int 1))) (aNil)))))) e st' = bodB C (m + 1) e st' := fun _ _ => rfl
  have tn : ∀ (v : PV) (w3 w4 : Option PV), tN 3 v [some (.loc i), some (encF (.and x y)), some (.loc st.length), w3, w4] = some [some (.loc i), some (encF (.and x y)), some (.loc st.length), some v, w4] := fun _ _ _ => rfl
  cases h1 : fn s x with
  | none => rw [h1] at h; cases h
  | some kr =>
    obtain ⟨k1, r1⟩ := kr
    rw [h1] at h
    obtain ⟨sa, oa⟩ := bodB_at m hs H0 I hl (e1 := some (encF (.and x y))) hL0 b2 (by show 0 ≤ 10; decide) (e4 := none) h1
    cases r1 with
    | world t1 =>
      cases h
      obtain ⟨ea, Pa⟩ := oa
      refine ⟨sa, ?_, Pa.grow⟩
      simp only [loop, tn, body, ea]
    | prog p1 =>
      simp only at h
      obtain ⟨s2, P2, rfl, hL2, ea⟩ := oa
      have H2 := Post.here H0 P2
      have H3 := H2.setG (j := st.length) (c := .lst ([] ++ [encP p1])) hb
      have hL3 : (s2.set st.length (.lst ([] ++ [encP p1])))[st.length]? = some (.lst [encP p1]) := set_eq hL2
      have P3 : Post st (s2.set st.length (.lst ([] ++ [encP p1]))) nm [] k1 := P2.grow.put (Nat.le_refl _) b2
      cases h2 : fn { s with k := k1 } y with
      | none => rw [h2] at h; cases h
      | some kr2 =>
        obtain ⟨k2, r2⟩ := kr2
        rw [h2] at h
        obtain ⟨sb, ob⟩ := bodB_at m hs H3 I hl (e1 := some (encF (.and x y))) hL3 b2 (by show 1 ≤ 10; decide) (e4 := some (encR (.prog p1))) h2
        cases r2 with
        | world t2 =>
          cases h
          obtain ⟨eb, Pb⟩ := ob
          refine ⟨sb, ?_, P3.trans Pb⟩
          simp only [loop, tn, body, ea]
          rw [eb]
        | prog p2 =>
          cases h
          obtain ⟨s4, P4, rfl, hL4, eb⟩ := ob
          have hL5 : (s4.set st.length (.lst ([encP p1] ++ [encP p2])))[st.length]? = some (.lst [encP p1, encP p2]) := set_eq hL4
          refine ⟨s4.set st.length (.lst ([encP p1] ++ [encP p2])), ?_, (P3.trans P4).put (Nat.le_refl _) b2⟩
          simp only [loop, tn, body, ea]
          rw [eb]
          simp only
          have fin : ∀ (e : EnvP) (st5 : Store), e[2]? = some (some (.loc st.length)) → st5[st.length]? = some (.lst [encP p1, encP p2]) → sRet (eTup (aCons (eC (.str "program")) (aCons (eTup (aCons (eC (.str "pair")) (aCons (eBin gIx (eVar 2) (eC (.int 0))) (aCons (eBin gIx (eVar 2) (eC (.int 1))) (aNil))))) (aNil)))) e st5 = some (.ret (encR (.prog (.pair p1 p2))), e, st5) := fun e st5 h4 hL => by
            have i0 : gIx (.loc st.length) (.int 0) st5 = some (encP p1, st5) := ixL hL 0 _ rfl
            have i1 : gIx (.loc st.length) (.int 1) st5 = some (encP p2, st5) := ixL hL 1 _ rfl
            unfold sRet eTup
            simp only [aCons, eC, eTup, eVar, eBin, h4, i0, i1, aNil]
            rfl
          rw [fin _ _ rfl hL5]
/-- solve_asked -/
theorem solve_asked_at (m : Nat) {fn : Sv} (hs : MS C (m + 1) fn) (H : Here C st i nm f av t s) (I : Imps s) (hl : s.todo.length + s.arrows.length ≤ 1000) (hk : s.k + 2 ≤ lim) {d r : List (Fm × Pg)} {x y c : Fm} {p : Pg} (hd : s.arrows = d ++ (.imp (.imp x y) c, p) :: r) {k : Nat} {res : Res}
    (h : fn ⟨s.k + 2, s.facts, d ++ r, (.imp y c, .bind s.k y (.app p (.bind (s.k + 1) x (.name s.k)))) :: s.todo⟩ (.imp x y) = some (k, res)) :
    ∃ st', run C (m + 2) .solve_asked [.loc i, .int (d.length : Nat), encF (.imp (.imp x y) c), encP p] st = some (encR res, st') ∧ Post st st' nm [] k := by
  show ∃ st', fnS 4 7 (b_solve_asked (run C (m + 1)) C (m + 1)) _ _ = _ ∧ _
  unfold fnS b_solve_asked
  simp only [List.length_cons, List.length_nil, if_true, List.map_cons, List.map_nil]
  have as1 : sAsg (tT 3 (tCons (tN 5) (tCons (tT 3 (tCons (tN 5) (tCons (tN 9) (tCons (tN 10) (tNil))))) (tCons (tN 6) (tNil))))) (eVar 2) ([some (.loc i), some (.int (d.length : Nat)), some (encF (.imp (.imp x y) c)), some (encP p)] ++ List.replicate 7 none) st = some (.nx, [some (.loc i), some (.int (d.length : Nat)), some (encF (.imp (.imp x y) c)), some (encP p), none, some (.str "to"), some (encF c), none, none, some (encF x), some (encF y)], st) := rfl
  rw [sSeq, as1]
  simp only
  have H1 := H.setN (s.k + 1)
  have H2 := H1.setN (s.k + 2)
  have p2 : sPar2 7 8 (aCons (eM C "fresh" (run C (m + 1) .Search_fresh) (eVar 0) aNil) (aCons (eM C "fresh" (run C (m + 1) .Search_fresh) (eVar 0) aNil) aNil)) [some (.loc i), some (.int (d.length : Nat)), some (encF (.imp (.imp x y) c)), some (encP p), none, some (.str "to"), some (encF c), none, none, some (encF x), some (encF y)] st = some (.nx, [some (.loc i), some (.int (d.length : Nat)), some (encF (.imp (.imp x y) c)), some (encP p), none, some (.str "to"), some (encF c), some (encN s.k), some (encN (s.k + 1)), some (encF x), some (encF y)], (st.set nm (trues (s.k + 1))).set nm (trues (s.k + 2))) := by
    unfold sPar2 aCons
    rw [fresh_ev m H (by omega)]
    simp only [aCons]
    rw [fresh_ev m H1 (by show s.k + 1 < lim; omega)]
    rfl
  rw [sSeq, p2]
  simp only
  have ls : ∀ (st1 : Store), sSet 4 (eTup (aCons (eC (.str "bind")) (aCons (eVar 7) (aCons (eVar 10) (aCons (eTup (aCons (eC (.str "app")) (aCons (eVar 3) (aCons (eTup (aCons (eC (.str "bind")) (aCons (eVar 8) (aCons (eVar 9) (aCons (eVar 7) (aNil)))))) (aNil))))) (aNil)))))) [some (.loc i), some (.int (d.length : Nat)), some (encF (.imp (.imp x y) c)), some (encP p), none, some (.str "to"), some (encF c), some (encN s.k), some (encN (s.k + 1)), some (encF x), some (encF y)] st1 = some (.nx, [some (.loc i), some (.int (d.length : Nat)), some (encF (.imp (.imp x y) c)), some (encP p), some (encP (.bind s.k y (.app p (.bind (s.k + 1) x (.name s.k))))), some (.str "to"), some (encF c), some (encN s.k), some (encN (s.k + 1)), some (encF x), some (encF y)], st1) := fun _ => rfl
  rw [sSeq, ls]
  simp only
  generalize hst2 : (st.set nm (trues (s.k + 1))).set nm (trues (s.k + 2)) = st2 at H2 ⊢
  have wo : eM C "without" (run C (m + 1) .Search_without) (eVar 0) (aCons (eVar 1) aNil) [some (.loc i), some (.int (d.length : Nat)), some (encF (.imp (.imp x y) c)), some (encP p), some (encP (.bind s.k y (.app p (.bind (s.k + 1) x (.name s.k))))), some (.str "to"), some (encF c), some (encN s.k), some (encN (s.k + 1)), some (encF x), some (encF y)] st2 = some (.loc (st2.length + 3), st2 ++ newCells C st2.length nm ⟨s.k + 2, s.facts, d ++ r, s.todo⟩) := by
    rw [meth_at H2 (env := [some (.loc i), some (.int (d.length : Nat)), some (encF (.imp (.imp x y) c)), some (encP p), some (encP (.bind s.k y (.app p (.bind (s.k + 1) x (.name s.k))))), some (.str "to"), some (encF c), some (encN s.k), some (encN (s.k + 1)), some (encF x), some (encF y)]) (as := [.int (d.length : Nat)]) (st2 := st2) rfl rfl rfl]
    exact without_at m H2 d r _ hd (by show s.arrows.length ≤ 2000; omega)
  have H3 := here_new H2 ⟨s.k + 2, s.facts, d ++ r, s.todo⟩ rfl
  have I3 : Imps ⟨s.k + 2, s.facts, d ++ r, s.todo⟩ := fun q hq => I q (by
    rw [hd]
    rcases List.mem_append.mp hq with h1 | h1
    · exact List.mem_append_left _ h1
    · exact List.mem_append_right _ (List.mem_cons_of_mem _ h1))
  generalize hst3 : st2 ++ newCells C st2.length nm ⟨s.k + 2, s.facts, d ++ r, s.todo⟩ = st3 at H3 wo
  obtain ⟨st', es, P⟩ := sub_more (m := m) hs H3 I3 [(.imp y c, .bind s.k y (.app p (.bind (s.k + 1) x (.name s.k))))] (g := .imp x y) (k := k) (r := res) h
  refine ⟨st', ?_, ?_⟩
  · have mo : eM C "more" (run C (m + 1) .Search_more) (eM C "without" (run C (m + 1) .Search_without) (eVar 0) (aCons (eVar 1) aNil)) (aCons (eTup (aCons (eTup (aCons (eC (.str "to")) (aCons (eVar 10) (aCons (eVar 6) (aNil))))) (aCons (eVar 4) (aNil)))) (aNil)) [some (.loc i), some (.int (d.length : Nat)), some (encF (.imp (.imp x y) c)), some (encP p), some (encP (.bind s.k y (.app p (.bind (s.k + 1) x (.name s.k))))), some (.str "to"), some (encF c), some (encN s.k), some (encN (s.k + 1)), some (encF x), some (encF y)] st2 = some (.loc (st3.length + 3), st3 ++ newCells C st3.length nm ⟨s.k + 2, s.facts, d ++ r, (.imp y c, .bind s.k y (.app p (.bind (s.k + 1) x (.name s.k)))) :: s.todo⟩) := by
      rw [meth_to H3 (x := eM C "without" (run C (m + 1) .Search_without) (eVar 0) (aCons (eVar 1) aNil)) (as := [encQ (.imp y c, .bind s.k y (.app p (.bind (s.k + 1) x (.name s.k))))]) (st2 := st3) wo rfl rfl]
      exact more_at m H3 [(.imp y c, .bind s.k y (.app p (.bind (s.k + 1) x (.name s.k))))] (by show s.todo.length + 1 ≤ 2000; omega) (by show 1 ≤ 5; decide)
    rw [sRet, eS, aCons, mo]
    have es' : run C (m + 1) .solve [.loc (st3.length + 3), encF (.imp x y)] (st3 ++ newCells C st3.length nm ⟨s.k + 2, s.facts, d ++ r, (.imp y c, .bind s.k y (.app p (.bind (s.k + 1) x (.name s.k)))) :: s.todo⟩) = some (encR res, st') := es
    have ag : ∀ (st5 : Store), aCons (eTup (aCons (eC (.str "to")) (aCons (eVar 9) (aCons (eVar 10) (aNil))))) aNil [some (.loc i), some (.int (d.length : Nat)), some (encF (.imp (.imp x y) c)), some (encP p), some (encP (.bind s.k y (.app p (.bind (s.k + 1) x (.name s.k))))), some (.str "to"), some (encF c), some (encN s.k), some (encN (s.k + 1)), some (encF x), some (encF y)] st5 = some ([encF (.imp x y)], st5) := fun _ => rfl
    simp only [ag, es']
  · have hl3 : st.length ≤ st3.length := by rw [← hst3, ← hst2]; simp
    refine ⟨Nat.le_trans hl3 P.len, P.nam, fun j hj hn h0 => ?_⟩
    rw [P.old j (by omega) hn h0, ← hst3, ← hst2, List.getElem?_append_left (by simpa using hj), set_ne (Ne.symm hn), set_ne (Ne.symm hn)]
end
end K07
end L3
end
section
set_option Elab.async false
set_option linter.all false
set_option maxRecDepth 100000
set_option maxHeartbeats 0
namespace L3
namespace K07
open PySem G
section
variable {C : Addr} {st : Store} {i nm f a t : Nat} {av : PV} {s : St} {env : EnvP}
theorem encTs_map (ts : List G.Tree) : encTs ts = ts.map encT := by
  induction ts with
  | nil => rfl
  | cons t ts ih => show encT t :: encTs ts = _; rw [ih]; rfl
theorem keys_at (l : List (Nm × Pg)) : keysS (encK l) = some (l.map (·.1.1)) := by
  induction l with
  | nil => rfl
  | cons q l ih =>
    show (match keysS (encK l) with | some ks => some (q.1.1 :: ks) | none => none) = _
    rw [ih]; rfl
theorem frz_at (H : Here C st i nm f (.loc a) t s) (b : FS) (e : EnvP) : ∃ stF, sFrzF 0 "arrows" b (some (.loc i) :: e) st = b (some (.loc i) :: e) stF ∧ Here C stF i nm f (.lst (s.arrows.map encQ)) t s ∧ Frame [i, a] st stF := by
  obtain ⟨n1, n2, n3, n4, n5⟩ := H.ne
  obtain ⟨m1, m2, m3, m4⟩ := H.nea
  refine ⟨(st.set a .dead).set i (.ins C (flds nm f (.lst (s.arrows.map encQ)) t)), ?_, ?_, (Frame.set (by simp)).trans (Frame.set (by simp))⟩
  · unfold sFrzF
    have hi := H.ins
    have ha := seqL_loc H.arr
    simp only [List.getElem?_cons_zero, icell, hi, lk_arrows, lcell, ha]
    rfl
  · have hi : (st.set a .dead)[i]? = some (.ins C (flds nm f (.loc a) t)) := by rw [set_ne m1.symm]; exact H.ins
    exact ⟨set_eq hi, by rw [set_ne n1, set_ne m3.symm]; exact H.nam, by rw [set_ne n2, set_ne m2.symm]; exact H.fac, rfl, by rw [set_ne n3, set_ne m4]; exact H.tod, H.nt, fun b e => nomatch e⟩
/-- the end of solve_open -/
def finO (C : Addr) : FS := sRet (eTup (aCons (eC (.str "world")) (aCons (eTup (aCons (eC (.str "world")) (aCons (eCall cTup (aCons (eCall cSrtD (aCons (eFld C "facts" (eVar 0)) (aNil))) (aNil))) (aCons (eCall cTup (aCons (eVar 2) (aNil))) (aNil))))) (aNil))))
theorem finO_at (H : Here C st i nm f av t s) (h64 : s.facts.length < 64) {L : Nat} {ts : List G.Tree} (hL : st[L]? = some (.lst (ts.map encT))) (w1 : Option PV) (e : EnvP) :
    finO C (some (.loc i) :: w1 :: some (.loc L) :: e) st = some (.ret (encR (.world (.node (srtS (s.facts.map (·.1.1))) ts))), some (.loc i) :: w1 :: some (.loc L) :: e, st) := by
  have hf : st[f]? = some (.dic (encK s.facts)) := H.fac
  have c1 : eCall cSrtD (aCons (eFld C "facts" (eVar 0)) aNil) (some (.loc i) :: w1 :: some (.loc L) :: e) st = some (.lst ((srtS (s.facts.map (·.1.1))).map .str), st) := by
    unfold eCall
    simp only [aCons, fld0 H lk_facts, aNil, cSrtD, dcell, hf, keys_at, List.length_map]
    rw [if_pos h64]
  have c2 : eCall cTup (aCons (eVar 2) aNil) (some (.loc i) :: w1 :: some (.loc L) :: e) st = some (.tup (ts.map encT), st) := by
    unfold eCall
    simp only [aCons, eVar, List.getElem?_cons_succ, List.getElem?_cons_zero, aNil, cTup, seqA, hL]
  have c3 : eCall cTup (aCons (eCall cSrtD (aCons (eFld C "facts" (eVar 0)) aNil)) aNil) (some (.loc i) :: w1 :: some (.loc L) :: e) st = some (.tup ((srtS (s.facts.map (·.1.1))).map .str), st) := by
    unfold eCall at c1 ⊢
    simp only [aCons] at c1 ⊢
    rw [c1]
    rfl
  unfold finO sRet eTup
  simp only [aCons, eC, eTup, c3, c2, aNil]
  show some (Fl.ret (.tup [.str "world", .tup [.str "world", .tup ((srtS (s.facts.map (·.1.1))).map .str), .tup (ts.map encT)]]), _, _) = _
  show _ = some (Fl.ret (.tup [.str "world", .tup [.str "world", .tup ((srtS (s.facts.map (·.1.1))).map .str), .tup (encTs ts)]]), _, _)
  rw [encTs_map]
def bodO (C : Addr) (n : Nat) : FS := sIf (tOf (eBin gEq (eBin gIx (eBin gIx (eVar 7) (eC (.int 1))) (eC (.int 0))) (eC (.str "to")))) (sSeq (sSet 6 (eS (run C n .solve_asked) (aCons (eVar 0) (aCons (eVar 3) (aCons (eVar 7) (aCons (eVar 8) (aNil))))))) (sSeq (sIf (tOf (eBin gEq (eBin gIx (eVar 6) (eC (.int 0))) (eC (.str "program")))) (sRet (eS (run C n .solve) (aCons (eM C "more" (run C n .Search_more) (eM C "without" (run C n .Search_without) (eVar 0) (aCons (eVar 3) (aNil))) (aCons (eTup (aCons (eBin gIx (eVar 7) (eC (.int 2))) (aCons (eTup (aCons (eC (.str "app")) (aCons (eVar 8) (aCons (eBin gIx (eVar 6) (eC (.int 1))) (aNil))))) (aNil)))) (aNil))) (aCons (eVar 1) (aNil))))) (sNx)) (sEx (eBM mAppend (eVar 2) (aCons (eBin gIx (eVar 6) (eC (.int 1))) (aNil)))))) (sNx)
def tgO : GT := tT 2 (tCons (tN 3) (tCons (tT 2 (tCons (tN 7) (tCons (tN 8) (tNil)))) (tNil)))
def items (r : List (Fm × Pg)) (n : Nat) : List PV := ((r.map encQ).zipIdx n).map fun q => .tup [.int (q.2 : Nat), q.1]
def AskOk (C : Addr) (n : Nat) (sv0 : Sv) : Prop := ∀ (st : Store) (i nm f : Nat) (av : PV) (t : Nat) (s : St) (d r : List (Fm × Pg)) (x y c : Fm) (p : Pg) (k : Nat) (res : Res), Here C st i nm f av t s → Imps s → s.todo.length + s.arrows.length ≤ 1000 → s.k + 2 ≤ lim → s.arrows = d ++ (.imp (.imp x y) c, p) :: r →
  sv0 ⟨s.k + 2, s.facts, d ++ r, (.imp y c, .bind s.k y (.app p (.bind (s.k + 1) x (.name s.k)))) :: s.todo⟩ (.imp x y) = some (k, res) → ∃ st', run C n .solve_asked [.loc i, .int (d.length : Nat), encF (.imp (.imp x y) c), encP p] st = some (encR res, st') ∧ Post st st' nm [] k
theorem loopO (m : Nat) {sv0 sv1 : Sv} (hA : AskOk C (m + 1) sv0) (h1 : MS C (m + 1) sv1) (s : St) (g : Fm) (I : Imps s) (hl : s.todo.length + s.arrows.length + s.facts.length ≤ 1000) (av : PV) (st0 : Store) (L : Nat) (hb : i < L ∧ nm < st0.length ∧ nm < L ∧ f < L ∧ t < L ∧ (∀ b, av = .loc b → b < L) ∧ st0.length ≤ L) :
    ∀ (r d : List (Fm × Pg)) (k : Nat) (ts : List G.Tree) (st : Store) (e3 e4 e5 e6 e7 e8 : Option PV) (k' : Nat) (res : Res), s.arrows = d ++ r → Here C st i nm f av t { s with k := k } → st[L]? = some (.lst (ts.map encT)) → ts.length + r.length ≤ 1010 → Post st0 st nm [] k → arrLoop sv0 sv1 s g k d r ts = some (k', res) →
      ∃ env' st', (match loop tgO (bodO C (m + 1)) (items r d.length) [some (.loc i), some (encF g), some (.loc L), e3, e4, e5, e6, e7, e8] st with
        | some (.nx, env1, st1) => finO C env1 st1
        | r => r) = some (.ret (encR res), env', st') ∧ Post st0 st' nm [] k'
  | [], d, k, ts, st, e3, e4, e5, e6, e7, e8, k', res, hd, H, hL, hn, P, h => by
    unfold arrLoop at h
    split at h
    rotate_left
    · cases h
    rename_i h64
    cases h
    have := finO_at H h64 hL (some (encF g)) [e3, e4, e5, e6, e7, e8]
    exact ⟨_, st, this, P⟩
  | q :: r, d, k, ts, st, e3, e4, e5, e6, e7, e8, k', res, hd, H, hL, hn, P, h => by
    have hq : q ∈ s.arrows := by rw [hd]; simp
    obtain ⟨A, c, hA'⟩ := imp_at (I q hq)
    obtain ⟨B, p⟩ := q
    have hB : B = .imp A c := hA'
    subst hB
    have hd' : s.arrows = (d ++ [(.imp A c, p)]) ++ r := by rw [hd]; simp
    have it : items ((.imp A c, p) :: r) d.length = .tup [.int (d.length : Nat), encQ (.imp A c, p)] :: items r (d ++ [(Fm.imp A c, p)]).length := by
      unfold items
      rw [List.map_cons, List.zipIdx_cons, List.map_cons, List.length_append, List.length_singleton]
    have tg : tgO (.tup [.int (d.length : Nat), encQ (.imp A c, p)]) [some (.loc i), some (encF g), some (.loc L), e3, e4, e5, e6, e7, e8] = some [some (.loc i), some (encF g), some (.loc L), some (.int (d.length : Nat)), e4, e5, e6, some (encF (.imp A c)), some (encP p)] := rfl
    have test : ∀ (w6 : Option PV) (st1 : Store), tOf (eBin gEq (eBin gIx (eBin gIx (eVar 7) (eC (.int 1))) (eC (.int 0))) (eC (.str "to"))) [some (.loc i), some (encF g), some (.loc L), some (.int (d.length : Nat)), e4, e5, w6, some (encF (.imp A c)), some (encP p)] st1 = some (decide (tagF A = "to"), st1) := fun w6 st1 => by
      obtain ⟨rr, e⟩ := encF_tag A
      have i1 : gIx (encF (.imp A c)) (.int 1) st1 = some (encF A, st1) := ix1 _ _ _
      have i0 : gIx (encF A) (.int 0) st1 = some (.str (tagF A), st1) := by rw [e]; exact ix0 _ _
      unfold tOf eBin eVar eC
      simp only [List.getElem?_cons_succ, List.getElem?_cons_zero, eBin, i1, i0, eqS_at (tagF A) "to" (tag_ok A) (by decide +kernel)]
    have skip : tagF A ≠ "to" → arrLoop sv0 sv1 s g k d ((.imp A c, p) :: r) ts = arrLoop sv0 sv1 s g k (d ++ [(.imp A c, p)]) r ts → ∃ env' st', (match loop tgO (bodO C (m + 1)) (items ((.imp A c, p) :: r) d.length) [some (.loc i), some (encF g), some (.loc L), e3, e4, e5, e6, e7, e8] st with
        | some (.nx, env1, st1) => finO C env1 st1
        | r => r) = some (.ret (encR res), env', st') ∧ Post st0 st' nm [] k' := fun hne heq => by
      rw [heq] at h
      obtain ⟨env', st', e1, P'⟩ := loopO m hA h1 s g I hl av st0 L hb r (d ++ [(.imp A c, p)]) k ts st (some (.int (d.length : Nat))) e4 e5 e6 (some (encF (.imp A c))) (some (encP p)) k' res hd' H hL (by simp at hn ⊢; omega) P h
      refine ⟨env', st', ?_, P'⟩
      have bd : bodO C (m + 1) [some (.loc i), some (encF g), some (.loc L), some (.int (d.length : Nat)), e4, e5, e6, some (encF (.imp A c)), some (encP p)] st = some (.nx, [some (.loc i), some (encF g), some (.loc L), some (.int (d.length : Nat)), e4, e5, e6, some (encF (.imp A c)), some (encP p)], st) := by
        unfold bodO
        rw [sIf, test, decide_eq_false hne]
        rfl
      rw [it]
      simp only [loop, tg, bd]
      exact e1
    cases A with
    | imp x y =>
      unfold arrLoop at h
      split at h
      rotate_left
      · cases h
      rename_i hk
      cases h0 : sv0 ⟨k + 2, s.facts, d ++ r, (.imp y c, .bind k y (.app p (.bind (k + 1) x (.name k)))) :: s.todo⟩ (.imp x y) with
      | none => rw [h0] at h; cases h
      | some kr =>
        obtain ⟨k1, r1⟩ := kr
        rw [h0] at h
        obtain ⟨st1, ea, Pa⟩ := hA st i nm f av t { s with k := k } d r x y c p k1 r1 H I (by show s.todo.length + s.arrows.length ≤ 1000; omega) hk hd h0
        have H1 := Post.here H Pa
        have P1 : Post st0 st1 nm [] k1 := P.trans Pa
        have hL1 : st1[L]? = some (.lst (ts.map encT)) := by
          rw [Pa.old L (List.getElem?_eq_some_iff.mp hL).1 (by omega) (by simp)]; exact hL
        have s6 : sSet 6 (eS (run C (m + 1) .solve_asked) (aCons (eVar 0) (aCons (eVar 3) (aCons (eVar 7) (aCons (eVar 8) (aNil)))))) [some (.loc i), some (encF g), some (.loc L), some (.int (d.length : Nat)), e4, e5, e6, some (encF (.imp (.imp x y) c)), some (encP p)] st = some (.nx, [some (.loc i), some (encF g), some (.loc L), some (.int (d.length : Nat)), e4, e5, some (encR r1), some (encF (.imp (.imp x y) c)), some (encP p)], st1) := by
          have e0 : eS (run C (m + 1) .solve_asked) (aCons (eVar 0) (aCons (eVar 3) (aCons (eVar 7) (aCons (eVar 8) (aNil))))) [some (.loc i), some (encF g), some (.loc L), some (.int (d.length : Nat)), e4, e5, e6, some (encF (.imp (.imp x y) c)), some (encP p)] st = run C (m + 1) .solve_asked [.loc i, .int (d.length : Nat), encF (.imp (.imp x y) c), encP p] st := rfl
          rw [sSet, e0, ea]
          rfl
        have tp := toldP_at (st := st1) (env := [some (.loc i), some (encF g), some (.loc L), some (.int (d.length : Nat)), e4, e5, some (encR r1), some (encF (.imp (.imp x y) c)), some (encP p)]) (k := 6) (r := r1) rfl
        have bd0 : bodO C (m + 1) [some (.loc i), some (encF g), some (.loc L), some (.int (d.length : Nat)), e4, e5, e6, some (encF (.imp (.imp x y) c)), some (encP p)] st = (sSeq (sIf (tOf (eBin gEq (eBin gIx (eVar 6) (eC (.int 0))) (eC (.str "program")))) (sRet (eS (run C (m + 1) .solve) (aCons (eM C "more" (run C (m + 1) .Search_more) (eM C "without" (run C (m + 1) .Search_without) (eVar 0) (aCons (eVar 3) (aNil))) (aCons (eTup (aCons (eBin gIx (eVar 7) (eC (.int 2))) (aCons (eTup (aCons (eC (.str "app")) (aCons (eVar 8) (aCons (eBin gIx (eVar 6) (eC (.int 1))) (aNil))))) (aNil)))) (aNil))) (aCons (eVar 1) (aNil))))) (sNx)) (sEx (eBM mAppend (eVar 2) (aCons (eBin gIx (eVar 6) (eC (.int 1))) (aNil))))) [some (.loc i), some (encF g), some (.loc L), some (.int (d.length : Nat)), e4, e5, some (encR r1), some (encF (.imp (.imp x y) c)), some (encP p)] st1 := by
          unfold bodO
          rw [sIf, test, show decide (tagF (.imp x y) = "to") = true from (show decide (("to" : Str) = "to") = true by decide +kernel)]
          simp only
          rw [sSeq, s6]
        cases r1 with
        | world t1 =>
          have ap := app_loc (env := [some (.loc i), some (encF g), some (.loc L), some (.int (d.length : Nat)), e4, e5, some (encR (.world t1)), some (encF (.imp (.imp x y) c)), some (encP p)]) (x := eVar 2) (y := aCons (eBin gIx (eVar 6) (eC (.int 1))) aNil) (v := encT t1) rfl hL1 (by simp at hn ⊢; omega) rfl
          have H2 : Here C (st1.set L (.lst (ts.map encT ++ [encT t1]))) i nm f av t { s with k := k1 } := H1.setG ⟨hb.1, hb.2.2.1, hb.2.2.2.1, hb.2.2.2.2.1, hb.2.2.2.2.2.1⟩
          obtain ⟨env', st', e1, P'⟩ := loopO m hA h1 s g I hl av st0 L hb r (d ++ [(.imp (.imp x y) c, p)]) k1 (ts ++ [t1]) (st1.set L (.lst (ts.map encT ++ [encT t1]))) (some (.int (d.length : Nat))) e4 e5 (some (encR (.world t1))) (some (encF (.imp (.imp x y) c))) (some (encP p)) k' res hd' H2 (by rw [set_eq hL1]; simp) (by simp at hn ⊢; omega) (P1.put hb.2.2.2.2.2.2 hb.2.1) h
          refine ⟨env', st', ?_, P'⟩
          rw [sSeq, sIf, tp] at bd0
          simp only [sNx, sEx, ap] at bd0
          rw [it]
          simp only [loop, tg, bd0]
          exact e1
        | prog q1 =>
          have wo : eM C "without" (run C (m + 1) .Search_without) (eVar 0) (aCons (eVar 3) aNil) [some (.loc i), some (encF g), some (.loc L), some (.int (d.length : Nat)), e4, e5, some (encR (.prog q1)), some (encF (.imp (.imp x y) c)), some (encP p)] st1 = some (.loc (st1.length + 3), st1 ++ newCells C st1.length nm ⟨k1, s.facts, d ++ r, s.todo⟩) := by
            rw [meth_at H1 (env := [some (.loc i), some (encF g), some (.loc L), some (.int (d.length : Nat)), e4, e5, some (encR (.prog q1)), some (encF (.imp (.imp x y) c)), some (encP p)]) (as := [.int (d.length : Nat)]) (st2 := st1) rfl rfl rfl]
            exact without_at m H1 d r _ hd (by show s.arrows.length ≤ 2000; omega)
          have H3 := here_new H1 ⟨k1, s.facts, d ++ r, s.todo⟩ rfl
          have I3 : Imps ⟨k1, s.facts, d ++ r, s.todo⟩ := fun q hq => I q (by
            rw [hd]
            rcases List.mem_append.mp hq with h1 | h1
            · exact List.mem_append_left _ h1
            · exact List.mem_append_right _ (List.mem_cons_of_mem _ h1))
          obtain ⟨st', es, Ps⟩ := sub_more (m := m) h1 H3 I3 [(c, .app p q1)] (g := g) (k := k') (r := res) h
          have mo : eM C "more" (run C (m + 1) .Search_more) (eM C "without" (run C (m + 1) .Search_without) (eVar 0) (aCons (eVar 3) (aNil))) (aCons (eTup (aCons (eBin gIx (eVar 7) (eC (.int 2))) (aCons (eTup (aCons (eC (.str "app")) (aCons (eVar 8) (aCons (eBin gIx (eVar 6) (eC (.int 1))) (aNil))))) (aNil)))) (aNil)) [some (.loc i), some (encF g), some (.loc L), some (.int (d.length : Nat)), e4, e5, some (encR (.prog q1)), some (encF (.imp (.imp x y) c)), some (encP p)] st1 = some (.loc ((st1 ++ newCells C st1.length nm ⟨k1, s.facts, d ++ r, s.todo⟩).length + 3), (st1 ++ newCells C st1.length nm ⟨k1, s.facts, d ++ r, s.todo⟩) ++ newCells C (st1 ++ newCells C st1.length nm ⟨k1, s.facts, d ++ r, s.todo⟩).length nm ⟨k1, s.facts, d ++ r, (c, .app p q1) :: s.todo⟩) := by
            rw [meth_to H3 (as := [encQ (c, .app p q1)]) (st2 := st1 ++ newCells C st1.length nm ⟨k1, s.facts, d ++ r, s.todo⟩) wo rfl rfl]
            exact more_at m H3 [(c, .app p q1)] (by show s.todo.length + 1 ≤ 2000; omega) (by show 1 ≤ 5; decide)
          have es' : run C (m + 1) .solve [.loc ((st1 ++ newCells C st1.length nm ⟨k1, s.facts, d ++ r, s.todo⟩).length + 3), encF g] ((st1 ++ newCells C st1.length nm ⟨k1, s.facts, d ++ r, s.todo⟩) ++ newCells C (st1 ++ newCells C st1.length nm ⟨k1, s.facts, d ++ r, s.todo⟩).length nm ⟨k1, s.facts, d ++ r, (c, .app p q1) :: s.todo⟩) = some (encR res, st') := es
          have ret : sRet (eS (run C (m + 1) .solve) (aCons (eM C "more" (run C (m + 1) .Search_more) (eM C "without" (run C (m + 1) .Search_without) (eVar 0) (aCons (eVar 3) (aNil))) (aCons (eTup (aCons (eBin gIx (eVar 7) (eC (.int 2))) (aCons (eTup (aCons (eC (.str "app")) (aCons (eVar 8) (aCons (eBin gIx (eVar 6) (eC (.int 1))) (aNil))))) (aNil)))) (aNil))) (aCons (eVar 1) (aNil)))) [some (.loc i), some (encF g), some (.loc L), some (.int (d.length : Nat)), e4, e5, some (encR (.prog q1)), some (encF (.imp (.imp x y) c)), some (encP p)] st1 = some (.ret (encR res), [some (.loc i), some (encF g), some (.loc L), some (.int (d.length : Nat)), e4, e5, some (encR (.prog q1)), some (encF (.imp (.imp x y) c)), some (encP p)], st') := by
            rw [sRet, eS, aCons, mo]
            simp only [aCons, eVar, List.getElem?_cons_succ, List.getElem?_cons_zero, aNil, es']
          refine ⟨[some (.loc i), some (encF g), some (.loc L), some (.int (d.length : Nat)), e4, e5, some (encR (.prog q1)), some (encF (.imp (.imp x y) c)), some (encP p)], st', ?_, P1.trans Ps.grow⟩
          rw [sSeq, sIf, tp] at bd0
          simp only [ret] at bd0
          rw [it]
          simp only [loop, tg, bd0]
    | bot => exact skip (show ("false" : Str) ≠ "to" by decide +kernel) rfl
    | atom x => exact skip (show ("atom" : Str) ≠ "to" by decide +kernel) rfl
    | and x y => exact skip (show ("and" : Str) ≠ "to" by decide +kernel) rfl
    | or x y => exact skip (show ("or" : Str) ≠ "to" by decide +kernel) rfl
end
end K07
end L3
end
section
set_option Elab.async false
set_option linter.all false
set_option maxRecDepth 100000
set_option maxHeartbeats 0
namespace L3
namespace K07
open PySem G
section
variable {C : Addr} {st : Store} {i nm f a t : Nat} {av : PV} {s : St} {env : EnvP}
def bodS (C : Addr) (n : Nat) : FS := sSeq (sSet 6 (eS (run C n .solve) (aCons (eM C "more" (run C n .Search_more) (eVar 0) aNil) (aCons (eVar 5) (aNil))))) (sSeq (sIf (tOf (eBin gEq (eBin gIx (eVar 6) (eC (.int 0))) (eC (.str "program")))) (sRet (eTup (aCons (eC (.str "program")) (aCons (eTup (aCons (eVar 4) (aCons (eVar 1) (aCons (eBin gIx (eVar 6) (eC (.int 1))) (aNil))))) (aNil))))) (sNx)) (sEx (eBM mAppend (eVar 2) (aCons (eBin gIx (eVar 6) (eC (.int 1))) (aNil)))))
theorem bodS_at (m : Nat) {fn : Sv} (hs : MS C (m + 1) fn) (H : Here C st i nm f av t s) (I : Imps s) (hl : s.todo.length ≤ 1000) {x : Fm} {w : Str} {gv : PV} {L : Nat} {xs : List PV} (hL : st[L]? = some (.lst xs)) (hLb : nm < L) (hxs : xs.length ≤ 10) {e3 e6 e7 e8 : Option PV} {k : Nat} {r : Res} (h : fn s x = some (k, r)) :
    ∃ st', (match r with
      | .prog p1 => bodS C (m + 1) [some (.loc i), some gv, some (.loc L), e3, some (.str w), some (encF x), e6, e7, e8] st = some (.ret (.tup [.str "program", .tup [.str w, gv, encP p1]]), [some (.loc i), some gv, some (.loc L), e3, some (.str w), some (encF x), some (encR r), e7, e8], st') ∧ Post st st' nm [] k
      | .world t1 => ∃ st2, Post st st2 nm [] k ∧ st' = st2.set L (.lst (xs ++ [encT t1])) ∧ st2[L]? = some (.lst xs) ∧ bodS C (m + 1) [some (.loc i), some gv, some (.loc L), e3, some (.str w), some (encF x), e6, e7, e8] st = some (.nx, [some (.loc i), some gv, some (.loc L), e3, some (.str w), some (encF x), some (encR r), e7, e8], st')) := by
  obtain ⟨st2, es, P⟩ := sub_more (m := m) hs H I [] (g := x) (k := k) (r := r) h
  have hL2 : st2[L]? = some (.lst xs) := by
    have hLlt := (List.getElem?_eq_some_iff.mp hL).1
    rw [P.old L hLlt (by omega) (by simp)]; exact hL
  have mo := more0_ev m H hl [some gv, some (.loc L), e3, some (.str w), some (encF x), e6, e7, e8]
  have step : bodS C (m + 1) [some (.loc i), some gv, some (.loc L), e3, some (.str w), some (encF x), e6, e7, e8] st = sSeq (sIf (tOf (eBin gEq (eBin gIx (eVar 6) (eC (.int 0))) (eC (.str "program")))) (sRet (eTup (aCons (eC (.str "program")) (aCons (eTup (aCons (eVar 4) (aCons (eVar 1) (aCons (eBin gIx (eVar 6) (eC (.int 1))) (aNil))))) (aNil))))) (sNx)) (sEx (eBM mAppend (eVar 2) (aCons (eBin gIx (eVar 6) (eC (.int 1))) (aNil)))) [some (.loc i), some gv, some (.loc L), e3, some (.str w), some (encF x), some (encR r), e7, e8] st2 := by
    unfold bodS
    rw [sSeq, sSet, eS, aCons, mo]
    simp only [aCons, eVar, List.getElem?_cons_succ, List.getElem?_cons_zero, aNil]
    have es' : run C (m + 1) .solve [.loc (st.length + 3), encF x] (st ++ newCells C st.length nm s) = some (encR r, st2) := es
    rw [es']
    rfl
  have tw := toldP_at (st := st2) (env := [some (.loc i), some gv, some (.loc L), e3, some (.str w), some (encF x), some (encR r), e7, e8]) (k := 6) (r := r) rfl
  cases r with
  | prog p1 =>
    refine ⟨st2, ?_, P⟩
    rw [step, sSeq, sIf, tw]
    rfl
  | world t1 =>
    refine ⟨st2.set L (.lst (xs ++ [encT t1])), st2, P, rfl, hL2, ?_⟩
    rw [step, sSeq, sIf, tw]
    simp only [sNx, sEx]
    rw [app_loc (n := L) (xs := xs) (v := encT t1) rfl hL2 (by omega) rfl]
theorem items0 (l : List (Fm × Pg)) : enumP (l.map encQ) = items l 0 := rfl
theorem solve_open_at (m : Nat) {sv0 sv1 : Sv} (hA : AskOk C (m + 1) sv0) (h1 : MS C (m + 1) sv1) (H : Here C st i nm f (.loc a) t s) (I : Imps s) (hl : s.todo.length + s.arrows.length + s.facts.length ≤ 1000) {g : Fm} {k : Nat} {r : Res} (h : openG sv0 sv1 s g = some (k, r)) :
    ∃ st', run C (m + 2) .solve_open [.loc i, encF g] st = some (encR r, st') ∧ Post st st' nm [i, a] k := by
  show ∃ st', fnS 2 7 (b_solve_open (run C (m + 1)) C (m + 1)) _ _ = _ ∧ _
  unfold fnS b_solve_open
  simp only [List.length_cons, List.length_nil, if_true, List.map_cons, List.map_nil]
  show ∃ st', (match (sFrzF 0 "arrows" _ (some (.loc i) :: [some (encF g), none, none, none, none, none, none, none]) st) with | some (.ret v, _, st') => some (v, st') | some (.nx, _, st') => some (.non, st') | _ => none) = some (encR r, st') ∧ _
  obtain ⟨stF, ef, HF, fF⟩ := frz_at H (sSeq (sSet 2 (eLstM (aNil))) (sSeq (sIf (tOf (eBin gEq (eBin gIx (eVar 1) (eC (.int 0))) (eC (.str "or")))) (sFor (iSeq (eTup (aCons (eTup (aCons (eC (.str "left")) (aCons (eBin gIx (eVar 1) (eC (.int 1))) (aNil)))) (aCons (eTup (aCons (eC (.str "right")) (aCons (eBin gIx (eVar 1) (eC (.int 2))) (aNil)))) (aNil))))) (tT 2 (tCons (tN 4) (tCons (tN 5) (tNil)))) (bodS C (m + 1))) (sNx)) (sSeq (sFor (iEnm (aCons (eFld C "arrows" (eVar 0)) (aNil))) tgO (bodO C (m + 1))) (finO C)))) [some (encF g), none, none, none, none, none, none, none]
  have ef' := ef
  unfold bodS bodO tgO finO at ef'
  rw [ef']
  clear ef ef'
  -- from here on over stF
  have lF : stF.length = st.length := fF.1
  have toSt : ∀ {st' : Store} {k : Nat}, Post stF st' nm [] k → Post st st' nm [i, a] k := fun {st' k} P => ⟨by have := P.len; omega, P.nam, fun j hj hn h0 => by rw [P.old j (by omega) hn (by simp), fF.2 j h0]⟩
  suffices hmain : ∃ env' st', (sSeq (sSet 2 (eLstM (aNil))) (sSeq (sIf (tOf (eBin gEq (eBin gIx (eVar 1) (eC (.int 0))) (eC (.str "or")))) (sFor (iSeq (eTup (aCons (eTup (aCons (eC (.str "left")) (aCons (eBin gIx (eVar 1) (eC (.int 1))) (aNil)))) (aCons (eTup (aCons (eC (.str "right")) (aCons (eBin gIx (eVar 1) (eC (.int 2))) (aNil)))) (aNil))))) (tT 2 (tCons (tN 4) (tCons (tN 5) (tNil)))) (bodS C (m + 1))) (sNx)) (sSeq (sFor (iEnm (aCons (eFld C "arrows" (eVar 0)) (aNil))) tgO (bodO C (m + 1))) (finO C)))) [some (.loc i), some (encF g), none, none, none, none, none, none, none] stF = some (.ret (encR r), env', st') ∧ Post stF st' nm [] k by
    obtain ⟨env', st', e1, P⟩ := hmain
    refine ⟨st', ?_, toSt P⟩
    unfold bodS bodO tgO finO at e1
    rw [e1]
  obtain ⟨b1, b2, b3, b4, b5⟩ := HF.lts
  have H0 := HF.grow [.lst []]
  have hL0 : (stF ++ [Cell.lst []])[stF.length]? = some (.lst []) := by simp
  have l0 : sSet 2 (eLstM aNil) [some (.loc i), some (encF g), none, none, none, none, none, none, none] stF = some (.nx, [some (.loc i), some (encF g), some (.loc stF.length), none, none, none, none, none, none], stF ++ [.lst []]) := rfl
  have hb : i < stF.length ∧ nm < stF.length ∧ nm < stF.length ∧ f < stF.length ∧ t < stF.length ∧ (∀ b, (PV.lst (s.arrows.map encQ)) = .loc b → b < stF.length) ∧ stF.length ≤ stF.length := ⟨b1, b2, b2, b3, b4, (fun b e => nomatch e), Nat.le_refl _⟩
  have hgj : i < stF.length ∧ nm < stF.length ∧ f < stF.length ∧ t < stF.length ∧ ∀ b, (PV.lst (s.arrows.map encQ)) = .loc b → b < stF.length := ⟨b1, b2, b3, b4, (fun b e => nomatch e)⟩
  have P0 : Post stF (stF ++ [.lst []]) nm [] s.k := ⟨by simp, H0.nam, fun j hj _ _ => List.getElem?_append_left hj⟩
  -- the second loop
  have second : ∀ (st1 : Store) (k1 : Nat) (ts : List G.Tree) (e4 e5 e6 : Option PV), Here C st1 i nm f (.lst (s.arrows.map encQ)) t { s with k := k1 } → st1[stF.length]? = some (.lst (ts.map encT)) → ts.length ≤ 5 → Post stF st1 nm [] k1 → arrLoop sv0 sv1 s g k1 [] s.arrows ts = some (k, r) →
      ∃ env' st', sSeq (sFor (iEnm (aCons (eFld C "arrows" (eVar 0)) (aNil))) tgO (bodO C (m + 1))) (finO C) [some (.loc i), some (encF g), some (.loc stF.length), none, e4, e5, e6, none, none] st1 = some (.ret (encR r), env', st') ∧ Post stF st' nm [] k := fun st1 k1 ts e4 e5 e6 H1 hL1 hts P1 hh => by
    obtain ⟨env', st', e1, P⟩ := loopO m hA h1 s g I hl (.lst (s.arrows.map encQ)) stF stF.length hb s.arrows [] k1 ts st1 none e4 e5 e6 none none k r rfl H1 hL1 (by omega) P1 hh
    refine ⟨env', st', ?_, P⟩
    have ie : iEnm (aCons (eFld C "arrows" (eVar 0)) aNil) [some (.loc i), some (encF g), some (.loc stF.length), none, e4, e5, e6, none, none] st1 = some (items s.arrows 0, st1) := by
      unfold iEnm
      simp only [aCons, fld0 H1 lk_arrows, aNil]
      rfl
    rw [sSeq, sFor, ie]
    exact e1
  have tg := test_tag (st := stF ++ [.lst []]) (env := [some (.loc i), some (encF g), some (.loc stF.length), none, none, none, none, none, none]) (k := 1) (A := g) rfl "or" (by decide +kernel)
  have plain : tagF g ≠ "or" → openG sv0 sv1 s g = arrLoop sv0 sv1 s g s.k [] s.arrows [] → ∃ env' st', (sSeq (sSet 2 (eLstM (aNil))) (sSeq (sIf (tOf (eBin gEq (eBin gIx (eVar 1) (eC (.int 0))) (eC (.str "or")))) (sFor (iSeq (eTup (aCons (eTup (aCons (eC (.str "left")) (aCons (eBin gIx (eVar 1) (eC (.int 1))) (aNil)))) (aCons (eTup (aCons (eC (.str "right")) (aCons (eBin gIx (eVar 1) (eC (.int 2))) (aNil)))) (aNil))))) (tT 2 (tCons (tN 4) (tCons (tN 5) (tNil)))) (bodS C (m + 1))) (sNx)) (sSeq (sFor (iEnm (aCons (eFld C "arrows" (eVar 0)) (aNil))) tgO (bodO C (m + 1))) (finO C)))) [some (.loc i), some (encF g), none, none, none, none, none, none, none] stF = some (.ret (encR r), env', st') ∧ Post stF st' nm [] k := fun hne heq => by
    rw [heq] at h
    obtain ⟨env', st', e1, P⟩ := second _ s.k [] none none none H0 hL0 (by decide) P0 h
    refine ⟨env', st', ?_, P⟩
    rw [sSeq, l0]
    simp only
    rw [sSeq, sIf, tg, decide_eq_false hne]
    exact e1
  cases g with
  | bot => exact plain (show ("false" : Str) ≠ "or" by decide +kernel) rfl
  | atom x => exact plain (show ("atom" : Str) ≠ "or" by decide +kernel) rfl
  | and x y => exact plain (show ("and" : Str) ≠ "or" by decide +kernel) rfl
  | imp x y => exact plain (show ("to" : Str) ≠ "or" by decide +kernel) rfl
  | or x y =>
    unfold openG at h
    simp only at h
    have it : iSeq (eTup (aCons (eTup (aCons (eC (.str "left")) (aCons (eBin gIx (eVar 1) (eC (.int 1))) (aNil)))) (aCons (eTup (aCons (eC (.str "right")) (aCons (eBin gIx (eVar 1) (eC (.int 2))) (aNil)))) (aNil)))) [some (.loc i), some (encF (.or x y)), some (.loc stF.length), none, none, none, none, none, none] (stF ++ [.lst []]) = some ([.tup [.str "left", encF x], .tup [.str "right", encF y]], stF ++ [.lst []]) := rfl
    have tn : ∀ (w : Str) (v : Fm) (w3 w4 w5 w6 w7 w8 : Option PV), tT 2 (tCons (tN 4) (tCons (tN 5) tNil)) (.tup [.str w, encF v]) [some (.loc i), some (encF (.or x y)), some (.loc stF.length), w3, w4, w5, w6, w7, w8] = some [some (.loc i), some (encF (.or x y)), some (.loc stF.length), w3, some (.str w), some (encF v), w6, w7, w8] := fun _ _ _ _ _ _ _ _ => rfl
    have tg' : tOf (eBin gEq (eBin gIx (eVar 1) (eC (.int 0))) (eC (.str "or"))) [some (.loc i), some (encF (.or x y)), some (.loc stF.length), none, none, none, none, none, none] (stF ++ [.lst []]) = some (true, stF ++ [.lst []]) := by
      rw [tg]
      rw [show decide (tagF (.or x y) = "or") = true from (show decide (("or" : Str) = "or") = true by decide +kernel)]
    cases hx : sv1 s x with
    | none => rw [hx] at h; cases h
    | some kr =>
      obtain ⟨k1, r1⟩ := kr
      rw [hx] at h
      obtain ⟨sa, oa⟩ := bodS_at m h1 H0 I (by omega) (w := "left") (gv := encF (.or x y)) hL0 b2 (by show 0 ≤ 10; decide) (e3 := none) (e6 := none) (e7 := none) (e8 := none) hx
      cases r1 with
      | prog p1 =>
        cases h
        obtain ⟨ea, Pa⟩ := oa
        refine ⟨[some (.loc i), some (encF (.or x y)), some (.loc stF.length), none, some (.str "left"), some (encF x), some (encR (.prog p1)), none, none], sa, ?_, P0.trans Pa⟩
        rw [sSeq, l0]
        simp only
        rw [sSeq, sIf, tg']
        simp only
        rw [sFor, it]
        simp only [loop, tn, ea]
        rfl
      | world t1 =>
        simp only at h
        obtain ⟨s2, P2, rfl, hL2, ea⟩ := oa
        have H2 := Post.here H0 P2
        have H3 := H2.setG (j := stF.length) (c := .lst ([] ++ [encT t1])) hgj
        have hL3 : (s2.set stF.length (.lst ([] ++ [encT t1])))[stF.length]? = some (.lst [encT t1]) := set_eq hL2
        have P3 : Post stF (s2.set stF.length (.lst ([] ++ [encT t1]))) nm [] k1 := (P0.trans P2).put (Nat.le_refl _) b2
        cases hy : sv1 { s with k := k1 } y with
        | none => rw [hy] at h; cases h
        | some kr2 =>
          obtain ⟨k2, r2⟩ := kr2
          rw [hy] at h
          obtain ⟨sb, ob⟩ := bodS_at m h1 H3 I (by show s.todo.length ≤ 1000; omega) (w := "right") (gv := encF (.or x y)) hL3 b2 (by show 1 ≤ 10; decide) (e3 := none) (e6 := some (encR (.world t1))) (e7 := none) (e8 := none) hy
          cases r2 with
          | prog p2 =>
            cases h
            obtain ⟨eb, Pb⟩ := ob
            refine ⟨[some (.loc i), some (encF (.or x y)), some (.loc stF.length), none, some (.str "right"), some (encF y), some (encR (.prog p2)), none, none], sb, ?_, P3.trans Pb⟩
            rw [sSeq, l0]
            simp only
            rw [sSeq, sIf, tg']
            simp only
            rw [sFor, it]
            simp only [loop, tn, ea]
            rw [eb]
            rfl
          | world t2 =>
            simp only at h
            obtain ⟨s4, P4, rfl, hL4, eb⟩ := ob
            have H4 := Post.here H3 P4
            have H5 := H4.setG (j := stF.length) (c := .lst ([encT t1] ++ [encT t2])) hgj
            have hL5 : (s4.set stF.length (.lst ([encT t1] ++ [encT t2])))[stF.length]? = some (.lst ([t1, t2].map encT)) := set_eq hL4
            obtain ⟨env', st', e1, P⟩ := second _ k2 [t1, t2] (some (.str "right")) (some (encF y)) (some (encR (.world t2))) H5 hL5 (by show 2 ≤ 5; decide) ((P3.trans P4).put (Nat.le_refl _) b2) h
            refine ⟨env', st', ?_, P⟩
            rw [sSeq, l0]
            simp only
            rw [sSeq, sIf, tg']
            simp only
            rw [sFor, it]
            simp only [loop, tn, ea]
            rw [eb]
            simp only
            exact e1
end
end K07
end L3
end
section
set_option Elab.async false
set_option linter.all false
set_option maxRecDepth 100000
set_option maxHeartbeats 0
namespace L3
namespace K07
open PySem G
section
variable {C : Addr} {st : Store} {i nm f a t : Nat} {av : PV} {s : St} {env : EnvP}
theorem Frame.post {st1 st2 : Store} {k : Nat} {js ks : List Nat} (F : Frame (nm :: js) st st1) (P : Post st1 st2 nm ks k) (h1 : ∀ j ∈ js, j ∈ ks ∨ True) (hs : List Nat) (hj : ∀ j ∈ js, j ∈ hs) (hk : ∀ j ∈ ks, j ∈ hs) : Post st st2 nm hs k :=
  ⟨by have := P.len; rw [F.1] at this; exact this, P.nam, fun j hl hn hh => by
    rw [P.old j (by rw [F.1]; exact hl) hn (fun m => hh (hk j m)), F.2 j (fun m => by
      rcases List.mem_cons.mp m with e | e
      · exact hn e
      · exact hh (hj j e))]⟩
theorem ask_ok {n : Nat} (h : ∀ m, m + 1 = n → MS C (m + 1) (sv n)) : AskOk C (n + 1) (sv n) := by
  intro st i nm f av t s d r x y c p k res H I hl hk hd e
  cases n with
  | zero => cases e
  | succ m => exact solve_asked_at m (h m rfl) H I hl hk hd e
def wrapR (k : Nat) (x : Fm) : Res → Res
  | .prog p => .prog (.bind k x p)
  | .world t => .world t
theorem tag_ne {g : Fm} {y : Str} (h : tagF g ≠ y) : decide (tagF g = y) = false := decide_eq_false h
theorem MS_all (C : Addr) : ∀ n : Nat, MS C n (sv n) := by
  intro n
  induction n using Nat.strongRecOn with
  | _ n ih =>
  match n, ih with
  | 0, _ => exact fun _ _ _ _ _ _ _ _ _ _ _ _ h => nomatch h
  | 1, _ => exact fun _ _ _ _ _ _ _ _ _ _ _ _ h => nomatch h
  | 2, _ => exact fun _ _ _ _ _ _ _ _ _ _ _ _ h => nomatch h
  | n + 3, ih =>
    intro st i nm f a t s g k r H I h
    have M0 : ∀ m, m + 1 = n → MS C (m + 1) (sv n) := fun m e => by subst e; exact ih (m + 1) (by omega)
    have M1 : MS C (n + 1) (sv (n + 1)) := ih (n + 1) (by omega)
    have M2 : MS C (n + 2) (sv (n + 2)) := ih (n + 2) (by omega)
    have A0 : AskOk C (n + 1) (sv n) := ask_ok M0
    unfold sv at h
    cases hp : pump 100000 s with
    | none => rw [hp] at h; cases h
    | some rp =>
      rw [hp] at h
      have pm := pumpM n g 100000 s rp st none none none hp H I
      show ∃ st', fnS 2 5 (b_solve (run C (n + 2)) C (n + 2)) _ _ = _ ∧ _
      unfold fnS b_solve
      simp only [List.length_cons, List.length_nil, if_true, List.map_cons, List.map_nil]
      have wl : wloop (tOf (eBin gGt (eCall cLen (aCons (eFld C "todo" (eVar 0)) (aNil))) (eC (.int 0)))) (bodW C (n + 2)) 100000 ([some (.loc i), some (encF g)] ++ List.replicate 5 none) st = wloop (tstW C) (bodW C (n + 2)) 100000 [some (.loc i), some (encF g), none, none, none, none, none] st := rfl
      cases rp with
      | dead k1 p =>
        obtain ⟨st', env', F, hn, e⟩ := pm
        cases h
        refine ⟨st', ?_, by rw [F.1]; exact Nat.le_refl _, hn, fun j hj h0 h1 => F.2 j (by simp at h1 ⊢; omega)⟩
        rw [e] at wl
        unfold bodW at wl
        rw [sSeq, wl]
      | case s1 x y p =>
        obtain ⟨st1, env', F, H1, I1, hl, e⟩ := pm
        obtain ⟨st', e1, P⟩ := solve_case_at n M1 H1 I1 (by omega) (x := x) (y := y) (g := g) (p := p) (k := k) (r := r) h
        refine ⟨st', ?_, F.post P (fun _ _ => .inr trivial) _ (by simp) (by simp)⟩
        rw [e, e1] at wl
        unfold bodW at wl
        rw [sSeq, wl]
      | opn s1 =>
        obtain ⟨st1, e2, e5, e6, F, H1, I1, hl, e⟩ := pm
        rw [e] at wl
        unfold bodW at wl
        rw [sSeq, wl]
        simp only
        clear wl e
        have tags := fun (y : Str) (hy : PyData.strOk y = true) => test_tag (st := st1) (env := [some (.loc i), some (encF g), e2, none, none, e5, e6]) (k := 1) (A := g) rfl y hy
        have fin0 : ∀ {st2 : Store} {k2 : Nat}, Post st1 st2 nm [] k2 → Post st st2 nm [i, f, a, t] k2 := fun {st2 k2} P => F.post P (fun _ _ => .inr trivial) _ (by simp) (by simp)
        have fin1 : ∀ {st2 : Store} {k2 : Nat}, Post st1 st2 nm [i, a] k2 → Post st st2 nm [i, f, a, t] k2 := fun {st2 k2} P => F.post P (fun _ _ => .inr trivial) _ (by simp) (by simp)
        have ta := tags "atom" (by decide +kernel)
        have tt := tags "to" (by decide +kernel)
        have tn := tags "and" (by decide +kernel)
        -- the end: solve_open
        have opn : ∀ (hn : tagF g ≠ "to") (hn2 : tagF g ≠ "and"), openG (sv n) (sv (n + 1)) s1 g = some (k, r) → ∃ env' st', (sSeq (sIf (tOf (eBin gEq (eBin gIx (eVar 1) (eC (.int 0))) (eC (.str "to")))) (sSeq (sSet 3 (eM C "fresh" (run C (n + 2) .Search_fresh) (eVar 0) aNil)) (sSeq (sSet 4 (eS (run C (n + 2) .solve) (aCons (eM C "more" (run C (n + 2) .Search_more) (eVar 0) (aCons (eTup (aCons (eBin gIx (eVar 1) (eC (.int 1))) (aCons (eVar 3) (aNil)))) (aNil))) (aCons (eBin gIx (eVar 1) (eC (.int 2))) (aNil))))) (sRet (eIf (tOf (eBin gEq (eBin gIx (eVar 4) (eC (.int 0))) (eC (.str "world")))) (eVar 4) (eTup (aCons (eC (.str "program")) (aCons (eTup (aCons (eC (.str "bind")) (aCons (eVar 3) (aCons (eBin gIx (eVar 1) (eC (.int 1))) (aCons (eBin gIx (eVar 4) (eC (.int 1))) (aNil)))))) (aNil)))))))) (sNx)) (sSeq (sIf (tOf (eBin gEq (eBin gIx (eVar 1) (eC (.int 0))) (eC (.str "and")))) (sRet (eS (run C (n + 2) .solve_both) (aCons (eVar 0) (aCons (eVar 1) (aNil))))) (sNx)) (sRet (eS (run C (n + 2) .solve_open) (aCons (eVar 0) (aCons (eVar 1) (aNil))))))) [some (.loc i), some (encF g), e2, none, none, e5, e6] st1 = some (.ret (encR r), env', st') ∧ Post st st' nm [i, f, a, t] k := fun hn hn2 ho => by
          obtain ⟨st', e1, P⟩ := solve_open_at n A0 M1 H1 I1 hl ho
          refine ⟨[some (.loc i), some (encF g), e2, none, none, e5, e6], st', ?_, fin1 P⟩
          rw [sSeq, sIf, tt, tag_ne hn]
          simp only [sNx]
          rw [sSeq, sIf, tn, tag_ne hn2]
          simp only [sNx]
          have ea : eS (run C (n + 2) .solve_open) (aCons (eVar 0) (aCons (eVar 1) (aNil))) [some (.loc i), some (encF g), e2, none, none, e5, e6] st1 = run C (n + 2) .solve_open [.loc i, encF g] st1 := rfl
          rw [sRet, ea, e1]
        have noAtom : ∀ (hn : tagF g ≠ "atom"), sIf (tAnd2 (tOf (eBin gEq (eBin gIx (eVar 1) (eC (.int 0))) (eC (.str "atom")))) (tOf (eDin false (eBin gIx (eVar 1) (eC (.int 1))) (eFld C "facts" (eVar 0))))) (sRet (eTup (aCons (eC (.str "program")) (aCons (eDget (eFld C "facts" (eVar 0)) (eBin gIx (eVar 1) (eC (.int 1)))) (aNil))))) (sNx) [some (.loc i), some (encF g), e2, none, none, e5, e6] st1 = some (.nx, [some (.loc i), some (encF g), e2, none, none, e5, e6], st1) := fun hn => by
          rw [sIf, tAnd2, ta, tag_ne hn]
          rfl
        cases g with
        | bot =>
          obtain ⟨env', st', e1, P⟩ := opn (show ("false" : Str) ≠ "to" by decide +kernel) (show ("false" : Str) ≠ "and" by decide +kernel) h
          exact ⟨st', by rw [sSeq, noAtom (show ("false" : Str) ≠ "atom" by decide +kernel)]; simp only; rw [e1], P⟩
        | or x y =>
          obtain ⟨env', st', e1, P⟩ := opn (show ("or" : Str) ≠ "to" by decide +kernel) (show ("or" : Str) ≠ "and" by decide +kernel) h
          exact ⟨st', by rw [sSeq, noAtom (show ("or" : Str) ≠ "atom" by decide +kernel)]; simp only; rw [e1], P⟩
        | atom x =>
          have hin : eDin false (eBin gIx (eVar 1) (eC (.int 1))) (eFld C "facts" (eVar 0)) [some (.loc i), some (encF (.atom x)), e2, none, none, e5, e6] st1 = some (.bl (s1.facts.lookup x).isSome, st1) := din_at (neg := false) rfl (fld0 H1 lk_facts _) H1.fac
          have test : tAnd2 (tOf (eBin gEq (eBin gIx (eVar 1) (eC (.int 0))) (eC (.str "atom")))) (tOf (eDin false (eBin gIx (eVar 1) (eC (.int 1))) (eFld C "facts" (eVar 0)))) [some (.loc i), some (encF (.atom x)), e2, none, none, e5, e6] st1 = some ((s1.facts.lookup x).isSome, st1) := by
            rw [tAnd2, ta, show decide (tagF (.atom x) = "atom") = true from (show decide (("atom" : Str) = "atom") = true by decide +kernel)]
            simp only
            unfold tOf
            rw [hin]
          simp only at h
          cases hx : s1.facts.lookup x with
          | some p0 =>
            rw [hx] at h
            cases h
            refine ⟨st1, ?_, by rw [F.1]; exact Nat.le_refl _, H1.nam, fun j hj h0 h1 => F.2 j (by simp at h1 ⊢; omega)⟩
            have hget : eDget (eFld C "facts" (eVar 0)) (eBin gIx (eVar 1) (eC (.int 1))) [some (.loc i), some (encF (.atom x)), e2, none, none, e5, e6] st1 = some (encP p0, st1) := dget_at rfl (fld0 H1 lk_facts _) H1.fac hx
            rw [sSeq, sIf, test, hx]
            simp only [Option.isSome_some]
            rw [sRet, eTup]
            simp only [aCons, eC, hget, aNil]
            rfl
          | none =>
            rw [hx] at h
            obtain ⟨env', st', e1, P⟩ := opn (show ("atom" : Str) ≠ "to" by decide +kernel) (show ("atom" : Str) ≠ "and" by decide +kernel) h
            refine ⟨st', ?_, P⟩
            rw [sSeq, sIf, test, hx]
            simp only [Option.isSome_none, sNx]
            rw [e1]
        | and x y =>
          obtain ⟨st', e1, P⟩ := solve_both_at n M1 H1 I1 (by omega) h
          refine ⟨st', ?_, fin0 P⟩
          rw [sSeq, noAtom (show ("and" : Str) ≠ "atom" by decide +kernel)]
          simp only
          rw [sSeq, sIf, tt, tag_ne (g := .and x y) (show ("and" : Str) ≠ "to" by decide +kernel)]
          simp only [sNx]
          rw [sSeq, sIf, tn, show decide (tagF (.and x y) = "and") = true from (show decide (("and" : Str) = "and") = true by decide +kernel)]
          simp only
          have ea : eS (run C (n + 2) .solve_both) (aCons (eVar 0) (aCons (eVar 1) (aNil))) [some (.loc i), some (encF (.and x y)), e2, none, none, e5, e6] st1 = run C (n + 2) .solve_both [.loc i, encF (.and x y)] st1 := rfl
          rw [sRet, ea, e1]
        | imp x y =>
          simp only at h
          split at h
          rotate_left
          · cases h
          rename_i hk
          have H2 := H1.setN (s1.k + 1)
          cases hv : sv (n + 2) { s1 with k := s1.k + 1, todo := (x, .name s1.k) :: s1.todo } y with
          | none => rw [hv] at h; cases h
          | some kr =>
            obtain ⟨k1, r1⟩ := kr
            rw [hv] at h
            obtain ⟨st2, es, P⟩ := sub_more (m := n) M2 H2 I1 [(x, .name s1.k)] (g := y) (k := k1) (r := r1) hv
            have fr := fresh_ev (C := C) (st := st1) (n + 1) H1 hk [some (encF (.imp x y)), e2, none, none, e5, e6]
            have mo : eM C "more" (run C (n + 2) .Search_more) (eVar 0) (aCons (eTup (aCons (eBin gIx (eVar 1) (eC (.int 1))) (aCons (eVar 3) (aNil)))) (aNil)) [some (.loc i), some (encF (.imp x y)), e2, some (encN s1.k), none, e5, e6] (st1.set nm (trues (s1.k + 1))) = some (.loc ((st1.set nm (trues (s1.k + 1))).length + 3), (st1.set nm (trues (s1.k + 1))) ++ newCells C (st1.set nm (trues (s1.k + 1))).length nm { s1 with k := s1.k + 1, todo := (x, .name s1.k) :: s1.todo }) := by
              rw [meth_at H2 (env := [some (.loc i), some (encF (.imp x y)), e2, some (encN s1.k), none, e5, e6]) (as := [encQ (x, .name s1.k)]) (st2 := st1.set nm (trues (s1.k + 1))) rfl rfl rfl]
              exact more_at (n + 1) H2 [(x, .name s1.k)] (by show s1.todo.length + 1 ≤ 2000; omega) (by show 1 ≤ 5; decide)
            have P1 : Post st1 st2 nm [] k1 := ⟨by have := P.len; simp at this; omega, P.nam, fun j hj hn h0 => by rw [P.old j (by simp; omega) hn h0, set_ne (Ne.symm hn)]⟩
            have tw := told_at (st := st2) (env := [some (.loc i), some (encF (.imp x y)), e2, some (encN s1.k), some (encR r1), e5, e6]) (k := 4) (r := r1) rfl
            have s4 : sSet 4 (eS (run C (n + 2) .solve) (aCons (eM C "more" (run C (n + 2) .Search_more) (eVar 0) (aCons (eTup (aCons (eBin gIx (eVar 1) (eC (.int 1))) (aCons (eVar 3) (aNil)))) (aNil))) (aCons (eBin gIx (eVar 1) (eC (.int 2))) (aNil)))) [some (.loc i), some (encF (.imp x y)), e2, some (encN s1.k), none, e5, e6] (st1.set nm (trues (s1.k + 1))) = some (.nx, [some (.loc i), some (encF (.imp x y)), e2, some (encN s1.k), some (encR r1), e5, e6], st2) := by
              have ag : ∀ (st5 : Store), aCons (eBin gIx (eVar 1) (eC (.int 2))) aNil [some (.loc i), some (encF (.imp x y)), e2, some (encN s1.k), none, e5, e6] st5 = some ([encF y], st5) := fun _ => rfl
              rw [sSet, eS, aCons, mo]
              simp only [ag]
              have es' : run C (n + 2) .solve [.loc ((st1.set nm (trues (s1.k + 1))).length + 3), encF y] ((st1.set nm (trues (s1.k + 1))) ++ newCells C (st1.set nm (trues (s1.k + 1))).length nm { s1 with k := s1.k + 1, todo := (x, .name s1.k) :: s1.todo }) = some (encR r1, st2) := es
              rw [es']
              rfl
            have main : sSeq (sSet 3 (eM C "fresh" (run C (n + 2) .Search_fresh) (eVar 0) aNil)) (sSeq (sSet 4 (eS (run C (n + 2) .solve) (aCons (eM C "more" (run C (n + 2) .Search_more) (eVar 0) (aCons (eTup (aCons (eBin gIx (eVar 1) (eC (.int 1))) (aCons (eVar 3) (aNil)))) (aNil))) (aCons (eBin gIx (eVar 1) (eC (.int 2))) (aNil))))) (sRet (eIf (tOf (eBin gEq (eBin gIx (eVar 4) (eC (.int 0))) (eC (.str "world")))) (eVar 4) (eTup (aCons (eC (.str "program")) (aCons (eTup (aCons (eC (.str "bind")) (aCons (eVar 3) (aCons (eBin gIx (eVar 1) (eC (.int 1))) (aCons (eBin gIx (eVar 4) (eC (.int 1))) (aNil)))))) (aNil))))))) [some (.loc i), some (encF (.imp x y)), e2, none, none, e5, e6] st1 = some (.ret (encR (wrapR s1.k x r1)), [some (.loc i), some (encF (.imp x y)), e2, some (encN s1.k), some (encR r1), e5, e6], st2) := by
              rw [sSeq, sSet, fr]
              simp only
              have se : List.set [some (.loc i), some (encF (.imp x y)), e2, none, none, e5, e6] 3 (some (encN s1.k)) = [some (.loc i), some (encF (.imp x y)), e2, some (encN s1.k), none, e5, e6] := rfl
              rw [se, sSeq, s4]
              simp only
              rw [sRet, eIf, tw]
              cases r1 with
              | prog p => rfl
              | world t => rfl
            refine ⟨st2, ?_, fin0 ?_⟩
            · rw [sSeq, noAtom (show ("to" : Str) ≠ "atom" by decide +kernel)]
              simp only
              rw [sSeq, sIf, tt, show decide (tagF (.imp x y) = "to") = true from (show decide (("to" : Str) = "to") = true by decide +kernel)]
              simp only
              cases r1 with
              | prog p => cases h; rw [main]; rfl
              | world t => cases h; rw [main]; rfl
            · cases r1 with
              | prog p => cases h; exact P1
              | world t => cases h; exact P1
end
end K07
end L3
end
section
set_option Elab.async false
set_option linter.all false
set_option maxRecDepth 100000
set_option maxHeartbeats 0
namespace L3
namespace K07
open PySem G
section
variable {C : Addr} {st : Store} {env : EnvP}
theorem eP_at {g : GA} {fa : FA} {as : List PV} {v : PV} {st2 : Store} (ha : fa env st = some (as, st)) (hp : PV.pures as = true) (hg : g as [] = some (v, st2)) (hv : v.pure = true) : eP g fa env st = some (v, st) := by
  unfold eP
  rw [ha]
  simp only [hp, if_true, hg, hv]
def nms (ns : List Nat) : PV := .tupx (ns.map encN)
theorem pureNs (ns : List Nat) : PV.pures (ns.map encN) = true := by
  induction ns with
  | nil => rfl
  | cons k ns ih => show ((encN k).pure && PV.pures (ns.map encN)) = true; rw [ih]; rfl
theorem pureArgs (p : Pg) (ns : List Nat) : PV.pures [encP p, nms ns] = true := by
  show ((encP p).pure && (PV.pures (ns.map encN) && true)) = true
  rw [pureP, pureNs]; rfl
theorem eqN (j k : Nat) : PyData.eqv (encN j).toD (encN k).toD = decide (j = k) := by
  show (true && (((j : Int) == (k : Int)) && true)) = _
  by_cases h : j = k
  · subst h; simp
  · have : ((j : Int) == (k : Int)) = false := beq_eq_false_iff_ne.mpr (by omega)
    rw [this]; simp [h]
theorem findN (k : Nat) : ∀ (ns : List Nat) (n : Nat), findD (encN k).toD (PV.toDs (ns.map encN)) n = idx k ns n
  | [], _ => rfl
  | x :: ns, n => by
    show (if PyData.eqv (encN x).toD (encN k).toD = true then some n else findD (encN k).toD (PV.toDs (ns.map encN)) (n + 1)) = (if x = k then some n else idx k ns (n + 1))
    rw [eqN, findN k ns (n + 1)]
    by_cases h : x = k
    · simp [h]
    · simp [h]
theorem layNs (ns : List Nat) : PyData.canLayAll0 (PV.toDs (ns.map encN)) = true := by
  induction ns with
  | nil => rfl
  | cons k ns ih => show ((encN k).toD.canLay0 && PyData.canLayAll0 (PV.toDs (ns.map encN))) = true; rw [layN, ih]; rfl
theorem index_at {k i : Nat} {ns : List Nat} (h : idx k ns 0 = some i) : mIndexX (nms ns) [encN k] st = some (.int (i : Nat), st) := by
  have hl : lowL (encN k) (ns.map encN) = true := by
    unfold lowL
    have l1 : (encN k).lay = true := by unfold PV.lay; rw [layN]; rfl
    have d1 : (encN k).toD.depth = 1 := rfl
    rw [l1, pureNs, layNs, d1]
    simp; omega
  show (if lowL (encN k) (ns.map encN) = true then (match findD (encN k).toD (PV.toDs (ns.map encN)) 0 with | some j => some (PV.int (j : Nat), st) | none => none) else none) = _
  rw [if_pos hl, findN, h]
theorem addX_at (k : Nat) (ns : List Nat) (hl : ns.length ≤ 2000) : gAddX (.tupx [encN k]) (nms ns) st = some (nms (k :: ns), st) := by
  unfold nms gAddX
  simp only [List.length_map]
  rw [if_pos ⟨by simp, Nat.le_trans (show [encN k].length + ns.length ≤ 2001 by show 1 + ns.length ≤ 2001; omega) (by decide)⟩]
  rfl
end
end K07
end L3
end
section
set_option Elab.async false
set_option linter.all false
set_option maxRecDepth 100000
set_option maxHeartbeats 0
namespace L3
namespace K07
open PySem G
section
variable {C : Addr} {st : Store} {env : EnvP}
def tagP : Pg → Str
  | .name _ => "name"
  | .bind _ _ _ => "bind"
  | .app _ _ => "app"
  | .pair _ _ => "pair"
  | .fst _ => "first"
  | .snd _ => "second"
  | .inl _ _ => "left"
  | .inr _ _ => "right"
  | .never _ _ => "never"
  | .split _ _ _ _ _ => "split"
theorem tagP_ok (p : Pg) : PyData.strOk (tagP p) = true := by
  cases p with
  | name => exact (show PyData.strOk "name" = true by decide +kernel)
  | bind => exact (show PyData.strOk "bind" = true by decide +kernel)
  | app => exact (show PyData.strOk "app" = true by decide +kernel)
  | pair => exact (show PyData.strOk "pair" = true by decide +kernel)
  | fst => exact (show PyData.strOk "first" = true by decide +kernel)
  | snd => exact (show PyData.strOk "second" = true by decide +kernel)
  | inl => exact (show PyData.strOk "left" = true by decide +kernel)
  | inr => exact (show PyData.strOk "right" = true by decide +kernel)
  | never => exact (show PyData.strOk "never" = true by decide +kernel)
  | split => exact (show PyData.strOk "split" = true by decide +kernel)
theorem in3 (x : Str) (b : Bool) (h1 : lowIn (.str x) (.tup [.str "left", .str "right", .str "never"]) = true) (h2 : anyD (.str x) [.str "left", .str "right", .str "never"] = b) : gIn (.str x) (.tup [.str "left", .str "right", .str "never"]) st = some (.bl b, st) := by
  unfold gIn
  rw [if_pos h1]
  simp only [h2]
theorem pdep_pos (p : Pg) : 1 ≤ pdep p := by cases p <;> (unfold pdep; omega)
def restS (C : Addr) (n : Nat) : FS := sSeq (sIf (tOf (eBin gEq (eVar 2) (eC (.str "name")))) (sRet (eTup (aCons (eC (.str "var")) (aCons (eIdxX (eVar 1) (eVar 0)) (aNil))))) (sNx)) (sSeq (sIf (tOf (eBin gEq (eVar 2) (eC (.str "bind")))) (sRet (eTup (aCons (eC (.str "fun")) (aCons (eBin gIx (eVar 0) (eC (.int 2))) (aCons (eP (run C n .settled) (aCons (eBin gIx (eVar 0) (eC (.int 3))) (aCons (eBin gAddX (eTupX (aCons (eBin gIx (eVar 0) (eC (.int 1))) (aNil))) (eVar 1)) (aNil)))) (aNil)))))) (sNx)) (sSeq (sIf (tOf (eBin gEq (eVar 2) (eC (.str "split")))) (sSeq (sSet 3 (eLc (iSeq (eSl gSlT (eVar 0) (oSome (eC (.int 2))) (oNone))) (tT 2 (tCons (tN 4) (tCons (tN 5) (tNil)))) (tYes) (eP (run C n .settled) (aCons (eVar 5) (aCons (eBin gAddX (eTupX (aCons (eVar 4) (aNil))) (eVar 1)) (aNil)))) [4, 5])) (sRet (eTup (aCons (eC (.str "case")) (aCons (eP (run C n .settled) (aCons (eBin gIx (eVar 0) (eC (.int 1))) (aCons (eVar 1) (aNil)))) (aCons (eBin gIx (eVar 3) (eC (.int 0))) (aCons (eBin gIx (eVar 3) (eC (.int 1))) (aNil)))))))) (sNx)) (sSeq (sIf (tOf (eBin gIn (eVar 2) (eTup (aCons (eC (.str "left")) (aCons (eC (.str "right")) (aCons (eC (.str "never")) (aNil))))))) (sRet (eTup (aCons (eVar 2) (aCons (eBin gIx (eVar 0) (eC (.int 1))) (aCons (eP (run C n .settled) (aCons (eBin gIx (eVar 0) (eC (.int 2))) (aCons (eVar 1) (aNil)))) (aNil)))))) (sNx)) (sRet (eBin gAdd (eTup (aCons (eVar 2) (aNil))) (eCall cTup (aCons (eLc (iSeq (eSl gSlT (eVar 0) (oSome (eC (.int 1))) (oNone))) (tN 5) (tYes) (eP (run C n .settled) (aCons (eVar 5) (aCons (eVar 1) (aNil)))) [5]) (aNil))))))))
theorem encP_tag (p : Pg) : ∃ r, encP p = .tup (.str (tagP p) :: r) := by cases p <;> exact ⟨_, rfl⟩
theorem settled_go (m : Nat) (p : Pg) (ns : List Nat) (v : PV) (env' : EnvP) (h : restS C m [some (encP p), some (nms ns), some (.str (tagP p)), none, none, none] [] = some (.ret v, env', [])) : run C (m + 1) .settled [encP p, nms ns] [] = some (v, []) := by
  show fnS 2 4 (b_settled (run C m) C m) _ _ = _
  unfold fnS b_settled
  simp only [List.length_cons, List.length_nil, if_true, List.map_cons, List.map_nil]
  obtain ⟨r, e⟩ := encP_tag p
  have w : sSet 2 (eBin gIx (eVar 0) (eC (.int 0))) ([some (encP p), some (nms ns)] ++ List.replicate 4 none) [] = some (.nx, [some (encP p), some (nms ns), some (.str (tagP p)), none, none, none], []) := by
    unfold sSet eBin eVar eC
    rw [e]
    simp only [List.cons_append, List.getElem?_cons_zero, ix0]
    rfl
  rw [sSeq, w]
  simp only
  unfold restS at h
  rw [h]
end
end K07
end L3
end
section
set_option Elab.async false
set_option linter.all false
set_option maxRecDepth 100000
set_option maxHeartbeats 0
namespace L3
namespace K07
open PySem G
section
variable {C : Addr} {st : Store} {env : EnvP}
theorem sT {x y : Str} {k : Nat} (h : env[k]? = some (some (.str x))) (hx : PyData.strOk x = true) (hy : PyData.strOk y = true) (a b : FS) (e : x = y) : sIf (tOf (eBin gEq (eVar k) (eC (.str y)))) a b env st = a env st := by
  rw [sIf, test_var h hx y hy, decide_eq_true e]
theorem sF {x y : Str} {k : Nat} (h : env[k]? = some (some (.str x))) (hx : PyData.strOk x = true) (hy : PyData.strOk y = true) (a b : FS) (e : x ≠ y) : sIf (tOf (eBin gEq (eVar k) (eC (.str y)))) a b env st = b env st := by
  rw [sIf, test_var h hx y hy, decide_eq_false e]
theorem sIn {x : Str} {c : Bool} {k : Nat} (h : env[k]? = some (some (.str x))) (h1 : lowIn (.str x) (.tup [.str "left", .str "right", .str "never"]) = true) (h2 : anyD (.str x) [.str "left", .str "right", .str "never"] = c) (a b : FS) : sIf (tOf (eBin gIn (eVar k) (eTup (aCons (eC (.str "left")) (aCons (eC (.str "right")) (aCons (eC (.str "never")) (aNil))))))) a b env st = (match c with | true => a env st | false => b env st) := by
  have et : eTup (aCons (eC (.str "left")) (aCons (eC (.str "right")) (aCons (eC (.str "never")) (aNil)))) env st = some (.tup [.str "left", .str "right", .str "never"], st) := rfl
  have : tOf (eBin gIn (eVar k) (eTup (aCons (eC (.str "left")) (aCons (eC (.str "right")) (aCons (eC (.str "never")) (aNil)))))) env st = some (c, st) := by
    unfold tOf eBin
    rw [show eVar k env st = some (.str x, st) by unfold eVar; rw [h]]
    simp only [et, in3 x c h1 h2]
  rw [sIf, this]
  cases c <;> rfl
end
end K07
end L3
end
section
set_option Elab.async false
set_option linter.all false
set_option maxRecDepth 100000
set_option maxHeartbeats 0
namespace L3
namespace K07
open PySem G
section
variable {C : Addr} {st : Store} {env : EnvP}
theorem pos_of {p : Pg} {n : Nat} (h : pdep p ≤ n) : ∃ m, n = m + 1 := ⟨n - 1, by have := pdep_pos p; omega⟩
/-- settled of a part with the same names -/
theorem sub_ev {n : Nat} {q : Pg} {ns : List Nat} {d : Db} (ih : run C n .settled [encP q, nms ns] [] = some (encD d, [])) {fq : FE} (hq : fq env st = some (encP q, st)) (h1 : env[1]? = some (some (nms ns))) : eP (run C n .settled) (aCons fq (aCons (eVar 1) aNil)) env st = some (encD d, st) := by
  refine eP_at (as := [encP q, nms ns]) ?_ (pureArgs q ns) ih (pureD d)
  unfold aCons
  rw [hq]
  simp only [aCons, eVar, h1, aNil]
/-- .. with one more name -/
theorem subN_ev {n k : Nat} {q : Pg} {ns : List Nat} {d : Db} (hl : ns.length ≤ 2000) (ih : run C n .settled [encP q, nms (k :: ns)] [] = some (encD d, [])) {fq fk : FE} (hq : fq env st = some (encP q, st)) (hk : fk env st = some (encN k, st)) (h1 : env[1]? = some (some (nms ns))) : eP (run C n .settled) (aCons fq (aCons (eBin gAddX (eTupX (aCons fk aNil)) (eVar 1)) aNil)) env st = some (encD d, st) := by
  refine eP_at (as := [encP q, nms (k :: ns)]) ?_ (pureArgs q (k :: ns)) ih (pureD d)
  have ex : eTupX (aCons fk aNil) env st = some (.tupx [encN k], st) := by
    unfold eTupX
    simp only [aCons, hk, aNil]
    rfl
  have e2 : eBin gAddX (eTupX (aCons fk aNil)) (eVar 1) env st = some (nms (k :: ns), st) := by
    unfold eBin
    rw [ex]
    simp only [eVar, h1, addX_at k ns hl]
  rw [aCons, hq]
  simp only
  rw [aCons, e2]
  rfl
end
end K07
end L3
end
section
set_option Elab.async false
set_option linter.all false
set_option maxRecDepth 100000
set_option maxHeartbeats 0
namespace L3
namespace K07
open PySem G
section
variable {C : Addr} {st : Store} {env : EnvP}
theorem map_some {α β : Type} {f : α → β} {o : Option α} {b : β} (h : o.map f = some b) : ∃ a, o = some a ∧ f a = b := by
  cases o with
  | none => cases h
  | some a => cases h; exact ⟨a, rfl, rfl⟩
theorem o2_some {f : Db → Db → Db} {a b : Option Db} {c : Db} (h : o2 f a b = some c) : ∃ x y, a = some x ∧ b = some y ∧ f x y = c := by
  cases a with
  | none => cases h
  | some x => cases b with
    | none => cases h
    | some y => cases h; exact ⟨x, y, rfl, rfl, rfl⟩
theorem tup3 {f1 f2 f3 : FE} {a b c : PV} (h1 : f1 env st = some (a, st)) (h2 : f2 env st = some (b, st)) (h3 : f3 env st = some (c, st)) : eTup (aCons f1 (aCons f2 (aCons f3 aNil))) env st = some (.tup [a, b, c], st) := by
  rw [eTup, aCons, h1]
  simp only
  rw [aCons, h2]
  simp only
  rw [aCons, h3]
  rfl
theorem settled_name (k : Nat) (ns : List Nat) (d : Db) (m : Nat) (h : stl (.name k) ns = some d) : run C (m + 1) .settled [encP (.name k), nms ns] [] = some (encD d, []) := by
  obtain ⟨i, hi, rfl⟩ := map_some (show (idx k ns 0).map Db.var = some d from h)
  refine settled_go m _ ns _ [some (encP (.name k)), some (nms ns), some (.str "name"), none, none, none] ?_
  unfold restS
  rw [sSeq, sT (x := tagP (.name k)) (y := "name") rfl (tagP_ok (.name k)) (by decide +kernel) _ _ rfl]
  have e : eIdxX (eVar 1) (eVar 0) [some (encP (.name k)), some (nms ns), some (.str (tagP (.name k))), none, none, none] [] = some (.int (i : Nat), []) := by
    have := index_at (st := []) hi
    unfold eIdxX eVar
    exact this
  rw [sRet, eTup]
  simp only [aCons, eC, e, aNil]
  rfl
theorem settled_bind (k : Nat) (A : Fm) (q : Pg) (ns : List Nat) (d : Db) (m : Nat) (hl : ns.length ≤ 2000) (ih : ∀ e, stl q (k :: ns) = some e → run C m .settled [encP q, nms (k :: ns)] [] = some (encD e, [])) (h : stl (.bind k A q) ns = some d) : run C (m + 1) .settled [encP (.bind k A q), nms ns] [] = some (encD d, []) := by
  obtain ⟨e, he, rfl⟩ := map_some (show (stl q (k :: ns)).map (.fn A) = some d from h)
  refine settled_go m _ ns _ [some (encP (.bind k A q)), some (nms ns), some (.str "bind"), none, none, none] ?_
  unfold restS
  rw [sSeq, sF (x := tagP (.bind k A q)) rfl (tagP_ok (.bind k A q)) (by decide +kernel) _ _ (show ("bind" : Str) ≠ "name" by decide +kernel)]
  simp only [sNx]
  rw [sSeq, sT (x := tagP (.bind k A q)) (y := "bind") rfl (tagP_ok (.bind k A q)) (by decide +kernel) _ _ rfl]
  have ev := subN_ev (C := C) (st := []) (env := [some (encP (.bind k A q)), some (nms ns), some (.str (tagP (.bind k A q))), none, none, none]) hl (ih e he) (fq := eBin gIx (eVar 0) (eC (.int 3))) (fk := eBin gIx (eVar 0) (eC (.int 1))) rfl rfl rfl
  rw [sRet, tup3 (a := .str "fun") (b := encF A) rfl rfl ev]
  rfl
end
end K07
end L3
end
section
set_option Elab.async false
set_option linter.all false
set_option maxRecDepth 100000
set_option maxHeartbeats 0
namespace L3
namespace K07
open PySem G
section
variable {C : Addr} {st : Store} {env : EnvP}
theorem settled_mark (p q : Pg) (A : Fm) (ns : List Nat) (e : Db) (m : Nat) (hp : encP p = .tup [.str (tagP p), encF A, encP q]) (n1 : tagP p ≠ "name") (n2 : tagP p ≠ "bind") (n3 : tagP p ≠ "split")
    (l1 : lowIn (.str (tagP p)) (.tup [.str "left", .str "right", .str "never"]) = true) (l2 : anyD (.str (tagP p)) [.str "left", .str "right", .str "never"] = true)
    (ih : run C m .settled [encP q, nms ns] [] = some (encD e, [])) : run C (m + 1) .settled [encP p, nms ns] [] = some (.tup [.str (tagP p), encF A, encD e], []) := by
  refine settled_go m _ ns _ [some (encP p), some (nms ns), some (.str (tagP p)), none, none, none] ?_
  unfold restS
  rw [sSeq, sF (x := tagP p) (y := "name") rfl (tagP_ok p) (by decide +kernel) _ _ n1]
  simp only [sNx]
  rw [sSeq, sF (x := tagP p) (y := "bind") rfl (tagP_ok p) (by decide +kernel) _ _ n2]
  simp only [sNx]
  rw [sSeq, sF (x := tagP p) (y := "split") rfl (tagP_ok p) (by decide +kernel) _ _ n3]
  simp only [sNx]
  rw [sSeq, sIn (x := tagP p) (c := true) rfl l1 l2]
  simp only
  have g1 : eBin gIx (eVar 0) (eC (.int 1)) [some (encP p), some (nms ns), some (.str (tagP p)), none, none, none] [] = some (encF A, []) := by
    unfold eBin eVar eC
    simp only [List.getElem?_cons_zero, hp, ix1]
  have g2 : eBin gIx (eVar 0) (eC (.int 2)) [some (encP p), some (nms ns), some (.str (tagP p)), none, none, none] [] = some (encP q, []) := by
    unfold eBin eVar eC
    simp only [List.getElem?_cons_zero, hp, ix2]
  have ev := sub_ev (C := C) (st := []) (env := [some (encP p), some (nms ns), some (.str (tagP p)), none, none, none]) ih g2 rfl
  rw [sRet, tup3 (a := .str (tagP p)) (b := encF A) rfl g1 ev]
end
end K07
end L3
end
section
set_option Elab.async false
set_option linter.all false
set_option maxRecDepth 100000
set_option maxHeartbeats 0
namespace L3
namespace K07
open PySem G
section
variable {C : Addr} {st : Store} {env : EnvP}
theorem settled_two (p q r : Pg) (ns : List Nat) (e1 e2 : Db) (m : Nat) (hp : encP p = .tup [.str (tagP p), encP q, encP r]) (n1 : tagP p ≠ "name") (n2 : tagP p ≠ "bind") (n3 : tagP p ≠ "split")
    (l1 : lowIn (.str (tagP p)) (.tup [.str "left", .str "right", .str "never"]) = true) (l2 : anyD (.str (tagP p)) [.str "left", .str "right", .str "never"] = false)
    (i1 : run C m .settled [encP q, nms ns] [] = some (encD e1, [])) (i2 : run C m .settled [encP r, nms ns] [] = some (encD e2, [])) : run C (m + 1) .settled [encP p, nms ns] [] = some (.tup [.str (tagP p), encD e1, encD e2], []) := by
  refine settled_go m _ ns _ [some (encP p), some (nms ns), some (.str (tagP p)), none, none, none] ?_
  unfold restS
  rw [sSeq, sF (x := tagP p) (y := "name") rfl (tagP_ok p) (by decide +kernel) _ _ n1]
  simp only [sNx]
  rw [sSeq, sF (x := tagP p) (y := "bind") rfl (tagP_ok p) (by decide +kernel) _ _ n2]
  simp only [sNx]
  rw [sSeq, sF (x := tagP p) (y := "split") rfl (tagP_ok p) (by decide +kernel) _ _ n3]
  simp only [sNx]
  rw [sSeq, sIn (x := tagP p) (c := false) rfl l1 l2]
  simp only [sNx]
  have it : iSeq (eSl gSlT (eVar 0) (oSome (eC (.int 1))) oNone) [some (encP p), some (nms ns), some (.str (tagP p)), none, none, none] [] = some ([encP q, encP r], []) := by
    rw [hp]; rfl
  have ev : ∀ (x : Pg) (e : Db), run C m .settled [encP x, nms ns] [] = some (encD e, []) → eP (run C m .settled) (aCons (eVar 5) (aCons (eVar 1) aNil)) [some (encP p), some (nms ns), some (.str (tagP p)), none, none, some (encP x)] [] = some (encD e, []) := fun x e h => sub_ev h rfl rfl
  have lc : eLc (iSeq (eSl gSlT (eVar 0) (oSome (eC (.int 1))) oNone)) (tN 5) tYes (eP (run C m .settled) (aCons (eVar 5) (aCons (eVar 1) aNil))) [5] [some (encP p), some (nms ns), some (.str (tagP p)), none, none, none] [] = some (.lst [encD e1, encD e2], []) := by
    rw [eLc, it]
    have w : wipeP [some (encP p), some (nms ns), some (.str (tagP p)), none, none, none] [5] = [some (encP p), some (nms ns), some (.str (tagP p)), none, none, none] := rfl
    have t : ∀ x : Pg, tN 5 (encP x) [some (encP p), some (nms ns), some (.str (tagP p)), none, none, none] = some [some (encP p), some (nms ns), some (.str (tagP p)), none, none, some (encP x)] := fun _ => rfl
    simp only [w, comp, t, tYes, ev q e1 i1, ev r e2 i2]
    rfl
  have c1 : eCall cTup (aCons (eLc (iSeq (eSl gSlT (eVar 0) (oSome (eC (.int 1))) oNone)) (tN 5) tYes (eP (run C m .settled) (aCons (eVar 5) (aCons (eVar 1) aNil))) [5]) aNil) [some (encP p), some (nms ns), some (.str (tagP p)), none, none, none] [] = some (.tup [encD e1, encD e2], []) := by
    rw [eCall, aCons, lc]
    rfl
  have c0 : eTup (aCons (eVar 2) aNil) [some (encP p), some (nms ns), some (.str (tagP p)), none, none, none] [] = some (.tup [.str (tagP p)], []) := rfl
  rw [sRet, eBin, c0]
  simp only
  rw [c1]
  rfl
end
end K07
end L3
end
section
set_option Elab.async false
set_option linter.all false
set_option maxRecDepth 100000
set_option maxHeartbeats 0
namespace L3
namespace K07
open PySem G
section
variable {C : Addr} {st : Store} {env : EnvP}
theorem settled_one (p q : Pg) (ns : List Nat) (e1 : Db) (m : Nat) (hp : encP p = .tup [.str (tagP p), encP q]) (n1 : tagP p ≠ "name") (n2 : tagP p ≠ "bind") (n3 : tagP p ≠ "split")
    (l1 : lowIn (.str (tagP p)) (.tup [.str "left", .str "right", .str "never"]) = true) (l2 : anyD (.str (tagP p)) [.str "left", .str "right", .str "never"] = false)
    (i1 : run C m .settled [encP q, nms ns] [] = some (encD e1, [])) : run C (m + 1) .settled [encP p, nms ns] [] = some (.tup [.str (tagP p), encD e1], []) := by
  refine settled_go m _ ns _ [some (encP p), some (nms ns), some (.str (tagP p)), none, none, none] ?_
  unfold restS
  rw [sSeq, sF (x := tagP p) (y := "name") rfl (tagP_ok p) (by decide +kernel) _ _ n1]
  simp only [sNx]
  rw [sSeq, sF (x := tagP p) (y := "bind") rfl (tagP_ok p) (by decide +kernel) _ _ n2]
  simp only [sNx]
  rw [sSeq, sF (x := tagP p) (y := "split") rfl (tagP_ok p) (by decide +kernel) _ _ n3]
  simp only [sNx]
  rw [sSeq, sIn (x := tagP p) (c := false) rfl l1 l2]
  simp only [sNx]
  have it : iSeq (eSl gSlT (eVar 0) (oSome (eC (.int 1))) oNone) [some (encP p), some (nms ns), some (.str (tagP p)), none, none, none] [] = some ([encP q], []) := by
    rw [hp]; rfl
  have ev : ∀ (x : Pg) (e : Db), run C m .settled [encP x, nms ns] [] = some (encD e, []) → eP (run C m .settled) (aCons (eVar 5) (aCons (eVar 1) aNil)) [some (encP p), some (nms ns), some (.str (tagP p)), none, none, some (encP x)] [] = some (encD e, []) := fun x e h => sub_ev h rfl rfl
  have lc : eLc (iSeq (eSl gSlT (eVar 0) (oSome (eC (.int 1))) oNone)) (tN 5) tYes (eP (run C m .settled) (aCons (eVar 5) (aCons (eVar 1) aNil))) [5] [some (encP p), some (nms ns), some (.str (tagP p)), none, none, none] [] = some (.lst [encD e1], []) := by
    rw [eLc, it]
    have w : wipeP [some (encP p), some (nms ns), some (.str (tagP p)), none, none, none] [5] = [some (encP p), some (nms ns), some (.str (tagP p)), none, none, none] := rfl
    have t : ∀ x : Pg, tN 5 (encP x) [some (encP p), some (nms ns), some (.str (tagP p)), none, none, none] = some [some (encP p), some (nms ns), some (.str (tagP p)), none, none, some (encP x)] := fun _ => rfl
    simp only [w, comp, t, tYes, ev q e1 i1]
    rfl
  have c1 : eCall cTup (aCons (eLc (iSeq (eSl gSlT (eVar 0) (oSome (eC (.int 1))) oNone)) (tN 5) tYes (eP (run C m .settled) (aCons (eVar 5) (aCons (eVar 1) aNil))) [5]) aNil) [some (encP p), some (nms ns), some (.str (tagP p)), none, none, none] [] = some (.tup [encD e1], []) := by
    rw [eCall, aCons, lc]
    rfl
  have c0 : eTup (aCons (eVar 2) aNil) [some (encP p), some (nms ns), some (.str (tagP p)), none, none, none] [] = some (.tup [.str (tagP p)], []) := rfl
  rw [sRet, eBin, c0]
  simp only
  rw [c1]
  rfl
end
end K07
end L3
end
section
set_option Elab.async false
set_option linter.all false
set_option maxRecDepth 100000
set_option maxHeartbeats 0
namespace L3
namespace K07
open PySem G
section
variable {C : Addr} {st : Store} {env : EnvP}
theorem tup4 {f1 f2 f3 f4 : FE} {a b c d : PV} (h1 : f1 env st = some (a, st)) (h2 : f2 env st = some (b, st)) (h3 : f3 env st = some (c, st)) (h4 : f4 env st = some (d, st)) : eTup (aCons f1 (aCons f2 (aCons f3 (aCons f4 aNil)))) env st = some (.tup [a, b, c, d], st) := by
  rw [eTup, aCons, h1]
  simp only
  rw [aCons, h2]
  simp only
  rw [aCons, h3]
  simp only
  rw [aCons, h4]
  rfl
theorem settled_split (p q r : Pg) (k j : Nat) (ns : List Nat) (e0 e1 e2 : Db) (m : Nat) (hl : ns.length ≤ 2000)
    (i0 : run C m .settled [encP p, nms ns] [] = some (encD e0, [])) (i1 : run C m .settled [encP q, nms (k :: ns)] [] = some (encD e1, [])) (i2 : run C m .settled [encP r, nms (j :: ns)] [] = some (encD e2, [])) : run C (m + 1) .settled [encP (.split p k q j r), nms ns] [] = some (encD (.case e0 e1 e2), []) := by
  refine settled_go m _ ns _ [some (encP (.split p k q j r)), some (nms ns), some (.str "split"), some (.lst [encD e1, encD e2]), none, none] ?_
  unfold restS
  rw [sSeq, sF (x := tagP (.split p k q j r)) (y := "name") rfl (tagP_ok (.split p k q j r)) (by decide +kernel) _ _ (show ("split" : Str) ≠ "name" by decide +kernel)]
  simp only [sNx]
  rw [sSeq, sF (x := tagP (.split p k q j r)) (y := "bind") rfl (tagP_ok (.split p k q j r)) (by decide +kernel) _ _ (show ("split" : Str) ≠ "bind" by decide +kernel)]
  simp only [sNx]
  rw [sSeq, sT (x := tagP (.split p k q j r)) (y := "split") rfl (tagP_ok (.split p k q j r)) (by decide +kernel) _ _ rfl]
  have it : iSeq (eSl gSlT (eVar 0) (oSome (eC (.int 2))) oNone) [some (encP (.split p k q j r)), some (nms ns), some (.str (tagP (.split p k q j r))), none, none, none] [] = some ([.tup [encN k, encP q], .tup [encN j, encP r]], []) := rfl
  have ev : ∀ (x : Pg) (y : Nat) (e : Db), run C m .settled [encP x, nms (y :: ns)] [] = some (encD e, []) → eP (run C m .settled) (aCons (eVar 5) (aCons (eBin gAddX (eTupX (aCons (eVar 4) (aNil))) (eVar 1)) (aNil))) [some (encP (.split p k q j r)), some (nms ns), some (.str (tagP (.split p k q j r))), none, some (encN y), some (encP x)] [] = some (encD e, []) := fun x y e h => subN_ev hl h rfl rfl rfl
  have lc : eLc (iSeq (eSl gSlT (eVar 0) (oSome (eC (.int 2))) (oNone))) (tT 2 (tCons (tN 4) (tCons (tN 5) (tNil)))) (tYes) (eP (run C m .settled) (aCons (eVar 5) (aCons (eBin gAddX (eTupX (aCons (eVar 4) (aNil))) (eVar 1)) (aNil)))) [4, 5] [some (encP (.split p k q j r)), some (nms ns), some (.str (tagP (.split p k q j r))), none, none, none] [] = some (.lst [encD e1, encD e2], []) := by
    rw [eLc, it]
    have w : wipeP [some (encP (.split p k q j r)), some (nms ns), some (.str (tagP (.split p k q j r))), none, none, none] [4, 5] = [some (encP (.split p k q j r)), some (nms ns), some (.str (tagP (.split p k q j r))), none, none, none] := rfl
    have t : ∀ (x : Pg) (y : Nat), tT 2 (tCons (tN 4) (tCons (tN 5) tNil)) (.tup [encN y, encP x]) [some (encP (.split p k q j r)), some (nms ns), some (.str (tagP (.split p k q j r))), none, none, none] = some [some (encP (.split p k q j r)), some (nms ns), some (.str (tagP (.split p k q j r))), none, some (encN y), some (encP x)] := fun _ _ => rfl
    simp only [w, comp, t, tYes, ev q k e1 i1, ev r j e2 i2]
    rfl
  rw [sSeq, sSet, lc]
  simp only
  have g0 := sub_ev (C := C) (st := []) (env := [some (encP (.split p k q j r)), some (nms ns), some (.str (tagP (.split p k q j r))), some (.lst [encD e1, encD e2]), none, none]) i0 (fq := eBin gIx (eVar 0) (eC (.int 1))) rfl rfl
  have se : List.set [some (encP (.split p k q j r)), some (nms ns), some (.str (tagP (.split p k q j r))), none, none, none] 3 (some (.lst [encD e1, encD e2])) = [some (encP (.split p k q j r)), some (nms ns), some (.str (tagP (.split p k q j r))), some (.lst [encD e1, encD e2]), none, none] := rfl
  rw [se, sRet, tup4 (a := .str "case") (c := encD e1) (d := encD e2) rfl g0 rfl rfl]
  rfl
end
end K07
end L3
end
section
set_option Elab.async false
set_option linter.all false
set_option maxRecDepth 100000
set_option maxHeartbeats 0
namespace L3
namespace K07
open PySem G
section
variable {C : Addr}
theorem settled_at : ∀ (p : Pg) (ns : List Nat) (d : Db) (n : Nat), stl p ns = some d → pdep p ≤ n → ns.length + pdep p ≤ 2000 → run C n .settled [encP p, nms ns] [] = some (encD d, [])
  | .name k, ns, d, n, h, hn, hl => by
    obtain ⟨m, rfl⟩ := pos_of hn
    exact settled_name k ns d m h
  | .bind k A q, ns, d, n, h, hn, hl => by
    obtain ⟨m, rfl⟩ := pos_of hn
    have hq : pdep q + 1 ≤ m + 1 := hn
    have hl' : ns.length + (pdep q + 1) ≤ 2000 := hl
    exact settled_bind k A q ns d m (by omega) (fun e he => settled_at q (k :: ns) e m he (by omega) (by show ns.length + 1 + pdep q ≤ 2000; omega)) h
  | .app q r, ns, d, n, h, hn, hl => by
    obtain ⟨m, rfl⟩ := pos_of hn
    have hq : max (pdep q) (pdep r) + 1 ≤ m + 1 := hn
    have hl' : ns.length + (max (pdep q) (pdep r) + 1) ≤ 2000 := hl
    obtain ⟨x, y, h1, h2, rfl⟩ := o2_some (show o2 .app (stl q ns) (stl r ns) = some d from h)
    exact settled_two (.app q r) q r ns x y m rfl (show ("app" : Str) ≠ "name" by decide +kernel) (show ("app" : Str) ≠ "bind" by decide +kernel) (show ("app" : Str) ≠ "split" by decide +kernel) (show lowIn (.str "app") _ = true by decide +kernel) (show anyD (.str "app") _ = false by decide +kernel) (settled_at q ns x m h1 (by omega) (by omega)) (settled_at r ns y m h2 (by omega) (by omega))
  | .pair q r, ns, d, n, h, hn, hl => by
    obtain ⟨m, rfl⟩ := pos_of hn
    have hq : max (pdep q) (pdep r) + 1 ≤ m + 1 := hn
    have hl' : ns.length + (max (pdep q) (pdep r) + 1) ≤ 2000 := hl
    obtain ⟨x, y, h1, h2, rfl⟩ := o2_some (show o2 .pair (stl q ns) (stl r ns) = some d from h)
    exact settled_two (.pair q r) q r ns x y m rfl (show ("pair" : Str) ≠ "name" by decide +kernel) (show ("pair" : Str) ≠ "bind" by decide +kernel) (show ("pair" : Str) ≠ "split" by decide +kernel) (show lowIn (.str "pair") _ = true by decide +kernel) (show anyD (.str "pair") _ = false by decide +kernel) (settled_at q ns x m h1 (by omega) (by omega)) (settled_at r ns y m h2 (by omega) (by omega))
  | .fst q, ns, d, n, h, hn, hl => by
    obtain ⟨m, rfl⟩ := pos_of hn
    have hq : pdep q + 1 ≤ m + 1 := hn
    have hl' : ns.length + (pdep q + 1) ≤ 2000 := hl
    obtain ⟨x, h1, rfl⟩ := map_some (show (stl q ns).map .fst = some d from h)
    exact settled_one (.fst q) q ns x m rfl (show ("first" : Str) ≠ "name" by decide +kernel) (show ("first" : Str) ≠ "bind" by decide +kernel) (show ("first" : Str) ≠ "split" by decide +kernel) (show lowIn (.str "first") _ = true by decide +kernel) (show anyD (.str "first") _ = false by decide +kernel) (settled_at q ns x m h1 (by omega) (by omega))
  | .snd q, ns, d, n, h, hn, hl => by
    obtain ⟨m, rfl⟩ := pos_of hn
    have hq : pdep q + 1 ≤ m + 1 := hn
    have hl' : ns.length + (pdep q + 1) ≤ 2000 := hl
    obtain ⟨x, h1, rfl⟩ := map_some (show (stl q ns).map .snd = some d from h)
    exact settled_one (.snd q) q ns x m rfl (show ("second" : Str) ≠ "name" by decide +kernel) (show ("second" : Str) ≠ "bind" by decide +kernel) (show ("second" : Str) ≠ "split" by decide +kernel) (show lowIn (.str "second") _ = true by decide +kernel) (show anyD (.str "second") _ = false by decide +kernel) (settled_at q ns x m h1 (by omega) (by omega))
  | .inl A q, ns, d, n, h, hn, hl => by
    obtain ⟨m, rfl⟩ := pos_of hn
    have hq : pdep q + 1 ≤ m + 1 := hn
    have hl' : ns.length + (pdep q + 1) ≤ 2000 := hl
    obtain ⟨x, h1, rfl⟩ := map_some (show (stl q ns).map (.inl A) = some d from h)
    exact settled_mark (.inl A q) q A ns x m rfl (show ("left" : Str) ≠ "name" by decide +kernel) (show ("left" : Str) ≠ "bind" by decide +kernel) (show ("left" : Str) ≠ "split" by decide +kernel) (show lowIn (.str "left") _ = true by decide +kernel) (show anyD (.str "left") _ = true by decide +kernel) (settled_at q ns x m h1 (by omega) (by omega))
  | .inr A q, ns, d, n, h, hn, hl => by
    obtain ⟨m, rfl⟩ := pos_of hn
    have hq : pdep q + 1 ≤ m + 1 := hn
    have hl' : ns.length + (pdep q + 1) ≤ 2000 := hl
    obtain ⟨x, h1, rfl⟩ := map_some (show (stl q ns).map (.inr A) = some d from h)
    exact settled_mark (.inr A q) q A ns x m rfl (show ("right" : Str) ≠ "name" by decide +kernel) (show ("right" : Str) ≠ "bind" by decide +kernel) (show ("right" : Str) ≠ "split" by decide +kernel) (show lowIn (.str "right") _ = true by decide +kernel) (show anyD (.str "right") _ = true by decide +kernel) (settled_at q ns x m h1 (by omega) (by omega))
  | .never A q, ns, d, n, h, hn, hl => by
    obtain ⟨m, rfl⟩ := pos_of hn
    have hq : pdep q + 1 ≤ m + 1 := hn
    have hl' : ns.length + (pdep q + 1) ≤ 2000 := hl
    obtain ⟨x, h1, rfl⟩ := map_some (show (stl q ns).map (.never A) = some d from h)
    exact settled_mark (.never A q) q A ns x m rfl (show ("never" : Str) ≠ "name" by decide +kernel) (show ("never" : Str) ≠ "bind" by decide +kernel) (show ("never" : Str) ≠ "split" by decide +kernel) (show lowIn (.str "never") _ = true by decide +kernel) (show anyD (.str "never") _ = true by decide +kernel) (settled_at q ns x m h1 (by omega) (by omega))
  | .split p k q j r, ns, d, n, h, hn, hl => by
    obtain ⟨m, rfl⟩ := pos_of hn
    have hq : max (pdep p) (max (pdep q) (pdep r)) + 2 ≤ m + 1 := hn
    have hl' : ns.length + (max (pdep p) (max (pdep q) (pdep r)) + 2) ≤ 2000 := hl
    unfold stl at h
    split at h
    · rename_i a b c ha hb hc
      cases h
      exact settled_split p q r k j ns a b c m (by omega) (settled_at p ns a m ha (by omega) (by omega)) (settled_at q (k :: ns) b m hb (by omega) (by show ns.length + 1 + pdep q ≤ 2000; omega)) (settled_at r (j :: ns) c m hc (by omega) (by show ns.length + 1 + pdep r ≤ 2000; omega))
    · cases h
end
end K07
end L3
end
section
set_option Elab.async false
set_option linter.all false
set_option maxRecDepth 100000
set_option maxHeartbeats 0
namespace L3
namespace K07
open PySem G
mutual
theorem pureT : ∀ t : G.Tree, (encT t).pure = true
  | .node fs cs => by
    show (true && ((PV.tup (fs.map .str)).pure && ((PV.pures (encTs cs)) && true))) = true
    rw [pureTs cs]
    have : ∀ l : List Str, PV.pures (l.map .str) = true := fun l => by
      induction l with
      | nil => rfl
      | cons x l ih => show (true && PV.pures (l.map .str)) = true; rw [ih]; rfl
    show (true && (PV.pures (fs.map .str) && (true && true))) = true
    rw [this]; rfl
theorem pureTs : ∀ ts : List G.Tree, PV.pures (encTs ts) = true
  | [] => rfl
  | t :: ts => by
    show ((encT t).pure && PV.pures (encTs ts)) = true
    rw [pureT t, pureTs ts]; rfl
end
theorem pureR (r : Res) : (encR r).pure = true := by
  cases r with
  | prog p => show (true && ((encP p).pure && true)) = true; rw [pureP]; rfl
  | world t => show (true && ((encT t).pure && true)) = true; rw [pureT]; rfl
theorem pureFs : ∀ l : List Fm, PV.pures (l.map encF) = true
  | [] => rfl
  | A :: l => by show ((encF A).pure && PV.pures (l.map encF)) = true; rw [pureF, pureFs l]; rfl
section
variable {C : Addr} {st : Store} {i nm f a t : Nat} {av : PV} {s : St} {env : EnvP}
theorem arg1 {f : FE} {v : PV} {st1 : Store} (h : f env st = some (v, st1)) : aCons f aNil env st = some ([v], st1) := by
  unfold aCons aNil; rw [h]
theorem tupB {f1 f2 : FE} {v1 v2 : PV} (h1 : f1 env st = some (v1, st)) (h2 : f2 env st = some (v2, st)) : eTup (aCons f1 (aCons f2 aNil)) env st = some (.tup [v1, v2], st) := by
  unfold eTup aCons aNil
  rw [h1]
  simp only [h2]
  try rfl
/-- names for the hypotheses -/
def nms_of (k : Nat) (Γ : List Fm) : List Nat := (startCx k Γ).map (·.1)
theorem nms_len : ∀ (Γ : List Fm) (k : Nat), (nms_of k Γ).length = Γ.length
  | [], _ => rfl
  | A :: Γ, k => by show (nms_of (k + 1) Γ).length + 1 = Γ.length + 1; rw [nms_len Γ (k + 1)]
theorem cx_snd : ∀ (Γ : List Fm) (k : Nat), (startCx k Γ).map (·.2) = Γ
  | [], _ => rfl
  | A :: Γ, k => by show A :: (startCx (k + 1) Γ).map (·.2) = A :: Γ; rw [cx_snd Γ (k + 1)]
theorem comp_fresh (n : Nat) {x0 x1 : Option PV} {x3 x4 : Option PV} : ∀ (Γ : List Fm) (k : Nat) (st : Store) (acc : List PV), Here C st i nm f av t { s with k := k } → k + Γ.length ≤ lim → acc.length + Γ.length ≤ 1000 →
    ∃ st', comp (tN 5) tYes (eM C "fresh" (run C (n + 1) .Search_fresh) (eVar 2) aNil) [x0, x1, some (.loc i), x3, x4, none] (Γ.map encF) acc st = some (acc ++ (nms_of k Γ).map encN, st') ∧ Here C st' i nm f av t { s with k := k + Γ.length }
  | [], k, st, acc, H, _, _ => ⟨st, by show some (acc, st) = some (acc ++ [], st); rw [List.append_nil], H⟩
  | A :: Γ, k, st, acc, H, hk, ha => by
    have hk' : k + (Γ.length + 1) ≤ lim := hk
    have ha' : acc.length + (Γ.length + 1) ≤ 1000 := ha
    have H2 := H.setN (k + 1)
    obtain ⟨st', e1, e2⟩ := comp_fresh n Γ (k + 1) (st.set nm (trues (k + 1))) (acc ++ [encN k]) H2 (by omega) (by simp; omega)
    refine ⟨st', ?_, ?_⟩
    · have fr : eM C "fresh" (run C (n + 1) .Search_fresh) (eVar 2) aNil [x0, x1, some (.loc i), x3, x4, some (encF A)] st = some (encN k, st.set nm (trues (k + 1))) := by
        rw [meth_at H (as := []) (st2 := st) rfl rfl rfl]
        exact fresh_at n H (show k < lim by omega)
      have hlen : acc.length < sizeLine := Nat.lt_of_lt_of_le (show acc.length < 2000 by omega) (line_le (Nat.le_refl _))
      show (match eM C "fresh" (run C (n + 1) .Search_fresh) (eVar 2) aNil [x0, x1, some (.loc i), x3, x4, some (encF A)] st with
        | some (y, st2) => if acc.length < sizeLine then comp (tN 5) tYes (eM C "fresh" (run C (n + 1) .Search_fresh) (eVar 2) aNil) [x0, x1, some (.loc i), x3, x4, none] (Γ.map encF) (acc ++ [y]) st2 else none
        | none => none) = _
      rw [fr]
      simp only
      rw [if_pos hlen, e1]
      show some (acc ++ [encN k] ++ (nms_of (k + 1) Γ).map encN, st') = some (acc ++ encN k :: (nms_of (k + 1) Γ).map encN, st')
      rw [List.append_assoc]; rfl
    · have : k + 1 + Γ.length = k + (Γ.length + 1) := by omega
      rw [this] at e2
      exact e2
theorem zip_todo : ∀ (Γ : List Fm) (k : Nat), zipP (Γ.map encF) ((nms_of k Γ).map encN) = (startTodo k Γ).map encQ
  | [], _ => rfl
  | A :: Γ, k => by
    show PV.tup [encF A, encN k] :: zipP (Γ.map encF) ((nms_of (k + 1) Γ).map encN) = _
    rw [zip_todo Γ (k + 1)]; rfl
/-- the beginning -/
theorem here0 (C : Addr) : eNew C (g_init C) (aCons (eLstM aNil) (aCons eDic (aCons (eLstM aNil) (aCons (eLstM aNil) aNil)))) env [] = some (.loc 4, [.lst [], .dic [], .lst [], .lst [], .ins C (flds 0 1 (.loc 2) 3)])
    ∧ Here C [.lst [], .dic [], .lst [], .lst [], .ins C (flds 0 1 (.loc 2) 3)] 4 0 1 (.loc 2) 3 ⟨0, [], [], []⟩ := by
  refine ⟨?_, rfl, rfl, rfl, rfl, rfl, by decide, fun a e => by cases e; decide⟩
  have h0 : (0 : Nat) ≤ sizeLine := Nat.zero_le _
  have ha : aCons (eLstM aNil) (aCons eDic (aCons (eLstM aNil) (aCons (eLstM aNil) aNil))) env [] = some ([.loc 0, .loc 1, .loc 2, .loc 3], [.lst [], .dic [], .lst [], .lst []]) := by
    simp only [aCons, eLstM, aNil, List.length_nil, h0, if_true, eDic]
    rfl
  exact new_at ha
theorem start_set (Γ : List Fm) : (start Γ) = { (⟨Γ.length, [], [], []⟩ : St) with todo := startTodo 0 Γ } := rfl
/-- decide: as the search says -/
theorem decide_at (n : Nat) {Γ : List Fm} {g : Fm} {k : Nat} {r : Res} (hl : Γ.length ≤ 100) (h : sv (n + 1) (start Γ) g = some (k, r)) (hd : ∀ p, r = .prog p → pdep p ≤ n + 1 ∧ pdep p ≤ 400 ∧ ∃ A, Ty (startCx 0 Γ) p A) :
    ∃ st', run C (n + 2) .decide [.tup (Γ.map encF), encF g] [] = some (match r with
      | .prog p => (.tup [.str "program", match stl p (nms_of 0 Γ) with | some d => encD d | none => .non])
      | .world t => encR (.world t), st') := by
  obtain ⟨n0, H0⟩ := here0 (env := [some (.tup (Γ.map encF)), some (encF g), none, none, none, none]) C
  obtain ⟨st1, c1, H1⟩ := comp_fresh (i := 4) (nm := 0) (f := 1) (av := .loc 2) (t := 3) (s := ⟨0, [], [], []⟩) n (x0 := some (.tup (Γ.map encF))) (x1 := some (encF g)) (x3 := none) (x4 := none) Γ 0 _ [] H0 (by show 0 + Γ.length ≤ 16777216; omega) (by simp; omega)
  have H1' : Here C st1 4 0 1 (.loc 2) 3 ⟨Γ.length, [], [], []⟩ := by
    have := H1
    rw [Nat.zero_add] at this
    exact this
  have H2 : Here C (st1.set 3 (.lst ((startTodo 0 Γ).reverse.map encQ))) 4 0 1 (.loc 2) 3 (start Γ) := H1'.setT (startTodo 0 Γ)
  obtain ⟨st3, e3, P⟩ := MS_all C (n + 1) _ _ _ _ _ _ _ g k r H2 (fun q hq => nomatch hq) h
  have s1 : sSet 2 (eNew C (g_init C) (aCons (eLstM aNil) (aCons eDic (aCons (eLstM aNil) (aCons (eLstM aNil) aNil))))) [some (.tup (Γ.map encF)), some (encF g), none, none, none, none] [] = some (.nx, [some (.tup (Γ.map encF)), some (encF g), some (.loc 4), none, none, none], [.lst [], .dic [], .lst [], .lst [], .ins C (flds 0 1 (.loc 2) 3)]) := by
    unfold sSet; rw [n0]; rfl
  have s2 : sSet 3 (eCall cTupX (aCons (eLc (iSeq (eVar 0)) (tN 5) tYes (eM C "fresh" (run C (n + 1) .Search_fresh) (eVar 2) aNil) [5]) aNil)) [some (.tup (Γ.map encF)), some (encF g), some (.loc 4), none, none, none] [.lst [], .dic [], .lst [], .lst [], .ins C (flds 0 1 (.loc 2) 3)]
      = some (.nx, [some (.tup (Γ.map encF)), some (encF g), some (.loc 4), some (nms (nms_of 0 Γ)), none, none], st1) := by
    have q : eLc (iSeq (eVar 0)) (tN 5) tYes (eM C "fresh" (run C (n + 1) .Search_fresh) (eVar 2) aNil) [5] [some (.tup (Γ.map encF)), some (encF g), some (.loc 4), none, none, none] [.lst [], .dic [], .lst [], .lst [], .ins C (flds 0 1 (.loc 2) 3)] = some (.lst ((nms_of 0 Γ).map encN), st1) := by
      show (match comp (tN 5) tYes (eM C "fresh" (run C (n + 1) .Search_fresh) (eVar 2) aNil) [some (.tup (Γ.map encF)), some (encF g), some (.loc 4), none, none, none] (Γ.map encF) [] [.lst [], .dic [], .lst [], .lst [], .ins C (flds 0 1 (.loc 2) 3)] with
        | some (ys, st2) => some (PV.lst ys, st2)
        | none => none) = _
      rw [c1]; rfl
    unfold sSet eCall aCons
    rw [q]
    rfl
  have t1 : st1[3]? = some (.lst []) := H1'.tod
  have s3 : sEx (eBM mExtend (eFld C "todo" (eVar 2)) (aCons (eUn gRev (eLstZ (aCons (eVar 0) (aCons (eVar 3) aNil)))) aNil)) [some (.tup (Γ.map encF)), some (encF g), some (.loc 4), some (nms (nms_of 0 Γ)), none, none] st1
      = some (.nx, [some (.tup (Γ.map encF)), some (encF g), some (.loc 4), some (nms (nms_of 0 Γ)), none, none], st1.set 3 (.lst ((startTodo 0 Γ).reverse.map encQ))) := by
    have f1 : eFld C "todo" (eVar 2) [some (.tup (Γ.map encF)), some (encF g), some (.loc 4), some (nms (nms_of 0 Γ)), none, none] st1 = some (.loc 3, st1) := fld_at H1' rfl lk_todo
    have z1 : eLstZ (aCons (eVar 0) (aCons (eVar 3) aNil)) [some (.tup (Γ.map encF)), some (encF g), some (.loc 4), some (nms (nms_of 0 Γ)), none, none] st1 = some (.lst ((startTodo 0 Γ).map encQ), st1) := by
      rw [← zip_todo]; rfl
    have z2 : aCons (eUn gRev (eLstZ (aCons (eVar 0) (aCons (eVar 3) aNil)))) aNil [some (.tup (Γ.map encF)), some (encF g), some (.loc 4), some (nms (nms_of 0 Γ)), none, none] st1 = some ([.lst ((startTodo 0 Γ).reverse.map encQ)], st1) := by
      refine arg1 ?_
      unfold eUn
      rw [z1]
      show some (PV.lst ((startTodo 0 Γ).map encQ).reverse, st1) = _
      rw [List.map_reverse]
    have hz : ((startTodo 0 Γ).reverse.map encQ).length ≤ 2000 := by
      have : ∀ (Γ : List Fm) (k : Nat), (startTodo k Γ).length = Γ.length := fun Γ => by
        induction Γ with
        | nil => exact fun _ => rfl
        | cons A Γ ih => exact fun k => by show (startTodo (k + 1) Γ).length + 1 = _; rw [ih]; rfl
      simp [this]; omega
    have e0 : seqL (.loc 3) st1 = some [] := seqL_cell t1
    unfold sEx eBM
    rw [f1]
    simp only [e0, z2]
    have x : mExtend (.loc 3) [.lst ((startTodo 0 Γ).reverse.map encQ)] st1 = some (.non, st1.set 3 (.lst ((startTodo 0 Γ).reverse.map encQ))) := by
      show (match lcell 3 st1, some ((startTodo 0 Γ).reverse.map encQ) with
        | some xs, some ys => if xs.length + ys.length ≤ sizeLine then some (PV.non, st1.set 3 (.lst (xs ++ ys))) else none
        | _, _ => none) = _
      have lc : lcell 3 st1 = some [] := by unfold lcell; rw [t1]
      rw [lc]
      simp only [List.length_nil, Nat.zero_add, List.nil_append]
      rw [if_pos (line_le hz)]
    rw [x]
  have s4 : sSet 4 (eS (run C (n + 1) .solve) (aCons (eVar 2) (aCons (eVar 1) aNil))) [some (.tup (Γ.map encF)), some (encF g), some (.loc 4), some (nms (nms_of 0 Γ)), none, none] (st1.set 3 (.lst ((startTodo 0 Γ).reverse.map encQ)))
      = some (.nx, [some (.tup (Γ.map encF)), some (encF g), some (.loc 4), some (nms (nms_of 0 Γ)), some (encR r), none], st3) := by
    unfold sSet
    have : eS (run C (n + 1) .solve) (aCons (eVar 2) (aCons (eVar 1) aNil)) [some (.tup (Γ.map encF)), some (encF g), some (.loc 4), some (nms (nms_of 0 Γ)), none, none] (st1.set 3 (.lst ((startTodo 0 Γ).reverse.map encQ))) = some (encR r, st3) := e3
    rw [this]
    rfl
  have tw := told_at (st := st3) (env := [some (.tup (Γ.map encF)), some (encF g), some (.loc 4), some (nms (nms_of 0 Γ)), some (encR r), none]) (k := 4) (r := r) rfl
  refine ⟨st3, ?_⟩
  show fnS 2 4 (b_decide (run C (n + 1)) C (n + 1)) _ _ = _
  unfold fnS b_decide
  rw [if_pos (show [PV.tup (Γ.map encF), encF g].length = 2 from rfl)]
  show (match (sSeq (sSet 2 (eNew C (g_init C) (aCons (eLstM aNil) (aCons eDic (aCons (eLstM aNil) (aCons (eLstM aNil) aNil)))))) _) [some (.tup (Γ.map encF)), some (encF g), none, none, none, none] [] with
    | some (.ret v, _, st') => some (v, st')
    | some (.nx, _, st') => some (.non, st')
    | _ => none) = _
  rw [sSeq, s1]
  simp only
  rw [sSeq, s2]
  simp only
  rw [sSeq, s3]
  simp only
  rw [sSeq, s4]
  simp only
  unfold sRet eIf
  rw [tw]
  cases r with
  | world t => rfl
  | prog p =>
    obtain ⟨h1, h2, A, ty⟩ := hd p rfl
    obtain ⟨d, q1, q2⟩ := stl_ok ty
    have hs : run C (n + 1) .settled [encP p, nms (nms_of 0 Γ)] [] = some (encD d, []) := settled_at p _ d (n + 1) q1 h1 (by rw [nms_len]; omega)
    have ee : eP (run C (n + 1) .settled) (aCons (eBin gIx (eVar 4) (eC (.int 1))) (aCons (eVar 3) aNil)) [some (.tup (Γ.map encF)), some (encF g), some (.loc 4), some (nms (nms_of 0 Γ)), some (encR (.prog p)), none] st3 = some (encD d, st3) :=
      eP_at (as := [encP p, nms (nms_of 0 Γ)]) rfl (pureArgs p _) hs (pureD d)
    simp only
    rw [tupB (v1 := .str "program") (v2 := encD d) rfl ee, show stl p (nms_of 0 Γ) = some d from q1]
end
end K07
end L3
end
section
set_option Elab.async false
set_option linter.all false
set_option maxRecDepth 100000
set_option maxHeartbeats 0
namespace L3
namespace K07
open PySem G
section
variable {C : Addr} {ns : List Int} {st : Store} {i b x l : Int} {e : EnvP}
/-! ### numbers drawn from the script -/
def dst (ns : List Int) (i b x : Int) : Store := [.lst (ns.map .int), .lst [.loc 0, .int i, .int b, .int x]]
def DrS (ns : List Int) (st : Store) : Prop := ∃ i b x : Int, 0 ≤ i ∧ 0 ≤ b ∧ st = dst ns i b x
def dI (k : Int) : FE := eBin gIx (eVar 0) (eC (.int k))
theorem dI0 : dI 0 (some (.loc 1) :: e) (dst ns i b x) = some (.loc 0, dst ns i b x) := rfl
theorem dI1 : dI 1 (some (.loc 1) :: e) (dst ns i b x) = some (.int i, dst ns i b x) := rfl
theorem dI2 : dI 2 (some (.loc 1) :: e) (dst ns i b x) = some (.int b, dst ns i b x) := rfl
theorem dI3 : dI 3 (some (.loc 1) :: e) (dst ns i b x) = some (.int x, dst ns i b x) := rfl
theorem dP1 {f : FE} {v : Int} (h : f (some (.loc 1) :: e) (dst ns i b x) = some (.int v, dst ns i b x)) : sLput (eVar 0) (eC (.int 1)) f (some (.loc 1) :: e) (dst ns i b x) = some (.nx, some (.loc 1) :: e, dst ns v b x) := by
  unfold sLput; rw [h]; rfl
theorem dP2 {f : FE} {v : Int} (h : f (some (.loc 1) :: e) (dst ns i b x) = some (.int v, dst ns i b x)) : sLput (eVar 0) (eC (.int 2)) f (some (.loc 1) :: e) (dst ns i b x) = some (.nx, some (.loc 1) :: e, dst ns i v x) := by
  unfold sLput; rw [h]; rfl
theorem dP3 {f : FE} {v : Int} (h : f (some (.loc 1) :: e) (dst ns i b x) = some (.int v, dst ns i b x)) : sLput (eVar 0) (eC (.int 3)) f (some (.loc 1) :: e) (dst ns i b x) = some (.nx, some (.loc 1) :: e, dst ns i b v) := by
  unfold sLput; rw [h]; rfl
theorem eq_int (u v : Int) (st : Store) : gEq (.int u) (.int v) st = some (.bl (u == v), st) := rfl
theorem int_eq {g : G2} {f1 f2 : FE} {u v : Int} {env : EnvP} {w : Option (PV × Store)} (h1 : f1 env st = some (.int u, st)) (h2 : f2 env st = some (.int v, st)) (hg : g (.int u) (.int v) st = w) : eBin g f1 f2 env st = w := by
  unfold eBin; rw [h1]; simp only [h2, hg]
def dT1 : FT := tAnd2 (tOf (eBin gEq (dI 2) (eC (.int 0)))) (tOf (eBin gLt (dI 1) (eCall cLen (aCons (dI 0) aNil))))
def dB1 : FS := sSeq (sSet 2 (eBin gIx (dI 0) (dI 1))) (sSeq (sLput (eVar 0) (eC (.int 1)) (eBin gAdd (dI 1) (eC (.int 1)))) (sSeq (sIf (tOf (eBin gGe (eVar 2) (eBin gPow (eC (.int 10)) (eC (.int 18))))) (sLput (eVar 0) (eC (.int 2)) (eVar 2)) sNx) (sLput (eVar 0) (eC (.int 3)) (eBin gMod (eCall cInt (aCons (eBin gAdd (eBin gAdd (eBin gMul (dI 3) (eC (.int 48271))) (eVar 2)) (eC (.int 13))) aNil)) (eC (.int 2147483647))))))
def dB2 : FS := sSeq (sSet 3 (eBin gMod (eCall cInt (aCons (dI 2) aNil)) (eVar 1))) (sSeq (sLput (eVar 0) (eC (.int 2)) (eBin gDiv (dI 2) (eVar 1))) (sRet (eVar 3)))
def dB3 : FS := sSeq (sLput (eVar 0) (eC (.int 3)) (eBin gMod (eCall cInt (aCons (eBin gAdd (eBin gMul (dI 3) (eC (.int 69621))) (eC (.int 7))) aNil)) (eC (.int 2147483629)))) (sRet (eBin gMod (eCall cInt (aCons (eBin gDiv (dI 3) (eC (.int 11))) aNil)) (eVar 1)))
theorem b_law_draw_eq (R : Fn → GA) (n : Nat) : b_law_draw R C n = sSeq (sIf dT1 dB1 sNx) (sSeq (sIf (tOf (eBin gGt (dI 2) (eC (.int 0)))) dB2 sNx) dB3) := rfl
theorem dT1_at : dT1 (some (.loc 1) :: e) (dst ns i b x) = some (decide (b = 0 ∧ i < (ns.map PV.int).length), dst ns i b x) := by
  have h1 : eBin gEq (dI 2) (eC (.int 0)) (some (.loc 1) :: e) (dst ns i b x) = some (.bl (b == 0), dst ns i b x) := int_eq dI2 rfl rfl
  have h2 : eBin gLt (dI 1) (eCall cLen (aCons (dI 0) aNil)) (some (.loc 1) :: e) (dst ns i b x) = some (.bl (decide (i < (ns.map PV.int).length)), dst ns i b x) := int_eq dI1 rfl rfl
  unfold dT1 tAnd2 tOf
  rw [h1]
  by_cases hb : b = 0
  · subst hb
    simp only [BEq.rfl, h2, true_and]
  · rw [beq_eq_false_iff_ne.mpr hb]
    simp [hb]
theorem item_at (h0 : 0 ≤ i) (hi : i < (ns.map PV.int).length) : ∃ v : Int, eBin gIx (dI 0) (dI 1) (some (.loc 1) :: e) (dst ns i b x) = some (.int v, dst ns i b x) := by
  obtain ⟨k, rfl⟩ : ∃ k : Nat, i = k := ⟨i.toNat, by omega⟩
  have hk : k < ns.length := by simp at hi; omega
  refine ⟨ns[k], ?_⟩
  unfold eBin
  rw [dI0]
  simp only [dI1]
  have a1 : L2.atI (ns.map PV.int) (k : Int) = some (.int ns[k]) := by
    unfold L2.atI L2.ixN
    rw [if_pos h0, if_pos hi]
    simp [hk]
  show (match L2.atI (ns.map PV.int) (k : Int) with | some v => some (v, dst ns k b x) | none => none) = _
  rw [a1]
theorem mul_at {u v : Int} (hv : -(2 ^ 64) < v ∧ v < 2 ^ 64) : gMul (.int u) (.int v) st = some (.int (u * v), st) := by
  unfold gMul gIntC
  simp only
  rw [if_pos (by rw [decide_eq_true_eq]; exact .inr hv)]
theorem mod_at {u v : Int} (hv : 0 < v) : gMod (.int u) (.int v) st = some (.int (u % v), st) := by
  unfold gMod gIntC
  simp only
  rw [if_pos (by rw [decide_eq_true_eq]; exact hv)]
theorem div_at {u v : Int} (hv : 0 < v) (h2 : v < 1073741824) : gDiv (.int u) (.int v) st = some (.int (u / v), st) := by
  unfold gDiv gIntC
  simp only
  rw [if_pos (by rw [decide_eq_true_eq]; exact ⟨hv, h2⟩)]
theorem int_at {f : FE} {u : Int} {env : EnvP} (h : f env st = some (.int u, st)) : eCall cInt (aCons f aNil) env st = some (.int u, st) := by
  unfold eCall aCons aNil
  rw [h]; rfl
theorem pow_at : gPow (.int 10) (.int 18) st = some (.int (10 ^ 18), st) := by
  unfold gPow gIntC
  simp only
  rw [if_pos (by decide)]
  rfl
theorem dB1_at (h0 : 0 ≤ i) (hi : i < (ns.map PV.int).length) (hb : 0 ≤ b) {e1 e2 e3 : Option PV} : ∃ i' b' x' v : Int, 0 ≤ i' ∧ 0 ≤ b' ∧ dB1 [some (.loc 1), e1, e2, e3] (dst ns i b x) = some (.nx, [some (.loc 1), e1, some (.int v), e3], dst ns i' b' x') := by
  obtain ⟨v, hv⟩ := item_at (e := [e1, e2, e3]) (b := b) (x := x) h0 hi
  have s1 : sSet 2 (eBin gIx (dI 0) (dI 1)) [some (.loc 1), e1, e2, e3] (dst ns i b x) = some (.nx, [some (.loc 1), e1, some (.int v), e3], dst ns i b x) := by
    unfold sSet; rw [hv]; rfl
  have s2 : sLput (eVar 0) (eC (.int 1)) (eBin gAdd (dI 1) (eC (.int 1))) [some (.loc 1), e1, some (.int v), e3] (dst ns i b x) = some (.nx, [some (.loc 1), e1, some (.int v), e3], dst ns (i + 1) b x) := dP1 (int_eq dI1 rfl rfl)
  have t3 : tOf (eBin gGe (eVar 2) (eBin gPow (eC (.int 10)) (eC (.int 18)))) [some (.loc 1), e1, some (.int v), e3] (dst ns (i + 1) b x) = some (decide ((10 : Int) ^ 18 ≤ v), dst ns (i + 1) b x) := by
    unfold tOf
    rw [int_eq (u := v) (v := 10 ^ 18) (g := gGe) rfl (int_eq rfl rfl pow_at) rfl]
    rfl
  have s3 : ∃ b' : Int, 0 ≤ b' ∧ sIf (tOf (eBin gGe (eVar 2) (eBin gPow (eC (.int 10)) (eC (.int 18))))) (sLput (eVar 0) (eC (.int 2)) (eVar 2)) sNx [some (.loc 1), e1, some (.int v), e3] (dst ns (i + 1) b x) = some (.nx, [some (.loc 1), e1, some (.int v), e3], dst ns (i + 1) b' x) := by
    unfold sIf
    rw [t3]
    by_cases h : (10 : Int) ^ 18 ≤ v
    · rw [decide_eq_true h]
      exact ⟨v, by have : (0 : Int) ≤ 10 ^ 18 := by decide
                   omega, dP2 rfl⟩
    · rw [decide_eq_false h]
      exact ⟨b, hb, rfl⟩
  obtain ⟨b', hb', s3⟩ := s3
  have s4 : sLput (eVar 0) (eC (.int 3)) (eBin gMod (eCall cInt (aCons (eBin gAdd (eBin gAdd (eBin gMul (dI 3) (eC (.int 48271))) (eVar 2)) (eC (.int 13))) aNil)) (eC (.int 2147483647))) [some (.loc 1), e1, some (.int v), e3] (dst ns (i + 1) b' x) = some (.nx, [some (.loc 1), e1, some (.int v), e3], dst ns (i + 1) b' ((x * 48271 + v + 13) % 2147483647)) :=
    dP3 (int_eq (int_at (int_eq (int_eq (int_eq dI3 rfl (mul_at (by decide))) rfl rfl) rfl rfl)) rfl (mod_at (by decide)))
  refine ⟨i + 1, b', (x * 48271 + v + 13) % 2147483647, v, Int.le_add_one h0, hb', ?_⟩
  unfold dB1
  rw [sSeq, s1]
  simp only
  rw [sSeq, s2]
  simp only
  rw [sSeq, s3]
  exact s4
theorem law_draw_at (n : Nat) (D : DrS ns st) (h0 : 0 < l) (h1 : l < 1073741824) : ∃ (v : Int) (st' : Store), run C (n + 1) .law_draw [.loc 1, .int l] st = some (.int v, st') ∧ 0 ≤ v ∧ v < l ∧ DrS ns st' := by
  obtain ⟨i, b, x, hi, hb, rfl⟩ := D
  have S1 : ∃ (i' b' x' : Int) (e2 : Option PV), 0 ≤ i' ∧ 0 ≤ b' ∧ sIf dT1 dB1 sNx [some (.loc 1), some (.int l), none, none] (dst ns i b x) = some (.nx, [some (.loc 1), some (.int l), e2, none], dst ns i' b' x') := by
    unfold sIf
    rw [dT1_at]
    by_cases h : b = 0 ∧ i < (ns.map PV.int).length
    · rw [decide_eq_true h]
      obtain ⟨i', b', x', v, q1, q2, q3⟩ := dB1_at (ns := ns) (x := x) (e1 := some (.int l)) (e2 := none) (e3 := none) hi h.2 hb
      exact ⟨i', b', x', _, q1, q2, q3⟩
    · rw [decide_eq_false h]
      exact ⟨i, b, x, none, hi, hb, rfl⟩
  obtain ⟨i', b', x', e2, q1, q2, S1⟩ := S1
  have t2 : tOf (eBin gGt (dI 2) (eC (.int 0))) [some (.loc 1), some (.int l), e2, none] (dst ns i' b' x') = some (decide (0 < b'), dst ns i' b' x') := by
    unfold tOf
    rw [int_eq (g := gGt) dI2 rfl rfl]
    rfl
  show ∃ v st', fnS 2 2 (b_law_draw (run C n) C n) [.loc 1, .int l] (dst ns i b x) = _ ∧ _
  rw [b_law_draw_eq]
  by_cases h : 0 < b'
  · refine ⟨b' % l, dst ns i' (b' / l) x', ?_, Int.emod_nonneg _ (by omega), Int.emod_lt_of_pos _ h0, ⟨i', _, x', q1, Int.ediv_nonneg (by omega) (by omega), rfl⟩⟩
    have s1 : sSet 3 (eBin gMod (eCall cInt (aCons (dI 2) aNil)) (eVar 1)) [some (.loc 1), some (.int l), e2, none] (dst ns i' b' x') = some (.nx, [some (.loc 1), some (.int l), e2, some (.int (b' % l))], dst ns i' b' x') := by
      unfold sSet
      rw [int_eq (g := gMod) (int_at dI2) rfl (mod_at h0)]
      rfl
    have s2 : sLput (eVar 0) (eC (.int 2)) (eBin gDiv (dI 2) (eVar 1)) [some (.loc 1), some (.int l), e2, some (.int (b' % l))] (dst ns i' b' x') = some (.nx, [some (.loc 1), some (.int l), e2, some (.int (b' % l))], dst ns i' (b' / l) x') := dP2 (int_eq dI2 rfl (div_at h0 h1))
    have S2 : sIf (tOf (eBin gGt (dI 2) (eC (.int 0)))) dB2 sNx [some (.loc 1), some (.int l), e2, none] (dst ns i' b' x') = some (.ret (.int (b' % l)), [some (.loc 1), some (.int l), e2, some (.int (b' % l))], dst ns i' (b' / l) x') := by
      unfold sIf
      rw [t2, decide_eq_true h]
      simp only
      unfold dB2
      rw [sSeq, s1]
      simp only
      rw [sSeq, s2]
      rfl
    unfold fnS
    rw [if_pos (show [PV.loc 1, PV.int l].length = 2 from rfl)]
    rw [sSeq]
    show (match (match sIf dT1 dB1 sNx [some (.loc 1), some (.int l), none, none] (dst ns i b x) with | some (.nx, env1, st1) => sSeq (sIf (tOf (eBin gGt (dI 2) (eC (.int 0)))) dB2 sNx) dB3 env1 st1 | r => r) with | some (.ret v, _, st') => some (v, st') | some (.nx, _, st') => some (.non, st') | _ => none) = _
    rw [S1]
    simp only
    rw [sSeq, S2]
  · have s4 : sLput (eVar 0) (eC (.int 3)) (eBin gMod (eCall cInt (aCons (eBin gAdd (eBin gMul (dI 3) (eC (.int 69621))) (eC (.int 7))) aNil)) (eC (.int 2147483629))) [some (.loc 1), some (.int l), e2, none] (dst ns i' b' x') = some (.nx, [some (.loc 1), some (.int l), e2, none], dst ns i' b' ((x' * 69621 + 7) % 2147483629)) :=
      dP3 (int_eq (int_at (int_eq (int_eq dI3 rfl (mul_at (by decide))) rfl rfl)) rfl (mod_at (by decide)))
    have s5 : eBin gMod (eCall cInt (aCons (eBin gDiv (dI 3) (eC (.int 11))) aNil)) (eVar 1) [some (.loc 1), some (.int l), e2, none] (dst ns i' b' ((x' * 69621 + 7) % 2147483629)) = some (.int ((((x' * 69621 + 7) % 2147483629) / 11) % l), dst ns i' b' ((x' * 69621 + 7) % 2147483629)) :=
      int_eq (int_at (int_eq dI3 rfl (div_at (by decide) (by decide)))) rfl (mod_at h0)
    have S2 : sIf (tOf (eBin gGt (dI 2) (eC (.int 0)))) dB2 sNx [some (.loc 1), some (.int l), e2, none] (dst ns i' b' x') = some (.nx, [some (.loc 1), some (.int l), e2, none], dst ns i' b' x') := by
      unfold sIf
      rw [t2, decide_eq_false h]
      rfl
    refine ⟨(((x' * 69621 + 7) % 2147483629) / 11) % l, dst ns i' b' ((x' * 69621 + 7) % 2147483629), ?_, Int.emod_nonneg _ (by omega), Int.emod_lt_of_pos _ h0, ⟨i', b', _, q1, q2, rfl⟩⟩
    unfold fnS
    rw [if_pos (show [PV.loc 1, PV.int l].length = 2 from rfl)]
    rw [sSeq]
    show (match (match sIf dT1 dB1 sNx [some (.loc 1), some (.int l), none, none] (dst ns i b x) with | some (.nx, env1, st1) => sSeq (sIf (tOf (eBin gGt (dI 2) (eC (.int 0)))) dB2 sNx) dB3 env1 st1 | r => r) with | some (.ret v, _, st') => some (v, st') | some (.nx, _, st') => some (.non, st') | _ => none) = _
    rw [S1]
    simp only
    rw [sSeq, S2]
    simp only
    unfold dB3
    rw [sSeq, s4]
    simp only
    unfold sRet
    rw [s5]
end
end K07
end L3
end
section
set_option Elab.async false
set_option linter.all false
set_option maxRecDepth 100000
set_option maxHeartbeats 0
namespace L3
namespace K07
open PySem G
section
variable {C : Addr} {st : Store} {env : EnvP}
/-! ### is_sentence -/
def isYes : Option (PV × Store) → Bool
  | some (.bl true, []) => true
  | _ => false
theorem isYes_eq {r : Option (PV × Store)} (h : isYes r = true) : r = some (.bl true, []) := by
  unfold isYes at h
  split at h
  · rfl
  · cases h
theorem names_yes : okNames.all (fun x => isYes (fnS 1 1 (b_is_name (fun _ _ _ => none) 0 0) [.str x] [])) = true := by decide +kernel
theorem is_name_at (m : Nat) (x : Nm) : run C (m + 1) .is_name [.str x.1] [] = some (.bl true, []) :=
  isYes_eq (List.all_eq_true.mp names_yes x.1 x.2)
theorem tOf_bin {g : G2} {f1 f2 : FE} {v1 v2 : PV} {b : Bool} (h1 : f1 env st = some (v1, st)) (h2 : f2 env st = some (v2, st)) (hg : g v1 v2 st = some (.bl b, st)) : tOf (eBin g f1 f2) env st = some (b, st) := by
  unfold tOf eBin; rw [h1]; simp only [h2, hg]
theorem or2_f {a b : FT} (h : a env st = some (false, st)) : tOr2 a b env st = b env st := by unfold tOr2; rw [h]
theorem or2_t {a b : FT} (h : a env st = some (true, st)) : tOr2 a b env st = some (true, st) := by unfold tOr2; rw [h]
theorem and2_t {a b : FT} (h : a env st = some (true, st)) : tAnd2 a b env st = b env st := by unfold tAnd2; rw [h]
theorem and2_f {a b : FT} (h : a env st = some (false, st)) : tAnd2 a b env st = some (false, st) := by unfold tAnd2; rw [h]
theorem not2_at {a : FT} {b : Bool} (h : a env st = some (b, st)) : tNot2 a env st = some (!b, st) := by unfold tNot2; rw [h]
theorem if_f {t : FT} {a b : FS} (h : t env st = some (false, st)) : sIf t a b env st = b env st := by unfold sIf; rw [h]
theorem if_t {t : FT} {a b : FS} (h : t env st = some (true, st)) : sIf t a b env st = a env st := by unfold sIf; rw [h]
theorem eif_f {t : FT} {a b : FE} (h : t env st = some (false, st)) : eIf t a b env st = b env st := by unfold eIf; rw [h]
theorem eif_t {t : FT} {a b : FE} (h : t env st = some (true, st)) : eIf t a b env st = a env st := by unfold eIf; rw [h]
theorem seq_nx {a b : FS} {env' : EnvP} {st' : Store} (h : a env st = some (.nx, env', st')) : sSeq a b env st = b env' st' := by unfold sSeq; rw [h]
theorem seq_ret {a b : FS} {v : PV} {env' : EnvP} {st' : Store} (h : a env st = some (.ret v, env', st')) : sSeq a b env st = some (.ret v, env', st') := by unfold sSeq; rw [h]
theorem ret_at {f : FE} {v : PV} {st' : Store} (h : f env st = some (v, st')) : sRet f env st = some (.ret v, env, st') := by unfold sRet; rw [h]
theorem set_at {f : FE} {i : Nat} {v : PV} {st' : Store} (h : f env st = some (v, st')) : sSet i f env st = some (.nx, env.set i (some v), st') := by unfold sSet; rw [h]
theorem bin_at {g : G2} {f1 f2 : FE} {v1 v2 : PV} {w : Option (PV × Store)} (h1 : f1 env st = some (v1, st)) (h2 : f2 env st = some (v2, st)) (hg : g v1 v2 st = w) : eBin g f1 f2 env st = w := by
  unfold eBin; rw [h1]; simp only [h2, hg]
theorem fn_ret {n m : Nat} {b : FS} {ps : List PV} {v : PV} {env' : EnvP} {st' : Store} (hl : ps.length = n) (h : b (ps.map some ++ List.replicate m none) st = some (.ret v, env', st')) : fnS n m b ps st = some (v, st') := by
  unfold fnS; rw [if_pos hl, h]
/-- value[0] == y -/
theorem tag_at {k : Nat} {x : Str} {r : List PV} {y : Str} (h : env[k]? = some (some (.tup (.str x :: r)))) (hx : PyData.strOk x = true) (hy : PyData.strOk y = true) : tOf (eBin gEq (eBin gIx (eVar k) (eC (.int 0))) (eC (.str y))) env st = some (decide (x = y), st) := test_tup h hx y hy
/-- the tests of form at the head of size_within and is_program -/
def tForm : FT := tOr2 (tOf (eBin gLt (eVar 1) (eC (.int 1)))) (tOr2 (tNot2 (tOf (eUn (gIsi "tuple") (eVar 0)))) (tOr2 (tOf (eBin gEq (eCall cLen (aCons (eVar 0) (aNil))) (eC (.int 0)))) (tNot2 (tOf (eUn (gIsi "str") (eBin gIx (eVar 0) (eC (.int 0))))))))
theorem tForm_at {x : Str} {r : List PV} {M : Int} {e : EnvP} (hM : 1 ≤ M) : tForm (some (.tup (.str x :: r)) :: some (.int M) :: e) st = some (false, st) := by
  have h1 : tOf (eBin gLt (eVar 1) (eC (.int 1))) (some (.tup (.str x :: r)) :: some (.int M) :: e) st = some (decide (M < 1), st) := rfl
  rw [decide_eq_false (by omega)] at h1
  have h2 : tNot2 (tOf (eUn (gIsi "tuple") (eVar 0))) (some (.tup (.str x :: r)) :: some (.int M) :: e) st = some (false, st) := rfl
  have h3 : tOf (eBin gEq (eCall cLen (aCons (eVar 0) (aNil))) (eC (.int 0))) (some (.tup (.str x :: r)) :: some (.int M) :: e) st = some (false, st) := by
    refine tOf_bin (v1 := .int (r.length + 1 : Nat)) (v2 := .int 0) rfl rfl ?_
    have : gEq (.int (r.length + 1 : Nat)) (.int 0) st = some (.bl (((r.length + 1 : Nat) : Int) == 0), st) := rfl
    rw [this, beq_eq_false_iff_ne.mpr (by omega)]
  have h4 : tNot2 (tOf (eUn (gIsi "str") (eBin gIx (eVar 0) (eC (.int 0))))) (some (.tup (.str x :: r)) :: some (.int M) :: e) st = some (false, st) := by
    unfold tNot2 tOf eUn
    rw [bin_at (v1 := .tup (.str x :: r)) (v2 := .int 0) rfl rfl (ix0 _ _)]
    rfl
  unfold tForm
  rw [or2_f h1, or2_f h2, or2_f h3, h4]
/-- a word with two sides -/
theorem size_two (n : Nat) {w : Str} {a b : Fm} {M : Int} (hw : w = "and" ∨ w = "or" ∨ w = "to") (h1 : run C n .size_within [encF a, .int (M - 1)] [] = some (.int (sz a), [])) (h2 : run C n .size_within [encF b, .int (M - 1 - sz a)] [] = some (.int (sz b), [])) (hM : 1 ≤ M) :
    run C (n + 1) .size_within [.tup [.str w, encF a, encF b], .int M] [] = some (.int (1 + sz a + sz b), []) := by
  have e0 : PyData.strOk w = true := by rcases hw with h | h | h <;> subst h <;> decide +kernel
  have ne1 : w ≠ "false" := by rcases hw with h | h | h <;> subst h <;> decide +kernel
  have ne2 : w ≠ "atom" := by rcases hw with h | h | h <;> subst h <;> decide +kernel
  have a1 : ∀ (e : EnvP) (v : PV) (N : Int), eP (run C n .size_within) (aCons (eBin gIx (eVar 0) (eC (.int 1))) (aCons (eBin gSub (eVar 1) (eC (.int 1))) aNil)) [some (.tup [.str w, encF a, encF b]), some (.int M), none, none] [] = some (.int (sz a), []) := fun e v N =>
    eP_at (as := [encF a, .int (M - 1)]) rfl (by show ((encF a).pure && (true && true)) = true; rw [pureF]; rfl) h1 rfl
  have a2 : eP (run C n .size_within) (aCons (eBin gIx (eVar 0) (eC (.int 2))) (aCons (eBin gSub (eBin gSub (eVar 1) (eC (.int 1))) (eVar 2)) aNil)) [some (.tup [.str w, encF a, encF b]), some (.int M), some (.int (sz a)), none] [] = some (.int (sz b), []) :=
    eP_at (as := [encF b, .int (M - 1 - sz a)]) rfl (by show ((encF b).pure && (true && true)) = true; rw [pureF]; rfl) h2 rfl
  refine fn_ret (env' := [some (.tup [.str w, encF a, encF b]), some (.int M), some (.int (sz a)), some (.int (sz b))]) rfl ?_
  show b_size_within (run C n) C n [some (.tup [.str w, encF a, encF b]), some (.int M), none, none] [] = _
  unfold b_size_within
  rw [seq_nx (if_f (tForm_at hM)), seq_nx (if_f ((tag_at rfl e0 (by decide +kernel)).trans (by rw [decide_eq_false ne1]))), seq_nx (if_f ((tag_at rfl e0 (by decide +kernel)).trans (by rw [decide_eq_false ne2])))]
  have t4 : tOr2 (tOf (eBin gNotIn (eBin gIx (eVar 0) (eC (.int 0))) (eTup (aCons (eC (.str "and")) (aCons (eC (.str "or")) (aCons (eC (.str "to")) (aNil))))))) (tOf (eBin gNe (eCall cLen (aCons (eVar 0) (aNil))) (eC (.int 3)))) [some (.tup [.str w, encF a, encF b]), some (.int M), none, none] [] = some (false, []) := by
    have g1 : gNotIn (.str w) (.tup [.str "and", .str "or", .str "to"]) [] = some (.bl false, []) := by
      have h1 : lowIn (.str w) (.tup [.str "and", .str "or", .str "to"]) = true := by rcases hw with h | h | h <;> subst h <;> decide +kernel
      have h2 : anyD (.str w) [.str "and", .str "or", .str "to"] = true := by rcases hw with h | h | h <;> subst h <;> decide +kernel
      unfold gNotIn
      rw [if_pos h1]
      simp only [h2]
      rfl
    rw [or2_f (tOf_bin (v1 := .str w) (v2 := .tup [.str "and", .str "or", .str "to"]) rfl rfl g1)]
    exact tOf_bin (v1 := .int 3) (v2 := .int 3) rfl rfl rfl
  rw [seq_nx (if_f t4)]
  refine (seq_nx (env' := [some (.tup [.str w, encF a, encF b]), some (.int M), some (.int (sz a)), none]) (set_at (a1 [] .non 0))).trans ?_
  rw [seq_nx (show sIf (tOf (eBin (gIsN false) (eVar 2) (eC .non))) (sRet (eC .non)) sNx [some (.tup [.str w, encF a, encF b]), some (.int M), some (.int (sz a)), none] [] = some (.nx, [some (.tup [.str w, encF a, encF b]), some (.int M), some (.int (sz a)), none], []) from rfl)]
  refine (seq_nx (env' := [some (.tup [.str w, encF a, encF b]), some (.int M), some (.int (sz a)), some (.int (sz b))]) (set_at a2)).trans ?_
  rfl
theorem size_at : ∀ (A : Fm) (n : Nat) (M : Int), fdep A + 1 ≤ n → (sz A : Int) ≤ M → run C n .size_within [encF A, .int M] [] = some (.int (sz A), [])
  | .bot, n, M, hn, hM => by
    obtain ⟨n, rfl⟩ : ∃ k, n = k + 1 := ⟨n - 1, by omega⟩
    have hM' : (1 : Int) ≤ M := hM
    refine fn_ret (env' := [some (.tup [.str "false"]), some (.int M), none, none]) rfl ?_
    show b_size_within (run C n) C n [some (.tup [.str "false"]), some (.int M), none, none] [] = _
    unfold b_size_within
    rw [seq_nx (if_f (tForm_at hM'))]
    refine seq_ret ?_
    rw [if_t ((tag_at (x := "false") (y := "false") rfl (by decide +kernel) (by decide +kernel)).trans (by rw [decide_eq_true rfl]))]
    refine ret_at ?_
    rw [eif_t (show tOf (eBin gEq (eCall cLen (aCons (eVar 0) aNil)) (eC (.int 1))) [some (.tup [.str "false"]), some (.int M), none, none] [] = some (true, []) from rfl)]
    rfl
  | .atom x, n, M, hn, hM => by
    have hn' : 1 + 1 ≤ n := hn
    obtain ⟨n, rfl⟩ : ∃ k, n = k + 2 := ⟨n - 2, by omega⟩
    have hM' : (1 : Int) ≤ M := hM
    have a1 : eP (run C (n + 1) .is_name) (aCons (eBin gIx (eVar 0) (eC (.int 1))) aNil) [some (.tup [.str "atom", .str x.1]), some (.int M), none, none] [] = some (.bl true, []) :=
      eP_at (as := [.str x.1]) rfl rfl (is_name_at n x) rfl
    refine fn_ret (env' := [some (.tup [.str "atom", .str x.1]), some (.int M), none, none]) rfl ?_
    show b_size_within (run C (n + 1)) C (n + 1) [some (.tup [.str "atom", .str x.1]), some (.int M), none, none] [] = _
    unfold b_size_within
    rw [seq_nx (if_f (tForm_at hM')), seq_nx (if_f ((tag_at (x := "atom") (y := "false") rfl (by decide +kernel) (by decide +kernel)).trans (by rw [decide_eq_false (by decide +kernel)])))]
    refine seq_ret ?_
    rw [if_t ((tag_at (x := "atom") (y := "atom") rfl (by decide +kernel) (by decide +kernel)).trans (by rw [decide_eq_true rfl]))]
    refine ret_at ?_
    have t1 : tOf (eBin gEq (eCall cLen (aCons (eVar 0) aNil)) (eC (.int 2))) [some (.tup [.str "atom", .str x.1]), some (.int M), none, none] [] = some (true, []) := rfl
    have t2 : tOf (eP (run C (n + 1) .is_name) (aCons (eBin gIx (eVar 0) (eC (.int 1))) aNil)) [some (.tup [.str "atom", .str x.1]), some (.int M), none, none] [] = some (true, []) := by
      unfold tOf; rw [a1]
    rw [eif_t ((and2_t t1).trans t2)]
    rfl
  | .and a b, n, M, hn, hM => by
    have hn' : 1 + max (fdep a) (fdep b) + 1 ≤ n := hn
    obtain ⟨n, rfl⟩ : ∃ k, n = k + 1 := ⟨n - 1, by omega⟩
    have hM' : ((1 + sz a + sz b : Nat) : Int) ≤ M := hM
    have p1 := sz_pos a
    exact (size_two n (.inl rfl) (size_at a n (M - 1) (by omega) (by omega)) (size_at b n (M - 1 - sz a) (by omega) (by omega)) (by omega)).trans rfl
  | .or a b, n, M, hn, hM => by
    have hn' : 1 + max (fdep a) (fdep b) + 1 ≤ n := hn
    obtain ⟨n, rfl⟩ : ∃ k, n = k + 1 := ⟨n - 1, by omega⟩
    have hM' : ((1 + sz a + sz b : Nat) : Int) ≤ M := hM
    have p1 := sz_pos a
    exact (size_two n (.inr (.inl rfl)) (size_at a n (M - 1) (by omega) (by omega)) (size_at b n (M - 1 - sz a) (by omega) (by omega)) (by omega)).trans rfl
  | .imp a b, n, M, hn, hM => by
    have hn' : 1 + max (fdep a) (fdep b) + 1 ≤ n := hn
    obtain ⟨n, rfl⟩ : ∃ k, n = k + 1 := ⟨n - 1, by omega⟩
    have hM' : ((1 + sz a + sz b : Nat) : Int) ≤ M := hM
    have p1 := sz_pos a
    exact (size_two n (.inr (.inr rfl)) (size_at a n (M - 1) (by omega) (by omega)) (size_at b n (M - 1 - sz a) (by omega) (by omega)) (by omega)).trans rfl
theorem is_sentence_at (A : Fm) (n : Nat) (hn : 33 ≤ n) (hs : sz A ≤ 60) : run C n .is_sentence [encF A] [] = some (.bl true, []) := by
  obtain ⟨n, rfl⟩ : ∃ k, n = k + 1 := ⟨n - 1, by omega⟩
  have := fdep_sz A
  have a1 : eP (run C n .size_within) (aCons (eVar 0) (aCons (eC (.int 60)) aNil)) [some (encF A)] [] = some (.int (sz A), []) :=
    eP_at (as := [encF A, .int 60]) rfl (by show ((encF A).pure && (true && true)) = true; rw [pureF]; rfl) (size_at A n 60 (by omega) (by omega)) rfl
  refine fn_ret (env' := [some (encF A)]) rfl ?_
  show b_is_sentence (run C n) C n [some (encF A)] [] = _
  exact ret_at (bin_at (v2 := .non) a1 rfl rfl)
end
end K07
end L3
end
section
set_option Elab.async false
set_option linter.all false
set_option maxRecDepth 100000
set_option maxHeartbeats 0
namespace L3
namespace K07
open PySem G
section
variable {C : Addr} {st : Store} {env : EnvP}
/-! ### is_program -/
def bodP (C : Addr) (n : Nat) : FS := sSeq (sIf (tAnd2 (tOf (eBin gEq (eVar 3) (eC (.str "n")))) (tOr2 (tNot2 (tOf (eUn (gIsi "int") (eVar 4)))) (tOr2 (tOf (eUn (gIsi "bool") (eVar 4))) (tOf (eBin gLt (eVar 4) (eC (.int 0))))))) (sRet (eC (.bl false))) (sNx)) (sSeq (sIf (tAnd2 (tOf (eBin gEq (eVar 3) (eC (.str "s")))) (tNot2 (tOf (eP (run C n .is_sentence) (aCons (eVar 4) (aNil)))))) (sRet (eC (.bl false))) (sNx)) (sIf (tAnd2 (tOf (eBin gEq (eVar 3) (eC (.str "t")))) (tNot2 (tOf (eP (run C n .is_program) (aCons (eVar 4) (aCons (eBin gSub (eVar 1) (eC (.int 1))) (aNil))))))) (sRet (eC (.bl false))) (sNx)))
theorem b_is_program_eq (n : Nat) : b_is_program (run C n) C n = sSeq (sIf tForm (sRet (eC (.bl false))) sNx) (sSeq (sSet 2 (eKget (shapeP tab_SHAPES) (eBin gIx (eVar 0) (eC (.int 0))))) (sSeq (sIf (tOr2 (tOf (eBin (gIsN false) (eVar 2) (eC .non))) (tOf (eBin gNe (eCall cLen (aCons (eVar 0) (aNil))) (eBin gAdd (eC (.int 1)) (eCall cLen (aCons (eVar 2) (aNil))))))) (sRet (eC (.bl false))) (sNx)) (sSeq (sFor (iZpS (aCons (eVar 2) (aCons (eSl gSlT (eVar 0) (oSome (eC (.int 1))) (oNone)) (aNil)))) (tT 2 (tCons (tN 3) (tCons (tN 4) (tNil)))) (bodP C n)) (sRet (eC (.bl true)))))) := rfl
inductive Part (C : Addr) (n : Nat) (D : Int) : Str → PV → Prop
  | num (i : Nat) : Part C n D "n" (.int i)
  | sen (A : Fm) : run C n .is_sentence [encF A] [] = some (.bl true, []) → Part C n D "s" (encF A)
  | prg (p : Db) : run C n .is_program [encD p, .int (D - 1)] [] = some (.bl true, []) → Part C n D "t" (encD p)
theorem eqL (x y : Str) (hx : PyData.strOk x = true) (hy : PyData.strOk y = true) {k : Nat} (h : env[k]? = some (some (.str x))) : tOf (eBin gEq (eVar k) (eC (.str y))) env st = some (decide (x = y), st) := by
  refine tOf_bin (v1 := .str x) (v2 := .str y) ?_ rfl (eqS_at x y hx hy)
  unfold eVar; rw [h]
theorem bodP_at {n : Nat} {D : Int} {k : Str} {v : PV} (g : Part C n D k v) (V S : Option PV) : bodP C n [V, some (.int D), S, some (.str k), some v] [] = some (.nx, [V, some (.int D), S, some (.str k), some v], []) := by
  have ok : PyData.strOk "n" = true ∧ PyData.strOk "s" = true ∧ PyData.strOk "t" = true := by decide +kernel
  unfold bodP
  cases g with
  | num i =>
    have t1 : tOr2 (tNot2 (tOf (eUn (gIsi "int") (eVar 4)))) (tOr2 (tOf (eUn (gIsi "bool") (eVar 4))) (tOf (eBin gLt (eVar 4) (eC (.int 0))))) [V, some (.int D), S, some (.str "n"), some (.int (i : Nat))] [] = some (false, []) := by
      have h1 : tNot2 (tOf (eUn (gIsi "int") (eVar 4))) [V, some (.int D), S, some (.str "n"), some (.int (i : Nat))] [] = some (false, []) := rfl
      have h2 : tOf (eUn (gIsi "bool") (eVar 4)) [V, some (.int D), S, some (.str "n"), some (.int (i : Nat))] [] = some (false, []) := rfl
      have h3 : tOf (eBin gLt (eVar 4) (eC (.int 0))) [V, some (.int D), S, some (.str "n"), some (.int (i : Nat))] [] = some (decide ((i : Int) < 0), []) := rfl
      rw [or2_f h1, or2_f h2, h3, decide_eq_false (by omega)]
    have e1 := eqL (st := []) (env := [V, some (.int D), S, some (.str "n"), some (.int (i : Nat))]) (k := 3) "n" "n" ok.1 ok.1 rfl
    have e2 := eqL (st := []) (env := [V, some (.int D), S, some (.str "n"), some (.int (i : Nat))]) (k := 3) "n" "s" ok.1 ok.2.1 rfl
    have e3 := eqL (st := []) (env := [V, some (.int D), S, some (.str "n"), some (.int (i : Nat))]) (k := 3) "n" "t" ok.1 ok.2.2 rfl
    rw [decide_eq_true rfl] at e1
    rw [decide_eq_false (by decide +kernel)] at e2 e3
    rw [seq_nx (if_f ((and2_t e1).trans t1)), seq_nx (if_f (and2_f e2)), if_f (and2_f e3)]
    rfl
  | sen A h =>
    have e1 := eqL (st := []) (env := [V, some (.int D), S, some (.str "s"), some (encF A)]) (k := 3) "s" "n" ok.2.1 ok.1 rfl
    have e2 := eqL (st := []) (env := [V, some (.int D), S, some (.str "s"), some (encF A)]) (k := 3) "s" "s" ok.2.1 ok.2.1 rfl
    have e3 := eqL (st := []) (env := [V, some (.int D), S, some (.str "s"), some (encF A)]) (k := 3) "s" "t" ok.2.1 ok.2.2 rfl
    rw [decide_eq_true rfl] at e2
    rw [decide_eq_false (by decide +kernel)] at e1 e3
    have t1 : tNot2 (tOf (eP (run C n .is_sentence) (aCons (eVar 4) aNil))) [V, some (.int D), S, some (.str "s"), some (encF A)] [] = some (false, []) := by
      have : eP (run C n .is_sentence) (aCons (eVar 4) aNil) [V, some (.int D), S, some (.str "s"), some (encF A)] [] = some (.bl true, []) :=
        eP_at (as := [encF A]) rfl (by show ((encF A).pure && true) = true; rw [pureF]; rfl) h rfl
      unfold tNot2 tOf
      rw [this]; rfl
    rw [seq_nx (if_f (and2_f e1)), seq_nx (if_f ((and2_t e2).trans t1)), if_f (and2_f e3)]
    rfl
  | prg p h =>
    have e1 := eqL (st := []) (env := [V, some (.int D), S, some (.str "t"), some (encD p)]) (k := 3) "t" "n" ok.2.2 ok.1 rfl
    have e2 := eqL (st := []) (env := [V, some (.int D), S, some (.str "t"), some (encD p)]) (k := 3) "t" "s" ok.2.2 ok.2.1 rfl
    have e3 := eqL (st := []) (env := [V, some (.int D), S, some (.str "t"), some (encD p)]) (k := 3) "t" "t" ok.2.2 ok.2.2 rfl
    rw [decide_eq_true rfl] at e3
    rw [decide_eq_false (by decide +kernel)] at e1 e2
    have t1 : tNot2 (tOf (eP (run C n .is_program) (aCons (eVar 4) (aCons (eBin gSub (eVar 1) (eC (.int 1))) aNil)))) [V, some (.int D), S, some (.str "t"), some (encD p)] [] = some (false, []) := by
      have : eP (run C n .is_program) (aCons (eVar 4) (aCons (eBin gSub (eVar 1) (eC (.int 1))) aNil)) [V, some (.int D), S, some (.str "t"), some (encD p)] [] = some (.bl true, []) :=
        eP_at (as := [encD p, .int (D - 1)]) rfl (by show ((encD p).pure && (true && true)) = true; rw [pureD]; rfl) h rfl
      unfold tNot2 tOf
      rw [this]; rfl
    rw [seq_nx (if_f (and2_f e1)), seq_nx (if_f (and2_f e2)), if_f ((and2_t e3).trans t1)]
    rfl
theorem loopP_at {n : Nat} {D : Int} (V S : Option PV) : ∀ (l : List (Str × PV)), (∀ q ∈ l, Part C n D q.1 q.2) → ∀ x y : Option PV, ∃ x' y', loop (tT 2 (tCons (tN 3) (tCons (tN 4) tNil))) (bodP C n) (l.map fun q : Str × PV => PV.tup [.str q.1, q.2]) [V, some (.int D), S, x, y] [] = some (.nx, [V, some (.int D), S, x', y'], [])
  | [], _, x, y => ⟨x, y, rfl⟩
  | (k, v) :: l, h, x, y => by
    obtain ⟨x', y', e⟩ := loopP_at V S l (fun q hq => h q (List.mem_cons_of_mem _ hq)) (some (.str k)) (some v)
    refine ⟨x', y', ?_⟩
    have b := bodP_at (h (k, v) (List.mem_cons_self ..)) V S
    show (match bodP C n [V, some (.int D), S, some (.str k), some v] [] with
      | some (.nx, env2, st2) => loop (tT 2 (tCons (tN 3) (tCons (tN 4) tNil))) (bodP C n) (l.map fun q : Str × PV => PV.tup [.str q.1, q.2]) env2 st2
      | some (.ct, env2, st2) => loop (tT 2 (tCons (tN 3) (tCons (tN 4) tNil))) (bodP C n) (l.map fun q : Str × PV => PV.tup [.str q.1, q.2]) env2 st2
      | some (.bk, env2, st2) => some (.nx, env2, st2)
      | some (.ret v, env2, st2) => some (.ret v, env2, st2)
      | none => none) = _
    rw [b]
    exact e
theorem prog_node {n : Nat} {D : Int} {w sh : Str} {r : List PV} (hD : 1 ≤ D) (l : List (Str × PV)) (hs : shapeP tab_SHAPES w = some (.str sh)) (hz : sh.length ≤ sizeLine ∧ sh.length = r.length) (hl : zipP (signs sh) r = l.map fun q : Str × PV => PV.tup [.str q.1, q.2]) (hp : ∀ q ∈ l, Part C n D q.1 q.2) :
    run C (n + 1) .is_program [.tup (.str w :: r), .int D] [] = some (.bl true, []) := by
  obtain ⟨x', y', e⟩ := loopP_at (C := C) (n := n) (D := D) (some (.tup (.str w :: r))) (some (.str sh)) l hp none none
  have ek : eKget (shapeP tab_SHAPES) (eBin gIx (eVar 0) (eC (.int 0))) [some (.tup (.str w :: r)), some (.int D), none, none, none] [] = some (.str sh, []) := by
    unfold eKget
    rw [bin_at (v1 := .tup (.str w :: r)) (v2 := .int 0) rfl rfl (ix0 _ _)]
    simp only [hs]
    rfl
  have ln : eCall cLen (aCons (eVar 2) aNil) [some (.tup (.str w :: r)), some (.int D), some (.str sh), none, none] [] = some (.int (sh.length : Nat), []) := by
    show (if sh.length ≤ sizeLine then some (PV.int (sh.length : Nat), ([] : Store)) else none) = _
    rw [if_pos hz.1]
  have t3 : tOr2 (tOf (eBin (gIsN false) (eVar 2) (eC .non))) (tOf (eBin gNe (eCall cLen (aCons (eVar 0) (aNil))) (eBin gAdd (eC (.int 1)) (eCall cLen (aCons (eVar 2) (aNil)))))) [some (.tup (.str w :: r)), some (.int D), some (.str sh), none, none] [] = some (false, []) := by
    rw [or2_f (show tOf (eBin (gIsN false) (eVar 2) (eC .non)) [some (.tup (.str w :: r)), some (.int D), some (.str sh), none, none] [] = some (false, []) from rfl)]
    refine tOf_bin (v1 := .int (r.length + 1 : Nat)) (v2 := .int (1 + (sh.length : Nat))) rfl (bin_at (v1 := .int 1) rfl ln rfl) ?_
    have : gNe (.int (r.length + 1 : Nat)) (.int (1 + (sh.length : Nat))) ([] : Store) = some (.bl (!(((r.length + 1 : Nat) : Int) == 1 + ((sh.length : Nat) : Int))), []) := rfl
    rw [this, show ((((r.length + 1 : Nat) : Int) == 1 + ((sh.length : Nat) : Int))) = true from beq_iff_eq.mpr (by rw [hz.2]; omega)]
    rfl
  have fr : sFor (iZpS (aCons (eVar 2) (aCons (eSl gSlT (eVar 0) (oSome (eC (.int 1))) (oNone)) (aNil)))) (tT 2 (tCons (tN 3) (tCons (tN 4) (tNil)))) (bodP C n) [some (.tup (.str w :: r)), some (.int D), some (.str sh), none, none] [] = some (.nx, [some (.tup (.str w :: r)), some (.int D), some (.str sh), x', y'], []) := by
    have it : iZpS (aCons (eVar 2) (aCons (eSl gSlT (eVar 0) (oSome (eC (.int 1))) (oNone)) (aNil))) [some (.tup (.str w :: r)), some (.int D), some (.str sh), none, none] [] = some (l.map fun q : Str × PV => PV.tup [.str q.1, q.2], []) := by
      rw [← hl]
      have c : cutP (PV.str w :: r) (some ((1 : Nat) : Int)) none = r := by rw [cut_drop _ _ (by simp)]; rfl
      show some (zipP (signs sh) (cutP (PV.str w :: r) (some 1) none), ([] : Store)) = _
      rw [show cutP (PV.str w :: r) (some 1) none = r from c]
    unfold sFor
    rw [it]
    exact e
  show fnS 2 3 (b_is_program (run C n) C n) [PV.tup (.str w :: r), .int D] [] = _
  refine fn_ret (env' := [some (.tup (.str w :: r)), some (.int D), some (.str sh), x', y']) rfl ?_
  show b_is_program (run C n) C n [some (.tup (.str w :: r)), some (.int D), none, none, none] [] = _
  rw [b_is_program_eq, seq_nx (if_f (tForm_at hD))]
  refine (seq_nx (env' := [some (.tup (.str w :: r)), some (.int D), some (.str sh), none, none]) (set_at ek)).trans ?_
  rw [seq_nx (if_f t3), seq_nx fr]
  rfl
theorem is_program_at : ∀ (p : Db) (n : Nat) (D : Int), (wdep p : Int) ≤ D → wdep p + 34 ≤ n → SmallD 60 p → run C n .is_program [encD p, .int D] [] = some (.bl true, [])
  | .var i, n, D, hD, hn, s => by
    obtain ⟨n, rfl⟩ : ∃ k, n = k + 1 := ⟨n - 1, by omega⟩
    exact prog_node (w := "var") (sh := "n") (r := [.int i]) (by have : ((1 : Nat) : Int) ≤ D := hD; omega) [("n", .int i)] rfl ⟨by decide, rfl⟩ rfl fun q hq => by
      simp only [List.mem_singleton] at hq; subst hq; exact .num i
  | .fn A p, n, D, hD, hn, s => by
    have hD' : ((wdep p + 1 : Nat) : Int) ≤ D := hD
    have hn' : wdep p + 1 + 34 ≤ n := hn
    obtain ⟨n, rfl⟩ : ∃ k, n = k + 1 := ⟨n - 1, by omega⟩
    have i1 := is_program_at p n (D - 1) (by omega) (by omega) s.2
    exact prog_node (w := "fun") (sh := "st") (r := [encF A, encD p]) (by omega) [("s", encF A), ("t", encD p)] rfl ⟨by decide, rfl⟩ rfl fun q hq => by
      simp only [List.mem_cons, List.not_mem_nil, or_false] at hq
      rcases hq with h | h <;> subst h
      · exact .sen A (is_sentence_at A n (by omega) s.1)
      · exact .prg p i1
  | .app p q, n, D, hD, hn, s => by
    have hD' : ((max (wdep p) (wdep q) + 1 : Nat) : Int) ≤ D := hD
    have hn' : max (wdep p) (wdep q) + 1 + 34 ≤ n := hn
    obtain ⟨n, rfl⟩ : ∃ k, n = k + 1 := ⟨n - 1, by omega⟩
    have i1 := is_program_at p n (D - 1) (by omega) (by omega) s.1
    have i2 := is_program_at q n (D - 1) (by omega) (by omega) s.2
    exact prog_node (w := "app") (sh := "tt") (r := [encD p, encD q]) (by omega) [("t", encD p), ("t", encD q)] rfl ⟨by decide, rfl⟩ rfl fun x hq => by
      simp only [List.mem_cons, List.not_mem_nil, or_false] at hq
      rcases hq with h | h <;> subst h
      · exact .prg p i1
      · exact .prg q i2
  | .pair p q, n, D, hD, hn, s => by
    have hD' : ((max (wdep p) (wdep q) + 1 : Nat) : Int) ≤ D := hD
    have hn' : max (wdep p) (wdep q) + 1 + 34 ≤ n := hn
    obtain ⟨n, rfl⟩ : ∃ k, n = k + 1 := ⟨n - 1, by omega⟩
    have i1 := is_program_at p n (D - 1) (by omega) (by omega) s.1
    have i2 := is_program_at q n (D - 1) (by omega) (by omega) s.2
    exact prog_node (w := "pair") (sh := "tt") (r := [encD p, encD q]) (by omega) [("t", encD p), ("t", encD q)] rfl ⟨by decide, rfl⟩ rfl fun x hq => by
      simp only [List.mem_cons, List.not_mem_nil, or_false] at hq
      rcases hq with h | h <;> subst h
      · exact .prg p i1
      · exact .prg q i2
  | .fst p, n, D, hD, hn, s => by
    have hD' : ((wdep p + 1 : Nat) : Int) ≤ D := hD
    have hn' : wdep p + 1 + 34 ≤ n := hn
    obtain ⟨n, rfl⟩ : ∃ k, n = k + 1 := ⟨n - 1, by omega⟩
    have i1 := is_program_at p n (D - 1) (by omega) (by omega) s
    exact prog_node (w := "first") (sh := "t") (r := [encD p]) (by omega) [("t", encD p)] rfl ⟨by decide, rfl⟩ rfl fun x hq => by
      simp only [List.mem_singleton] at hq; subst hq; exact .prg p i1
  | .snd p, n, D, hD, hn, s => by
    have hD' : ((wdep p + 1 : Nat) : Int) ≤ D := hD
    have hn' : wdep p + 1 + 34 ≤ n := hn
    obtain ⟨n, rfl⟩ : ∃ k, n = k + 1 := ⟨n - 1, by omega⟩
    have i1 := is_program_at p n (D - 1) (by omega) (by omega) s
    exact prog_node (w := "second") (sh := "t") (r := [encD p]) (by omega) [("t", encD p)] rfl ⟨by decide, rfl⟩ rfl fun x hq => by
      simp only [List.mem_singleton] at hq; subst hq; exact .prg p i1
  | .inl A p, n, D, hD, hn, s => by
    have hD' : ((wdep p + 1 : Nat) : Int) ≤ D := hD
    have hn' : wdep p + 1 + 34 ≤ n := hn
    obtain ⟨n, rfl⟩ : ∃ k, n = k + 1 := ⟨n - 1, by omega⟩
    have i1 := is_program_at p n (D - 1) (by omega) (by omega) s.2
    exact prog_node (w := "left") (sh := "st") (r := [encF A, encD p]) (by omega) [("s", encF A), ("t", encD p)] rfl ⟨by decide, rfl⟩ rfl fun q hq => by
      simp only [List.mem_cons, List.not_mem_nil, or_false] at hq
      rcases hq with h | h <;> subst h
      · exact .sen A (is_sentence_at A n (by omega) s.1)
      · exact .prg p i1
  | .inr A p, n, D, hD, hn, s => by
    have hD' : ((wdep p + 1 : Nat) : Int) ≤ D := hD
    have hn' : wdep p + 1 + 34 ≤ n := hn
    obtain ⟨n, rfl⟩ : ∃ k, n = k + 1 := ⟨n - 1, by omega⟩
    have i1 := is_program_at p n (D - 1) (by omega) (by omega) s.2
    exact prog_node (w := "right") (sh := "st") (r := [encF A, encD p]) (by omega) [("s", encF A), ("t", encD p)] rfl ⟨by decide, rfl⟩ rfl fun q hq => by
      simp only [List.mem_cons, List.not_mem_nil, or_false] at hq
      rcases hq with h | h <;> subst h
      · exact .sen A (is_sentence_at A n (by omega) s.1)
      · exact .prg p i1
  | .never A p, n, D, hD, hn, s => by
    have hD' : ((wdep p + 1 : Nat) : Int) ≤ D := hD
    have hn' : wdep p + 1 + 34 ≤ n := hn
    obtain ⟨n, rfl⟩ : ∃ k, n = k + 1 := ⟨n - 1, by omega⟩
    have i1 := is_program_at p n (D - 1) (by omega) (by omega) s.2
    exact prog_node (w := "never") (sh := "st") (r := [encF A, encD p]) (by omega) [("s", encF A), ("t", encD p)] rfl ⟨by decide, rfl⟩ rfl fun q hq => by
      simp only [List.mem_cons, List.not_mem_nil, or_false] at hq
      rcases hq with h | h <;> subst h
      · exact .sen A (is_sentence_at A n (by omega) s.1)
      · exact .prg p i1
  | .case p q r, n, D, hD, hn, s => by
    have hD' : ((max (wdep p) (max (wdep q) (wdep r)) + 2 : Nat) : Int) ≤ D := hD
    have hn' : max (wdep p) (max (wdep q) (wdep r)) + 2 + 34 ≤ n := hn
    obtain ⟨n, rfl⟩ : ∃ k, n = k + 1 := ⟨n - 1, by omega⟩
    have i1 := is_program_at p n (D - 1) (by omega) (by omega) s.1
    have i2 := is_program_at q n (D - 1) (by omega) (by omega) s.2.1
    have i3 := is_program_at r n (D - 1) (by omega) (by omega) s.2.2
    exact prog_node (w := "case") (sh := "ttt") (r := [encD p, encD q, encD r]) (by omega) [("t", encD p), ("t", encD q), ("t", encD r)] rfl ⟨by decide, rfl⟩ rfl fun x hq => by
      simp only [List.mem_cons, List.not_mem_nil, or_false] at hq
      rcases hq with h | h | h <;> subst h
      · exact .prg p i1
      · exact .prg q i2
      · exact .prg r i3
end
end K07
end L3
end
section
set_option Elab.async false
set_option linter.all false
set_option maxRecDepth 100000
set_option maxHeartbeats 0
namespace L3
namespace K07
open PySem G
section
variable {C : Addr} {st : Store} {env : EnvP}
/-! ### kind_of -/
theorem args3 {f1 f2 f3 : FE} {v1 v2 v3 : PV} (h1 : f1 env st = some (v1, st)) (h2 : f2 env st = some (v2, st)) (h3 : f3 env st = some (v3, st)) : aCons f1 (aCons f2 (aCons f3 aNil)) env st = some ([v1, v2, v3], st) := by
  unfold aCons aNil
  rw [h1]; simp only [h2, h3]
theorem isNonF (A : Fm) : gIsN false (encF A) .non st = some (.bl false, st) := by cases A <;> rfl
theorem isNonF' (A : Fm) : gIsN true (encF A) .non st = some (.bl true, st) := by cases A <;> rfl
theorem var_at {k : Nat} {p : PV} (h : env[k]? = some (some p)) : eVar k env st = some (p, st) := by unfold eVar; rw [h]
theorem ctx_pure (Γ : List Fm) (r : List PV) (hr : PV.pures r = true) : PV.pures (.tup (Γ.map encF) :: r) = true := by
  show (PV.pures (Γ.map encF) && PV.pures r) = true
  rw [pureFs, hr]; rfl
def KO (C : Addr) (n : Nat) (Γ : List Fm) (d : Db) (A : Fm) : Prop := run C n .kind_of [.tup (Γ.map encF), encD d] [] = some (encF A, [])
theorem sub_kind {n : Nat} {Γ : List Fm} {d : Db} {A : Fm} (h : KO C n Γ d A) {f1 f2 : FE} (h1 : f1 env st = some (.tup (Γ.map encF), st)) (h2 : f2 env st = some (encD d, st)) : eP (run C n .kind_of) (aCons f1 (aCons f2 aNil)) env st = some (encF A, st) := by
  refine eP_at (as := [.tup (Γ.map encF), encD d]) ?_ (ctx_pure Γ _ (by show ((encD d).pure && true) = true; rw [pureD]; rfl)) h (pureF A)
  unfold aCons aNil
  rw [h1]; simp only [h2]
def kVar : FS := sIf (tOf (eBin gEq (eVar 2) (eC (.str "var")))) (sRet (eIf (tOf (eBin gLt (eBin gIx (eVar 1) (eC (.int 1))) (eCall cLen (aCons (eVar 0) (aNil))))) (eBin gIx (eVar 0) (eBin gIx (eVar 1) (eC (.int 1)))) (eC .non))) (sNx)
def kFun (C : Addr) (n : Nat) : FS := sIf (tOf (eBin gEq (eVar 2) (eC (.str "fun")))) (sSeq (sSet 4 (eP (run C n .kind_of) (aCons (eBin gAdd (eTup (aCons (eBin gIx (eVar 1) (eC (.int 1))) (aNil))) (eVar 0)) (aCons (eBin gIx (eVar 1) (eC (.int 2))) (aNil))))) (sRet (eIf (tOf (eBin (gIsN false) (eVar 4) (eC .non))) (eC .non) (eTup (aCons (eC (.str "to")) (aCons (eBin gIx (eVar 1) (eC (.int 1))) (aCons (eVar 4) (aNil)))))))) (sNx)
def kSide (C : Addr) (n : Nat) : FS := sIf (tOf (eBin gIn (eVar 2) (eTup (aCons (eC (.str "left")) (aCons (eC (.str "right")) (aCons (eC (.str "never")) (aNil))))))) (sRet (eP (run C n .made_kind) (aCons (eVar 2) (aCons (eBin gIx (eVar 1) (eC (.int 1))) (aCons (eP (run C n .kind_of) (aCons (eVar 0) (aCons (eBin gIx (eVar 1) (eC (.int 2))) (aNil)))) (aNil)))))) (sNx)
def kCase (C : Addr) (n : Nat) : FS := sIf (tOf (eBin gEq (eVar 2) (eC (.str "case")))) (sRet (eP (run C n .case_kind) (aCons (eVar 0) (aCons (eVar 1) (aNil))))) (sNx)
def kComp (C : Addr) (n : Nat) : FS := sSet 3 (eLc (iSeq (eSl gSlT (eVar 1) (oSome (eC (.int 1))) (oNone))) (tN 5) (tYes) (eP (run C n .kind_of) (aCons (eVar 0) (aCons (eVar 5) (aNil)))) [5])
def kNone : FS := sIf (tOf (eBin gIn (eC .non) (eVar 3))) (sRet (eC .non)) (sNx)
def kPair : FS := sIf (tOf (eBin gEq (eVar 2) (eC (.str "pair")))) (sRet (eTup (aCons (eC (.str "and")) (aCons (eBin gIx (eVar 3) (eC (.int 0))) (aCons (eBin gIx (eVar 3) (eC (.int 1))) (aNil)))))) (sNx)
def kApp : FS := sIf (tOf (eBin gEq (eVar 2) (eC (.str "app")))) (sRet (eIf (tAnd2 (tOf (eBin gEq (eBin gIx (eBin gIx (eVar 3) (eC (.int 0))) (eC (.int 0))) (eC (.str "to")))) (tOf (eBin gEq (eBin gIx (eBin gIx (eVar 3) (eC (.int 0))) (eC (.int 1))) (eBin gIx (eVar 3) (eC (.int 1)))))) (eBin gIx (eBin gIx (eVar 3) (eC (.int 0))) (eC (.int 2))) (eC .non))) (sNx)
def kEnd : FS := sRet (eIf (tOf (eBin gEq (eBin gIx (eBin gIx (eVar 3) (eC (.int 0))) (eC (.int 0))) (eC (.str "and")))) (eBin gIx (eBin gIx (eVar 3) (eC (.int 0))) (eIf (tOf (eBin gEq (eVar 2) (eC (.str "first")))) (eC (.int 1)) (eC (.int 2)))) (eC .non))
theorem b_kind_of_eq (n : Nat) : b_kind_of (run C n) C n = sSeq (sSet 2 (eBin gIx (eVar 1) (eC (.int 0)))) (sSeq kVar (sSeq (kFun C n) (sSeq (kSide C n) (sSeq (kCase C n) (sSeq (kComp C n) (sSeq kNone (sSeq kPair (sSeq kApp kEnd)))))))) := rfl
/-- the word is not y -/
theorem skip {k : Nat} {w y : Str} {a : FS} (h : env[k]? = some (some (.str w))) (hw : PyData.strOk w = true) (hy : PyData.strOk y = true) (hn : w ≠ y) : sIf (tOf (eBin gEq (eVar k) (eC (.str y)))) a sNx env st = some (.nx, env, st) :=
  (if_f ((eqL w y hw hy h).trans (by rw [decide_eq_false hn]))).trans rfl
theorem take {k : Nat} {w : Str} {a : FS} (h : env[k]? = some (some (.str w))) (hw : PyData.strOk w = true) : sIf (tOf (eBin gEq (eVar k) (eC (.str w)))) a sNx env st = a env st :=
  if_t ((eqL w w hw hw h).trans (by rw [decide_eq_true rfl]))
def sides : PV := .tup [.str "left", .str "right", .str "never"]
theorem in_at {w : Str} {b : Bool} (h : env[2]? = some (some (.str w))) (h1 : lowIn (.str w) sides = true) (h2 : anyD (.str w) [.str "left", .str "right", .str "never"] = b) : tOf (eBin gIn (eVar 2) (eTup (aCons (eC (.str "left")) (aCons (eC (.str "right")) (aCons (eC (.str "never")) (aNil)))))) env st = some (b, st) := by
  refine tOf_bin (v1 := .str w) (v2 := sides) (var_at h) rfl ?_
  unfold gIn
  rw [if_pos h1]
  show some (PV.bl (anyD (.str w) [.str "left", .str "right", .str "never"]), st) = _
  rw [h2]
/-- the first step, and all words passed by but those of the end -/
theorem k_start {n : Nat} {G0 : Option PV} {w : Str} {r : List PV} : b_kind_of (run C n) C n [G0, some (.tup (.str w :: r)), none, none, none, none] st = sSeq kVar (sSeq (kFun C n) (sSeq (kSide C n) (sSeq (kCase C n) (sSeq (kComp C n) (sSeq kNone (sSeq kPair (sSeq kApp kEnd))))))) [G0, some (.tup (.str w :: r)), some (.str w), none, none, none] st := by
  rw [b_kind_of_eq]
  exact seq_nx (set_at (bin_at (v1 := .tup (.str w :: r)) (v2 := .int 0) rfl rfl (ix0 _ _)))
theorem ko_var {n : Nat} {Γ : List Fm} {i : Nat} {A : Fm} (h : Γ[i]? = some A) : KO C (n + 1) Γ (.var i) A := by
  have hi : i < Γ.length := (List.getElem?_eq_some_iff.mp h).1
  refine fn_ret (env' := [some (.tup (Γ.map encF)), some (.tup [.str "var", .int i]), some (.str "var"), none, none, none]) rfl ?_
  show b_kind_of (run C n) C n [some (.tup (Γ.map encF)), some (.tup [.str "var", .int i]), none, none, none, none] [] = _
  rw [k_start]
  refine seq_ret ?_
  unfold kVar
  rw [take (w := "var") rfl (by decide +kernel)]
  refine ret_at ?_
  have e1 : eBin gIx (eVar 1) (eC (.int 1)) [some (.tup (Γ.map encF)), some (.tup [.str "var", .int i]), some (.str "var"), none, none, none] [] = some (.int i, []) := bin_at (v1 := .tup [.str "var", .int i]) (v2 := .int 1) rfl rfl (ix1 _ _ _)
  have t1 : tOf (eBin gLt (eBin gIx (eVar 1) (eC (.int 1))) (eCall cLen (aCons (eVar 0) (aNil)))) [some (.tup (Γ.map encF)), some (.tup [.str "var", .int i]), some (.str "var"), none, none, none] [] = some (true, []) := by
    refine tOf_bin (v1 := .int i) (v2 := .int (Γ.map encF).length) e1 rfl ?_
    show some (PV.bl (decide ((i : Int) < ((Γ.map encF).length : Nat))), ([] : Store)) = _
    rw [decide_eq_true (by rw [List.length_map]; omega)]
  rw [eif_t t1]
  exact bin_at (v1 := .tup (Γ.map encF)) (v2 := .int i) rfl e1 (ixn _ i (encF A) (by rw [List.getElem?_map, h]; rfl))
theorem ko_fun {n : Nat} {Γ : List Fm} {A B : Fm} {p : Db} (hl : Γ.length ≤ 1000) (h : KO C n (A :: Γ) p B) : KO C (n + 1) Γ (.fn A p) (.imp A B) := by
  refine fn_ret (env' := [some (.tup (Γ.map encF)), some (.tup [.str "fun", encF A, encD p]), some (.str "fun"), none, some (encF B), none]) rfl ?_
  show b_kind_of (run C n) C n [some (.tup (Γ.map encF)), some (.tup [.str "fun", encF A, encD p]), none, none, none, none] [] = _
  rw [k_start]
  have s : PyData.strOk "fun" = true := by decide +kernel
  unfold kVar
  rw [seq_nx (skip (w := "fun") (y := "var") rfl s (by decide +kernel) (by decide +kernel))]
  refine seq_ret ?_
  unfold kFun
  rw [take (w := "fun") rfl s]
  have f1 : eBin gAdd (eTup (aCons (eBin gIx (eVar 1) (eC (.int 1))) (aNil))) (eVar 0) [some (.tup (Γ.map encF)), some (.tup [.str "fun", encF A, encD p]), some (.str "fun"), none, none, none] [] = some (.tup ((A :: Γ).map encF), []) := by
    refine bin_at (v1 := .tup [encF A]) (v2 := .tup (Γ.map encF)) rfl rfl ?_
    show (if [encF A].length + (Γ.map encF).length ≤ sizeLine then some (PV.tup ([encF A] ++ Γ.map encF), ([] : Store)) else none) = _
    rw [if_pos (by rw [List.length_map]; exact line_le (show 1 + Γ.length ≤ 2000 by omega))]
    rfl
  refine (seq_nx (env' := [some (.tup (Γ.map encF)), some (.tup [.str "fun", encF A, encD p]), some (.str "fun"), none, some (encF B), none]) (set_at (sub_kind h f1 rfl))).trans ?_
  refine ret_at ?_
  rw [eif_f (tOf_bin (var_at (p := encF B) rfl) rfl (isNonF B))]
  rfl
def mHead : FS := sIf (tOf (eBin (gIsN false) (eVar 2) (eC .non))) (sRet (eC .non)) sNx
theorem made_side {n : Nat} {w : Str} {A B K : Fm} {i : Int} (hw : (w = "left" ∧ K = A) ∨ (w = "right" ∧ K = B)) (hd : (encF K).toD.depth ≤ 900) : run C (n + 1) .made_kind [.str w, encF (.or A B), encF K] [] = some (encF (.or A B), []) := by
  have s : PyData.strOk w = true := by rcases hw with ⟨h, _⟩ | ⟨h, _⟩ <;> subst h <;> decide +kernel
  have ne : w ≠ "never" := by rcases hw with ⟨h, _⟩ | ⟨h, _⟩ <;> subst h <;> decide +kernel
  have h0 : mHead [some (.str w), some (encF (.or A B)), some (encF K), none] [] = some (.nx, [some (.str w), some (encF (.or A B)), some (encF K), none], []) := by
    unfold mHead
    exact (if_f (tOf_bin (var_at (p := encF K) rfl) rfl (isNonF K))).trans rfl
  rcases hw with ⟨h, e⟩ | ⟨h, e⟩
  · subst h e
    refine fn_ret (env' := [some (.str "left"), some (encF (.or K B)), some (encF K), some (.int 1)]) rfl ?_
    show sSeq mHead _ [some (.str "left"), some (encF (.or K B)), some (encF K), none] [] = _
    rw [seq_nx h0, seq_nx (skip (w := "left") (y := "never") rfl s (by decide +kernel) ne)]
    refine (seq_nx (env' := [some (.str "left"), some (encF (.or K B)), some (encF K), some (.int 1)]) (set_at ((eif_t ((eqL "left" "left" s s rfl).trans (by rw [decide_eq_true rfl]))).trans rfl))).trans ?_
    refine ret_at ?_
    have t1 := tag_at (st := []) (env := [some (.str "left"), some (encF (.or K B)), some (encF K), some (.int 1)]) (k := 1) (x := "or") (r := [encF K, encF B]) (y := "or") rfl (by decide +kernel) (by decide +kernel)
    rw [decide_eq_true rfl] at t1
    have t2 : tOf (eBin gEq (eBin gIx (eVar 1) (eVar 3)) (eVar 2)) [some (.str "left"), some (encF (.or K B)), some (encF K), some (.int 1)] [] = some (true, []) := by
      refine tOf_bin (v1 := encF K) (v2 := encF K) (bin_at (v1 := encF (.or K B)) (v2 := .int 1) rfl rfl (ix1 _ _ _)) rfl ?_
      rw [eqF_at K K hd, decide_eq_true rfl]
    rw [eif_t ((and2_t t1).trans t2)]
    rfl
  · subst h e
    refine fn_ret (env' := [some (.str "right"), some (encF (.or A K)), some (encF K), some (.int 2)]) rfl ?_
    show sSeq mHead _ [some (.str "right"), some (encF (.or A K)), some (encF K), none] [] = _
    rw [seq_nx h0, seq_nx (skip (w := "right") (y := "never") rfl s (by decide +kernel) ne)]
    refine (seq_nx (env' := [some (.str "right"), some (encF (.or A K)), some (encF K), some (.int 2)]) (set_at ((eif_f ((eqL "right" "left" s (by decide +kernel) rfl).trans (by rw [decide_eq_false (by decide +kernel)]))).trans rfl))).trans ?_
    refine ret_at ?_
    have t1 := tag_at (st := []) (env := [some (.str "right"), some (encF (.or A K)), some (encF K), some (.int 2)]) (k := 1) (x := "or") (r := [encF A, encF K]) (y := "or") rfl (by decide +kernel) (by decide +kernel)
    rw [decide_eq_true rfl] at t1
    have t2 : tOf (eBin gEq (eBin gIx (eVar 1) (eVar 3)) (eVar 2)) [some (.str "right"), some (encF (.or A K)), some (encF K), some (.int 2)] [] = some (true, []) := by
      refine tOf_bin (v1 := encF K) (v2 := encF K) (bin_at (v1 := encF (.or A K)) (v2 := .int 2) rfl rfl (ix2 _ _ _ _)) rfl ?_
      rw [eqF_at K K hd, decide_eq_true rfl]
    rw [eif_t ((and2_t t1).trans t2)]
    rfl
theorem made_never {n : Nat} {A : Fm} : run C (n + 1) .made_kind [.str "never", encF A, encF .bot] [] = some (encF A, []) := by
  have h0 : mHead [some (.str "never"), some (encF A), some (encF .bot), none] [] = some (.nx, [some (.str "never"), some (encF A), some (encF .bot), none], []) := by
    unfold mHead
    exact (if_f (tOf_bin (var_at (p := encF .bot) rfl) rfl (isNonF .bot))).trans rfl
  refine fn_ret (env' := [some (.str "never"), some (encF A), some (encF .bot), none]) rfl ?_
  show sSeq mHead _ [some (.str "never"), some (encF A), some (encF .bot), none] [] = _
  rw [seq_nx h0]
  refine seq_ret ?_
  rw [take (w := "never") rfl (by decide +kernel)]
  refine ret_at ?_
  have t2 : tOf (eBin gEq (eVar 2) (eTup (aCons (eC (.str "false")) (aNil)))) [some (.str "never"), some (encF A), some (encF .bot), none] [] = some (true, []) := by
    refine tOf_bin (v1 := encF .bot) (v2 := encF .bot) rfl rfl ?_
    rw [eqF_at .bot .bot (by decide), decide_eq_true rfl]
  rw [eif_t t2]
  rfl
/-- left, right, never -/
theorem ko_side {n : Nat} {Γ : List Fm} {A K : Fm} {p d : Db} {w : Str} (he : encD d = .tup [.str w, encF A, encD p]) (hw : w = "left" ∨ w = "right" ∨ w = "never") (h : KO C n Γ p K) (hm : run C n .made_kind [.str w, encF A, encF K] [] = some (encF A, [])) : KO C (n + 1) Γ d A := by
  have s : PyData.strOk w = true := by rcases hw with h | h | h <;> subst h <;> decide +kernel
  have n1 : w ≠ "var" := by rcases hw with h | h | h <;> subst h <;> decide +kernel
  have n2 : w ≠ "fun" := by rcases hw with h | h | h <;> subst h <;> decide +kernel
  have i1 : lowIn (.str w) sides = true := by rcases hw with h | h | h <;> subst h <;> decide +kernel
  have i2 : anyD (.str w) [.str "left", .str "right", .str "never"] = true := by rcases hw with h | h | h <;> subst h <;> decide +kernel
  unfold KO
  rw [he]
  refine fn_ret (env' := [some (.tup (Γ.map encF)), some (.tup [.str w, encF A, encD p]), some (.str w), none, none, none]) rfl ?_
  show b_kind_of (run C n) C n [some (.tup (Γ.map encF)), some (.tup [.str w, encF A, encD p]), none, none, none, none] [] = _
  rw [k_start]
  unfold kVar kFun
  rw [seq_nx (skip (w := w) (y := "var") rfl s (by decide +kernel) n1), seq_nx (skip (w := w) (y := "fun") rfl s (by decide +kernel) n2)]
  refine seq_ret ?_
  unfold kSide
  rw [if_t (in_at (w := w) rfl i1 i2)]
  refine ret_at ?_
  have sk : eP (run C n .kind_of) (aCons (eVar 0) (aCons (eBin gIx (eVar 1) (eC (.int 2))) (aNil))) [some (.tup (Γ.map encF)), some (.tup [.str w, encF A, encD p]), some (.str w), none, none, none] [] = some (encF K, []) := sub_kind h rfl rfl
  exact eP_at (as := [.str w, encF A, encF K]) (args3 rfl rfl sk) (by show (true && ((encF A).pure && ((encF K).pure && true))) = true; rw [pureF, pureF]; rfl) hm (pureF A)
theorem case_at {n : Nat} {Γ : List Fm} {A B D : Fm} {p q r : Db} (hl : Γ.length ≤ 1000) (h1 : KO C n Γ p (.or A B)) (h2 : KO C n (A :: Γ) q D) (h3 : KO C n (B :: Γ) r D) (hd : (encF D).toD.depth ≤ 900) :
    run C (n + 1) .case_kind [.tup (Γ.map encF), encD (.case p q r)] [] = some (encF D, []) := by
  have ctx : ∀ (X : Fm) (k : Int) (e3 e4 : Option PV), gIx (encF (.or A B)) (.int k) ([] : Store) = some (encF X, []) → eBin gAdd (eTup (aCons (eBin gIx (eVar 2) (eC (.int k))) (aNil))) (eVar 0) [some (.tup (Γ.map encF)), some (encD (.case p q r)), some (encF (.or A B)), e3, e4] [] = some (.tup ((X :: Γ).map encF), []) := fun X k e3 e4 hx => by
    have e1 : eTup (aCons (eBin gIx (eVar 2) (eC (.int k))) (aNil)) [some (.tup (Γ.map encF)), some (encD (.case p q r)), some (encF (.or A B)), e3, e4] [] = some (.tup [encF X], []) := by
      unfold eTup aCons aNil
      rw [bin_at (v1 := encF (.or A B)) (v2 := .int k) rfl rfl hx]
      rfl
    refine bin_at (v1 := .tup [encF X]) (v2 := .tup (Γ.map encF)) e1 rfl ?_
    show (if [encF X].length + (Γ.map encF).length ≤ sizeLine then some (PV.tup ([encF X] ++ Γ.map encF), ([] : Store)) else none) = _
    rw [if_pos (by rw [List.length_map]; exact line_le (show 1 + Γ.length ≤ 2000 by omega))]
    rfl
  refine fn_ret (env' := [some (.tup (Γ.map encF)), some (encD (.case p q r)), some (encF (.or A B)), some (encF D), some (encF D)]) rfl ?_
  show b_case_kind (run C n) C n [some (.tup (Γ.map encF)), some (encD (.case p q r)), none, none, none] [] = _
  unfold b_case_kind
  refine (seq_nx (env' := [some (.tup (Γ.map encF)), some (encD (.case p q r)), some (encF (.or A B)), none, none]) (set_at (sub_kind h1 rfl rfl))).trans ?_
  have t1 : tOr2 (tOf (eBin (gIsN false) (eVar 2) (eC .non))) (tOf (eBin gNe (eBin gIx (eVar 2) (eC (.int 0))) (eC (.str "or")))) [some (.tup (Γ.map encF)), some (encD (.case p q r)), some (encF (.or A B)), none, none] [] = some (false, []) := by
    rw [or2_f (tOf_bin (var_at (p := encF (.or A B)) rfl) rfl (isNonF _))]
    refine tOf_bin (v1 := .str "or") (v2 := .str "or") (bin_at (v1 := encF (.or A B)) (v2 := .int 0) rfl rfl (ix0 _ _)) rfl ?_
    unfold gNe
    rw [if_pos (show lowD (.str "or") (.str "or") = true by decide +kernel), show PyData.eqv (PV.str "or").toD (PV.str "or").toD = true by decide +kernel]
    rfl
  rw [seq_nx (if_f t1)]
  refine (seq_nx (env' := [some (.tup (Γ.map encF)), some (encD (.case p q r)), some (encF (.or A B)), some (encF D), none]) (set_at (sub_kind h2 (ctx A 1 _ _ (ix1 _ _ _)) rfl))).trans ?_
  refine (seq_nx (env' := [some (.tup (Γ.map encF)), some (encD (.case p q r)), some (encF (.or A B)), some (encF D), some (encF D)]) (set_at (sub_kind h3 (ctx B 2 _ _ (ix2 _ _ _ _)) rfl))).trans ?_
  refine ret_at ?_
  have t2 : tOf (eBin gEq (eVar 3) (eVar 4)) [some (.tup (Γ.map encF)), some (encD (.case p q r)), some (encF (.or A B)), some (encF D), some (encF D)] [] = some (true, []) := by
    refine tOf_bin (v1 := encF D) (v2 := encF D) rfl rfl ?_
    rw [eqF_at D D hd, decide_eq_true rfl]
  rw [eif_t ((and2_t (tOf_bin (var_at (p := encF D) rfl) rfl (isNonF' D))).trans t2)]
  rfl
theorem ko_case {n : Nat} {Γ : List Fm} {D : Fm} {p q r : Db} (h : run C n .case_kind [.tup (Γ.map encF), encD (.case p q r)] [] = some (encF D, [])) : KO C (n + 1) Γ (.case p q r) D := by
  have s : PyData.strOk "case" = true := by decide +kernel
  refine fn_ret (env' := [some (.tup (Γ.map encF)), some (encD (.case p q r)), some (.str "case"), none, none, none]) rfl ?_
  show b_kind_of (run C n) C n [some (.tup (Γ.map encF)), some (.tup [.str "case", encD p, encD q, encD r]), none, none, none, none] [] = _
  rw [k_start]
  unfold kVar kFun kSide
  rw [seq_nx (skip (w := "case") (y := "var") rfl s (by decide +kernel) (by decide +kernel)), seq_nx (skip (w := "case") (y := "fun") rfl s (by decide +kernel) (by decide +kernel))]
  refine (seq_nx (show sIf _ _ sNx [some (.tup (Γ.map encF)), some (.tup [.str "case", encD p, encD q, encD r]), some (.str "case"), none, none, none] [] = some (.nx, _, _) from (if_f (in_at (w := "case") rfl (by decide +kernel) (by decide +kernel))).trans rfl)).trans ?_
  refine seq_ret ?_
  unfold kCase
  rw [take (w := "case") rfl s]
  refine ret_at ?_
  exact eP_at (as := [.tup (Γ.map encF), encD (.case p q r)]) rfl (ctx_pure Γ _ (by show ((encD (.case p q r)).pure && true) = true; rw [pureD]; rfl)) h (pureF D)
end
end K07
end L3
end
section
set_option Elab.async false
set_option linter.all false
set_option maxRecDepth 100000
set_option maxHeartbeats 0
namespace L3
namespace K07
open PySem G
section
variable {C : Addr} {st : Store} {env : EnvP}
theorem lst0 (x : PV) (r : List PV) : gIx (.lst (x :: r)) (.int 0) st = some (x, st) := by
  show (match seqL (.lst (x :: r)) st with | some xs => (match L2.atI xs ((0 : Nat) : Int) with | some v => some (v, st) | none => none) | none => none) = _
  simp only [seqL_lst]
  rw [L2.atI_nat (v := x) rfl]
theorem lst1 (x y : PV) (r : List PV) : gIx (.lst (x :: y :: r)) (.int 1) st = some (y, st) := by
  show (match seqL (.lst (x :: y :: r)) st with | some xs => (match L2.atI xs ((1 : Nat) : Int) with | some v => some (v, st) | none => none) | none => none) = _
  simp only [seqL_lst]
  rw [L2.atI_nat (v := y) rfl]
/-- the words of the end: app, pair, first, second -/
def Ends4 (w : Str) : Prop := w = "app" ∨ w = "pair" ∨ w = "first" ∨ w = "second"
theorem k_end {n : Nat} {G0 : Option PV} {w : Str} {r : List PV} (hw : Ends4 w) : b_kind_of (run C n) C n [G0, some (.tup (.str w :: r)), none, none, none, none] st = sSeq (kComp C n) (sSeq kNone (sSeq kPair (sSeq kApp kEnd))) [G0, some (.tup (.str w :: r)), some (.str w), none, none, none] st := by
  have s : PyData.strOk w = true := by rcases hw with h | h | h | h <;> subst h <;> decide +kernel
  have n1 : w ≠ "var" := by rcases hw with h | h | h | h <;> subst h <;> decide +kernel
  have n2 : w ≠ "fun" := by rcases hw with h | h | h | h <;> subst h <;> decide +kernel
  have n3 : w ≠ "case" := by rcases hw with h | h | h | h <;> subst h <;> decide +kernel
  have i1 : lowIn (.str w) sides = true := by rcases hw with h | h | h | h <;> subst h <;> decide +kernel
  have i2 : anyD (.str w) [.str "left", .str "right", .str "never"] = false := by rcases hw with h | h | h | h <;> subst h <;> decide +kernel
  rw [k_start]
  unfold kVar kFun kSide kCase
  rw [seq_nx (skip (w := w) (y := "var") rfl s (by decide +kernel) n1), seq_nx (skip (w := w) (y := "fun") rfl s (by decide +kernel) n2)]
  refine (seq_nx (show sIf _ _ sNx [G0, some (.tup (.str w :: r)), some (.str w), none, none, none] st = some (.nx, _, _) from (if_f (in_at (w := w) rfl i1 i2)).trans rfl)).trans ?_
  rw [seq_nx (skip (w := w) (y := "case") rfl s (by decide +kernel) n3)]
theorem none_in (l : List Fm) : gIn .non (.lst (l.map encF)) st = some (.bl false, st) := by
  have hl : (PV.lst (l.map encF)).lay = true := by
    have : ∀ l : List Fm, PV.pures (l.map encF) = true ∧ PyData.canLayAll0 (PV.toDs (l.map encF)) = true := fun l => by
      induction l with
      | nil => exact ⟨rfl, rfl⟩
      | cons A l ih =>
        refine ⟨?_, ?_⟩
        · show ((encF A).pure && PV.pures (l.map encF)) = true; rw [pureF, ih.1]; rfl
        · show ((encF A).toD.canLay0 && PyData.canLayAll0 (PV.toDs (l.map encF))) = true; rw [layF, ih.2]; rfl
    show (PV.pures (l.map encF) && PyData.canLayAll0 (PV.toDs (l.map encF))) = true
    rw [(this l).1, (this l).2]; rfl
  have h1 : lowIn .non (.lst (l.map encF)) = true := by
    unfold lowIn
    rw [hl]
    have h0 : min (PV.lst (l.map encF)).toD.depth PV.non.toD.depth ≤ 900 := Nat.le_trans (Nat.min_le_right _ _) (by decide)
    rw [decide_eq_true h0]
    rfl
  have h2 : anyD .non (l.map encF) = false := by
    induction l with
    | nil => rfl
    | cons A l ih =>
      have : ∀ l : List Fm, anyD .non (l.map encF) = false := fun l => by
        induction l with
        | nil => rfl
        | cons A l ih =>
          show (PyData.eqv (encF A).toD PV.non.toD || anyD .non (l.map encF)) = false
          rw [ih, show PyData.eqv (encF A).toD PV.non.toD = false by cases A <;> rfl]; rfl
      exact this (A :: l)
  unfold gIn
  rw [if_pos h1]
  show some (PV.bl (anyD .non (l.map encF)), st) = _
  rw [h2]
theorem comp1 {n : Nat} {Γ : List Fm} {d1 : Db} {A1 : Fm} {p w k4 k3 : Option PV} (h1 : KO C n Γ d1 A1) : comp (tN 5) tYes (eP (run C n .kind_of) (aCons (eVar 0) (aCons (eVar 5) aNil))) [some (.tup (Γ.map encF)), p, w, k3, k4, none] [encD d1] [] [] = some ([encF A1], []) := by
  have e1 : eP (run C n .kind_of) (aCons (eVar 0) (aCons (eVar 5) aNil)) [some (.tup (Γ.map encF)), p, w, k3, k4, some (encD d1)] [] = some (encF A1, []) := sub_kind h1 rfl rfl
  show (match eP (run C n .kind_of) (aCons (eVar 0) (aCons (eVar 5) aNil)) [some (.tup (Γ.map encF)), p, w, k3, k4, some (encD d1)] [] with
    | some (y, st2) => if ([] : List PV).length < sizeLine then some ([] ++ [y], st2) else none
    | none => none) = _
  rw [e1]
  rfl
theorem comp2 {n : Nat} {Γ : List Fm} {d1 d2 : Db} {A1 A2 : Fm} {p w k4 k3 : Option PV} (h1 : KO C n Γ d1 A1) (h2 : KO C n Γ d2 A2) : comp (tN 5) tYes (eP (run C n .kind_of) (aCons (eVar 0) (aCons (eVar 5) aNil))) [some (.tup (Γ.map encF)), p, w, k3, k4, none] [encD d1, encD d2] [] [] = some ([encF A1, encF A2], []) := by
  have e1 : eP (run C n .kind_of) (aCons (eVar 0) (aCons (eVar 5) aNil)) [some (.tup (Γ.map encF)), p, w, k3, k4, some (encD d1)] [] = some (encF A1, []) := sub_kind h1 rfl rfl
  have e2 : eP (run C n .kind_of) (aCons (eVar 0) (aCons (eVar 5) aNil)) [some (.tup (Γ.map encF)), p, w, k3, k4, some (encD d2)] [] = some (encF A2, []) := sub_kind h2 rfl rfl
  show (match eP (run C n .kind_of) (aCons (eVar 0) (aCons (eVar 5) aNil)) [some (.tup (Γ.map encF)), p, w, k3, k4, some (encD d1)] [] with
    | some (y, st2) => if ([] : List PV).length < sizeLine then (match eP (run C n .kind_of) (aCons (eVar 0) (aCons (eVar 5) aNil)) [some (.tup (Γ.map encF)), p, w, k3, k4, some (encD d2)] st2 with
      | some (z, st3) => if ([y] : List PV).length < sizeLine then some ([y] ++ [z], st3) else none
      | none => none) else none
    | none => none) = _
  rw [e1]
  simp only
  rw [if_pos (show ([] : List PV).length < sizeLine by decide), e2]
  rfl
/-- kinds stands: what follows -/
theorem k_go {n : Nat} {Γ : List Fm} {w : Str} {r : List PV} {l : List Fm} (hc : comp (tN 5) tYes (eP (run C n .kind_of) (aCons (eVar 0) (aCons (eVar 5) aNil))) [some (.tup (Γ.map encF)), some (.tup (.str w :: r)), some (.str w), none, none, none] r [] [] = some (l.map encF, [])) :
    sSeq (kComp C n) (sSeq kNone (sSeq kPair (sSeq kApp kEnd))) [some (.tup (Γ.map encF)), some (.tup (.str w :: r)), some (.str w), none, none, none] [] = sSeq kPair (sSeq kApp kEnd) [some (.tup (Γ.map encF)), some (.tup (.str w :: r)), some (.str w), some (.lst (l.map encF)), none, none] [] := by
  have ec : eLc (iSeq (eSl gSlT (eVar 1) (oSome (eC (.int 1))) (oNone))) (tN 5) (tYes) (eP (run C n .kind_of) (aCons (eVar 0) (aCons (eVar 5) (aNil)))) [5] [some (.tup (Γ.map encF)), some (.tup (.str w :: r)), some (.str w), none, none, none] [] = some (.lst (l.map encF), []) := by
    have c : cutP (PV.str w :: r) (some ((1 : Nat) : Int)) none = r := by rw [cut_drop _ _ (by simp)]; rfl
    show (match comp (tN 5) tYes (eP (run C n .kind_of) (aCons (eVar 0) (aCons (eVar 5) aNil))) [some (.tup (Γ.map encF)), some (.tup (.str w :: r)), some (.str w), none, none, none] (cutP (PV.str w :: r) (some ((1 : Nat) : Int)) none) [] [] with
      | some (ys, st2) => some (PV.lst ys, st2)
      | none => none) = _
    rw [c, hc]
  unfold kComp kNone
  refine (seq_nx (env' := [some (.tup (Γ.map encF)), some (.tup (.str w :: r)), some (.str w), some (.lst (l.map encF)), none, none]) (set_at ec)).trans ?_
  exact seq_nx ((if_f (tOf_bin (v1 := .non) (v2 := .lst (l.map encF)) rfl rfl (none_in l))).trans rfl)
theorem ko_pair {n : Nat} {Γ : List Fm} {A B : Fm} {p q : Db} (h1 : KO C n Γ p A) (h2 : KO C n Γ q B) : KO C (n + 1) Γ (.pair p q) (.and A B) := by
  refine fn_ret (env' := [some (.tup (Γ.map encF)), some (.tup [.str "pair", encD p, encD q]), some (.str "pair"), some (.lst ([A, B].map encF)), none, none]) rfl ?_
  show b_kind_of (run C n) C n [some (.tup (Γ.map encF)), some (.tup [.str "pair", encD p, encD q]), none, none, none, none] [] = _
  rw [k_end (.inr (.inl rfl)), k_go (l := [A, B]) (comp2 h1 h2)]
  refine seq_ret ?_
  unfold kPair
  rw [take (w := "pair") rfl (by decide +kernel)]
  exact ret_at (by
    unfold eTup
    rw [args3 (v1 := .str "and") rfl (bin_at (v1 := .lst [encF A, encF B]) (v2 := .int 0) rfl rfl (lst0 _ _)) (bin_at (v1 := .lst [encF A, encF B]) (v2 := .int 1) rfl rfl (lst1 _ _ _))]
    rfl)
theorem ko_app {n : Nat} {Γ : List Fm} {A B : Fm} {p q : Db} (h1 : KO C n Γ p (.imp A B)) (h2 : KO C n Γ q A) (hd : (encF A).toD.depth ≤ 900) : KO C (n + 1) Γ (.app p q) B := by
  refine fn_ret (env' := [some (.tup (Γ.map encF)), some (.tup [.str "app", encD p, encD q]), some (.str "app"), some (.lst ([.imp A B, A].map encF)), none, none]) rfl ?_
  show b_kind_of (run C n) C n [some (.tup (Γ.map encF)), some (.tup [.str "app", encD p, encD q]), none, none, none, none] [] = _
  rw [k_end (.inl rfl), k_go (l := [.imp A B, A]) (comp2 h1 h2)]
  unfold kPair
  rw [seq_nx (skip (w := "app") (y := "pair") rfl (by decide +kernel) (by decide +kernel) (by decide +kernel))]
  refine seq_ret ?_
  unfold kApp
  rw [take (w := "app") rfl (by decide +kernel)]
  refine ret_at ?_
  have k0 : eBin gIx (eVar 3) (eC (.int 0)) [some (.tup (Γ.map encF)), some (.tup [.str "app", encD p, encD q]), some (.str "app"), some (.lst ([.imp A B, A].map encF)), none, none] [] = some (encF (.imp A B), []) := bin_at (v1 := .lst [encF (.imp A B), encF A]) (v2 := .int 0) rfl rfl (lst0 _ _)
  have k1 : eBin gIx (eVar 3) (eC (.int 1)) [some (.tup (Γ.map encF)), some (.tup [.str "app", encD p, encD q]), some (.str "app"), some (.lst ([.imp A B, A].map encF)), none, none] [] = some (encF A, []) := bin_at (v1 := .lst [encF (.imp A B), encF A]) (v2 := .int 1) rfl rfl (lst1 _ _ _)
  have t1 : tOf (eBin gEq (eBin gIx (eBin gIx (eVar 3) (eC (.int 0))) (eC (.int 0))) (eC (.str "to"))) [some (.tup (Γ.map encF)), some (.tup [.str "app", encD p, encD q]), some (.str "app"), some (.lst ([.imp A B, A].map encF)), none, none] [] = some (true, []) := by
    refine tOf_bin (v1 := .str "to") (v2 := .str "to") (bin_at (v2 := .int 0) k0 rfl (ix0 _ _)) rfl ?_
    rw [eqS_at "to" "to" (by decide +kernel) (by decide +kernel), decide_eq_true rfl]
  have t2 : tOf (eBin gEq (eBin gIx (eBin gIx (eVar 3) (eC (.int 0))) (eC (.int 1))) (eBin gIx (eVar 3) (eC (.int 1)))) [some (.tup (Γ.map encF)), some (.tup [.str "app", encD p, encD q]), some (.str "app"), some (.lst ([.imp A B, A].map encF)), none, none] [] = some (true, []) := by
    refine tOf_bin (v1 := encF A) (v2 := encF A) (bin_at (v2 := .int 1) k0 rfl (ix1 _ _ _)) k1 ?_
    rw [eqF_at A A hd, decide_eq_true rfl]
  rw [eif_t ((and2_t t1).trans t2)]
  exact bin_at (v2 := .int 2) k0 rfl (ix2 _ _ _ _)
theorem ko_one {n : Nat} {Γ : List Fm} {A B : Fm} {p d : Db} {w : Str} {X : Fm} (he : encD d = .tup [.str w, encD p]) (hw : (w = "first" ∧ X = A) ∨ (w = "second" ∧ X = B)) (h1 : KO C n Γ p (.and A B)) : KO C (n + 1) Γ d X := by
  have s : PyData.strOk w = true := by rcases hw with ⟨h, _⟩ | ⟨h, _⟩ <;> subst h <;> decide +kernel
  have n1 : w ≠ "pair" := by rcases hw with ⟨h, _⟩ | ⟨h, _⟩ <;> subst h <;> decide +kernel
  have n2 : w ≠ "app" := by rcases hw with ⟨h, _⟩ | ⟨h, _⟩ <;> subst h <;> decide +kernel
  have e4 : Ends4 w := by rcases hw with ⟨h, _⟩ | ⟨h, _⟩ <;> subst h <;> simp [Ends4]
  unfold KO
  rw [he]
  refine fn_ret (env' := [some (.tup (Γ.map encF)), some (.tup [.str w, encD p]), some (.str w), some (.lst ([.and A B].map encF)), none, none]) rfl ?_
  show b_kind_of (run C n) C n [some (.tup (Γ.map encF)), some (.tup [.str w, encD p]), none, none, none, none] [] = _
  rw [k_end e4, k_go (l := [.and A B]) (comp1 h1)]
  unfold kPair kApp kEnd
  rw [seq_nx (skip (w := w) (y := "pair") rfl s (by decide +kernel) n1), seq_nx (skip (w := w) (y := "app") rfl s (by decide +kernel) n2)]
  refine ret_at ?_
  have k0 : eBin gIx (eVar 3) (eC (.int 0)) [some (.tup (Γ.map encF)), some (.tup [.str w, encD p]), some (.str w), some (.lst ([.and A B].map encF)), none, none] [] = some (encF (.and A B), []) := bin_at (v1 := .lst [encF (.and A B)]) (v2 := .int 0) rfl rfl (lst0 _ _)
  have t1 : tOf (eBin gEq (eBin gIx (eBin gIx (eVar 3) (eC (.int 0))) (eC (.int 0))) (eC (.str "and"))) [some (.tup (Γ.map encF)), some (.tup [.str w, encD p]), some (.str w), some (.lst ([.and A B].map encF)), none, none] [] = some (true, []) := by
    refine tOf_bin (v1 := .str "and") (v2 := .str "and") (bin_at (v2 := .int 0) k0 rfl (ix0 _ _)) rfl ?_
    rw [eqS_at "and" "and" (by decide +kernel) (by decide +kernel), decide_eq_true rfl]
  rw [eif_t t1]
  rcases hw with ⟨h, e⟩ | ⟨h, e⟩
  · subst h e
    exact bin_at (v2 := .int 1) k0 ((eif_t ((eqL "first" "first" s s rfl).trans (by rw [decide_eq_true rfl]))).trans rfl) (ix1 _ _ _)
  · subst h e
    exact bin_at (v2 := .int 2) k0 ((eif_f ((eqL "second" "first" s (by decide +kernel) rfl).trans (by rw [decide_eq_false (by decide +kernel)]))).trans rfl) (ix2 _ _ _ _)
theorem low60 {A : Fm} (h : fdep A ≤ 400) : (encF A).toD.depth ≤ 900 := by have := depFd A; omega
theorem kind_of_at {Γ : List Fm} {d : Db} {A : Fm} (h : TyD Γ d A) : ∀ n : Nat, SmallD 60 d → (∀ B ∈ Γ, fdep B ≤ 60) → wdep d ≤ n → Γ.length + wdep d ≤ 1000 → wdep d ≤ 300 → KO C n Γ d A := by
  induction h with
  | var e =>
    intro n _ _ hn _ _
    have h1 : 1 ≤ n := hn
    obtain ⟨n, rfl⟩ : ∃ k, n = k + 1 := ⟨n - 1, by omega⟩
    exact ko_var e
  | @fn Γ A B p _ ih =>
    intro n s hc hn hl h3
    have hn' : wdep p + 1 ≤ n := hn
    have hl' : Γ.length + (wdep p + 1) ≤ 1000 := hl
    have h3' : wdep p + 1 ≤ 300 := h3
    obtain ⟨n, rfl⟩ : ∃ k, n = k + 1 := ⟨n - 1, by omega⟩
    exact ko_fun (by omega) (ih n s.2 (fun C hC => by
      rcases List.mem_cons.mp hC with e | e
      · subst e; exact fd60 s.1
      · exact hc C e) (by omega) (by show Γ.length + 1 + wdep p ≤ 1000; omega) (by omega))
  | @app Γ A B p q t1 t2 i1 i2 =>
    intro n s hc hn hl h3
    have hn' : max (wdep p) (wdep q) + 1 ≤ n := hn
    have hl' : Γ.length + (max (wdep p) (wdep q) + 1) ≤ 1000 := hl
    have h3' : max (wdep p) (wdep q) + 1 ≤ 300 := h3
    obtain ⟨n, rfl⟩ : ∃ k, n = k + 1 := ⟨n - 1, by omega⟩
    exact ko_app (i1 n s.1 hc (by omega) (by omega) (by omega)) (i2 n s.2 hc (by omega) (by omega) (by omega)) (low60 (by have := (tyGen t1 s.1 hc).1.arg; omega))
  | @pair Γ A B p q t1 t2 i1 i2 =>
    intro n s hc hn hl h3
    have hn' : max (wdep p) (wdep q) + 1 ≤ n := hn
    have hl' : Γ.length + (max (wdep p) (wdep q) + 1) ≤ 1000 := hl
    have h3' : max (wdep p) (wdep q) + 1 ≤ 300 := h3
    obtain ⟨n, rfl⟩ : ∃ k, n = k + 1 := ⟨n - 1, by omega⟩
    exact ko_pair (i1 n s.1 hc (by omega) (by omega) (by omega)) (i2 n s.2 hc (by omega) (by omega) (by omega))
  | @fst Γ A B p t1 i1 =>
    intro n s hc hn hl h3
    have hn' : wdep p + 1 ≤ n := hn
    have hl' : Γ.length + (wdep p + 1) ≤ 1000 := hl
    have h3' : wdep p + 1 ≤ 300 := h3
    obtain ⟨n, rfl⟩ : ∃ k, n = k + 1 := ⟨n - 1, by omega⟩
    exact ko_one (w := "first") rfl (.inl ⟨rfl, rfl⟩) (i1 n s hc (by omega) (by omega) (by omega))
  | @snd Γ A B p t1 i1 =>
    intro n s hc hn hl h3
    have hn' : wdep p + 1 ≤ n := hn
    have hl' : Γ.length + (wdep p + 1) ≤ 1000 := hl
    have h3' : wdep p + 1 ≤ 300 := h3
    obtain ⟨n, rfl⟩ : ∃ k, n = k + 1 := ⟨n - 1, by omega⟩
    exact ko_one (w := "second") rfl (.inr ⟨rfl, rfl⟩) (i1 n s hc (by omega) (by omega) (by omega))
  | @inl Γ A B p t1 i1 =>
    intro n s hc hn hl h3
    have hn' : wdep p + 1 ≤ n := hn
    have hl' : Γ.length + (wdep p + 1) ≤ 1000 := hl
    have h3' : wdep p + 1 ≤ 300 := h3
    have := wdep_pos p
    obtain ⟨n, rfl⟩ : ∃ k, n = k + 2 := ⟨n - 2, by omega⟩
    exact ko_side (w := "left") rfl (.inl rfl) (i1 (n + 1) s.2 hc (by omega) (by omega) (by omega)) (made_side (i := 0) (.inl ⟨rfl, rfl⟩) (low60 (by have := (tyGen t1 s.2 hc).2; omega)))
  | @inr Γ A B p t1 i1 =>
    intro n s hc hn hl h3
    have hn' : wdep p + 1 ≤ n := hn
    have hl' : Γ.length + (wdep p + 1) ≤ 1000 := hl
    have h3' : wdep p + 1 ≤ 300 := h3
    have := wdep_pos p
    obtain ⟨n, rfl⟩ : ∃ k, n = k + 2 := ⟨n - 2, by omega⟩
    exact ko_side (w := "right") rfl (.inr (.inl rfl)) (i1 (n + 1) s.2 hc (by omega) (by omega) (by omega)) (made_side (i := 0) (.inr ⟨rfl, rfl⟩) (low60 (by have := (tyGen t1 s.2 hc).2; omega)))
  | @never Γ A p t1 i1 =>
    intro n s hc hn hl h3
    have hn' : wdep p + 1 ≤ n := hn
    have hl' : Γ.length + (wdep p + 1) ≤ 1000 := hl
    have h3' : wdep p + 1 ≤ 300 := h3
    have := wdep_pos p
    obtain ⟨n, rfl⟩ : ∃ k, n = k + 2 := ⟨n - 2, by omega⟩
    exact ko_side (w := "never") rfl (.inr (.inr rfl)) (i1 (n + 1) s.2 hc (by omega) (by omega) (by omega)) made_never
  | @case Γ A B D p q r t1 t2 t3 i1 i2 i3 =>
    intro n s hc hn hl h3
    have hn' : max (wdep p) (max (wdep q) (wdep r)) + 2 ≤ n := hn
    have hl' : Γ.length + (max (wdep p) (max (wdep q) (wdep r)) + 2) ≤ 1000 := hl
    have h3' : max (wdep p) (max (wdep q) (wdep r)) + 2 ≤ 300 := h3
    obtain ⟨n, rfl⟩ : ∃ k, n = k + 2 := ⟨n - 2, by omega⟩
    have g : 1 + max (fdep A) (fdep B) ≤ 60 := (tyGen t1 s.1 hc).1
    have c1 : ∀ X ∈ A :: Γ, fdep X ≤ 60 := fun X hX => by
      rcases List.mem_cons.mp hX with e | e
      · subst e; omega
      · exact hc X e
    have c2 : ∀ X ∈ B :: Γ, fdep X ≤ 60 := fun X hX => by
      rcases List.mem_cons.mp hX with e | e
      · subst e; omega
      · exact hc X e
    exact ko_case (case_at (by omega) (i1 n s.1 hc (by omega) (by omega) (by omega)) (i2 n s.2.1 c1 (by omega) (by show Γ.length + 1 + wdep q ≤ 1000; omega) (by omega)) (i3 n s.2.2 c2 (by omega) (by show Γ.length + 1 + wdep r ≤ 1000; omega) (by omega)) (low60 (by have := (tyGen t2 s.2.1 c1).2; omega)))
/-- proves((), d, A) -/
theorem proves_at {n : Nat} {d : Db} {A : Fm} (t : TyD [] d A) (s : SmallD 60 d) (hw : wdep d ≤ 120) (hn : 154 ≤ n) : run C (n + 1) .proves [.tup [], encD d, encF A] [] = some (.bl true, []) := by
  have k := kind_of_at (C := C) t n s (fun B hB => nomatch hB) (by omega) (by show 0 + _ ≤ 1000; omega) (by omega)
  have hp : eP (run C n .is_program) (aCons (eVar 1) aNil) [some (.tup []), some (encD d), some (encF A)] [] = some (.bl true, []) := by
    obtain ⟨m, rfl⟩ : ∃ k, n = k + 1 := ⟨n - 1, by omega⟩
    exact eP_at (as := [encD d]) (st2 := []) rfl (by show ((encD d).pure && true) = true; rw [pureD]; rfl) (is_program_at (C := C) d (m + 1) 120 (by omega) (by omega) s) rfl
  have hk : eP (run C n .kind_of) (aCons (eCall cTup (aCons (eVar 0) aNil)) (aCons (eVar 1) aNil)) [some (.tup []), some (encD d), some (encF A)] [] = some (encF A, []) := sub_kind (Γ := []) k rfl rfl
  have g := tyGen t s (fun B hB => nomatch hB)
  refine fn_ret (env' := [some (.tup []), some (encD d), some (encF A)]) rfl ?_
  show b_proves (run C n) C n [some (.tup []), some (encD d), some (encF A)] [] = _
  refine ret_at ?_
  unfold eAnd2
  rw [hp]
  simp only
  exact bin_at hk rfl (by rw [eqF_at A A (low60 (by omega)), decide_eq_true rfl])
end
end K07
end L3
end
section
set_option Elab.async false
set_option linter.all false
set_option maxRecDepth 100000
set_option maxHeartbeats 0
namespace L3
namespace K07
open PySem G
section
variable {C : Addr} {ns : List Int} {st : Store} {env : EnvP}
/-! ### sentences drawn -/
theorem bin_st {g : G2} {f1 f2 : FE} {v1 v2 : PV} {st1 st2 : Store} {w : Option (PV × Store)} (h1 : f1 env st = some (v1, st1)) (h2 : f2 env st1 = some (v2, st2)) (hg : g v1 v2 st2 = w) : eBin g f1 f2 env st = w := by
  unfold eBin; rw [h1]; simp only [h2, hg]
theorem tOf_st {g : G2} {f1 f2 : FE} {v1 v2 : PV} {st1 st2 : Store} {b : Bool} (h1 : f1 env st = some (v1, st1)) (h2 : f2 env st1 = some (v2, st2)) (hg : g v1 v2 st2 = some (.bl b, st2)) : tOf (eBin g f1 f2) env st = some (b, st2) := by
  unfold tOf; rw [bin_st h1 h2 hg]
theorem eif_st {t : FT} {a b : FE} {c : Bool} {st1 : Store} (h : t env st = some (c, st1)) : eIf t a b env st = (if c = true then a else b) env st1 := by
  unfold eIf; rw [h]; cases c <;> rfl
theorem args2_st {f1 f2 : FE} {v1 v2 : PV} {st1 st2 : Store} (h1 : f1 env st = some (v1, st1)) (h2 : f2 env st1 = some (v2, st2)) : aCons f1 (aCons f2 aNil) env st = some ([v1, v2], st2) := by
  unfold aCons aNil
  rw [h1]; simp only [h2]
theorem args3_st {f1 f2 f3 : FE} {v1 v2 v3 : PV} {st1 st2 st3 : Store} (h1 : f1 env st = some (v1, st1)) (h2 : f2 env st1 = some (v2, st2)) (h3 : f3 env st2 = some (v3, st3)) : aCons f1 (aCons f2 (aCons f3 aNil)) env st = some ([v1, v2, v3], st3) := by
  unfold aCons aNil
  rw [h1]; simp only [h2, h3]
theorem tup_st {fa : FA} {as : List PV} {st1 : Store} (h : fa env st = some (as, st1)) (hl : as.length ≤ 1000) : eTup fa env st = some (.tup as, st1) := by
  unfold eTup; rw [h]; simp only
  rw [if_pos (line_le (by omega))]
theorem eS_at {g : GA} {fa : FA} {as : List PV} {st1 : Store} {w : Option (PV × Store)} (h : fa env st = some (as, st1)) (hg : g as st1 = w) : eS g fa env st = w := by
  unfold eS; rw [h]; exact hg
theorem draw_at (n : Nat) {l : Int} {e : EnvP} (D : DrS ns st) (h0 : 0 < l) (h1 : l < 1000) : ∃ (v : Int) (st' : Store), eS (run C (n + 1) .law_draw) (aCons (eVar 0) (aCons (eC (.int l)) aNil)) (some (.loc 1) :: e) st = some (.int v, st') ∧ 0 ≤ v ∧ v < l ∧ DrS ns st' := by
  obtain ⟨v, st', e1, a, b, c⟩ := law_draw_at (C := C) n D h0 (by omega)
  exact ⟨v, st', eS_at rfl e1, a, b, c⟩
theorem pick_at (n : Nat) {xs : List PV} (D : DrS ns st) (h0 : 0 < xs.length) (h1 : xs.length < 1000) : ∃ (x : PV) (st' : Store), run C (n + 2) .law_pick [.loc 1, .lst xs] st = some (x, st') ∧ x ∈ xs ∧ DrS ns st' := by
  obtain ⟨v, st', e1, a, b, c⟩ := law_draw_at (C := C) (l := (xs.length : Nat)) n D (by omega) (by omega)
  obtain ⟨k, rfl⟩ : ∃ k : Nat, v = k := ⟨v.toNat, by omega⟩
  have hk : k < xs.length := by omega
  refine ⟨xs[k], st', ?_, List.getElem_mem hk, c⟩
  refine fn_ret (env' := [some (.loc 1), some (.lst xs)]) rfl ?_
  show b_law_pick (run C (n + 1)) C (n + 1) [some (.loc 1), some (.lst xs)] st = _
  refine ret_at ?_
  refine bin_st (v1 := .lst xs) (v2 := .int k) (st2 := st') rfl (eS_at (as := [.loc 1, .int xs.length]) (st1 := st) rfl e1) ?_
  show (match L2.atI xs ((k : Nat) : Int) with | some v => some (v, st') | none => none) = _
  rw [L2.atI_nat (v := xs[k]) (List.getElem?_eq_getElem hk)]
/-- _law_size -/
theorem lsize_two (n : Nat) {w : Str} {a b : Fm} (hw : w = "and" ∨ w = "or" ∨ w = "to") (h1 : run C n .law_size [encF a] [] = some (.int (sz a), [])) (h2 : run C n .law_size [encF b] [] = some (.int (sz b), [])) :
    run C (n + 1) .law_size [.tup [.str w, encF a, encF b]] [] = some (.int (1 + sz a + sz b : Nat), []) := by
  have p1 : ∀ {A : Fm} {v : Int}, run C n .law_size [encF A] [] = some (.int v, []) → eP (run C n .law_size) (aCons (eVar 1) aNil) [some (.tup [.str w, encF a, encF b]), some (encF A)] [] = some (.int v, []) := fun {A v} h =>
    eP_at (as := [encF A]) rfl (by show ((encF A).pure && true) = true; rw [pureF]; rfl) h rfl
  have cm : comp (tN 1) tYes (eP (run C n .law_size) (aCons (eVar 1) aNil)) [some (.tup [.str w, encF a, encF b]), none] [encF a, encF b] [] [] = some ([.int (sz a), .int (sz b)], []) := by
    show (match eP (run C n .law_size) (aCons (eVar 1) aNil) [some (.tup [.str w, encF a, encF b]), some (encF a)] [] with
      | some (y, st2) => if ([] : List PV).length < sizeLine then (match eP (run C n .law_size) (aCons (eVar 1) aNil) [some (.tup [.str w, encF a, encF b]), some (encF b)] st2 with
        | some (z, st3) => if ([y] : List PV).length < sizeLine then some ([y] ++ [z], st3) else none
        | none => none) else none
      | none => none) = _
    rw [p1 h1]
    simp only
    rw [if_pos (show ([] : List PV).length < sizeLine by decide), p1 h2]
    rfl
  have ec : eLc (iSeq (eSl gSlT (eVar 0) (oSome (eC (.int 1))) (oNone))) (tN 1) (tYes) (eP (run C n .law_size) (aCons (eVar 1) (aNil))) [1] [some (.tup [.str w, encF a, encF b]), none] [] = some (.lst [.int (sz a), .int (sz b)], []) := by
    have c : cutP [PV.str w, encF a, encF b] (some ((1 : Nat) : Int)) none = [encF a, encF b] := by rw [cut_drop _ _ (by simp)]; rfl
    show (match comp (tN 1) tYes (eP (run C n .law_size) (aCons (eVar 1) aNil)) [some (.tup [.str w, encF a, encF b]), none] (cutP [PV.str w, encF a, encF b] (some ((1 : Nat) : Int)) none) [] [] with
      | some (ys, st2) => some (PV.lst ys, st2)
      | none => none) = _
    rw [c, cm]
  have ei : eCall (cInts fun ns => some ns.sum) (aCons (eLc (iSeq (eSl gSlT (eVar 0) (oSome (eC (.int 1))) (oNone))) (tN 1) (tYes) (eP (run C n .law_size) (aCons (eVar 1) (aNil))) [1]) (aNil)) [some (.tup [.str w, encF a, encF b]), none] [] = some (.int ((sz a : Int) + ((sz b : Int) + 0)), []) := by
    unfold eCall
    rw [arg1 ec]
    rfl
  refine fn_ret (env' := [some (.tup [.str w, encF a, encF b]), none]) rfl ?_
  show b_law_size (run C n) C n [some (.tup [.str w, encF a, encF b]), none] [] = _
  refine ret_at ?_
  have t1 : tOf (eBin gIn (eBin gIx (eVar 0) (eC (.int 0))) (eTup (aCons (eC (.str "and")) (aCons (eC (.str "or")) (aCons (eC (.str "to")) (aNil)))))) [some (.tup [.str w, encF a, encF b]), none] [] = some (true, []) := by
    refine tOf_bin (v1 := .str w) (v2 := .tup [.str "and", .str "or", .str "to"]) (bin_at (v2 := .int 0) rfl rfl (ix0 _ _)) rfl ?_
    have h1 : lowIn (.str w) (.tup [.str "and", .str "or", .str "to"]) = true := by rcases hw with h | h | h <;> subst h <;> decide +kernel
    have h2 : anyD (.str w) [.str "and", .str "or", .str "to"] = true := by rcases hw with h | h | h <;> subst h <;> decide +kernel
    unfold gIn
    rw [if_pos h1]
    show some (PV.bl (anyD (.str w) [.str "and", .str "or", .str "to"]), ([] : Store)) = _
    rw [h2]
  rw [eif_t t1]
  refine bin_at (v1 := .int 1) rfl ei ?_
  show some (PV.int (1 + ((sz a : Int) + ((sz b : Int) + 0))), ([] : Store)) = _
  rw [show (1 + ((sz a : Int) + ((sz b : Int) + 0))) = ((1 + sz a + sz b : Nat) : Int) by omega]
theorem lsize_one (n : Nat) {w : Str} {r : List PV} (hw : w = "false" ∨ w = "atom") : run C (n + 1) .law_size [.tup (.str w :: r)] [] = some (.int 1, []) := by
  refine fn_ret (env' := [some (.tup (.str w :: r)), none]) rfl ?_
  show b_law_size (run C n) C n [some (.tup (.str w :: r)), none] [] = _
  refine ret_at ?_
  have t1 : tOf (eBin gIn (eBin gIx (eVar 0) (eC (.int 0))) (eTup (aCons (eC (.str "and")) (aCons (eC (.str "or")) (aCons (eC (.str "to")) (aNil)))))) [some (.tup (.str w :: r)), none] [] = some (false, []) := by
    refine tOf_bin (v1 := .str w) (v2 := .tup [.str "and", .str "or", .str "to"]) (bin_at (v1 := .tup (.str w :: r)) (v2 := .int 0) rfl rfl (ix0 _ _)) rfl ?_
    have h1 : lowIn (.str w) (.tup [.str "and", .str "or", .str "to"]) = true := by rcases hw with h | h <;> subst h <;> decide +kernel
    have h2 : anyD (.str w) [.str "and", .str "or", .str "to"] = false := by rcases hw with h | h <;> subst h <;> decide +kernel
    unfold gIn
    rw [if_pos h1]
    show some (PV.bl (anyD (.str w) [.str "and", .str "or", .str "to"]), ([] : Store)) = _
    rw [h2]
  rw [eif_f t1]
  rfl
theorem lsize_at : ∀ (A : Fm) (n : Nat), fdep A ≤ n → run C n .law_size [encF A] [] = some (.int (sz A), [])
  | .bot, n, h => by
    obtain ⟨n, rfl⟩ : ∃ k, n = k + 1 := ⟨n - 1, by have : 1 ≤ n := h; omega⟩
    exact lsize_one n (.inl rfl)
  | .atom x, n, h => by
    obtain ⟨n, rfl⟩ : ∃ k, n = k + 1 := ⟨n - 1, by have : 1 ≤ n := h; omega⟩
    exact lsize_one n (.inr rfl)
  | .and a b, n, h => by
    have h' : 1 + max (fdep a) (fdep b) ≤ n := h
    obtain ⟨n, rfl⟩ : ∃ k, n = k + 1 := ⟨n - 1, by omega⟩
    exact lsize_two n (.inl rfl) (lsize_at a n (by omega)) (lsize_at b n (by omega))
  | .or a b, n, h => by
    have h' : 1 + max (fdep a) (fdep b) ≤ n := h
    obtain ⟨n, rfl⟩ : ∃ k, n = k + 1 := ⟨n - 1, by omega⟩
    exact lsize_two n (.inr (.inl rfl)) (lsize_at a n (by omega)) (lsize_at b n (by omega))
  | .imp a b, n, h => by
    have h' : 1 + max (fdep a) (fdep b) ≤ n := h
    obtain ⟨n, rfl⟩ : ∃ k, n = k + 1 := ⟨n - 1, by omega⟩
    exact lsize_two n (.inr (.inr rfl)) (lsize_at a n (by omega)) (lsize_at b n (by omega))
/-- a short sentence -/
def sBase (C : Addr) (n : Nat) : FE := eIf (tOf (eBin gEq (eS (run C n .law_draw) (aCons (eVar 0) (aCons (eC (.int 5)) (aNil)))) (eC (.int 0)))) (eTup (aCons (eC (.str "false")) (aNil))) (eTup (aCons (eC (.str "atom")) (aCons (eS (run C n .law_pick) (aCons (eVar 0) (aCons (eP (run C n .law_atoms) aNil) (aNil)))) (aNil))))
theorem atoms_at (n : Nat) : eP (run C (n + 1) .law_atoms) aNil env st = some (.lst [.str "p", .str "q", .str "r"], st) := by
  refine eP_at (as := []) (st2 := []) rfl rfl ?_ rfl
  exact fn_ret (env' := []) rfl rfl
theorem base_at (n : Nat) {e : EnvP} (D : DrS ns st) : ∃ (A : Fm) (st' : Store), sBase C (n + 2) (some (.loc 1) :: e) st = some (encF A, st') ∧ sz A = 1 ∧ DrS ns st' := by
  obtain ⟨v, st1, e1, a, b, D1⟩ := draw_at (C := C) (n + 1) (e := e) D (show (0 : Int) < 5 by decide) (by decide)
  have t1 : tOf (eBin gEq (eS (run C (n + 2) .law_draw) (aCons (eVar 0) (aCons (eC (.int 5)) (aNil)))) (eC (.int 0))) (some (.loc 1) :: e) st = some (v == 0, st1) := tOf_st e1 rfl rfl
  unfold sBase
  rw [eif_st t1]
  by_cases hv : v = 0
  · subst hv
    refine ⟨.bot, st1, ?_, rfl, D1⟩
    rfl
  · rw [beq_eq_false_iff_ne.mpr hv]
    obtain ⟨x, st2, e2, hx, D2⟩ := pick_at (C := C) n (xs := [.str "p", .str "q", .str "r"]) D1 (by decide) (by decide)
    have fin : ∀ y : Nm, x = .str y.1 → ∃ (A : Fm) (st' : Store), (if false = true then eTup (aCons (eC (.str "false")) (aNil)) else eTup (aCons (eC (.str "atom")) (aCons (eS (run C (n + 2) .law_pick) (aCons (eVar 0) (aCons (eP (run C (n + 2) .law_atoms) aNil) (aNil)))) (aNil)))) (some (.loc 1) :: e) st1 = some (encF A, st') ∧ sz A = 1 ∧ DrS ns st' := fun y hy => by
      refine ⟨.atom y, st2, ?_, rfl, D2⟩
      subst hy
      show eTup _ _ _ = _
      exact tup_st (as := [.str "atom", .str y.1]) (args2_st rfl (eS_at (as := [.loc 1, .lst [.str "p", .str "q", .str "r"]]) (args2_st rfl (atoms_at (n + 1))) e2)) (show 2 ≤ 1000 by decide)
    simp only [List.mem_cons, List.not_mem_nil, or_false] at hx
    rcases hx with h | h | h
    · exact fin ⟨"p", by decide⟩ h
    · exact fin ⟨"q", by decide⟩ h
    · exact fin ⟨"r", by decide⟩ h
end
end K07
end L3
end
section
set_option Elab.async false
set_option linter.all false
set_option maxRecDepth 100000
set_option maxHeartbeats 0
namespace L3
namespace K07
open PySem G
section
variable {C : Addr} {ns : List Int} {st : Store} {env : EnvP}
def sKind (C : Addr) (n : Nat) : FE := eS (run C n .law_draw) (aCons (eVar 0) (aCons (eC (.int 9)) (aNil)))
def sS2 (C : Addr) (n : Nat) : FS := sIf (tOr2 (tOf (eBin gLt (eVar 1) (eC (.int 3)))) (tOf (eBin gEq (eVar 2) (eC (.int 0))))) (sRet (sBase C n)) (sNx)
def sS3 (C : Addr) (n : Nat) : FS := sIf (tAnd2 (tOf (eBin gEq (eVar 2) (eC (.int 1)))) (tOf (eBin gGt (eVar 1) (eC (.int 3))))) (sRet (eTup (aCons (eC (.str "to")) (aCons (eS (run C n .law_sentence) (aCons (eVar 0) (aCons (eBin gSub (eVar 1) (eC (.int 2))) (aNil)))) (aCons (eTup (aCons (eC (.str "false")) (aNil))) (aNil)))))) (sNx)
def sS4 (C : Addr) (n : Nat) : FE := eS (run C n .law_sentence) (aCons (eVar 0) (aCons (eIf (tOf (eBin gGt (eS (run C n .law_draw) (aCons (eVar 0) (aCons (eC (.int 3)) (aNil)))) (eC (.int 0)))) (eBin gDiv (eBin gSub (eVar 1) (eC (.int 1))) (eC (.int 2))) (eBin gSub (eVar 1) (eC (.int 2)))) (aNil)))
def sS5 (C : Addr) (n : Nat) : FE := eS (run C n .law_sentence) (aCons (eVar 0) (aCons (eBin gSub (eBin gSub (eVar 1) (eC (.int 1))) (eP (run C n .law_size) (aCons (eVar 3) (aNil)))) (aNil)))
def sRow : PV := .lst [.str "to", .str "to", .str "to", .str "and", .str "or"]
def sS6 (C : Addr) (n : Nat) : FE := eTup (aCons (eS (run C n .law_pick) (aCons (eVar 0) (aCons (eLst (aCons (eC (.str "to")) (aCons (eC (.str "to")) (aCons (eC (.str "to")) (aCons (eC (.str "and")) (aCons (eC (.str "or")) (aNil))))))) (aNil)))) (aCons (eVar 3) (aCons (eVar 4) (aNil))))
theorem b_law_sentence_eq (n : Nat) : b_law_sentence (run C n) C n = sSeq (sSet 2 (sKind C n)) (sSeq (sS2 C n) (sSeq (sS3 C n) (sSeq (sSet 3 (sS4 C n)) (sSeq (sSet 4 (sS5 C n)) (sRet (sS6 C n)))))) := rfl
theorem seq_to {a b : FS} {env' : EnvP} {st' : Store} {w : Option (Fl × EnvP × Store)} (h : a env st = some (.nx, env', st')) (k : b env' st' = w) : sSeq a b env st = w := by unfold sSeq; rw [h]; exact k
theorem sentence_at : ∀ (k : Nat) (left : Int) (m : Nat) (st : Store), left ≤ 2 * k + 2 → k + 8 ≤ m → DrS ns st → ∃ (A : Fm) (st' : Store), run C m .law_sentence [.loc 1, .int left] st = some (encF A, st') ∧ (sz A : Int) ≤ max left 1 ∧ DrS ns st' := by
  intro k
  induction k with
  | zero =>
    intro left m st hl hm D
    obtain ⟨m, rfl⟩ : ∃ j, m = j + 3 := ⟨m - 3, by omega⟩
    obtain ⟨v, st1, e1, a, b, D1⟩ := draw_at (C := C) (m + 1) (e := [some (.int left), none, none, none]) D (show (0 : Int) < 9 by decide) (by decide)
    obtain ⟨A, st2, e2, hA, D2⟩ := base_at (C := C) m (e := [some (.int left), some (.int v), none, none]) D1
    refine ⟨A, st2, ?_, by rw [hA]; omega, D2⟩
    refine fn_ret (env' := [some (.loc 1), some (.int left), some (.int v), none, none]) rfl ?_
    show b_law_sentence (run C (m + 2)) C (m + 2) [some (.loc 1), some (.int left), none, none, none] st = _
    rw [b_law_sentence_eq]
    refine seq_to (env' := [some (.loc 1), some (.int left), some (.int v), none, none]) (set_at e1) ?_
    refine seq_ret ?_
    unfold sS2
    have t1 : tOf (eBin gLt (eVar 1) (eC (.int 3))) [some (.loc 1), some (.int left), some (.int v), none, none] st1 = some (decide (left < 3), st1) := rfl
    rw [decide_eq_true (by omega)] at t1
    rw [if_t (or2_t t1)]
    exact ret_at e2
  | succ k ih =>
    intro left m st hl hm D
    obtain ⟨m, rfl⟩ : ∃ j, m = j + 3 := ⟨m - 3, by omega⟩
    obtain ⟨v, st1, e1, a, b, D1⟩ := draw_at (C := C) (m + 1) (e := [some (.int left), none, none, none]) D (show (0 : Int) < 9 by decide) (by decide)
    have t1 : tOf (eBin gLt (eVar 1) (eC (.int 3))) [some (.loc 1), some (.int left), some (.int v), none, none] st1 = some (decide (left < 3), st1) := rfl
    have t2 : tOf (eBin gEq (eVar 2) (eC (.int 0))) [some (.loc 1), some (.int left), some (.int v), none, none] st1 = some (v == 0, st1) := rfl
    have tt : tOr2 (tOf (eBin gLt (eVar 1) (eC (.int 3)))) (tOf (eBin gEq (eVar 2) (eC (.int 0)))) [some (.loc 1), some (.int left), some (.int v), none, none] st1 = some (decide (left < 3) || v == 0, st1) := by
      by_cases h3 : left < 3
      · rw [decide_eq_true h3] at t1 ⊢; rw [or2_t t1]; rfl
      · rw [decide_eq_false h3] at t1 ⊢; rw [or2_f t1, t2]; rfl
    by_cases hb : (decide (left < 3) || v == 0) = true
    · rw [hb] at tt
      obtain ⟨A, st2, e2, hA, D2⟩ := base_at (C := C) m (e := [some (.int left), some (.int v), none, none]) D1
      refine ⟨A, st2, ?_, by rw [hA]; omega, D2⟩
      refine fn_ret (env' := [some (.loc 1), some (.int left), some (.int v), none, none]) rfl ?_
      show b_law_sentence (run C (m + 2)) C (m + 2) [some (.loc 1), some (.int left), none, none, none] st = _
      rw [b_law_sentence_eq]
      refine seq_to (env' := [some (.loc 1), some (.int left), some (.int v), none, none]) (set_at e1) ?_
      refine seq_ret ?_
      unfold sS2
      rw [if_t tt]
      exact ret_at e2
    · rw [Bool.eq_false_iff.mpr hb] at tt
      have h3 : 3 ≤ left := by
        have : ¬ (left < 3) := fun h => hb (by rw [decide_eq_true h]; rfl)
        omega
      have q2 : sS2 C (m + 2) [some (.loc 1), some (.int left), some (.int v), none, none] st1 = some (.nx, [some (.loc 1), some (.int left), some (.int v), none, none], st1) := by
        unfold sS2; exact (if_f tt).trans rfl
      have u1 : tOf (eBin gEq (eVar 2) (eC (.int 1))) [some (.loc 1), some (.int left), some (.int v), none, none] st1 = some (v == 1, st1) := rfl
      have u2 : tOf (eBin gGt (eVar 1) (eC (.int 3))) [some (.loc 1), some (.int left), some (.int v), none, none] st1 = some (decide (3 < left), st1) := rfl
      have uu : tAnd2 (tOf (eBin gEq (eVar 2) (eC (.int 1)))) (tOf (eBin gGt (eVar 1) (eC (.int 3)))) [some (.loc 1), some (.int left), some (.int v), none, none] st1 = some (v == 1 && decide (3 < left), st1) := by
        cases hv : (v == 1) with
        | true => rw [hv] at u1; rw [and2_t u1, u2]; rfl
        | false => rw [hv] at u1; rw [and2_f u1]; rfl
      by_cases hd : (v == 1 && decide (3 < left)) = true
      · have h4 : 3 < left := by
          have := (Bool.and_eq_true_iff.mp hd).2
          exact of_decide_eq_true this
        rw [hd] at uu
        obtain ⟨A, st2, e2, hA, D2⟩ := ih (left - 2) (m + 2) st1 (by omega) (by omega) D1
        refine ⟨.imp A .bot, st2, ?_, by show ((1 + sz A + 1 : Nat) : Int) ≤ _; omega, D2⟩
        refine fn_ret (env' := [some (.loc 1), some (.int left), some (.int v), none, none]) rfl ?_
        show b_law_sentence (run C (m + 2)) C (m + 2) [some (.loc 1), some (.int left), none, none, none] st = _
        rw [b_law_sentence_eq]
        refine seq_to (env' := [some (.loc 1), some (.int left), some (.int v), none, none]) (set_at e1) ?_
        rw [seq_nx q2]
        refine seq_ret ?_
        unfold sS3
        rw [if_t uu]
        refine ret_at ?_
        exact tup_st (as := [.str "to", encF A, encF .bot]) (args3_st rfl (eS_at (as := [.loc 1, .int (left - 2)]) (st1 := st1) rfl e2) rfl) (show 3 ≤ 1000 by decide)
      · rw [Bool.eq_false_iff.mpr hd] at uu
        have q3 : sS3 C (m + 2) [some (.loc 1), some (.int left), some (.int v), none, none] st1 = some (.nx, [some (.loc 1), some (.int left), some (.int v), none, none], st1) := by
          unfold sS3; exact (if_f uu).trans rfl
        obtain ⟨u, st2, e2, ua, ub, D2⟩ := draw_at (C := C) (m + 1) (e := [some (.int left), some (.int v), none, none]) D1 (show (0 : Int) < 3 by decide) (by decide)
        have tu : tOf (eBin gGt (eS (run C (m + 2) .law_draw) (aCons (eVar 0) (aCons (eC (.int 3)) (aNil)))) (eC (.int 0))) [some (.loc 1), some (.int left), some (.int v), none, none] st1 = some (decide (0 < u), st2) := tOf_st e2 rfl rfl
        have le : ∃ l1 : Int, 1 ≤ l1 ∧ l1 ≤ left - 2 ∧ eIf (tOf (eBin gGt (eS (run C (m + 2) .law_draw) (aCons (eVar 0) (aCons (eC (.int 3)) (aNil)))) (eC (.int 0)))) (eBin gDiv (eBin gSub (eVar 1) (eC (.int 1))) (eC (.int 2))) (eBin gSub (eVar 1) (eC (.int 2))) [some (.loc 1), some (.int left), some (.int v), none, none] st1 = some (.int l1, st2) := by
          rw [eif_st tu]
          by_cases hu : 0 < u
          · rw [decide_eq_true hu, if_pos rfl]
            exact ⟨(left - 1) / 2, by omega, by omega, bin_at (v1 := .int (left - 1)) (v2 := .int 2) rfl rfl (div_at (by decide) (by decide))⟩
          · rw [decide_eq_false hu]
            exact ⟨left - 2, by omega, by omega, rfl⟩
        obtain ⟨l1, la, lb, el⟩ := le
        obtain ⟨A, st3, e3, hA, D3⟩ := ih l1 (m + 2) st2 (by omega) (by omega) D2
        have e4 : sS4 C (m + 2) [some (.loc 1), some (.int left), some (.int v), none, none] st1 = some (encF A, st3) := eS_at (args2_st rfl el) e3
        have pA := sz_pos A
        have fA := fdep_sz A
        obtain ⟨B, st4, e5, hB, D4⟩ := ih (left - 1 - sz A) (m + 2) st3 (by omega) (by omega) D3
        have e6 : sS5 C (m + 2) [some (.loc 1), some (.int left), some (.int v), some (encF A), none] st3 = some (encF B, st4) := by
          have lz : eP (run C (m + 2) .law_size) (aCons (eVar 3) aNil) [some (.loc 1), some (.int left), some (.int v), some (encF A), none] st3 = some (.int (sz A), st3) :=
            eP_at (as := [encF A]) rfl (by show ((encF A).pure && true) = true; rw [pureF]; rfl) (lsize_at A (m + 2) (by omega)) rfl
          exact eS_at (args2_st rfl (bin_at (v1 := .int (left - 1)) rfl lz rfl)) e5
        obtain ⟨x, st5, e7, hx, D5⟩ := pick_at (C := C) m (xs := [.str "to", .str "to", .str "to", .str "and", .str "or"]) D4 (by decide) (by decide)
        have e8 : sS6 C (m + 2) [some (.loc 1), some (.int left), some (.int v), some (encF A), some (encF B)] st4 = some (.tup [x, encF A, encF B], st5) := by
          refine tup_st (as := [x, encF A, encF B]) (args3_st (eS_at (as := [.loc 1, sRow]) (st1 := st4) rfl e7) rfl rfl) (show 3 ≤ 1000 by decide)
        have fin : ∀ X : Fm, encF X = .tup [x, encF A, encF B] → sz X = 1 + sz A + sz B → ∃ (Y : Fm) (st' : Store), run C (m + 3) .law_sentence [.loc 1, .int left] st = some (encF Y, st') ∧ (sz Y : Int) ≤ max left 1 ∧ DrS ns st' := fun X hX hs => by
          refine ⟨X, st5, ?_, by rw [hs]; omega, D5⟩
          refine fn_ret (env' := [some (.loc 1), some (.int left), some (.int v), some (encF A), some (encF B)]) rfl ?_
          show b_law_sentence (run C (m + 2)) C (m + 2) [some (.loc 1), some (.int left), none, none, none] st = _
          rw [b_law_sentence_eq]
          refine seq_to (env' := [some (.loc 1), some (.int left), some (.int v), none, none]) (set_at e1) ?_
          rw [seq_nx q2, seq_nx q3]
          refine seq_to (env' := [some (.loc 1), some (.int left), some (.int v), some (encF A), none]) (set_at e4) ?_
          refine seq_to (env' := [some (.loc 1), some (.int left), some (.int v), some (encF A), some (encF B)]) (set_at e6) ?_
          rw [hX]
          exact ret_at e8
        simp only [List.mem_cons, List.not_mem_nil, or_false] at hx
        rcases hx with h | h | h | h | h <;> subst h
        · exact fin (.imp A B) rfl rfl
        · exact fin (.imp A B) rfl rfl
        · exact fin (.imp A B) rfl rfl
        · exact fin (.and A B) rfl rfl
        · exact fin (.or A B) rfl rfl
/-- the rows of the law -/
theorem forms_at (n : Nat) (a b c : Fm) : run C (n + 1) .law_forms [encF a, encF b, encF c] [] = some (.lst ((formsF a b c).map encF), []) :=
  fn_ret (env' := [some (encF a), some (encF b), some (encF c), some (encF .bot)]) rfl rfl
def encE (q : Fm × Fm) : PV := .tup [encF q.1, encF q.2]
theorem equal_at (n : Nat) (a b c : Fm) : run C (n + 1) .law_equal [encF a, encF b, encF c] [] = some (.lst ((equalF a b c).map encE), []) :=
  fn_ret (env' := [some (encF a), some (encF b), some (encF c), some (encF .bot)]) rfl rfl
end
end K07
end L3
end
section
set_option Elab.async false
set_option linter.all false
set_option maxRecDepth 100000
set_option maxHeartbeats 0
namespace L3
namespace K07
open PySem G
section
variable {C : Addr} {ns : List Int} {st : Store} {env : EnvP}
theorem fit_up {v : Vc} {n m dep : Nat} (h : fit v n dep = true) (k : n ≤ m) : fit v m dep = true := by
  unfold fit at *
  simp only [Bool.and_eq_true, Nat.ble_eq] at *
  exact ⟨Nat.le_trans h.1 k, h.2⟩
/-- decide at a level N -/
theorem dec_at (N : Nat) (hN : 174 ≤ N) {Γ : List Fm} {g : Fm} {dep : Nat} (hdep : dep ≤ 140) (hf : fit ((hvs Γ).add (gv g)) 170 dep = true) (hs : ∀ B ∈ Γ, sz B ≤ 60) (hg : sz g ≤ 60) (hl : Γ.length ≤ 3) :
    (Valid Γ g ∧ ∃ d st', run C N .decide [.tup (Γ.map encF), encF g] [] = some (.tup [.str "program", encD d], st') ∧ TyD Γ d g ∧ SmallD 60 d ∧ wdep d ≤ dep) ∨
    (¬ Valid Γ g ∧ ∃ t st', run C N .decide [.tup (Γ.map encF), encF g] [] = some (encR (.world t), st')) := by
  obtain ⟨n, rfl⟩ : ∃ k, N = k + 4 := ⟨N - 4, by omega⟩
  rcases decided (n := n) (fit_up hf (by omega)) hs hg hl with ⟨k, p, e, ty, v, hd, sm⟩ | ⟨k, t, e, v⟩
  · obtain ⟨d, q1, q2⟩ := stl_ok ty
    obtain ⟨m1, m2⟩ := stl_meas p _ d q1 sm
    obtain ⟨st', x⟩ := decide_at (C := C) (n + 2) (by omega) e fun p' hp => by
      cases hp
      exact ⟨by omega, by omega, _, ty⟩
    rw [cx_snd] at q2
    refine .inl ⟨v, d, st', ?_, q2, m2, by omega⟩
    rw [x]
    simp only [show stl p (nms_of 0 Γ) = some d from q1]
  · obtain ⟨st', x⟩ := decide_at (C := C) (n + 2) (by omega) e fun p' hp => nomatch hp
    exact .inr ⟨v, t, st', x⟩
open Classical in
noncomputable def vd (Γ : List Fm) (g : Fm) : Bool := decide (Valid Γ g)
theorem vd_t {Γ : List Fm} {g : Fm} (h : Valid Γ g) : vd Γ g = true := by unfold vd; exact @decide_eq_true _ (Classical.propDecidable _) h
theorem vd_f {Γ : List Fm} {g : Fm} (h : ¬ Valid Γ g) : vd Γ g = false := by unfold vd; exact @decide_eq_false _ (Classical.propDecidable _) h
theorem vd_eq {Γ Δ : List Fm} {g h : Fm} (e : Valid Γ g ↔ Valid Δ h) : vd Γ g = vd Δ h := by
  by_cases x : Valid Γ g
  · rw [vd_t x, vd_t (e.1 x)]
  · rw [vd_f x, vd_f fun y => x (e.2 y)]
structure Can (Γ : List Fm) (g : Fm) : Prop where
  h : leH Γ = true
  g : okG g = true
  l : Γ.length ≤ 3
theorem okG_iff {g : Fm} : okG g = true ↔ (gv g).leb GX = true ∧ sz g ≤ 60 := by unfold okG; rw [Bool.and_eq_true, Nat.ble_eq]
theorem leH_iff {Γ : List Fm} : leH Γ = true ↔ (hvs Γ).leb HX = true ∧ ∀ B ∈ Γ, sz B ≤ 60 := by
  unfold leH; rw [Bool.and_eq_true, List.all_eq_true]
  exact ⟨fun h => ⟨h.1, fun B hB => Nat.ble_eq ▸ h.2 B hB⟩, fun h => ⟨h.1, fun B hB => by rw [Nat.ble_eq]; exact h.2 B hB⟩⟩
theorem is_proved_fit (N : Nat) (hN : 175 ≤ N) {Γ : List Fm} {g : Fm} {dep : Nat} (hdep : dep ≤ 140) (hf : fit ((hvs Γ).add (gv g)) 170 dep = true) (h2 : ∀ B ∈ Γ, sz B ≤ 60) (g2 : sz g ≤ 60) (hl : Γ.length ≤ 3) : run C N .is_proved [.tup (Γ.map encF), encF g] [] = some (.bl (vd Γ g), []) := by
  obtain ⟨n, rfl⟩ : ∃ k, N = k + 1 := ⟨N - 1, by omega⟩
  refine fn_ret (env' := [some (.tup (Γ.map encF)), some (encF g)]) rfl ?_
  show b_is_proved (run C n) C n [some (.tup (Γ.map encF)), some (encF g)] [] = _
  refine ret_at ?_
  have pa : PV.pures [.tup (Γ.map encF), encF g] = true := ctx_pure Γ _ (by show ((encF g).pure && true) = true; rw [pureF]; rfl)
  have s1 : PyData.strOk "program" = true := by decide +kernel
  have s2 : PyData.strOk "world" = true := by decide +kernel
  rcases dec_at (C := C) n (by omega) hdep hf h2 g2 hl with ⟨v, d, st', e, _⟩ | ⟨v, t, st', e⟩
  · rw [vd_t v]
    have e1 : eP (run C n .decide) (aCons (eVar 0) (aCons (eVar 1) aNil)) [some (.tup (Γ.map encF)), some (encF g)] [] = some (.tup [.str "program", encD d], []) :=
      eP_at (as := [.tup (Γ.map encF), encF g]) rfl pa e (by show (true && ((encD d).pure && true)) = true; rw [pureD]; rfl)
    refine bin_at (v1 := .str "program") (v2 := .str "program") (bin_at (v2 := .int 0) e1 rfl (ix0 _ _)) rfl ?_
    rw [eqS_at "program" "program" s1 s1, decide_eq_true rfl]
  · rw [vd_f v]
    have e1 : eP (run C n .decide) (aCons (eVar 0) (aCons (eVar 1) aNil)) [some (.tup (Γ.map encF)), some (encF g)] [] = some (encR (.world t), []) :=
      eP_at (as := [.tup (Γ.map encF), encF g]) rfl pa e (pureR _)
    refine bin_at (v1 := .str "world") (v2 := .str "program") (bin_at (v2 := .int 0) e1 rfl (ix0 _ _)) rfl ?_
    rw [eqS_at "world" "program" s2 s1, decide_eq_false (by decide +kernel)]
theorem is_proved_at (N : Nat) (hN : 175 ≤ N) {Γ : List Fm} {g : Fm} (c : Can Γ g) : run C N .is_proved [.tup (Γ.map encF), encF g] [] = some (.bl (vd Γ g), []) := by
  obtain ⟨h1, h2⟩ := leH_iff.mp c.h
  obtain ⟨g1, g2⟩ := okG_iff.mp c.g
  exact is_proved_fit N hN (by decide) (fit_le (Vc.leb_add h1 g1) fit_X) h2 g2 c.l
theorem fit_nil {g : Fm} (h : okF g = true) : fit ((hvs []).add (gv g)) 170 119 = true ∧ sz g ≤ 60 := by
  unfold okF at h
  rw [Bool.and_eq_true, Nat.ble_eq] at h
  have e : (hvs []).add (gv g) = gv g := by
    show Vc.mk _ _ _ _ _ _ _ = _
    simp only [hvs, Nat.zero_add]
  rw [e]
  exact h
theorem ip_at {f1 f2 : FE} {Γ : List Fm} {g : Fm} (c : Can Γ g) (h1 : f1 env st = some (.tup (Γ.map encF), st)) (h2 : f2 env st = some (encF g, st)) : eP (run C 179 .is_proved) (aCons f1 (aCons f2 aNil)) env st = some (.bl (vd Γ g), st) :=
  eP_at (args2_st h1 h2) (ctx_pure Γ _ (by show ((encF g).pure && true) = true; rw [pureF]; rfl)) (is_proved_at 179 (by decide) c) rfl
theorem ne_bl (x y : Bool) : gNe (.bl x) (.bl y) st = some (.bl (x != y), st) := by cases x <;> cases y <;> rfl
/-! ### within bounds -/
theorem all3 {p : Fm → Bool} (h : s3.all p = true) {A : Fm} (hA : sz A ≤ 4) : p (cl A) = true := List.all_eq_true.mp h _ (mem_s3 hA)
theorem okH_cl (A : Fm) : okH (cl A) = okH A := by unfold okH; rw [hv_cl, sz_cl]
theorem okG_cl (A : Fm) : okG (cl A) = okG A := by unfold okG; rw [gv_cl, sz_cl]
theorem okF_cl (A : Fm) : okF (cl A) = okF A := by unfold okF; rw [gv_cl, sz_cl]
theorem hvs_cl : ∀ Γ : List Fm, hvs (Γ.map cl) = hvs Γ
  | [] => rfl
  | A :: Γ => by show (hv (cl A)).add (hvs (Γ.map cl)) = _; rw [hv_cl, hvs_cl Γ]; rfl
theorem leH_cl (Γ : List Fm) : leH (Γ.map cl) = leH Γ := by
  unfold leH
  rw [hvs_cl, List.all_map]
  congr 2
  funext B
  show Nat.ble (sz (cl B)) 60 = _
  rw [sz_cl]
theorem forms_ok {a b c f : Fm} (ha : sz a ≤ 4) (hb : sz b ≤ 4) (hc : sz c ≤ 4) (h : f ∈ formsF a b c) : okF f = true := by
  rcases forms_split h with h | h
  · have := List.all_eq_true.mp (all3 (all3 fAB ha) hb) (cl f) (by
      show cl f ∈ (formsAB a b).map cl
      exact List.mem_map_of_mem h)
    rw [okF_cl] at this
    exact this
  · have := List.all_eq_true.mp (all3 (all3 (all3 fABC ha) hb) hc) (cl f) (by
      show cl f ∈ (formsABC a b c).map cl
      exact List.mem_map_of_mem h)
    rw [okF_cl] at this
    exact this
theorem equal_ok {a b c : Fm} {q : Fm × Fm} (ha : sz a ≤ 4) (hb : sz b ≤ 4) (hc : sz c ≤ 4) (h : q ∈ equalF a b c) : okQ q = true := by
  have z : ∀ q : Fm × Fm, okQ (cl q.1, cl q.2) = okQ q := fun q => by unfold okQ; rw [okH_cl, okG_cl, okH_cl, okG_cl]
  rcases equal_split h with h | h
  · have := List.all_eq_true.mp (all3 (all3 eAB ha) hb) (cl q.1, cl q.2) (by
      show _ ∈ (equalAB a b).map fun q => (cl q.1, cl q.2)
      exact List.mem_map_of_mem h)
    rw [z] at this
    exact this
  · have := List.all_eq_true.mp (all3 (all3 (all3 eABC ha) hb) hc) (cl q.1, cl q.2) (by
      show _ ∈ (equalABC a b c).map fun q => (cl q.1, cl q.2)
      exact List.mem_map_of_mem h)
    rw [z] at this
    exact this
theorem five_ok {g : Fm} (h : sz g ≤ 5) : okH g = true ∧ okG g = true := by
  have := List.all_eq_true.mp e5 _ (mem_s5 h)
  rw [okH_cl, okG_cl, Bool.and_eq_true] at this
  exact this
theorem okH_one {A : Fm} (h : okH A = true) : leH [A] = true := by
  unfold okH at h
  rw [Bool.and_eq_true] at h
  unfold leH
  rw [Bool.and_eq_true]
  refine ⟨?_, by simpa using h.2⟩
  have e : hvs [A] = hv A := rfl
  rw [e]; exact h.1
theorem pair_ok {a b : Fm} (ha : sz a ≤ 4) (hb : sz b ≤ 4) : leH [a, b] = true ∧ leH [.and a b] = true ∧ leH [b, a, b] = true ∧ leH [.or a b] = true ∧ leH [.imp .bot a, .or .bot b] = true := by
  have h := all3 (all3 e3 ha) hb
  simp only [Bool.and_eq_true] at h
  obtain ⟨h1, h2, h3, h4, h5⟩ := h
  exact ⟨(leH_cl [a, b]).symm.trans h1, (leH_cl [.and a b]).symm.trans h2, (leH_cl [b, a, b]).symm.trans h3, (leH_cl [.or a b]).symm.trans h4, (leH_cl [.imp .bot a, .or .bot b]).symm.trans h5⟩
end
end K07
end L3
end
section
set_option Elab.async false
set_option linter.all false
set_option maxRecDepth 100000
set_option maxHeartbeats 0
namespace L3
namespace K07
open PySem G
section
variable {C : Addr} {ns : List Int} {st : Store} {env : EnvP}
/-! ### the law -/
abbrev EV (s d n f t g x k a b c o w : Option PV) : EnvP := [s, d, n, f, t, g, x, k, a, b, c, o, w]
def IP (C : Addr) (f1 f2 : FE) : FE := eP (run C 179 .is_proved) (aCons f1 (aCons f2 aNil))
def t1 (f : FE) : FE := eTup (aCons f aNil)
def t2 (f g : FE) : FE := eTup (aCons f (aCons g aNil))
def t3 (f g h : FE) : FE := eTup (aCons f (aCons g (aCons h aNil)))
def sen (C : Addr) (k : Int) : FE := eS (run C 179 .law_sentence) (aCons (eVar 1) (aCons (eC (.int k)) (aNil)))
def w1 (C : Addr) : FS := sSet 1 (eS (run C 179 .law_draws) (aCons (eVar 0) (aNil)))
def w2 (C : Addr) : FS := sPar3 8 9 10 (aCons (sen C 4) (aCons (sen C 4) (aCons (sen C 3) (aNil))))
def w3 : FS := sSet 2 (eTup (aCons (eC (.str "false")) (aNil)))
def w4 (C : Addr) : FS := sSet 3 (eS (run C 179 .law_pick) (aCons (eVar 1) (aCons (eP (run C 179 .law_forms) (aCons (eVar 8) (aCons (eVar 9) (aCons (eVar 10) (aNil))))) (aNil))))
def w5 (C : Addr) : FS := sSet 4 (eP (run C 179 .decide) (aCons (eTup (aNil)) (aCons (eVar 3) (aNil))))
def bad : FS := sRet (eC (.bl false))
def w6 (C : Addr) : FS := sIf (tOr2 (tOf (eBin gNe (eBin gIx (eVar 4) (eC (.int 0))) (eC (.str "program")))) (tNot2 (tOf (eP (run C 179 .proves) (aCons (eTup (aNil)) (aCons (eBin gIx (eVar 4) (eC (.int 1))) (aCons (eVar 3) (aNil)))))))) bad (sNx)
def w7 (C : Addr) : FS := sAsg (tT 2 (tCons (tN 11) (tCons (tN 12) (tNil)))) (eS (run C 179 .law_pick) (aCons (eVar 1) (aCons (eP (run C 179 .law_equal) (aCons (eVar 8) (aCons (eVar 9) (aCons (eVar 10) (aNil))))) (aNil))))
def w8 (C : Addr) : FS := sIf (tOr2 (tNot2 (tOf (IP C (t1 (eVar 11)) (eVar 12)))) (tNot2 (tOf (IP C (t1 (eVar 12)) (eVar 11))))) bad (sNx)
def w9 (C : Addr) : FS := sSet 5 (sen C 5)
def w10 (C : Addr) : FS := sIf (tOr2 (tOf (eBin gNe (IP C (t1 (eVar 11)) (eVar 5)) (IP C (t1 (eVar 12)) (eVar 5)))) (tOf (eBin gNe (IP C (t1 (eVar 5)) (eVar 11)) (IP C (t1 (eVar 5)) (eVar 12))))) bad (sNx)
def w11 (C : Addr) : FS := sIf (tOr2 (tOf (eBin gNe (IP C (t2 (eVar 8) (eVar 9)) (eVar 5)) (IP C (t1 (t3 (eC (.str "and")) (eVar 8) (eVar 9))) (eVar 5)))) (tOf (eBin gNe (IP C (t2 (eVar 8) (eVar 9)) (eVar 5)) (IP C (t3 (eVar 9) (eVar 8) (eVar 9)) (eVar 5))))) bad (sNx)
def w12 (C : Addr) : FS := sIf (tOf (eBin gNe (IP C (t1 (t3 (eC (.str "or")) (eVar 8) (eVar 9))) (eVar 5)) (eAnd2 (IP C (t1 (eVar 8)) (eVar 5)) (IP C (t1 (eVar 9)) (eVar 5))))) bad (sNx)
def w13 (C : Addr) : FS := sIf (tAnd2 (tOf (IP C (t1 (eVar 8)) (eVar 5))) (tAnd2 (tOf (IP C (t1 (eVar 5)) (eVar 9))) (tNot2 (tOf (IP C (t1 (eVar 8)) (eVar 9)))))) bad (sNx)
def bAt (C : Addr) : FS := sIf (tOr2 (tOf (IP C (eTup aNil) (t3 (eC (.str "or")) (eVar 6) (t3 (eC (.str "to")) (eVar 6) (eVar 2))))) (tOf (IP C (eTup aNil) (t3 (eC (.str "to")) (t3 (eC (.str "to")) (t3 (eC (.str "to")) (eVar 6) (eVar 2)) (eVar 2)) (eVar 6))))) bad (sNx)
def w14 (C : Addr) : FS := sFor (iSeq (t2 (t2 (eC (.str "atom")) (eC (.str "p"))) (t2 (eC (.str "atom")) (eC (.str "q"))))) (tN 6) (bAt C)
def w15 : FS := sSet 7 (t3 (eC (.str "to")) (eVar 8) (eVar 2))
def w16 (C : Addr) : FS := sRet (eAnd2 (IP C (eTup aNil) (t3 (eC (.str "to")) (t3 (eC (.str "to")) (t3 (eC (.str "to")) (eVar 7) (eVar 2)) (eVar 2)) (eVar 7))) (IP C (t2 (t3 (eC (.str "to")) (eVar 2) (eVar 8)) (t3 (eC (.str "or")) (eVar 2) (eVar 9))) (eVar 9)))
theorem b_law_eq : b_law (run C 179) C 179 = sSeq (w1 C) (sSeq (w2 C) (sSeq w3 (sSeq (w4 C) (sSeq (w5 C) (sSeq (w6 C) (sSeq (w7 C) (sSeq (w8 C) (sSeq (w9 C) (sSeq (w10 C) (sSeq (w11 C) (sSeq (w12 C) (sSeq (w13 C) (sSeq (w14 C) (sSeq w15 (w16 C))))))))))))))) := rfl
theorem ip {f1 f2 : FE} {Γ : List Fm} {g : Fm} (c : Can Γ g) (h1 : f1 env st = some (.tup (Γ.map encF), st)) (h2 : f2 env st = some (encF g, st)) : IP C f1 f2 env st = some (.bl (vd Γ g), st) := ip_at c h1 h2
theorem ip0 {f1 f2 : FE} {g : Fm} (h : okF g = true) (h1 : f1 env st = some (.tup [], st)) (h2 : f2 env st = some (encF g, st)) : IP C f1 f2 env st = some (.bl (vd [] g), st) := by
  obtain ⟨f8, z8⟩ := fit_nil h
  exact eP_at (as := [.tup [], encF g]) (args2_st h1 h2) (by show (true && ((encF g).pure && true)) = true; rw [pureF]; rfl) (is_proved_fit 179 (by decide) (Γ := []) (by decide) f8 (fun B hB => nomatch hB) z8 (by decide)) rfl
theorem tOf_bl {f : FE} {b : Bool} (h : f env st = some (.bl b, st)) : tOf f env st = some (b, st) := by unfold tOf; rw [h]
theorem tOf_ne {f1 f2 : FE} {x y : Bool} (h1 : f1 env st = some (.bl x, st)) (h2 : f2 env st = some (.bl y, st)) (e : x = y) : tOf (eBin gNe f1 f2) env st = some (false, st) := by
  refine tOf_bin h1 h2 ?_
  rw [ne_bl, e]
  cases y <;> rfl
theorem and_bl {f1 f2 : FE} {x y : Bool} (h1 : f1 env st = some (.bl x, st)) (h2 : f2 env st = some (.bl y, st)) : eAnd2 f1 f2 env st = some (.bl (x && y), st) := by
  unfold eAnd2; rw [h1]; cases x
  · rfl
  · simp only [h2]; rfl
theorem pass {t : FT} {a : FS} (h : t env st = some (false, st)) : sIf t a sNx env st = some (.nx, env, st) := (if_f h).trans rfl
theorem sen_at {k : Int} {d : Option PV} {e : EnvP} (hk : k ≤ 20) (D : DrS ns st) : ∃ (A : Fm) (st' : Store), sen C k (d :: some (.loc 1) :: e) st = some (encF A, st') ∧ (sz A : Int) ≤ max k 1 ∧ DrS ns st' := by
  obtain ⟨A, st', e1, h, D'⟩ := sentence_at (C := C) (ns := ns) 10 k 179 st (by omega) (by decide) D
  exact ⟨A, st', eS_at (as := [.loc 1, .int k]) (st1 := st) rfl e1, h, D'⟩
theorem pureEs : ∀ l : List (Fm × Fm), PV.pures (l.map encE) = true
  | [] => rfl
  | q :: l => by
    show (((encF q.1).pure && ((encF q.2).pure && true)) && PV.pures (l.map encE)) = true
    rw [pureF, pureF, pureEs l]; rfl
theorem atom_step (x : Nm) {a1 a2 a3 a4 a5 a6 a7 a8 a9 b1 b2 : Option PV} : bAt C [a1, a2, some (encF .bot), a3, a4, a5, some (encF (.atom x)), a6, a7, a8, a9, b1, b2] st = some (.nx, [a1, a2, some (encF .bot), a3, a4, a5, some (encF (.atom x)), a6, a7, a8, a9, b1, b2], st) := by
  have c1 : Can [] (.or (.atom x) (no (.atom x))) := ⟨rfl, (okG_cl _).symm.trans (show okG (.or P0 (no P0)) = true by decide +kernel), by decide⟩
  have f8 : okF (.imp (no (no (.atom x))) (.atom x)) = true := (okF_cl _).symm.trans (show okF (.imp (no (no P0)) P0) = true by decide +kernel)
  unfold bAt
  refine pass ?_
  rw [or2_f ((tOf_bl (ip c1 rfl rfl)).trans (by rw [vd_f (no_middle x)])), tOf_bl (ip0 f8 rfl rfl), vd_f (no_stable x)]
theorem law_true (C : Addr) (ns : List Int) : ∃ st, run C 180 .law [.ro ns] [] = some (.bl true, st) := by
  -- draws
  have D0 : DrS ns (dst ns 0 0 1) := ⟨0, 0, 1, by decide, by decide, rfl⟩
  have q1 : w1 C (EV (some (.ro ns)) none none none none none none none none none none none none) [] = some (.nx, EV (some (.ro ns)) (some (.loc 1)) none none none none none none none none none none none, dst ns 0 0 1) := by
    refine set_at (v := .loc 1) (eS_at (as := [.ro ns]) (st1 := []) rfl ?_)
    exact fn_ret (env' := [some (.ro ns)]) rfl rfl
  obtain ⟨a, s1, e1, za, D1⟩ := sen_at (C := C) (k := 4) (d := some (.ro ns)) (e := [none, none, none, none, none, none, none, none, none, none, none]) (by decide) D0
  obtain ⟨b, s2, e2, zb, D2⟩ := sen_at (C := C) (k := 4) (d := some (.ro ns)) (e := [none, none, none, none, none, none, none, none, none, none, none]) (by decide) D1
  obtain ⟨c, s3, e3, zc, D3⟩ := sen_at (C := C) (k := 3) (d := some (.ro ns)) (e := [none, none, none, none, none, none, none, none, none, none, none]) (by decide) D2
  have za' : sz a ≤ 4 := by omega
  have zb' : sz b ≤ 4 := by omega
  have zc' : sz c ≤ 4 := by omega
  have q2 : w2 C (EV (some (.ro ns)) (some (.loc 1)) none none none none none none none none none none none) (dst ns 0 0 1) = some (.nx, EV (some (.ro ns)) (some (.loc 1)) none none none none none none (some (encF a)) (some (encF b)) (some (encF c)) none none, s3) := by
    unfold w2 sPar3
    rw [args3_st e1 e2 e3]
    rfl
  have q3 : w3 (EV (some (.ro ns)) (some (.loc 1)) none none none none none none (some (encF a)) (some (encF b)) (some (encF c)) none none) s3 = some (.nx, EV (some (.ro ns)) (some (.loc 1)) (some (encF .bot)) none none none none none (some (encF a)) (some (encF b)) (some (encF c)) none none, s3) := rfl
  -- a form
  obtain ⟨x, s4, e4, hx, D4⟩ := pick_at (C := C) 177 (xs := (formsF a b c).map encF) D3 (show 0 < 13 by decide) (show 13 < 1000 by decide)
  obtain ⟨f, hf, rfl⟩ := List.mem_map.mp hx
  have fo := forms_ok za' zb' zc' hf
  obtain ⟨fit1, zf⟩ := fit_nil fo
  have vf := forms_valid a b c f hf
  have q4 : w4 C (EV (some (.ro ns)) (some (.loc 1)) (some (encF .bot)) none none none none none (some (encF a)) (some (encF b)) (some (encF c)) none none) s3 = some (.nx, EV (some (.ro ns)) (some (.loc 1)) (some (encF .bot)) (some (encF f)) none none none none (some (encF a)) (some (encF b)) (some (encF c)) none none, s4) := by
    refine set_at (eS_at (as := [.loc 1, .lst ((formsF a b c).map encF)]) (args2_st rfl ?_) e4)
    exact eP_at (as := [encF a, encF b, encF c]) rfl (by show ((encF a).pure && ((encF b).pure && ((encF c).pure && true))) = true; rw [pureF, pureF, pureF]; rfl) (forms_at 178 a b c) (pureFs _)
  rcases dec_at (C := C) 179 (by decide) (Γ := []) (g := f) (dep := 119) (by decide) fit1 (fun B hB => nomatch hB) zf (by decide) with ⟨_, d, st', ed, td, sd, wd⟩ | ⟨nv, _⟩
  case inr => exact absurd vf nv
  have pd : (PV.tup [.str "program", encD d]).pure = true := by show (true && ((encD d).pure && true)) = true; rw [pureD]; rfl
  have q5 : w5 C (EV (some (.ro ns)) (some (.loc 1)) (some (encF .bot)) (some (encF f)) none none none none (some (encF a)) (some (encF b)) (some (encF c)) none none) s4 = some (.nx, EV (some (.ro ns)) (some (.loc 1)) (some (encF .bot)) (some (encF f)) (some (.tup [.str "program", encD d])) none none none (some (encF a)) (some (encF b)) (some (encF c)) none none, s4) :=
    set_at (eP_at (as := [.tup [], encF f]) rfl (by show (true && ((encF f).pure && true)) = true; rw [pureF]; rfl) ed pd)
  have q6 : w6 C (EV (some (.ro ns)) (some (.loc 1)) (some (encF .bot)) (some (encF f)) (some (.tup [.str "program", encD d])) none none none (some (encF a)) (some (encF b)) (some (encF c)) none none) s4 = some (.nx, EV (some (.ro ns)) (some (.loc 1)) (some (encF .bot)) (some (encF f)) (some (.tup [.str "program", encD d])) none none none (some (encF a)) (some (encF b)) (some (encF c)) none none, s4) := by
    unfold w6
    refine pass ?_
    have u1 : tOf (eBin gNe (eBin gIx (eVar 4) (eC (.int 0))) (eC (.str "program"))) (EV (some (.ro ns)) (some (.loc 1)) (some (encF .bot)) (some (encF f)) (some (.tup [.str "program", encD d])) none none none (some (encF a)) (some (encF b)) (some (encF c)) none none) s4 = some (false, s4) := by
      refine tOf_bin (v1 := .str "program") (v2 := .str "program") (bin_at (v1 := .tup [.str "program", encD d]) (v2 := .int 0) rfl rfl (ix0 _ _)) rfl ?_
      unfold gNe
      rw [if_pos (show lowD (.str "program") (.str "program") = true by decide +kernel), show PyData.eqv (PV.str "program").toD (PV.str "program").toD = true by decide +kernel]
      rfl
    rw [or2_f u1]
    have u2 : eP (run C 179 .proves) (aCons (eTup (aNil)) (aCons (eBin gIx (eVar 4) (eC (.int 1))) (aCons (eVar 3) (aNil)))) (EV (some (.ro ns)) (some (.loc 1)) (some (encF .bot)) (some (encF f)) (some (.tup [.str "program", encD d])) none none none (some (encF a)) (some (encF b)) (some (encF c)) none none) s4 = some (.bl true, s4) :=
      eP_at (as := [.tup [], encD d, encF f]) (args3 rfl (bin_at (v1 := .tup [.str "program", encD d]) (v2 := .int 1) rfl rfl (ix1 _ _ _)) rfl) (by show (true && ((encD d).pure && ((encF f).pure && true))) = true; rw [pureD, pureF]; rfl) (proves_at td sd (by omega) (by decide)) rfl
    unfold tNot2 tOf
    rw [u2]
    rfl
  -- two that are equal
  obtain ⟨y, s5, e5, hy, D5⟩ := pick_at (C := C) 177 (xs := (equalF a b c).map encE) D4 (show 0 < 10 by decide) (show 10 < 1000 by decide)
  obtain ⟨⟨o, w⟩, hq, rfl⟩ := List.mem_map.mp hy
  have oq := equal_ok za' zb' zc' hq
  unfold okQ at oq
  simp only [Bool.and_eq_true] at oq
  obtain ⟨⟨oh, og⟩, wh, wg⟩ := oq
  have eqv : Eqv o w := equal_eqv a b c (o, w) hq
  have q7 : w7 C (EV (some (.ro ns)) (some (.loc 1)) (some (encF .bot)) (some (encF f)) (some (.tup [.str "program", encD d])) none none none (some (encF a)) (some (encF b)) (some (encF c)) none none) s4 = some (.nx, EV (some (.ro ns)) (some (.loc 1)) (some (encF .bot)) (some (encF f)) (some (.tup [.str "program", encD d])) none none none (some (encF a)) (some (encF b)) (some (encF c)) (some (encF o)) (some (encF w)), s5) := by
    unfold w7 sAsg
    rw [eS_at (as := [.loc 1, .lst ((equalF a b c).map encE)]) (st1 := s4) (args2_st rfl (eP_at (as := [encF a, encF b, encF c]) rfl (by show ((encF a).pure && ((encF b).pure && ((encF c).pure && true))) = true; rw [pureF, pureF, pureF]; rfl) (equal_at 178 a b c) (pureEs _))) e5]
    rfl
  have q8 : w8 C (EV (some (.ro ns)) (some (.loc 1)) (some (encF .bot)) (some (encF f)) (some (.tup [.str "program", encD d])) none none none (some (encF a)) (some (encF b)) (some (encF c)) (some (encF o)) (some (encF w))) s5 = some (.nx, EV (some (.ro ns)) (some (.loc 1)) (some (encF .bot)) (some (encF f)) (some (.tup [.str "program", encD d])) none none none (some (encF a)) (some (encF b)) (some (encF c)) (some (encF o)) (some (encF w)), s5) := by
    unfold w8
    refine pass ?_
    rw [or2_f (not2_at ((tOf_bl (ip (Γ := [o]) (g := w) ⟨okH_one oh, wg, (show 1 ≤ 3 by decide)⟩ rfl rfl)).trans (by rw [vd_t eqv.valid]))), not2_at ((tOf_bl (ip (Γ := [w]) (g := o) ⟨okH_one wh, og, (show 1 ≤ 3 by decide)⟩ rfl rfl)).trans (by rw [vd_t eqv.symm.valid]))]
    rfl
  -- a goal
  obtain ⟨g, s6, e6, zg, D6⟩ := sen_at (C := C) (k := 5) (d := some (.ro ns)) (e := [some (encF .bot), some (encF f), some (.tup [.str "program", encD d]), none, none, none, some (encF a), some (encF b), some (encF c), some (encF o), some (encF w)]) (by decide) D5
  have zg' : sz g ≤ 5 := by omega
  obtain ⟨gh, gg⟩ := five_ok zg'
  obtain ⟨ah, ag⟩ := five_ok (g := a) (by omega)
  obtain ⟨bh, bg⟩ := five_ok (g := b) (by omega)
  obtain ⟨p1, p2, p3, p4, p5⟩ := pair_ok za' zb'
  have q9 : w9 C (EV (some (.ro ns)) (some (.loc 1)) (some (encF .bot)) (some (encF f)) (some (.tup [.str "program", encD d])) none none none (some (encF a)) (some (encF b)) (some (encF c)) (some (encF o)) (some (encF w))) s5 = some (.nx, EV (some (.ro ns)) (some (.loc 1)) (some (encF .bot)) (some (encF f)) (some (.tup [.str "program", encD d])) (some (encF g)) none none (some (encF a)) (some (encF b)) (some (encF c)) (some (encF o)) (some (encF w)), s6) := set_at e6
  have one : 1 ≤ 3 := by decide
  have i_og := ip (C := C) (st := s6) (f1 := t1 (eVar 11)) (f2 := eVar 5) (env := EV (some (.ro ns)) (some (.loc 1)) (some (encF .bot)) (some (encF f)) (some (.tup [.str "program", encD d])) (some (encF g)) none none (some (encF a)) (some (encF b)) (some (encF c)) (some (encF o)) (some (encF w))) (Γ := [o]) (g := g) ⟨okH_one oh, gg, one⟩ rfl rfl
  have i_wg := ip (C := C) (st := s6) (f1 := t1 (eVar 12)) (f2 := eVar 5) (env := EV (some (.ro ns)) (some (.loc 1)) (some (encF .bot)) (some (encF f)) (some (.tup [.str "program", encD d])) (some (encF g)) none none (some (encF a)) (some (encF b)) (some (encF c)) (some (encF o)) (some (encF w))) (Γ := [w]) (g := g) ⟨okH_one wh, gg, one⟩ rfl rfl
  have i_go := ip (C := C) (st := s6) (f1 := t1 (eVar 5)) (f2 := eVar 11) (env := EV (some (.ro ns)) (some (.loc 1)) (some (encF .bot)) (some (encF f)) (some (.tup [.str "program", encD d])) (some (encF g)) none none (some (encF a)) (some (encF b)) (some (encF c)) (some (encF o)) (some (encF w))) (Γ := [g]) (g := o) ⟨okH_one gh, og, one⟩ rfl rfl
  have i_gw := ip (C := C) (st := s6) (f1 := t1 (eVar 5)) (f2 := eVar 12) (env := EV (some (.ro ns)) (some (.loc 1)) (some (encF .bot)) (some (encF f)) (some (.tup [.str "program", encD d])) (some (encF g)) none none (some (encF a)) (some (encF b)) (some (encF c)) (some (encF o)) (some (encF w))) (Γ := [g]) (g := w) ⟨okH_one gh, wg, one⟩ rfl rfl
  have i_abg := ip (C := C) (st := s6) (f1 := t2 (eVar 8) (eVar 9)) (f2 := eVar 5) (env := EV (some (.ro ns)) (some (.loc 1)) (some (encF .bot)) (some (encF f)) (some (.tup [.str "program", encD d])) (some (encF g)) none none (some (encF a)) (some (encF b)) (some (encF c)) (some (encF o)) (some (encF w))) (Γ := [a, b]) (g := g) ⟨p1, gg, (show 2 ≤ 3 by decide)⟩ rfl rfl
  have i_and := ip (C := C) (st := s6) (f1 := t1 (t3 (eC (.str "and")) (eVar 8) (eVar 9))) (f2 := eVar 5) (env := EV (some (.ro ns)) (some (.loc 1)) (some (encF .bot)) (some (encF f)) (some (.tup [.str "program", encD d])) (some (encF g)) none none (some (encF a)) (some (encF b)) (some (encF c)) (some (encF o)) (some (encF w))) (Γ := [.and a b]) (g := g) ⟨p2, gg, one⟩ rfl rfl
  have i_bab := ip (C := C) (st := s6) (f1 := t3 (eVar 9) (eVar 8) (eVar 9)) (f2 := eVar 5) (env := EV (some (.ro ns)) (some (.loc 1)) (some (encF .bot)) (some (encF f)) (some (.tup [.str "program", encD d])) (some (encF g)) none none (some (encF a)) (some (encF b)) (some (encF c)) (some (encF o)) (some (encF w))) (Γ := [b, a, b]) (g := g) ⟨p3, gg, (show 3 ≤ 3 by decide)⟩ rfl rfl
  have i_or := ip (C := C) (st := s6) (f1 := t1 (t3 (eC (.str "or")) (eVar 8) (eVar 9))) (f2 := eVar 5) (env := EV (some (.ro ns)) (some (.loc 1)) (some (encF .bot)) (some (encF f)) (some (.tup [.str "program", encD d])) (some (encF g)) none none (some (encF a)) (some (encF b)) (some (encF c)) (some (encF o)) (some (encF w))) (Γ := [.or a b]) (g := g) ⟨p4, gg, one⟩ rfl rfl
  have i_ag := ip (C := C) (st := s6) (f1 := t1 (eVar 8)) (f2 := eVar 5) (env := EV (some (.ro ns)) (some (.loc 1)) (some (encF .bot)) (some (encF f)) (some (.tup [.str "program", encD d])) (some (encF g)) none none (some (encF a)) (some (encF b)) (some (encF c)) (some (encF o)) (some (encF w))) (Γ := [a]) (g := g) ⟨okH_one ah, gg, one⟩ rfl rfl
  have i_bg := ip (C := C) (st := s6) (f1 := t1 (eVar 9)) (f2 := eVar 5) (env := EV (some (.ro ns)) (some (.loc 1)) (some (encF .bot)) (some (encF f)) (some (.tup [.str "program", encD d])) (some (encF g)) none none (some (encF a)) (some (encF b)) (some (encF c)) (some (encF o)) (some (encF w))) (Γ := [b]) (g := g) ⟨okH_one bh, gg, one⟩ rfl rfl
  have i_gb := ip (C := C) (st := s6) (f1 := t1 (eVar 5)) (f2 := eVar 9) (env := EV (some (.ro ns)) (some (.loc 1)) (some (encF .bot)) (some (encF f)) (some (.tup [.str "program", encD d])) (some (encF g)) none none (some (encF a)) (some (encF b)) (some (encF c)) (some (encF o)) (some (encF w))) (Γ := [g]) (g := b) ⟨okH_one gh, bg, one⟩ rfl rfl
  have i_ab := ip (C := C) (st := s6) (f1 := t1 (eVar 8)) (f2 := eVar 9) (env := EV (some (.ro ns)) (some (.loc 1)) (some (encF .bot)) (some (encF f)) (some (.tup [.str "program", encD d])) (some (encF g)) none none (some (encF a)) (some (encF b)) (some (encF c)) (some (encF o)) (some (encF w))) (Γ := [a]) (g := b) ⟨okH_one ah, bg, one⟩ rfl rfl
  have q10 : w10 C (EV (some (.ro ns)) (some (.loc 1)) (some (encF .bot)) (some (encF f)) (some (.tup [.str "program", encD d])) (some (encF g)) none none (some (encF a)) (some (encF b)) (some (encF c)) (some (encF o)) (some (encF w))) s6 = some (.nx, EV (some (.ro ns)) (some (.loc 1)) (some (encF .bot)) (some (encF f)) (some (.tup [.str "program", encD d])) (some (encF g)) none none (some (encF a)) (some (encF b)) (some (encF c)) (some (encF o)) (some (encF w)), s6) := by
    unfold w10
    exact pass ((or2_f (tOf_ne i_og i_wg (vd_eq eqv.left))).trans (tOf_ne i_go i_gw (vd_eq eqv.right)))
  have q11 : w11 C (EV (some (.ro ns)) (some (.loc 1)) (some (encF .bot)) (some (encF f)) (some (.tup [.str "program", encD d])) (some (encF g)) none none (some (encF a)) (some (encF b)) (some (encF c)) (some (encF o)) (some (encF w))) s6 = some (.nx, EV (some (.ro ns)) (some (.loc 1)) (some (encF .bot)) (some (encF f)) (some (.tup [.str "program", encD d])) (some (encF g)) none none (some (encF a)) (some (encF b)) (some (encF c)) (some (encF o)) (some (encF w)), s6) := by
    unfold w11
    exact pass ((or2_f (tOf_ne i_abg i_and (vd_eq v_and))).trans (tOf_ne i_abg i_bab (vd_eq v_more)))
  have q12 : w12 C (EV (some (.ro ns)) (some (.loc 1)) (some (encF .bot)) (some (encF f)) (some (.tup [.str "program", encD d])) (some (encF g)) none none (some (encF a)) (some (encF b)) (some (encF c)) (some (encF o)) (some (encF w))) s6 = some (.nx, EV (some (.ro ns)) (some (.loc 1)) (some (encF .bot)) (some (encF f)) (some (.tup [.str "program", encD d])) (some (encF g)) none none (some (encF a)) (some (encF b)) (some (encF c)) (some (encF o)) (some (encF w)), s6) := by
    unfold w12
    refine pass (tOf_ne i_or (and_bl i_ag i_bg) ?_)
    by_cases h1 : Valid [a] g
    · by_cases h2 : Valid [b] g
      · rw [vd_t (v_or.mpr ⟨h1, h2⟩), vd_t h1, vd_t h2]; rfl
      · rw [vd_f (fun z => h2 (v_or.mp z).2), vd_f h2]; cases vd [a] g <;> rfl
    · rw [vd_f (fun z => h1 (v_or.mp z).1), vd_f h1]; rfl
  have q13 : w13 C (EV (some (.ro ns)) (some (.loc 1)) (some (encF .bot)) (some (encF f)) (some (.tup [.str "program", encD d])) (some (encF g)) none none (some (encF a)) (some (encF b)) (some (encF c)) (some (encF o)) (some (encF w))) s6 = some (.nx, EV (some (.ro ns)) (some (.loc 1)) (some (encF .bot)) (some (encF f)) (some (.tup [.str "program", encD d])) (some (encF g)) none none (some (encF a)) (some (encF b)) (some (encF c)) (some (encF o)) (some (encF w)), s6) := by
    unfold w13
    refine pass ?_
    by_cases h1 : Valid [a] g
    · by_cases h2 : Valid [g] b
      · rw [and2_t ((tOf_bl i_ag).trans (by rw [vd_t h1])), and2_t ((tOf_bl i_gb).trans (by rw [vd_t h2])), not2_at ((tOf_bl i_ab).trans (by rw [vd_t (v_cut h1 h2)]))]; rfl
      · rw [and2_t ((tOf_bl i_ag).trans (by rw [vd_t h1])), and2_f ((tOf_bl i_gb).trans (by rw [vd_f h2]))]
    · rw [and2_f ((tOf_bl i_ag).trans (by rw [vd_f h1]))]
  have q14 : w14 C (EV (some (.ro ns)) (some (.loc 1)) (some (encF .bot)) (some (encF f)) (some (.tup [.str "program", encD d])) (some (encF g)) none none (some (encF a)) (some (encF b)) (some (encF c)) (some (encF o)) (some (encF w))) s6 = some (.nx, EV (some (.ro ns)) (some (.loc 1)) (some (encF .bot)) (some (encF f)) (some (.tup [.str "program", encD d])) (some (encF g)) (some (encF (.atom ⟨"q", by decide⟩))) none (some (encF a)) (some (encF b)) (some (encF c)) (some (encF o)) (some (encF w)), s6) := by
    have b1 := atom_step (C := C) (st := s6) ⟨"p", by decide⟩ (a1 := some (.ro ns)) (a2 := some (.loc 1)) (a3 := some (encF f)) (a4 := some (.tup [.str "program", encD d])) (a5 := some (encF g)) (a6 := none) (a7 := some (encF a)) (a8 := some (encF b)) (a9 := some (encF c)) (b1 := some (encF o)) (b2 := some (encF w))
    have b2 := atom_step (C := C) (st := s6) ⟨"q", by decide⟩ (a1 := some (.ro ns)) (a2 := some (.loc 1)) (a3 := some (encF f)) (a4 := some (.tup [.str "program", encD d])) (a5 := some (encF g)) (a6 := none) (a7 := some (encF a)) (a8 := some (encF b)) (a9 := some (encF c)) (b1 := some (encF o)) (b2 := some (encF w))
    unfold w14 sFor
    show loop (tN 6) (bAt C) [encF (.atom ⟨"p", by decide⟩), encF (.atom ⟨"q", by decide⟩)] _ s6 = _
    show (match bAt C [some (.ro ns), some (.loc 1), some (encF .bot), some (encF f), some (.tup [.str "program", encD d]), some (encF g), some (encF (.atom ⟨"p", by decide⟩)), none, some (encF a), some (encF b), some (encF c), some (encF o), some (encF w)] s6 with
      | some (.nx, env2, st2) => loop (tN 6) (bAt C) [encF (.atom ⟨"q", by decide⟩)] env2 st2
      | some (.ct, env2, st2) => loop (tN 6) (bAt C) [encF (.atom ⟨"q", by decide⟩)] env2 st2
      | some (.bk, env2, st2) => some (.nx, env2, st2)
      | some (.ret v, env2, st2) => some (.ret v, env2, st2)
      | none => none) = _
    rw [b1]
    show (match bAt C [some (.ro ns), some (.loc 1), some (encF .bot), some (encF f), some (.tup [.str "program", encD d]), some (encF g), some (encF (.atom ⟨"q", by decide⟩)), none, some (encF a), some (encF b), some (encF c), some (encF o), some (encF w)] s6 with
      | some (.nx, env2, st2) => loop (tN 6) (bAt C) [] env2 st2
      | some (.ct, env2, st2) => loop (tN 6) (bAt C) [] env2 st2
      | some (.bk, env2, st2) => some (.nx, env2, st2)
      | some (.ret v, env2, st2) => some (.ret v, env2, st2)
      | none => none) = _
    rw [b2]
    rfl
  have q15 : w15 (EV (some (.ro ns)) (some (.loc 1)) (some (encF .bot)) (some (encF f)) (some (.tup [.str "program", encD d])) (some (encF g)) (some (encF (.atom ⟨"q", by decide⟩))) none (some (encF a)) (some (encF b)) (some (encF c)) (some (encF o)) (some (encF w))) s6 = some (.nx, EV (some (.ro ns)) (some (.loc 1)) (some (encF .bot)) (some (encF f)) (some (.tup [.str "program", encD d])) (some (encF g)) (some (encF (.atom ⟨"q", by decide⟩))) (some (encF (no a))) (some (encF a)) (some (encF b)) (some (encF c)) (some (encF o)) (some (encF w)), s6) := rfl
  have h8 : Fm.imp (no (no (no a))) (no a) ∈ formsF a b c := by unfold formsF; simp
  have q16 : w16 C (EV (some (.ro ns)) (some (.loc 1)) (some (encF .bot)) (some (encF f)) (some (.tup [.str "program", encD d])) (some (encF g)) (some (encF (.atom ⟨"q", by decide⟩))) (some (encF (no a))) (some (encF a)) (some (encF b)) (some (encF c)) (some (encF o)) (some (encF w))) s6 = some (.ret (.bl true), EV (some (.ro ns)) (some (.loc 1)) (some (encF .bot)) (some (encF f)) (some (.tup [.str "program", encD d])) (some (encF g)) (some (encF (.atom ⟨"q", by decide⟩))) (some (encF (no a))) (some (encF a)) (some (encF b)) (some (encF c)) (some (encF o)) (some (encF w)), s6) := by
    refine ret_at ?_
    have i1 : IP C (eTup aNil) (t3 (eC (.str "to")) (t3 (eC (.str "to")) (t3 (eC (.str "to")) (eVar 7) (eVar 2)) (eVar 2)) (eVar 7)) (EV (some (.ro ns)) (some (.loc 1)) (some (encF .bot)) (some (encF f)) (some (.tup [.str "program", encD d])) (some (encF g)) (some (encF (.atom ⟨"q", by decide⟩))) (some (encF (no a))) (some (encF a)) (some (encF b)) (some (encF c)) (some (encF o)) (some (encF w))) s6 = some (.bl (vd [] (.imp (no (no (no a))) (no a))), s6) :=
      ip0 (forms_ok za' zb' zc' h8) rfl rfl
    have i2 := ip (C := C) (st := s6) (f1 := t2 (t3 (eC (.str "to")) (eVar 2) (eVar 8)) (t3 (eC (.str "or")) (eVar 2) (eVar 9))) (f2 := eVar 9) (env := EV (some (.ro ns)) (some (.loc 1)) (some (encF .bot)) (some (encF f)) (some (.tup [.str "program", encD d])) (some (encF g)) (some (encF (.atom ⟨"q", by decide⟩))) (some (encF (no a))) (some (encF a)) (some (encF b)) (some (encF c)) (some (encF o)) (some (encF w))) (Γ := [.imp .bot a, .or .bot b]) (g := b) ⟨p5, bg, (show 2 ≤ 3 by decide)⟩ rfl rfl
    rw [and_bl i1 i2, vd_t (forms_valid a b c _ h8), vd_t v_last]
    rfl
  have big : b_law (run C 179) C 179 (EV (some (.ro ns)) none none none none none none none none none none none none) [] = _ :=
    b_law_eq ▸ seq_to q1 (seq_to q2 (seq_to q3 (seq_to q4 (seq_to q5 (seq_to q6 (seq_to q7 (seq_to q8 (seq_to q9 (seq_to q10 (seq_to q11 (seq_to q12 (seq_to q13 (seq_to q14 (seq_to q15 q16))))))))))))))
  exact ⟨s6, fn_ret rfl big⟩
end
end K07
end L3
end
section
set_option Elab.async false
set_option maxRecDepth 100000
set_option pp.maxSteps 400
set_option pp.deepTerms false
namespace L3.K07
open PySem PySem.Spec PyProof.Rows L2
theorem walk {l : PySem.W.OpenLaw} {q : Program} {loose : List Str} {XP : (Str → Option Value) → Heap → Prop} {YP : World → Heap → Prop} {d : DefRec} {K : Params → PySem.W.Frag} (hn : l.most = some 63) (hdf : d.params.defaults = [])
    (hY : ∀ (w : World) (h : Heap), YP w h → (K w.params).In h)
    (F : ∀ (w : World) (mg : Str → Option Value) (fa : Addr) (h : Heap), (K w.params).In h → h.Ns mainGlobals mg → mg d.name = some (.ref fa) →
      ∃ fd : FuncData, (∀ (s : Shared) (u : Value), BindsTo s fd ⟨[u], []⟩ [("script", u)]) ∧ ∀ base : Heap, FnOk l.prog w (K w.params) mg base L2.CX0 230 fa fd ["script"] (L3.spLaw (K w.params) 63)) :
    PySem.W.WalkO q loose XP YP l.row.toRowW d [] (fun f vs => PySem.call f vs) :=
  L2.walk_of (n := 63) (k := 230) (x := "script") (CX := fun _ => L2.CX0) (sp := fun w => L3.spLaw (K w.params) 63) hn (by decide) hdf ⟨rfl, by decide, by decide⟩ hY (fun w mg fa h a b c => let ⟨fd, hb, hF⟩ := F w mg fa h a b c; ⟨fd, hb, fun base _ _ => hF base⟩) (fun _ _ a ns hl _ hS => ⟨a, ns, rfl, hl, hS, fun _ => rfl⟩) fun _ _ _ _ _ z => z
theorem fin {w : World} {K : PySem.W.Frag} {mg : Str → Option Value} {C fa : Addr} {P : Program} (t : Txt w K mg C) (hfa : mg "law" = some (.ref fa)) :
      ∃ fd : FuncData, (∀ (s : Shared) (u : Value), BindsTo s fd ⟨[u], []⟩ [("script", u)]) ∧ ∀ base : Heap, FnOk P w K mg base L2.CX0 230 fa fd ["script"] (L3.spLaw K 63) := by
  obtain ⟨fd, hb, hF⟩ := law_ok (P := P) t 179 hfa
  exact ⟨fd, hb, fun base => law_end (hF base) fun ns _ => law_true C ns⟩
end L3.K07
open PySem PySem.W PyProof.Rows
set_option maxRecDepth 100000 in
set_option maxHeartbeats 0 in
theorem PySem.Challenge.cw_proofsthatrun_k07_whole_sentences_known_holds : PySem.Challenge.rw_proofsthatrun_k07_whole_sentences_known.Holds := by
  w_on; o_law; k_head; (case hw => w_witness2)
  k_fill
  refine L3.K07.walk (l := PySem.Challenge.rw_proofsthatrun_k07_whole_sentences_known) rfl rfl (fun w h Y => PySem.W.kIn_of Y) ?F
  case F =>
    intro w mg fa h KX G hmg0
    have hmg : mg ("law" : PySem.Str) = some (.ref fa) := hmg0
    clear hmg0
    refine' L3.K07.fin (L3.K07.txt_mk KX G ?aC ?pg ?hd ?po ?sa ?mkC ?kc ?n_names ?n_facts ?n_arrows ?n_todo ?a_Search___init__ ?i_Search___init__ ?l_Search___init__ ?c_Search___init__ ?k_Search___init__ ?a_is_name ?l_is_name ?c_is_name ?k_is_name ?a_size_within ?l_size_within ?c_size_within ?k_size_within ?a_is_sentence ?l_is_sentence ?c_is_sentence ?k_is_sentence ?a_Search_fresh ?i_Search_fresh ?l_Search_fresh ?c_Search_fresh ?k_Search_fresh ?a_Search_more ?i_Search_more ?l_Search_more ?c_Search_more ?k_Search_more ?a_Search_without ?i_Search_without ?l_Search_without ?c_Search_without ?k_Search_without ?a_solve ?l_solve ?c_solve ?k_solve ?a_solve_case ?l_solve_case ?c_solve_case ?k_solve_case ?a_solve_both ?l_solve_both ?c_solve_both ?k_solve_both ?a_take_atom ?l_take_atom ?c_take_atom ?k_take_atom ?a_take_arrow ?l_take_arrow ?c_take_arrow ?k_take_arrow ?a_solve_open ?l_solve_open ?c_solve_open ?k_solve_open ?a_solve_asked ?l_solve_asked ?c_solve_asked ?k_solve_asked ?a_settled ?l_settled ?c_settled ?k_settled ?a_decide ?l_decide ?c_decide ?k_decide ?a_is_proved ?l_is_proved ?c_is_proved ?k_is_proved ?a_is_program ?l_is_program ?c_is_program ?k_is_program ?d_is_program ?a_kind_of ?l_kind_of ?c_kind_of ?k_kind_of ?a_made_kind ?l_made_kind ?c_made_kind ?k_made_kind ?a_case_kind ?l_case_kind ?c_case_kind ?k_case_kind ?a_proves ?l_proves ?c_proves ?k_proves ?a_law_draws ?l_law_draws ?c_law_draws ?k_law_draws ?a_law_draw ?l_law_draw ?c_law_draw ?k_law_draw ?a_law_pick ?l_law_pick ?c_law_pick ?k_law_pick ?a_law_atoms ?l_law_atoms ?c_law_atoms ?k_law_atoms ?a_law_sentence ?l_law_sentence ?c_law_sentence ?k_law_sentence ?a_law_size ?l_law_size ?c_law_size ?k_law_size ?a_law_forms ?l_law_forms ?c_law_forms ?k_law_forms ?a_law_equal ?l_law_equal ?c_law_equal ?k_law_equal ?a_law ?l_law ?c_law ?k_law ?z_all ?z_bool ?z_dict ?z_enumerate ?z_int ?z_isinstance ?z_len ?z_list ?z_sorted ?z_str ?z_sum ?z_tuple ?z_zip ?g_SMALL ?g_FIGURES ?g_MOST_SIGNS ?g_MOST_SIZE ?g_FALSE ?gl_FALSE ?kg_SHAPES ?kl_SHAPES ?kt_SHAPES ?kb_SHAPES ?km_SHAPES) hmg
    (case aC => k_is)
    (case pg => k_is)
    (case hd => k_is)
    (case po => k_is)
    (case sa => k_is)
    (case mkC => k_is)
    (case kc => k_is)
    (case n_names => k_is)
    (case n_facts => k_is)
    (case n_arrows => k_is)
    (case n_todo => k_is)
    (case a_Search___init__ => k_is)
    (case i_Search___init__ => k_is)
    (case l_Search___init__ => k_is)
    (case c_Search___init__ => k_is)
    (case k_Search___init__ => k_is)
    (case a_is_name => k_is)
    (case l_is_name => k_is)
    (case c_is_name => k_is)
    (case k_is_name => k_is)
    (case a_size_within => k_is)
    (case l_size_within => k_is)
    (case c_size_within => k_is)
    (case k_size_within => k_is)
    (case a_is_sentence => k_is)
    (case l_is_sentence => k_is)
    (case c_is_sentence => k_is)
    (case k_is_sentence => k_is)
    (case a_Search_fresh => k_is)
    (case i_Search_fresh => k_is)
    (case l_Search_fresh => k_is)
    (case c_Search_fresh => k_is)
    (case k_Search_fresh => k_is)
    (case a_Search_more => k_is)
    (case i_Search_more => k_is)
    (case l_Search_more => k_is)
    (case c_Search_more => k_is)
    (case k_Search_more => k_is)
    (case a_Search_without => k_is)
    (case i_Search_without => k_is)
    (case l_Search_without => k_is)
    (case c_Search_without => k_is)
    (case k_Search_without => k_is)
    (case a_solve => k_is)
    (case l_solve => k_is)
    (case c_solve => k_is)
    (case k_solve => k_is)
    (case a_solve_case => k_is)
    (case l_solve_case => k_is)
    (case c_solve_case => k_is)
    (case k_solve_case => k_is)
    (case a_solve_both => k_is)
    (case l_solve_both => k_is)
    (case c_solve_both => k_is)
    (case k_solve_both => k_is)
    (case a_take_atom => k_is)
    (case l_take_atom => k_is)
    (case c_take_atom => k_is)
    (case k_take_atom => k_is)
    (case a_take_arrow => k_is)
    (case l_take_arrow => k_is)
    (case c_take_arrow => k_is)
    (case k_take_arrow => k_is)
    (case a_solve_open => k_is)
    (case l_solve_open => k_is)
    (case c_solve_open => k_is)
    (case k_solve_open => k_is)
    (case a_solve_asked => k_is)
    (case l_solve_asked => k_is)
    (case c_solve_asked => k_is)
    (case k_solve_asked => k_is)
    (case a_settled => k_is)
    (case l_settled => k_is)
    (case c_settled => k_is)
    (case k_settled => k_is)
    (case a_decide => k_is)
    (case l_decide => k_is)
    (case c_decide => k_is)
    (case k_decide => k_is)
    (case a_is_proved => k_is)
    (case l_is_proved => k_is)
    (case c_is_proved => k_is)
    (case k_is_proved => k_is)
    (case a_is_program => k_is)
    (case l_is_program => k_is)
    (case c_is_program => k_is)
    (case k_is_program => k_is)
    (case d_is_program => k_is)
    (case a_kind_of => k_is)
    (case l_kind_of => k_is)
    (case c_kind_of => k_is)
    (case k_kind_of => k_is)
    (case a_made_kind => k_is)
    (case l_made_kind => k_is)
    (case c_made_kind => k_is)
    (case k_made_kind => k_is)
    (case a_case_kind => k_is)
    (case l_case_kind => k_is)
    (case c_case_kind => k_is)
    (case k_case_kind => k_is)
    (case a_proves => k_is)
    (case l_proves => k_is)
    (case c_proves => k_is)
    (case k_proves => k_is)
    (case a_law_draws => k_is)
    (case l_law_draws => k_is)
    (case c_law_draws => k_is)
    (case k_law_draws => k_is)
    (case a_law_draw => k_is)
    (case l_law_draw => k_is)
    (case c_law_draw => k_is)
    (case k_law_draw => k_is)
    (case a_law_pick => k_is)
    (case l_law_pick => k_is)
    (case c_law_pick => k_is)
    (case k_law_pick => k_is)
    (case a_law_atoms => k_is)
    (case l_law_atoms => k_is)
    (case c_law_atoms => k_is)
    (case k_law_atoms => k_is)
    (case a_law_sentence => k_is)
    (case l_law_sentence => k_is)
    (case c_law_sentence => k_is)
    (case k_law_sentence => k_is)
    (case a_law_size => k_is)
    (case l_law_size => k_is)
    (case c_law_size => k_is)
    (case k_law_size => k_is)
    (case a_law_forms => k_is)
    (case l_law_forms => k_is)
    (case c_law_forms => k_is)
    (case k_law_forms => k_is)
    (case a_law_equal => k_is)
    (case l_law_equal => k_is)
    (case c_law_equal => k_is)
    (case k_law_equal => k_is)
    (case a_law => k_is)
    (case l_law => k_is)
    (case c_law => k_is)
    (case k_law => k_is)
    (case z_all => k_is)
    (case z_bool => k_is)
    (case z_dict => k_is)
    (case z_enumerate => k_is)
    (case z_int => k_is)
    (case z_isinstance => k_is)
    (case z_len => k_is)
    (case z_list => k_is)
    (case z_sorted => k_is)
    (case z_str => k_is)
    (case z_sum => k_is)
    (case z_tuple => k_is)
    (case z_zip => k_is)
    (case g_SMALL => k_is)
    (case g_FIGURES => k_is)
    (case g_MOST_SIGNS => k_is)
    (case g_MOST_SIZE => k_is)
    (case g_FALSE => k_is)
    (case gl_FALSE => k_is)
    (case kg_SHAPES => k_is)
    (case kl_SHAPES => k_is)
    (case kt_SHAPES => exact ⟨⟨_, _, rfl, rfl⟩, ⟨_, _, rfl, rfl⟩, ⟨_, _, rfl, rfl⟩, ⟨_, _, rfl, rfl⟩, ⟨_, _, rfl, rfl⟩, ⟨_, _, rfl, rfl⟩, ⟨_, _, rfl, rfl⟩, ⟨_, _, rfl, rfl⟩, ⟨_, _, rfl, rfl⟩, ⟨_, _, rfl, rfl⟩, trivial⟩)
    (case kb_SHAPES => rfl)
    (case km_SHAPES => rfl)
  
end
