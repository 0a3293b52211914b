import PyProof.Rows.All
import Wide.All
import OpenK.AllK
import Wide.FinOn
import HandS.ForMost
import HandS.More
import HandS.Walk
import HandS.Flow
import HandS.SetKeys
import HandS.IsInst
import HandS.Zip
import HandS.Strs
import HandS.TupAny
import HandS.Style
import HandS.Conv
import HandS.Wide
import HandS.StrMore
import KE.KEqNest
import KE.GoesMore
import KE.GoesEnum
import HandS.TupMul
import HandS.ExcCtx
import HandS.HotCalls
import HandS.ExcIs
import HandS.CallLocal
import HandS.WordsExc
import PyProof.SliceList
import PyProof.DictUpdate
import PySem.Challenge.RW_takeapart_k14_may_give
set_option Elab.async false
set_option linter.all false
set_option maxRecDepth 100000
set_option maxHeartbeats 4000000
namespace DL
open PySem PySem.Spec L2

/-- plain data -/
inductive D where
  | non | bl (b : Bool) | int (i : Int) | str (x : Str) | tup (xs : List D) | lst (xs : List D) | dct (kvs : List (Str × D))
  /-- the law's script -/
  | scr (ns : List Int)
  /-- any thing that stands, not looked into (a def) -/
  | obj (a : Addr)

/-- a tuple (list) that stands, out of Fb, or one of the written part -/
def TupAt (K : PySem.W.Frag) (Fb : Addr → Prop) (H : Hp) (a : Addr) (xs : List V) : Prop :=
  (¬ Fb a ∧ Rd H a (.tup xs)) ∨
    ∃ (o : Obj) (its : Array Value) (n : Nat), K.lookup a = some o ∧ o.cls = .type "tuple" ∧ o.data = .seq its n ∧ its.size ≤ sizeLine ∧ Vals xs its.toList
def ScrAt (K : PySem.W.Frag) (Fb : Addr → Prop) (H : Hp) (a : Addr) (xs : List V) : Prop :=
  (¬ Fb a ∧ Rd H a (.lst xs)) ∨
    ∃ (o : Obj) (its : Array Value) (n : Nat), K.lookup a = some o ∧ o.cls = .type "list" ∧ o.dict = none ∧ o.data = .seq its n ∧ its.size ≤ sizeLine ∧ Vals xs its.toList
def LstAt (Fb : Addr → Prop) (H : Hp) (a : Addr) (xs : List V) : Prop := ¬ Fb a ∧ Rd H a (.lst xs)
theorem TupAt.sq {K Fb H a xs} (h : TupAt K Fb H a xs) : SqT K H a xs := h.elim (fun h => .inl h.2) .inr
theorem ScrAt.sq {K Fb H a xs} (h : ScrAt K Fb H a xs) : SqL K H a xs := h.elim (fun h => .inl h.2) .inr
theorem LstAt.sq {K : PySem.W.Frag} {Fb H a xs} (h : LstAt Fb H a xs) : SqL K H a xs := .inl h.2

mutual
inductive Rep (K : PySem.W.Frag) (Fb : Addr → Prop) (H : Hp) : V → D → Prop where
  | non : Rep K Fb H .non .non
  | bl {b} : Rep K Fb H (.bl b) (.bl b)
  | int {i} : Rep K Fb H (.int i) (.int i)
  | str {x} : Rep K Fb H (.str x) (.str x)
  | tup {a vs ds} : TupAt K Fb H a vs → Reps K Fb H vs ds → Rep K Fb H (.ref a) (.tup ds)
  | scr {a ns} : ScrAt K Fb H a (ns.map V.int) → Rep K Fb H (.ref a) (.scr ns)
  | lst {a vs ds} : LstAt Fb H a vs → Reps K Fb H vs ds → Rep K Fb H (.ref a) (.lst ds)
  | dct {a kvs ds} : Rd H a (.dK kvs) → ¬ Fb a → RepK K Fb H kvs ds → Rep K Fb H (.ref a) (.dct ds)
  | obj {a} : Rep K Fb H (.ref a) (.obj a)
inductive Reps (K : PySem.W.Frag) (Fb : Addr → Prop) (H : Hp) : List V → List D → Prop where
  | nil : Reps K Fb H [] []
  | cons {v d vs ds} : Rep K Fb H v d → Reps K Fb H vs ds → Reps K Fb H (v :: vs) (d :: ds)
inductive RepK (K : PySem.W.Frag) (Fb : Addr → Prop) (H : Hp) : List (Key × V) → List (Str × D) → Prop where
  | nil : RepK K Fb H [] []
  | cons {x v d vs ds} : Rep K Fb H v d → RepK K Fb H vs ds → RepK K Fb H ((Sum.inr x, v) :: vs) ((x, d) :: ds)
end

/-- what stands out of Fb stands still, out of Fb' -/
def TrR (Fb : Addr → Prop) (H : Hp) (Fb' : Addr → Prop) (H' : Hp) : Prop := ∀ a u, ¬ Fb a → Rd H a u → Rd H' a u ∧ ¬ Fb' a
section
variable {K : PySem.W.Frag} {Fb Fb' : Addr → Prop} {H H' : Hp}
theorem TupAt.tr {a xs} (h : TupAt K Fb H a xs) (t : TrR Fb H Fb' H') : TupAt K Fb' H' a xs := by
  rcases h with ⟨h1, h2⟩ | h
  · exact .inl ⟨(t a _ h1 h2).2, (t a _ h1 h2).1⟩
  · exact .inr h
theorem LstAt.tr {a xs} (h : LstAt Fb H a xs) (t : TrR Fb H Fb' H') : LstAt Fb' H' a xs := ⟨(t a _ h.1 h.2).2, (t a _ h.1 h.2).1⟩
theorem ScrAt.tr {a xs} (h : ScrAt K Fb H a xs) (t : TrR Fb H Fb' H') : ScrAt K Fb' H' a xs := by
  rcases h with ⟨h1, h2⟩ | h
  · exact .inl ⟨(t a _ h1 h2).2, (t a _ h1 h2).1⟩
  · exact .inr h
/-- what is no lock -/
def Nf (u : HO) : Prop := ∀ o x, u ≠ .frz o x
def TrW (Fb : Addr → Prop) (H : Hp) (Fb' : Addr → Prop) (H' : Hp) : Prop := ∀ a u, Nf u → ¬ Fb a → Rd H a u → Rd H' a u ∧ ¬ Fb' a
theorem TrR.w (t : TrR Fb H Fb' H') : TrW Fb H Fb' H' := fun a u _ => t a u
theorem nf_tup {xs} : Nf (.tup xs) := fun _ _ z => nomatch z
theorem nf_lst {xs} : Nf (.lst xs) := fun _ _ z => nomatch z
theorem nf_dK {xs} : Nf (.dK xs) := fun _ _ z => nomatch z
theorem TupAt.trW {a xs} (h : TupAt K Fb H a xs) (t : TrW Fb H Fb' H') : TupAt K Fb' H' a xs := by
  rcases h with ⟨h1, h2⟩ | h
  · exact .inl ⟨(t a _ nf_tup h1 h2).2, (t a _ nf_tup h1 h2).1⟩
  · exact .inr h
theorem LstAt.trW {a xs} (h : LstAt Fb H a xs) (t : TrW Fb H Fb' H') : LstAt Fb' H' a xs := ⟨(t a _ nf_lst h.1 h.2).2, (t a _ nf_lst h.1 h.2).1⟩
theorem ScrAt.trW {a xs} (h : ScrAt K Fb H a xs) (t : TrW Fb H Fb' H') : ScrAt K Fb' H' a xs := by
  rcases h with ⟨h1, h2⟩ | h
  · exact .inl ⟨(t a _ nf_lst h1 h2).2, (t a _ nf_lst h1 h2).1⟩
  · exact .inr h
mutual
theorem Rep.trW {v d} (t : TrW Fb H Fb' H') : Rep K Fb H v d → Rep K Fb' H' v d
  | .non => .non
  | .bl => .bl
  | .int => .int
  | .str => .str
  | .tup h r => .tup (h.trW t) (r.trW t)
  | .lst h r => .lst (h.trW t) (r.trW t)
  | .scr h => .scr (h.trW t)
  | .dct h n r => .dct (t _ _ nf_dK n h).1 (t _ _ nf_dK n h).2 (r.trW t)
  | .obj => .obj
theorem Reps.trW {vs ds} (t : TrW Fb H Fb' H') : Reps K Fb H vs ds → Reps K Fb' H' vs ds
  | .nil => .nil
  | .cons h r => .cons (h.trW t) (r.trW t)
theorem RepK.trW {vs ds} (t : TrW Fb H Fb' H') : RepK K Fb H vs ds → RepK K Fb' H' vs ds
  | .nil => .nil
  | .cons h r => .cons (h.trW t) (r.trW t)
end
theorem Rep.tr {v d} (t : TrR Fb H Fb' H') (h : Rep K Fb H v d) : Rep K Fb' H' v d := h.trW t.w
theorem Reps.tr {vs ds} (t : TrR Fb H Fb' H') (h : Reps K Fb H vs ds) : Reps K Fb' H' vs ds := h.trW t.w
theorem RepK.tr {vs ds} (t : TrR Fb H Fb' H') (h : RepK K Fb H vs ds) : RepK K Fb' H' vs ds := h.trW t.w
theorem TrR.refl : TrR Fb H Fb H := fun _ _ n h => ⟨h, n⟩
theorem TrR.same (hs : Same H H') : TrR Fb H Fb H' := fun a u n h => ⟨h.elim (fun h => .inl (hs _ _ h)) (fun ⟨o, h⟩ => .inr ⟨o, hs _ _ h⟩), n⟩
theorem TrR.less (hs : ∀ a, Fb' a → Fb a) : TrR Fb H Fb' H := fun a u n h => ⟨h, fun z => n (hs a z)⟩
/-- with p besides, which did not stand -/
theorem TrR.plus {p : Addr} (hp : H p = none) (hs : Same H H') : TrR Fb H (fun a => Fb a ∨ a = p) H' := fun a u n h => by
  refine ⟨h.elim (fun h => .inl (hs _ _ h)) (fun ⟨o, h⟩ => .inr ⟨o, hs _ _ h⟩), fun z => z.elim n fun e => ?_⟩
  subst e
  rcases h with h | ⟨o, h⟩ <;> rw [hp] at h <;> cases h
theorem Reps.length : ∀ {vs ds}, Reps K Fb H vs ds → vs.length = ds.length
  | _, _, .nil => rfl
  | _, _, .cons _ r => congrArg (· + 1) r.length
theorem RepK.length : ∀ {vs ds}, RepK K Fb H vs ds → vs.length = ds.length
  | _, _, .nil => rfl
  | _, _, .cons _ r => congrArg (· + 1) r.length
theorem Reps.get : ∀ {vs ds} {i : Nat} {d : D}, Reps K Fb H vs ds → ds[i]? = some d → ∃ v, vs[i]? = some v ∧ Rep K Fb H v d
  | _, _, _, _, .nil, e => by simp at e
  | _, _, 0, _, .cons h _, e => by simp at e; subst e; exact ⟨_, rfl, h⟩
  | _, _, i + 1, d, .cons _ r, e => by
    obtain ⟨v, h1, h2⟩ := Reps.get (i := i) (d := d) r (by simpa using e)
    exact ⟨v, by simpa using h1, h2⟩
theorem Reps.getV : ∀ {vs ds} {i : Nat} {v : V}, Reps K Fb H vs ds → vs[i]? = some v → ∃ d, ds[i]? = some d ∧ Rep K Fb H v d
  | _, _, _, _, .nil, e => by simp at e
  | _, _, 0, _, .cons h _, e => by simp at e; subst e; exact ⟨_, rfl, h⟩
  | _, _, i + 1, d, .cons _ r, e => by
    obtain ⟨v, h1, h2⟩ := Reps.getV (i := i) (v := d) r (by simpa using e)
    exact ⟨v, by simpa using h1, h2⟩
theorem Reps.append : ∀ {vs ds ws es}, Reps K Fb H vs ds → Reps K Fb H ws es → Reps K Fb H (vs ++ ws) (ds ++ es)
  | _, _, _, _, .nil, s => s
  | _, _, _, _, .cons h r, s => .cons h (r.append s)
theorem Reps.one {v d} (h : Rep K Fb H v d) : Reps K Fb H [v] [d] := .cons h .nil
theorem Reps.drop : ∀ {vs ds} (n : Nat), Reps K Fb H vs ds → Reps K Fb H (vs.drop n) (ds.drop n)
  | _, _, 0, h => h
  | _, _, _ + 1, .nil => .nil
  | _, _, n + 1, .cons _ r => r.drop n
theorem Reps.take : ∀ {vs ds} (n : Nat), Reps K Fb H vs ds → Reps K Fb H (vs.take n) (ds.take n)
  | _, _, 0, _ => .nil
  | _, _, _ + 1, .nil => .nil
  | _, _, n + 1, .cons h r => .cons h (r.take n)
theorem Reps.reverse : ∀ {vs ds}, Reps K Fb H vs ds → Reps K Fb H vs.reverse ds.reverse
  | _, _, .nil => .nil
  | _, _, .cons h r => by rw [List.reverse_cons, List.reverse_cons]; exact r.reverse.append (.one h)
end

def dget (kvs : List (Str × D)) (k : Str) : Option D := (kvs.find? fun kv => decide (kv.1 = k)).map (·.2)
def dput (kvs : List (Str × D)) (k : Str) (v : D) : List (Str × D) :=
  if (kvs.any fun kv => decide (kv.1 = k)) = true then kvs.map (fun kv => if kv.1 = k then (kv.1, v) else kv) else kvs ++ [(k, v)]
def ddrop (kvs : List (Str × D)) (k : Str) : List (Str × D) := kvs.filter fun kv => decide (kv.1 ≠ k)
def dmerge (kvs more : List (Str × D)) : List (Str × D) := more.foldl (fun acc kv => dput acc kv.1 kv.2) kvs
section
variable {K : PySem.W.Frag} {Fb Fb' : Addr → Prop} {H H' : Hp}
theorem inr_iff {x k : Str} : ((Sum.inr x : Key) = Sum.inr k) ↔ x = k := ⟨fun h => Sum.inr.inj h, fun h => by rw [h]⟩
theorem RepK.get : ∀ {kvs ds} (k : Str), RepK K Fb H kvs ds → (∃ v d, valV kvs (Sum.inr k : Key) = some v ∧ dget ds k = some d ∧ Rep K Fb H v d) ∨ (valV kvs (Sum.inr k : Key) = none ∧ dget ds k = none)
  | _, _, k, .nil => .inr ⟨rfl, rfl⟩
  | _, _, k, @RepK.cons _ _ _ x v d vs ds h r => by
    by_cases e : x = k
    · subst e
      exact .inl ⟨v, d, valV_pos rfl, by simp [dget], h⟩
    · rcases r.get k with ⟨v', d', h1, h2, h3⟩ | ⟨h1, h2⟩
      · refine .inl ⟨v', d', ?_, ?_, h3⟩
        · rw [valV_neg (fun z => e (Sum.inr.inj z))]; exact h1
        · simpa [dget, List.find?_cons, e] using h2
      · refine .inr ⟨?_, ?_⟩
        · rw [valV_neg (fun z => e (Sum.inr.inj z))]; exact h1
        · simpa [dget, List.find?_cons, e] using h2
theorem RepK.any : ∀ {kvs ds} (k : Str), RepK K Fb H kvs ds → (kvs.any fun kv => decide (kv.1 = (Sum.inr k : Key))) = ds.any fun kv => decide (kv.1 = k)
  | _, _, k, .nil => rfl
  | _, _, k, @RepK.cons _ _ _ x v d vs ds h r => by
    rw [List.any_cons, List.any_cons, r.any k]
    simp [inr_iff]
theorem RepK.upd : ∀ {kvs ds} (k : Str) {v d}, RepK K Fb H kvs ds → Rep K Fb H v d →
    RepK K Fb H (kvs.map (fun kv => if kv.1 = (Sum.inr k : Key) then (kv.1, v) else kv)) (ds.map (fun kv => if kv.1 = k then (kv.1, d) else kv))
  | _, _, k, _, _, .nil, _ => .nil
  | _, _, k, v', d', @RepK.cons _ _ _ x v d vs ds h r, q => by
    rw [List.map_cons, List.map_cons]
    by_cases e : x = k
    · subst e; simp only [if_pos]; exact .cons q (r.upd x q)
    · rw [if_neg (fun z => e (Sum.inr.inj z)), if_neg e]; exact .cons h (r.upd k q)
theorem RepK.append : ∀ {vs ds ws es}, RepK K Fb H vs ds → RepK K Fb H ws es → RepK K Fb H (vs ++ ws) (ds ++ es)
  | _, _, _, _, .nil, s => s
  | _, _, _, _, .cons h r, s => .cons h (r.append s)
theorem RepK.put {kvs ds} (k : Str) {v d} (r : RepK K Fb H kvs ds) (q : Rep K Fb H v d) : RepK K Fb H (putK kvs (Sum.inr k : Key) v) (dput ds k d) := by
  unfold putK dput
  rw [r.any k]
  by_cases e : (ds.any fun kv => decide (kv.1 = k)) = true
  · rw [if_pos e, if_pos e]; exact r.upd k q
  · rw [if_neg e, if_neg e]; exact r.append (.cons q .nil)
theorem RepK.drop : ∀ {kvs ds} (k : Str), RepK K Fb H kvs ds → RepK K Fb H (dropK kvs (Sum.inr k : Key)) (ddrop ds k)
  | _, _, k, .nil => .nil
  | _, _, k, @RepK.cons _ _ _ x v d vs ds h r => by
    unfold dropK ddrop
    rw [List.filter_cons, List.filter_cons]
    by_cases e : x = k
    · subst e
      rw [if_neg (by simp), if_neg (by simp)]
      exact (r.drop x)
    · have e' : ¬ (Sum.inr x : Key) = Sum.inr k := fun z => e (Sum.inr.inj z)
      rw [if_pos (by simpa using e'), if_pos (by simpa using e)]
      exact .cons h (r.drop k)
theorem RepK.merge : ∀ {more me kvs ds}, RepK K Fb H more me → RepK K Fb H kvs ds → RepK K Fb H (mergeK kvs more) (dmerge ds me)
  | _, _, _, _, .nil, s => s
  | _, _, _, _, .cons h r, s => by
    show RepK K Fb H (mergeK (putK _ _ _) _) (dmerge (dput _ _ _) _)
    exact r.merge (s.put _ h)
theorem RepK.keys : ∀ {kvs ds}, RepK K Fb H kvs ds → Reps K Fb H (kvs.map fun kv => kV kv.1) (ds.map fun kv => D.str kv.1)
  | _, _, .nil => .nil
  | _, _, .cons _ r => .cons .str r.keys
end
inductive S where
  | unset | val (d : D) | bor (d : D) | own (io : Bool) (d : D)
inductive R where
  | val (d : D) | new (d : D) | slot (i : Nat)
abbrev Env' := List S
def Own (σ : St) (ρ : Env') (a : Addr) : Prop := ∃ (i : Nat) (b : Bool) (d : D), ρ[i]? = some (.own b d) ∧ σ[i]? = some (some (.ref a))
def Fbd (N : Addr → Prop) (σ : St) (ρ : Env') (a : Addr) : Prop := N a ∨ Own σ ρ a

/-- the top unrestricted -/
def RepT (K : PySem.W.Frag) (Fb : Addr → Prop) (H : Hp) (v : V) : D → Prop
  | .lst ds => ∃ a vs, v = .ref a ∧ Rd H a (.lst vs) ∧ Reps K Fb H vs ds
  | .dct ds => ∃ a kvs, v = .ref a ∧ Rd H a (.dK kvs) ∧ RepK K Fb H kvs ds
  | d => Rep K Fb H v d
def OwnR (K : PySem.W.Frag) (Fb : Addr → Prop) (H : Hp) (p : Addr) : D → Prop
  | .lst ds => ∃ vs, H p = some (.lst vs) ∧ Reps K Fb H vs ds
  | .dct ds => ∃ kvs, H p = some (.dK kvs) ∧ RepK K Fb H kvs ds
  | _ => False
section
variable {K : PySem.W.Frag} {Fb Fb' N N' : Addr → Prop} {H H' B : Hp} {v : V} {d : D} {p : Addr} {σ ι : St} {ρ ρ' : Env'}
theorem Rep.top (h : Rep K Fb H v d) : RepT K Fb H v d := by
  cases h with
  | lst h r => exact ⟨_, _, rfl, h.2, r⟩
  | dct h n r => exact ⟨_, _, rfl, h, r⟩
  | non => exact .non
  | bl => exact .bl
  | int => exact .int
  | str => exact .str
  | tup h r => exact .tup h r
  | scr h => exact .scr h
  | obj => exact .obj
theorem OwnR.top (h : OwnR K Fb H p d) : RepT K Fb H (.ref p) d := by
  cases d with
  | lst ds => obtain ⟨vs, h, r⟩ := h; exact ⟨_, _, rfl, .of h, r⟩
  | dct ds => obtain ⟨vs, h, r⟩ := h; exact ⟨_, _, rfl, .of h, r⟩
  | _ => exact h.elim
theorem OwnR.live (h : OwnR K Fb H p d) : H p ≠ none := by
  cases d with
  | lst ds => obtain ⟨vs, h, r⟩ := h; rw [h]; exact fun z => nomatch z
  | dct ds => obtain ⟨vs, h, r⟩ := h; rw [h]; exact fun z => nomatch z
  | _ => exact h.elim
theorem OwnR.rep (h : OwnR K Fb H p d) (hs : ∀ a, Fb' a → Fb a) (hp : ¬ Fb' p) : Rep K Fb' H (.ref p) d := by
  cases d with
  | lst ds => obtain ⟨vs, h, r⟩ := h; exact .lst ⟨hp, .of h⟩ (r.tr (.less hs))
  | dct ds => obtain ⟨vs, h, r⟩ := h; exact .dct (.of h) hp (r.tr (.less hs))
  | _ => exact h.elim
theorem OwnR.tr (h : OwnR K Fb H p d) (t : TrR Fb H Fb' H') (hp : ∀ o, H p = some o → H' p = some o) : OwnR K Fb' H' p d := by
  cases d with
  | lst ds => obtain ⟨vs, h, r⟩ := h; exact ⟨vs, hp _ h, r.tr t⟩
  | dct ds => obtain ⟨vs, h, r⟩ := h; exact ⟨vs, hp _ h, r.tr t⟩
  | _ => exact h.elim
theorem RepT.tr (h : RepT K Fb H v d) (t : TrR Fb H Fb' H') (hp : ∀ p u, v = .ref p → Rd H p u → Rd H' p u) : RepT K Fb' H' v d := by
  cases d with
  | lst ds =>
    obtain ⟨a, vs, e, h, r⟩ := h
    exact ⟨a, vs, e, hp a _ e h, r.tr t⟩
  | dct ds => obtain ⟨a, vs, e, h, r⟩ := h; exact ⟨a, vs, e, hp a _ e h, r.tr t⟩
  | non => exact Rep.tr t h
  | bl => exact Rep.tr t h
  | int => exact Rep.tr t h
  | str => exact Rep.tr t h
  | tup => exact Rep.tr t h
  | scr => exact Rep.tr t h
  | obj => exact Rep.tr t h

/-- lent: it stands still while the def runs, its top may be shut -/
def Bor (K : PySem.W.Frag) (N : Addr → Prop) (B : Hp) (σ : St) (ρ : Env') (H : Hp) (v : V) (d : D) : Prop :=
  Rep K (Fbd N σ ρ) H v d ∨ ((∃ a, v = .ref a ∧ ¬ Own σ ρ a ∧ B a ≠ none) ∧ RepT K (Fbd N σ ρ) H v d)
theorem Bor.top (h : Bor K N B σ ρ H v d) : RepT K (Fbd N σ ρ) H v d := h.elim Rep.top fun h => h.2
theorem Bor.tr {σ' : St} (h : Bor K N B σ ρ H v d) (t : TrR (Fbd N σ ρ) H (Fbd N' σ' ρ') H') (ho : ∀ a, B a ≠ none → Own σ' ρ' a → Own σ ρ a) (hk : ∀ a u, ¬ Own σ ρ a → Rd H a u → Rd H' a u) : Bor K N' B σ' ρ' H' v d := by
  rcases h with h | ⟨⟨a, e, n, b⟩, h⟩
  · exact .inl (h.tr t)
  · exact .inr ⟨⟨a, e, fun z => n (ho a b z), b⟩, h.tr t fun p u e' q => by rw [e] at e'; cases e'; exact hk a u n q⟩

structure Rel (K : PySem.W.Frag) (N : Addr → Prop) (B : Hp) (ι : St) (σ : St) (H : Hp) (ρ : Env') : Prop where
  len : ρ.length = σ.length
  val : ∀ (i : Nat) (d : D), ρ[i]? = some (.val d) → ∃ v, σ[i]? = some (some v) ∧ Rep K (Fbd N σ ρ) H v d
  bor : ∀ (i : Nat) (d : D), ρ[i]? = some (.bor d) → ∃ v, σ[i]? = some (some v) ∧ Bor K N B σ ρ H v d
  own : ∀ (i : Nat) (b : Bool) (d : D), ρ[i]? = some (.own b d) → ∃ p, σ[i]? = some (some (.ref p)) ∧ OwnR K (Fbd N σ ρ) H p d ∧ ¬ N p ∧ (b = false → B p = none) ∧ (b = true → ι[i]? = some (some (.ref p)))
  uniq : ∀ (i j : Nat) (p : Addr) (b : Bool) (d : D) (b' : Bool) (d' : D), ρ[i]? = some (.own b d) → ρ[j]? = some (.own b' d') → σ[i]? = some (some (.ref p)) → σ[j]? = some (some (.ref p)) → i = j
  base : ∀ a o, B a = some o → H a = some o ∨ Own σ ρ a
  nH : ∀ a, N a → H a ≠ none
/-- what is not own stands still, and does not come to be own -/
structure Ext (σ : St) (ρ : Env') (H : Hp) (σ' : St) (ρ' : Env') (H' : Hp) : Prop where
  keep : ∀ a o, ¬ Own σ ρ a → H a = some o → H' a = some o ∧ ¬ Own σ' ρ' a
  live : ∀ a, H' a = none → H a = none
theorem Ext.refl : Ext σ ρ H σ ρ H := ⟨fun _ _ n h => ⟨h, n⟩, fun _ h => h⟩
theorem Ext.trans {σ1 σ2 : St} {ρ1 ρ2 : Env'} {H1 H2 : Hp} (a : Ext σ ρ H σ1 ρ1 H1) (b : Ext σ1 ρ1 H1 σ2 ρ2 H2) : Ext σ ρ H σ2 ρ2 H2 := ⟨fun c o n h => b.keep c o (a.keep c o n h).2 (a.keep c o n h).1, fun c h => a.live c (b.live c h)⟩
theorem Ext.same (hs : Same H H') : Ext σ ρ H σ ρ H' := ⟨fun a o n h => ⟨hs _ _ h, n⟩, fun _ h => hs.free h⟩
theorem Ext.rd {σ' : St} (e : Ext σ ρ H σ' ρ' H') {a : Addr} {u : HO} (n : ¬ Own σ ρ a) (h : Rd H a u) : Rd H' a u ∧ ¬ Own σ' ρ' a := by
  rcases h with h | ⟨o, h⟩
  · exact ⟨.inl (e.keep a _ n h).1, (e.keep a _ n h).2⟩
  · exact ⟨.inr ⟨o, (e.keep a _ n h).1⟩, (e.keep a _ n h).2⟩
theorem Ext.tr {σ' : St} (e : Ext σ ρ H σ' ρ' H') : TrR (Fbd N σ ρ) H (Fbd N σ' ρ') H' := fun a u n h =>
  ⟨(e.rd (fun z => n (.inr z)) h).1, fun z => z.elim (fun z => n (.inl z)) (e.rd (fun z => n (.inr z)) h).2⟩
theorem Rel.live (I : Rel K N B ι σ H ρ) {a : Addr} (h : Fbd N σ ρ a) : H a ≠ none := by
  rcases h with h | ⟨i, b, d, h1, h2⟩
  · exact I.nH a h
  · obtain ⟨p, e, o, _⟩ := I.own i b d h1
    rw [h2] at e; cases e
    exact OwnR.live o
theorem Rel.new (I : Rel K N B ι σ H ρ) (hp : H p = none) : ¬ Fbd N σ ρ p := fun z => I.live z hp
theorem Rel.notN (I : Rel K N B ι σ H ρ) {a : Addr} (h : Own σ ρ a) : ¬ N a := by
  obtain ⟨i, b, d, h1, h2⟩ := h
  obtain ⟨p, e, _, n, _⟩ := I.own i b d h1
  rw [h2] at e; cases e
  exact n
/-- the heap has grown -/
theorem Rel.same (I : Rel K N B ι σ H ρ) (hs : Same H H') : Rel K N B ι σ H' ρ where
  len := I.len
  val := fun i d h => let ⟨v, e, r⟩ := I.val i d h; ⟨v, e, r.tr (.same hs)⟩
  bor := fun i d h => let ⟨v, e, r⟩ := I.bor i d h; ⟨v, e, r.tr (.same hs) (fun _ _ z => z) fun p u _ q => ((TrR.same (Fb := fun _ => False) hs) p u id q).1⟩
  own := fun i b d h => let ⟨p, e, r, n⟩ := I.own i b d h; ⟨p, e, OwnR.tr r (.same hs) fun o q => hs _ _ q, n⟩
  uniq := I.uniq
  base := fun a o h => (I.base a o h).imp (hs a o) id
  nH := fun a h z => I.nH a h (hs.free z)
theorem Fbd.plus {a : Addr} : Fbd (fun a => N a ∨ a = p) σ ρ a ↔ Fbd N σ ρ a ∨ a = p := by
  unfold Fbd
  constructor
  · rintro ((h | h) | h)
    · exact .inl (.inl h)
    · exact .inr h
    · exact .inl (.inr h)
  · rintro ((h | h) | h)
    · exact .inl (.inl h)
    · exact .inr h
    · exact .inl (.inr h)
theorem TrR.plus' (hp : H p = none) (hs : Same H H') : TrR (Fbd N σ ρ) H (Fbd (fun a => N a ∨ a = p) σ ρ) H' := fun a u n h =>
  let ⟨h1, h2⟩ := TrR.plus hp hs a u n h
  ⟨h1, fun z => h2 (Fbd.plus.mp z)⟩
/-- .. by a new object at p: nothing leads to it -/
theorem Rel.plus (I : Rel K N B ι σ H ρ) (hp : H p = none) (hs : Same H H') (hp' : H' p ≠ none) : Rel K (fun a => N a ∨ a = p) B ι σ H' ρ where
  len := I.len
  val := fun i d h => let ⟨v, e, r⟩ := I.val i d h; ⟨v, e, r.tr (.plus' hp hs)⟩
  bor := fun i d h => let ⟨v, e, r⟩ := I.bor i d h; ⟨v, e, r.tr (.plus' hp hs) (fun _ _ z => z) fun p u _ q => ((TrR.same (Fb := fun _ => False) hs) p u id q).1⟩
  own := fun i b d h => let ⟨q, e, r, n⟩ := I.own i b d h; ⟨q, e, OwnR.tr r (.plus' hp hs) fun o q => hs _ _ q, fun z => z.elim n.1 fun e => OwnR.live r (e ▸ hp), n.2⟩
  uniq := I.uniq
  base := fun a o h => (I.base a o h).imp (hs a o) id
  nH := fun a h z => h.elim (fun h => I.nH a h (hs.free z)) fun e => hp' (e ▸ z)
/-- fewer that are shut -/
theorem Rel.less (I : Rel K N B ι σ H ρ) (hs : ∀ a, N' a → N a) : Rel K N' B ι σ H ρ := by
  have hf : ∀ a, Fbd N' σ ρ a → Fbd N σ ρ a := fun a z => z.imp (hs a) id
  exact {
    len := I.len
    val := fun i d h => let ⟨v, e, r⟩ := I.val i d h; ⟨v, e, r.tr (.less hf)⟩
    bor := fun i d h => let ⟨v, e, r⟩ := I.bor i d h; ⟨v, e, r.tr (.less hf) (fun _ _ z => z) fun p u _ q => q⟩
    own := fun i b d h => let ⟨q, e, r, n⟩ := I.own i b d h; ⟨q, e, OwnR.tr r (.less hf) fun o q => q, fun z => n.1 (hs _ z), n.2⟩
    uniq := I.uniq
    base := I.base
    nH := fun a h => I.nH a (hs a h) }
end
end DL
set_option maxRecDepth 100000
set_option maxHeartbeats 4000000
namespace DL
open PySem PySem.Spec L2
abbrev FE := Env' → Option (R × Env')
abbrev FT := Env' → Option (Bool × Env')
abbrev FA := Env' → Option (List R × Env')

def contS : Option S → Option D
  | some (.val d) => some d
  | some (.bor d) => some d
  | some (.own _ d) => some d
  | _ => none
/-- what a result holds, now -/
def cont (ρ : Env') : R → Option D
  | .val d => some d
  | .new d => some d
  | .slot i => contS ρ[i]?
def frzS (ρ : Env') (i : Nat) : Option S → Option (D × Env')
  | some (.val d) => some (d, ρ)
  | some (.own false d) => some (d, ρ.set i (.val d))
  | _ => none
/-- .. for good -/
def frz (ρ : Env') : R → Option (D × Env')
  | .val d => some (d, ρ)
  | .new d => some (d, ρ)
  | .slot i => frzS ρ i ρ[i]?
def RR (K : PySem.W.Frag) (N : Addr → Prop) (σ : St) (ρ : Env') (H : Hp) (v : V) : R → Prop
  | .val d => Rep K (Fbd N σ ρ) H v d
  | .new d => Rep K (Fbd N σ ρ) H v d
  | .slot i => σ[i]? = some (some v)
def EQ (K : PySem.W.Frag) (N : Addr → Prop) (B : Hp) (ι σ : St) (H0 : Hp) (ρ' : Env') (v : V) (H' : Hp) : R → Prop
  | .val d => Rel K N B ι σ H' ρ' ∧ Rep K (Fbd N σ ρ') H' v d
  | .new d => ∃ p, v = .ref p ∧ H0 p = none ∧ ¬ N p ∧ Rel K (fun a => N a ∨ a = p) B ι σ H' ρ' ∧ OwnR K (Fbd (fun a => N a ∨ a = p) σ ρ') H' p d
  | .slot i => Rel K N B ι σ H' ρ' ∧ σ[i]? = some (some v)
section
variable {K : PySem.W.Frag} {Fb Fb' N N' : Addr → Prop} {H H0 H' B : Hp} {v : V} {d : D} {p : Addr} {σ ι σ' : St} {ρ ρ' : Env'} {r : R}
theorem EQ.rel (h : EQ K N B ι σ H0 ρ' v H' r) : Rel K N B ι σ H' ρ' := by
  cases r with
  | val d => exact h.1
  | new d => obtain ⟨p, _, _, _, I, _⟩ := h; exact I.less fun _ z => .inl z
  | slot i => exact h.1
theorem EQ.rr (h : EQ K N B ι σ H0 ρ' v H' r) : RR K N σ ρ' H' v r := by
  cases r with
  | val d => exact h.2
  | new d =>
    obtain ⟨p, e, _, n, I, o⟩ := h
    subst e
    exact o.rep (fun a z => Fbd.plus.mpr (.inl z)) fun z => z.elim n fun z => I.notN z (.inr rfl)
  | slot i => exact h.2
theorem RR.ext (h : RR K N σ ρ H v r) (e : Ext σ ρ H σ ρ' H') : RR K N σ ρ' H' v r := by
  cases r with
  | val d => exact Rep.tr e.tr h
  | new d => exact Rep.tr e.tr h
  | slot i => exact h
theorem Rel.slotTop (I : Rel K N B ι σ H ρ) {i : Nat} (hv : σ[i]? = some (some v)) (hc : contS ρ[i]? = some d) : RepT K (Fbd N σ ρ) H v d := by
  cases e : ρ[i]? with
  | none => rw [e] at hc; cases hc
  | some s =>
    rw [e] at hc
    cases s with
    | unset => cases hc
    | val d' => cases hc; obtain ⟨v', h1, h2⟩ := I.val i _ e; rw [hv] at h1; cases h1; exact h2.top
    | bor d' => cases hc; obtain ⟨v', h1, h2⟩ := I.bor i _ e; rw [hv] at h1; cases h1; exact h2.top
    | own b d' => cases hc; obtain ⟨v', h1, h2, _⟩ := I.own i _ _ e; rw [hv] at h1; cases h1; exact h2.top
theorem RR.top (I : Rel K N B ι σ H ρ) (h : RR K N σ ρ H v r) (hc : cont ρ r = some d) : RepT K (Fbd N σ ρ) H v d := by
  cases r with
  | val d => cases hc; exact Rep.top h
  | new d => cases hc; exact Rep.top h
  | slot i => exact I.slotTop h hc
theorem getElem?_set_cases {α : Type} {l : List α} {i j : Nat} {x y : α} (h : (l.set i x)[j]? = some y) : (j = i ∧ y = x ∧ i < l.length) ∨ (j ≠ i ∧ l[j]? = some y) := by
  by_cases e : j = i
  · subst e
    by_cases hl : j < l.length
    · rw [List.getElem?_set_self hl] at h; cases h; exact .inl ⟨rfl, rfl, hl⟩
    · rw [List.getElem?_eq_none (by simpa using hl)] at h; cases h
  · rw [List.getElem?_set_ne (Ne.symm e)] at h; exact .inr ⟨e, h⟩
/-- an own thing is given up: it stands still from now on -/
theorem Rel.freeze (I : Rel K N B ι σ H ρ) {i : Nat} (hr : ρ[i]? = some (.own false d)) : Rel K N B ι σ H (ρ.set i (.val d)) ∧ Ext σ ρ H σ (ρ.set i (.val d)) H := by
  have hown : ∀ a, Own σ (ρ.set i (.val d)) a → Own σ ρ a ∧ ∀ v, σ[i]? = some (some v) → v ≠ .ref a := fun a ⟨j, b, d', h1, h2⟩ => by
    rcases getElem?_set_cases h1 with ⟨_, z, _⟩ | ⟨hj, h1⟩
    · cases z
    · refine ⟨⟨j, b, d', h1, h2⟩, fun v hv z => ?_⟩
      subst z
      exact hj (I.uniq j i a _ _ _ _ h1 hr h2 hv)
  have hf : ∀ a, Fbd N σ (ρ.set i (.val d)) a → Fbd N σ ρ a := fun a z => z.imp id fun z => (hown a z).1
  refine ⟨⟨by simpa using I.len, fun j d' h => ?_, fun j d' h => ?_, fun j b d' h => ?_, fun j k p b d1 b' d2 h1 h2 h3 h4 => ?_, fun a o h => ?_, I.nH⟩, fun a o n h => ⟨h, fun z => n (hown a z).1⟩, fun _ h => h⟩
  · rcases getElem?_set_cases h with ⟨rfl, z, _⟩ | ⟨_, h⟩
    · cases z
      obtain ⟨p, h1, h2, h3, _⟩ := I.own j _ _ hr
      exact ⟨_, h1, h2.rep hf fun z => z.elim h3 fun z => (hown p z).2 _ h1 rfl⟩
    · obtain ⟨v, h1, h2⟩ := I.val j d' h
      exact ⟨v, h1, h2.tr (.less hf)⟩
  · rcases getElem?_set_cases h with ⟨_, z, _⟩ | ⟨_, h⟩
    · cases z
    · obtain ⟨v, h1, h2⟩ := I.bor j d' h
      exact ⟨v, h1, h2.tr (.less hf) (fun a _ z => (hown a z).1) fun _ _ _ q => q⟩
  · rcases getElem?_set_cases h with ⟨_, z, _⟩ | ⟨_, h⟩
    · cases z
    · obtain ⟨v, h1, h2, h3⟩ := I.own j b d' h
      exact ⟨v, h1, OwnR.tr h2 (.less hf) fun _ q => q, h3⟩
  · rcases getElem?_set_cases h1 with ⟨_, z, _⟩ | ⟨_, h1⟩
    · cases z
    · rcases getElem?_set_cases h2 with ⟨_, z, _⟩ | ⟨_, h2⟩
      · cases z
      · exact I.uniq j k p _ _ _ _ h1 h2 h3 h4
  · rcases I.base a o h with q | ⟨j, b, d', h1, h2⟩
    · exact .inl q
    · by_cases hj : j = i
      · subst hj
        rw [hr] at h1; cases h1
        obtain ⟨p, g1, g2, g3, g4, _⟩ := I.own j _ _ hr
        rw [h2] at g1; cases g1
        rw [g4 rfl] at h; cases h
      · exact .inr ⟨j, b, d', by rw [List.getElem?_set_ne (Ne.symm hj)]; exact h1, h2⟩
theorem frz_ok (I : Rel K N B ι σ H ρ) (h : RR K N σ ρ H v r) (hf : frz ρ r = some (d, ρ')) : Rel K N B ι σ H ρ' ∧ Rep K (Fbd N σ ρ') H v d ∧ Ext σ ρ H σ ρ' H := by
  cases r with
  | val d => cases hf; exact ⟨I, h, .refl⟩
  | new d => cases hf; exact ⟨I, h, .refl⟩
  | slot i =>
    have h : σ[i]? = some (some v) := h
    have hf : frzS ρ i ρ[i]? = some (d, ρ') := hf
    cases e : ρ[i]? with
    | none => rw [e] at hf; cases hf
    | some s =>
      rw [e] at hf
      cases s with
      | unset => cases hf
      | val d' => cases hf; obtain ⟨v', h1, h2⟩ := I.val i _ e; rw [h] at h1; cases h1; exact ⟨I, h2, .refl⟩
      | bor d' => cases hf
      | own b d' =>
        cases b with
        | true => cases hf
        | false =>
          cases hf
          obtain ⟨J, x⟩ := I.freeze e
          have hl : i < ρ.length := by
            rcases Nat.lt_or_ge i ρ.length with q | q
            · exact q
            · rw [List.getElem?_eq_none q] at e; cases e
          obtain ⟨v', h1, h2⟩ := J.val i d (List.getElem?_set_self hl)
          rw [h] at h1; cases h1
          exact ⟨J, h2, x⟩
end

def SE (K : PySem.W.Frag) (t : TE) (f : FE) : Prop := ∀ N B ι σ H ρ r ρ', Rel K N B ι σ H ρ → f ρ = some (r, ρ') → ∀ Q : VK,
  (∀ v H', Ext σ ρ H σ ρ' H' → EQ K N B ι σ H ρ' v H' r → Q v H') → t σ H Q
def ST (K : PySem.W.Frag) (t : TT) (f : FT) : Prop := ∀ N B ι σ H ρ b ρ', Rel K N B ι σ H ρ → f ρ = some (b, ρ') → ∀ Q : Bool → Hp → Prop,
  (∀ H', Ext σ ρ H σ ρ' H' → Rel K N B ι σ H' ρ' → Q b H') → t σ H Q
inductive RRs (K : PySem.W.Frag) (N : Addr → Prop) (σ : St) (ρ : Env') (H : Hp) : List V → List R → Prop where
  | nil : RRs K N σ ρ H [] []
  | cons {v r vs rs} : RR K N σ ρ H v r → RRs K N σ ρ H vs rs → RRs K N σ ρ H (v :: vs) (r :: rs)
def SA (K : PySem.W.Frag) (t : TA) (f : FA) : Prop := ∀ N B ι σ H ρ rs ρ', Rel K N B ι σ H ρ → f ρ = some (rs, ρ') → ∀ Q : List V → Hp → Prop,
  (∀ vs H', Ext σ ρ H σ ρ' H' → Rel K N B ι σ H' ρ' → RRs K N σ ρ' H' vs rs → Q vs H') → t σ H Q
section
variable {K : PySem.W.Frag} {Fb Fb' N N' : Addr → Prop} {H H0 H' B : Hp} {v : V} {d : D} {p : Addr} {σ ι σ' : St} {ρ ρ' ρ1 : Env'} {r : R} {t ta tb : TE} {f fa fb : FE}
theorem SE.use (h : SE K t f) (I : Rel K N B ι σ H ρ) (e : f ρ = some (r, ρ')) {Q : VK} (k : ∀ v H', Ext σ ρ H σ ρ' H' → Rel K N B ι σ H' ρ' → RR K N σ ρ' H' v r → Q v H') : t σ H Q :=
  h N B ι σ H ρ r ρ' I e Q fun v H' x q => k v H' x q.rel q.rr
theorem RRs.ext : ∀ {vs rs}, RRs K N σ ρ H vs rs → Ext σ ρ H σ ρ' H' → RRs K N σ ρ' H' vs rs
  | _, _, .nil, _ => .nil
  | _, _, .cons h r, e => .cons (h.ext e) (r.ext e)

/-- names, constants -/
def fVar (i : Nat) : FE := fun ρ => match ρ[i]? with
  | some (.val d) => some (.val d, ρ)
  | some (.bor _) => some (.slot i, ρ)
  | some (.own _ _) => some (.slot i, ρ)
  | _ => none
theorem se_var {i : Nat} : SE K (tVar i) (fVar i) := by
  intro N B ι σ H ρ r ρ' I e Q k
  unfold fVar at e
  cases h : ρ[i]? with
  | none => rw [h] at e; cases e
  | some s =>
    rw [h] at e
    cases s with
    | unset => cases e
    | val d => cases e; obtain ⟨v, h1, h2⟩ := I.val i d h; exact ⟨v, h1, k v H .refl ⟨I, h2⟩⟩
    | bor d => cases e; obtain ⟨v, h1, h2⟩ := I.bor i d h; exact ⟨v, h1, k v H .refl ⟨I, h1⟩⟩
    | own b d => cases e; obtain ⟨v, h1, h2⟩ := I.own i b d h; exact ⟨_, h1, k _ H .refl ⟨I, h1⟩⟩
def fC (d : D) : FE := fun ρ => some (.val d, ρ)
theorem se_c {v : V} {d : D} (h : ∀ Fb H, Rep K Fb H v d) : SE K (tC v) (fC d) := by
  intro N B ι σ H ρ r ρ' I e Q k
  cases e
  exact k v H .refl ⟨I, h _ _⟩

theorem Rel.noB (I : Rel K N B ι σ H ρ) {p : Addr} (hp : H p = none) : B p = none := by
  cases q : B p with
  | none => rfl
  | some o =>
    rcases I.base p o q with z | z
    · rw [hp] at z; cases z
    · exact absurd hp (I.live (.inr z))
/-- what comes of values, the heap grown -/
def VR (K : PySem.W.Frag) (Fb : Addr → Prop) (H H' : Hp) (v : V) : R → Prop
  | .val d => Rep K Fb H' v d
  | .new d => ∃ p, v = .ref p ∧ H p = none ∧ OwnR K (fun a => Fb a ∨ a = p) H' p d
  | .slot _ => False
theorem VR.eq (h : VR K (Fbd N σ ρ) H H' v r) (I : Rel K N B ι σ H ρ) (s : Same H H') (x : Ext σ ρ1 H0 σ ρ H) : EQ K N B ι σ H0 ρ v H' r := by
  cases r with
  | val d => exact ⟨I.same s, h⟩
  | new d =>
    obtain ⟨p, e, hp, o⟩ := h
    refine ⟨p, e, x.live p hp, fun z => I.nH p z hp, I.plus hp s (OwnR.live o), ?_⟩
    exact OwnR.tr o (.less fun a z => Fbd.plus.mp z) fun _ q => q
  | slot i => exact h.elim

abbrev Fresh (Fb : Addr → Prop) (H : Hp) : Prop := ∀ a, Fb a → H a ≠ none
def U1 (K : PySem.W.Frag) (rel : V → Hp → VK → Prop) (g : D → Option R) : Prop := ∀ Fb H v d r, Fresh Fb H → RepT K Fb H v d → g d = some r → ∀ Q : VK, (∀ v' H', Same H H' → VR K Fb H H' v' r → Q v' H') → rel v H Q
def U2 (K : PySem.W.Frag) (rel : R2) (g : D → D → Option R) : Prop := ∀ Fb H v w d e r, Fresh Fb H → RepT K Fb H v d → RepT K Fb H w e → g d e = some r → ∀ Q : VK, (∀ v' H', Same H H' → VR K Fb H H' v' r → Q v' H') → rel v w H Q
inductive RepTs (K : PySem.W.Frag) (Fb : Addr → Prop) (H : Hp) : List V → List D → Prop where
  | nil : RepTs K Fb H [] []
  | cons {v d vs ds} : RepT K Fb H v d → RepTs K Fb H vs ds → RepTs K Fb H (v :: vs) (d :: ds)
def UN (K : PySem.W.Frag) (rel : List V → Hp → VK → Prop) (g : List D → Option R) : Prop := ∀ Fb H vs ds r, Fresh Fb H → RepTs K Fb H vs ds → g ds = some r → ∀ Q : VK, (∀ v' H', Same H H' → VR K Fb H H' v' r → Q v' H') → rel vs H Q
def f1 (g : D → Option R) (fa : FE) : FE := fun ρ => match fa ρ with
  | some (r, ρ1) => (match cont ρ1 r with
    | some d => (match g d with
      | some x => some (x, ρ1)
      | none => none)
    | none => none)
  | none => none
def f2 (g : D → D → Option R) (fa fb : FE) : FE := fun ρ => match fa ρ with
  | some (r1, ρ1) => (match fb ρ1 with
    | some (r2, ρ2) => (match cont ρ2 r1, cont ρ2 r2 with
      | some d, some e => (match g d e with
        | some x => some (x, ρ2)
        | none => none)
      | _, _ => none)
    | none => none)
  | none => none
theorem f1_eq {g : D → Option R} {x : R} (h : f1 g fa ρ = some (x, ρ')) : ∃ r d, fa ρ = some (r, ρ') ∧ cont ρ' r = some d ∧ g d = some x := by
  unfold f1 at h
  cases e1 : fa ρ with
  | none => rw [e1] at h; cases h
  | some q =>
    obtain ⟨r, ρ1⟩ := q
    rw [e1] at h
    cases e2 : cont ρ1 r with
    | none => simp only [e2] at h; cases h
    | some d =>
      simp only [e2] at h
      cases e3 : g d with
      | none => simp only [e3] at h; cases h
      | some y => simp only [e3] at h; cases h; exact ⟨r, d, rfl, e2, e3⟩
theorem f2_eq {g : D → D → Option R} {x : R} (h : f2 g fa fb ρ = some (x, ρ')) : ∃ r1 ρ1 r2 d e, fa ρ = some (r1, ρ1) ∧ fb ρ1 = some (r2, ρ') ∧ cont ρ' r1 = some d ∧ cont ρ' r2 = some e ∧ g d e = some x := by
  unfold f2 at h
  cases e1 : fa ρ with
  | none => rw [e1] at h; cases h
  | some q =>
    obtain ⟨r, ρ1⟩ := q
    simp only [e1] at h
    cases e2 : fb ρ1 with
    | none => simp only [e2] at h; cases h
    | some q2 =>
      obtain ⟨r2, ρ2⟩ := q2
      simp only [e2] at h
      cases c1 : cont ρ2 r with
      | none => simp only [c1] at h; cases h
      | some d =>
        cases c2 : cont ρ2 r2 with
        | none => simp only [c1, c2] at h; cases h
        | some e =>
          simp only [c1, c2] at h
          cases e3 : g d e with
          | none => simp only [e3] at h; cases h
          | some y => simp only [e3] at h; cases h; exact ⟨r, ρ1, r2, d, e, rfl, e2, c1, c2, e3⟩
theorem se_1 {rel : V → Hp → VK → Prop} {g : D → Option R} (u : U1 K rel g) (ha : SE K ta fa) : SE K (tUn rel ta) (f1 g fa) := by
  intro N B ι σ H ρ r ρ' I e Q k
  obtain ⟨r1, d, e1, e2, e3⟩ := f1_eq e
  refine ha.use I e1 fun v H1 x1 I1 q1 => ?_
  exact u (Fbd N σ ρ') H1 v d r (fun a z => I1.live z) (q1.top I1 e2) e3 _ fun v' H' s q => k v' H' (x1.trans (.same s)) (q.eq I1 s x1)
theorem se_2 {rel : R2} {g : D → D → Option R} (u : U2 K rel g) (ha : SE K ta fa) (hb : SE K tb fb) : SE K (tOp rel ta tb) (f2 g fa fb) := by
  intro N B ι σ H ρ r ρ' I e Q k
  obtain ⟨r1, ρ1, r2, d1, d2, e1, e2, c1, c2, e3⟩ := f2_eq e
  refine ha.use I e1 fun v H1 x1 I1 q1 => ?_
  refine hb.use I1 e2 fun w H2 x2 I2 q2 => ?_
  exact u (Fbd N σ ρ') H2 v w d1 d2 r (fun a z => I2.live z) ((q1.ext x2).top I2 c1) (q2.top I2 c2) e3 _ fun v' H' s q => k v' H' ((x1.trans x2).trans (.same s)) (q.eq I2 s (x1.trans x2))

def fNil : FA := fun ρ => some ([], ρ)
def fCons (fa : FE) (fr : FA) : FA := fun ρ => match fa ρ with
  | some (r, ρ1) => (match fr ρ1 with
    | some (rs, ρ2) => some (r :: rs, ρ2)
    | none => none)
  | none => none
theorem sa_nil : SA K tNil fNil := by
  intro N B ι σ H ρ rs ρ' I e Q k
  cases e
  exact k [] H .refl I .nil
theorem sa_cons {tr : TA} {fr : FA} (ha : SE K ta fa) (hr : SA K tr fr) : SA K (tCons ta tr) (fCons fa fr) := by
  intro N B ι σ H ρ rs ρ' I e Q k
  unfold fCons at e
  cases e1 : fa ρ with
  | none => rw [e1] at e; cases e
  | some q =>
    obtain ⟨r, ρ1⟩ := q
    simp only [e1] at e
    cases e2 : fr ρ1 with
    | none => simp only [e2] at e; cases e
    | some q2 =>
      obtain ⟨rs', ρ2⟩ := q2
      simp only [e2] at e
      cases e
      refine ha.use I e1 fun v H1 x1 I1 q1 => ?_
      exact hr N B ι σ H1 ρ1 rs' ρ' I1 e2 _ fun vs H2 x2 I2 q2 => k (v :: vs) H2 (x1.trans x2) I2 (.cons (q1.ext x2) q2)
def conts (ρ : Env') : List R → Option (List D)
  | [] => some []
  | r :: rs => match cont ρ r, conts ρ rs with
    | some d, some ds => some (d :: ds)
    | _, _ => none
theorem conts_ok (I : Rel K N B ι σ H ρ) : ∀ {vs rs ds}, RRs K N σ ρ H vs rs → conts ρ rs = some ds → RepTs K (Fbd N σ ρ) H vs ds
  | _, _, ds, .nil, e => by cases e; exact .nil
  | _, _, ds, @RRs.cons _ _ _ _ _ v r vs rs h hr, e => by
    unfold conts at e
    cases c1 : cont ρ r with
    | none => simp only [c1] at e; cases e
    | some d =>
      cases c2 : conts ρ rs with
      | none => simp only [c1, c2] at e; cases e
      | some ds' =>
        simp only [c1, c2] at e
        cases e
        exact .cons (h.top I c1) (conts_ok I hr c2)
def frzs (ρ : Env') : List R → Option (List D × Env')
  | [] => some ([], ρ)
  | r :: rs => match frz ρ r with
    | some (d, ρ1) => (match frzs ρ1 rs with
      | some (ds, ρ2) => some (d :: ds, ρ2)
      | none => none)
    | none => none
theorem frzs_ok : ∀ {vs rs ds ρ ρ'}, Rel K N B ι σ H ρ → RRs K N σ ρ H vs rs → frzs ρ rs = some (ds, ρ') → Rel K N B ι σ H ρ' ∧ Reps K (Fbd N σ ρ') H vs ds ∧ Ext σ ρ H σ ρ' H
  | _, _, ds, ρ, ρ', I, .nil, e => by cases e; exact ⟨I, .nil, .refl⟩
  | _, _, ds, ρ, ρ', I, @RRs.cons _ _ _ _ _ v r vs rs h hr, e => by
    unfold frzs at e
    cases c1 : frz ρ r with
    | none => simp only [c1] at e; cases e
    | some q =>
      obtain ⟨d, ρ1⟩ := q
      simp only [c1] at e
      cases c2 : frzs ρ1 rs with
      | none => simp only [c2] at e; cases e
      | some q2 =>
        obtain ⟨ds', ρ2⟩ := q2
        simp only [c2] at e
        cases e
        obtain ⟨I1, r1, x1⟩ := frz_ok I h c1
        obtain ⟨I2, r2, x2⟩ := frzs_ok I1 (hr.ext x1) c2
        exact ⟨I2, .cons (r1.tr x2.tr) r2, x1.trans x2⟩
def fN (g : List D → Option R) (fa : FA) : FE := fun ρ => match fa ρ with
  | some (rs, ρ1) => (match conts ρ1 rs with
    | some ds => (match g ds with
      | some x => some (x, ρ1)
      | none => none)
    | none => none)
  | none => none
theorem se_n {rel : List V → Hp → VK → Prop} {g : List D → Option R} {t : TA} {f : FA} (u : UN K rel g) (ha : SA K t f) : SE K (tCB rel t) (fN g f) := by
  intro N B ι σ H ρ r ρ' I e Q k
  unfold fN at e
  cases e1 : f ρ with
  | none => rw [e1] at e; cases e
  | some q =>
    obtain ⟨rs, ρ1⟩ := q
    simp only [e1] at e
    cases e2 : conts ρ1 rs with
    | none => simp only [e2] at e; cases e
    | some ds =>
      simp only [e2] at e
      cases e3 : g ds with
      | none => simp only [e3] at e; cases e
      | some x =>
        simp only [e3] at e
        cases e
        refine ha N B ι σ H ρ rs ρ' I e1 _ fun vs H1 x1 I1 q1 => ?_
        exact u (Fbd N σ ρ') H1 vs ds r (fun a z => I1.live z) (conts_ok I1 q1 e2) e3 _ fun v' H' s q => k v' H' (x1.trans (.same s)) (q.eq I1 s x1)
/-- (a, b, ..) and [a, b, ..] -/
def fTup (fa : FA) : FE := fun ρ => match fa ρ with
  | some (rs, ρ1) => (match frzs ρ1 rs with
    | some (ds, ρ2) => if ds.length ≤ sizeLine then some (.val (.tup ds), ρ2) else none
    | none => none)
  | none => none
def fLst (fa : FA) : FE := fun ρ => match fa ρ with
  | some (rs, ρ1) => (match frzs ρ1 rs with
    | some (ds, ρ2) => if ds.length ≤ sizeLine then some (.new (.lst ds), ρ2) else none
    | none => none)
  | none => none
theorem upd_ns {H : Hp} {p : Addr} {o : HO} (h : H p = none) : Same H (upd H p o) := fun b x e => by rw [upd_ne (ne_of_none e h)]; exact e
theorem se_tup {t : TA} {f : FA} (ha : SA K t f) : SE K (tTup t) (fTup f) := by
  intro N B ι σ H ρ r ρ' I e Q k
  unfold fTup at e
  cases e1 : f ρ with
  | none => rw [e1] at e; cases e
  | some q =>
    obtain ⟨rs, ρ1⟩ := q
    simp only [e1] at e
    cases e2 : frzs ρ1 rs with
    | none => simp only [e2] at e; cases e
    | some q2 =>
      obtain ⟨ds, ρ2⟩ := q2
      simp only [e2] at e
      split at e
      · rename_i hl
        cases e
        refine ha N B ι σ H ρ rs ρ1 I e1 _ fun vs H1 x1 I1 q1 => ?_
        obtain ⟨I2, r2, x2⟩ := frzs_ok I1 q1 e2
        refine ⟨by rw [r2.length]; exact hl, fun p hp => ?_⟩
        have s := upd_ns (o := .tup vs) hp
        refine k _ _ ((x1.trans x2).trans (.same s)) ⟨I2.same s, ?_⟩
        exact .tup (.inl ⟨I2.new hp, .of upd_same⟩) (r2.tr (.same s))
      · cases e
theorem se_lst {t : TA} {f : FA} (ha : SA K t f) : SE K (tLst t) (fLst f) := by
  intro N B ι σ H ρ r ρ' I e Q k
  unfold fLst at e
  cases e1 : f ρ with
  | none => rw [e1] at e; cases e
  | some q =>
    obtain ⟨rs, ρ1⟩ := q
    simp only [e1] at e
    cases e2 : frzs ρ1 rs with
    | none => simp only [e2] at e; cases e
    | some q2 =>
      obtain ⟨ds, ρ2⟩ := q2
      simp only [e2] at e
      split at e
      · rename_i hl
        cases e
        refine ha N B ι σ H ρ rs ρ1 I e1 _ fun vs H1 x1 I1 q1 => ?_
        obtain ⟨I2, r2, x2⟩ := frzs_ok I1 q1 e2
        refine ⟨by rw [r2.length]; exact hl, fun p hp => ?_⟩
        have s := upd_ns (o := .lst vs) hp
        refine k _ _ ((x1.trans x2).trans (.same s)) ⟨p, rfl, (x1.trans x2).live p hp, fun z => I2.nH p z hp, I2.plus hp s (by rw [upd_same]; exact fun z => nomatch z), ?_⟩
        exact ⟨vs, upd_same, r2.tr (.plus' hp s)⟩
      · cases e
/-- {} -/
def fDct : FE := fun ρ => some (.new (.dct []), ρ)
theorem se_dct : SE K tDNewK fDct := by
  intro N B ι σ H ρ r ρ' I e Q k
  cases e
  intro p hp
  have s := upd_ns (o := .dK []) hp
  exact k _ _ (.same s) ⟨p, rfl, hp, fun z => I.nH p z hp, I.plus hp s (by rw [upd_same]; exact fun z => nomatch z), [], upd_same, .nil⟩
end
end DL
set_option maxRecDepth 100000
set_option maxHeartbeats 4000000
namespace DL
open PySem PySem.Spec L2
section
variable {K : PySem.W.Frag} {Fb Fb' N N' : Addr → Prop} {H H0 H' B : Hp} {v : V} {d : D} {p : Addr} {σ ι σ' : St} {ρ ρ' ρ1 : Env'} {r : R} {t ta tb tc : TE} {f fa fb fc : FE} {tA tB' : TT} {gA gB : FT}
def asB (ρ1 : Env') (r : R) : Option (Bool × Env') := match cont ρ1 r with
  | some (.bl b) => some (b, ρ1)
  | _ => none
theorem asB_eq {ρ1 : Env'} {r : R} {b : Bool} (h : asB ρ1 r = some (b, ρ')) : ρ' = ρ1 ∧ cont ρ1 r = some (.bl b) := by
  unfold asB at h
  cases e : cont ρ1 r with
  | none => rw [e] at h; cases h
  | some d =>
    rw [e] at h
    cases d with
    | bl b => cases h; exact ⟨rfl, rfl⟩
    | _ => cases h
/-- a value that is a bool, as a test -/
def fB (fa : FE) : FT := fun ρ => match fa ρ with
  | some (r, ρ1) => asB ρ1 r
  | none => none
theorem fB_eq {b : Bool} (h : fB fa ρ = some (b, ρ')) : ∃ r, fa ρ = some (r, ρ') ∧ cont ρ' r = some (.bl b) := by
  unfold fB at h
  cases e1 : fa ρ with
  | none => rw [e1] at h; cases h
  | some q =>
    obtain ⟨r, ρ1⟩ := q
    simp only [e1] at h
    obtain ⟨rfl, e⟩ := asB_eq h
    exact ⟨r, rfl, e⟩
theorem st_b (ha : SE K ta fa) : ST K (tB ta) (fB fa) := by
  intro N B ι σ H ρ b ρ' I e Q k
  obtain ⟨r, e1, e2⟩ := fB_eq e
  refine ha.use I e1 fun v H1 x1 I1 q1 => ?_
  have q := q1.top I1 e2
  cases (show Rep K _ H1 v (.bl b) from q)
  exact ⟨b, rfl, k H1 x1 I1⟩
theorem st_test (ha : SE K ta fa) : ST K (tTest ta) (fB fa) := st_b ha
def fNotT (g : FT) : FT := fun ρ => match g ρ with
  | some (b, ρ1) => some (!b, ρ1)
  | none => none
theorem st_not (ha : ST K tA gA) : ST K (tNot tA) (fNotT gA) := by
  intro N B ι σ H ρ b ρ' I e Q k
  unfold fNotT at e
  cases e1 : gA ρ with
  | none => rw [e1] at e; cases e
  | some q => obtain ⟨c, ρ1⟩ := q; rw [e1] at e; cases e; exact ha N B ι σ H ρ c ρ' I e1 _ fun H1 x1 I1 => k H1 x1 I1
def fAndT (g h : FT) : FT := fun ρ => match g ρ with
  | some (true, ρ1) => h ρ1
  | some (false, ρ1) => some (false, ρ1)
  | none => none
def fOrT (g h : FT) : FT := fun ρ => match g ρ with
  | some (true, ρ1) => some (true, ρ1)
  | some (false, ρ1) => h ρ1
  | none => none
theorem st_and (ha : ST K tA gA) (hb : ST K tB' gB) : ST K (tAnd tA tB') (fAndT gA gB) := by
  intro N B ι σ H ρ b ρ' I e Q k
  unfold fAndT at e
  cases e1 : gA ρ with
  | none => rw [e1] at e; cases e
  | some q =>
    obtain ⟨c, ρ1⟩ := q
    rw [e1] at e
    cases c with
    | true => exact ha N B ι σ H ρ true ρ1 I e1 _ fun H1 x1 I1 => by rw [if_pos rfl]; exact hb N B ι σ H1 ρ1 b ρ' I1 e _ fun H2 x2 I2 => k H2 (x1.trans x2) I2
    | false => cases e; exact ha N B ι σ H ρ false ρ' I e1 _ fun H1 x1 I1 => by rw [if_neg Bool.false_ne_true]; exact k H1 x1 I1
theorem st_or (ha : ST K tA gA) (hb : ST K tB' gB) : ST K (tOr tA tB') (fOrT gA gB) := by
  intro N B ι σ H ρ b ρ' I e Q k
  unfold fOrT at e
  cases e1 : gA ρ with
  | none => rw [e1] at e; cases e
  | some q =>
    obtain ⟨c, ρ1⟩ := q
    rw [e1] at e
    cases c with
    | true => cases e; exact ha N B ι σ H ρ true ρ' I e1 _ fun H1 x1 I1 => by rw [if_pos rfl]; exact k H1 x1 I1
    | false => exact ha N B ι σ H ρ false ρ1 I e1 _ fun H1 x1 I1 => by rw [if_neg Bool.false_ne_true]; exact hb N B ι σ H1 ρ1 b ρ' I1 e _ fun H2 x2 I2 => k H2 (x1.trans x2) I2
/-- the same as values -/
def fAnd (fa fb : FE) : FE := fun ρ => match fB fa ρ with
  | some (true, ρ1) => fb ρ1
  | some (false, ρ1) => some (.val (.bl false), ρ1)
  | none => none
def fOr (fa fb : FE) : FE := fun ρ => match fB fa ρ with
  | some (true, ρ1) => some (.val (.bl true), ρ1)
  | some (false, ρ1) => fb ρ1
  | none => none
def fNot (fa : FE) : FE := fun ρ => match fB fa ρ with
  | some (b, ρ1) => some (.val (.bl (!b)), ρ1)
  | none => none
def fIfE (g : FT) (fa fb : FE) : FE := fun ρ => match g ρ with
  | some (true, ρ1) => fa ρ1
  | some (false, ρ1) => fb ρ1
  | none => none
theorem EQ.back {x : Ext σ ρ H0 σ ρ1 H} (q : EQ K N B ι σ H ρ' v H' r) : EQ K N B ι σ H0 ρ' v H' r := by
  cases r with
  | val d => exact q
  | new d => obtain ⟨p, e, h, q⟩ := q; exact ⟨p, e, x.live p h, q⟩
  | slot i => exact q
theorem se_and (ha : SE K ta fa) (hb : SE K tb fb) : SE K (tAndV ta tb) (fAnd fa fb) := by
  intro N B ι σ H ρ r ρ' I e Q k
  unfold fAnd at e
  cases e1 : fB fa ρ with
  | none => rw [e1] at e; cases e
  | some q =>
    obtain ⟨c, ρ1⟩ := q
    rw [e1] at e
    obtain ⟨r1, e2, e3⟩ := fB_eq e1
    refine ha.use I e2 fun v H1 x1 I1 q1 => ?_
    have q := q1.top I1 e3
    cases (show Rep K _ H1 v (.bl c) from q)
    refine ⟨c, rfl, ?_⟩
    cases c with
    | true => rw [if_pos rfl]; exact hb N B ι σ H1 ρ1 r ρ' I1 e _ fun v2 H2 x2 q2 => k v2 H2 (x1.trans x2) (q2.back (x := x1))
    | false => cases e; rw [if_neg Bool.false_ne_true]; exact k _ H1 x1 ⟨I1, .bl⟩
theorem se_or (ha : SE K ta fa) (hb : SE K tb fb) : SE K (tOrV ta tb) (fOr fa fb) := by
  intro N B ι σ H ρ r ρ' I e Q k
  unfold fOr at e
  cases e1 : fB fa ρ with
  | none => rw [e1] at e; cases e
  | some q =>
    obtain ⟨c, ρ1⟩ := q
    rw [e1] at e
    obtain ⟨r1, e2, e3⟩ := fB_eq e1
    refine ha.use I e2 fun v H1 x1 I1 q1 => ?_
    have q := q1.top I1 e3
    cases (show Rep K _ H1 v (.bl c) from q)
    refine ⟨c, rfl, ?_⟩
    cases c with
    | true => cases e; rw [if_pos rfl]; exact k _ H1 x1 ⟨I1, .bl⟩
    | false => rw [if_neg Bool.false_ne_true]; exact hb N B ι σ H1 ρ1 r ρ' I1 e _ fun v2 H2 x2 q2 => k v2 H2 (x1.trans x2) (q2.back (x := x1))
theorem se_not (ha : SE K ta fa) : SE K (tNotV ta) (fNot fa) := by
  intro N B ι σ H ρ r ρ' I e Q k
  unfold fNot at e
  cases e1 : fB fa ρ with
  | none => rw [e1] at e; cases e
  | some q =>
    obtain ⟨c, ρ1⟩ := q
    rw [e1] at e
    cases e
    obtain ⟨r1, e2, e3⟩ := fB_eq e1
    refine ha.use I e2 fun v H1 x1 I1 q1 => ?_
    have q := q1.top I1 e3
    cases (show Rep K _ H1 v (.bl c) from q)
    exact ⟨c, rfl, k _ H1 x1 ⟨I1, .bl⟩⟩
theorem se_if (hc : ST K tA gA) (ha : SE K ta fa) (hb : SE K tb fb) : SE K (tIf tA ta tb) (fIfE gA fa fb) := by
  intro N B ι σ H ρ r ρ' I e Q k
  unfold fIfE at e
  cases e1 : gA ρ with
  | none => rw [e1] at e; cases e
  | some q =>
    obtain ⟨c, ρ1⟩ := q
    rw [e1] at e
    refine hc N B ι σ H ρ c ρ1 I e1 _ fun H1 x1 I1 => ?_
    cases c with
    | true => rw [if_pos rfl]; exact ha N B ι σ H1 ρ1 r ρ' I1 e _ fun v2 H2 x2 q2 => k v2 H2 (x1.trans x2) (q2.back (x := x1))
    | false => rw [if_neg Bool.false_ne_true]; exact hb N B ι σ H1 ρ1 r ρ' I1 e _ fun v2 H2 x2 q2 => k v2 H2 (x1.trans x2) (q2.back (x := x1))
/-- a < b < c -/
def fChain (g h : D → D → Option R) (fa fb fc : FE) : FE := fun ρ => match fa ρ with
  | some (r1, ρ1) => (match fb ρ1 with
    | some (r2, ρ2) => (match cont ρ2 r1, cont ρ2 r2 with
      | some d, some e => (match g d e with
        | some (.val (.bl true)) => f2 h (fun ρ => some (r2, ρ)) fc ρ2
        | some (.val (.bl false)) => some (.val (.bl false), ρ2)
        | _ => none)
      | _, _ => none)
    | none => none)
  | none => none
theorem se_chain {r1 r2 : R2} {g h : D → D → Option R} (u1 : U2 K r1 g) (u2 : U2 K r2 h) (ha : SE K ta fa) (hb : SE K tb fb) (hc : SE K tc fc) : SE K (tChain r1 r2 ta tb tc) (fChain g h fa fb fc) := by
  intro N B ι σ H ρ r ρ' I e Q k
  unfold fChain at e
  cases e1 : fa ρ with
  | none => rw [e1] at e; cases e
  | some q =>
    obtain ⟨q1, ρ1⟩ := q
    simp only [e1] at e
    cases e2 : fb ρ1 with
    | none => simp only [e2] at e; cases e
    | some q =>
      obtain ⟨q2, ρ2⟩ := q
      simp only [e2] at e
      cases c1 : cont ρ2 q1 with
      | none => simp only [c1] at e; cases e
      | some d1 =>
        cases c2 : cont ρ2 q2 with
        | none => simp only [c1, c2] at e; cases e
        | some d2 =>
          simp only [c1, c2] at e
          refine ha.use I e1 fun v H1 x1 I1 z1 => ?_
          refine hb.use I1 e2 fun w H2 x2 I2 z2 => ?_
          cases e3 : g d1 d2 with
          | none => simp only [e3] at e; cases e
          | some x =>
            simp only [e3] at e
            refine u1 (Fbd N σ ρ2) H2 v w d1 d2 x (fun a z => I2.live z) ((z1.ext x2).top I2 c1) (z2.top I2 c2) e3 _ fun v3 H3 s3 y3 => ?_
            split at e
            · rename_i ee
              cases ee
              cases (show Rep K _ H3 v3 (.bl true) from y3)
              refine ⟨true, rfl, ?_⟩
              rw [if_pos rfl]
              obtain ⟨r1', ρ1', r2', d', e', g1, g2, g3, g4, g5⟩ := f2_eq e
              cases g1
              refine hc.use (I2.same s3) g2 fun w4 H4 x4 I4 z4 => ?_
              have xx := ((x1.trans x2).trans (.same s3)).trans x4
              exact u2 (Fbd N σ ρ') H4 w w4 d' e' r (fun a z => I4.live z) ((((z2.ext (Ext.same s3)).ext x4)).top I4 g3) (z4.top I4 g4) g5 _ fun v5 H5 s5 y5 => k v5 H5 (xx.trans (.same s5)) (y5.eq I4 s5 xx)
            · rename_i ee
              cases ee
              cases e
              cases (show Rep K _ H3 v3 (.bl false) from y3)
              refine ⟨false, rfl, ?_⟩
              rw [if_neg Bool.false_ne_true]
              exact k _ H3 ((x1.trans x2).trans (.same s3)) ⟨I2.same s3, .bl⟩
            · cases e

inductive Out where
  | nx (ρ : Env') | rt (r : R) (ρ : Env') | bk (ρ : Env') | ct (ρ : Env')
abbrev FS := Env' → Option Out
def EO (K : PySem.W.Frag) (N : Addr → Prop) (B : Hp) (ι σ : St) (H : Hp) (ρ : Env') (D : Ends) : Out → Prop
  | .nx ρ' => ∀ σ' H', Ext σ ρ H σ' ρ' H' → Rel K N B ι σ' H' ρ' → D.nx σ' H'
  | .rt r ρ' => ∀ v σ' H', Ext σ ρ H σ' ρ' H' → EQ K N B ι σ' B ρ' v H' r → D.rt v H'
  | .bk ρ' => ∀ σ' H', Ext σ ρ H σ' ρ' H' → Rel K N B ι σ' H' ρ' → D.bk σ' H'
  | .ct ρ' => ∀ σ' H', Ext σ ρ H σ' ρ' H' → Rel K N B ι σ' H' ρ' → D.ct σ' H'
def SS (K : PySem.W.Frag) (t : TS) (f : FS) : Prop := ∀ N B ι σ H ρ o, Rel K N B ι σ H ρ → f ρ = some o → ∀ D : Ends, EO K N B ι σ H ρ D o → t D σ H
theorem EQ.back' (x : ∀ a, H a = none → H0 a = none) (q : EQ K N B ι σ H ρ' v H' r) : EQ K N B ι σ H0 ρ' v H' r := by
  cases r with
  | val d => exact q
  | new d => obtain ⟨p, e, h, q⟩ := q; exact ⟨p, e, x p h, q⟩
  | slot i => exact q
theorem EO.back {D : Ends} {o : Out} (x : Ext σ ρ H σ' ρ' H') (h : EO K N B ι σ H ρ D o) : EO K N B ι σ' H' ρ' D o := by
  cases o with
  | nx ρ2 => exact fun σ2 H2 y I => h σ2 H2 (x.trans y) I
  | rt r ρ2 => exact fun v σ2 H2 y q => h v σ2 H2 (x.trans y) q
  | bk ρ2 => exact fun σ2 H2 y I => h σ2 H2 (x.trans y) I
  | ct ρ2 => exact fun σ2 H2 y I => h σ2 H2 (x.trans y) I
def sNext : FS := fun ρ => some (.nx ρ)
theorem ss_next : SS K tNext sNext := by
  intro N B ι σ H ρ o I e D k
  cases e
  exact k σ H .refl I
def sBreak : FS := fun ρ => some (.bk ρ)
def sCont : FS := fun ρ => some (.ct ρ)
theorem ss_break : SS K tBreak sBreak := by
  intro N B ι σ H ρ o I e D k
  cases e
  exact k σ H .refl I
theorem ss_cont : SS K tCont sCont := by
  intro N B ι σ H ρ o I e D k
  cases e
  exact k σ H .refl I
def sNever : FS := fun _ => none
theorem ss_never : SS K tNever sNever := fun _ _ _ _ _ _ _ _ e => nomatch e
def sSeq (g h : FS) : FS := fun ρ => match g ρ with
  | some (.nx ρ1) => h ρ1
  | some o => some o
  | none => none
theorem ss_seq {t u : TS} {g h : FS} (h1 : SS K t g) (h2 : SS K u h) : SS K (tSeq t u) (sSeq g h) := by
  intro N B ι σ H ρ o I e D k
  unfold sSeq at e
  cases e1 : g ρ with
  | none => rw [e1] at e; cases e
  | some q =>
    rw [e1] at e
    refine h1 N B ι σ H ρ q I e1 _ ?_
    cases q with
    | nx ρ1 => exact fun σ1 H1 x1 I1 => h2 N B ι σ1 H1 ρ1 o I1 e D (k.back x1)
    | rt r ρ1 => cases e; exact k
    | bk ρ1 => cases e; exact k
    | ct ρ1 => cases e; exact k
def sIf (c : FT) (g h : FS) : FS := fun ρ => match c ρ with
  | some (true, ρ1) => g ρ1
  | some (false, ρ1) => h ρ1
  | none => none
theorem ss_if {t u : TS} {g h : FS} (hc : ST K tA gA) (h1 : SS K t g) (h2 : SS K u h) : SS K (tIfS tA t u) (sIf gA g h) := by
  intro N B ι σ H ρ o I e D k
  unfold sIf at e
  cases e1 : gA ρ with
  | none => rw [e1] at e; cases e
  | some q =>
    obtain ⟨c, ρ1⟩ := q
    rw [e1] at e
    refine hc N B ι σ H ρ c ρ1 I e1 _ fun H1 x1 I1 => ?_
    cases c with
    | true => rw [if_pos rfl]; exact h1 N B ι σ H1 ρ1 o I1 e D (k.back x1)
    | false => rw [if_neg Bool.false_ne_true]; exact h2 N B ι σ H1 ρ1 o I1 e D (k.back x1)
def sDrop (fe : FE) : FS := fun ρ => match fe ρ with
  | some (_, ρ1) => some (.nx ρ1)
  | none => none
theorem ss_expr (h : SE K ta fa) : SS K (tDrop ta) (sDrop fa) := by
  intro N B ι σ H ρ o I e D k
  unfold sDrop at e
  cases e1 : fa ρ with
  | none => rw [e1] at e; cases e
  | some q =>
    obtain ⟨r, ρ1⟩ := q
    rw [e1] at e
    cases e
    exact h.use I e1 fun v H1 x1 I1 q1 => k σ H1 x1 I1

/-- the slot i is given another word (its own thing, if it had one of this def's own, is forgotten) -/
theorem Rel.putOff (I : Rel K N B ι σ H ρ) {i : Nat} {s : S} {u : Option V} (hio : ∀ d, ρ[i]? ≠ some (.own true d)) (hs : ∀ b d, s ≠ .own b d)
    (hu : ∀ d, s = .val d → ∃ v, u = some v ∧ Rep K (Fbd N σ ρ) H v d) (hb : ∀ d, s ≠ .bor d) :
    Rel K N B ι (σ.set i u) H (ρ.set i s) ∧ Ext σ ρ H (σ.set i u) (ρ.set i s) H := by
  have hown : ∀ a, Own (σ.set i u) (ρ.set i s) a → Own σ ρ a := fun a ⟨j, b, d', h1, h2⟩ => by
    rcases getElem?_set_cases h1 with ⟨_, z, _⟩ | ⟨hj, h1⟩
    · exact absurd z.symm (hs b d')
    · rw [List.getElem?_set_ne (Ne.symm hj)] at h2
      exact ⟨j, b, d', h1, h2⟩
  have hf : ∀ a, Fbd N (σ.set i u) (ρ.set i s) a → Fbd N σ ρ a := fun a z => z.imp id (hown a)
  refine ⟨⟨by simpa using I.len, fun j d' h => ?_, fun j d' h => ?_, fun j b d' h => ?_, fun j k p b d1 b' d2 h1 h2 h3 h4 => ?_, fun a o h => ?_, I.nH⟩, fun a o n h => ⟨h, fun z => n (hown a z)⟩, fun _ h => h⟩
  · rcases getElem?_set_cases h with ⟨rfl, z, hl⟩ | ⟨hj, h⟩
    · obtain ⟨v, e, q⟩ := hu d' z.symm
      subst e
      exact ⟨v, List.getElem?_set_self (by rw [← I.len]; exact hl), q.tr (.less hf)⟩
    · obtain ⟨v, h1, h2⟩ := I.val j d' h
      exact ⟨v, by rw [List.getElem?_set_ne (Ne.symm hj)]; exact h1, h2.tr (.less hf)⟩
  · rcases getElem?_set_cases h with ⟨_, z, _⟩ | ⟨hj, h⟩
    · exact absurd z.symm (hb d')
    · obtain ⟨v, h1, h2⟩ := I.bor j d' h
      exact ⟨v, by rw [List.getElem?_set_ne (Ne.symm hj)]; exact h1, h2.tr (.less hf) (fun a _ z => hown a z) fun _ _ _ q => q⟩
  · rcases getElem?_set_cases h with ⟨_, z, _⟩ | ⟨hj, h⟩
    · exact absurd z.symm (hs b d')
    · obtain ⟨v, h1, h2, h3⟩ := I.own j b d' h
      exact ⟨v, by rw [List.getElem?_set_ne (Ne.symm hj)]; exact h1, OwnR.tr h2 (.less hf) fun _ q => q, h3⟩
  · rcases getElem?_set_cases h1 with ⟨_, z, _⟩ | ⟨hj, h1⟩
    · exact absurd z.symm (hs _ _)
    · rcases getElem?_set_cases h2 with ⟨_, z, _⟩ | ⟨hk, h2⟩
      · exact absurd z.symm (hs _ _)
      · rw [List.getElem?_set_ne (Ne.symm hj)] at h3
        rw [List.getElem?_set_ne (Ne.symm hk)] at h4
        exact I.uniq j k p _ _ _ _ h1 h2 h3 h4
  · rcases I.base a o h with q | ⟨j, b, d', h1, h2⟩
    · exact .inl q
    · by_cases hj : j = i
      · subst hj
        cases b with
        | true => exact absurd h1 (hio d')
        | false =>
          obtain ⟨p, g1, g2, g3, g4, _⟩ := I.own j _ _ h1
          rw [h2] at g1; cases g1
          rw [g4 rfl] at h; cases h
      · exact .inr ⟨j, b, d', by rw [List.getElem?_set_ne (Ne.symm hj)]; exact h1, by rw [List.getElem?_set_ne (Ne.symm hj)]; exact h2⟩
/-- .. a new own thing -/
theorem Rel.putOwn (I : Rel K (fun a => N a ∨ a = p) B ι σ H ρ) {i : Nat} (hio : ∀ d, ρ[i]? ≠ some (.own true d)) (hN : ¬ N p) (hB : B p = none) (ho : OwnR K (Fbd (fun a => N a ∨ a = p) σ ρ) H p d) (h0 : H0 p = none) (x : Ext σ ρ1 H0 σ ρ H) :
    Rel K N B ι (σ.set i (some (.ref p))) H (ρ.set i (.own false d)) ∧ Ext σ ρ1 H0 (σ.set i (some (.ref p))) (ρ.set i (.own false d)) H := by
  have hpo : ¬ Own σ ρ p := fun z => I.notN z (.inr rfl)
  have hown : ∀ a, Own (σ.set i (some (.ref p))) (ρ.set i (.own false d)) a → Own σ ρ a ∨ a = p := fun a ⟨j, b, d', h1, h2⟩ => by
    rcases getElem?_set_cases h1 with ⟨hj, z, hl⟩ | ⟨hj, h1⟩
    · subst hj
      rw [List.getElem?_set_self (by rw [← I.len]; exact hl)] at h2
      cases h2; exact .inr rfl
    · rw [List.getElem?_set_ne (Ne.symm hj)] at h2
      exact .inl ⟨j, b, d', h1, h2⟩
  have hf : ∀ a, Fbd N (σ.set i (some (.ref p))) (ρ.set i (.own false d)) a → Fbd (fun a => N a ∨ a = p) σ ρ a := fun a z => z.elim (fun z => .inl (.inl z)) fun z => (hown a z).elim .inr fun z => .inl (.inr z)
  refine ⟨⟨by simpa using I.len, fun j d' h => ?_, fun j d' h => ?_, fun j b d' h => ?_, fun j k q b d1 b' d2 h1 h2 h3 h4 => ?_, fun a o h => ?_, fun a h => I.nH a (.inl h)⟩, fun a o n h => ⟨(x.keep a o n h).1, fun z => ?_⟩, x.live⟩
  · rcases getElem?_set_cases h with ⟨_, z, _⟩ | ⟨hj, h⟩
    · cases z
    · obtain ⟨v, h1, h2⟩ := I.val j d' h
      exact ⟨v, by rw [List.getElem?_set_ne (Ne.symm hj)]; exact h1, h2.tr (.less hf)⟩
  · rcases getElem?_set_cases h with ⟨_, z, _⟩ | ⟨hj, h⟩
    · cases z
    · obtain ⟨v, h1, h2⟩ := I.bor j d' h
      refine ⟨v, by rw [List.getElem?_set_ne (Ne.symm hj)]; exact h1, h2.tr (.less hf) (fun a b z => ?_) fun _ _ _ q => q⟩
      rcases hown a z with z | z
      · exact z
      · subst z; exact absurd hB b
  · rcases getElem?_set_cases h with ⟨rfl, z, hl⟩ | ⟨hj, h⟩
    · cases z
      exact ⟨p, List.getElem?_set_self (by rw [← I.len]; exact hl), OwnR.tr ho (.less hf) fun _ q => q, hN, fun _ => hB, fun z => nomatch z⟩
    · obtain ⟨v, h1, h2, h3, h4⟩ := I.own j b d' h
      exact ⟨v, by rw [List.getElem?_set_ne (Ne.symm hj)]; exact h1, OwnR.tr h2 (.less hf) fun _ q => q, fun z => h3 (.inl z), h4⟩
  · rcases getElem?_set_cases h1 with ⟨ej, z1, hl⟩ | ⟨hj, h1⟩ <;> rcases getElem?_set_cases h2 with ⟨ek, z2, hl'⟩ | ⟨hk, h2⟩
    · rw [ej, ek]
    · rw [ej, List.getElem?_set_self (by rw [← I.len]; exact hl)] at h3
      rw [List.getElem?_set_ne (Ne.symm hk)] at h4
      cases h3
      exact absurd ⟨k, _, _, h2, h4⟩ hpo
    · rw [ek, List.getElem?_set_self (by rw [← I.len]; exact hl')] at h4
      rw [List.getElem?_set_ne (Ne.symm hj)] at h3
      cases h4
      exact absurd ⟨j, _, _, h1, h3⟩ hpo
    · rw [List.getElem?_set_ne (Ne.symm hj)] at h3
      rw [List.getElem?_set_ne (Ne.symm hk)] at h4
      exact I.uniq j k q _ _ _ _ h1 h2 h3 h4
  · rcases I.base a o h with q | ⟨j, b, d', h1, h2⟩
    · exact .inl q
    · by_cases hj : j = i
      · subst hj
        cases b with
        | true => exact absurd h1 (hio d')
        | false =>
          obtain ⟨p', g1, g2, g3, g4, _⟩ := I.own j _ _ h1
          rw [h2] at g1; cases g1
          rw [g4 rfl] at h; cases h
      · exact .inr ⟨j, b, d', by rw [List.getElem?_set_ne (Ne.symm hj)]; exact h1, by rw [List.getElem?_set_ne (Ne.symm hj)]; exact h2⟩
  · rcases hown a z with z | z
    · exact (x.keep a o n h).2 z
    · subst z; rw [h0] at h; cases h
end
end DL
set_option maxRecDepth 100000
set_option maxHeartbeats 4000000
namespace DL
open PySem PySem.Spec L2
section
variable {K : PySem.W.Frag} {Fb Fb' N N' : Addr → Prop} {H H0 H' B : Hp} {v : V} {d d' : D} {p : Addr} {σ ι σ' : St} {ρ ρ' ρ1 : Env'} {r : R} {t ta tb tc : TE} {f fa fb fc : FE} {tA tB' : TT} {gA gB : FT}
/-- not the caller's own -/
def isIo : Option S → Bool
  | some (.own true _) => true
  | none => true
  | _ => false
theorem notIo {ρ : Env'} {i : Nat} (h : isIo ρ[i]? = false) : ∀ d, ρ[i]? ≠ some (.own true d) := fun d e => by rw [e] at h; cases h
def putV (ρ : Env') (i : Nat) (d : D) : Option Env' := if isIo ρ[i]? then none else some (ρ.set i (.val d))
def putR (ρ : Env') (i : Nat) : R → Option Env'
  | .val d => putV ρ i d
  | .new d => if isIo ρ[i]? then none else some (ρ.set i (.own false d))
  | .slot j => match frz ρ (.slot j) with
    | some (d, ρ2) => putV ρ2 i d
    | none => none
theorem putV_ok {i : Nat} (I : Rel K N B ι σ H ρ) (q : Rep K (Fbd N σ ρ) H v d) (e : putV ρ i d = some ρ') : Rel K N B ι (σ.set i (some v)) H ρ' ∧ Ext σ ρ H (σ.set i (some v)) ρ' H := by
  unfold putV at e
  cases h : isIo ρ[i]? with
  | true => rw [h] at e; cases e
  | false =>
    rw [h] at e
    cases e
    exact I.putOff (notIo h) (fun _ _ z => nomatch z) (fun d' z => by cases z; exact ⟨v, rfl, q⟩) (fun _ z => nomatch z)
theorem putR_ok {i : Nat} (x : Ext σ ρ1 H0 σ ρ H) (I0 : Rel K N B ι σ H0 ρ1) (q : EQ K N B ι σ H0 ρ v H r) (e : putR ρ i r = some ρ') : Rel K N B ι (σ.set i (some v)) H ρ' ∧ Ext σ ρ1 H0 (σ.set i (some v)) ρ' H := by
  cases r with
  | val d =>
    obtain ⟨I1, x1⟩ := putV_ok q.1 q.2 e
    exact ⟨I1, x.trans x1⟩
  | new d =>
    obtain ⟨p, rfl, h0, hN, I, o⟩ := q
    have e : (if isIo ρ[i]? then none else some (ρ.set i (.own false d))) = some ρ' := e
    cases h : isIo ρ[i]? with
    | true => rw [h] at e; cases e
    | false =>
      rw [h] at e
      cases e
      exact I.putOwn (notIo h) hN (I0.noB h0) o h0 x
  | slot j =>
    obtain ⟨I, h⟩ := q
    have e : (match frz ρ (.slot j) with
      | some (d, ρ2) => putV ρ2 i d
      | none => none) = some ρ' := e
    cases h2 : frz ρ (.slot j) with
    | none => rw [h2] at e; cases e
    | some q2 =>
      obtain ⟨d, ρ2⟩ := q2
      rw [h2] at e
      obtain ⟨I2, r2, x2⟩ := frz_ok (r := .slot j) I h h2
      obtain ⟨I3, x3⟩ := putV_ok I2 r2 e
      exact ⟨I3, (x.trans x2).trans x3⟩
/-- name = e -/
def sSet (i : Nat) (fa : FE) : FS := fun ρ => match fa ρ with
  | some (r, ρ1) => (match putR ρ1 i r with
    | some ρ2 => some (.nx ρ2)
    | none => none)
  | none => none
theorem ss_set {i : Nat} (ha : SE K ta fa) : SS K (tAsg ta (gName i)) (sSet i fa) := by
  intro N B ι σ H ρ o I e D k
  unfold sSet at e
  cases e1 : fa ρ with
  | none => rw [e1] at e; cases e
  | some q =>
    obtain ⟨r, ρ1⟩ := q
    simp only [e1] at e
    cases e2 : putR ρ1 i r with
    | none => simp only [e2] at e; cases e
    | some ρ2 =>
      simp only [e2] at e
      cases e
      refine ha N B ι σ H ρ r ρ1 I e1 _ fun v H1 x1 q1 => ?_
      obtain ⟨I2, x2⟩ := putR_ok x1 I q1 e2
      exact k _ H1 x2 I2
/-- return e -/
def retR (ρ : Env') : R → Option Out
  | .val d => some (.rt (.val d) ρ)
  | .new d => some (.rt (.new d) ρ)
  | .slot i => match ρ[i]? with
    | some (.val d) => some (.rt (.val d) ρ)
    | some (.own false d) => some (.rt (.new d) (ρ.set i .unset))
    | _ => none
/-- an own thing leaves -/
theorem Rel.move (I : Rel K N B ι σ H ρ) {i : Nat} (hr : ρ[i]? = some (.own false d)) (hp : σ[i]? = some (some (.ref p))) :
    Rel K (fun a => N a ∨ a = p) B ι σ H (ρ.set i .unset) ∧ Ext σ ρ H σ (ρ.set i .unset) H ∧ OwnR K (Fbd (fun a => N a ∨ a = p) σ (ρ.set i .unset)) H p d ∧ B p = none ∧ ¬ N p := by
  obtain ⟨p', g1, g2, g3, g4, _⟩ := I.own i _ _ hr
  rw [hp] at g1; cases g1
  have hown : ∀ a, Own σ (ρ.set i .unset) a → Own σ ρ a ∧ a ≠ p := fun a ⟨j, b, d', h1, h2⟩ => by
    rcases getElem?_set_cases h1 with ⟨_, z, _⟩ | ⟨hj, h1⟩
    · cases z
    · refine ⟨⟨j, b, d', h1, h2⟩, fun z => ?_⟩
      subst z
      exact hj (I.uniq j i a _ _ _ _ h1 hr h2 hp)
  have hf : ∀ a, Fbd (fun a => N a ∨ a = p) σ (ρ.set i .unset) a → Fbd N σ ρ a := fun a z => z.elim (fun z => z.elim .inl fun z => z ▸ .inr ⟨i, _, _, hr, hp⟩) fun z => .inr (hown a z).1
  refine ⟨⟨by simpa using I.len, fun j d' h => ?_, fun j d' h => ?_, fun j b d' h => ?_, fun j k q b d1 b' d2 h1 h2 h3 h4 => ?_, fun a o h => ?_, fun a h => h.elim (I.nH a) fun e => e ▸ OwnR.live g2⟩, ⟨fun a o n h => ⟨h, fun z => n (hown a z).1⟩, fun _ h => h⟩, OwnR.tr g2 (.less hf) fun _ q => q, g4 rfl, g3⟩
  · rcases getElem?_set_cases h with ⟨_, z, _⟩ | ⟨_, h⟩
    · cases z
    · obtain ⟨v, h1, h2⟩ := I.val j d' h
      exact ⟨v, h1, h2.tr (.less hf)⟩
  · rcases getElem?_set_cases h with ⟨_, z, _⟩ | ⟨_, h⟩
    · cases z
    · obtain ⟨v, h1, h2⟩ := I.bor j d' h
      exact ⟨v, h1, h2.tr (.less hf) (fun a _ z => (hown a z).1) fun _ _ _ q => q⟩
  · rcases getElem?_set_cases h with ⟨_, z, _⟩ | ⟨hj, h⟩
    · cases z
    · obtain ⟨v, h1, h2, h3, h4⟩ := I.own j b d' h
      refine ⟨v, h1, OwnR.tr h2 (.less hf) fun _ q => q, fun z => z.elim h3 fun z => ?_, h4⟩
      subst z
      exact hj (I.uniq j i v _ _ _ _ h hr h1 hp)
  · rcases getElem?_set_cases h1 with ⟨_, z, _⟩ | ⟨_, h1⟩
    · cases z
    · rcases getElem?_set_cases h2 with ⟨_, z, _⟩ | ⟨_, h2⟩
      · cases z
      · exact I.uniq j k q _ _ _ _ h1 h2 h3 h4
  · rcases I.base a o h with q | ⟨j, b, d', h1, h2⟩
    · exact .inl q
    · by_cases hj : j = i
      · subst hj
        rw [hr] at h1; cases h1
        rw [hp] at h2; cases h2
        rw [g4 rfl] at h; cases h
      · exact .inr ⟨j, b, d', by rw [List.getElem?_set_ne (Ne.symm hj)]; exact h1, h2⟩
def sRet (fa : FE) : FS := fun ρ => match fa ρ with
  | some (r, ρ1) => retR ρ1 r
  | none => none
theorem ss_ret (ha : SE K ta fa) : SS K (tRet ta) (sRet fa) := by
  intro N B ι σ H ρ o I e D k
  unfold sRet at e
  cases e1 : fa ρ with
  | none => rw [e1] at e; cases e
  | some q =>
    obtain ⟨r, ρ1⟩ := q
    simp only [e1] at e
    refine ha N B ι σ H ρ r ρ1 I e1 _ fun v H1 x1 q1 => ?_
    cases r with
    | val d => cases e; exact k v σ H1 x1 q1
    | new d => cases e; exact k v σ H1 x1 (q1.back' fun a h => I.noB h)
    | slot i =>
      have e : (match ρ1[i]? with
        | some (.val d) => some (Out.rt (.val d) ρ1)
        | some (.own false d) => some (Out.rt (.new d) (ρ1.set i .unset))
        | _ => none) = some o := e
      obtain ⟨I1, hv⟩ := q1
      cases c : ρ1[i]? with
      | none => rw [c] at e; cases e
      | some s =>
        rw [c] at e
        cases s with
        | unset => cases e
        | bor d => cases e
        | val d =>
          cases e
          obtain ⟨v', h1, h2⟩ := I1.val i d c
          rw [hv] at h1; cases h1
          exact k v σ H1 x1 ⟨I1, h2⟩
        | own b d =>
          cases b with
          | true => cases e
          | false =>
            cases e
            obtain ⟨p, h1, _⟩ := I1.own i _ _ c
            rw [hv] at h1; cases h1
            obtain ⟨I2, x2, o2, b2, n2⟩ := I1.move c hv
            exact k _ σ H1 (x1.trans x2) ⟨p, rfl, b2, n2, I2, o2⟩
def sRetN : FS := fun ρ => some (.rt (.val .non) ρ)
theorem ss_retN : SS K tRetN sRetN := by
  intro N B ι σ H ρ o I e D k
  cases e
  exact k .non σ H .refl ⟨I, .non⟩

theorem Rel.write (I : Rel K N B ι σ H ρ) {i : Nat} {b : Bool} (hr : ρ[i]? = some (.own b d)) (hp : σ[i]? = some (some (.ref p))) (hk : ∀ a o, a ≠ p → H a = some o → H' a = some o) (hl : ∀ a, H' a = none → H a = none)
    (new : OwnR K (Fbd N σ ρ) H' p d') : Rel K N B ι σ H' (ρ.set i (.own b d')) ∧ Ext σ ρ H σ (ρ.set i (.own b d')) H' := by
  obtain ⟨p', g1, g2, g3, g4, g5⟩ := I.own i _ _ hr
  rw [hp] at g1; cases g1
  have hown : ∀ a, Own σ (ρ.set i (.own b d')) a ↔ Own σ ρ a := fun a => by
    constructor
    · rintro ⟨j, b', e', h1, h2⟩
      rcases getElem?_set_cases h1 with ⟨rfl, z, _⟩ | ⟨hj, h1⟩
      · exact ⟨j, _, _, hr, h2⟩
      · exact ⟨j, b', e', h1, h2⟩
    · rintro ⟨j, b', e', h1, h2⟩
      by_cases hj : j = i
      · subst hj
        have hl : j < ρ.length := by
          rcases Nat.lt_or_ge j ρ.length with q | q
          · exact q
          · rw [List.getElem?_eq_none q] at hr; cases hr
        exact ⟨j, _, _, List.getElem?_set_self hl, h2⟩
      · exact ⟨j, b', e', by rw [List.getElem?_set_ne (Ne.symm hj)]; exact h1, h2⟩
  have hf : ∀ a, Fbd N σ (ρ.set i (.own b d')) a → Fbd N σ ρ a := fun a z => z.imp id (hown a).mp
  have pin : Own σ ρ p := ⟨i, _, _, hr, hp⟩
  have tr : TrR (Fbd N σ ρ) H (Fbd N σ (ρ.set i (.own b d'))) H' := fun a u n h => by
    have na : a ≠ p := fun z => n (z ▸ .inr pin)
    refine ⟨h.elim (fun h => .inl (hk _ _ na h)) (fun ⟨o, h⟩ => .inr ⟨o, hk _ _ na h⟩), fun z => n (hf a z)⟩
  refine ⟨⟨by simpa using I.len, fun j e' h => ?_, fun j e' h => ?_, fun j b' e' h => ?_, fun j k q b1 d1 b2 d2 h1 h2 h3 h4 => ?_, fun a o h => ?_, fun a h z => I.nH a h (hl a z)⟩, fun a o n h => ⟨hk a o (fun z => n (z ▸ pin)) h, fun z => n ((hown a).mp z)⟩, hl⟩
  · rcases getElem?_set_cases h with ⟨_, z, _⟩ | ⟨_, h⟩
    · cases z
    · obtain ⟨v, h1, h2⟩ := I.val j e' h
      exact ⟨v, h1, h2.tr tr⟩
  · rcases getElem?_set_cases h with ⟨_, z, _⟩ | ⟨_, h⟩
    · cases z
    · obtain ⟨v, h1, h2⟩ := I.bor j e' h
      exact ⟨v, h1, h2.tr tr (fun a _ z => (hown a).mp z) fun a u n q => (q.elim (fun h => .inl (hk _ _ (fun z => n (z ▸ pin)) h)) (fun ⟨o, h⟩ => .inr ⟨o, hk _ _ (fun z => n (z ▸ pin)) h⟩))⟩
  · rcases getElem?_set_cases h with ⟨rfl, z, _⟩ | ⟨hj, h⟩
    · cases z
      exact ⟨p, hp, OwnR.tr new (.less hf) fun _ q => q, g3, g4, g5⟩
    · obtain ⟨v, h1, h2, h3⟩ := I.own j b' e' h
      refine ⟨v, h1, OwnR.tr h2 tr fun o q => hk _ _ (fun z => ?_) q, h3⟩
      subst z
      exact hj (I.uniq j i v _ _ _ _ h hr h1 hp)
  · obtain ⟨c1, e1⟩ : ∃ c, ρ[j]? = some (.own b1 c) := by
      rcases getElem?_set_cases h1 with ⟨rfl, z, _⟩ | ⟨_, h1⟩
      · cases z; exact ⟨d, hr⟩
      · exact ⟨_, h1⟩
    obtain ⟨c2, e2⟩ : ∃ c, ρ[k]? = some (.own b2 c) := by
      rcases getElem?_set_cases h2 with ⟨rfl, z, _⟩ | ⟨_, h2⟩
      · cases z; exact ⟨d, hr⟩
      · exact ⟨_, h2⟩
    exact I.uniq j k q _ _ _ _ e1 e2 h3 h4
  · rcases I.base a o h with q | q
    · by_cases z : Own σ ρ a
      · exact .inr ((hown a).mpr z)
      · exact .inl (hk a o (fun w => z (w ▸ pin)) q)
    · exact .inr ((hown a).mpr q)
theorem hk_upd {H : Hp} {p : Addr} {o : HO} : ∀ a u, a ≠ p → H a = some u → upd H p o a = some u := fun a u n h => by rw [upd_ne n]; exact h
theorem hl_upd {H : Hp} {p : Addr} {o : HO} : ∀ a, upd H p o a = none → H a = none := fun a h => by
  by_cases e : a = p
  · subst e; rw [upd_same] at h; cases h
  · rw [upd_ne e] at h; exact h
/-- d[k] = e, d in the slot i -/
def sPut (fd fk fv : FE) : FS := fun ρ => match fv ρ with
  | some (rv, ρ1) => (match fd ρ1 with
    | some (.slot i, ρ2) => (match fk ρ2 with
      | some (rk, ρ3) => (match cont ρ3 rk with
        | some (.str x) => (match frz ρ3 rv with
          | some (dv, ρ4) => (match ρ4[i]? with
            | some (.own b (.dct kvs)) => if kvs.length < sizeLine then some (.nx (ρ4.set i (.own b (.dct (dput kvs x dv))))) else none
            | _ => none)
          | none => none)
        | _ => none)
      | none => none)
    | _ => none)
  | none => none
theorem ss_put (hd : SE K ta fa) (hk : SE K tb fb) (hv : SE K tc fc) : SS K (sDPut ta tb tc) (sPut fa fb fc) := by
  intro N B ι σ H ρ o I e D k
  unfold sPut at e
  cases e1 : fc ρ with
  | none => rw [e1] at e; cases e
  | some q =>
    obtain ⟨rv, ρ1⟩ := q
    simp only [e1] at e
    cases e2 : fa ρ1 with
    | none => simp only [e2] at e; cases e
    | some q2 =>
      obtain ⟨rd, ρ2⟩ := q2
      cases rd with
      | val d => simp only [e2] at e; cases e
      | new d => simp only [e2] at e; cases e
      | slot i =>
        simp only [e2] at e
        cases e3 : fb ρ2 with
        | none => simp only [e3] at e; cases e
        | some q3 =>
          obtain ⟨rk, ρ3⟩ := q3
          simp only [e3] at e
          cases e4 : cont ρ3 rk with
          | none => simp only [e4] at e; cases e
          | some dk =>
            cases dk with
            | str x =>
              simp only [e4] at e
              cases e5 : frz ρ3 rv with
              | none => simp only [e5] at e; cases e
              | some q5 =>
                obtain ⟨dv, ρ4⟩ := q5
                simp only [e5] at e
                cases e6 : ρ4[i]? with
                | none => simp only [e6] at e; cases e
                | some s6 =>
                  cases s6 with
                  | own b d6 =>
                    cases d6 with
                    | dct kvs =>
                      simp only [e6] at e
                      split at e
                      · rename_i hl
                        cases e
                        refine hv.use I e1 fun v H1 x1 I1 z1 => ?_
                        refine hd.use I1 e2 fun w H2 x2 I2 z2 => ?_
                        refine hk.use I2 e3 fun y H3 x3 I3 z3 => ?_
                        have yk := z3.top I3 e4
                        cases (show Rep K _ H3 y (.str x) from yk)
                        obtain ⟨I4, rv4, x4⟩ := frz_ok I3 ((z1.ext x2).ext x3) e5
                        obtain ⟨p, g1, g2, _⟩ := I4.own i _ _ e6
                        have z2 : σ[i]? = some (some w) := z2
                        rw [z2] at g1; cases g1
                        obtain ⟨kv, g3, g4⟩ := g2
                        have hlen : kv.length < sizeLine := by rw [g4.length]; exact hl
                        refine ⟨p, _, rfl, DPut.k (k := Sum.inr x) g3 hlen, ?_⟩
                        have pin : Own σ ρ4 p := ⟨i, _, _, e6, z2⟩
                        have hnew : OwnR K (Fbd N σ ρ4) (upd H3 p (.dK (putK kv (Sum.inr x) v))) p (.dct (dput kvs x dv)) := by
                          refine ⟨_, upd_same, ?_⟩
                          have t : TrR (Fbd N σ ρ4) H3 (Fbd N σ ρ4) (upd H3 p (.dK (putK kv (Sum.inr x) v))) := fun a u n h =>
                            have na : a ≠ p := fun z => n (z ▸ .inr pin)
                            ⟨h.elim (fun h => .inl (hk_upd _ _ na h)) (fun ⟨o, h⟩ => .inr ⟨o, hk_upd _ _ na h⟩), n⟩
                          exact (g4.put x rv4).tr t
                        obtain ⟨I5, x5⟩ := I4.write e6 z2 hk_upd hl_upd hnew
                        exact k σ _ ((((x1.trans x2).trans x3).trans x4).trans x5) I5
                      · cases e
                    | _ => simp only [e6] at e; cases e
                  | _ => simp only [e6] at e; cases e
            | _ => simp only [e4] at e; cases e
end
end DL
set_option maxRecDepth 100000
set_option maxHeartbeats 4000000
namespace DL
open PySem PySem.Spec L2
inductive Mode where
  | val | bor | io
/-- the addresses of what is handed in to be changed -/
def ioA : List Mode → List V → List Addr
  | .io :: ms, .ref p :: vs => p :: ioA ms vs
  | _ :: ms, _ :: vs => ioA ms vs
  | _, _ => []
def ArgR (K : PySem.W.Frag) (Fb : Addr → Prop) (IO : List Addr) (H : Hp) : Mode → V → D → Prop
  | .val, v, d => Rep K Fb H v d
  | .bor, v, d => Rep K Fb H v d ∨ ((∃ a, v = .ref a ∧ a ∉ IO ∧ H a ≠ none) ∧ RepT K Fb H v d)
  | .io, v, d => ∃ p, v = .ref p ∧ p ∈ IO ∧ Fb p ∧ OwnR K Fb H p d
inductive Args (K : PySem.W.Frag) (Fb : Addr → Prop) (IO : List Addr) (H : Hp) : List Mode → List V → List D → Prop where
  | nil : Args K Fb IO H [] [] []
  | cons {m v d ms vs ds} : ArgR K Fb IO H m v d → Args K Fb IO H ms vs ds → Args K Fb IO H (m :: ms) (v :: vs) (d :: ds)
inductive Outs (K : PySem.W.Frag) (Fb : Addr → Prop) (H : Hp) : List Addr → List D → Prop where
  | nil : Outs K Fb H [] []
  | cons {p d ps ds} : OwnR K Fb H p d → Outs K Fb H ps ds → Outs K Fb H (p :: ps) (d :: ds)
def PostD (K : PySem.W.Frag) (Fb : Addr → Prop) (H H' : Hp) (IO : List Addr) (outs : List D) (v : V) : R → Prop
  | .val d => Rep K Fb H' v d ∧ Outs K Fb H' IO outs
  | .new d => ∃ p, v = .ref p ∧ H p = none ∧ OwnR K (fun a => Fb a ∨ a = p) H' p d ∧ Outs K (fun a => Fb a ∨ a = p) H' IO outs
  | .slot _ => False
/-- a def's promise: it hands back what g says -/
def spD (K : PySem.W.Frag) (ms : List Mode) (g : List D → Option (R × List D)) : Sp := fun vs H Q _ => ∃ Fb ds r outs, Fresh Fb H ∧ (ioA ms vs).Nodup ∧ Args K Fb (ioA ms vs) H ms vs ds ∧ g ds = some (r, outs) ∧
  ∀ v H', (∀ a o, a ∉ ioA ms vs → H a = some o → H' a = some o) → (∀ a, H' a = none → H a = none) → PostD K Fb H H' (ioA ms vs) outs v r → Q v H'
/-- at the beginning -/
def ent : List Mode → List D → Env'
  | .val :: ms, d :: ds => .val d :: ent ms ds
  | .bor :: ms, d :: ds => .bor d :: ent ms ds
  | .io :: ms, d :: ds => .own true d :: ent ms ds
  | _, _ => []
def outsOf : List Mode → Env' → Option (List D)
  | [], _ => some []
  | .io :: ms, .own true d :: ρ => (match outsOf ms ρ with
    | some ds => some (d :: ds)
    | none => none)
  | .val :: ms, _ :: ρ => outsOf ms ρ
  | .bor :: ms, _ :: ρ => outsOf ms ρ
  | _, _ => none
def isSlot : R → Bool
  | .slot _ => true
  | _ => false
def finD (ms : List Mode) : Option Out → Option (R × List D)
  | some (.nx ρ) => (match outsOf ms ρ with
    | some o => some (.val .non, o)
    | none => none)
  | some (.rt r ρ) => if isSlot r then none else (match outsOf ms ρ with
    | some o => some (r, o)
    | none => none)
  | _ => none
/-- what a def does, n slots in all -/
def runD (ms : List Mode) (n : Nat) (f : FS) (ds : List D) : Option (R × List D) := finD ms (f (ent ms ds ++ List.replicate (n - ms.length) .unset))
section
variable {K : PySem.W.Frag} {Fb Fb' N N' : Addr → Prop} {H H0 H' B : Hp} {v : V} {d d' : D} {p : Addr} {σ ι σ' : St} {ρ ρ' ρ1 : Env'} {r : R} {t ta tb tc : TE} {f fa fb fc : FE} {tA tB' : TT} {gA gB : FT} {IO : List Addr} {ms : List Mode} {vs : List V} {ds : List D}
theorem Args.len (h : Args K Fb IO H ms vs ds) : vs.length = ms.length ∧ ds.length = ms.length := by
  induction h with
  | nil => exact ⟨rfl, rfl⟩
  | cons _ _ ih => exact ⟨congrArg (· + 1) ih.1, congrArg (· + 1) ih.2⟩
theorem ent_len : ∀ {ms : List Mode} {vs : List V} {ds : List D}, Args K Fb IO H ms vs ds → (ent ms ds).length = ms.length
  | _, _, _, .nil => rfl
  | _, _, _, @Args.cons _ _ _ _ m _ _ ms _ _ _ r => by cases m <;> exact congrArg (· + 1) (ent_len r)
/-- slot by slot -/
theorem Args.at : ∀ {ms : List Mode} {vs : List V} {ds : List D} {i : Nat} {s : S}, Args K Fb IO H ms vs ds → (ent ms ds)[i]? = some s → ∃ m v d, ms[i]? = some m ∧ vs[i]? = some v ∧ ArgR K Fb IO H m v d ∧ s = (match m with | .val => S.val d | .bor => S.bor d | .io => S.own true d)
  | _, _, _, i, s, .nil, e => by simp [ent] at e
  | _, _, _, 0, s, @Args.cons _ _ _ _ m v d ms vs ds h r, e => by
    refine ⟨m, v, d, rfl, rfl, h, ?_⟩
    cases m <;> (simp [ent] at e; exact e.symm)
  | _, _, _, i + 1, s, @Args.cons _ _ _ _ m v d ms vs ds h r, e => by
    have e' : (ent ms ds)[i]? = some s := by cases m <;> simpa [ent] using e
    obtain ⟨m', v', d', h1, h2, h3⟩ := r.at e'
    exact ⟨m', v', d', by simpa using h1, by simpa using h2, h3⟩
theorem ioA_mem : ∀ {ms : List Mode} {vs : List V} {p : Addr}, p ∈ ioA ms vs → ∃ i : Nat, ms[i]? = some Mode.io ∧ vs[i]? = some (V.ref p)
  | [], _, p, h => by simp [ioA] at h
  | m :: ms, [], p, h => by cases m <;> simp [ioA] at h
  | m :: ms, v :: vs, p, h => by
    have go : p ∈ ioA ms vs → ∃ i : Nat, (m :: ms)[i]? = some Mode.io ∧ (v :: vs)[i]? = some (.ref p) := fun h => by
      obtain ⟨i, h1, h2⟩ := ioA_mem h
      exact ⟨i + 1, by simpa using h1, by simpa using h2⟩
    cases m with
    | io =>
      cases v with
      | ref q =>
        have h : p ∈ q :: ioA ms vs := h
        rcases List.mem_cons.mp h with rfl | h
        · exact ⟨0, rfl, rfl⟩
        · exact go h
      | _ => exact go h
    | _ => cases v <;> exact go h
theorem ioA_of : ∀ {ms : List Mode} {vs : List V} {i : Nat} {p : Addr}, ms[i]? = some .io → vs[i]? = some (.ref p) → p ∈ ioA ms vs
  | [], _, i, p, h, _ => by simp at h
  | m :: ms, [], i, p, _, h => by simp at h
  | m :: ms, v :: vs, 0, p, h1, h2 => by
    simp at h1 h2
    subst h1 h2
    exact List.mem_cons_self
  | m :: ms, v :: vs, i + 1, p, h1, h2 => by
    have h := ioA_of (ms := ms) (vs := vs) (i := i) (p := p) (by simpa using h1) (by simpa using h2)
    cases m with
    | io => cases v with
            | ref q => exact List.mem_cons_of_mem _ h
            | _ => exact h
    | _ => cases v <;> exact h
theorem ioA_uniq : ∀ {ms : List Mode} {vs : List V} {i j : Nat} {p : Addr}, (ioA ms vs).Nodup → ms[i]? = some .io → vs[i]? = some (.ref p) → ms[j]? = some .io → vs[j]? = some (.ref p) → i = j
  | [], _, i, _, p, _, h, _, _, _ => by simp at h
  | m :: ms, [], i, _, p, _, _, h, _, _ => by simp at h
  | m :: ms, v :: vs, 0, 0, p, _, _, _, _, _ => rfl
  | m :: ms, v :: vs, 0, j + 1, p, hn, h1, h2, h3, h4 => by
    simp at h1 h2
    subst h1 h2
    have hn : (p :: ioA ms vs).Nodup := hn
    exact absurd (ioA_of (by simpa using h3) (by simpa using h4)) (List.nodup_cons.mp hn).1
  | m :: ms, v :: vs, i + 1, 0, p, hn, h1, h2, h3, h4 => by
    simp at h3 h4
    subst h3 h4
    have hn : (p :: ioA ms vs).Nodup := hn
    exact absurd (ioA_of (by simpa using h1) (by simpa using h2)) (List.nodup_cons.mp hn).1
  | m :: ms, v :: vs, i + 1, j + 1, p, hn, h1, h2, h3, h4 => by
    have hn' : (ioA ms vs).Nodup := by
      cases m with
      | io => cases v with
              | ref q => exact (List.nodup_cons.mp (show (q :: ioA ms vs).Nodup from hn)).2
              | _ => exact hn
      | _ => cases v <;> exact hn
    exact congrArg (· + 1) (ioA_uniq hn' (by simpa using h1) (by simpa using h2) (by simpa using h3) (by simpa using h4))
theorem outs_of {IOs : List Addr} (I : Rel K N B ι σ H ρ) (hF : ∀ a, Fb a → Fbd N σ ρ a) : ∀ {ms : List Mode} {vs : List V} {k : Nat} {ρk : Env'} {os : List D}, (∀ i s, ρk[i]? = some s → ρ[k + i]? = some s) → (∀ i v, vs[i]? = some v → ι[k + i]? = some (some v)) → vs.length = ms.length → outsOf ms ρk = some os → Outs K Fb H (ioA ms vs) os
  | [], [], k, ρk, os, _, _, _, e => by cases e; exact .nil
  | [], _ :: _, _, _, _, _, _, hl, _ => by simp at hl
  | _ :: _, [], _, _, _, _, _, hl, _ => by simp at hl
  | m :: ms, v :: vs, k, [], os, h1, h2, hl, e => by cases m <;> cases e
  | m :: ms, v :: vs, k, s :: ρk, os, h1, h2, hl, e => by
    have g1 : ∀ i s, ρk[i]? = some s → ρ[k + 1 + i]? = some s := fun i s' z => by have := h1 (i + 1) s' (by simpa using z); rwa [show k + (i + 1) = k + 1 + i by omega] at this
    have g2 : ∀ i w, vs[i]? = some w → ι[k + 1 + i]? = some (some w) := fun i w z => by have := h2 (i + 1) w (by simpa using z); rwa [show k + (i + 1) = k + 1 + i by omega] at this
    have gl : vs.length = ms.length := by simpa using hl
    have rest : ∀ {os'}, outsOf ms ρk = some os' → Outs K Fb H (ioA ms vs) os' := fun z => outs_of (IOs := IOs) I hF g1 g2 gl z
    cases m with
    | io =>
      cases s with
      | own b d =>
        cases b with
        | false => cases e
        | true =>
          have e : (match outsOf ms ρk with
            | some ds => some (d :: ds)
            | none => none) = some os := e
          cases h : outsOf ms ρk with
          | none => rw [h] at e; cases e
          | some os' =>
            rw [h] at e
            cases e
            obtain ⟨p, q1, q2, _, _, q5⟩ := I.own k true d (h1 0 _ rfl)
            have q6 := q5 rfl
            have q7 := h2 0 v rfl
            rw [show k + 0 = k from rfl] at q7
            rw [q6] at q7
            cases q7
            exact .cons (OwnR.tr q2 (.less hF) fun _ z => z) (rest h)
      | _ => cases e
    | val =>
      have := rest (show outsOf ms ρk = some os from e)
      cases v <;> exact this
    | bor =>
      have := rest (show outsOf ms ρk = some os from e)
      cases v <;> exact this
theorem outsOf_at : ∀ {ms : List Mode} {ρ : Env'} {os : List D} {i : Nat}, outsOf ms ρ = some os → ms[i]? = some .io → ∃ d, ρ[i]? = some (.own true d)
  | [], _, _, i, _, h => by simp at h
  | m :: ms, [], os, i, e, h => by cases m <;> cases e
  | m :: ms, s :: ρ, os, 0, e, h => by
    simp at h
    subst h
    cases s with
    | own b d => cases b with
                 | true => exact ⟨d, rfl⟩
                 | false => cases e
    | _ => cases e
  | m :: ms, s :: ρ, os, i + 1, e, h => by
    have h' : ms[i]? = some .io := by simpa using h
    have : ∃ os', outsOf ms ρ = some os' := by
      cases m with
      | io =>
        cases s with
        | own b d =>
          cases b with
          | true =>
            have e : (match outsOf ms ρ with
              | some ds => some (d :: ds)
              | none => none) = some os := e
            cases h : outsOf ms ρ with
            | none => rw [h] at e; cases e
            | some os' => exact ⟨os', rfl⟩
          | false => cases e
        | _ => cases e
      | val => exact ⟨os, e⟩
      | bor => exact ⟨os, e⟩
    obtain ⟨os', e'⟩ := this
    obtain ⟨d, hd⟩ := outsOf_at e' h'
    exact ⟨d, by simpa using hd⟩

/-- the beginning of a def -/
theorem rel_start {N0 : List Str} (hF : Fresh Fb H) (hn : (ioA ms vs).Nodup) (ha : Args K Fb (ioA ms vs) H ms vs ds) (hl : ms.length ≤ N0.length) :
    Rel K (fun a => Fb a ∧ a ∉ ioA ms vs) H (start N0 vs) (start N0 vs) H (ent ms ds ++ List.replicate (N0.length - ms.length) .unset) ∧
      (∀ a, Own (start N0 vs) (ent ms ds ++ List.replicate (N0.length - ms.length) .unset) a ↔ a ∈ ioA ms vs) := by
  obtain ⟨l1, l2⟩ := ha.len
  have el := ent_len ha
  have get : ∀ {i s}, (ent ms ds ++ List.replicate (N0.length - ms.length) S.unset)[i]? = some s → s ≠ .unset → ∃ m v d, ms[i]? = some m ∧ (start N0 vs)[i]? = some (some v) ∧ vs[i]? = some v ∧ ArgR K Fb (ioA ms vs) H m v d ∧ s = (match m with | .val => S.val d | .bor => S.bor d | .io => S.own true d) := fun {i s} h hs => by
    rcases Nat.lt_or_ge i (ent ms ds).length with hi | hi
    · rw [List.getElem?_append_left hi] at h
      obtain ⟨m, v, d, h1, h2, h3, h4⟩ := ha.at h
      refine ⟨m, v, d, h1, ?_, h2, h3, h4⟩
      unfold L2.start
      rw [List.getElem?_append_left (by rw [List.length_map, l1, ← el]; exact hi), List.getElem?_map, h2]
      rfl
    · rw [List.getElem?_append_right hi, List.getElem?_replicate] at h
      split at h
      · cases h; exact absurd rfl hs
      · cases h
  have ioF : ∀ a, a ∈ ioA ms vs → Fb a := fun a h => by
    obtain ⟨i, h1, h2⟩ := ioA_mem h
    have hi : i < (ent ms ds).length := by
      rw [el]
      rcases Nat.lt_or_ge i ms.length with q | q
      · exact q
      · rw [List.getElem?_eq_none q] at h1; cases h1
    obtain ⟨m, v, d, g1, g2, g3, g4⟩ := ha.at (List.getElem?_eq_getElem hi)
    rw [h1] at g1; cases g1
    rw [h2] at g2; cases g2
    obtain ⟨p, e, _, z, _⟩ := g3
    cases e
    exact z
  have own : ∀ a, Own (start N0 vs) (ent ms ds ++ List.replicate (N0.length - ms.length) .unset) a ↔ a ∈ ioA ms vs := fun a => by
    constructor
    · rintro ⟨i, b, d, h1, h2⟩
      obtain ⟨m, v, d', g1, g2, g3, g4, g5⟩ := get h1 (fun z => nomatch z)
      cases m with
      | io => rw [h2] at g2; cases g2; exact ioA_of g1 g3
      | val => cases g5
      | bor => cases g5
    · intro h
      obtain ⟨i, h1, h2⟩ := ioA_mem h
      have hi : i < (ent ms ds).length := by
        rw [el]
        rcases Nat.lt_or_ge i ms.length with q | q
        · exact q
        · rw [List.getElem?_eq_none q] at h1; cases h1
      obtain ⟨m, v, d, g1, g2, g3, g4⟩ := ha.at (List.getElem?_eq_getElem hi)
      rw [h1] at g1; cases g1
      rw [h2] at g2; cases g2
      refine ⟨i, true, d, ?_, ?_⟩
      · rw [List.getElem?_append_left hi, List.getElem?_eq_getElem hi, g4]
      · unfold L2.start
        rw [List.getElem?_append_left (by rw [List.length_map, l1, ← el]; exact hi), List.getElem?_map, h2]
        rfl
  refine ⟨?_, own⟩
  have hf : ∀ a, Fbd (fun a => Fb a ∧ a ∉ ioA ms vs) (start N0 vs) (ent ms ds ++ List.replicate (N0.length - ms.length) .unset) a → Fb a := fun a z => z.elim (fun z => z.1) fun z => ioF a ((own a).mp z)
  refine ⟨?_, fun i d h => ?_, fun i d h => ?_, fun i b d h => ?_, fun i j p b d b' d' h1 h2 h3 h4 => ?_, fun a o h => .inl h, fun a h => hF a h.1⟩
  · unfold L2.start
    simp only [List.length_append, List.length_map, List.length_replicate, el, l1]
  · obtain ⟨m, v, d', g1, g2, g3, g4, g5⟩ := get h (fun z => nomatch z)
    cases m with
    | val => cases g5; exact ⟨v, g2, Rep.tr (.less hf) g4⟩
    | bor => cases g5
    | io => cases g5
  · obtain ⟨m, v, d', g1, g2, g3, g4, g5⟩ := get h (fun z => nomatch z)
    cases m with
    | bor =>
      cases g5
      refine ⟨v, g2, ?_⟩
      rcases g4 with g4 | ⟨⟨a, e, n, b⟩, g4⟩
      · exact .inl (g4.tr (.less hf))
      · exact .inr ⟨⟨a, e, fun z => n ((own a).mp z), b⟩, g4.tr (.less hf) fun _ _ _ q => q⟩
    | val => cases g5
    | io => cases g5
  · obtain ⟨m, v, d', g1, g2, g3, g4, g5⟩ := get h (fun z => nomatch z)
    cases m with
    | io =>
      cases g5
      obtain ⟨p, e, hp, _, o⟩ := g4
      subst e
      exact ⟨p, g2, OwnR.tr o (.less hf) fun _ q => q, fun z => z.2 hp, ⟨fun z => (nomatch z), fun _ => g2⟩⟩
    | val => cases g5
    | bor => cases g5
  · obtain ⟨m, v, e1, g1, g2, g3, g4, g5⟩ := get h1 (fun z => nomatch z)
    obtain ⟨m', v', e2, k1, k2, k3, k4, k5⟩ := get h2 (fun z => nomatch z)
    rw [h3] at g2; cases g2
    rw [h4] at k2; cases k2
    cases m with
    | io =>
      cases m' with
      | io => exact ioA_uniq hn g1 g3 k1 k3
      | val => cases k5
      | bor => cases k5
    | val => cases g5
    | bor => cases g5
/-- a body that is read as its mirror -/
theorem body_of {N0 : List Str} {g : List D → Option (R × List D)} {fs : FS} {t : TS} {Q : VK} {E : XK} (hl : ms.length ≤ N0.length) (hg : ∀ ds r, g ds = some r → runD ms N0.length fs ds = some r) (hs : SS K t fs) (h : spD K ms g vs H Q E) :
    t { nx := fun _ H' => Q .non H', rt := Q } (start N0 vs) H := by
  obtain ⟨Fb, ds, r, outs, hF, hn, ha, e, post⟩ := h
  obtain ⟨I, own⟩ := rel_start (N0 := N0) hF hn ha hl
  have e := hg ds _ e
  unfold runD at e
  have ioF : ∀ a, a ∈ ioA ms vs → Fb a := fun a h => by
    obtain ⟨i, h1, h2⟩ := ioA_mem h
    have hi : i < (ent ms ds).length := by
      rw [ent_len ha]
      rcases Nat.lt_or_ge i ms.length with q | q
      · exact q
      · rw [List.getElem?_eq_none q] at h1; cases h1
    obtain ⟨m, v, d, g1, g2, g3, g4⟩ := ha.at (List.getElem?_eq_getElem hi)
    rw [h1] at g1; cases g1
    rw [h2] at g2; cases g2
    obtain ⟨p, e, _, z, _⟩ := g3
    cases e
    exact z
  -- what stands behind
  have fin : ∀ {v : V} {r : R} {σ' : St} {H' : Hp} {ρ' : Env'} {os : List D}, isSlot r = false → Ext (start N0 vs) (ent ms ds ++ List.replicate (N0.length - ms.length) .unset) H σ' ρ' H' → EQ K (fun a => Fb a ∧ a ∉ ioA ms vs) H (start N0 vs) σ' H ρ' v H' r → outsOf ms ρ' = some os → PostD K Fb H H' (ioA ms vs) os v r := fun {v r σ' H' ρ' os} hr x q ho => by
    have sv : ∀ i v, vs[i]? = some v → (start N0 vs)[0 + i]? = some (some v) := fun i v h => by
      rw [Nat.zero_add]
      unfold L2.start
      have hi : i < vs.length := by
        rcases Nat.lt_or_ge i vs.length with q | q
        · exact q
        · rw [List.getElem?_eq_none q] at h; cases h
      rw [List.getElem?_append_left (by rw [List.length_map]; exact hi), List.getElem?_map, h]
      rfl
    have hown : ∀ {N'}, Rel K N' H (start N0 vs) σ' H' ρ' → ∀ a, a ∈ ioA ms vs → Own σ' ρ' a := fun {N'} I' a h => by
      obtain ⟨i, h1, h2⟩ := ioA_mem h
      obtain ⟨d, hd⟩ := outsOf_at ho h1
      obtain ⟨p, q1, _, _, _, q5⟩ := I'.own i true d hd
      have q6 := q5 rfl
      have q7 := sv i _ h2
      rw [Nat.zero_add, q6] at q7
      cases q7
      exact ⟨i, _, _, hd, q1⟩
    cases r with
    | val d =>
      obtain ⟨I', q⟩ := q
      have hf : ∀ a, Fb a → Fbd (fun a => Fb a ∧ a ∉ ioA ms vs) σ' ρ' a := fun a z => by
        by_cases hi : a ∈ ioA ms vs
        · exact .inr (hown I' a hi)
        · exact .inl ⟨z, hi⟩
      exact ⟨q.tr (.less hf), outs_of (IOs := []) I' hf (k := 0) (ρk := ρ') (fun i s z => by rw [Nat.zero_add]; exact z) sv (by rw [ha.len.1]) ho⟩
    | new d =>
      obtain ⟨p, e, hp, nN, I', q⟩ := q
      have hf : ∀ a, (Fb a ∨ a = p) → Fbd (fun a => (Fb a ∧ a ∉ ioA ms vs) ∨ a = p) σ' ρ' a := fun a z => by
        rcases z with z | z
        · by_cases hi : a ∈ ioA ms vs
          · exact .inr (hown I' a hi)
          · exact .inl (.inl ⟨z, hi⟩)
        · exact .inl (.inr z)
      exact ⟨p, e, hp, OwnR.tr q (.less hf) fun _ z => z, outs_of (IOs := []) I' hf (k := 0) (ρk := ρ') (fun i s z => by rw [Nat.zero_add]; exact z) sv (by rw [ha.len.1]) ho⟩
    | slot i => cases hr
  have kp : ∀ {σ' : St} {H' : Hp} {ρ' : Env'}, Ext (start N0 vs) (ent ms ds ++ List.replicate (N0.length - ms.length) .unset) H σ' ρ' H' → ∀ a o, a ∉ ioA ms vs → H a = some o → H' a = some o := fun x a o n h => (x.keep a o (fun z => n ((own a).mp z)) h).1
  cases eo : fs (ent ms ds ++ List.replicate (N0.length - ms.length) .unset) with
  | none => rw [eo] at e; cases e
  | some out =>
    rw [eo] at e
    refine hs _ _ _ _ _ _ out I eo _ ?_
    cases out with
    | nx ρ' =>
      have e : (match outsOf ms ρ' with
        | some o => some (R.val .non, o)
        | none => none) = some (r, outs) := e
      intro σ' H' x I'
      cases ho : outsOf ms ρ' with
      | none => rw [ho] at e; cases e
      | some os =>
        rw [ho] at e
        cases e
        exact post .non H' (kp x) x.live (fin (r := .val .non) rfl x ⟨I', .non⟩ ho)
    | rt r' ρ' =>
      have e : (if isSlot r' then none else (match outsOf ms ρ' with
        | some o => some (r', o)
        | none => none)) = some (r, outs) := e
      intro v σ' H' x q
      cases hs : isSlot r' with
      | true => rw [hs] at e; cases e
      | false =>
        rw [hs, if_neg Bool.false_ne_true] at e
        cases ho : outsOf ms ρ' with
        | none => rw [ho] at e; cases e
        | some os =>
          rw [ho] at e
          cases e
          exact post v H' (kp x) x.live (fin hs x q ho)
    | bk ρ' => cases e
    | ct ρ' => cases e
theorem spD_len {g : List D → Option (R × List D)} {Q : VK} {E : XK} (h : spD K ms g vs H Q E) : vs.length = ms.length := by
  obtain ⟨Fb, ds, r, outs, _, _, ha, _⟩ := h
  exact ha.len.1
/-- a def from its body -/
theorem def_ok {P : Program} {w : World} {mg : Str → Option Value} {base : Heap} {x qual : Str} {st : Stmt} {fA : Addr} {fd : FuncData} {N0 ps : List Str} {k : Nat} {g : List D → Option (R × List D)} (ms : List Mode) {fs : FS} (F : Fun K x qual st fA fd) (S0 : FnScope N0 ps (defScope st)) (hm : ms.length = ps.length)
    (hl : ms.length ≤ N0.length) (hg : ∀ ds r, g ds = some r → runD ms N0.length fs ds = some r)
    (body : ∀ (cdv : Value) (A : Around) (outer : List Env) (s : Shared) (H : Hp) (E : XK), Room k (A.deeper (PyProof.Rows.envOfC qual (defScope st) s.heap.objs.size fA cdv)) →
      ∃ t, PSs (cxOf CX0 P w K mg base N0 qual (defScope st) fA cdv A outer s H E).nox (defBody st) t ∧ SS K t fs) : FnOk P w K mg base CX0 (k + 1) fA fd ps (spD K ms g) := by
  refine F.ok S0 (fun vs H Q E h => (spD_len h).trans hm) (fun cdv A outer s H vs Q E hr h => ?_)
  obtain ⟨t, hp, hs⟩ := body cdv A outer s H E hr
  exact ⟨t, hp, body_of hl hg hs h⟩
end
end DL
set_option maxRecDepth 100000
set_option maxHeartbeats 4000000
namespace DL
open PySem PySem.Spec L2
/-- what is handed over for good is given up -/
def frzV : List Mode → List R → Env' → Env'
  | .val :: ms, r :: rs, ρ => (match frz ρ r with
    | some (_, ρ1) => frzV ms rs ρ1
    | none => frzV ms rs ρ)
  | _ :: ms, _ :: rs, ρ => frzV ms rs ρ
  | _, _, ρ => ρ
def rsv1 (ρ : Env') : Mode → R → Option D
  | .val, .val d => some d
  | .val, .new d => some d
  | .val, .slot i => (match ρ[i]? with
    | some (.val d) => some d
    | _ => none)
  | .bor, r => cont ρ r
  | .io, .slot i => (match ρ[i]? with
    | some (.own _ d) => some d
    | _ => none)
  | .io, _ => none
def rsv (ρ : Env') : List Mode → List R → Option (List D)
  | [], [] => some []
  | m :: ms, r :: rs => (match rsv1 ρ m r, rsv ρ ms rs with
    | some d, some ds => some (d :: ds)
    | _, _ => none)
  | _, _ => none
def ioS : List Mode → List R → List Nat
  | .io :: ms, .slot i :: rs => i :: ioS ms rs
  | _ :: ms, _ :: rs => ioS ms rs
  | _, _ => []
/-- nothing that is lent is handed in to be changed -/
def borOk (is : List Nat) : List Mode → List R → Bool
  | .bor :: ms, .slot i :: rs => !is.contains i && borOk is ms rs
  | _ :: ms, _ :: rs => borOk is ms rs
  | _, _ => true
def setOwn (ρ : Env') (i : Nat) (d : D) : Env' := match ρ[i]? with
  | some (.own b _) => ρ.set i (.own b d)
  | _ => ρ
def wb : Env' → List Nat → List D → Env'
  | ρ, i :: is, d :: ds => wb (setOwn ρ i d) is ds
  | ρ, _, _ => ρ
def fCall (ms : List Mode) (g : List D → Option (R × List D)) (fa : FA) : FE := fun ρ => match fa ρ with
  | some (rs, ρ1) => (match rsv (frzV ms rs ρ1) ms rs with
    | some ds => if (ioS ms rs).Nodup ∧ borOk (ioS ms rs) ms rs = true then (match g ds with
      | some (r, os) => if os.length = (ioS ms rs).length then some (r, wb (frzV ms rs ρ1) (ioS ms rs) os) else none
      | none => none) else none
    | none => none)
  | none => none
section
variable {K : PySem.W.Frag} {Fb Fb' N N' : Addr → Prop} {H H0 H' B : Hp} {v : V} {d d' : D} {p : Addr} {σ ι σ' : St} {ρ ρ' ρ1 : Env'} {r : R} {t ta tb tc : TE} {f fa fb fc : FE} {ms : List Mode} {vs : List V} {ds : List D} {rs : List R}
theorem frzV_ok : ∀ {ms : List Mode} {rs : List R} {vs : List V} {ρ : Env'}, Rel K N B ι σ H ρ → RRs K N σ ρ H vs rs → Rel K N B ι σ H (frzV ms rs ρ) ∧ Ext σ ρ H σ (frzV ms rs ρ) H
  | [], _, _, ρ, I, _ => ⟨I, .refl⟩
  | m :: ms, [], _, ρ, I, _ => by cases m <;> exact ⟨I, .refl⟩
  | m :: ms, r :: rs, _, ρ, I, .cons h hr => by
    cases m with
    | val =>
      show Rel K N B ι σ H (match frz ρ r with
        | some (_, ρ1) => frzV ms rs ρ1
        | none => frzV ms rs ρ) ∧ Ext σ ρ H σ (match frz ρ r with
        | some (_, ρ1) => frzV ms rs ρ1
        | none => frzV ms rs ρ) H
      cases e : frz ρ r with
      | none => exact frzV_ok I hr
      | some q =>
        obtain ⟨d, ρ1⟩ := q
        obtain ⟨I1, _, x1⟩ := frz_ok I h e
        obtain ⟨I2, x2⟩ := frzV_ok (ms := ms) I1 (hr.ext x1)
        exact ⟨I2, x1.trans x2⟩
    | bor =>
      show Rel K N B ι σ H (frzV ms rs ρ) ∧ Ext σ ρ H σ (frzV ms rs ρ) H
      exact frzV_ok I hr
    | io =>
      show Rel K N B ι σ H (frzV ms rs ρ) ∧ Ext σ ρ H σ (frzV ms rs ρ) H
      exact frzV_ok I hr
/-- the addresses of the slots -/
theorem ioS_A : ∀ {ms : List Mode} {rs : List R} {vs : List V} {ds : List D}, Rel K N B ι σ H ρ → RRs K N σ ρ H vs rs → rsv ρ ms rs = some ds → Paired (fun i p => σ[i]? = some (some (V.ref p)) ∧ ∃ b d, ρ[i]? = some (.own b d)) (ioS ms rs) (ioA ms vs)
  | [], [], _, ds, I, .nil, e => .nil
  | [], _ :: _, _, ds, I, _, e => by cases e
  | _ :: _, [], _, ds, I, _, e => by cases e
  | m :: ms, r :: rs, _, ds, I, @RRs.cons _ _ _ _ _ v _ vs _ h hr, e => by
    have e : (match rsv1 ρ m r, rsv ρ ms rs with
      | some d, some ds => some (d :: ds)
      | _, _ => none) = some ds := e
    cases e1 : rsv1 ρ m r with
    | none => simp only [e1] at e; cases e
    | some d =>
      cases e2 : rsv ρ ms rs with
      | none => simp only [e1, e2] at e; cases e
      | some ds' =>
        have ih := ioS_A I hr e2
        cases m with
        | val => cases v <;> exact ih
        | bor => cases v <;> exact ih
        | io =>
          cases r with
          | val d => cases e1
          | new d => cases e1
          | slot i =>
            have e1 : (match ρ[i]? with
              | some (.own _ d) => some d
              | _ => none) = some d := e1
            have h : σ[i]? = some (some v) := h
            cases c : ρ[i]? with
            | none => rw [c] at e1; cases e1
            | some s =>
              rw [c] at e1
              cases s with
              | own b d0 =>
                obtain ⟨p, h1, _⟩ := I.own i b d0 c
                rw [h] at h1; cases h1
                exact .cons ⟨h, b, d0, c⟩ ih
              | _ => cases e1
theorem paired_mem1 {α β : Type} {F : α → β → Prop} : ∀ {l : List α} {m : List β} {x : α}, Paired F l m → x ∈ l → ∃ y, y ∈ m ∧ F x y
  | _, _, _, .nil, h => by cases h
  | _, _, x, .cons r t, h => by
    rcases List.mem_cons.mp h with rfl | h
    · exact ⟨_, List.mem_cons_self, r⟩
    · obtain ⟨y, h1, h2⟩ := paired_mem1 t h
      exact ⟨y, List.mem_cons_of_mem _ h1, h2⟩
theorem paired_mem2 {α β : Type} {F : α → β → Prop} : ∀ {l : List α} {m : List β} {y : β}, Paired F l m → y ∈ m → ∃ x, x ∈ l ∧ F x y
  | _, _, _, .nil, h => by cases h
  | _, _, x, .cons r t, h => by
    rcases List.mem_cons.mp h with rfl | h
    · exact ⟨_, List.mem_cons_self, r⟩
    · obtain ⟨y, h1, h2⟩ := paired_mem2 t h
      exact ⟨y, List.mem_cons_of_mem _ h1, h2⟩
theorem args_of {IS : List Nat} {IO : List Addr} (I : Rel K N B ι σ H ρ) (hP : Paired (fun i p => σ[i]? = some (some (V.ref p)) ∧ ∃ b d, ρ[i]? = some (.own b d)) IS IO) : ∀ {ms : List Mode} {rs : List R} {vs : List V} {ds : List D}, RRs K N σ ρ H vs rs → rsv ρ ms rs = some ds → borOk IS ms rs = true → (∀ i, i ∈ ioS ms rs → i ∈ IS) →
    Args K (Fbd N σ ρ) IO H ms vs ds
  | [], [], _, ds, .nil, e, _, _ => by cases e; exact .nil
  | [], _ :: _, _, ds, _, e, _, _ => by cases e
  | _ :: _, [], _, ds, _, e, _, _ => by cases e
  | m :: ms, r :: rs, _, ds, @RRs.cons _ _ _ _ _ v _ vs _ h hr, e, hb, hi => by
    have e : (match rsv1 ρ m r, rsv ρ ms rs with
      | some d, some ds => some (d :: ds)
      | _, _ => none) = some ds := e
    cases e1 : rsv1 ρ m r with
    | none => simp only [e1] at e; cases e
    | some d =>
      cases e2 : rsv ρ ms rs with
      | none => simp only [e1, e2] at e; cases e
      | some ds' =>
        simp only [e1, e2] at e
        cases e
        cases m with
        | val =>
          refine .cons ?_ (args_of I hP hr e2 (by cases r <;> exact hb) (by cases r <;> exact hi))
          cases r with
          | val d0 => cases e1; exact h
          | new d0 => cases e1; exact h
          | slot i =>
            have e1 : (match ρ[i]? with
              | some (.val d) => some d
              | _ => none) = some d := e1
            have h : σ[i]? = some (some v) := h
            cases c : ρ[i]? with
            | none => rw [c] at e1; cases e1
            | some s =>
              rw [c] at e1
              cases s with
              | val d0 =>
                cases e1
                obtain ⟨w, h1, h2⟩ := I.val i _ c
                rw [h] at h1; cases h1
                exact h2
              | _ => cases e1
        | bor =>
          have hb' : borOk IS ms rs = true := by
            cases r with
            | slot i => exact ((Bool.and_eq_true _ _).mp (show (!IS.contains i && borOk IS ms rs) = true from hb)).2
            | _ => exact hb
          refine .cons ?_ (args_of I hP hr e2 hb' (by cases r <;> exact hi))
          have e1 : cont ρ r = some d := e1
          cases r with
          | val d0 => cases e1; exact .inl h
          | new d0 => cases e1; exact .inl h
          | slot i =>
            have h : σ[i]? = some (some v) := h
            have hni : i ∉ IS := by
              have := ((Bool.and_eq_true _ _).mp (show (!IS.contains i && borOk IS ms rs) = true from hb)).1
              simpa using this
            have notIO : ∀ p, Own σ ρ p → v = .ref p → (∀ j, (∃ b d, ρ[j]? = some (.own b d)) → σ[j]? = some (some (V.ref p)) → j = i) → p ∉ IO := fun p _ ev hu hm => by
              obtain ⟨j, hj, f1, b, d, f2⟩ := paired_mem2 hP hm
              exact hni (hu j ⟨b, d, f2⟩ f1 ▸ hj)
            have e1 : contS ρ[i]? = some d := e1
            cases c : ρ[i]? with
            | none => rw [c] at e1; cases e1
            | some s =>
              rw [c] at e1
              cases s with
              | unset => cases e1
              | val d0 =>
                cases e1
                obtain ⟨w, h1, h2⟩ := I.val i _ c
                rw [h] at h1; cases h1
                exact .inl h2
              | bor d0 =>
                cases e1
                obtain ⟨w, h1, h2⟩ := I.bor i _ c
                rw [h] at h1; cases h1
                rcases h2 with h2 | ⟨⟨a, ev, na, nb⟩, h2⟩
                · exact .inl h2
                · refine .inr ⟨⟨a, ev, fun hm => ?_, ?_⟩, h2⟩
                  · obtain ⟨j, hj, f1, b, d, f2⟩ := paired_mem2 hP hm
                    exact na ⟨j, b, d, f2, f1⟩
                  · cases q : B a with
                    | none => exact absurd q nb
                    | some o =>
                      rcases I.base a o q with z | z
                      · rw [z]; exact fun w => nomatch w
                      · exact absurd z na
              | own b d0 =>
                cases e1
                obtain ⟨p, h1, h2, _⟩ := I.own i _ _ c
                rw [h] at h1; cases h1
                refine .inr ⟨⟨p, rfl, notIO p ⟨i, _, _, c, h⟩ rfl fun j ⟨b', d', f2⟩ f1 => I.uniq j i p _ _ _ _ f2 c f1 h, OwnR.live h2⟩, h2.top⟩
        | io =>
          cases r with
          | val d0 => cases e1
          | new d0 => cases e1
          | slot i =>
            have hi0 : i ∈ IS := hi i List.mem_cons_self
            refine .cons ?_ (args_of I hP hr e2 hb fun j hj => hi j (List.mem_cons_of_mem _ hj))
            have e1 : (match ρ[i]? with
              | some (.own _ d) => some d
              | _ => none) = some d := e1
            have h : σ[i]? = some (some v) := h
            cases c : ρ[i]? with
            | none => rw [c] at e1; cases e1
            | some s =>
              rw [c] at e1
              cases s with
              | own b d0 =>
                cases e1
                obtain ⟨p, h1, h2, _⟩ := I.own i b _ c
                rw [h] at h1; cases h1
                obtain ⟨y, y1, y2, _⟩ := paired_mem1 hP hi0
                rw [h] at y2; cases y2
                exact ⟨p, rfl, y1, .inr ⟨i, _, _, c, h⟩, h2⟩
              | _ => cases e1
theorem setOwn_len (ρ : Env') (i : Nat) (d : D) : (setOwn ρ i d).length = ρ.length := by
  unfold setOwn
  split
  · exact List.length_set
  · rfl
theorem setOwn_ne {ρ : Env'} {i j : Nat} {d : D} (h : j ≠ i) : (setOwn ρ i d)[j]? = ρ[j]? := by
  unfold setOwn
  split
  · exact List.getElem?_set_ne (Ne.symm h)
  · rfl
theorem setOwn_eq {ρ : Env'} {i : Nat} {b : Bool} {d d0 : D} (h : ρ[i]? = some (.own b d0)) : (setOwn ρ i d)[i]? = some (.own b d) := by
  unfold setOwn
  rw [h]
  have hl : i < ρ.length := by
    rcases Nat.lt_or_ge i ρ.length with q | q
    · exact q
    · rw [List.getElem?_eq_none q] at h; cases h
  exact List.getElem?_set_self hl
theorem wb_len : ∀ (is : List Nat) (ds : List D) (ρ : Env'), (wb ρ is ds).length = ρ.length
  | [], ds, ρ => rfl
  | _ :: _, [], ρ => rfl
  | i :: is, d :: ds, ρ => (wb_len is ds _).trans (setOwn_len ρ i d)
theorem wb_ne : ∀ {is : List Nat} {ds : List D} {ρ : Env'} {j : Nat}, j ∉ is → (wb ρ is ds)[j]? = ρ[j]?
  | [], _, _, _, _ => rfl
  | _ :: _, [], _, _, _ => rfl
  | i :: is, d :: ds, ρ, j, h => by
    show (wb (setOwn ρ i d) is ds)[j]? = ρ[j]?
    rw [wb_ne (fun z => h (List.mem_cons_of_mem _ z)), setOwn_ne (fun z => h (by rw [z]; exact List.mem_cons_self))]
/-- the slots behind: as they were, or with what came -/
theorem wb_at : ∀ {is : List Nat} {ps : List Addr} {os : List D} {ρ : Env'}, is.Nodup → Paired (fun i p => σ[i]? = some (some (V.ref p)) ∧ ∃ b d, ρ[i]? = some (S.own b d)) is ps → Outs K Fb H ps os → ∀ i, i ∈ is →
    ∃ p b d0 d, σ[i]? = some (some (V.ref p)) ∧ ρ[i]? = some (.own b d0) ∧ (wb ρ is os)[i]? = some (.own b d) ∧ OwnR K Fb H p d
  | [], _, _, _, _, _, _, i, h => by cases h
  | i0 :: is, p :: ps, d :: os, ρ, hn, .cons ⟨f1, b, d0, f2⟩ t, .cons o ot, i, h => by
    obtain ⟨n1, n2⟩ := List.nodup_cons.mp hn
    by_cases e : i = i0
    · subst e
      refine ⟨p, b, d0, d, f1, f2, ?_, o⟩
      show (wb (setOwn ρ i d) is os)[i]? = _
      rw [wb_ne n1, setOwn_eq f2]
    · have h' : i ∈ is := (List.mem_cons.mp h).resolve_left e
      have t' : Paired (fun i p => σ[i]? = some (some (V.ref p)) ∧ ∃ b d, (setOwn ρ i0 d)[i]? = some (S.own b d)) is ps := Paired.mapP t fun a p' ⟨z1, b', d', z2⟩ => by
        by_cases ea : a = i0
        · subst ea; exact ⟨z1, b, d, setOwn_eq f2⟩
        · exact ⟨z1, b', d', by rw [setOwn_ne ea]; exact z2⟩
      have t2 : Paired (fun i p => σ[i]? = some (some (V.ref p)) ∧ ∃ b d', (setOwn ρ i0 d)[i]? = some (S.own b d')) is ps := Paired.mapP t fun a p' ⟨z1, b', d', z2⟩ => by
        by_cases ea : a = i0
        · subst ea; exact ⟨z1, b, d, setOwn_eq f2⟩
        · exact ⟨z1, b', d', by rw [setOwn_ne ea]; exact z2⟩
      obtain ⟨q, b1, d1, d2, g1, g2, g3, g4⟩ := wb_at n2 t2 ot i h'
      rw [setOwn_ne e] at g2
      exact ⟨q, b1, d1, d2, g1, g2, g3, g4⟩
theorem paired_len {α β : Type} {F : α → β → Prop} {l : List α} {m : List β} (h : Paired F l m) : l.length = m.length := Paired.length h
/-- behind a call -/
theorem rel_wb {is : List Nat} {ps : List Addr} {os : List D} (I : Rel K N B ι σ H ρ) (hn : is.Nodup) (hP : Paired (fun i p => σ[i]? = some (some (V.ref p)) ∧ ∃ b d, ρ[i]? = some (S.own b d)) is ps)
    (hk : ∀ a o, a ∉ ps → H a = some o → H' a = some o) (hl : ∀ a, H' a = none → H a = none) (ho : Outs K (Fbd N' σ ρ) H' ps os) (hN : ∀ a, N a → N' a) (hN' : ∀ a, N' a → N a ∨ H a = none) (nH' : ∀ a, N' a → H' a ≠ none) :
    Rel K N' B ι σ H' (wb ρ is os) ∧ (∀ a, Own σ (wb ρ is os) a ↔ Own σ ρ a) := by
  have pin : ∀ a, a ∈ ps → Own σ ρ a := fun a h => by
    obtain ⟨i, h1, h2, b, d, h3⟩ := paired_mem2 hP h
    exact ⟨i, b, d, h3, h2⟩
  have iin : ∀ i, i ∈ is → ∃ b d, ρ[i]? = some (S.own b d) := fun i h => by
    obtain ⟨p, _, _, h2⟩ := paired_mem1 hP h
    exact h2
  have look : ∀ j, (j ∉ is ∧ (wb ρ is os)[j]? = ρ[j]?) ∨ (j ∈ is ∧ ∃ p b d0 d, σ[j]? = some (some (V.ref p)) ∧ ρ[j]? = some (.own b d0) ∧ (wb ρ is os)[j]? = some (.own b d) ∧ OwnR K (Fbd N' σ ρ) H' p d) := fun j => by
    by_cases h : j ∈ is
    · exact .inr ⟨h, wb_at hn hP ho j h⟩
    · exact .inl ⟨h, wb_ne h⟩
  have own : ∀ a, Own σ (wb ρ is os) a ↔ Own σ ρ a := fun a => by
    constructor
    · rintro ⟨j, b, d, h1, h2⟩
      rcases look j with ⟨_, e⟩ | ⟨_, p, b', d0, d', e1, e2, e3, _⟩
      · rw [e] at h1; exact ⟨j, b, d, h1, h2⟩
      · exact ⟨j, _, _, e2, h2⟩
    · rintro ⟨j, b, d, h1, h2⟩
      rcases look j with ⟨_, e⟩ | ⟨_, p, b', d0, d', e1, e2, e3, _⟩
      · exact ⟨j, b, d, by rw [e]; exact h1, h2⟩
      · exact ⟨j, _, _, e3, h2⟩
  have hf : ∀ a, Fbd N' σ (wb ρ is os) a → Fbd N' σ ρ a := fun a z => z.imp id (own a).mp
  have tr : TrR (Fbd N σ ρ) H (Fbd N' σ (wb ρ is os)) H' := fun a u n h => by
    have na : a ∉ ps := fun z => n (.inr (pin a z))
    refine ⟨h.elim (fun h => .inl (hk _ _ na h)) (fun ⟨o, h⟩ => .inr ⟨o, hk _ _ na h⟩), fun z => ?_⟩
    rcases hf a z with z | z
    · rcases hN' a z with z | z
      · exact n (.inl z)
      · rcases h with h | ⟨o, h⟩ <;> rw [z] at h <;> cases h
    · exact n (.inr z)
  refine ⟨⟨by rw [wb_len]; exact I.len, fun j d h => ?_, fun j d h => ?_, fun j b d h => ?_, fun j k q b1 d1 b2 d2 h1 h2 h3 h4 => ?_, fun a o h => ?_, nH'⟩, own⟩
  · rcases look j with ⟨_, e⟩ | ⟨_, p, b', d0, d', e1, e2, e3, _⟩
    · rw [e] at h
      obtain ⟨v, h1, h2⟩ := I.val j d h
      exact ⟨v, h1, h2.tr tr⟩
    · rw [e3] at h; cases h
  · rcases look j with ⟨_, e⟩ | ⟨_, p, b', d0, d', e1, e2, e3, _⟩
    · rw [e] at h
      obtain ⟨v, h1, h2⟩ := I.bor j d h
      exact ⟨v, h1, h2.tr tr (fun a _ z => (own a).mp z) fun a u n q => (q.elim (fun h => .inl (hk _ _ (fun z => n (pin a z)) h)) (fun ⟨o, h⟩ => .inr ⟨o, hk _ _ (fun z => n (pin a z)) h⟩))⟩
    · rw [e3] at h; cases h
  · rcases look j with ⟨nj, e⟩ | ⟨_, p, b', d0, d', e1, e2, e3, e4⟩
    · rw [e] at h
      obtain ⟨p, h1, h2, h3, h4⟩ := I.own j b d h
      have np : p ∉ ps := fun z => by
        obtain ⟨i, q1, q2, b', d', q3⟩ := paired_mem2 hP z
        exact nj (I.uniq i j p _ _ _ _ q3 h q2 h1 ▸ q1)
      refine ⟨p, h1, OwnR.tr h2 tr fun o q => hk _ _ np q, fun z => ?_, h4⟩
      rcases hN' p z with z | z
      · exact h3 z
      · exact OwnR.live h2 z
    · rw [e3] at h
      cases h
      obtain ⟨p', h1, h2, h3, h4⟩ := I.own j _ _ e2
      rw [e1] at h1; cases h1
      refine ⟨p, e1, OwnR.tr e4 (.less hf) fun _ q => q, fun z => ?_, h4⟩
      rcases hN' p z with z | z
      · exact h3 z
      · exact OwnR.live h2 z
  · have st : ∀ {j b d}, (wb ρ is os)[j]? = some (S.own b d) → ∃ d', ρ[j]? = some (S.own b d') := fun {j b d} h => by
      rcases look j with ⟨_, e⟩ | ⟨_, p, b', d0, d', e1, e2, e3, _⟩
      · rw [e] at h; exact ⟨d, h⟩
      · rw [e3] at h; cases h; exact ⟨d0, e2⟩
    obtain ⟨c1, e1⟩ := st h1
    obtain ⟨c2, e2⟩ := st h2
    exact I.uniq j k q _ _ _ _ e1 e2 h3 h4
  · rcases I.base a o h with q | q
    · by_cases z : Own σ ρ a
      · exact .inr ((own a).mpr z)
      · exact .inl (hk a o (fun w => z (pin a w)) q)
    · exact .inr ((own a).mpr q)
/-- the call itself, the arguments reckoned -/
def callR (ms : List Mode) (g : List D → Option (R × List D)) (rs : List R) (ρ1 : Env') : Option (R × Env') := match rsv (frzV ms rs ρ1) ms rs with
    | some ds => if (ioS ms rs).Nodup ∧ borOk (ioS ms rs) ms rs = true then (match g ds with
      | some (r, os) => if os.length = (ioS ms rs).length then some (r, wb (frzV ms rs ρ1) (ioS ms rs) os) else none
      | none => none) else none
    | none => none
theorem call_core {E : XK} {g : List D → Option (R × List D)} {H1 : Hp} (I1 : Rel K N B ι σ H1 ρ1) (z1 : RRs K N σ ρ1 H1 vs rs) (e : callR ms g rs ρ1 = some (r, ρ')) {Q : VK} (k : ∀ v H', Ext σ ρ1 H1 σ ρ' H' → EQ K N B ι σ H1 ρ' v H' r → Q v H') : spD K ms g (vs ++ []) H1 Q E := by
  unfold callR at e
  cases e2 : rsv (frzV ms rs ρ1) ms rs with
  | none => simp only [e2] at e; cases e
  | some ds =>
    simp only [e2] at e
    split at e
    · rename_i hc
      obtain ⟨c1, c2⟩ := hc
      cases e3 : g ds with
      | none => simp only [e3] at e; cases e
      | some q3 =>
        obtain ⟨r3, os⟩ := q3
        simp only [e3] at e
        split at e
        · rename_i c3
          cases e
          obtain ⟨I2, x2⟩ := frzV_ok (ms := ms) I1 z1
          have z2 := z1.ext x2
          have hP := ioS_A I2 z2 e2
          have hA := args_of I2 hP z2 e2 c2 (fun _ h => h)
          rw [List.append_nil]
          have hnd : (ioA ms vs).Nodup := by
            have go : ∀ {is : List Nat} {ps : List Addr}, is.Nodup → Paired (fun i p => σ[i]? = some (some (V.ref p)) ∧ ∃ b d, (frzV ms rs ρ1)[i]? = some (S.own b d)) is ps → ps.Nodup := by
              intro is ps hn h
              induction h with
              | nil => exact List.nodup_nil
              | @cons a b' l m q t ih =>
                obtain ⟨n1, n2⟩ := List.nodup_cons.mp hn
                refine List.nodup_cons.mpr ⟨fun hm => ?_, ih n2⟩
                obtain ⟨q1, b, d, q2⟩ := q
                obtain ⟨i, h1, h2, b2, d2, h3⟩ := paired_mem2 t hm
                exact n1 (I2.uniq i a b' _ _ _ _ h3 q2 h2 q1 ▸ h1)
            exact go c1 hP
          have pin : ∀ a, a ∈ ioA ms vs → Own σ (frzV ms rs ρ1) a := fun a h => by
            obtain ⟨i, h1, h2, b, d, h3⟩ := paired_mem2 hP h
            exact ⟨i, b, d, h3, h2⟩
          refine ⟨Fbd N σ (frzV ms rs ρ1), ds, r, os, fun a z => I2.live z, hnd, hA, e3, fun v H' hk hl post => ?_⟩
          cases r with
          | val d =>
            obtain ⟨q1, q2⟩ := post
            obtain ⟨I3, own⟩ := rel_wb (N' := N) I2 c1 hP hk hl q2 (fun _ h => h) (fun _ h => .inl h) (fun a h z => I2.nH a h (hl a z))
            refine k v H' (x2.trans ⟨fun a o n h => ⟨hk a o (fun z => n (pin a z)) h, fun z => n ((own a).mp z)⟩, hl⟩) ⟨I3, ?_⟩
            exact q1.tr (.less fun a z => z.imp id (own a).mp)
          | new d =>
            obtain ⟨p, ev, hp, q1, q2⟩ := post
            have eF : ∀ a, Fbd (fun a => N a ∨ a = p) σ (frzV ms rs ρ1) a → Fbd N σ (frzV ms rs ρ1) a ∨ a = p := fun a z => Fbd.plus.mp z
            have q2' : Outs K (Fbd (fun a => N a ∨ a = p) σ (frzV ms rs ρ1)) H' (ioA ms vs) os := by
              have go : ∀ {ps : List Addr} {os : List D}, Outs K (fun a => Fbd N σ (frzV ms rs ρ1) a ∨ a = p) H' ps os → Outs K (Fbd (fun a => N a ∨ a = p) σ (frzV ms rs ρ1)) H' ps os := by
                intro ps os h
                induction h with
                | nil => exact .nil
                | cons o _ ih => exact .cons (OwnR.tr o (.less eF) fun _ z => z) ih
              exact go q2
            obtain ⟨I3, own⟩ := rel_wb (N' := fun a => N a ∨ a = p) I2 c1 hP hk hl q2' (fun _ h => .inl h) (fun a h => h.imp id fun z => by rw [z]; exact hp) (fun a h z => h.elim (fun h => I2.nH a h (hl a z)) fun h => OwnR.live q1 (h ▸ z))
            refine k v H' (x2.trans ⟨fun a o n h => ⟨hk a o (fun z => n (pin a z)) h, fun z => n ((own a).mp z)⟩, hl⟩) ⟨p, ev, x2.live p hp, fun z => I2.nH p z hp, I3, ?_⟩
            exact OwnR.tr q1 (.less fun a z => eF a (z.imp id (own a).mp)) fun _ q => q
          | slot i => exact post.elim
        · cases e
    · cases e
theorem se_call {ta : TA} {fa : FA} {E : XK} {g : List D → Option (R × List D)} (ha : SA K ta fa) : SE K (tCall (spD K ms g) [] E ta) (fCall ms g fa) := by
  intro N B ι σ H ρ r ρ' I e Q k
  unfold fCall at e
  cases e1 : fa ρ with
  | none => rw [e1] at e; cases e
  | some q =>
    obtain ⟨rs, ρ1⟩ := q
    simp only [e1] at e
    refine ha N B ι σ H ρ rs ρ1 I e1 _ fun vs H1 x1 I1 z1 => ?_
    exact call_core I1 z1 e fun v H' x2 q => k v H' (x1.trans x2) (q.back' x1.live)
end
end DL
set_option maxRecDepth 100000
set_option maxHeartbeats 4000000
namespace DL
open PySem PySem.Spec L2
section
variable {K : PySem.W.Frag} {Fb Fb' N N' : Addr → Prop} {H H0 H' B : Hp} {v : V} {d d' : D} {p : Addr} {σ ι σ' : St} {ρ ρ' ρ1 : Env'} {r : R} {t ta tb tc : TE} {f fa fb fc : FE}
abbrev FG := D → Env' → Option Env'
/-- vs: the slots that change -/
def SG (K : PySem.W.Frag) (vs : List Nat) (g : TG) (f : FG) : Prop := ∀ N B ι σ H ρ v d ρ', Rel K N B ι σ H ρ → Rep K (Fbd N σ ρ) H v d → f d ρ = some ρ' → ∀ Q : St → Hp → Prop, (∀ σ' H', wipe σ' vs = wipe σ vs → Ext σ ρ H σ' ρ' H' → Rel K N B ι σ' H' ρ' → Q σ' H') → g v σ H Q
abbrev FGs := List D → Env' → Option Env'
def SGs (K : PySem.W.Frag) (ws : List Nat) (g : TGs) (f : FGs) : Prop := ∀ N B ι σ H ρ vs ds ρ', Rel K N B ι σ H ρ → Reps K (Fbd N σ ρ) H vs ds → f ds ρ = some ρ' → ∀ Q : St → Hp → Prop, (∀ σ' H', wipe σ' ws = wipe σ ws → Ext σ ρ H σ' ρ' H' → Rel K N B ι σ' H' ρ' → Q σ' H') → g vs σ H Q
def fgName (i : Nat) : FG := fun d ρ => putV ρ i d
theorem wipe_set {α : Type} {σ : St} {i : Nat} {u : Option V} : ∀ {vs : List Nat}, i ∈ vs → wipe (σ.set i u) vs = wipe σ vs
  | v :: vs, h => by
    show (wipe (σ.set i u) vs).set v none = (wipe σ vs).set v none
    have wset : ∀ (ws : List Nat), wipe (σ.set i u) ws = (wipe σ ws).set i (if i ∈ ws then none else u) := by
      intro ws
      induction ws with
      | nil => simp [wipe]
      | cons w ws ih =>
        show (wipe (σ.set i u) ws).set w none = ((wipe σ ws).set w none).set i _
        rw [ih]
        by_cases e : w = i
        · subst e
          simp [List.set_set]
        · rw [List.set_comm _ _ (Ne.symm e)]
          congr 1
          simp [List.mem_cons, Ne.symm e]
    rw [wset vs]
    by_cases e : v = i
    · subst e; rw [List.set_set]
    · have h' : i ∈ vs := (List.mem_cons.mp h).resolve_left (Ne.symm e)
      rw [if_pos h', List.set_comm _ _ (Ne.symm e)]
      have wi : ∀ (ws : List Nat), i ∈ ws → (wipe σ ws).set i none = wipe σ ws := by
        intro ws
        induction ws with
        | nil => intro h; cases h
        | cons w ws ih =>
          intro h
          show ((wipe σ ws).set w none).set i none = (wipe σ ws).set w none
          by_cases e : w = i
          · subst e; rw [List.set_set]
          · rw [List.set_comm _ _ e, ih ((List.mem_cons.mp h).resolve_left (Ne.symm e))]
      rw [← List.set_comm _ _ (Ne.symm e), wi vs h']
theorem sg_name {vs : List Nat} {i : Nat} (hi : i ∈ vs) : SG K vs (gName i) (fgName i) := by
  intro N B ι σ H ρ v d ρ' I q e Q k
  obtain ⟨I1, x1⟩ := putV_ok I q e
  exact k _ H (wipe_set (α := Unit) hi) x1 I1
def fgNil : FGs := fun ds ρ => match ds with
  | [] => some ρ
  | _ => none
def fgCons (g : FG) (h : FGs) : FGs := fun ds ρ => match ds with
  | d :: ds => (match g d ρ with
    | some ρ1 => h ds ρ1
    | none => none)
  | [] => none
theorem sgs_nil {ws : List Nat} : SGs K ws gNil fgNil := by
  intro N B ι σ H ρ vs ds ρ' I q e Q k
  cases q with
  | nil => cases e; exact ⟨rfl, k σ H rfl .refl I⟩
  | cons _ _ => cases e
theorem sgs_cons {ws : List Nat} {g : TG} {gs : TGs} {f : FG} {fs : FGs} (h1 : SG K ws g f) (h2 : SGs K ws gs fs) : SGs K ws (gCons g gs) (fgCons f fs) := by
  intro N B ι σ H ρ vs ds ρ' I q e Q k
  cases q with
  | nil => cases e
  | @cons v d vs ds q qs =>
    have e : (match f d ρ with
      | some ρ1 => fs ds ρ1
      | none => none) = some ρ' := e
    cases e1 : f d ρ with
    | none => rw [e1] at e; cases e
    | some ρ1 =>
      rw [e1] at e
      exact ⟨v, vs, rfl, h1 N B ι σ H ρ v d ρ1 I q e1 _ fun σ1 H1 w1 x1 I1 => h2 N B ι σ1 H1 ρ1 vs ds ρ' I1 (qs.tr x1.tr) e _ fun σ2 H2 w2 x2 I2 => k σ2 H2 (w2.trans w1) (x1.trans x2) I2⟩
def fgTup (n : Nat) (g : FGs) : FG := fun d ρ => match d with
  | .tup ds => if ds.length = n then g ds ρ else none
  | _ => none
theorem sg_tup {ws : List Nat} {n : Nat} {gs : TGs} {fs : FGs} (h : SGs K ws gs fs) : SG K ws (gTup K n gs) (fgTup n fs) := by
  intro N B ι σ H ρ v d ρ' I q e Q k
  cases q with
  | @tup a vs ds h1 h2 =>
    have e : (if ds.length = n then fs ds ρ else none) = some ρ' := e
    split at e
    · rename_i hl
      exact ⟨a, vs, rfl, h1.sq, by rw [h2.length, hl], h N B ι σ H ρ vs ds ρ' I h2 e Q k⟩
    · cases e
  | _ => cases e
/-- a, b = e -/
def sAsg (fa : FE) (g : FG) : FS := fun ρ => match fa ρ with
  | some (r, ρ1) => (match frz ρ1 r with
    | some (d, ρ2) => (match g d ρ2 with
      | some ρ3 => some (.nx ρ3)
      | none => none)
    | none => none)
  | none => none
theorem ss_asg {ws : List Nat} {g : TG} {fg : FG} (ha : SE K ta fa) (hg : SG K ws g fg) : SS K (tAsg ta g) (sAsg fa fg) := by
  intro N B ι σ H ρ o I e D k
  unfold sAsg at e
  cases e1 : fa ρ with
  | none => rw [e1] at e; cases e
  | some q =>
    obtain ⟨r, ρ1⟩ := q
    simp only [e1] at e
    cases e2 : frz ρ1 r with
    | none => simp only [e2] at e; cases e
    | some q2 =>
      obtain ⟨d, ρ2⟩ := q2
      simp only [e2] at e
      cases e3 : fg d ρ2 with
      | none => simp only [e3] at e; cases e
      | some ρ3 =>
        simp only [e3] at e
        cases e
        refine ha.use I e1 fun v H1 x1 I1 z1 => ?_
        obtain ⟨I2, r2, x2⟩ := frz_ok I1 z1 e2
        exact hg N B ι σ H1 ρ2 v d ρ3 I2 r2 e3 _ fun σ3 H3 _ x3 I3 => k σ3 H3 ((x1.trans x2).trans x3) I3

/-- J gives the items ds, as long as what stood stands -/
def Items (K : PySem.W.Frag) (N : Addr → Prop) (B : Hp) (ι σ : St) (ρ : Env') (H : Hp) (J : It) (ds : List D) : Prop :=
  ∃ (G : Hp → Prop) (Y : Nat → Hp → V → Hp → Prop), Walk J ds.length G Y ∧ G H ∧ (∀ σ' ρ' H', Ext σ ρ H σ' ρ' H' → G H') ∧
    ∀ N' B' ι' σ' ρ' H' i x H2, (∀ a, N' a → N a ∨ H a = none) → Ext σ ρ H σ' ρ' H' → Rel K N' B' ι' σ' H' ρ' → Y i H' x H2 → ∃ d, ds[i]? = some d ∧ Same H' H2 ∧ Rep K (Fbd N' σ' ρ') H2 x d
abbrev FI := Env' → Option (List D × Env')
theorem OwnR.trW {p : Addr} {d : D} {Fb' : Addr → Prop} (h : OwnR K Fb H p d) (t : TrW Fb H Fb' H') (hp : ∀ o, H p = some o → H' p = some o) : OwnR K Fb' H' p d := by
  cases d with
  | lst ds => obtain ⟨vs, h, r⟩ := h; exact ⟨vs, hp _ h, r.trW t⟩
  | dct ds => obtain ⟨vs, h, r⟩ := h; exact ⟨vs, hp _ h, r.trW t⟩
  | _ => exact h.elim
theorem RepT.trW {v : V} {d : D} {Fb' : Addr → Prop} (h : RepT K Fb H v d) (t : TrW Fb H Fb' H') (hp : ∀ p u, v = .ref p → Nf u → Rd H p u → Rd H' p u) : RepT K Fb' H' v d := by
  cases d with
  | lst ds => obtain ⟨a, vs, e, h, r⟩ := h; exact ⟨a, vs, e, hp a _ e nf_lst h, r.trW t⟩
  | dct ds => obtain ⟨a, vs, e, h, r⟩ := h; exact ⟨a, vs, e, hp a _ e nf_dK h, r.trW t⟩
  | _ => exact Rep.trW t h
theorem RepT.at_ {a : Addr} {d : D} (h : RepT K Fb H (.ref a) d) (n : ¬ Fb a) : Rep K Fb H (.ref a) d := by
  cases d with
  | lst ds => obtain ⟨b, vs, e, h, r⟩ := h; cases e; exact .lst ⟨n, h⟩ r
  | dct ds => obtain ⟨b, vs, e, h, r⟩ := h; cases e; exact .dct h n r
  | _ => exact h
theorem mut_nf {u : HO} (m : Mut (some u)) : Nf u := fun o x e => by subst e; exact m
/-- the base, with the lock -/
def lkB (B : Hp) (d : Addr) (o : HO) : Hp := upd B d o
section
variable {d : Addr} {u : HO} {od : Obj} {σ2 : St} {ρ2 : Env'} {H2 : Hp} {N2 : Addr → Prop}
theorem tr_lock (h : H d = some u) (m : Mut (some u)) : TrR Fb H Fb (upd H d (.frz od u)) := fun a w n q => by
  refine ⟨?_, n⟩
  by_cases e : a = d
  · subst e
    rcases q with q | ⟨o, q⟩
    · rw [h] at q; cases q; exact .inr ⟨od, upd_same⟩
    · rw [h] at q; cases q; exact absurd rfl (mut_nf m _ _)
  · exact q.elim (fun q => .inl (by rw [upd_ne e]; exact q)) fun ⟨o, q⟩ => .inr ⟨o, by rw [upd_ne e]; exact q⟩
theorem tr_unlock (h : H2 d = some (.frz od u)) : TrW Fb H2 Fb (upd H2 d u) := fun a w nf n q => by
  refine ⟨?_, n⟩
  by_cases e : a = d
  · subst e
    rcases q with q | ⟨o, q⟩
    · rw [h] at q; cases q; exact absurd rfl (nf _ _)
    · rw [h] at q; cases q; exact .inl upd_same
  · exact q.elim (fun q => .inl (by rw [upd_ne e]; exact q)) fun ⟨o, q⟩ => .inr ⟨o, by rw [upd_ne e]; exact q⟩
theorem Rel.lock (I : Rel K N B ι σ H ρ) (h : H d = some u) (m : Mut (some u)) (no : ¬ Own σ ρ d) : Rel K N (lkB B d (.frz od u)) ι σ (upd H d (.frz od u)) ρ where
  len := I.len
  val := fun i x e => let ⟨v, e1, r⟩ := I.val i x e; ⟨v, e1, r.tr (tr_lock h m)⟩
  bor := fun i x e => by
    obtain ⟨v, e1, r⟩ := I.bor i x e
    refine ⟨v, e1, ?_⟩
    rcases r with r | ⟨⟨a, ea, n, b⟩, r⟩
    · exact .inl (r.tr (tr_lock h m))
    · refine .inr ⟨⟨a, ea, n, fun z => ?_⟩, r.tr (tr_lock h m) fun p w _ q => (tr_lock (Fb := fun _ => False) h m p w id q).1⟩
      unfold lkB at z
      by_cases e : a = d
      · rw [e, upd_same] at z; cases z
      · rw [upd_ne e] at z; exact b z
  own := fun i b x e => by
    obtain ⟨p, e1, r, n, q1, q2⟩ := I.own i b x e
    have ne : p ≠ d := fun z => no (z ▸ ⟨i, b, x, e, e1⟩)
    exact ⟨p, e1, OwnR.tr r (tr_lock h m) fun o q => by rw [upd_ne ne]; exact q, n, fun z => by unfold lkB; rw [upd_ne ne]; exact q1 z, q2⟩
  uniq := I.uniq
  base := fun a o e => by
    unfold lkB at e
    by_cases z : a = d
    · rw [z, upd_same] at e; cases e; rw [z]; exact .inl upd_same
    · rw [upd_ne z] at e; rw [upd_ne z]; exact I.base a o e
  nH := fun a n z => by
    by_cases e : a = d
    · rw [e, upd_same] at z; cases z
    · rw [upd_ne e] at z; exact I.nH a n z
theorem Rel.unlock (I : Rel K N2 (lkB B d (.frz od u)) ι σ2 H2 ρ2) (h : H2 d = some (.frz od u)) (nN : ¬ N2 d ∨ B d ≠ none) (no : ¬ Own σ2 ρ2 d) (hB : B d = none ∨ B d = some u) : Rel K N2 B ι σ2 (upd H2 d u) ρ2 where
  len := I.len
  val := fun i x e => let ⟨v, e1, r⟩ := I.val i x e; ⟨v, e1, r.trW (tr_unlock h)⟩
  bor := fun i x e => by
    obtain ⟨v, e1, r⟩ := I.bor i x e
    refine ⟨v, e1, ?_⟩
    rcases r with r | ⟨⟨a, ea, n, b⟩, r⟩
    · exact .inl (r.trW (tr_unlock h))
    · have r2 := r.trW (Fb' := Fbd N2 σ2 ρ2) (tr_unlock h) fun p w _ nf q => (tr_unlock (Fb := fun _ => False) h p w nf id q).1
      by_cases e : a = d
      · rcases nN with nN | nN
        · subst ea
          exact .inl (r2.at_ (e ▸ fun z => z.elim nN no))
        · exact .inr ⟨⟨a, ea, n, e ▸ nN⟩, r2⟩
      · exact .inr ⟨⟨a, ea, n, fun z => b (by unfold lkB; rw [upd_ne e]; exact z)⟩, r2⟩
  own := fun i b x e => by
    obtain ⟨p, e1, r, n, q1, q2⟩ := I.own i b x e
    have ne : p ≠ d := fun z => no (z ▸ ⟨i, b, x, e, e1⟩)
    exact ⟨p, e1, OwnR.trW r (tr_unlock h) fun o q => by rw [upd_ne ne]; exact q, n, fun z => by have := q1 z; unfold lkB at this; rw [upd_ne ne] at this; exact this, q2⟩
  uniq := I.uniq
  base := fun a o e => by
    by_cases z : a = d
    · rcases hB with hB | hB
      · rw [z, hB] at e; cases e
      · rw [z, hB] at e; cases e; rw [z]; exact .inl upd_same
    · rcases I.base a o (by unfold lkB; rw [upd_ne z]; exact e) with q | q
      · exact .inl (by rw [upd_ne z]; exact q)
      · exact .inr q
  nH := fun a n z => by
    by_cases e : a = d
    · rw [e, upd_same] at z; cases z
    · rw [upd_ne e] at z; exact I.nH a n z
end
/-- H3 is H2, or H2 with one thing unlocked; Z what was not locked ahead of the def -/
def UnL (Z : Addr → Prop) (H2 H3 : Hp) : Prop := H3 = H2 ∨ ∃ d od u, H2 d = some (.frz od u) ∧ Mut (some u) ∧ Z d ∧ H3 = upd H2 d u
/-- how what is walked is given back: B1 the base meanwhile, H1 the heap ahead of the lock, H' behind it -/
structure Unk (K : PySem.W.Frag) (Z N : Addr → Prop) (B B1 : Hp) (ι σ : St) (ρ : Env') (H1 H' : Hp) : Prop where
  non : ∀ p, B1 p = none → B p = none
  live : ∀ p, H' p = none → H1 p = none
  un : ∀ N2 σ2 ρ2 H2, (∀ a, N2 a → N a ∨ B1 a = none) → Rel K N2 B1 ι σ2 H2 ρ2 → Ext σ ρ H' σ2 ρ2 H2 → ∃ H3, UnL Z H2 H3 ∧ Rel K N2 B ι σ2 H3 ρ2 ∧ Ext σ ρ H1 σ2 ρ2 H3 ∧ TrW (Fbd N2 σ2 ρ2) H2 (Fbd N2 σ2 ρ2) H3 ∧ ∀ p o, B1 p = none → H2 p = some o → H3 p = some o
theorem Unk.refl {Z : Addr → Prop} : Unk K Z N B B ι σ ρ H H := ⟨fun _ h => h, fun _ h => h, fun N2 σ2 ρ2 H2 _ I2 x2 => ⟨H2, .inl rfl, I2, x2, TrR.refl.w, fun _ _ _ h => h⟩⟩
theorem Unk.lock {Z : Addr → Prop} {d : Addr} {u : HO} {od : Obj} (I : Rel K N B ι σ H ρ) (h : H d = some u) (m : Mut (some u)) (nN0 : ¬ N d ∨ B d ≠ none) (no : ¬ Own σ ρ d) (hZ : Z d) : Unk K Z N B (lkB B d (.frz od u)) ι σ ρ H (upd H d (.frz od u)) where
  non := fun p h => by
    unfold lkB at h
    by_cases e : p = d
    · rw [e, upd_same] at h; cases h
    · rw [upd_ne e] at h; exact h
  live := fun p h => hl_upd p h
  un := fun N2 σ2 ρ2 H2 hN I2 x2 => by
    obtain ⟨h2, no2⟩ := x2.keep d _ no upd_same
    have nN : ¬ N2 d ∨ B d ≠ none := nN0.imp (fun nN0 z => (hN d z).elim nN0 fun z => by unfold lkB at z; rw [upd_same] at z; cases z) id
    have hB : B d = none ∨ B d = some u := by
      cases q : B d with
      | none => exact .inl rfl
      | some o =>
        rcases I.base d o q with z | z
        · rw [h] at z; cases z; exact .inr rfl
        · exact absurd z no
    refine ⟨upd H2 d u, .inr ⟨d, od, u, h2, m, hZ, rfl⟩, I2.unlock h2 nN no2 hB, ⟨fun a o n e => ?_, fun a e => ?_⟩, tr_unlock h2, fun p o e q => ?_⟩
    · by_cases z : a = d
      · subst z
        rw [h] at e; cases e
        exact ⟨upd_same, no2⟩
      · rw [upd_ne z]
        exact x2.keep a o n (by rw [upd_ne z]; exact e)
    · exact hl_upd a (x2.live a (hl_upd a e))
    · have ne : p ≠ d := fun z => by unfold lkB at e; rw [z, upd_same] at e; cases e
      rw [upd_ne ne]; exact q
def SI (K : PySem.W.Frag) (Z : Addr → Prop) (w : TI) (f : FI) : Prop := ∀ N B ι σ H ρ ds ρ', Rel K N B ι σ H ρ → f ρ = some (ds, ρ') → ∀ R : It → Hp → Prop,
  (∀ J H1 H' B1, Ext σ ρ H σ ρ' H1 → Rel K N B1 ι σ H' ρ' → Items K N B1 ι σ ρ' H' J ds → Unk K Z N B B1 ι σ ρ' H1 H' → R J H') → w σ H R
/-- what is not locked -/
theorem SI.of {Z : Addr → Prop} {w : TI} {f : FI} (h : ∀ N B ι σ H ρ ds ρ', Rel K N B ι σ H ρ → f ρ = some (ds, ρ') → ∀ R : It → Hp → Prop, (∀ J H', Ext σ ρ H σ ρ' H' → Rel K N B ι σ H' ρ' → Items K N B ι σ ρ' H' J ds → R J H') → w σ H R) : SI K Z w f :=
  fun N B ι σ H ρ ds ρ' I e R k => h N B ι σ H ρ ds ρ' I e R fun J H' x I' it => k J H' H' B x I' it .refl
theorem EQ.unl {Z : Addr → Prop} {σ' : St} {B1 H1 H2 : Hp} {v : V} {r : R} {N2 : Addr → Prop} (k : Unk K Z N B B1 ι σ ρ H1 H') (hN : ∀ a, N2 a → N a ∨ B1 a = none) (x : Ext σ ρ H' σ' ρ' H2) (q : EQ K N2 B1 ι σ' B1 ρ' v H2 r) : ∃ H3, UnL Z H2 H3 ∧ Ext σ ρ H1 σ' ρ' H3 ∧ EQ K N2 B ι σ' B ρ' v H3 r := by
  cases r with
  | val d =>
    obtain ⟨H3, h1, h2, h3, h4, _⟩ := k.un N2 σ' ρ' H2 hN q.1 x
    exact ⟨H3, h1, h3, h2, q.2.trW h4⟩
  | slot i =>
    obtain ⟨H3, h1, h2, h3, h4, _⟩ := k.un N2 σ' ρ' H2 hN q.1 x
    exact ⟨H3, h1, h3, h2, q.2⟩
  | new d =>
    obtain ⟨p, e, hp, n, I, o⟩ := q
    obtain ⟨H3, h1, h2, h3, h4, h5⟩ := k.un (fun a => N2 a ∨ a = p) σ' ρ' H2 (fun a z => z.elim (hN a) fun z => .inr (z ▸ hp)) I x
    exact ⟨H3, h1, h3, p, e, k.non p hp, n, h2, OwnR.trW o h4 fun o q => h5 p o hp q⟩
/-- the readings with what is locked given back -/
def tUS (Z : Addr → Prop) (t : TS) : TS := fun D σ H => t ⟨fun σ' H' => ∃ H3, UnL Z H' H3 ∧ D.nx σ' H3, fun v H' => ∃ H3, UnL Z H' H3 ∧ D.rt v H3, fun σ' H' => ∃ H3, UnL Z H' H3 ∧ D.bk σ' H3, fun σ' H' => ∃ H3, UnL Z H' H3 ∧ D.ct σ' H3⟩ σ H
def tUE (Z : Addr → Prop) (t : TE) : TE := fun σ H Q => t σ H fun v H' => ∃ H3, UnL Z H' H3 ∧ Q v H3
theorem tr_more {σ' : St} (x : Ext σ ρ H σ' ρ' H') (hN : ∀ a, N' a → N a ∨ H a = none) : TrR (Fbd N σ ρ) H (Fbd N' σ' ρ') H' := fun a u n h => by
  obtain ⟨h1, h2⟩ := x.tr a u n h
  refine ⟨h1, fun z => ?_⟩
  rcases z with z | z
  · rcases hN a z with z | z
    · exact h2 (.inl z)
    · rcases h with h | ⟨o, h⟩ <;> rw [z] at h <;> cases h
  · exact h2 (.inr z)
theorem items_tup {a : Addr} {vs : List V} {ds : List D} (h : TupAt K (Fbd N σ ρ) H a vs) (r : Reps K (Fbd N σ ρ) H vs ds) : Items K N B ι σ ρ H (Itt K a) ds := by
  refine ⟨_, _, by rw [← r.length]; exact walk_tup (xs := vs), h.sq, fun σ' ρ' H' x => (h.tr x.tr).sq, fun N' B' ι' σ' ρ' H' i x H2 hN xx I y => ?_⟩
  obtain ⟨rfl, y⟩ := y
  obtain ⟨d, h1, h2⟩ := (r.tr (tr_more xx hN)).getV y
  exact ⟨d, h1, .refl _, h2⟩
theorem items_lst {a : Addr} {vs : List V} {ds : List D} (h : LstAt (Fbd N σ ρ) H a vs) (r : Reps K (Fbd N σ ρ) H vs ds) : Items K N B ι σ ρ H (Itl K a) ds := by
  refine ⟨_, _, by rw [← r.length]; exact walk_list (xs := vs), h.sq, fun σ' ρ' H' x => (h.tr x.tr).sq, fun N' B' ι' σ' ρ' H' i x H2 hN xx I y => ?_⟩
  obtain ⟨rfl, y⟩ := y
  obtain ⟨d, h1, h2⟩ := (r.tr (tr_more xx hN)).getV y
  exact ⟨d, h1, .refl _, h2⟩
def signs (z : Str) : List D := z.cps.toList.map fun c => .str ⟨#[c]⟩
theorem items_str {z : Str} : Items K N B ι σ ρ H (Its z) (signs z) := by
  refine ⟨_, _, by rw [show (signs z).length = z.cps.size by simp [signs]]; exact walk_str (z := z), trivial, fun _ _ _ _ => trivial, fun N' B' ι' σ' ρ' H' i x H2 hN xx I y => ?_⟩
  obtain ⟨rfl, c, h1, rfl⟩ := y
  refine ⟨.str ⟨#[c]⟩, ?_, .refl _, .str⟩
  unfold signs
  rw [List.getElem?_map]
  simp only [Array.getElem?_toList, h1, Option.map_some]
/-- for x in e, e a tuple, a list, a text -/
def itemsOf : D → Option (List D)
  | .tup ds => some ds
  | .lst ds => some ds
  | .str z => some (signs z)
  | _ => none
def fIt (fa : FE) : FI := fun ρ => match fa ρ with
  | some (r, ρ1) => (match frz ρ1 r with
    | some (d, ρ2) => (match itemsOf d with
      | some ds => some (ds, ρ2)
      | none => none)
    | none => none)
  | none => none
def iAny (K : PySem.W.Frag) (te : TE) : TI := fun σ H R => iTup K te σ H R ∨ iList K te σ H R ∨ iStr te σ H R
theorem pi_or {X : Cx} {tg e : Expr} {w1 w2 : TI} (h1 : PI X tg e w1) (h2 : PI X tg e w2) : PI X tg e (fun σ H R => w1 σ H R ∨ w2 σ H R) :=
  ⟨fun pins s σ H R I q => q.elim (h1.run pins s σ H R I) (h2.run pins s σ H R I)⟩
theorem pi_any {X : Cx} {tg e : Expr} {te : TE} (h : PE X e te) : PI X tg e (iAny X.K te) := pi_or (pi_tup h) (pi_or (pi_list h) (pi_str h))
theorem fIt_eq {ds : List D} (h : fIt fa ρ = some (ds, ρ')) : ∃ r ρ1 d, fa ρ = some (r, ρ1) ∧ frz ρ1 r = some (d, ρ') ∧ itemsOf d = some ds := by
  unfold fIt at h
  cases e1 : fa ρ with
  | none => rw [e1] at h; cases h
  | some q =>
    obtain ⟨r, ρ1⟩ := q
    simp only [e1] at h
    cases e2 : frz ρ1 r with
    | none => simp only [e2] at h; cases h
    | some q2 =>
      obtain ⟨d, ρ2⟩ := q2
      simp only [e2] at h
      cases e3 : itemsOf d with
      | none => simp only [e3] at h; cases h
      | some ds' => simp only [e3] at h; cases h; exact ⟨r, ρ1, d, rfl, e2, e3⟩
theorem si_any {Z : Addr → Prop} (ha : SE K ta fa) : SI K Z (iAny K ta) (fIt fa) := by
  refine SI.of ?_
  intro N B ι σ H ρ ds ρ' I e R k
  obtain ⟨r, ρ1, d, e1, e2, e3⟩ := fIt_eq e
  have base : ∀ {Q : VK}, (∀ v H', Ext σ ρ H σ ρ' H' → Rel K N B ι σ H' ρ' → Rep K (Fbd N σ ρ') H' v d → Q v H') → ta σ H Q := fun {Q} kk => ha.use I e1 fun v H1 x1 I1 z1 => by
    obtain ⟨I2, r2, x2⟩ := frz_ok I1 z1 e2
    exact kk v H1 (x1.trans x2) I2 r2
  cases d with
  | tup ds' =>
    cases e3
    refine .inl (base fun v H1 x1 I1 q => ?_)
    cases q with
    | tup h r => exact ⟨_, rfl, ⟨_, h.sq⟩, k _ _ x1 I1 (items_tup h r)⟩
  | lst ds' =>
    cases e3
    refine .inr (.inl (base fun v H1 x1 I1 q => ?_))
    cases q with
    | lst h r => exact ⟨_, rfl, ⟨_, h.sq⟩, k _ _ x1 I1 (items_lst h r)⟩
  | str z =>
    cases e3
    refine .inr (.inr (base fun v H1 x1 I1 q => ?_))
    cases q with
    | str => exact ⟨z, rfl, k _ _ x1 I1 items_str⟩
  | _ => cases e3

def forL (g : FG) (b : FS) : List D → Env' → Option Out
  | [], ρ => some (.nx ρ)
  | d :: ds, ρ => match g d ρ with
    | some ρ1 => (match b ρ1 with
      | some (.nx ρ2) => forL g b ds ρ2
      | some (.ct ρ2) => forL g b ds ρ2
      | some (.bk ρ2) => some (.nx ρ2)
      | some (.rt r ρ2) => some (.rt r ρ2)
      | none => none)
    | none => none
def sFor (fi : FI) (g : FG) (b : FS) : FS := fun ρ => match fi ρ with
  | some (ds, ρ1) => forL g b ds ρ1
  | none => none
theorem for_core {J : It} {ds : List D} {g : TG} {fg : FG} {tb : TS} {b : FS} {D0 : Ends} {o : Out} {ws : List Nat} (I : Rel K N B ι σ H ρ) (it : Items K N B ι σ ρ H J ds) (hg : SG K ws g fg) (hb : SS K tb b) (e : forL fg b ds ρ = some o) (k : EO K N B ι σ H ρ D0 o) :
    ∃ W : Nat → Nat → St → Hp → Prop, (∃ m, W 0 m σ H) ∧ ∀ i m σ H, W i m σ H →
      (J.stop i H ∧ D0.nx σ H) ∨ (J.go i H ∧ ∃ N : St → Hp → Prop, (∀ σ' H', N σ' H' → ∃ m', m' < m ∧ W (i + 1) m' σ' H') ∧ ∀ x H', J.yld i H x H' → g x σ H' fun σ2 H2 => tb { D0 with nx := N, ct := N, bk := D0.nx } σ2 H2) := by
  obtain ⟨G, Y, w, hG, hx, hy⟩ := it
  refine for_it w (fun i σi Hi => ∃ ρi, forL fg b (ds.drop i) ρi = some o ∧ Rel K N B ι σi Hi ρi ∧ Ext σ ρ H σi ρi Hi) ⟨ρ, e, I, .refl⟩ (fun i σi Hi _ ⟨ρi, _, _, x⟩ => hx _ _ _ x) ?_ ?_
  · rintro i x σi Hi H2 hi ⟨ρi, ei, Ii, xi⟩ y
    obtain ⟨d, h1, h2, h3⟩ := hy N B ι σi ρi Hi i x H2 (fun _ h => .inl h) xi Ii y
    have I2 := Ii.same h2
    have dr : ds.drop i = d :: ds.drop (i + 1) := by
      have hl : i < ds.length := hi
      rw [List.drop_eq_getElem_cons hl]
      rw [List.getElem?_eq_getElem hl] at h1
      cases h1
      rfl
    rw [dr] at ei
    unfold forL at ei
    cases e1 : fg d ρi with
    | none => rw [e1] at ei; cases ei
    | some ρ1 =>
      simp only [e1] at ei
      refine hg N B ι σi H2 ρi x d ρ1 I2 h3 e1 _ fun σ3 H3 _ x3 I3 => ?_
      have xx := (xi.trans (Ext.same h2)).trans x3
      cases e2 : b ρ1 with
      | none => simp only [e2] at ei; cases ei
      | some o2 =>
        simp only [e2] at ei
        refine hb N B ι σ3 H3 ρ1 o2 I3 e2 _ ?_
        cases o2 with
        | nx ρ2 => exact fun σ4 H4 x4 I4 => ⟨ρ2, ei, I4, xx.trans x4⟩
        | ct ρ2 => exact fun σ4 H4 x4 I4 => ⟨ρ2, ei, I4, xx.trans x4⟩
        | bk ρ2 => cases ei; exact fun σ4 H4 x4 I4 => k σ4 H4 (xx.trans x4) I4
        | rt r ρ2 => cases ei; exact fun v σ4 H4 x4 q => k v σ4 H4 (xx.trans x4) q
  · rintro σi Hi ⟨ρi, ei, Ii, xi⟩
    rw [List.drop_length] at ei
    cases ei
    exact k σi Hi xi Ii
theorem ss_for {Z : Addr → Prop} {wi : TI} {fi : FI} {g : TG} {fg : FG} {tb : TS} {b : FS} {ws : List Nat} (hi : SI K Z wi fi) (hg : SG K ws g fg) (hb : SS K tb b) : SS K (tUS Z (tFor wi g tb)) (sFor fi fg b) := by
  intro N B ι σ H ρ o I e D0 k
  unfold sFor at e
  cases e1 : fi ρ with
  | none => rw [e1] at e; cases e
  | some q =>
    obtain ⟨ds, ρ1⟩ := q
    simp only [e1] at e
    refine hi N B ι σ H ρ ds ρ1 I e1 _ fun J Ha H1 B1 x1 I1 it kk => for_core I1 it hg hb e ?_
    cases o with
    | nx ρ2 =>
      intro σ2 H2 x2 I2
      obtain ⟨H3, h1, h2, h3, _⟩ := kk.un N σ2 ρ2 H2 (fun _ => .inl) I2 x2
      exact ⟨H3, h1, k σ2 H3 (x1.trans h3) h2⟩
    | bk ρ2 =>
      intro σ2 H2 x2 I2
      obtain ⟨H3, h1, h2, h3, _⟩ := kk.un N σ2 ρ2 H2 (fun _ => .inl) I2 x2
      exact ⟨H3, h1, k σ2 H3 (x1.trans h3) h2⟩
    | ct ρ2 =>
      intro σ2 H2 x2 I2
      obtain ⟨H3, h1, h2, h3, _⟩ := kk.un N σ2 ρ2 H2 (fun _ => .inl) I2 x2
      exact ⟨H3, h1, k σ2 H3 (x1.trans h3) h2⟩
    | rt r ρ2 =>
      intro v σ2 H2 x2 q
      obtain ⟨H3, h1, h2, h3⟩ := EQ.unl kk (fun _ => .inl) x2 q
      exact ⟨H3, h1, k v σ2 H3 (x1.trans h2) h3⟩

def whileL (c : FT) (b : FS) : Nat → Env' → Option Out
  | 0, _ => none
  | n + 1, ρ => match c ρ with
    | some (true, ρ1) => (match b ρ1 with
      | some (.nx ρ2) => whileL c b n ρ2
      | some (.ct ρ2) => whileL c b n ρ2
      | some (.bk ρ2) => some (.nx ρ2)
      | some (.rt r ρ2) => some (.rt r ρ2)
      | none => none)
    | some (false, ρ1) => some (.nx ρ1)
    | none => none
def sWhile (n : Nat) (c : FT) (b : FS) : FS := whileL c b n
theorem ss_while {n : Nat} {tc : TT} {c : FT} {tb : TS} {b : FS} (hc : ST K tc c) (hb : SS K tb b) : SS K (tWhile tc tb) (sWhile n c b) := by
  intro N B ι σ H ρ o I e D0 k
  refine ⟨fun m σi Hi => ∃ ρi, whileL c b m ρi = some o ∧ Rel K N B ι σi Hi ρi ∧ Ext σ ρ H σi ρi Hi, ⟨n, ρ, e, I, .refl⟩, ?_⟩
  rintro m σi Hi ⟨ρi, ei, Ii, xi⟩
  cases m with
  | zero => cases ei
  | succ m =>
    unfold whileL at ei
    cases e1 : c ρi with
    | none => rw [e1] at ei; cases ei
    | some q =>
      obtain ⟨cb, ρ1⟩ := q
      rw [e1] at ei
      refine hc N B ι σi Hi ρi cb ρ1 Ii e1 _ fun H1 x1 I1 => ?_
      cases cb with
      | false => rw [if_neg Bool.false_ne_true]; cases ei; exact k σi H1 (xi.trans x1) I1
      | true =>
        rw [if_pos rfl]
        refine ⟨fun σ' H' => ∃ ρi, whileL c b m ρi = some o ∧ Rel K N B ι σ' H' ρi ∧ Ext σ ρ H σ' ρi H', fun σ' H' h => ⟨m, Nat.lt_succ_self m, h⟩, ?_⟩
        have xx := xi.trans x1
        cases e2 : b ρ1 with
        | none => simp only [e2] at ei; cases ei
        | some o2 =>
          simp only [e2] at ei
          refine hb N B ι σi H1 ρ1 o2 I1 e2 _ ?_
          cases o2 with
          | nx ρ2 => exact fun σ4 H4 x4 I4 => ⟨ρ2, ei, I4, xx.trans x4⟩
          | ct ρ2 => exact fun σ4 H4 x4 I4 => ⟨ρ2, ei, I4, xx.trans x4⟩
          | bk ρ2 => cases ei; exact fun σ4 H4 x4 I4 => k σ4 H4 (xx.trans x4) I4
          | rt r ρ2 => cases ei; exact fun v σ4 H4 x4 q => k v σ4 H4 (xx.trans x4) q

def wipeS (ρ : Env') : List Nat → Env'
  | [] => ρ
  | v :: vs => (wipeS ρ vs).set v .unset
/-- the block's own names hold nothing of the def's own -/
def plainS : Option S → Bool
  | some .unset => true
  | some (.val _) => true
  | _ => false
def plainAt (ρ : Env') (vs : List Nat) : Bool := vs.all fun i => plainS ρ[i]?
/-- back to what the names held ahead -/
def backS (ρ0 : Env') : List Nat → Env' → Env'
  | [], ρ => ρ
  | v :: vs, ρ => (backS ρ0 vs ρ).set v (ρ0[v]?.getD .unset)
def lcL (g : FG) (tt : FT) (fe : FE) (vs : List Nat) : List D → Env' → Option (List D × Env')
  | [], ρ => if plainAt ρ vs = true then some ([], ρ) else none
  | d :: ds, ρ => if plainAt ρ vs = true then (match g d (wipeS ρ vs) with
    | some ρ1 => (match tt ρ1 with
      | some (true, ρ2) => (match fe ρ2 with
        | some (r, ρ3) => (match frz ρ3 r with
          | some (y, ρ4) => (match lcL g tt fe vs ds ρ4 with
            | some (ys, ρ5) => some (y :: ys, ρ5)
            | none => none)
          | none => none)
        | none => none)
      | some (false, ρ2) => lcL g tt fe vs ds ρ2
      | none => none)
    | none => none) else none
def fLc (fi : FI) (g : FG) (tt : FT) (fe : FE) (vs : List Nat) : FE := fun ρ => match fi ρ with
  | some (ds, ρ1) => if plainAt ρ1 vs = true then (match lcL g tt fe vs ds ρ1 with
    | some (ys, ρ2) => if ys.length ≤ sizeLine then some (.new (.lst ys), backS ρ1 vs ρ2) else none
    | none => none) else none
  | none => none
theorem wipeS_len (ρ : Env') : ∀ vs : List Nat, (wipeS ρ vs).length = ρ.length
  | [] => rfl
  | v :: vs => by
    show ((wipeS ρ vs).set v .unset).length = _
    rw [List.length_set, wipeS_len ρ vs]
theorem wipeS_ne : ∀ {vs : List Nat} {j : Nat}, j ∉ vs → (wipeS ρ vs)[j]? = ρ[j]?
  | [], _, _ => rfl
  | v :: vs, j, h => by
    show ((wipeS ρ vs).set v .unset)[j]? = _
    rw [List.getElem?_set_ne (fun z => h (by rw [z]; exact List.mem_cons_self)), wipeS_ne (fun z => h (List.mem_cons_of_mem _ z))]
theorem wipeS_in : ∀ {vs : List Nat} {j : Nat}, j ∈ vs → ∀ s, (wipeS ρ vs)[j]? = some s → s = .unset
  | v :: vs, j, h, s, e => by
    have e : ((wipeS ρ vs).set v .unset)[j]? = some s := e
    rcases getElem?_set_cases e with ⟨_, z, _⟩ | ⟨hj, e⟩
    · exact z
    · exact wipeS_in ((List.mem_cons.mp h).resolve_left hj) s e
theorem backS_len (ρ0 ρ : Env') : ∀ vs : List Nat, (backS ρ0 vs ρ).length = ρ.length
  | [] => rfl
  | v :: vs => by
    show ((backS ρ0 vs ρ).set v _).length = _
    rw [List.length_set, backS_len ρ0 ρ vs]
theorem backS_ne {ρ0 : Env'} : ∀ {vs : List Nat} {j : Nat}, j ∉ vs → (backS ρ0 vs ρ)[j]? = ρ[j]?
  | [], _, _ => rfl
  | v :: vs, j, h => by
    show ((backS ρ0 vs ρ).set v _)[j]? = _
    rw [List.getElem?_set_ne (fun z => h (by rw [z]; exact List.mem_cons_self)), backS_ne (fun z => h (List.mem_cons_of_mem _ z))]
theorem backS_in {ρ0 : Env'} : ∀ {vs : List Nat} {j : Nat}, j ∈ vs → ∀ s, (backS ρ0 vs ρ)[j]? = some s → s = ρ0[j]?.getD .unset
  | v :: vs, j, h, s, e => by
    have e : ((backS ρ0 vs ρ).set v _)[j]? = some s := e
    rcases getElem?_set_cases e with ⟨z0, z, _⟩ | ⟨hj, e⟩
    · rw [z, z0]
    · exact backS_in ((List.mem_cons.mp h).resolve_left hj) s e
theorem plain_not {s : Option S} (h : plainS s = true) : ∀ b d, s ≠ some (.own b d) := fun b d e => by rw [e] at h; cases h
/-- slots that hold nothing own change -/
theorem Rel.swap {σ2 : St} {ρ2 : Env'} (I : Rel K N B ι σ H ρ) (hl : ρ2.length = σ2.length)
    (hp : ∀ j : Nat, (ρ2[j]? = ρ[j]? ∧ σ2[j]? = σ[j]?) ∨ (plainS ρ[j]? = true ∧ ∀ s : S, ρ2[j]? = some s → s = S.unset ∨ ∃ d v, s = S.val d ∧ σ2[j]? = some (some v) ∧ Rep K (Fbd N σ ρ) H v d)) :
    Rel K N B ι σ2 H ρ2 ∧ (∀ a, Own σ2 ρ2 a ↔ Own σ ρ a) := by
  have st : ∀ {j : Nat} {b : Bool} {d : D}, ρ2[j]? = some (S.own b d) → ρ[j]? = some (S.own b d) ∧ σ2[j]? = σ[j]? := fun {j b d} h => by
    rcases hp j with ⟨e1, e2⟩ | ⟨_, q⟩
    · exact ⟨e1 ▸ h, e2⟩
    · rcases q _ h with z | ⟨_, _, z, _⟩ <;> cases z
  have own : ∀ a, Own σ2 ρ2 a ↔ Own σ ρ a := fun a => by
    constructor
    · rintro ⟨j, b, d, h1, h2⟩
      obtain ⟨e1, e2⟩ := st h1
      exact ⟨j, b, d, e1, e2 ▸ h2⟩
    · rintro ⟨j, b, d, h1, h2⟩
      rcases hp j with ⟨e1, e2⟩ | ⟨q, _⟩
      · exact ⟨j, b, d, e1.trans h1, e2.trans h2⟩
      · exact absurd h1 (plain_not q b d)
  have hf : ∀ a, Fbd N σ2 ρ2 a → Fbd N σ ρ a := fun a z => z.imp id (own a).mp
  refine ⟨⟨hl, fun j d h => ?_, fun j d h => ?_, fun j b d h => ?_, fun j k q b1 d1 b2 d2 h1 h2 h3 h4 => ?_, fun a o h => (I.base a o h).imp id (own a).mpr, I.nH⟩, own⟩
  · rcases hp j with ⟨e1, e2⟩ | ⟨_, q⟩
    · obtain ⟨v, h1, h2⟩ := I.val j d (e1 ▸ h)
      exact ⟨v, e2.trans h1, h2.tr (.less hf)⟩
    · rcases q _ h with z | ⟨d', v, z, h1, h2⟩
      · cases z
      · cases z; exact ⟨v, h1, h2.tr (.less hf)⟩
  · rcases hp j with ⟨e1, e2⟩ | ⟨_, q⟩
    · obtain ⟨v, h1, h2⟩ := I.bor j d (e1 ▸ h)
      exact ⟨v, e2.trans h1, h2.tr (.less hf) (fun a _ z => (own a).mp z) fun _ _ _ q => q⟩
    · rcases q _ h with z | ⟨_, _, z, _⟩ <;> cases z
  · obtain ⟨e1, e2⟩ := st h
    obtain ⟨v, h1, h2, h3⟩ := I.own j b d e1
    exact ⟨v, e2.trans h1, OwnR.tr h2 (.less hf) fun _ q => q, h3⟩
  · obtain ⟨e1, e2⟩ := st h1
    obtain ⟨e3, e4⟩ := st h2
    exact I.uniq j k q _ _ _ _ e1 e3 (e2 ▸ h3) (e4 ▸ h4)
theorem plainAt_of {ρ : Env'} {vs : List Nat} (h : plainAt ρ vs = true) {j : Nat} (hj : j ∈ vs) : plainS ρ[j]? = true := List.all_eq_true.mp h j hj
theorem Rel.wiped {vs : List Nat} (I : Rel K N B ι σ H ρ) (h : plainAt ρ vs = true) : Rel K N B ι (wipe σ vs) H (wipeS ρ vs) ∧ (∀ a, Own (wipe σ vs) (wipeS ρ vs) a ↔ Own σ ρ a) := by
  refine I.swap (by rw [wipeS_len, wipe_length]; exact I.len) fun j => ?_
  by_cases hj : j ∈ vs
  · exact .inr ⟨plainAt_of h hj, fun s e => .inl (wipeS_in hj s e)⟩
  · exact .inl ⟨wipeS_ne hj, wipe_out hj⟩
theorem ext_of_own {σ1 σ2 : St} {ρ2 : Env'} (h1 : ∀ a, Own σ1 ρ1 a ↔ Own σ ρ a) (h2 : ∀ a, Own σ2 ρ2 a ↔ Own σ' ρ' a) (x : Ext σ ρ H σ' ρ' H') : Ext σ1 ρ1 H σ2 ρ2 H' :=
  ⟨fun a o n h => ⟨(x.keep a o (fun z => n ((h1 a).mpr z)) h).1, fun z => (x.keep a o (fun z => n ((h1 a).mpr z)) h).2 ((h2 a).mp z)⟩, x.live⟩
theorem wipe_wipe {σ : St} {vs : List Nat} : wipe (wipe σ vs) vs = wipe σ vs := by
  have wi : ∀ (ws : List Nat) (i : Nat), i ∈ ws → (wipe σ ws).set i none = wipe σ ws := by
    intro ws i
    induction ws with
    | nil => intro h; cases h
    | cons w ws ih =>
      intro h
      show ((wipe σ ws).set w none).set i none = (wipe σ ws).set w none
      by_cases e : w = i
      · subst e; rw [List.set_set]
      · rw [List.set_comm _ _ e, ih ((List.mem_cons.mp h).resolve_left (Ne.symm e))]
  have go : ∀ (us : List Nat), (∀ i, i ∈ us → i ∈ vs) → wipe (wipe σ vs) us = wipe σ vs := by
    intro us
    induction us with
    | nil => intro _; rfl
    | cons u us ih =>
      intro h
      show (wipe (wipe σ vs) us).set u none = wipe σ vs
      rw [ih fun i hi => h i (List.mem_cons_of_mem _ hi)]
      exact wi vs u (h u List.mem_cons_self)
  exact go vs fun _ h => h
theorem same_but {σ' : St} {o : HO} (x : Ext σ ρ H σ' ρ' H') (h : H p = none) : Ext σ ρ H σ' ρ' (upd H' p o) := by
  refine ⟨fun a u n e => ?_, fun a e => x.live a (hl_upd a e)⟩
  rw [upd_ne (ne_of_none e h)]
  exact x.keep a u n e
/-- the thing at p, which is shut, changes -/
theorem Rel.atN {o : HO} (I : Rel K N B ι σ H ρ) (hp : N p) (hB : B p = none) : Rel K N B ι σ (upd H p o) ρ ∧ TrR (Fbd N σ ρ) H (Fbd N σ ρ) (upd H p o) := by
  have t : TrR (Fbd N σ ρ) H (Fbd N σ ρ) (upd H p o) := fun a u n h => by
    have na : a ≠ p := fun z => n (z ▸ .inl hp)
    exact ⟨h.elim (fun h => .inl (hk_upd _ _ na h)) (fun ⟨o, h⟩ => .inr ⟨o, hk_upd _ _ na h⟩), n⟩
  refine ⟨⟨I.len, fun j d h => ?_, fun j d h => ?_, fun j b d h => ?_, I.uniq, fun a u h => ?_, fun a h z => I.nH a h (hl_upd a z)⟩, t⟩
  · obtain ⟨v, h1, h2⟩ := I.val j d h
    exact ⟨v, h1, h2.tr t⟩
  · obtain ⟨v, h1, h2⟩ := I.bor j d h
    refine ⟨v, h1, ?_⟩
    rcases h2 with h2 | ⟨⟨a, e, n, b⟩, h2⟩
    · exact .inl (h2.tr t)
    · refine .inr ⟨⟨a, e, n, b⟩, h2.tr t fun q u e' z => ?_⟩
      rw [e] at e'; cases e'
      have na : a ≠ p := fun z => b (z ▸ hB)
      exact z.elim (fun h => .inl (hk_upd _ _ na h)) (fun ⟨o, h⟩ => .inr ⟨o, hk_upd _ _ na h⟩)
  · obtain ⟨q, h1, h2, h3, h4⟩ := I.own j b d h
    refine ⟨q, h1, OwnR.tr h2 t fun o z => hk_upd _ _ (fun w => ?_) z, h3, h4⟩
    subst w
    exact h3 hp
  · rcases I.base a u h with z | z
    · exact .inl (hk_upd _ _ (fun w => by rw [w, hB] at h; cases h) z)
    · exact .inr z
theorem se_lc {Z : Addr → Prop} {wi : TI} {fi : FI} {g : TG} {fg : FG} {tt : TT} {ft : FT} {te : TE} {fe : FE} {vs : List Nat} (hi : SI K Z wi fi) (hg : SG K vs g fg) (ht : ST K tt ft) (he : SE K te fe) : SE K (tUE Z (tLc wi g tt te vs)) (fLc fi fg ft fe vs) := by
  intro N B ι σ H ρ r ρ' I e Q k
  unfold fLc at e
  cases e1 : fi ρ with
  | none => rw [e1] at e; cases e
  | some q =>
    obtain ⟨ds, ρ1⟩ := q
    simp only [e1] at e
    split at e
    · rename_i hpl
      cases e2 : lcL fg ft fe vs ds ρ1 with
      | none => simp only [e2] at e; cases e
      | some q2 =>
        obtain ⟨ys, ρ2⟩ := q2
        simp only [e2] at e
        split at e
        · rename_i hys
          cases e
          refine hi N B ι σ H ρ ds ρ1 I e1 _ fun J Ha H1 B1 x1 I1 it kk => ?_
          intro pD hD
          obtain ⟨G, Y, w, hG, hGx, hy⟩ := it
          have own1 := (I1.wiped hpl).2
          have sD : Same H1 (upd H1 pD (.lst [])) := upd_ns hD
          have IP : Rel K (fun a => N a ∨ a = pD) B1 ι σ (upd H1 pD (.lst [])) ρ1 := I1.plus hD sD (by rw [upd_same]; exact fun z => nomatch z)
          have hB : B1 pD = none := I1.noB hD
          -- the word: what is made so far, what is left
          let W : Nat → Hp → Prop := fun i Hi => ∃ ρi acc accD rest, lcL fg ft fe vs (ds.drop i) ρi = some (rest, ρ2) ∧ ys = accD ++ rest ∧ plainAt ρi vs = true ∧ Rel K (fun a => N a ∨ a = pD) B1 ι (wipe σ vs) Hi (wipeS ρi vs) ∧
            Ext σ ρ1 H1 (wipe σ vs) (wipeS ρi vs) Hi ∧ Hi pD = some (.lst acc) ∧ Reps K (Fbd (fun a => N a ∨ a = pD) (wipe σ vs) (wipeS ρi vs)) Hi acc accD
          have plain0 : ∀ {l : List DL.D} {ρi : Env'} {q : List DL.D × Env'}, lcL fg ft fe vs l ρi = some q → plainAt ρi vs = true := fun {l ρi q} h => by
            cases l with
            | nil =>
              have h : (if plainAt ρi vs = true then some (([] : List DL.D), ρi) else none) = some q := h
              split at h
              · assumption
              · cases h
            | cons d l =>
              unfold lcL at h
              split at h
              · assumption
              · cases h
          refine lc_it w W ⟨ρ1, [], [], ys, e2, rfl, hpl, (IP.wiped hpl).1, same_but ⟨fun a o n h => ⟨h, fun z => n ((own1 a).mp z)⟩, fun _ h => h⟩ hD, upd_same, .nil⟩ (fun i Hi _ ⟨ρi, acc, accD, rest, _, _, _, _, x, _⟩ => hGx _ _ _ x) ?_ ?_
          · rintro i x Hi H2 hilt ⟨ρi, acc, accD, rest, ei, ey, pli, Ii, xi, hDi, ra⟩ y
            obtain ⟨d, h1, h2, h3⟩ := hy (fun a => N a ∨ a = pD) B1 ι (wipe σ vs) (wipeS ρi vs) Hi i x H2 (fun a z => z.imp id fun z => by rw [z]; exact hD) xi Ii y
            have I2 := Ii.same h2
            have dr : ds.drop i = d :: ds.drop (i + 1) := by
              rw [List.drop_eq_getElem_cons hilt]
              rw [List.getElem?_eq_getElem hilt] at h1
              cases h1
              rfl
            rw [dr] at ei
            unfold lcL at ei
            rw [if_pos pli] at ei
            cases f1 : fg d (wipeS ρi vs) with
            | none => simp only [f1] at ei; cases ei
            | some ρa =>
              simp only [f1] at ei
              refine hg _ B1 ι _ H2 _ x d ρa I2 h3 f1 _ fun σ3 H3 w3 x3 I3 => ⟨w3.trans wipe_wipe, ?_⟩
              cases f2 : ft ρa with
              | none => simp only [f2] at ei; cases ei
              | some q2 =>
                obtain ⟨b, ρb⟩ := q2
                simp only [f2] at ei
                refine ht _ B1 ι σ3 H3 ρa b ρb I3 f2 _ fun H4 x4 I4 => ?_
                have hD4 : H4 pD = some (.lst acc) := by
                  have n1 : ∀ {N' σ' ρ' H'}, Rel K N' B1 ι σ' H' ρ' → N' pD → ¬ Own σ' ρ' pD := fun I' n z => I'.notN z n
                  have e2 : H2 pD = some (.lst acc) := h2 _ _ hDi
                  have e3 := (x3.keep pD _ (n1 I2 (.inr rfl)) e2).1
                  exact (x4.keep pD _ (n1 I3 (.inr rfl)) e3).1
                have xx : Ext σ ρ1 H1 σ3 ρb H4 := ((xi.trans (Ext.same h2)).trans x3).trans x4
                have rr : Reps K (Fbd (fun a => N a ∨ a = pD) σ3 ρb) H4 acc accD := ((ra.tr (Ext.same h2).tr).tr x3.tr).tr x4.tr
                cases b with
                | false =>
                  rw [if_neg Bool.false_ne_true]
                  have plb := plain0 ei
                  obtain ⟨Iw, ow⟩ := I4.wiped plb
                  rw [w3.trans wipe_wipe] at Iw ow
                  exact ⟨ρb, acc, accD, rest, ei, ey, plb, Iw, ext_of_own (fun _ => Iff.rfl) ow xx, hD4, rr.tr (.less fun a z => z.imp id (ow a).mp)⟩
                | true =>
                  rw [if_pos rfl]
                  cases f3 : fe ρb with
                  | none => simp only [f3] at ei; cases ei
                  | some q3 =>
                    obtain ⟨r3, ρc⟩ := q3
                    simp only [f3] at ei
                    cases f4 : frz ρc r3 with
                    | none => simp only [f4] at ei; cases ei
                    | some q4 =>
                      obtain ⟨yd, ρd⟩ := q4
                      simp only [f4] at ei
                      cases f5 : lcL fg ft fe vs (ds.drop (i + 1)) ρd with
                      | none => simp only [f5] at ei; cases ei
                      | some q5 =>
                        obtain ⟨rest', ρe⟩ := q5
                        simp only [f5] at ei
                        cases ei
                        refine he.use I4 f3 fun yv H5 x5 I5 z5 => ?_
                        obtain ⟨I6, r6, x6⟩ := frz_ok I5 z5 f4
                        have hD5 : H5 pD = some (.lst acc) := (x5.keep pD _ (fun z => I4.notN z (.inr rfl)) hD4).1
                        have rr5 : Reps K (Fbd (fun a => N a ∨ a = pD) σ3 ρd) H5 acc accD := (rr.tr x5.tr).tr x6.tr
                        refine ⟨acc, hD5, ?_, ?_⟩
                        · rw [rr5.length]
                          rw [ey, List.length_append, List.length_cons] at hys
                          omega
                        · have pld := plain0 f5
                          obtain ⟨I7, t7⟩ := I6.atN (p := pD) (o := .lst (acc ++ [yv])) (.inr rfl) hB
                          obtain ⟨Iw, ow⟩ := I7.wiped pld
                          rw [w3.trans wipe_wipe] at Iw ow
                          refine ⟨ρd, acc ++ [yv], accD ++ [yd], rest', f5, by rw [ey, List.append_assoc]; rfl, pld, Iw, ?_, upd_same, ?_⟩
                          · exact ext_of_own (fun _ => Iff.rfl) ow (same_but ((xx.trans x5).trans x6) hD)
                          · exact ((rr5.append (.one r6)).tr t7).tr (.less fun a z => z.imp id (ow a).mp)
          · rintro Hn ⟨ρn, acc, accD, rest, en, ey, pln, In, xn, hDn, ra⟩
            rw [List.drop_length] at en
            unfold lcL at en
            rw [if_pos pln] at en
            obtain ⟨e9, e8⟩ := Prod.mk.inj (Option.some.inj en)
            subst e9 e8
            rw [List.append_nil] at ey
            subst ey
            have t1 : TrR (Fbd N σ ρ1) H1 (Fbd (fun a => N a ∨ a = pD) (wipe σ vs) (wipeS ρn vs)) Hn := tr_more xn fun a z => z.imp id fun z => by rw [z]; exact hD
            obtain ⟨Ib, ob⟩ := In.swap (σ2 := σ) (ρ2 := backS ρ1 vs ρn) (by rw [backS_len, ← wipeS_len ρn vs, In.len, wipe_length]) fun j => by
              by_cases hj : j ∈ vs
              · refine .inr ⟨?_, fun s es => ?_⟩
                · cases c : (wipeS ρn vs)[j]? with
                  | none =>
                    have := plainAt_of pln hj
                    rw [List.getElem?_eq_none (by rw [← wipeS_len ρn vs]; exact List.getElem?_eq_none_iff.mp c)] at this
                    cases this
                  | some s => rw [wipeS_in hj s c]; rfl
                · have es := backS_in hj s es
                  have pj := plainAt_of hpl hj
                  cases c : ρ1[j]? with
                  | none => rw [c] at pj; cases pj
                  | some s1 =>
                    rw [c] at pj es
                    cases s1 with
                    | unset => exact .inl es
                    | val d1 =>
                      obtain ⟨v1, g1, g2⟩ := I1.val j d1 c
                      exact .inr ⟨d1, v1, es, g1, g2.tr t1⟩
                    | _ => cases pj
              · exact .inl ⟨by rw [backS_ne hj, wipeS_ne hj], by rw [wipe_out hj]⟩
            obtain ⟨H3, u1, u2, u3, u4, u5⟩ := kk.un _ σ _ Hn (fun a z => z.imp id fun z => by rw [z]; exact hB) Ib (ext_of_own (fun _ => Iff.rfl) ob xn)
            exact ⟨H3, u1, k _ H3 (x1.trans u3) ⟨pD, rfl, x1.live pD (kk.live pD hD), fun z => I1.nH pD z hD, u2, acc, u5 pD _ hB hDn, (ra.tr (.less fun a z => z.imp id (ob a).mp)).trW u4⟩⟩
        · cases e
    · cases e
end
end DL
set_option maxRecDepth 100000
set_option maxHeartbeats 4000000
namespace DL
open PySem PySem.Spec L2
section
variable {K : PySem.W.Frag} {Fb : Addr → Prop} {H H' : Hp} {X : Cx}
theorem repT_int {v : V} {i : Int} (h : RepT K Fb H v (.int i)) : v = .int i := by cases (show Rep K Fb H v (.int i) from h); rfl
theorem repT_str {v : V} {x : Str} (h : RepT K Fb H v (.str x)) : v = .str x := by cases (show Rep K Fb H v (.str x) from h); rfl
theorem repT_bl {v : V} {b : Bool} (h : RepT K Fb H v (.bl b)) : v = .bl b := by cases (show Rep K Fb H v (.bl b) from h); rfl
theorem repT_non {v : V} (h : RepT K Fb H v .non) : v = .non := by cases (show Rep K Fb H v .non from h); rfl
theorem repT_tup {v : V} {ds : List D} (h : RepT K Fb H v (.tup ds)) : ∃ a vs, v = .ref a ∧ TupAt K Fb H a vs ∧ Reps K Fb H vs ds := by
  cases (show Rep K Fb H v (.tup ds) from h) with
  | tup h1 r1 => exact ⟨_, _, rfl, h1, r1⟩
theorem repT_scr {v : V} {ns : List Int} (h : RepT K Fb H v (.scr ns)) : ∃ a, v = .ref a ∧ SqL K H a (ns.map V.int) := by
  cases (show Rep K Fb H v (.scr ns) from h) with
  | scr h => exact ⟨_, rfl, h.sq⟩
theorem vr_new {p : Addr} {ds : List D} {vs : List V} (hp : H p = none) (r : Reps K Fb H vs ds) : VR K Fb H (upd H p (.lst vs)) (.ref p) (.new (.lst ds)) := ⟨p, rfl, hp, vs, upd_same, r.tr (.plus hp (upd_ns hp))⟩
theorem vr_newD {p : Addr} {ds : List (Str × D)} {vs : List (Key × V)} (hp : H p = none) (r : RepK K Fb H vs ds) : VR K Fb H (upd H p (.dK vs)) (.ref p) (.new (.dct ds)) := ⟨p, rfl, hp, vs, upd_same, r.tr (.plus hp (upd_ns hp))⟩
theorem vr_tup {p : Addr} {ds : List D} {vs : List V} (hF : Fresh Fb H) (hp : H p = none) (r : Reps K Fb H vs ds) : VR K Fb H (upd H p (.tup vs)) (.ref p) (.val (.tup ds)) :=
  Rep.tup (.inl ⟨fun z => hF p z hp, .of upd_same⟩) (r.tr (.same (upd_ns hp)))

def gAdd : D → D → Option R
  | .int i, .int j => some (.val (.int (i + j)))
  | .str x, .str y => if x.length + y.length ≤ sizeLine then some (.val (.str (x ++ y))) else none
  | .tup xs, .tup ys => if xs.length + ys.length ≤ sizeLine then some (.val (.tup (xs ++ ys))) else none
  | .lst xs, .lst ys => if xs.length + ys.length ≤ sizeLine then some (.new (.lst (xs ++ ys))) else none
  | _, _ => none
def rCatL : R2 := fun x y H Q => ∃ l b xs zs, x = .ref l ∧ y = .ref b ∧ Rd H l (.lst xs) ∧ Rd H b (.lst zs) ∧ xs.length + zs.length ≤ sizeLine ∧ ∀ p, H p = none → Q (.ref p) (upd H p (.lst (xs ++ zs)))
theorem op_catL : OpR X (binaryOp .Add) rCatL := by
  intro pins s σ H x y v u Q I rx ry h
  obtain ⟨l, b, xs, zs, rfl, rfl, hH, hB, hz, q⟩ := h
  cases rx
  cases ry
  obtain ⟨z, its, n, r, e⟩ := hH.ok I.hok
  obtain ⟨z2, its2, n2, r2, e2⟩ := hB.ok I.hok
  have hl := r.length
  have hl2 := r2.length
  refine PySem.P.add_list e e2 ?_ (by rw [List.size_toArray, List.size_toArray]; omega)
  have ea : its.toArray ++ its2.toArray = (its ++ its2).toArray := by simp
  rw [ea]
  exact ⟨.ref _, _, I.lnew (t' := s.toks) (r.append r2) (by rw [List.length_append]; omega), rfl, q _ I.fresh⟩
def rAddA (K : PySem.W.Frag) : R2 := fun x y H Q => (rI0 fun i j => V.int (i + j)) x y H Q ∨ (∃ i j, x = .str i ∧ y = .str j ∧ i.length + j.length ≤ sizeLine ∧ Q (.str (i ++ j)) H) ∨ rCatA K x y H Q ∨ rCatL x y H Q
theorem op_addA : OpR X (binaryOp .Add) (rAddA X.K) := op_add.or (op_add_str.or (op_catA.or op_catL))
theorem u_add : U2 K (rAddA K) gAdd := by
  intro Fb H v w d e r hF hv hw hg Q k
  unfold gAdd at hg
  split at hg
  · cases hg
    rw [repT_int hv, repT_int hw]
    exact .inl ⟨_, _, rfl, rfl, k _ H (.refl _) Rep.int⟩
  · split at hg
    · rename_i hl
      cases hg
      rw [repT_str hv, repT_str hw]
      exact .inr (.inl ⟨_, _, rfl, rfl, hl, k _ H (.refl _) Rep.str⟩)
    · cases hg
  · rename_i xs ys
    split at hg
    · rename_i hl
      cases hg
      obtain ⟨a, vs, rfl, h1, r1⟩ := repT_tup hv
      obtain ⟨b, ws, rfl, h2, r2⟩ := repT_tup hw
      refine .inr (.inr (.inl ⟨a, b, vs, ws, rfl, rfl, h1.sq, h2.sq, by rw [r1.length, r2.length]; exact hl, fun e => ?_, fun _ e => ?_, fun _ _ p hp => ?_⟩))
      · subst e
        cases r1
        exact k _ H (.refl _) (Rep.tup h2 r2)
      · subst e
        cases r2
        rw [List.append_nil] at k
        exact k _ H (.refl _) (Rep.tup h1 r1)
      · exact k _ _ (upd_ns hp) (vr_tup hF hp (r1.append r2))
    · cases hg
  · split at hg
    · rename_i hl
      cases hg
      obtain ⟨a, vs, rfl, h1, r1⟩ := hv
      obtain ⟨b, ws, rfl, h2, r2⟩ := hw
      exact .inr (.inr (.inr ⟨a, b, vs, ws, rfl, rfl, h1, h2, by rw [r1.length, r2.length]; exact hl, fun p hp => k _ _ (upd_ns hp) (vr_new hp (r1.append r2))⟩))
    · cases hg
  · cases hg
def gSub : D → D → Option R
  | .int i, .int j => some (.val (.int (i - j)))
  | _, _ => none
theorem u_sub : U2 K (rI0 fun i j => V.int (i - j)) gSub := by
  intro Fb H v w d e r hF hv hw hg Q k
  unfold gSub at hg
  split at hg
  · cases hg
    rw [repT_int hv, repT_int hw]
    exact ⟨_, _, rfl, rfl, k _ H (.refl _) Rep.int⟩
  · cases hg
instance (i j : Int) : Decidable (CMul i j) := by unfold CMul; infer_instance
def gMul : D → D → Option R
  | .int i, .int j => if CMul i j then some (.val (.int (i * j))) else none
  | _, _ => none
theorem u_mul : U2 K (rI CMul fun i j => V.int (i * j)) gMul := by
  intro Fb H v w d e r hF hv hw hg Q k
  unfold gMul at hg
  split at hg
  · split at hg
    · rename_i hc
      cases hg
      rw [repT_int hv, repT_int hw]
      exact ⟨_, _, rfl, rfl, hc, k _ H (.refl _) Rep.int⟩
    · cases hg
  · cases hg
def gMod : D → D → Option R
  | .int i, .int j => if 0 < j then some (.val (.int (i % j))) else none
  | _, _ => none
theorem u_mod : U2 K (rI (fun _ j => 0 < j) fun i j => V.int (i % j)) gMod := by
  intro Fb H v w d e r hF hv hw hg Q k
  unfold gMod at hg
  split at hg
  · split at hg
    · rename_i hc
      cases hg
      rw [repT_int hv, repT_int hw]
      exact ⟨_, _, rfl, rfl, hc, k _ H (.refl _) Rep.int⟩
    · cases hg
  · cases hg
instance (i j : Int) : Decidable (CDiv i j) := by unfold CDiv; infer_instance
def gFDiv : D → D → Option R
  | .int i, .int j => if CDiv i j then some (.val (.int (i / j))) else none
  | _, _ => none
theorem u_fdiv : U2 K (rI CDiv fun i j => V.int (i / j)) gFDiv := by
  intro Fb H v w d e r hF hv hw hg Q k
  unfold gFDiv at hg
  split at hg
  · split at hg
    · rename_i hc
      cases hg
      rw [repT_int hv, repT_int hw]
      exact ⟨_, _, rfl, rfl, hc, k _ H (.refl _) Rep.int⟩
    · cases hg
  · cases hg
def gNeg : D → Option R
  | .int i => some (.val (.int (-i)))
  | _ => none
theorem u_neg : U1 K (rU fun i => V.int (-i)) gNeg := by
  intro Fb H v d r hF hv hg Q k
  unfold gNeg at hg
  split at hg
  · cases hg
    rw [repT_int hv]
    exact ⟨_, rfl, k _ H (.refl _) Rep.int⟩
  · cases hg
def gCmp (p : Int → Int → Bool) : D → D → Option R
  | .int i, .int j => some (.val (.bl (p i j)))
  | _, _ => none
theorem u_cmp {p : Int → Int → Bool} : U2 K (rI0 fun i j => V.bl (p i j)) (gCmp p) := by
  intro Fb H v w d e r hF hv hw hg Q k
  unfold gCmp at hg
  split at hg
  · cases hg
    rw [repT_int hv, repT_int hw]
    exact ⟨_, _, rfl, rfl, k _ H (.refl _) Rep.bl⟩
  · cases hg
abbrev gLt : D → D → Option R := gCmp fun i j => decide (i < j)
abbrev gLe : D → D → Option R := gCmp fun i j => decide (i ≤ j)
abbrev gGt : D → D → Option R := gCmp fun i j => decide (j < i)
abbrev gGe : D → D → Option R := gCmp fun i j => decide (j ≤ i)
mutual
def toPy : D → Option PyData
  | .non => some .none
  | .bl b => some (.bool b)
  | .int i => some (.int i)
  | .str x => some (.str x)
  | .tup xs => (match toPys xs with
    | some l => some (.tuple l)
    | none => none)
  | .lst xs => (match toPys xs with
    | some l => some (.list l)
    | none => none)
  | .dct _ => none
  | .obj _ => none
  | .scr ns => some (.list (ns.map PyData.int))
def toPys : List D → Option (List PyData)
  | [] => some []
  | x :: xs => (match toPy x, toPys xs with
    | some a, some l => some (a :: l)
    | _, _ => none)
end
mutual
theorem dp_of : ∀ {d : D} {v : V} {e : PyData}, Rep K Fb H v d → toPy d = some e → Dp K H v e
  | _, _, _, .non, h => by cases h; exact .non
  | _, _, _, .bl, h => by cases h; exact .bl _
  | _, _, _, .int, h => by cases h; exact .int _
  | _, _, _, .str, h => by cases h; exact .str _
  | _, _, e, @Rep.tup _ _ _ _ _ ds a r, h => by
    unfold toPy at h
    cases q : toPys ds with
    | none => rw [q] at h; cases h
    | some l => rw [q] at h; cases h; exact .tup a.sq (dps_of r q)
  | _, _, e, @Rep.lst _ _ _ _ _ ds a r, h => by
    unfold toPy at h
    cases q : toPys ds with
    | none => rw [q] at h; cases h
    | some l => rw [q] at h; cases h; exact .lst a.sq (dps_of r q)
  | _, _, _, .dct _ _ _, h => by cases h
  | _, _, _, .obj, h => by cases h
  | _, _, _, @Rep.scr _ _ _ _ ns a, h => by
    cases h
    refine .lst a.sq ?_
    have go : ∀ l : List Int, DpAll K H (l.map V.int) (l.map PyData.int) := by
      intro l
      induction l with
      | nil => exact .nil
      | cons i l ih => exact .cons (.int i) ih
    exact go ns
theorem dps_of : ∀ {ds : List D} {vs : List V} {es : List PyData}, Reps K Fb H vs ds → toPys ds = some es → DpAll K H vs es
  | _, _, _, .nil, h => by cases h; exact .nil
  | _, _, es, @Reps.cons _ _ _ _ d _ ds a r, h => by
    unfold toPys at h
    cases q : toPy d with
    | none => simp only [q] at h; cases h
    | some e =>
      cases q2 : toPys ds with
      | none => simp only [q, q2] at h; cases h
      | some l => simp only [q, q2] at h; cases h; exact .cons (dp_of a q) (dps_of r q2)
end
theorem dpT_of {d : D} {v : V} {e : PyData} (h : RepT K Fb H v d) (q : toPy d = some e) : Dp K H v e := by
  cases d with
  | lst ds =>
    obtain ⟨a, vs, rfl, h1, r1⟩ := h
    unfold toPy at q
    cases q1 : toPys ds with
    | none => rw [q1] at q; cases q
    | some l => rw [q1] at q; cases q; exact .lst (.inl h1) (dps_of r1 q1)
  | dct _ => cases q
  | obj _ => cases q
  | non => exact dp_of (Fb := Fb) h q
  | bl _ => exact dp_of (Fb := Fb) h q
  | int _ => exact dp_of (Fb := Fb) h q
  | str _ => exact dp_of (Fb := Fb) h q
  | tup _ => exact dp_of (Fb := Fb) h q
  | scr _ => exact dp_of (Fb := Fb) h q
def gEqB (f : Bool → Bool) (d e : D) : Option R := match toPy d, toPy e with
  | some a, some b => if SeqAt.shaped a && SeqAt.shaped b then some (.val (.bl (f (PyData.eqv a b)))) else none
  | _, _ => none
def gEqS (f : Bool → Bool) : D → D → Option R
  | .str x, .str y => some (.val (.bl (f (x == y))))
  | .int x, .int y => some (.val (.bl (f (x == y))))
  | d, e => gEqB f d e
abbrev gEq : D → D → Option R := gEqS id
abbrev gNe : D → D → Option R := gEqS not
def rEqA (K : PySem.W.Frag) : R2 := fun x y H Q => rEq x y H Q ∨ rEqD K x y H Q
def rNeA (K : PySem.W.Frag) : R2 := fun x y H Q => rNe x y H Q ∨ rNeD K x y H Q
theorem op_eqA (hu : X.A.units + 64 < cLine) : OpR X (compareOp .Eq) (rEqA X.K) := op_eq.or (op_eqD hu)
theorem op_neA (hu : X.A.units + 64 < cLine) : OpR X (compareOp .NotEq) (rNeA X.K) := op_ne.or (op_neD hu)
theorem gEqB_eq {f : Bool → Bool} {d e : D} {r : R} (h : gEqB f d e = some r) : ∃ a b, toPy d = some a ∧ toPy e = some b ∧ SeqAt.shaped a = true ∧ SeqAt.shaped b = true ∧ r = .val (.bl (f (PyData.eqv a b))) := by
  unfold gEqB at h
  cases q1 : toPy d with
  | none => simp only [q1] at h; cases h
  | some a =>
    cases q2 : toPy e with
    | none => simp only [q1, q2] at h; cases h
    | some b =>
      simp only [q1, q2] at h
      split at h
      · rename_i hs
        obtain ⟨h1, h2⟩ := Bool.and_eq_true_iff.mp hs
        cases h
        exact ⟨a, b, rfl, rfl, h1, h2, rfl⟩
      · cases h
theorem u_eq : U2 K (rEqA K) gEq := by
  intro Fb H v w d e r hF hv hw hg Q k
  unfold gEq gEqS at hg
  split at hg
  · cases hg
    rw [repT_str hv, repT_str hw]
    exact .inl ⟨rfl, by rw [dec_str]; exact k _ H (.refl _) Rep.bl⟩
  · cases hg
    rw [repT_int hv, repT_int hw]
    exact .inl ⟨rfl, by rw [dec_int]; exact k _ H (.refl _) Rep.bl⟩
  · obtain ⟨a, b, h1, h2, h3, h4, rfl⟩ := gEqB_eq hg
    exact .inr ⟨a, b, dpT_of hv h1, dpT_of hw h2, h3, h4, k _ H (.refl _) Rep.bl⟩
theorem u_ne : U2 K (rNeA K) gNe := by
  intro Fb H v w d e r hF hv hw hg Q k
  unfold gNe gEqS at hg
  split at hg
  · cases hg
    rw [repT_str hv, repT_str hw]
    exact .inl ⟨rfl, by rw [dec_str]; exact k _ H (.refl _) Rep.bl⟩
  · cases hg
    rw [repT_int hv, repT_int hw]
    exact .inl ⟨rfl, by rw [dec_int]; exact k _ H (.refl _) Rep.bl⟩
  · obtain ⟨a, b, h1, h2, h3, h4, rfl⟩ := gEqB_eq hg
    exact .inr ⟨a, b, dpT_of hv h1, dpT_of hw h2, h3, h4, k _ H (.refl _) Rep.bl⟩
def isNonD : D → Bool
  | .non => true
  | _ => false
theorem isNon_ok {v : V} {d : D} (h : RepT K Fb H v d) : decide (v = .non) = isNonD d := by
  cases d with
  | lst ds => obtain ⟨a, vs, rfl, _⟩ := h; rfl
  | dct ds => obtain ⟨a, vs, rfl, _⟩ := h; rfl
  | non => rw [repT_non h]; rfl
  | bl _ => rw [repT_bl h]; rfl
  | int _ => rw [repT_int h]; rfl
  | str _ => rw [repT_str h]; rfl
  | tup _ => obtain ⟨a, vs, rfl, _⟩ := repT_tup h; rfl
  | scr _ => obtain ⟨a, rfl, _⟩ := repT_scr h; rfl
  | obj _ => cases h; rfl
def gIs (f : Bool → Bool) : D → D → Option R
  | d, .non => some (.val (.bl (f (isNonD d))))
  | _, _ => none
theorem u_isN : U2 K (fun x y H Q => y = .non ∧ Q (.bl (decide (x = .non))) H) (gIs id) := by
  intro Fb H v w d e r hF hv hw hg Q k
  unfold gIs at hg
  split at hg
  · cases hg
    exact ⟨repT_non hw, by rw [isNon_ok hv]; exact k _ H (.refl _) Rep.bl⟩
  · cases hg
theorem u_notN : U2 K (fun x y H Q => y = .non ∧ Q (.bl (!decide (x = .non))) H) (gIs not) := by
  intro Fb H v w d e r hF hv hw hg Q k
  unfold gIs at hg
  split at hg
  · cases hg
    exact ⟨repT_non hw, by rw [isNon_ok hv]; exact k _ H (.refl _) Rep.bl⟩
  · cases hg
def gIx : D → D → Option R
  | .tup xs, .int i => (match atI xs i with
    | some d => some (.val d)
    | none => none)
  | .lst xs, .int i => (match atI xs i with
    | some d => some (.val d)
    | none => none)
  | .scr ns, .int i => (match atI ns i with
    | some n => some (.val (.int n))
    | none => none)
  | .str z, .int i => if z.length ≤ sizeLine then (match atI z.cps.toList i with
    | some c => some (.val (.str ⟨#[c]⟩))
    | none => none) else none
  | .dct kvs, .str x => (match dget kvs x with
    | some d => some (.val d)
    | none => none)
  | _, _ => none
theorem atI_rep {vs : List V} {ds : List D} {i : Int} {d : D} (r : Reps K Fb H vs ds) (h : atI ds i = some d) : ∃ v, atI vs i = some v ∧ Rep K Fb H v d := by
  unfold atI at h ⊢
  rw [r.length]
  cases e : ixN ds.length i with
  | none => rw [e] at h; cases h
  | some j =>
    rw [e] at h
    exact r.get (show ds[j]? = some d from h)
def rIxA (K : PySem.W.Frag) : R2 := fun x y H Q => rIx K x y H Q
theorem tDGet_or {hu : X.A.units + 1 < cLine} {a b : Expr} {ta tb : TE} {pos : Pos} (ha : PE X a ta) (hb : PE X b tb) (hs : PlainIx b) (hs2 : NoSl b) : PE X (.Subscript a b pos) (fun σ H Q => tOp (rIx X.K) ta tb σ H Q ∨ tDGet ta tb σ H Q) :=
  ⟨fun pins s σ H Q I q => q.elim ((pe_ix ix_seq ha hb hs).run pins s σ H Q I) ((pe_dget hu ha hb hs2).run pins s σ H Q I)⟩
theorem se_ix {ta tb : TE} {fa fb : FE} (ha : SE K ta fa) (hb : SE K tb fb) : SE K (fun σ H Q => tOp (rIx K) ta tb σ H Q ∨ tDGet ta tb σ H Q) (f2 gIx fa fb) := by
  intro N B ι σ H ρ r ρ' I e Q k
  obtain ⟨r1, ρ1, r2, d1, d2, e1, e2, c1, c2, e3⟩ := f2_eq e
  have base : ∀ {Q : V → V → Hp → Prop}, (∀ v w H2, Ext σ ρ H σ ρ' H2 → Rel K N B ι σ H2 ρ' → RepT K (Fbd N σ ρ') H2 v d1 → RepT K (Fbd N σ ρ') H2 w d2 → Q v w H2) → ta σ H fun x H1 => tb σ H1 fun y H2 => Q x y H2 := fun {Q} kk =>
    ha.use I e1 fun v H1 x1 I1 q1 => hb.use I1 e2 fun w H2 x2 I2 q2 => kk v w H2 (x1.trans x2) I2 ((q1.ext x2).top I2 c1) (q2.top I2 c2)
  unfold gIx at e3
  split at e3
  · split at e3
    · rename_i hd
      cases e3
      refine .inl (base fun v w H2 x I2 q1 q2 => ?_)
      obtain ⟨a, vs, rfl, h1, rs⟩ := repT_tup q1
      obtain ⟨u, hu, ru⟩ := atI_rep rs hd
      rw [repT_int q2]
      exact .inr (.inl ⟨a, vs, _, u, rfl, rfl, h1.sq, hu, k u H2 x ⟨I2, ru⟩⟩)
    · cases e3
  · split at e3
    · rename_i hd
      cases e3
      refine .inl (base fun v w H2 x I2 q1 q2 => ?_)
      obtain ⟨a, vs, rfl, h1, rs⟩ := q1
      obtain ⟨u, hu, ru⟩ := atI_rep rs hd
      rw [repT_int q2]
      exact .inl ⟨a, vs, _, u, rfl, rfl, .inl h1, hu, k u H2 x ⟨I2, ru⟩⟩
    · cases e3
  · split at e3
    · rename_i ns i _ n hd
      cases e3
      refine .inl (base fun v w H2 x I2 q1 q2 => ?_)
      obtain ⟨a, rfl, h1⟩ := repT_scr q1
      rw [repT_int q2]
      refine .inl ⟨a, _, _, _, rfl, rfl, h1, ?_, k _ H2 x ⟨I2, .int⟩⟩
      unfold atI at hd ⊢
      rw [List.length_map]
      cases e : ixN ns.length i with
      | none => rw [e] at hd; cases hd
      | some j =>
        rw [e] at hd
        show (ns.map V.int)[j]? = some (V.int n)
        rw [List.getElem?_map, show ns[j]? = some n from hd]
        rfl
    · cases e3
  · split at e3
    · rename_i hl
      split at e3
      · rename_i hd
        cases e3
        refine .inl (base fun v w H2 x I2 q1 q2 => ?_)
        rw [repT_str q1, repT_int q2]
        exact .inr (.inr ⟨_, _, _, rfl, rfl, hl, hd, k _ H2 x ⟨I2, .str⟩⟩)
      · cases e3
    · cases e3
  · split at e3
    · rename_i kvs z _ dd hd
      cases e3
      refine .inr (base fun v w H2 x I2 q1 q2 => ?_)
      obtain ⟨a, vs, rfl, h1, rs⟩ := q1
      rw [repT_str q2]
      rcases rs.get z with ⟨v', d', g1, g2, g3⟩ | ⟨_, g2⟩
      · rw [hd] at g2; cases g2
        exact ⟨a, v', rfl, .inl ⟨vs, Sum.inr z, h1, rfl, g1.symm⟩, k v' H2 x ⟨I2, g3⟩⟩
      · rw [hd] at g2; cases g2
    · cases e3
  · cases e3
end
end DL
set_option maxRecDepth 100000
set_option maxHeartbeats 4000000
namespace DL
open PySem PySem.SeqAt
theorem rc_dict_none {A : Around} {s : Shared} {P : Program} {w0 : World} {κ : Type} [DecidableEq κ] {knd : PySem.KeyKind P w0 κ} {a : Addr} {ka : List (κ × Value)} (da : s.heap.DictOf knd a ka) (hu : A.units < cLine) : RcAt A s (.ref a) .none false := fun prog w E Q h => by
  refine rc_eq_decline_or (k := false) da.typeIs rfl (by decide) F.sub_NoneType_dict F.slot_dict_eq F.slot_NoneType_eq_refl
    (fun _ hq => ?_)
    (fun _ hq => call_gives F.slot_NoneType_eq_refl rfl F.entry_NoneType_eq (F.args_NoneType_eq_2 _ _) (NoneType___eq___none_ref_0 a) hq) (fun _ hq => wpAny_of_eq rfl hq) (.inr hu) h
  refine wpAny_call_entry PySem.F.slot_dict_eq da.typeIs PySem.F.entry_dict_eq ?_ (PySem.F.args_dict_eq_2 _ _)
  show wpAny _ _ (Builtin.Dict.dictSlotArgs "__eq__" ⟨[.ref a, .none], []⟩ >>= _) _ _ s
  refine wpAny_bind ?_
  unfold Builtin.Dict.dictSlotArgs
  refine wpAny_bind (wpAny_notOrdered_dict da.typeIs ?_)
  show wpAny _ _ (pure (Value.ref a, Value.none)) _ _ s
  refine wpAny_pure ?_
  refine wpAny_bind (wpAny_isInstance (T := "NoneType") (show s.TypeIs .none "NoneType" from rfl) PySem.F.sub_NoneType_dict ?_)
  simp only [Bool.not_false, if_true]
  exact wpAny_bind (wpAny_rule (wpAny_pure ⟨_, rfl, hq⟩))
theorem eq_dict_none {A : Around} {s : Shared} {P : Program} {w0 : World} {κ : Type} [DecidableEq κ] {knd : PySem.KeyKind P w0 κ} {a : Addr} {ka : List (κ × Value)} (da : s.heap.DictOf knd a ka) (hu : A.units < cLine) : EqAt A s (.ref a) .none false := fun prog w E Q h => by
  unfold eqBool
  refine wpAny_holding ?_
  refine wpAny_ite_split (fun hab => absurd (eq_of_beq hab) nofun) (fun _ => ?_)
  exact wpAny_bind (rc_dict_none da hu prog w E _ (wpAny_truthy_bool h))
end DL
namespace DL
open PySem PySem.Spec L2
section
variable {X : Cx}
/-- None or a dict -/
def NonD (H : Hp) (z : V) : Prop := z = .non ∨ ∃ a kvs, z = .ref a ∧ Rd H a (.dK kvs)
theorem nonD_is {H : Hp} {z : V} {u : Value} (r : RelV z u) (f : NonD H z) : PySem.Numpy.isNone u = isNon z := by
  rcases f with rfl | ⟨a, kvs, rfl, _⟩ <;> (cases r; rfl)
theorem any_nonD {H : Hp} : ∀ {xs : List V} {us : List Value}, Vals xs us → (∀ z ∈ xs, NonD H z) → us.any PySem.Numpy.isNone = xs.any isNon
  | _, _, .nil, _ => rfl
  | y :: xs, u :: us, .cons r t, f => by
    rw [List.any_cons, List.any_cons, nonD_is r (f y (List.mem_cons_self ..)), any_nonD t fun z hz => f z (List.mem_cons_of_mem _ hz)]
theorem mem_nonD {A : Around} {pins : List (Addr × Obj)} {σ : St} {H : Hp} {s : Shared} (I : Inv X pins σ H s) (hu : A.units < cLine) : ∀ {xs : List V} {us : List Value}, Vals xs us → (∀ z ∈ xs, NonD H z) → ∀ u ∈ us, SeqAt.EqAt A s u .none (PySem.Numpy.isNone u)
  | _, _, .nil, _ => fun u hu' => by cases hu'
  | y :: xs, u :: us, .cons r t, f => fun u' hu' => by
    rcases List.mem_cons.mp hu' with e | hu'
    · subst e
      rcases f y (List.mem_cons_self ..) with rfl | ⟨a, kvs, rfl, h⟩
      · cases r
        exact SeqAt.EqAt.same _
      · cases r
        obtain ⟨_, _, vs, _, dd⟩ := h.ok I.hok
        exact eq_dict_none dd hu
    · exact mem_nonD I hu t (fun z hz => f z (List.mem_cons_of_mem _ hz)) u' hu'
def rNonIn (K : PySem.W.Frag) (neg : Bool) : R2 := fun x y H Q => ∃ p xs, x = .non ∧ y = .ref p ∧ SqL K H p xs ∧ (∀ z ∈ xs, NonD H z) ∧ Q (.bl (if neg then !xs.any isNon else xs.any isNon)) H
theorem op_nonIn (hu : X.A.units + 64 < cLine) : OpR X (compareOp .In) (rNonIn X.K false) := by
  intro pins s σ H x y v u Q I rx ry h
  obtain ⟨p, xs, rfl, rfl, hq, f, q⟩ := h
  cases rx
  cases ry
  obtain ⟨its, rv, hl, _⟩ := I.list hq
  have hu1 : X.A.in1.units < cLine := by show X.A.units + 1 < cLine; omega
  refine SeqAt.in_listAt PySem.Numpy.isNone hl.isList (fun z hz => mem_nonD I hu1 rv f z (by simpa using hz)) ⟨.bl _, H, I, rfl, ?_⟩
  rw [show its.toArray.any PySem.Numpy.isNone = its.any PySem.Numpy.isNone by simp, any_nonD rv f]
  exact q
end
end DL
namespace DL
open PySem PySem.Spec L2
section
variable {K : PySem.W.Frag} {Fb N : Addr → Prop} {H H' B : Hp} {X : Cx} {σ ι : St} {ρ ρ' : Env'} {t ta tb tc : TE} {f fa fb fc : FE}
abbrev FO := Env' → Option (Option Int × Env')
def SO (K : PySem.W.Frag) (t : TO) (f : FO) : Prop := ∀ N B ι σ H ρ o ρ', Rel K N B ι σ H ρ → f ρ = some (o, ρ') → ∀ Q : Option Int → Hp → Prop, (∀ H', Ext σ ρ H σ ρ' H' → Rel K N B ι σ H' ρ' → Q o H') → t σ H Q
def foNone : FO := fun ρ => some (none, ρ)
def foSome (fe : FE) : FO := fun ρ => match fe ρ with
  | some (r, ρ1) => (match cont ρ1 r with
    | some (.int i) => some (some i, ρ1)
    | _ => none)
  | none => none
theorem so_none : SO K tNoPart foNone := by
  intro N B ι σ H ρ o ρ' I e Q k
  cases e
  exact k H .refl I
theorem so_some (ha : SE K ta fa) : SO K (tPart ta) (foSome fa) := by
  intro N B ι σ H ρ o ρ' I e Q k
  unfold foSome at e
  cases e1 : fa ρ with
  | none => rw [e1] at e; cases e
  | some q =>
    obtain ⟨r, ρ1⟩ := q
    simp only [e1] at e
    cases e2 : cont ρ1 r with
    | none => simp only [e2] at e; cases e
    | some d =>
      cases d with
      | int i =>
        simp only [e2] at e
        cases e
        refine ha.use I e1 fun v H1 x1 I1 q1 => ?_
        exact ⟨i, repT_int (q1.top I1 e2), k H1 x1 I1⟩
      | _ => simp only [e2] at e; cases e
def cutG {α : Type} (xs : List α) (lo hi : Option Int) : List α := (xs.drop (HT.sIx xs.length 0 lo)).take (HT.sIx xs.length xs.length hi - HT.sIx xs.length 0 lo)
def gSl : D → Option Int → Option Int → Option R
  | .tup xs, lo, hi => some (.val (.tup (cutG xs lo hi)))
  | .lst xs, lo, hi => some (.new (.lst (cutG xs lo hi)))
  | _, _, _ => none
def fSl (fe : FE) (fl fh : FO) : FE := fun ρ => match fe ρ with
  | some (r, ρ1) => (match fl ρ1 with
    | some (lo, ρ2) => (match fh ρ2 with
      | some (hi, ρ3) => (match cont ρ3 r with
        | some d => (match gSl d lo hi with
          | some x => some (x, ρ3)
          | none => none)
        | none => none)
      | none => none)
    | none => none)
  | none => none
theorem Reps.cut {vs : List V} {ds : List D} (r : Reps K Fb H vs ds) (lo hi : Option Int) : Reps K Fb H (cutV vs lo hi) (cutG ds lo hi) := by
  unfold cutV cutG
  rw [r.length]
  exact (r.drop _).take _
theorem cutG_len {α : Type} (xs : List α) (lo hi : Option Int) : (cutG xs lo hi).length ≤ xs.length := by
  unfold cutG
  rw [List.length_take, List.length_drop]
  omega
def rSlB (K : PySem.W.Frag) : V → Option Int → Option Int → Hp → VK → Prop := fun x lo hi H Q => rSlA K x lo hi H Q ∨ rSlL K x lo hi H Q
theorem sl_both : SlR X (rSlB X.K) := SlR.or sl_tupA sl_list
theorem se_sl {tl th : TO} {fl fh : FO} (ha : SE K ta fa) (hl : SO K tl fl) (hh : SO K th fh) : SE K (tSl (rSlB K) ta tl th) (fSl fa fl fh) := by
  intro N B ι σ H ρ r ρ' I e Q k
  unfold fSl at e
  cases e1 : fa ρ with
  | none => rw [e1] at e; cases e
  | some q1 =>
    obtain ⟨r1, ρ1⟩ := q1
    simp only [e1] at e
    cases e2 : fl ρ1 with
    | none => simp only [e2] at e; cases e
    | some q2 =>
      obtain ⟨lo, ρ2⟩ := q2
      simp only [e2] at e
      cases e3 : fh ρ2 with
      | none => simp only [e3] at e; cases e
      | some q3 =>
        obtain ⟨hi, ρ3⟩ := q3
        simp only [e3] at e
        cases e4 : cont ρ3 r1 with
        | none => simp only [e4] at e; cases e
        | some d =>
          simp only [e4] at e
          cases e5 : gSl d lo hi with
          | none => simp only [e5] at e; cases e
          | some x =>
            simp only [e5] at e
            cases e
            refine ha.use I e1 fun v H1 x1 I1 z1 => ?_
            refine hl N B ι σ H1 ρ1 lo ρ2 I1 e2 _ fun H2 x2 I2 => ?_
            refine hh N B ι σ H2 ρ2 hi ρ' I2 e3 _ fun H3 x3 I3 => ?_
            have xx := (x1.trans x2).trans x3
            have zz := ((z1.ext x2).ext x3).top I3 e4
            have hF : Fresh (Fbd N σ ρ') H3 := fun a z => I3.live z
            unfold gSl at e5
            split at e5
            · cases e5
              obtain ⟨a, vs, rfl, h1, r1⟩ := repT_tup zz
              refine .inl ⟨a, vs, rfl, h1.sq, fun hw => ?_, fun _ p hp => k _ _ (xx.trans (.same (upd_ns hp))) ((vr_tup hF hp (r1.cut lo hi)).eq I3 (upd_ns hp) xx)⟩
              refine k _ _ xx ⟨I3, ?_⟩
              have e : ∀ {xs : List D}, Reps K (Fbd N σ ρ') H3 vs xs → cutG xs lo hi = xs := fun {xs} r1 => by
                unfold cutG
                rw [← r1.length, hw.1, hw.2]
                rw [List.drop_zero, Nat.sub_zero, r1.length, List.take_length]
              rw [e r1]
              exact .tup h1 r1
            · cases e5
              obtain ⟨a, vs, rfl, h1, r1⟩ := zz
              exact .inr ⟨a, vs, rfl, .inl h1, fun p hp => k _ _ (xx.trans (.same (upd_ns hp))) ((vr_new hp (r1.cut lo hi)).eq I3 (upd_ns hp) xx)⟩
            · cases e5
def flatD : D → Bool
  | .non => true
  | .bl _ => true
  | .int _ => true
  | .str _ => true
  | _ => false
def eqF : D → D → Bool
  | .non, .non => true
  | .bl a, .bl b => a == b
  | .bl a, .int b => (if a then 1 else 0) == b
  | .int a, .bl b => a == (if b then 1 else 0)
  | .int a, .int b => a == b
  | .str a, .str b => a == b
  | _, _ => false
theorem flat_rep {v : V} {d : D} (h : RepT K Fb H v d) (q : flatD d = true) : flatV v = true := by
  cases d with
  | non => rw [repT_non h]; rfl
  | bl _ => rw [repT_bl h]; rfl
  | int _ => rw [repT_int h]; rfl
  | str _ => rw [repT_str h]; rfl
  | _ => cases q
theorem eqF_rep {v w : V} {d e : D} (h : RepT K Fb H v d) (q : flatD d = true) (h' : RepT K Fb H w e) (q' : flatD e = true) : eqV v w = eqF d e := by
  cases d with
  | non => rw [repT_non h]; cases e with
    | non => rw [repT_non h']; rfl
    | bl _ => rw [repT_bl h']; rfl
    | int _ => rw [repT_int h']; rfl
    | str _ => rw [repT_str h']; rfl
    | _ => cases q'
  | bl _ => rw [repT_bl h]; cases e with
    | non => rw [repT_non h']; rfl
    | bl _ => rw [repT_bl h']; rfl
    | int _ => rw [repT_int h']; rfl
    | str _ => rw [repT_str h']; rfl
    | _ => cases q'
  | int _ => rw [repT_int h]; cases e with
    | non => rw [repT_non h']; rfl
    | bl _ => rw [repT_bl h']; rfl
    | int _ => rw [repT_int h']; rfl
    | str _ => rw [repT_str h']; rfl
    | _ => cases q'
  | str _ => rw [repT_str h]; cases e with
    | non => rw [repT_non h']; rfl
    | bl _ => rw [repT_bl h']; rfl
    | int _ => rw [repT_int h']; rfl
    | str _ => rw [repT_str h']; rfl
    | _ => cases q'
  | _ => cases q
def inF (d : D) (xs : List D) : Bool := xs.any fun e => eqF e d
theorem inF_rep {v : V} {d : D} (h : RepT K Fb H v d) (q : flatD d = true) : ∀ {vs : List V} {ds : List D}, Reps K Fb H vs ds → ds.all flatD = true → vs.all flatV = true ∧ inV v vs = inF d ds
  | _, _, .nil, _ => ⟨rfl, rfl⟩
  | _, _, .cons h1 r, ha => by
    rw [List.all_cons, Bool.and_eq_true] at ha
    obtain ⟨g1, g2⟩ := inF_rep h q r ha.2
    refine ⟨by rw [List.all_cons, flat_rep h1.top ha.1, g1]; rfl, ?_⟩
    unfold inV inF at *
    rw [List.any_cons, List.any_cons, eqF_rep h1.top ha.1 h q, g2]
def isNoneOr : D → Bool
  | .non => true
  | .dct _ => true
  | _ => false
/-- the reading: the left, the right, then one of the three -/
def rInA (K : PySem.W.Frag) : R2 := fun x y H Q => (∃ i j, x = .str i ∧ y = .str j ∧ Q (.bl (!(Builtin.Str.occurrences j i 0 j.length 1).isEmpty)) H) ∨ rIn K false x y H Q ∨ rNonIn K false x y H Q
def rNotInA (K : PySem.W.Frag) : R2 := fun x y H Q => (∃ i j, x = .str i ∧ y = .str j ∧ Q (.bl (!(!(Builtin.Str.occurrences j i 0 j.length 1).isEmpty))) H) ∨ rIn K true x y H Q
theorem op_inA (hu : X.A.units + 64 < cLine) : OpR X (compareOp .In) (rInA X.K) := op_in_str.or (op_in_seq.or (op_nonIn hu))
theorem op_notInA : OpR X (compareOp .NotIn) (rNotInA X.K) := L2.op_notin_str.or op_notIn_seq
theorem pe_or2 {e : Expr} {t1 t2 : TE} (h1 : PE X e t1) (h2 : PE X e t2) : PE X e (fun σ H Q => t1 σ H Q ∨ t2 σ H Q) := ⟨fun pins s σ H Q I q => q.elim (h1.run pins s σ H Q I) (h2.run pins s σ H Q I)⟩
theorem pe_in {a b : Expr} {pos : Pos} (hu : X.A.units + 64 < cLine) (ha : PE X a ta) (hb : PE X b tb) (hm : behindInMarks .In b = false) : PE X (.Compare a [.In] [b] pos) (fun σ H Q => tOp (rInA X.K) ta tb σ H Q ∨ tDIn ta tb σ H Q) :=
  pe_or2 (pe_cmpR (op_inA hu) ha hb hm) (pe_cmp (pc_din (by omega) ha hb) hm)
theorem pe_notin {a b : Expr} {pos : Pos} (hu : X.A.units + 64 < cLine) (ha : PE X a ta) (hb : PE X b tb) (hm : behindInMarks .NotIn b = false) : PE X (.Compare a [.NotIn] [b] pos) (fun σ H Q => tOp (rNotInA X.K) ta tb σ H Q ∨ tDNotIn ta tb σ H Q) :=
  pe_or2 (pe_cmpR op_notInA ha hb hm) (pe_cmp (pc_dnotin (by omega) ha hb) hm)
def gInS : D → D → Option R
  | .str x, .str y => some (.val (.bl (!(Builtin.Str.occurrences y x 0 y.length 1).isEmpty)))
  | d, .tup xs => if flatD d && xs.all flatD then some (.val (.bl (inF d xs))) else none
  | d, .lst xs => if flatD d && xs.all flatD then some (.val (.bl (inF d xs))) else if isNonD d && xs.all isNoneOr then some (.val (.bl (xs.any isNonD))) else none
  | _, _ => none
def gNotInS : D → D → Option R
  | .str x, .str y => some (.val (.bl (!(!(Builtin.Str.occurrences y x 0 y.length 1).isEmpty))))
  | d, .tup xs => if flatD d && xs.all flatD then some (.val (.bl (!inF d xs))) else none
  | d, .lst xs => if flatD d && xs.all flatD then some (.val (.bl (!inF d xs))) else none
  | _, _ => none
/-- a dict's keys, or the rest -/
def gOr (h : Bool → Bool) (g : D → D → Option R) (d e : D) : Option R := match d, e with
  | .str x, .dct kvs => some (.val (.bl (h (dget kvs x).isSome)))
  | d, e => g d e
abbrev gIn : D → D → Option R := gOr id gInS
abbrev gNotIn : D → D → Option R := gOr not gNotInS
theorem nonD_rep : ∀ {vs : List V} {ds : List D}, Reps K Fb H vs ds → ds.all isNoneOr = true → (∀ z ∈ vs, NonD H z) ∧ vs.any isNon = ds.any isNonD
  | _, _, .nil, _ => ⟨fun _ h => (nomatch h), rfl⟩
  | _, _, @Reps.cons _ _ _ v d vs ds h r, ha => by
    rw [List.all_cons, Bool.and_eq_true] at ha
    obtain ⟨g1, g2⟩ := nonD_rep r ha.2
    rw [List.any_cons, List.any_cons, g2]
    cases d with
    | non => cases h; exact ⟨fun z hz => (List.mem_cons.mp hz).elim (fun e => e ▸ .inl rfl) (g1 z), rfl⟩
    | dct kvs => cases h with
      | dct h1 h2 h3 => exact ⟨fun z hz => (List.mem_cons.mp hz).elim (fun e => e ▸ .inr ⟨_, _, rfl, h1⟩) (g1 z), rfl⟩
    | _ => exact nomatch ha.1
theorem u_in : U2 K (rInA K) gInS := by
  intro Fb H v w d e r hF hv hw hg Q k
  unfold gInS at hg
  split at hg
  · cases hg
    exact .inl ⟨_, _, repT_str hv, repT_str hw, k _ H (.refl _) Rep.bl⟩
  · split at hg
    · rename_i hc
      cases hg
      obtain ⟨c1, c2⟩ := Bool.and_eq_true_iff.mp hc
      obtain ⟨a, vs, rfl, h1, r1⟩ := repT_tup hw
      obtain ⟨g1, g2⟩ := inF_rep hv c1 r1 c2
      refine .inr (.inl ⟨a, vs, rfl, .inr h1.sq, flat_rep hv c1, g1, ?_⟩)
      rw [if_neg Bool.false_ne_true, g2]
      exact k _ H (.refl _) Rep.bl
    · cases hg
  · split at hg
    · rename_i hc
      cases hg
      obtain ⟨c1, c2⟩ := Bool.and_eq_true_iff.mp hc
      obtain ⟨a, vs, rfl, h1, r1⟩ := hw
      obtain ⟨g1, g2⟩ := inF_rep hv c1 r1 c2
      refine .inr (.inl ⟨a, vs, rfl, .inl (.inl h1), flat_rep hv c1, g1, ?_⟩)
      rw [if_neg Bool.false_ne_true, g2]
      exact k _ H (.refl _) Rep.bl
    · split at hg
      · rename_i hc
        cases hg
        obtain ⟨c1, c2⟩ := Bool.and_eq_true_iff.mp hc
        obtain ⟨a, vs, rfl, h1, r1⟩ := hw
        obtain ⟨g1, g2⟩ := nonD_rep r1 c2
        have hn : v = .non := by
          cases d with
          | non => exact repT_non hv
          | _ => cases c1
        refine .inr (.inr ⟨a, vs, hn, rfl, .inl h1, g1, ?_⟩)
        rw [if_neg Bool.false_ne_true, g2]
        exact k _ H (.refl _) Rep.bl
      · cases hg
  · cases hg
theorem u_notin : U2 K (rNotInA K) gNotInS := by
  intro Fb H v w d e r hF hv hw hg Q k
  unfold gNotInS at hg
  split at hg
  · cases hg
    exact .inl ⟨_, _, repT_str hv, repT_str hw, k _ H (.refl _) Rep.bl⟩
  · split at hg
    · rename_i hc
      cases hg
      obtain ⟨c1, c2⟩ := Bool.and_eq_true_iff.mp hc
      obtain ⟨a, vs, rfl, h1, r1⟩ := repT_tup hw
      obtain ⟨g1, g2⟩ := inF_rep hv c1 r1 c2
      refine .inr ⟨a, vs, rfl, .inr h1.sq, flat_rep hv c1, g1, ?_⟩
      rw [if_pos rfl, g2]
      exact k _ H (.refl _) Rep.bl
    · cases hg
  · split at hg
    · rename_i hc
      cases hg
      obtain ⟨c1, c2⟩ := Bool.and_eq_true_iff.mp hc
      obtain ⟨a, vs, rfl, h1, r1⟩ := hw
      obtain ⟨g1, g2⟩ := inF_rep hv c1 r1 c2
      refine .inr ⟨a, vs, rfl, .inl (.inl h1), flat_rep hv c1, g1, ?_⟩
      rw [if_pos rfl, g2]
      exact k _ H (.refl _) Rep.bl
    · cases hg
  · cases hg
theorem se_dictOr {rel : R2} {td : TE} {gS : D → D → Option R} {h : Bool → Bool} (u : U2 K rel gS) (ha : SE K ta fa) (hb : SE K tb fb)
    (htd : ∀ {σ H} {Q : VK}, (ta σ H fun y H1 => tb σ H1 fun x H2 => ∃ a o, x = .ref a ∧ DGet H2 a y o ∧ Q (.bl (h o.isSome)) H2) → td σ H Q) :
    SE K (fun σ H Q => tOp rel ta tb σ H Q ∨ td σ H Q) (f2 (gOr h gS) fa fb) := by
  intro N B ι σ H ρ r ρ' I e Q k
  obtain ⟨r1, ρ1, r2, d1, d2, e1, e2, c1, c2, e3⟩ := f2_eq e
  by_cases hx : ∃ x kvs, d1 = D.str x ∧ d2 = D.dct kvs
  · obtain ⟨x, kvs, rfl, rfl⟩ := hx
    have e3 : some (R.val (.bl (h (dget kvs x).isSome))) = some r := e3
    cases e3
    refine .inr (htd (ha.use I e1 fun v H1 x1 I1 q1 => hb.use I1 e2 fun w H2 x2 I2 q2 => ?_))
    obtain ⟨a, kv, rfl, h1, rs⟩ := q2.top I2 c2
    rw [repT_str ((q1.ext x2).top I2 c1)]
    refine ⟨a, _, rfl, .inl ⟨kv, Sum.inr x, h1, rfl, rfl⟩, ?_⟩
    have eb : (valV kv (Sum.inr x : Key)).isSome = (dget kvs x).isSome := by
      rcases rs.get x with ⟨v', d', g1, g2, _⟩ | ⟨g1, g2⟩ <;> rw [g1, g2] <;> rfl
    rw [eb]
    exact k _ H2 (x1.trans x2) ⟨I2, .bl⟩
  · have e3 : gS d1 d2 = some r := by
      unfold gOr at e3
      split at e3
      · exact absurd ⟨_, _, rfl, rfl⟩ hx
      · exact e3
    refine .inl (se_2 u ha hb N B ι σ H ρ r ρ' I ?_ Q k)
    unfold f2
    simp only [e1, e2, c1, c2, e3]
theorem se_in (ha : SE K ta fa) (hb : SE K tb fb) : SE K (fun σ H Q => tOp (rInA K) ta tb σ H Q ∨ tDIn ta tb σ H Q) (f2 gIn fa fb) := se_dictOr (td := tDIn ta tb) (h := id) u_in ha hb fun h => h
theorem se_notin (ha : SE K ta fa) (hb : SE K tb fb) : SE K (fun σ H Q => tOp (rNotInA K) ta tb σ H Q ∨ tDNotIn ta tb σ H Q) (f2 gNotIn fa fb) := se_dictOr (td := tDNotIn ta tb) u_notin ha hb fun h => h
end
end DL
set_option maxRecDepth 100000
set_option maxHeartbeats 4000000
namespace DL
open PySem PySem.Spec L2
section
variable {K : PySem.W.Frag} {Fb N : Addr → Prop} {H H' B : Hp} {X : Cx} {σ ι : St} {ρ ρ' : Env'} {t ta tb tc : TE} {f fa fb fc : FE}
theorem repTs1 {vs : List V} {d : D} (h : RepTs K Fb H vs [d]) : ∃ v, vs = [v] ∧ RepT K Fb H v d := by
  cases h with
  | cons h1 h2 => cases h2; exact ⟨_, rfl, h1⟩
theorem repTs2 {vs : List V} {d e : D} (h : RepTs K Fb H vs [d, e]) : ∃ v w, vs = [v, w] ∧ RepT K Fb H v d ∧ RepT K Fb H w e := by
  cases h with
  | cons h1 h2 => cases h2 with
    | cons h2 h3 => cases h3; exact ⟨_, _, rfl, h1, h2⟩
/-- len -/
def lenD : D → Option Nat
  | .tup xs => some xs.length
  | .lst xs => some xs.length
  | .scr ns => some ns.length
  | .str x => if x.length ≤ sizeLine then some x.length else none
  | .dct kvs => some kvs.length
  | _ => none
def gLen : List D → Option R
  | [d] => (match lenD d with
    | some n => some (.val (.int n))
    | none => none)
  | _ => none
def rLenA (K : PySem.W.Frag) : List V → Hp → VK → Prop := fun xs H Q => (∃ x n, xs = [x] ∧ LenV K x H n ∧ Q (.int n) H) ∨ ∃ a kvs, xs = [.ref a] ∧ Rd H a (.dK kvs) ∧ Q (.int kvs.length) H
theorem call_lenR : CallR X (.builtin "len") (fun xs H Q => ∃ a kvs, xs = [.ref a] ∧ Rd H a (.dK kvs) ∧ Q (.int kvs.length) H) := by
  intro pins s σ H xs us Q I r h
  obtain ⟨a, kvs, rfl, ha, q⟩ := h
  obtain ⟨u, rfl, ru⟩ := vals1 r
  cases ru
  exact d_len I ha fun t s' I' => ⟨.int kvs.length, H, I', ⟨t, rfl⟩, q⟩
theorem cr_lenA : CallR X (.builtin "len") (rLenA X.K) := CallR.or call_len call_lenR
theorem u_len : UN K (rLenA K) gLen := by
  intro Fb H vs ds r hF hv hg Q k
  unfold gLen at hg
  split at hg
  · rename_i d
    obtain ⟨v, rfl, hw⟩ := repTs1 hv
    cases e : lenD d with
    | none => rw [e] at hg; cases hg
    | some n =>
      rw [e] at hg
      cases hg
      have q := k (.int n) H (.refl _) Rep.int
      cases d with
      | tup xs => cases e; obtain ⟨a, ws, rfl, h1, r1⟩ := repT_tup hw; exact .inl ⟨_, _, rfl, .inr ⟨ws, h1.sq, r1.length.symm⟩, q⟩
      | lst xs => cases e; obtain ⟨a, ws, rfl, h1, r1⟩ := hw; exact .inl ⟨_, _, rfl, .inl ⟨ws, .inl h1, r1.length.symm⟩, q⟩
      | scr ns => cases e; obtain ⟨a, rfl, h1⟩ := repT_scr hw; exact .inl ⟨_, _, rfl, .inl ⟨_, h1, by rw [List.length_map]⟩, q⟩
      | str x =>
        have e : (if x.length ≤ sizeLine then some x.length else none) = some n := e
        split at e
        · rename_i hl; cases e; rw [repT_str hw]; exact .inl ⟨_, _, rfl, ⟨hl, rfl⟩, q⟩
        · cases e
      | dct kvs => cases e; obtain ⟨a, ws, rfl, h1, r1⟩ := hw; exact .inr ⟨a, ws, rfl, h1, by rw [r1.length]; exact q⟩
      | _ => cases e
  · cases hg
/-- int(..) of a bool, an int -/
def gInt : List D → Option R
  | [.int i] => some (.val (.int i))
  | [.bl b] => some (.val (.int (if b then 1 else 0)))
  | _ => none
theorem u_int : UN K (fun xs H Q => (∃ i, xs = [.int i] ∧ Q (.int i) H) ∨ ∃ k, xs = [.bl k] ∧ Q (.int (if k then 1 else 0)) H) gInt := by
  intro Fb H vs ds r hF hv hg Q k
  unfold gInt at hg
  split at hg
  · cases hg
    obtain ⟨v, rfl, hw⟩ := repTs1 hv
    rw [repT_int hw]
    exact .inl ⟨_, rfl, k _ H (.refl _) Rep.int⟩
  · cases hg
    obtain ⟨v, rfl, hw⟩ := repTs1 hv
    rw [repT_bl hw]
    exact .inr ⟨_, rfl, k _ H (.refl _) Rep.int⟩
  · cases hg
/-- tuple(..), list(..) -/
def gTuple : List D → Option R
  | [.tup xs] => some (.val (.tup xs))
  | [.lst xs] => some (.val (.tup xs))
  | _ => none
theorem u_tuple : UN K (fun xs H Q => ∃ p ys, xs = [.ref p] ∧ ((SqL K H p ys ∧ ∀ l, H l = none → Q (.ref l) (upd H l (.tup ys))) ∨ (SqT K H p ys ∧ Q (.ref p) H))) gTuple := by
  intro Fb H vs ds r hF hv hg Q k
  unfold gTuple at hg
  split at hg
  · cases hg
    obtain ⟨v, rfl, hw⟩ := repTs1 hv
    obtain ⟨a, ws, rfl, h1, r1⟩ := repT_tup hw
    exact ⟨a, ws, rfl, .inr ⟨h1.sq, k _ H (.refl _) (Rep.tup h1 r1)⟩⟩
  · cases hg
    obtain ⟨v, rfl, hw⟩ := repTs1 hv
    obtain ⟨a, ws, rfl, h1, r1⟩ := hw
    exact ⟨a, ws, rfl, .inl ⟨.inl h1, fun l hl => k _ _ (upd_ns hl) (vr_tup hF hl r1)⟩⟩
  · cases hg
def rListA (K : PySem.W.Frag) : List V → Hp → VK → Prop := fun xs H Q => (∃ p ys, xs = [.ref p] ∧ (SqL K H p ys ∨ SqT K H p ys) ∧ ∀ l, H l = none → Q (.ref l) (upd H l (.lst ys))) ∨
  ∃ (a : Addr) (kvs : List (Key × V)), xs = [.ref a] ∧ Rd H a (.dK kvs) ∧ ∀ p, H p = none → Q (.ref p) (upd H p (.lst (kvs.map fun kv => kV kv.1)))
theorem cr_listA (hc : X.calm = true) : CallR X (.type "list") (rListA X.K) := CallR.or call_list_of (call_listD hc)
def gList : List D → Option R
  | [.tup xs] => some (.new (.lst xs))
  | [.lst xs] => some (.new (.lst xs))
  | [.dct kvs] => some (.new (.lst (kvs.map fun kv => .str kv.1)))
  | _ => none
theorem u_list : UN K (rListA K) gList := by
  intro Fb H vs ds r hF hv hg Q k
  unfold gList at hg
  split at hg
  · cases hg
    obtain ⟨v, rfl, hw⟩ := repTs1 hv
    obtain ⟨a, ws, rfl, h1, r1⟩ := repT_tup hw
    exact .inl ⟨a, ws, rfl, .inr h1.sq, fun l hl => k _ _ (upd_ns hl) (vr_new hl r1)⟩
  · cases hg
    obtain ⟨v, rfl, hw⟩ := repTs1 hv
    obtain ⟨a, ws, rfl, h1, r1⟩ := hw
    exact .inl ⟨a, ws, rfl, .inl (.inl h1), fun l hl => k _ _ (upd_ns hl) (vr_new hl r1)⟩
  · cases hg
    obtain ⟨v, rfl, hw⟩ := repTs1 hv
    obtain ⟨a, ws, rfl, h1, r1⟩ := hw
    exact .inr ⟨a, ws, rfl, h1, fun l hl => k _ _ (upd_ns hl) (vr_new hl r1.keys)⟩
  · cases hg
/-- dict(..) of a dict, of a list of pairs -/
def pairsD : List D → Option (List (Str × D))
  | [] => some []
  | .tup [.str x, d] :: r => (match pairsD r with
    | some l => some ((x, d) :: l)
    | none => none)
  | _ => none
def gDict : List D → Option R
  | [.dct kvs] => some (.new (.dct kvs))
  | [.lst xs] => (match pairsD xs with
    | some l => some (.new (.dct (dmerge [] l)))
    | none => none)
  | _ => none
def rDictA (K : PySem.W.Frag) : List V → Hp → VK → Prop := fun xs H Q => (∃ (a : Addr) (kvs : List (Key × V)), xs = [.ref a] ∧ Rd H a (.dK kvs) ∧ ∀ p, H p = none → Q (.ref p) (upd H p (.dK kvs))) ∨
  ∃ (a : Addr) (ps : List Addr) (kvs : List (Key × V)), xs = [.ref a] ∧ SqL K H a (ps.map V.ref) ∧ Paired (fun p kv => SqT K H p [kV kv.1, kv.2]) ps kvs ∧ ∀ p, H p = none → Q (.ref p) (upd H p (.dK (mergeK [] kvs)))
theorem cr_dictA (hc : X.calm = true) : CallR X (.type "dict") (rDictA X.K) := CallR.or call_dictD (call_dictP hc)
theorem pairs_rep : ∀ {xs : List D} {vs : List V} {l : List (Str × D)}, Reps K Fb H vs xs → pairsD xs = some l → ∃ ps kvs, vs = ps.map V.ref ∧ Paired (fun p (kv : Key × V) => SqT K H p [kV kv.1, kv.2]) ps kvs ∧ RepK K Fb H kvs l
  | [], _, l, .nil, e => by cases e; exact ⟨[], [], rfl, .nil, .nil⟩
  | d :: xs, _, l, @Reps.cons _ _ _ v _ vs _ h r, e => by
    obtain ⟨x, d', l', rfl, e1, rfl⟩ : ∃ x d' l', d = .tup [.str x, d'] ∧ pairsD xs = some l' ∧ l = (x, d') :: l' := by
      unfold pairsD at e
      split at e
      · rename_i h0; cases h0
      · rename_i x d' r' h0
        cases h0
        cases e1 : pairsD xs with
        | none => rw [e1] at e; cases e
        | some l' => rw [e1] at e; cases e; exact ⟨_, _, _, rfl, rfl, rfl⟩
      · cases e
    obtain ⟨ps, kvs, rfl, h2, h3⟩ := pairs_rep r e1
    cases h with
    | tup ha hr =>
      cases hr with
      | cons q1 q2 => cases q2 with
        | cons q2 q3 =>
          cases q3
          cases q1
          exact ⟨_ :: ps, (Sum.inr x, _) :: kvs, rfl, .cons ha.sq h2, .cons q2 h3⟩
theorem u_dict : UN K (rDictA K) gDict := by
  intro Fb H vs ds r hF hv hg Q k
  unfold gDict at hg
  split at hg
  · cases hg
    obtain ⟨v, rfl, hw⟩ := repTs1 hv
    obtain ⟨a, ws, rfl, h1, r1⟩ := hw
    exact .inl ⟨a, ws, rfl, h1, fun l hl => k _ _ (upd_ns hl) (vr_newD hl r1)⟩
  · split at hg
    · rename_i hp
      cases hg
      obtain ⟨v, rfl, hw⟩ := repTs1 hv
      obtain ⟨a, ws, rfl, h1, r1⟩ := hw
      obtain ⟨ps, kvs, rfl, h2, h3⟩ := pairs_rep r1 hp
      exact .inr ⟨a, ps, kvs, rfl, .inl h1, h2, fun l hl => k _ _ (upd_ns hl) (vr_newD hl (h3.merge .nil))⟩
    · cases hg
  · cases hg
/-- all, any, sum -/
def blsD : List D → Option (List Bool)
  | [] => some []
  | .bl b :: r => (match blsD r with
    | some l => some (b :: l)
    | none => none)
  | _ => none
theorem bls_rep : ∀ {xs : List D} {vs : List V} {l : List Bool}, Reps K Fb H vs xs → blsD xs = some l → vs = l.map V.bl
  | [], _, l, .nil, e => by cases e; rfl
  | d :: xs, _, l, @Reps.cons _ _ _ v _ vs _ h r, e => by
    cases d with
    | bl b =>
      unfold blsD at e
      cases e1 : blsD xs with
      | none => simp only [e1] at e; cases e
      | some l' => simp only [e1] at e; cases e; cases h; rw [bls_rep r e1]; rfl
    | _ => cases e
def intsD : List D → Option (List Int)
  | [] => some []
  | .int i :: r => (match intsD r with
    | some l => some (i :: l)
    | none => none)
  | _ => none
theorem ints_rep : ∀ {xs : List D} {vs : List V} {l : List Int}, Reps K Fb H vs xs → intsD xs = some l → vs = l.map V.int
  | [], _, l, .nil, e => by cases e; rfl
  | d :: xs, _, l, @Reps.cons _ _ _ v _ vs _ h r, e => by
    cases d with
    | int b =>
      unfold intsD at e
      cases e1 : intsD xs with
      | none => simp only [e1] at e; cases e
      | some l' => simp only [e1] at e; cases e; cases h; rw [ints_rep r e1]; rfl
    | _ => cases e
def strsD : List D → Option (List Str)
  | [] => some []
  | .str i :: r => (match strsD r with
    | some l => some (i :: l)
    | none => none)
  | _ => none
theorem strs_rep : ∀ {xs : List D} {vs : List V} {l : List Str}, Reps K Fb H vs xs → strsD xs = some l → vs = l.map V.str
  | [], _, l, .nil, e => by cases e; rfl
  | d :: xs, _, l, @Reps.cons _ _ _ v _ vs _ h r, e => by
    cases d with
    | str b =>
      unfold strsD at e
      cases e1 : strsD xs with
      | none => simp only [e1] at e; cases e
      | some l' => simp only [e1] at e; cases e; cases h; rw [strs_rep r e1]; rfl
    | _ => cases e
def gBls (f : List Bool → Bool) : List D → Option R
  | [.lst xs] => (match blsD xs with
    | some l => some (.val (.bl (f l)))
    | none => none)
  | _ => none
theorem u_bls {f : List Bool → Bool} : UN K (fun vs H Q => ∃ (a : Addr) (bs : List Bool), vs = [V.ref a] ∧ SqL K H a (bs.map V.bl) ∧ Q (.bl (f bs)) H) (gBls f) := by
  intro Fb H vs ds r hF hv hg Q k
  unfold gBls at hg
  split at hg
  · split at hg
    · rename_i hp
      cases hg
      obtain ⟨v, rfl, hw⟩ := repTs1 hv
      obtain ⟨a, ws, rfl, h1, r1⟩ := hw
      have e := bls_rep r1 hp
      subst e
      exact ⟨a, _, rfl, .inl h1, k _ H (.refl _) Rep.bl⟩
    · cases hg
  · cases hg
abbrev gAll : List D → Option R := gBls fun bs => bs.all id
abbrev gAny : List D → Option R := gBls fun bs => bs.any id
theorem u_all : UN K (rAll K) gAll := u_bls
theorem u_any : UN K (rAny K) gAny := u_bls
def gSum : List D → Option R
  | [.lst xs] => (match intsD xs with
    | some l => some (.val (.int l.sum))
    | none => none)
  | _ => none
theorem u_sum : UN K (rSum K) gSum := by
  intro Fb H vs ds r hF hv hg Q k
  unfold gSum at hg
  split at hg
  · split at hg
    · rename_i hp
      cases hg
      obtain ⟨v, rfl, hw⟩ := repTs1 hv
      obtain ⟨a, ws, rfl, h1, r1⟩ := hw
      have e := ints_rep r1 hp
      subst e
      exact ⟨a, _, rfl, .inl h1, k _ H (.refl _) Rep.int⟩
    · cases hg
  · cases hg
/-- isinstance with a built-in class -/
def tyN : D → String
  | .non => "NoneType"
  | .bl _ => "bool"
  | .int _ => "int"
  | .str _ => "str"
  | .tup _ => "tuple"
  | .lst _ => "list"
  | .scr _ => "list"
  | .dct _ => "dict"
  | .obj _ => ""
theorem ty_rep {v : V} {d : D} (h : RepT K Fb H v d) (ho : tyN d ≠ "") : TyX K H v (.type (tyN d)) := by
  cases d with
  | non => rw [repT_non h]; exact .base .non
  | bl _ => rw [repT_bl h]; exact .base (.bl _)
  | int _ => rw [repT_int h]; exact .base (.int _)
  | str _ => rw [repT_str h]; exact .base (.str _)
  | tup xs =>
    obtain ⟨a, vs, rfl, h1, _⟩ := repT_tup h
    rcases h1 with ⟨_, h1 | ⟨o, h1⟩⟩ | ⟨o, its, n, h1, h2, _⟩
    · exact .base (.tup h1)
    · exact .fTuple h1
    · exact .kTuple h1 h2
  | lst xs =>
    obtain ⟨a, vs, rfl, h1, _⟩ := h
    rcases h1 with h1 | ⟨o, h1⟩
    · exact .base (.lst h1)
    · exact .base (.frz h1)
  | scr ns =>
    obtain ⟨a, rfl, h1⟩ := repT_scr h
    rcases h1 with (h1 | ⟨o, h1⟩) | ⟨o, its, n, h1, h2, _⟩
    · exact .base (.lst h1)
    · exact .base (.frz h1)
    · exact .kList h1 h2
  | dct xs =>
    obtain ⟨a, vs, rfl, h1, _⟩ := h
    rcases h1 with h1 | ⟨o, h1⟩
    · exact .base (.dK h1)
    · exact .fDict h1
  | obj _ => exact absurd rfl ho
def isiB (T : String) (d : D) : Bool := tyN d == T || (T == "int" && tyN d == "bool")
def gIsi (T : String) : D → Option R
  | .obj _ => none
  | d => some (.val (.bl (isiB T d)))
theorem gIsi_eq {T : String} {d : D} {r : R} (h : gIsi T d = some r) : tyN d ≠ "" ∧ r = .val (.bl (isiB T d)) := by
  cases d with
  | obj _ => cases h
  | _ => exact ⟨fun z => by simp [tyN] at z, (Option.some.inj h).symm⟩
def IsiOk (K : PySem.W.Frag) (T : String) : Prop := ∀ d, tyN d ≠ "" → PySem.W.kitOne K (.type (tyN d)) (.type T) = some (isiB T d)
theorem isi_ok {T : String} (h : ∀ n ∈ ["NoneType", "bool", "int", "str", "tuple", "list", "dict"], PySem.W.kitOne K (.type n) (.type T) = some (n == T || (T == "int" && n == "bool"))) : IsiOk K T := fun d ho => by
  have := h (tyN d) (by cases d <;> first | exact absurd rfl ho | simp [tyN])
  exact this
theorem se_isi {T : String} (hT : IsiOk K T) (ha : SE K ta fa) : SE K (tCB (rIsi K) (tCons ta (tCons (tC (.ty T)) tNil))) (f1 (gIsi T) fa) := by
  intro N B ι σ H ρ r ρ' I e Q k
  obtain ⟨r1, d, e1, e2, e3⟩ := f1_eq e
  obtain ⟨ho, rfl⟩ := gIsi_eq e3
  refine ha.use I e1 fun v H1 x1 I1 q1 => ?_
  have q := q1.top I1 e2
  exact ⟨v, .ty T, .type (tyN d), .type T, _, rfl, .ty T, ty_rep q ho, hT d ho, k _ H1 x1 ⟨I1, .bl⟩⟩
end
end DL
set_option maxRecDepth 100000
set_option maxHeartbeats 4000000
namespace DL
open PySem PySem.Spec L2
section
variable {K : PySem.W.Frag} {Fb N : Addr → Prop} {H H' B : Hp} {X : Cx} {σ ι : St} {ρ ρ' : Env'} {t ta tb tc : TE} {f fa fb fc : FE}
/-- by values: the thing at p, the arguments (given up); what comes, and the thing behind -/
def MU (K : PySem.W.Frag) (rel : V → List V → Hp → VK → Prop) (m : D → List D → Option (D × D)) : Prop := ∀ Fb H p d vs ds res d', Fb p → OwnR K Fb H p d → Reps K Fb H vs ds → m d ds = some (res, d') → ∀ Q : VK,
  (∀ v' H', (∀ a o, a ≠ p → H a = some o → H' a = some o) → (∀ a, H' a = none → H a = none) → Rep K Fb H' v' res → OwnR K Fb H' p d' → Q v' H') → rel (.ref p) vs H Q
def tyD : D → String
  | .lst _ => "list"
  | .dct _ => "dict"
  | _ => ""
def fMu (T : String) (m : D → List D → Option (D × D)) (fo : FE) (fa : FA) : FE := fun ρ => match fo ρ with
  | some (.slot i, ρ1) => (match ρ1[i]? with
    | some (.own _ d0) => if tyD d0 = T then (match fa ρ1 with
      | some (rs, ρ2) => (match frzs ρ2 rs with
        | some (ds, ρ3) => (match ρ3[i]? with
          | some (.own b d) => (match m d ds with
            | some (res, d') => some (.val res, ρ3.set i (.own b d'))
            | none => none)
          | _ => none)
        | none => none)
      | none => none) else none
    | _ => none)
  | _ => none
theorem own_ty {p : Addr} {d : D} (h : OwnR K Fb H p d) : tyV K (tyD d) (.ref p) H := by
  cases d with
  | lst ds => obtain ⟨vs, h, _⟩ := h; exact .inl ⟨rfl, vs, .inl (.inl h)⟩
  | dct ds => obtain ⟨vs, h, _⟩ := h; exact .inr (.inr (.inl ⟨rfl, .inl ⟨vs, h⟩⟩))
  | _ => exact h.elim
theorem trw {p : Addr} (hp : Fb p) (hk : ∀ a o, a ≠ p → H a = some o → H' a = some o) : TrR Fb H Fb H' := fun a u n h => by
  have na : a ≠ p := fun z => n (z ▸ hp)
  exact ⟨h.elim (fun h => .inl (hk _ _ na h)) (fun ⟨o, h⟩ => .inr ⟨o, hk _ _ na h⟩), n⟩
theorem mu_core {rel : V → List V → Hp → VK → Prop} {m : D → List D → Option (D × D)} (u : MU K rel m) {i : Nat} {b : Bool} {d res d' : D} {ds : List D} {vs : List V} {p : Addr} {ρ3 : Env'} {H3 : Hp} (I : Rel K N B ι σ H3 ρ3) (hs : σ[i]? = some (some (.ref p))) (e6 : ρ3[i]? = some (.own b d)) (hr : Reps K (Fbd N σ ρ3) H3 vs ds) (e7 : m d ds = some (res, d')) {Q : VK}
    (k : ∀ v H', Ext σ ρ3 H3 σ (ρ3.set i (.own b d')) H' → Rel K N B ι σ H' (ρ3.set i (.own b d')) → Rep K (Fbd N σ (ρ3.set i (.own b d'))) H' v res → Q v H') : rel (.ref p) vs H3 Q := by
  obtain ⟨p', g1, g2, _⟩ := I.own i _ _ e6
  rw [hs] at g1; cases g1
  have pin : Fbd N σ ρ3 p := .inr ⟨i, _, _, e6, hs⟩
  refine u (Fbd N σ ρ3) H3 p d vs ds res d' pin g2 hr e7 _ fun v' H' hk hl hv ho => ?_
  obtain ⟨I5, x5⟩ := I.write e6 hs hk hl ho
  refine k v' H' x5 I5 (hv.tr (.less fun a z => z.imp id fun ⟨j, b', e', h1, h2⟩ => ?_))
  rcases getElem?_set_cases h1 with ⟨rfl, z, _⟩ | ⟨hj, h1⟩
  · exact ⟨j, _, _, e6, h2⟩
  · exact ⟨j, b', e', h1, h2⟩
theorem fMu_eq {T : String} {m : D → List D → Option (D × D)} {fo : FE} {fa : FA} {r : R} (e : fMu T m fo fa ρ = some (r, ρ')) : ∃ i ρ1 b0 d0 rs ρ2 ds ρ3 b d res d', fo ρ = some (.slot i, ρ1) ∧ ρ1[i]? = some (.own b0 d0) ∧ tyD d0 = T ∧ fa ρ1 = some (rs, ρ2) ∧ frzs ρ2 rs = some (ds, ρ3) ∧ ρ3[i]? = some (.own b d) ∧ m d ds = some (res, d') ∧ r = .val res ∧ ρ' = ρ3.set i (.own b d') := by
  unfold fMu at e
  cases e1 : fo ρ with
  | none => rw [e1] at e; cases e
  | some q =>
    obtain ⟨r0, ρ1⟩ := q
    cases r0 with
    | val d => rw [e1] at e; cases e
    | new d => rw [e1] at e; cases e
    | slot i =>
      simp only [e1] at e
      cases e2 : ρ1[i]? with
      | none => simp only [e2] at e; cases e
      | some s =>
        cases s with
        | own b0 d0 =>
          simp only [e2] at e
          split at e
          · rename_i hT
            cases e3 : fa ρ1 with
            | none => simp only [e3] at e; cases e
            | some q3 =>
              obtain ⟨rs, ρ2⟩ := q3
              simp only [e3] at e
              cases e4 : frzs ρ2 rs with
              | none => simp only [e4] at e; cases e
              | some q4 =>
                obtain ⟨ds, ρ3⟩ := q4
                simp only [e4] at e
                cases e5 : ρ3[i]? with
                | none => simp only [e5] at e; cases e
                | some s5 =>
                  cases s5 with
                  | own b d =>
                    simp only [e5] at e
                    cases e6 : m d ds with
                    | none => simp only [e6] at e; cases e
                    | some q6 =>
                      obtain ⟨res, d'⟩ := q6
                      simp only [e6] at e
                      cases e
                      exact ⟨i, ρ1, b0, d0, rs, ρ2, ds, ρ3, b, d, res, d', rfl, e2, hT, e3, e4, e5, e6, rfl, rfl⟩
                  | _ => simp only [e5] at e; cases e
          · cases e
        | _ => simp only [e2] at e; cases e
theorem se_mu {T : String} {rel : V → List V → Hp → VK → Prop} {m : D → List D → Option (D × D)} {tx : TA} {fx : FA} (u : MU K rel m) (ho : SE K ta fa) (hx : SA K tx fx) : SE K (tBM K T rel ta tx) (fMu T m fa fx) := by
  intro N B ι σ H ρ r ρ' I e Q k
  obtain ⟨i, ρ1, b0, d0, rs, ρ2, ds, ρ3, b, d, res, d', e1, e2, hT, e3, e4, e5, e6, rfl, rfl⟩ := fMu_eq e
  refine ho.use I e1 fun v H1 x1 I1 z1 => ?_
  have hs : σ[i]? = some (some v) := z1
  obtain ⟨p, g1, g2, _⟩ := I1.own i _ _ e2
  rw [hs] at g1; cases g1
  refine ⟨hT ▸ own_ty g2, ?_⟩
  refine hx N B ι σ H1 ρ1 rs ρ2 I1 e3 _ fun vs H2 x2 I2 q2 => ?_
  obtain ⟨I3, r3, x3⟩ := frzs_ok I2 q2 e4
  exact mu_core u I3 hs e5 r3 e6 fun v' H' x5 I5 hv => k v' H' (((x1.trans x2).trans x3).trans x5) ⟨I5, hv⟩
theorem se_mu0 {T : String} {rel : V → List V → Hp → VK → Prop} {m : D → List D → Option (D × D)} (u : MU K rel m) (ho : SE K ta fa) : SE K (tBM0 K T rel ta) (fMu T m fa fNil) := by
  intro N B ι σ H ρ r ρ' I e Q k
  obtain ⟨i, ρ1, b0, d0, rs, ρ2, ds, ρ3, b, d, res, d', e1, e2, hT, e3, e4, e5, e6, rfl, rfl⟩ := fMu_eq e
  cases e3
  cases e4
  refine ho.use I e1 fun v H1 x1 I1 z1 => ?_
  have hs : σ[i]? = some (some v) := z1
  obtain ⟨p, g1, g2, _⟩ := I1.own i _ _ e2
  rw [hs] at g1; cases g1
  refine ⟨hT ▸ own_ty g2, ?_⟩
  exact mu_core (ds := []) u I1 hs e5 .nil e6 fun v' H' x5 I5 hv => k v' H' (x1.trans x5) ⟨I5, hv⟩
def mAppend : D → List D → Option (D × D)
  | .lst xs, [d] => if xs.length < sizeLine then some (.non, .lst (xs ++ [d])) else none
  | _, _ => none
theorem mu_append : MU K rAppend mAppend := by
  intro Fb H p d vs ds res d' hp ho hr hm Q k
  unfold mAppend at hm
  split at hm
  · rename_i xs x
    split at hm
    · rename_i hl
      cases hm
      obtain ⟨ws, h1, r1⟩ := ho
      cases hr with
      | cons hx hn =>
        cases hn
        exact ⟨p, ws, _, rfl, rfl, h1, by rw [r1.length]; exact hl, k _ _ hk_upd hl_upd .non ⟨_, upd_same, (r1.append (.one hx)).tr (trw hp hk_upd)⟩⟩
    · cases hm
  · cases hm
def rExtendA : V → List V → Hp → VK → Prop := fun x vs H Q => ∃ l b xs zs, x = .ref l ∧ vs = [.ref b] ∧ H l = some (.lst xs) ∧ Rd H b (.lst zs) ∧ xs.length + zs.length ≤ sizeLine ∧ Q .non (upd H l (.lst (xs ++ zs)))
theorem mt_extendA : MtM X "list.extend" rExtendA := by
  intro pins s σ H x vs v us Q I rx rv h
  obtain ⟨l, b, xs, zs, rfl, rfl, hH, hB, hz, q⟩ := h
  cases rx
  obtain ⟨u, rfl, ru⟩ := rv.one
  cases ru
  obtain ⟨z, its, n, r, hl, e⟩ := I.lstM hH
  obtain ⟨z2, its2, n2, r2, e2⟩ := hB.ok I.hok
  have hl2 := r2.length
  have hsz : its.toArray.size + its2.toArray.size ≤ sizeLine := by rw [List.size_toArray, List.size_toArray]; omega
  have hlong : ¬ (!its.toArray.isEmpty && Builtin.List.listTooLong (its.toArray.size + its2.toArray.size)) = true := by
    rw [notLongL hsz, Bool.and_false]
    exact Bool.false_ne_true
  refine call_meets F.slot_list_extend ⟨_, e, rfl⟩ F.entry_list_extend (F.args_list_extend_2 _ _)
    (AutoSeq1.list_extend_list_list_0 l its.toArray n b its2.toArray n2 hlong (by rw [List.size_toArray]; omega) (by omega)) ⟨e, e2, ?_⟩
  refine ⟨.non, _, I.lset (its' := its ++ its2) hH e (by simp) (r.append r2) ?_, rfl, q⟩
  rw [List.length_append]
  omega
def mExtend : D → List D → Option (D × D)
  | .lst xs, [.lst ys] => if xs.length + ys.length ≤ sizeLine then some (.non, .lst (xs ++ ys)) else none
  | _, _ => none
theorem mu_extend : MU K rExtendA mExtend := by
  intro Fb H p d vs ds res d' hp ho hr hm Q k
  unfold mExtend at hm
  split at hm
  · rename_i xs ys
    split at hm
    · rename_i hl
      cases hm
      obtain ⟨ws, h1, r1⟩ := ho
      cases hr with
      | cons hx hn =>
        cases hn
        cases hx with
        | lst h2 r2 =>
          exact ⟨p, _, ws, _, rfl, rfl, h1, h2.2, by rw [r1.length, r2.length]; exact hl, k _ _ hk_upd hl_upd .non ⟨_, upd_same, (r1.append r2).tr (trw hp hk_upd)⟩⟩
    · cases hm
  · cases hm
def mPop : D → List D → Option (D × D)
  | .lst xs, [] => (match xs[xs.length - 1]? with
    | some d => some (d, .lst xs.dropLast)
    | none => none)
  | _, _ => none
theorem Reps.dropLast : ∀ {vs : List V} {ds : List D}, Reps K Fb H vs ds → Reps K Fb H vs.dropLast ds.dropLast := fun {vs ds} r => by
  rw [List.dropLast_eq_take, List.dropLast_eq_take, r.length]
  exact r.take _
theorem mu_pop : MU K rPop mPop := by
  intro Fb H p d vs ds res d' hp ho hr hm Q k
  unfold mPop at hm
  split at hm
  · split at hm
    · rename_i xs _ dd hd
      cases hm
      obtain ⟨ws, h1, r1⟩ := ho
      cases hr
      obtain ⟨v, g1, g2⟩ := r1.get hd
      have t := trw (H' := upd H p (.lst ws.dropLast)) hp hk_upd
      exact ⟨p, ws, v, rfl, rfl, h1, by rw [r1.length]; exact g1, k _ _ hk_upd hl_upd (g2.tr t) ⟨_, upd_same, r1.dropLast.tr t⟩⟩
    · cases hm
  · cases hm
def mReverse : D → List D → Option (D × D)
  | .lst xs, [] => some (.non, .lst xs.reverse)
  | _, _ => none
theorem mu_reverse : MU K rReverse mReverse := by
  intro Fb H p d vs ds res d' hp ho hr hm Q k
  unfold mReverse at hm
  split at hm
  · cases hm
    obtain ⟨ws, h1, r1⟩ := ho
    cases hr
    have t := trw (H' := upd H p (.lst ws.reverse)) hp hk_upd
    exact ⟨p, ws, rfl, rfl, h1, k _ _ hk_upd hl_upd .non ⟨_, upd_same, r1.reverse.tr t⟩⟩
  · cases hm
/-- d.setdefault(k, x), d.pop(k), d.pop(k, x): the dict, then the key, then the other -/
def fD2 (m : List (Str × D) → Str → D → Option (D × List (Str × D))) (fo fk fx : FE) : FE := fun ρ => match fo ρ with
  | some (.slot i, ρ1) => (match ρ1[i]? with
    | some (.own _ (.dct _)) => (match fk ρ1 with
      | some (rk, ρ2) => (match fx ρ2 with
        | some (rx, ρ3) => (match cont ρ3 rk with
          | some (.str x) => (match frz ρ3 rx with
            | some (dx, ρ4) => (match ρ4[i]? with
              | some (.own b (.dct kvs)) => (match m kvs x dx with
                | some (res, kvs') => some (.val res, ρ4.set i (.own b (.dct kvs')))
                | none => none)
              | _ => none)
            | none => none)
          | _ => none)
        | none => none)
      | none => none)
    | _ => none)
  | _ => none
theorem fD2_eq {m : List (Str × D) → Str → D → Option (D × List (Str × D))} {fo fk fx : FE} {r : R} (e : fD2 m fo fk fx ρ = some (r, ρ')) : ∃ i ρ1 b0 kv0 rk ρ2 rx ρ3 x dx ρ4 b kvs res kvs', fo ρ = some (.slot i, ρ1) ∧ ρ1[i]? = some (.own b0 (.dct kv0)) ∧ fk ρ1 = some (rk, ρ2) ∧ fx ρ2 = some (rx, ρ3) ∧ cont ρ3 rk = some (.str x) ∧ frz ρ3 rx = some (dx, ρ4) ∧ ρ4[i]? = some (.own b (.dct kvs)) ∧ m kvs x dx = some (res, kvs') ∧ r = .val res ∧ ρ' = ρ4.set i (.own b (.dct kvs')) := by
  unfold fD2 at e
  cases e1 : fo ρ with
  | none => rw [e1] at e; cases e
  | some q =>
    obtain ⟨r0, ρ1⟩ := q
    cases r0 with
    | val d => rw [e1] at e; cases e
    | new d => rw [e1] at e; cases e
    | slot i =>
      simp only [e1] at e
      cases e2 : ρ1[i]? with
      | none => simp only [e2] at e; cases e
      | some s =>
        cases s with
        | own b0 d0 =>
          cases d0 with
          | dct kv0 =>
            simp only [e2] at e
            cases e3 : fk ρ1 with
            | none => simp only [e3] at e; cases e
            | some q3 =>
              obtain ⟨rk, ρ2⟩ := q3
              simp only [e3] at e
              cases e4 : fx ρ2 with
              | none => simp only [e4] at e; cases e
              | some q4 =>
                obtain ⟨rx, ρ3⟩ := q4
                simp only [e4] at e
                cases e5 : cont ρ3 rk with
                | none => simp only [e5] at e; cases e
                | some dk =>
                  cases dk with
                  | str x =>
                    simp only [e5] at e
                    cases e6 : frz ρ3 rx with
                    | none => simp only [e6] at e; cases e
                    | some q6 =>
                      obtain ⟨dx, ρ4⟩ := q6
                      simp only [e6] at e
                      cases e7 : ρ4[i]? with
                      | none => simp only [e7] at e; cases e
                      | some s7 =>
                        cases s7 with
                        | own b d7 =>
                          cases d7 with
                          | dct kvs =>
                            simp only [e7] at e
                            cases e8 : m kvs x dx with
                            | none => simp only [e8] at e; cases e
                            | some q8 =>
                              obtain ⟨res, kvs'⟩ := q8
                              simp only [e8] at e
                              cases e
                              exact ⟨i, ρ1, b0, kv0, rk, ρ2, rx, ρ3, x, dx, ρ4, b, kvs, res, kvs', rfl, e2, e3, e4, e5, e6, e7, e8, rfl, rfl⟩
                          | _ => simp only [e7] at e; cases e
                        | _ => simp only [e7] at e; cases e
                  | _ => simp only [e5] at e; cases e
          | _ => simp only [e2] at e; cases e
        | _ => simp only [e2] at e; cases e
/-- the common road: the dict at p -/
theorem d2_core {m : List (Str × D) → Str → D → Option (D × List (Str × D))} {r : R} {RP : Addr → V → V → Hp → Prop} {Q : VK} (ho : SE K ta fa) (hk : SE K tb fb) (hx : SE K tc fc) (I : Rel K N B ι σ H ρ) (e : fD2 m fa fb fc ρ = some (r, ρ')) (k : ∀ v H', Ext σ ρ H σ ρ' H' → EQ K N B ι σ H ρ' v H' r → Q v H')
    (fin : ∀ {Fb p kv x z H3 kvs dx res kvs'}, Fb p → H3 p = some (.dK kv) → RepK K Fb H3 kv kvs → Rep K Fb H3 z dx → m kvs x dx = some (res, kvs') →
      (∀ v H', (∀ a o, a ≠ p → H3 a = some o → H' a = some o) → (∀ a, H' a = none → H3 a = none) → Rep K Fb H' v res → OwnR K Fb H' p (.dct kvs') → Q v H') → RP p (kV (Sum.inr x)) z H3) :
    ta σ H fun x H1 => ∃ p, x = .ref p ∧ IsD H1 p ∧ tb σ H1 fun y H2 => tc σ H2 fun z H3 => RP p y z H3 := by
  obtain ⟨i, ρ1, b0, kv0, rk, ρ2, rx, ρ3, x, dx, ρ4, b, kvs, res, kvs', e1, e2, e3, e4, e5, e6, e7, e8, rfl, rfl⟩ := fD2_eq e
  refine ho.use I e1 fun v H1 x1 I1 z1 => ?_
  have hs : σ[i]? = some (some v) := z1
  obtain ⟨p, g1, g2, _⟩ := I1.own i _ _ e2
  rw [hs] at g1; cases g1
  obtain ⟨kv1, g3, _⟩ := g2
  refine ⟨p, rfl, .inl ⟨kv1, .inl g3⟩, ?_⟩
  refine hk.use I1 e3 fun y H2 x2 I2 z2 => ?_
  refine hx.use I2 e4 fun z H3 x3 I3 z3 => ?_
  have yk := repT_str ((z2.ext x3).top I3 e5)
  subst yk
  obtain ⟨I4, r4, x4⟩ := frz_ok I3 z3 e6
  obtain ⟨p', q1, q2, _⟩ := I4.own i _ _ e7
  rw [hs] at q1; cases q1
  obtain ⟨kv, q3, q4⟩ := q2
  refine fin (Fb := Fbd N σ ρ4) (.inr ⟨i, _, _, e7, hs⟩) q3 q4 r4 e8 fun v' H' hk' hl' hv ho' => ?_
  obtain ⟨I5, x5⟩ := I4.write e7 hs hk' hl' ho'
  refine k v' H' ((((x1.trans x2).trans x3).trans x4).trans x5) ⟨I5, hv.tr (.less fun a z => z.imp id fun ⟨j, b', e', h1, h2⟩ => ?_)⟩
  rcases getElem?_set_cases h1 with ⟨rfl, z, _⟩ | ⟨hj, h1⟩
  · exact ⟨j, _, _, e7, h2⟩
  · exact ⟨j, b', e', h1, h2⟩
def mSetd (kvs : List (Str × D)) (x : Str) (d : D) : Option (D × List (Str × D)) := match dget kvs x with
  | some e => if kvs.length < sizeLine then some (e, kvs) else none
  | none => if kvs.length < sizeLine then some (d, dput kvs x d) else none
theorem RepK.trw {Fb : Addr → Prop} {kv : List (Key × V)} {ds : List (Str × D)} {p : Addr} {o : HO} (h : RepK K Fb H kv ds) (hp : Fb p) : RepK K Fb (L2.upd H p o) kv ds := RepK.tr (DL.trw hp hk_upd) h
theorem se_setd (ho : SE K ta fa) (hk : SE K tb fb) (hx : SE K tc fc) : SE K (tDSetd ta tb tc) (fD2 mSetd fa fb fc) := by
  intro N B ι σ H ρ r ρ' I e Q k
  refine d2_core ho hk hx I e k fun {Fb p kv x z H3 kvs dx res kvs'} hp h3 hr hz hm kk => ?_
  unfold mSetd at hm
  rcases hr.get x with ⟨v, d, g1, g2, g3⟩ | ⟨g1, g2⟩
  · rw [g2] at hm
    simp only at hm
    split at hm
    · rename_i hl
      cases hm
      refine ⟨kv, Sum.inr x, h3, rfl, by rw [hr.length]; exact hl, fun v' hv' => ?_, fun hv' => ?_⟩
      · rw [g1] at hv'; cases hv'
        exact kk v H3 (fun _ _ _ h => h) (fun _ h => h) g3 ⟨kv, h3, hr⟩
      · rw [g1] at hv'; cases hv'
    · cases hm
  · rw [g2] at hm
    simp only at hm
    split at hm
    · rename_i hl
      cases hm
      refine ⟨kv, Sum.inr x, h3, rfl, by rw [hr.length]; exact hl, fun v' hv' => ?_, fun hv' => ?_⟩
      · rw [g1] at hv'; cases hv'
      · exact kk z _ hk_upd hl_upd (hz.tr (DL.trw hp hk_upd)) ⟨_, upd_same, (hr.put x hz).trw hp⟩
    · cases hm
def mPop2 (kvs : List (Str × D)) (x : Str) (d : D) : Option (D × List (Str × D)) := match dget kvs x with
  | some e => some (e, ddrop kvs x)
  | none => some (d, kvs)
theorem se_dpop2 (ho : SE K ta fa) (hk : SE K tb fb) (hx : SE K tc fc) : SE K (tDPop2 ta tb tc) (fD2 mPop2 fa fb fc) := by
  intro N B ι σ H ρ r ρ' I e Q k
  refine d2_core ho hk hx I e k fun {Fb p kv x z H3 kvs dx res kvs'} hp h3 hr hz hm kk => ?_
  unfold mPop2 at hm
  rcases hr.get x with ⟨v, d, g1, g2, g3⟩ | ⟨g1, g2⟩
  · rw [g2] at hm
    cases hm
    refine ⟨kv, Sum.inr x, h3, rfl, fun v' hv' => ?_, fun hv' => ?_⟩
    · rw [g1] at hv'; cases hv'
      exact kk v _ hk_upd hl_upd (g3.tr (DL.trw hp hk_upd)) ⟨_, upd_same, (hr.drop x).trw hp⟩
    · rw [g1] at hv'; cases hv'
  · rw [g2] at hm
    cases hm
    refine ⟨kv, Sum.inr x, h3, rfl, fun v' hv' => ?_, fun hv' => ?_⟩
    · rw [g1] at hv'; cases hv'
    · exact kk z H3 (fun _ _ _ h => h) (fun _ h => h) hz ⟨kv, h3, hr⟩
/-- d.pop(k), k there -/
def mPop1 (kvs : List (Str × D)) (x : Str) (_ : D) : Option (D × List (Str × D)) := match dget kvs x with
  | some e => some (e, ddrop kvs x)
  | none => none
theorem se_dpop1 (ho : SE K ta fa) (hk : SE K tb fb) : SE K (tDPop1 ta tb) (fD2 mPop1 fa fb (fC .non)) := by
  intro N B ι σ H ρ r ρ' I e Q k
  have := d2_core (tc := tC .non) (fc := fC .non) (RP := fun p y z H3 => ∃ kvs k v, H3 p = some (.dK kvs) ∧ y = kV k ∧ valV kvs k = some v ∧ Q v (upd H3 p (.dK (dropK kvs k)))) ho hk (se_c fun _ _ => .non) I e k fun {Fb p kv x z H3 kvs dx res kvs'} hp h3 hr hz hm kk => by
    unfold mPop1 at hm
    rcases hr.get x with ⟨v, d, g1, g2, g3⟩ | ⟨g1, g2⟩
    · rw [g2] at hm
      cases hm
      exact ⟨kv, Sum.inr x, v, h3, rfl, g1, kk v _ hk_upd hl_upd (g3.tr (DL.trw hp hk_upd)) ⟨_, upd_same, (hr.drop x).trw hp⟩⟩
    · rw [g2] at hm
      cases hm
  exact this
/-- d.get(k), d.get(k, x), by what stands -/
def fGet2 (fo fk fx : FE) : FE := fun ρ => match fo ρ with
  | some (ro, ρ1) => (match cont ρ1 ro with
    | some (.dct _) => (match fk ρ1 with
      | some (rk, ρ2) => (match fx ρ2 with
        | some (rx, ρ3) => (match cont ρ3 ro, cont ρ3 rk with
          | some (.dct kvs), some (.str x) => (match dget kvs x with
            | some d => some (.val d, ρ3)
            | none => (match frz ρ3 rx with
              | some (d, ρ4) => some (.val d, ρ4)
              | none => none))
          | _, _ => none)
        | none => none)
      | none => none)
    | _ => none)
  | none => none
theorem fGet2_eq {fo fk fx : FE} {r : R} (e : fGet2 fo fk fx ρ = some (r, ρ')) : ∃ ro ρ1 kv0 rk ρ2 rx ρ3 kvs x, fo ρ = some (ro, ρ1) ∧ cont ρ1 ro = some (.dct kv0) ∧ fk ρ1 = some (rk, ρ2) ∧ fx ρ2 = some (rx, ρ3) ∧ cont ρ3 ro = some (.dct kvs) ∧ cont ρ3 rk = some (.str x) ∧
    ((∃ d, dget kvs x = some d ∧ r = .val d ∧ ρ' = ρ3) ∨ (dget kvs x = none ∧ ∃ d, frz ρ3 rx = some (d, ρ') ∧ r = .val d)) := by
  unfold fGet2 at e
  cases e1 : fo ρ with
  | none => rw [e1] at e; cases e
  | some q =>
    obtain ⟨ro, ρ1⟩ := q
    simp only [e1] at e
    cases e2 : cont ρ1 ro with
    | none => simp only [e2] at e; cases e
    | some d0 =>
      cases d0 with
      | dct kv0 =>
        simp only [e2] at e
        cases e3 : fk ρ1 with
        | none => simp only [e3] at e; cases e
        | some q3 =>
          obtain ⟨rk, ρ2⟩ := q3
          simp only [e3] at e
          cases e4 : fx ρ2 with
          | none => simp only [e4] at e; cases e
          | some q4 =>
            obtain ⟨rx, ρ3⟩ := q4
            simp only [e4] at e
            cases e5 : cont ρ3 ro with
            | none => simp only [e5] at e; cases e
            | some d5 =>
              cases e6 : cont ρ3 rk with
              | none => simp only [e5, e6] at e; cases d5 <;> cases e
              | some d6 =>
                cases d5 with
                | dct kvs =>
                  cases d6 with
                  | str x =>
                    simp only [e5, e6] at e
                    cases e7 : dget kvs x with
                    | some d => simp only [e7] at e; cases e; exact ⟨ro, ρ1, kv0, rk, ρ2, rx, _, kvs, x, rfl, e2, e3, e4, e5, e6, .inl ⟨d, e7, rfl, rfl⟩⟩
                    | none =>
                      simp only [e7] at e
                      cases e8 : frz ρ3 rx with
                      | none => simp only [e8] at e; cases e
                      | some q8 => obtain ⟨d, ρ4⟩ := q8; simp only [e8] at e; cases e; exact ⟨ro, ρ1, kv0, rk, ρ2, rx, ρ3, kvs, x, rfl, e2, e3, e4, e5, e6, .inr ⟨e7, d, e8, rfl⟩⟩
                  | _ => simp only [e5, e6] at e; cases e
                | _ => simp only [e5, e6] at e; cases d6 <;> cases e
      | _ => simp only [e2] at e; cases e
theorem se_dget2 (ho : SE K ta fa) (hk : SE K tb fb) (hx : SE K tc fc) : SE K (tDGet2 ta tb tc) (fGet2 fa fb fc) := by
  intro N B ι σ H ρ r ρ' I e Q k
  obtain ⟨ro, ρ1, kv0, rk, ρ2, rx, ρ3, kvs, x, e1, e2, e3, e4, e5, e6, e7⟩ := fGet2_eq e
  refine ho.use I e1 fun v H1 x1 I1 z1 => ?_
  obtain ⟨a, w0, rfl, h0, _⟩ := z1.top I1 e2
  refine ⟨a, rfl, .inl ⟨w0, h0⟩, ?_⟩
  refine hk.use I1 e3 fun y H2 x2 I2 z2 => ?_
  refine hx.use I2 e4 fun z H3 x3 I3 z3 => ?_
  obtain ⟨a', w1, ea, h1, r1⟩ := ((z1.ext x2).ext x3).top I3 e5
  cases ea
  rw [repT_str ((z2.ext x3).top I3 e6)]
  refine ⟨_, .inl ⟨w1, Sum.inr x, h1, rfl, rfl⟩, ?_⟩
  rcases r1.get x with ⟨v, d, g1, g2, g3⟩ | ⟨g1, g2⟩
  · rcases e7 with ⟨d', q1, rfl, rfl⟩ | ⟨q1, _⟩
    · rw [g2] at q1; cases q1
      rw [g1]
      exact k v H3 ((x1.trans x2).trans x3) ⟨I3, g3⟩
    · rw [g2] at q1; cases q1
  · rcases e7 with ⟨d', q1, _⟩ | ⟨_, d, q2, rfl⟩
    · rw [g2] at q1; cases q1
    · rw [g1]
      obtain ⟨I4, r4, x4⟩ := frz_ok I3 z3 q2
      exact k z H3 (((x1.trans x2).trans x3).trans x4) ⟨I4, r4⟩
theorem se_dget1 (ho : SE K ta fa) (hk : SE K tb fb) : SE K (tDGet1 ta tb) (fGet2 fa fb (fC .non)) := by
  intro N B ι σ H ρ r ρ' I e Q k
  exact se_dget2 (tc := tC .non) ho hk (se_c fun _ _ => .non) N B ι σ H ρ r ρ' I e Q k
end
end DL
set_option maxRecDepth 100000
set_option maxHeartbeats 4000000
namespace DL
open PySem PySem.Spec L2
inductive SK where
  | lst (a : Addr) | tup (a : Addr) | txt (x : Str)
def sigV (z : Str) : List V := z.cps.toList.map fun c => .str ⟨#[c]⟩
def SK.at (K : PySem.W.Frag) (H : Hp) : SK → List V → Prop
  | .lst a, xs => SqL K H a xs
  | .tup a, xs => SqT K H a xs
  | .txt x, xs => xs = sigV x
def SK.v : SK → V
  | .lst a => .ref a
  | .tup a => .ref a
  | .txt x => .str x
def SK.src : SK → List Addr
  | .lst a => [a]
  | .tup a => [a]
  | .txt _ => []
/-- the iterator at it, behind i -/
def SK.st (it i : Nat) (h : Heap) : SK → Prop
  | .lst a => h.IsListIter it a i
  | .tup a => h.IsTupleIter it a i
  | .txt x => ∃ t, h.IsStrIter it (strIterType x) x t i
def SK.cnt (its : List Value) (h : Heap) : SK → Prop
  | .lst a => h.IsList a its.toArray
  | .tup a => h.IsTuple a its.toArray
  | .txt _ => True
theorem Draws.map {prog : Program} {w : World} {A : Around} {it : Addr} {fp : List Addr} {n : Nat} {P P' : Nat → Value → Prop} {S S' : Nat → Heap → Prop} (D : Draws prog w A it fp n P S) (hp : ∀ i v, P i v → P' i v) (h1 : ∀ i h, S i h → S' i h) (h2 : ∀ i h, S' i h → S i h) : Draws prog w A it fp n P' S' where
  live := fun i h s => D.live i h (h2 i h s)
  frame := fun i h h' s k => h1 i h' (D.frame i h h' (h2 i h s) k)
  item := fun i s Q E hi st hQ => D.item i s Q E hi (h2 _ _ st) fun x h' tk p st' sb => hQ x h' tk (hp i x p) (h1 _ _ st') sb
  done := fun s Q E st hE => D.done s Q E (h2 _ _ st) hE
theorem SK.draws {P : Program} {w : World} {A : Around} (hh : A.handled = none) (it : Addr) : ∀ (k : SK) {xs : List V} {its : List Value}, (∀ x, k ≠ .txt x) → Vals xs its → it ∉ k.src → Draws P w A it (it :: k.src) xs.length (fun i v => ∃ x, xs[i]? = some x ∧ RelV x v) (fun i h => k.st it i h ∧ k.cnt its h)
  | .lst a, xs, its, _, r, hn => by
    have D := Draws.list (prog := P) (w := w) (A := A) hh it a (fun z => hn (by simp [SK.src, z])) its.toArray
    rw [List.size_toArray, ← r.length] at D
    refine DL.Draws.map D (fun i v hv => ?_) (fun _ _ h => h) (fun _ _ h => h)
    have hv : its[i]? = some v := by simpa using hv
    cases e : xs[i]? with
    | none => have := r.none_of e; rw [hv] at this; cases this
    | some x => obtain ⟨u, h1, h2⟩ := r.get e; rw [hv] at h1; cases h1; exact ⟨x, rfl, h2⟩
  | .tup a, xs, its, _, r, hn => by
    have D := Draws.tuple (prog := P) (w := w) (A := A) hh it a (fun z => hn (by simp [SK.src, z])) its.toArray
    rw [List.size_toArray, ← r.length] at D
    refine DL.Draws.map D (fun i v hv => ?_) (fun _ _ h => h) (fun _ _ h => h)
    have hv : its[i]? = some v := by simpa using hv
    cases e : xs[i]? with
    | none => have := r.none_of e; rw [hv] at this; cases this
    | some x => obtain ⟨u, h1, h2⟩ := r.get e; rw [hv] at h1; cases h1; exact ⟨x, rfl, h2⟩
  | .txt x, _, _, h, _, _ => absurd rfl (h x)
theorem SK.drawsT {P : Program} {w : World} {A : Around} (hh : A.handled = none) (it : Addr) (x : Str) (t : Tok) : Draws P w A it [it] (sigV x).length (fun i v => ∃ y, (sigV x)[i]? = some y ∧ RelV y v) (fun i h => h.IsStrIter it (strIterType x) x t i) := by
  have D := Draws.text (prog := P) (w := w) (A := A) hh it x t
  rw [show (sigV x).length = x.cps.size by simp [sigV]]
  refine DL.Draws.map D (fun i v ⟨c, u, h1, h2⟩ => ?_) (fun _ _ h => h) (fun _ _ h => h)
  subst h2
  refine ⟨.str ⟨#[c]⟩, ?_, ⟨u, rfl⟩⟩
  unfold sigV
  rw [List.getElem?_map]
  simp only [Array.getElem?_toList, h1, Option.map_some]
/-- one more: whatever is walked, told once -/
theorem SK.any {P : Program} {w : World} {A : Around} (hh : A.handled = none) {X : Cx} {pins : List (Addr × Obj)} {σ : St} {H : Hp} {s : Shared} (I : Inv X pins σ H s) (it i : Nat) (k : SK) {xs : List V} (ha : k.at X.K H xs) (hn : it ∉ k.src) (st : k.st it i s.heap) :
    ∃ S : Nat → Heap → Prop, Draws P w A it (it :: k.src) xs.length (fun i v => ∃ x, xs[i]? = some x ∧ RelV x v) S ∧ S i s.heap ∧ (∀ j h, S j h → k.st it j h) := by
  cases k with
  | lst a =>
    obtain ⟨its, r, p, _⟩ := I.list ha
    exact ⟨_, SK.draws hh it (.lst a) (fun _ z => nomatch z) r hn, ⟨st, p.isList⟩, fun _ _ h => h.1⟩
  | tup a =>
    obtain ⟨its, r, p, _⟩ := I.tuple ha
    exact ⟨_, SK.draws hh it (.tup a) (fun _ z => nomatch z) r hn, ⟨st, p⟩, fun _ _ h => h.1⟩
  | txt x =>
    obtain ⟨t, st⟩ := st
    have ha : xs = sigV x := ha
    subst ha
    exact ⟨_, SK.drawsT hh it x t, st, fun _ _ h => ⟨t, h⟩⟩
theorem SK.uniq {X : Cx} {pins : List (Addr × Obj)} {σ : St} {H : Hp} {s : Shared} (I : Inv X pins σ H s) (k : SK) {xs ys : List V} (h1 : k.at X.K H xs) (h2 : k.at X.K H ys) : xs = ys := by
  cases k with
  | lst a => exact I.list_inj h1 h2
  | tup a => exact I.tuple_inj h1 h2
  | txt x => exact (show xs = sigV x from h1).trans (show ys = sigV x from h2).symm
theorem SK.live {X : Cx} {pins : List (Addr × Obj)} {σ : St} {H : Hp} {s : Shared} (I : Inv X pins σ H s) (k : SK) {xs : List V} (h1 : k.at X.K H xs) : ∀ b ∈ k.src, b < s.heap.objs.size := by
  cases k with
  | lst a =>
    obtain ⟨its, r, p, _⟩ := I.list h1
    intro b hb
    have e : b = a := by simpa [SK.src] using hb
    subst e
    exact p.lt
  | tup a =>
    obtain ⟨its, r, p, _⟩ := I.tuple h1
    intro b hb
    have e : b = a := by simpa [SK.src] using hb
    subst e
    exact p.lt
  | txt x => intro b hb; cases hb
/-- iter(v) -/
theorem SK.begins {X : Cx} {pins : List (Addr × Obj)} {σ : St} {H : Hp} {s : Shared} (I : Inv X pins σ H s) (k : SK) {xs : List V} {u : Value} (h1 : k.at X.K H xs) (r : RelV k.v u) : ∃ o Hb, Begins u o Hb ∧ Hb s.heap ∧ ∀ h it, h.get? it = some o → k.st it 0 h := by
  cases k with
  | lst a =>
    obtain ⟨its, _, p, _⟩ := I.list h1
    cases r
    exact ⟨_, _, begins_list a its.toArray, p.isList, fun h it e => ⟨_, e, rfl, rfl⟩⟩
  | tup a =>
    obtain ⟨its, _, p, _⟩ := I.tuple h1
    cases r
    exact ⟨_, _, begins_tuple a its.toArray, p, fun h it e => ⟨_, e, rfl, rfl⟩⟩
  | txt x =>
    obtain ⟨t, rfl⟩ := r
    exact ⟨_, _, begins_text x t, trivial, fun h it e => ⟨t, _, e, rfl, rfl⟩⟩
/-- two of them at once -/
def Itz2 (K : PySem.W.Frag) (k1 k2 : SK) : It :=
  ⟨fun i H => ∃ xs ys x y, k1.at K H xs ∧ k2.at K H ys ∧ xs[i]? = some x ∧ ys[i]? = some y,
   fun i H v H' => ∃ T x y, v = .ref T ∧ H T = none ∧ H' = upd H T (.tup [x, y]) ∧ (∀ xs, k1.at K H xs → xs[i]? = some x) ∧ (∀ ys, k2.at K H ys → ys[i]? = some y),
   fun i H => ∃ xs ys, k1.at K H xs ∧ k2.at K H ys ∧ i ≤ xs.length ∧ i ≤ ys.length ∧ (i = xs.length ∨ i = ys.length)⟩
theorem SK.obj {it i : Nat} {h : Heap} {k : SK} (st : k.st it i h) : ∃ o, h.get? it = some o ∧ ∀ v, o.data ≠ .cell v := by
  cases k with
  | lst a => obtain ⟨o, e, _, d⟩ := st; exact ⟨o, e, fun v z => by rw [d] at z; cases z⟩
  | tup a => obtain ⟨o, e, _, d⟩ := st; exact ⟨o, e, fun v z => by rw [d] at z; cases z⟩
  | txt x => obtain ⟨t, o, e, _, d⟩ := st; exact ⟨o, e, fun v z => by rw [d] at z; cases z⟩
theorem SK.keep {it i : Nat} {h h' : Heap} {k : SK} (st : k.st it i h) (hk : ∀ o, h.get? it = some o → h'.get? it = some o) : k.st it i h' := by
  cases k with
  | lst a => exact st.at hk
  | tup a => exact st.at hk
  | txt x => obtain ⟨t, o, e, r⟩ := st; exact ⟨t, o, hk o e, r⟩
theorem turn_zip2 {P : Program} {w : World} {K : PySem.W.Frag} {elts : List Expr} {kk : Nat} {tpos : Pos} {k1 k2 : SK} {z TI TO i1 i2 : Addr} (S : ZipSep2 z TI TO i1 i2 (i1 :: k1.src) (i2 :: k2.src)) (hn1 : i1 ∉ k1.src) (hn2 : i2 ∉ k2.src) :
    Turn P w K (.Tuple elts kk tpos) (Itz2 K k1 k2) [z, TI, TO, i1, i2] z (fun i h => IsZip h z TI TO .none ∧ IsTupOf2 h TI (.ref i1) (.ref i2) ∧ (∃ x y, IsTupOf2 h TO x y) ∧ k1.st i1 i h ∧ k2.st i2 i h) where
  mem := by simp
  obj := fun i h st c hc => by
    obtain ⟨hz, hTI, ⟨x, y, hTO⟩, h1, h2⟩ := st
    have e' : c = z ∨ c = TI ∨ c = TO ∨ c = i1 ∨ c = i2 := by simpa using hc
    rcases e' with q | q | q | q | q
    · rw [q]; exact ⟨_, hz, fun v q => nomatch q⟩
    · rw [q]; exact ⟨_, hTI, fun v q => nomatch q⟩
    · rw [q]; exact ⟨_, hTO, fun v q => nomatch q⟩
    · rw [q]; exact SK.obj h1
    · rw [q]; exact SK.obj h2
  keep := fun i h h' st k => by
    obtain ⟨hz, hTI, ⟨x, y, hTO⟩, h1, h2⟩ := st
    exact ⟨k z (by simp) _ hz, k TI (by simp) _ hTI, ⟨x, y, k TO (by simp) _ hTO⟩, SK.keep h1 fun o q => k i1 (by simp) o q, SK.keep h2 fun o q => k i2 (by simp) o q⟩
  item := by
    intro X hP hw hK hc i pins s σ H E I hf st hg
    subst hP hw hK
    obtain ⟨hz, hTI, ⟨x0, y0, hTO⟩, h1, h2⟩ := st
    obtain ⟨xs, ys, x, y, hqx, hqy, hx, hy⟩ := hg
    have hh : X.A.in1.handled = none := I.ok.hd hc
    obtain ⟨S1, D1, st1, q1⟩ := SK.any (P := X.prog) (w := X.w) hh I i1 i k1 hqx hn1 h1
    obtain ⟨S2, D2, st2, q2⟩ := SK.any (P := X.prog) (w := X.w) hh I i2 i k2 hqy hn2 h2
    have hzl : z < s.heap.objs.size := Heap.lt_size hz
    have l1 : i < xs.length := by
      rcases Nat.lt_or_ge i xs.length with q | q
      · exact q
      · rw [List.getElem?_eq_none q] at hx; cases hx
    have l2 : i < ys.length := by
      rcases Nat.lt_or_ge i ys.length with q | q
      · exact q
      · rw [List.getElem?_eq_none q] at hy; cases hy
    refine wpAny_pyNext_zipD2_item S D1 D2 hz hTI hTO st1 st2 l1 l2 fun u u2 h' tk p1 p2 z' TO' s1' s2' hT hsz hk => ?_
    obtain ⟨x', hx', ru⟩ := p1
    obtain ⟨y', hy', ru2⟩ := p2
    rw [hx] at hx'; cases hx'
    rw [hy] at hy'; cases hy'
    refine ⟨_, rfl, wpAny_letOwnedTupleGo_zip (s := { s with heap := h', toks := tk }) z' fun h'' z'' sb => ?_⟩
    have hT2 : h''.get? s.heap.objs.size = some { cls := .type "tuple", data := .seq #[u, u2] } := (sb.2 _ (Nat.ne_of_gt hzl)).trans hT
    have new : ObjOk X.prog X.w (upd H s.heap.objs.size (.tup [x, y])) h'' s.heap.objs.size (.tup [x, y]) :=
      ⟨by show 2 ≤ sizeLine; decide, [u, u2], .cons ru (.cons ru2 .nil), ⟨_, hT2, rfl, _, rfl⟩⟩
    have I1 : Inv X pins σ (upd H s.heap.objs.size (.tup [x, y])) { s with heap := h'', toks := tk } :=
      I.turnedNew (t' := tk) (ch := [z, TI, TO, i1, i2]) (fun c o hb q => (sb.2 c (fun q' => hb (by simp [q']))).trans (hk c o (fun q' => hb (by simp [q'])) (fun q' => hb (by simp [q'])) (fun q' => hb (by simp [q'])) (fun q' => hb (by simp [q'])) q)) hf (Nat.le_refl _) new
    refine ⟨.ref s.heap.objs.size, _, I1, rfl, ⟨_, x, y, rfl, I.hok.fresh (Nat.le_refl _), rfl, fun l hl => by rw [k1.uniq I hl hqx]; exact hx, fun l hl => by rw [k2.uniq I hl hqy]; exact hy⟩, ⟨z'', ?_, ⟨u, u2, ?_⟩, ?_, ?_⟩, fun c hcm => ?_⟩
    · exact (sb.2 _ S.TIz).trans (hk _ _ S.TIz S.TITO S.TIi1 S.TIi2 hTI)
    · exact (sb.2 _ S.TOz).trans TO'
    · exact SK.keep (q1 _ _ s1') fun o q => (sb.2 _ (Ne.symm S.zi1)).trans q
    · exact SK.keep (q2 _ _ s2') fun o q => (sb.2 _ (Ne.symm S.zi2)).trans q
    · have hlt : c < s.heap.objs.size := by
        have e' : c = z ∨ c = TI ∨ c = TO ∨ c = i1 ∨ c = i2 := by simpa using hcm
        rcases e' with q | q | q | q | q
        · rw [q]; exact hzl
        · rw [q]; exact Heap.lt_size hTI
        · rw [q]; exact Heap.lt_size hTO
        · rw [q]; obtain ⟨_, e1, _⟩ := SK.obj h1; exact Heap.lt_size e1
        · rw [q]; obtain ⟨_, e2, _⟩ := SK.obj h2; exact Heap.lt_size e2
      rw [upd_ne (Nat.ne_of_lt hlt)]
      exact (hf c hcm).1
  done := by
    intro X hP hw hK hc i pins s σ H E I hf st hg
    subst hP hw hK
    obtain ⟨hz, hTI, ⟨x0, y0, hTO⟩, h1, h2⟩ := st
    obtain ⟨xs, ys, hqx, hqy, l1, l2, he⟩ := hg
    have hh : X.A.in1.handled = none := I.ok.hd hc
    obtain ⟨S1, D1, st1, q1⟩ := SK.any (P := X.prog) (w := X.w) hh I i1 i k1 hqx hn1 h1
    obtain ⟨S2, D2, st2, q2⟩ := SK.any (P := X.prog) (w := X.w) hh I i2 i k2 hqy hn2 h2
    exact wpAny_pyNext_zipD2_end S D1 D2 hz hTI hTO st1 st2 l1 l2 he fun h' tk hk => ⟨rfl, I.turnedL (t' := tk) (ch := [z, TI, TO, i1, i2]) (fun c o hb q =>
      hk c o (fun q' => hb (by simp [q'])) (fun q' => hb (by simp [q'])) (fun q' => hb (by simp [q'])) (fun q' => hb (by simp [q'])) q) hf⟩
  self := fun A i s Q E st h => wpAny_pyIter_zip st.1 h
def iZip2 (K : PySem.W.Frag) (ta : TA) : TI := fun σ H R => ta σ H fun vs H1 => ∃ k1 k2 xs ys, vs = [SK.v k1, SK.v k2] ∧ k1.at K H1 xs ∧ k2.at K H1 ys ∧ R (Itz2 K k1 k2) H1
theorem pi_zip2 {X : Cx} {e e2 : Expr} {ta : TA} {p pos tpos : Pos} {elts : List Expr} {kk : Nat} (hg : Gl X "zip") (hm : X.mg "zip" = none) (ha : PA X [e, e2] ta)
    (hs : starEach [e, e2] X.env = (false, eval e X.env) :: starEach [e2] X.env := by rfl) (hpl : (backTo pos (starEach [e2] X.env)).any (·.1) = false := by rfl) :
    PI X (.Tuple elts kk tpos) (.Call (.Name "zip" p) [e, e2] [] pos) (iZip2 X.K ta) := by
  refine ⟨fun pins s σ H R I h => ?_⟩
  refine PyProof.Rows.Call_ (ld_blt I hg hm PyProof.Rows.boot_zip (PyProof.Rows.callWith_type1 (thn (ha.run pos pins s σ H _ I h) fun us s1 ⟨vs, H1, I1, r1, q1⟩ => ?_) hs hpl))
  obtain ⟨k1, k2, xs, ys, ex, hqx, hqy, q⟩ := q1
  subst ex
  cases r1 with
  | cons r rr =>
    cases rr with
    | cons r' rr =>
      cases rr
      obtain ⟨o1, Hb1, B1, b1, st1⟩ := SK.begins I1 k1 hqx r
      obtain ⟨o2, Hb2, B2, b2, st2⟩ := SK.begins I1 k2 hqy r'
      refine zip_begins2 B1 B2 b1 b2 fun h' hz hTI hTO g1 g2 hsz hk => wpAny_pyIter_zip hz ?_
      have I2 : Inv X pins σ H1 { s1 with heap := h' } := I1.kept (t' := s1.toks) hk
      have l1 := SK.live I1 k1 hqx
      have l2 := SK.live I1 k2 hqy
      refine ⟨s1.heap.objs.size + 4, [s1.heap.objs.size + 4, s1.heap.objs.size + 2, s1.heap.objs.size + 3, s1.heap.objs.size, s1.heap.objs.size + 1], _, _, H1, rfl, I2, turn_zip2 (zip_sep2 l1 l2) (fun m => absurd (l1 _ m) (Nat.lt_irrefl _)) (fun m => absurd (l2 _ m) (Nat.not_lt.mpr (Nat.le_succ _))), ⟨hz, hTI, ⟨_, _, hTO⟩, st1 _ _ g1, st2 _ _ g2⟩, fun c hcm => ?_, q⟩
      have e' : c = s1.heap.objs.size + 4 ∨ c = s1.heap.objs.size + 2 ∨ c = s1.heap.objs.size + 3 ∨ c = s1.heap.objs.size ∨ c = s1.heap.objs.size + 1 := by simpa using hcm
      have hle : s1.heap.objs.size ≤ c := by
        rcases e' with q | q | q | q | q <;> rw [q]
        · exact Nat.le_add_right _ _
        · exact Nat.le_add_right _ _
        · exact Nat.le_add_right _ _
        · exact Nat.le_refl _
        · exact Nat.le_add_right _ _
      exact I1.fpOk hle (I1.hok.fresh hle)
section
variable {K : PySem.W.Frag} {Fb N : Addr → Prop} {H H' B : Hp} {X : Cx} {σ ι : St} {ρ ρ' : Env'} {t ta tb tc : TE} {f fa fb fc : FE}
/-- what a thing gives that is walked -/
theorem sk_of {v : V} {d : D} {ds : List D} (q : Rep K Fb H v d) (h : itemsOf d = some ds) : ∃ k : SK, ∃ xs, v = k.v ∧ k.at K H xs ∧ Reps K Fb H xs ds ∧ ∀ {Fb' H'}, TrR Fb H Fb' H' → k.at K H' xs := by
  cases q with
  | tup h1 r1 => cases h; exact ⟨.tup _, _, rfl, h1.sq, r1, fun t => (h1.tr t).sq⟩
  | lst h1 r1 => cases h; exact ⟨.lst _, _, rfl, h1.sq, r1, fun t => (h1.tr t).sq⟩
  | @str x =>
    cases h
    refine ⟨.txt x, _, rfl, rfl, ?_, fun _ => rfl⟩
    unfold sigV signs
    have go : ∀ l : List Nat, Reps K Fb H (l.map fun c => V.str ⟨#[c]⟩) (l.map fun c => D.str ⟨#[c]⟩) := by
      intro l
      induction l with
      | nil => exact .nil
      | cons c l ih => exact .cons .str ih
    exact go _
  | _ => cases h
def zipD : List D → List D → List D
  | a :: as, b :: bs => .tup [a, b] :: zipD as bs
  | _, _ => []
theorem zipD_len : ∀ as bs : List D, (zipD as bs).length = min as.length bs.length
  | [], bs => by simp [zipD]
  | a :: as, [] => by simp [zipD]
  | a :: as, b :: bs => by simp [zipD, zipD_len as bs]
theorem zipD_at : ∀ {as bs : List D} {i : Nat} {a b : D}, as[i]? = some a → bs[i]? = some b → (zipD as bs)[i]? = some (.tup [a, b])
  | [], _, _, _, _, h, _ => by simp at h
  | _ :: _, [], _, _, _, _, h => by simp at h
  | x :: as, y :: bs, 0, a, b, h1, h2 => by simp at h1 h2; subst h1 h2; rfl
  | x :: as, y :: bs, i + 1, a, b, h1, h2 => zipD_at (as := as) (bs := bs) (i := i) (by simpa using h1) (by simpa using h2)
def fZip (fa : FA) : FI := fun ρ => match fa ρ with
  | some (rs, ρ1) => (match frzs ρ1 rs with
    | some ([a, b], ρ2) => (match itemsOf a, itemsOf b with
      | some as, some bs => some (zipD as bs, ρ2)
      | _, _ => none)
    | _ => none)
  | none => none
theorem si_zip {Z : Addr → Prop} {t : TA} {f : FA} (ha : SA K t f) : SI K Z (iZip2 K t) (fZip f) := by
  refine SI.of ?_
  intro N B ι σ H ρ ds ρ' I e R k
  unfold fZip at e
  cases e1 : f ρ with
  | none => rw [e1] at e; cases e
  | some q =>
    obtain ⟨rs, ρ1⟩ := q
    simp only [e1] at e
    split at e
    · rename_i a b ρ2 e2
      cases e3 : itemsOf a with
      | none => simp only [e3] at e; cases e
      | some as =>
        cases e4 : itemsOf b with
        | none => simp only [e3, e4] at e; cases e
        | some bs =>
          simp only [e3, e4] at e
          cases e
          refine ha N B ι σ H ρ rs ρ1 I e1 _ fun vs H1 x1 I1 q1 => ?_
          obtain ⟨I2, r2, x2⟩ := frzs_ok I1 q1 e2
          cases r2 with
          | cons ra r2 =>
            cases r2 with
            | cons rb r2 =>
              cases r2
              obtain ⟨k1, xs, rfl, a1, ra1, ka⟩ := sk_of ra e3
              obtain ⟨k2, ys, rfl, a2, rb1, kb⟩ := sk_of rb e4
              refine ⟨k1, k2, xs, ys, rfl, a1, a2, k _ H1 (x1.trans x2) I2 ?_⟩
              refine ⟨fun H => k1.at K H xs ∧ k2.at K H ys, fun i H v H' => ∃ T x y, v = .ref T ∧ H T = none ∧ H' = upd H T (.tup [x, y]) ∧ xs[i]? = some x ∧ ys[i]? = some y, ⟨fun i Hi hi g => ?_, fun Hi g => ?_, fun i Hi v Hi' hi g y => ?_⟩, ⟨a1, a2⟩, fun σ' ρ'' H' x => ⟨ka x.tr, kb x.tr⟩, fun N' B' ι' σ' ρ'' H' i v H2 hN xx I' y => ?_⟩
              · have lz := zipD_len as bs
                have hx : i < xs.length := by rw [ra1.length]; omega
                have hy : i < ys.length := by rw [rb1.length]; omega
                exact ⟨xs, ys, _, _, g.1, g.2, List.getElem?_eq_getElem hx, List.getElem?_eq_getElem hy⟩
              · have lz := zipD_len as bs
                refine ⟨xs, ys, g.1, g.2, ?_, ?_, ?_⟩ <;> rw [lz] <;> (try rw [ra1.length]) <;> (try rw [rb1.length]) <;> omega
              · obtain ⟨T, x, y, h1, h2, h3, h4, h5⟩ := y
                exact ⟨T, x, y, h1, h2, h3, h4 xs g.1, h5 ys g.2⟩
              · obtain ⟨T, x, y, rfl, hT, rfl, h4, h5⟩ := y
                obtain ⟨d1, g1, g2⟩ := (ra1.tr (tr_more xx hN)).getV h4
                obtain ⟨d2, g3, g4⟩ := (rb1.tr (tr_more xx hN)).getV h5
                refine ⟨_, zipD_at g1 g3, upd_ns hT, ?_⟩
                exact .tup (.inl ⟨I'.new hT, .of upd_same⟩) (.cons (g2.tr (.same (upd_ns hT))) (.cons (g4.tr (.same (upd_ns hT))) .nil))
    · cases e
end
end DL
set_option maxRecDepth 100000
set_option maxHeartbeats 4000000
namespace DL
open PySem PySem.Spec L2
section
variable {K : PySem.W.Frag} {Fb N : Addr → Prop} {H H' B : Hp} {X : Cx} {σ ι : St} {ρ ρ' : Env'} {t ta tb tc : TE} {f fa fb fc : FE}
def fRng1 (fa : FA) : FI := fun ρ => match fa ρ with
  | some (rs, ρ1) => (match conts ρ1 rs with
    | some [.int j] => if -(2 ^ 62) ≤ j ∧ j < 2 ^ 62 then some ((List.range j.toNat).map fun (i : Nat) => D.int (i : Int), ρ1) else none
    | _ => none)
  | none => none
def YNat (n : Nat) : Nat → Hp → V → Hp → Prop := fun i H x H' => H' = H ∧ i < n ∧ x = .int i
theorem walk_nat {n : Nat} : Walk (Itr 0 n) n (fun _ => True) (YNat n) :=
  ⟨fun _ _ hi _ => hi, fun _ _ => Nat.le_refl _, fun i _ _ _ hi _ y => ⟨y.1, hi, by rw [y.2, Int.zero_add]⟩⟩
theorem si_rng1 {Z : Addr → Prop} {t : TA} {f : FA} (ha : SA K t f) : SI K Z (iRng1 t) (fRng1 f) := by
  refine SI.of ?_
  intro N B ι σ H ρ ds ρ' I e R k
  unfold fRng1 at e
  cases e1 : f ρ with
  | none => rw [e1] at e; cases e
  | some q =>
    obtain ⟨rs, ρ1⟩ := q
    simp only [e1] at e
    split at e
    · rename_i j e2
      split at e
      · rename_i hj
        cases e
        refine ha N B ι σ H ρ rs ρ' I e1 _ fun vs H1 x1 I1 q1 => ?_
        obtain ⟨v, rfl, hv⟩ := repTs1 (conts_ok I1 q1 e2)
        rw [repT_int hv]
        refine ⟨j, rfl, hj.1, hj.2, k _ H1 x1 I1 ⟨fun _ => True, YNat j.toNat, by rw [List.length_map, List.length_range]; exact walk_nat, trivial, fun _ _ _ _ => trivial, fun N' B' ι' σ' ρ'' H' i x H2 hN xx I' y => ?_⟩⟩
        obtain ⟨rfl, hi, rfl⟩ := y
        refine ⟨.int i, ?_, .refl _, .int⟩
        rw [List.getElem?_map, List.getElem?_range hi]
        rfl
      · cases e
    · cases e
def keysOf : D → Option (List D)
  | .dct kvs => some (kvs.map fun kv => .str kv.1)
  | _ => none
/-- to be read for a while -/
def lend (ρ : Env') (r : R) : Option (D × Env') := match frz ρ r with
  | some x => some x
  | none => (match r with
    | .slot i => (match ρ[i]? with
      | some (.bor d) => some (d, ρ)
      | _ => none)
    | _ => none)
def fKeys (fa : FE) : FI := fun ρ => match fa ρ with
  | some (r, ρ1) => (match lend ρ1 r with
    | some (d, ρ2) => (match keysOf d with
      | some ds => some (ds, ρ2)
      | none => none)
    | none => none)
  | none => none
def iKeysL (Z : Addr → Prop) (te : TE) : TI := fun σ H R => te σ H fun x H1 => ∃ d kvs, x = .ref d ∧ ((∃ o, H1 d = some (.frz o (.dK kvs)) ∧ R (Itk d o kvs) H1) ∨ (H1 d = some (.dK kvs) ∧ (Z d → ∀ od, R (Itk d od kvs) (upd H1 d (.frz od (.dK kvs))))))
/-- not locked ahead of the def -/
def NotL (X : Cx) (d : Addr) : Prop := ∀ o' u', X.H_0 d ≠ some (.frz o' u')
theorem pi_keysL {tg e : Expr} {te : TE} (he : PE X e te) : PI X tg e (iKeysL (NotL X) te) := by
  refine ⟨fun pins s σ H R I h => ?_⟩
  refine thn (he.run pins s σ H _ I h) fun u s1 ⟨x, H1, I1, rx, d, kvs, ex, q⟩ => ?_
  subst ex
  obtain rfl : u = Value.ref d := rx
  have core : ∀ {o : Obj} {H2 : Hp}, Inv X pins σ H2 s1 → H2 d = some (.frz o (.dK kvs)) → R (Itk d o kvs) H2 → wpAny (model X.prog X.w) X.A (pyIter (.ref d)) (PIE X pins σ tg R) X.xe s1 := fun {o H2} I2 hd q => by
    obtain ⟨hs, hgd, hx, es, ep, vs, hdt, hsz, kv, hm⟩ := I2.frzK hd
    refine iter_keys hs hgd hx hdt (pi_one (tk := s1.toks) I2 _ (turn_keys _ hdt) ⟨_, Heap.get?_push_size _ rfl, rfl, ?_⟩ q)
    rw [hsz] <;> rfl
  rcases q with ⟨o, hd, q⟩ | ⟨hd, q⟩
  · exact core I1 hd q
  · obtain ⟨od, I2⟩ := I1.lock hd trivial
    exact core I2 upd_same (q (I1.nofrz hd trivial) od)
theorem unl_inv {pins : List (Addr × Obj)} {s : Shared} {H3 : Hp} (I : Inv X pins σ H s) (u : UnL (NotL X) H H3) : Inv X pins σ H3 s := by
  rcases u with rfl | ⟨d, od, u, h, m, z, rfl⟩
  · exact I
  · exact I.unlock h z
theorem ps_un {st : Stmt} {t : TS} (h : PS X st t) : PS X st (tUS (NotL X) t) := by
  refine ⟨fun pins s σ H D I hw => ?_⟩
  refine thn (h.run pins s σ _ _ I hw) fun f s1 q => ?_
  cases f with
  | next => obtain ⟨σ', H', I2, H3, e, q⟩ := q; exact ⟨σ', _, unl_inv I2 e, q⟩
  | brk => obtain ⟨σ', H', I2, H3, e, q⟩ := q; exact ⟨σ', _, unl_inv I2 e, q⟩
  | cont => obtain ⟨σ', H', I2, H3, e, q⟩ := q; exact ⟨σ', _, unl_inv I2 e, q⟩
  | ret v => obtain ⟨x, σ', H', I2, r, H3, e, q⟩ := q; exact ⟨x, σ', _, unl_inv I2 e, r, q⟩
theorem pe_un {e : Expr} {t : TE} (h : PE X e t) : PE X e (tUE (NotL X) t) := by
  refine ⟨fun pins s σ H Q I hw => ?_⟩
  refine thn (h.run pins s σ _ _ I hw) fun v s1 ⟨x, H1, I2, r, H3, e2, q⟩ => ?_
  exact ⟨x, _, unl_inv I2 e2, r, q⟩
theorem RepK.getV : ∀ {vs : List (Key × V)} {ds : List (Str × D)} {i : Nat} {k : Key} {v : V}, RepK K Fb H vs ds → vs[i]? = some (k, v) → ∃ x d, k = Sum.inr x ∧ ds[i]? = some (x, d)
  | _, _, _, _, _, .nil, e => by simp at e
  | _, _, 0, _, _, .cons h _, e => by simp at e; exact ⟨_, _, e.1.symm, rfl⟩
  | _, _, i + 1, k, v, .cons _ r, e => by
    obtain ⟨x, d, h1, h2⟩ := RepK.getV (i := i) (k := k) (v := v) r (by simpa using e)
    exact ⟨x, d, h1, by simpa using h2⟩
theorem items_keys {a : Addr} {o : Obj} {kvs : List (Key × V)} {ds : List (Str × D)} (h : H a = some (.frz o (.dK kvs))) (no : ¬ Own σ ρ a) (r : RepK K Fb H kvs ds) : Items K N B ι σ ρ H (Itk a o kvs) (ds.map fun kv => D.str kv.1) := by
  refine ⟨_, _, by rw [List.length_map, ← r.length]; exact walk_keys, h, fun σ' ρ' H' x => (x.keep a _ no h).1, fun N' B' ι' σ' ρ' H' i x H2 hN xx I y => ?_⟩
  obtain ⟨rfl, k, v, hk, rfl⟩ := y
  obtain ⟨z, d, rfl, hz⟩ := r.getV hk
  exact ⟨.str z, by rw [List.getElem?_map, hz]; rfl, .refl _, .str⟩
theorem si_keys_core {Z : Addr → Prop} {a : Addr} {kvs : List (Key × V)} {ds : List (Str × D)} {R : It → Hp → Prop} {H0 : Hp} {ρ0 : Env'} (I : Rel K N B ι σ H ρ) (h : Rd H a (.dK kvs)) (no : ¬ Own σ ρ a) (nN : ¬ N a ∨ B a ≠ none) (r : RepK K Fb H kvs ds) (x0 : Ext σ ρ0 H0 σ ρ H)
    (k : ∀ J H1 H' B1, Ext σ ρ0 H0 σ ρ H1 → Rel K N B1 ι σ H' ρ → Items K N B1 ι σ ρ H' J (ds.map fun kv => D.str kv.1) → Unk K Z N B B1 ι σ ρ H1 H' → R J H') :
    ∃ d kvs, V.ref a = .ref d ∧ ((∃ o, H d = some (.frz o (.dK kvs)) ∧ R (Itk d o kvs) H) ∨ (H d = some (.dK kvs) ∧ (Z d → ∀ od, R (Itk d od kvs) (upd H d (.frz od (.dK kvs)))))) := by
  refine ⟨a, kvs, rfl, ?_⟩
  rcases h with h | ⟨o, h⟩
  · refine .inr ⟨h, fun hZ od => k _ H _ _ x0 (I.lock (od := od) h trivial no) (items_keys upd_same no (r.trW (Fb' := Fb) (tr_lock (Fb := Fb) h trivial).w)) (.lock I h trivial nN no hZ)⟩
  · exact .inl ⟨o, h, k _ H H B x0 I (items_keys h no r) .refl⟩
theorem si_keys {Z : Addr → Prop} (ha : SE K ta fa) : SI K Z (iKeysL Z ta) (fKeys fa) := by
  intro N B ι σ H ρ ds ρ' I e R k
  unfold fKeys at e
  cases e1 : fa ρ with
  | none => rw [e1] at e; cases e
  | some q =>
    obtain ⟨r, ρ1⟩ := q
    simp only [e1] at e
    cases e2 : lend ρ1 r with
    | none => simp only [e2] at e; cases e
    | some q2 =>
      obtain ⟨d, ρ2⟩ := q2
      simp only [e2] at e
      cases d with
      | dct kvs =>
        cases e
        refine ha.use I e1 fun v H1 x1 I1 z1 => ?_
        unfold lend at e2
        cases e3 : frz ρ1 r with
        | some q3 =>
          rw [e3] at e2
          cases e2
          obtain ⟨I2, r2, x2⟩ := frz_ok I1 z1 e3
          cases r2 with
          | dct h n r => exact si_keys_core I2 h (fun z => n (.inr z)) (.inl fun z => n (.inl z)) r (x1.trans x2) k
        | none =>
          rw [e3] at e2
          cases r with
          | slot i =>
            simp only at e2
            cases e4 : ρ1[i]? with
            | none => rw [e4] at e2; cases e2
            | some s4 =>
              rw [e4] at e2
              cases s4 with
              | bor d =>
                cases e2
                obtain ⟨v', hv, b⟩ := I1.bor i _ e4
                have z1 : σ[i]? = some (some v) := z1
                rw [z1] at hv
                cases hv
                rcases b with b | ⟨⟨a, rfl, n, hb⟩, b⟩
                · cases b with
                  | dct h n r => exact si_keys_core I1 h (fun z => n (.inr z)) (.inl fun z => n (.inl z)) r x1 k
                · obtain ⟨a', vs, ea, h, r⟩ := b
                  cases ea
                  exact si_keys_core I1 h n (.inr hb) r x1 k
              | _ => cases e2
          | _ => cases e2
      | _ => cases e
end
end DL
set_option maxRecDepth 100000
set_option maxHeartbeats 4000000
namespace DL
open PySem PySem.Spec L2
section
variable {K : PySem.W.Frag} {Fb N : Addr → Prop} {H H' B : Hp} {X : Cx} {σ ι : St} {ρ ρ' : Env'} {t ta tb tc : TE} {f fa fb fc : FE}
def tget (kvs : List (Str × Str)) (k : Str) : Option Str := (kvs.find? fun kv => decide (kv.1 = k)).map (·.2)
structure TabAt (K : PySem.W.Frag) (w : World) (a : Addr) (kvs : List (Str × Str)) : Prop where
  d : ∃ es n, KDict K w a es n
  has : ∀ k v, tget kvs k = some v → ∃ t, PySem.W.nsIn K a k = some (some (.str v t))
  non : ∀ k, tget kvs k = none → PySem.W.nsIn K a k = some none
def rTabIn (kvs : List (Str × Str)) (a : Addr) (neg : Bool) : R2 := fun x y H Q => ∃ z, x = .str z ∧ y = .ref a ∧ Q (.bl ((tget kvs z).isSome ^^ neg)) H
def rTabAt (kvs : List (Str × Str)) (a : Addr) : R2 := fun x y H Q => ∃ z v, x = .ref a ∧ y = .str z ∧ tget kvs z = some v ∧ Q (.str v) H
theorem TabAt.ns {w : World} {a : Addr} {kvs : List (Str × Str)} (T : TabAt K w a kvs) (k : Str) : ∃ r, PySem.W.nsIn K a k = some r ∧ r.isSome = (tget kvs k).isSome := by
  cases e : tget kvs k with
  | none => exact ⟨_, T.non k e, rfl⟩
  | some v => obtain ⟨t, h⟩ := T.has k v e; exact ⟨_, h, rfl⟩
theorem op_tabIn {a : Addr} {kvs : List (Str × Str)} (T : TabAt X.K X.w a kvs) : OpR X (compareOp .In) (rTabIn kvs a false) := by
  obtain ⟨es, n, D⟩ := T.d
  intro pins s σ H x y v u Q I rx ry h
  obtain ⟨z, rfl, rfl, h⟩ := h
  obtain ⟨r, h1, h2⟩ := T.ns z
  exact op_in_kd D pins s σ H _ _ v u Q I rx ry ⟨z, r, rfl, rfl, h1, by rw [h2]; rw [Bool.xor_false] at h; exact h⟩
theorem op_tabNotIn {a : Addr} {kvs : List (Str × Str)} (T : TabAt X.K X.w a kvs) : OpR X (compareOp .NotIn) (rTabIn kvs a true) := by
  obtain ⟨es, n, D⟩ := T.d
  intro pins s σ H x y v u Q I rx ry h
  obtain ⟨z, rfl, rfl, h⟩ := h
  obtain ⟨r, h1, h2⟩ := T.ns z
  exact op_notIn_kd D pins s σ H _ _ v u Q I rx ry ⟨z, r, rfl, rfl, h1, by rw [h2]; rw [Bool.xor_true] at h; exact h⟩
theorem ix_tab {a : Addr} {kvs : List (Str × Str)} (T : TabAt X.K X.w a kvs) : IxR X (rTabAt kvs a) := by
  obtain ⟨es, n, D⟩ := T.d
  intro value slice pins s σ H x y v u Q I rx ry h hs
  obtain ⟨z, w, rfl, rfl, e, q⟩ := h
  obtain ⟨t, ht⟩ := T.has z w e
  exact ix_kdict value slice pins s σ H _ _ v u Q I rx ry ⟨a, z, .str w, rfl, rfl, ⟨es, n, _, D.at_, D.lit, ht, ⟨t, rfl⟩⟩, q⟩ hs
def gTabIn (kvs : List (Str × Str)) (neg : Bool) : D → Option R
  | .str z => some (.val (.bl ((tget kvs z).isSome ^^ neg)))
  | _ => none
def gTabAt (kvs : List (Str × Str)) : D → Option R
  | .str z => (match tget kvs z with
    | some v => some (.val (.str v))
    | none => none)
  | _ => none
theorem se_tabIn {a : Addr} {kvs : List (Str × Str)} {neg : Bool} (ha : SE K ta fa) : SE K (tOp (rTabIn kvs a neg) ta (tC (.ref a))) (f1 (gTabIn kvs neg) fa) := by
  intro N B ι σ H ρ r ρ' I e Q k
  obtain ⟨r1, d, e1, e2, e3⟩ := f1_eq e
  refine ha.use I e1 fun v H1 x1 I1 q1 => ?_
  have q := q1.top I1 e2
  unfold gTabIn at e3
  split at e3
  · cases e3
    rw [repT_str q]
    exact ⟨_, rfl, rfl, k _ H1 x1 ⟨I1, .bl⟩⟩
  · cases e3
theorem se_tabAt {a : Addr} {kvs : List (Str × Str)} (ha : SE K ta fa) : SE K (tOp (rTabAt kvs a) (tC (.ref a)) ta) (f1 (gTabAt kvs) fa) := by
  intro N B ι σ H ρ r ρ' I e Q k
  obtain ⟨r1, d, e1, e2, e3⟩ := f1_eq e
  refine ha.use I e1 fun v H1 x1 I1 q1 => ?_
  have q := q1.top I1 e2
  unfold gTabAt at e3
  split at e3
  · split at e3
    · rename_i z v hz
      cases e3
      rw [repT_str q]
      exact ⟨_, _, rfl, rfl, hz, k _ H1 x1 ⟨I1, .str⟩⟩
    · cases e3
  · cases e3
def gMulT : D → D → Option R
  | .tup (x :: xs), .int j => if 2 ≤ j ∧ j ≤ 1000 ∧ (x :: xs).length ≤ 1000 then some (.val (.tup (List.replicate j.toNat (x :: xs)).flatten)) else none
  | _, _ => none
theorem Reps.rep {vs : List V} {ds : List D} (r : Reps K Fb H vs ds) : ∀ n : Nat, Reps K Fb H (List.replicate n vs).flatten (List.replicate n ds).flatten
  | 0 => .nil
  | n + 1 => by
    rw [List.replicate_succ, List.flatten_cons, List.replicate_succ, List.flatten_cons]
    exact r.append (r.rep n)
theorem u_mulT : U2 K (rRepT K) gMulT := by
  intro Fb H v w d e r hF hv hw hg Q k
  unfold gMulT at hg
  split at hg
  · split at hg
    · rename_i x xs j hj
      cases hg
      obtain ⟨a, vs, rfl, h1, r1⟩ := repT_tup hv
      have hl : vs.length = (x :: xs).length := r1.length
      refine ⟨a, j, vs, rfl, repT_int hw, h1.sq, (fun z => by rw [z] at hl; cases hl), hj.1, hj.2.1, by rw [hl]; exact hj.2.2, fun p hp => k _ _ (upd_ns hp) (vr_tup hF hp (r1.rep _))⟩
    · cases hg
  · cases hg
/-- [..] * j -/
def fMulL (fa : FE) (j : Int) : FE := fun ρ => match fa ρ with
  | some (.new (.lst ds), ρ1) => if 0 ≤ j ∧ j < 2 ^ 63 ∧ ds.length * j.toNat ≤ sizeLine then some (.new (.lst (List.replicate j.toNat ds).flatten), ρ1) else none
  | _ => none
theorem se_mulL {j : Int} (ha : SE K ta fa) : SE K (tOp rRep ta (tC (.int j))) (fMulL fa j) := by
  intro N B ι σ H ρ r ρ' I e Q k
  unfold fMulL at e
  cases e1 : fa ρ with
  | none => rw [e1] at e; cases e
  | some q =>
    obtain ⟨r1, ρ1⟩ := q
    rw [e1] at e
    cases r1 with
    | new d =>
      cases d with
      | lst ds =>
        simp only at e
        split at e
        · rename_i hj
          cases e
          refine ha N B ι σ H ρ _ _ I e1 _ fun v H1 x1 q1 => ?_
          obtain ⟨p, rfl, hp, nN, I1, vs, hv, r1⟩ := q1
          refine ⟨p, j, vs, rfl, rfl, hv, by omega, hj.2.1, by rw [r1.length]; exact hj.2.2, fun q hq => ?_⟩
          have I2 : Rel K N B ι σ H1 ρ' := I1.less fun _ z => .inl z
          have s := upd_ns (o := .lst (List.replicate j.toNat vs).flatten) hq
          have r2 : Reps K (Fbd N σ ρ') H1 vs ds := r1.tr (.less fun a z => z.imp .inl id)
          exact k _ _ (x1.trans (.same s)) ⟨q, rfl, x1.live q hq, fun z => I2.nH q z hq, I2.plus hq s (by rw [upd_same]; exact fun z => nomatch z), _, upd_same, (r2.rep _).tr (.plus' hq s)⟩
        · cases e
      | _ => cases e
    | _ => cases e
def UM (K : PySem.W.Frag) (rel : V → List V → Hp → VK → Prop) (T : String) (g : D → List D → Option R) : Prop := ∀ Fb H v d vs ds r, Fresh Fb H → RepT K Fb H v d → RepTs K Fb H vs ds → g d ds = some r → ∀ Q : VK, (∀ v' H', Same H H' → VR K Fb H H' v' r → Q v' H') → rel v vs H Q
def tyR : D → String
  | .str _ => "str"
  | .lst _ => "list"
  | .scr _ => "list"
  | _ => ""
theorem tyR_ok {v : V} {d : D} (h : RepT K Fb H v d) (q : tyR d ≠ "") : tyV K (tyR d) v H := by
  cases d with
  | str _ => rw [repT_str h]; rfl
  | lst ds => obtain ⟨a, vs, rfl, h1, _⟩ := h; exact .inl ⟨rfl, vs, .inl h1⟩
  | scr ds => obtain ⟨a, rfl, h1⟩ := repT_scr h; exact .inl ⟨rfl, _, h1⟩
  | _ => exact absurd rfl q
def fRm (T : String) (g : D → List D → Option R) (fo : FE) (fa : FA) : FE := fun ρ => match fo ρ with
  | some (r0, ρ1) => (match cont ρ1 r0 with
    | some d0 => if tyR d0 = T ∧ T ≠ "" then (match fa ρ1 with
      | some (rs, ρ2) => (match cont ρ2 r0, conts ρ2 rs with
        | some d, some ds => (match g d ds with
          | some x => some (x, ρ2)
          | none => none)
        | _, _ => none)
      | none => none) else none
    | none => none)
  | none => none
theorem se_rm {T : String} {rel : V → List V → Hp → VK → Prop} {g : D → List D → Option R} {tx : TA} {fx : FA} (u : UM K rel T g) (ho : SE K ta fa) (hx : SA K tx fx) : SE K (tBM K T rel ta tx) (fRm T g fa fx) := by
  intro N B ι σ H ρ r ρ' I e Q k
  unfold fRm at e
  cases e1 : fa ρ with
  | none => rw [e1] at e; cases e
  | some q =>
    obtain ⟨r0, ρ1⟩ := q
    simp only [e1] at e
    cases e2 : cont ρ1 r0 with
    | none => simp only [e2] at e; cases e
    | some d0 =>
      simp only [e2] at e
      split at e
      · rename_i hT
        cases e3 : fx ρ1 with
        | none => simp only [e3] at e; cases e
        | some q3 =>
          obtain ⟨rs, ρ2⟩ := q3
          simp only [e3] at e
          cases e4 : cont ρ2 r0 with
          | none => simp only [e4] at e; cases e
          | some d =>
            cases e5 : conts ρ2 rs with
            | none => simp only [e4, e5] at e; cases e
            | some ds =>
              simp only [e4, e5] at e
              cases e6 : g d ds with
              | none => simp only [e6] at e; cases e
              | some x =>
                simp only [e6] at e
                cases e
                refine ho.use I e1 fun v H1 x1 I1 z1 => ⟨?_, ?_⟩
                · have := tyR_ok (z1.top I1 e2) (by rw [hT.1]; exact hT.2)
                  rw [hT.1] at this
                  exact this
                · refine hx N B ι σ H1 ρ1 rs ρ' I1 e3 _ fun vs H2 x2 I2 q2 => ?_
                  exact u (Fbd N σ ρ') H2 v d vs ds r (fun a z => I2.live z) ((z1.ext x2).top I2 e4) (conts_ok I2 q2 e5) e6 _ fun v' H' s q => k v' H' ((x1.trans x2).trans (.same s)) (q.eq I2 s (x1.trans x2))
      · cases e
/-- s.strip(signs) -/
def gStrip : D → List D → Option R
  | .str a, [.str b] => if a.length ≤ sizeLine then some (.val (.str (Txt.stripChars a b))) else none
  | _, _ => none
def rStrip : V → List V → Hp → VK → Prop := fun x xs H Q => ∃ a b, x = .str a ∧ xs = [.str b] ∧ a.length ≤ sizeLine ∧ Q (.str (Txt.stripChars a b)) H
theorem mt_strip' : MtR X "str.strip" rStrip := mt_stripChars
theorem u_strip : UM K rStrip "str" gStrip := by
  intro Fb H v d vs ds r hF hv hw hg Q k
  unfold gStrip at hg
  split at hg
  · split at hg
    · rename_i h
      cases hg
      obtain ⟨w, rfl, hw2⟩ := repTs1 hw
      exact ⟨_, _, repT_str hv, by rw [repT_str hw2], h, k _ H (.refl _) Rep.str⟩
    · cases hg
  · cases hg
/-- xs.index(x), xs.count(x), flat items -/
def idxF (d : D) : List D → Option Nat
  | [] => none
  | x :: xs => if eqF x d then some 0 else (idxF d xs).map (· + 1)
def gIndex : D → List D → Option R
  | .lst xs, [d] => if flatD d && xs.all flatD then (match idxF d xs with
    | some j => some (.val (.int j))
    | none => none) else none
  | _, _ => none
theorem idxF_ok {v : V} {d : D} (h : RepT K Fb H v d) (q : flatD d = true) : ∀ {vs : List V} {ds : List D} {j : Nat}, Reps K Fb H vs ds → ds.all flatD = true → idxF d ds = some j →
    (∃ z, vs[j]? = some z ∧ eqV z v = true) ∧ ∀ (m : Nat) (z' : V), m < j → vs[m]? = some z' → eqV z' v = false
  | _, _, j, .nil, _, e => by cases e
  | _, _, j, @Reps.cons _ _ _ w x ws xs h1 r, ha, e => by
    rw [List.all_cons, Bool.and_eq_true] at ha
    have e1 := eqF_rep h1.top ha.1 h q
    unfold idxF at e
    split at e
    · rename_i c
      cases e
      exact ⟨⟨w, rfl, by rw [e1]; exact c⟩, fun m z' hm => absurd hm (Nat.not_lt_zero _)⟩
    · rename_i c
      cases e2 : idxF d xs with
      | none => rw [e2] at e; cases e
      | some i =>
        rw [e2] at e
        obtain rfl : i + 1 = j := Option.some.inj e
        obtain ⟨⟨z, g1, g2⟩, g3⟩ := idxF_ok h q r ha.2 e2
        refine ⟨⟨z, by simpa using g1, g2⟩, fun m z' hm hz => ?_⟩
        cases m with
        | zero =>
          simp at hz
          subst hz
          rw [e1]
          exact Bool.eq_false_iff.mpr c
        | succ m => exact g3 m z' (by omega) (by simpa using hz)
theorem u_index : UM K (rIndex K) "list" gIndex := by
  intro Fb H v d vs ds r hF hv hw hg Q k
  unfold gIndex at hg
  split at hg
  · split at hg
    · rename_i xs d h
      obtain ⟨c1, c2⟩ := Bool.and_eq_true_iff.mp h
      cases e : idxF d xs with
      | none => simp only [e] at hg; cases hg
      | some j =>
        simp only [e] at hg
        cases hg
        obtain ⟨w, rfl, hw2⟩ := repTs1 hw
        obtain ⟨a, ys, rfl, h1, r1⟩ := hv
        obtain ⟨⟨z, g1, g2⟩, g3⟩ := idxF_ok hw2 c1 r1 c2 e
        exact ⟨a, ys, w, j, z, rfl, rfl, .inl h1, flat_rep hw2 c1, (inF_rep hw2 c1 r1 c2).1, g1, g2, g3, k _ H (.refl _) Rep.int⟩
    · cases hg
  · cases hg
def cntF (d : D) (xs : List D) : Nat := xs.countP fun x => eqF x d
def gCount : D → List D → Option R
  | .lst xs, [d] => if flatD d && xs.all flatD then some (.val (.int (cntF d xs))) else none
  | _, _ => none
def rCountF (K : PySem.W.Frag) : V → List V → Hp → VK → Prop := fun x xs H Q => ∃ (a : Addr) (ys : List V) (y : V), x = V.ref a ∧ xs = [y] ∧ SqL K H a ys ∧ flatV y = true ∧ ys.all flatV = true ∧ Q (.int (ys.countP fun z => eqV z y : Nat)) H
theorem cnt_vals {y : V} : ∀ {ys : List V} {us : List Value}, Vals ys us → ys.all flatV = true → us.countP (eqU y) = ys.countP fun z => eqV z y
  | _, _, .nil, _ => rfl
  | _, _, .cons r t, f => by
    rw [List.all_cons, Bool.and_eq_true] at f
    rw [List.countP_cons, List.countP_cons, cnt_vals t f.2, eqU_of r f.1]
theorem mt_countF : MtR X "list.count" (rCountF X.K) := by
  intro pins s σ H x xs v us Q I rx rxs h
  obtain ⟨a, ys, y, rfl, rfl, hs, fy, fys, q⟩ := h
  cases rx
  cases rxs with
  | cons ry rt =>
    rename_i uy ut
    cases rt
    obtain ⟨its, rv, ⟨⟨cls, dd, data, sl⟩, n, ho, hc, hdn, hd⟩, hlen⟩ := I.list hs
    simp only at hc hd
    subst hc hd
    refine call_meets PySem.F.slot_list_count ⟨_, ho, rfl⟩ PySem.F.entry_list_count (PySem.F.args_list_count_2 _ _)
      (SeqAt.list_countAt a its.toArray n dd sl uy (eqU y)) ⟨ho, fun u' hu' => mem_eqAt ry fy rv fys u' (by simpa using hu'), ?_⟩
    refine ⟨.int (ys.countP fun z => eqV z y : Nat), H, I.tok _, ⟨s.toks, ?_⟩, q⟩
    show Value.int ((its.toArray.toList.countP (eqU y) : Nat) : Int) s.toks = Value.int ((ys.countP fun z => eqV z y : Nat) : Int) s.toks
    rw [show its.toArray.toList = its by simp, cnt_vals rv fys]
theorem cntF_ok {v : V} {d : D} (h : RepT K Fb H v d) (q : flatD d = true) : ∀ {vs : List V} {ds : List D}, Reps K Fb H vs ds → ds.all flatD = true → (vs.countP fun z => eqV z v) = cntF d ds
  | _, _, .nil, _ => rfl
  | _, _, .cons h1 r, ha => by
    rw [List.all_cons, Bool.and_eq_true] at ha
    unfold cntF
    rw [List.countP_cons, List.countP_cons, eqF_rep h1.top ha.1 h q, cntF_ok h q r ha.2]
    rfl
theorem u_count : UM K (rCountF K) "list" gCount := by
  intro Fb H v d vs ds r hF hv hw hg Q k
  unfold gCount at hg
  split at hg
  · split at hg
    · rename_i xs d h
      obtain ⟨c1, c2⟩ := Bool.and_eq_true_iff.mp h
      cases hg
      obtain ⟨w, rfl, hw2⟩ := repTs1 hw
      obtain ⟨a, ys, rfl, h1, r1⟩ := hv
      exact ⟨a, ys, w, rfl, rfl, .inl h1, flat_rep hw2 c1, (inF_rep hw2 c1 r1 c2).1, by rw [cntF_ok hw2 c1 r1 c2]; exact k _ H (.refl _) Rep.int⟩
    · cases hg
  · cases hg
end
end DL
set_option maxRecDepth 100000
set_option maxHeartbeats 4000000
namespace DLset
open PySem PySem.Spec PyProof.Rows
/-- one more, if it is new -/
def more (acc : List Str) (x : Str) : List Str := if acc.any (· == x) then acc else acc ++ [x]
def ones (xs : List Str) : List Str := xs.foldl more []
theorem ones_snoc (xs : List Str) (x : Str) : ones (xs ++ [x]) = more (ones xs) x := by
  unfold ones
  rw [List.foldl_append]
  rfl
theorem more_len (acc : List Str) (x : Str) : (more acc x).length = if acc.any (· == x) then acc.length else acc.length + 1 := by
  unfold more
  split <;> simp
theorem more_any (acc : List Str) (x k : Str) : (more acc x).any (· == k) = (acc.any (· == k) || decide (k = x)) := by
  unfold more
  split
  · rename_i h
    by_cases e : k = x
    · subst e
      rw [h] <;> rfl
    · rw [decide_eq_false e, Bool.or_false]
  · rw [List.any_append, List.any_cons, List.any_nil, Bool.or_false]
    congr 1
    by_cases e : k = x
    · subst e
      rw [decide_eq_true rfl]
      exact beq_self_eq_true k
    · rw [decide_eq_false e]
      exact beq_eq_false_iff_ne.mpr (Ne.symm e)
theorem ones_le : ∀ xs : List Str, (ones xs).length ≤ xs.length := by
  have go : ∀ (xs acc : List Str), (xs.foldl more acc).length ≤ acc.length + xs.length := by
    intro xs
    induction xs with
    | nil => intro acc; exact Nat.le_refl _
    | cons x xs ih =>
      intro acc
      have h := ih (more acc x)
      have h2 := more_len acc x
      simp only [List.foldl_cons, List.length_cons]
      split at h2 <;> omega
  intro xs
  have := go xs []
  simpa [ones] using this
theorem take_snoc (xs : List Str) {i : Nat} (h : i < xs.length) : xs.take (i + 1) = xs.take i ++ [xs.getD i Str.empty] := by
  rw [List.take_succ, List.getElem?_eq_getElem h, List.getD_eq_getElem?_getD, List.getElem?_eq_getElem h]
  rfl
theorem text_at : ∀ {us : List Value} {xs : List Str}, StrsAre us xs → ∀ (i : Nat) (v : Value), us[i]? = some v → ∃ t, v = .str (xs.getD i Str.empty) t := @SS.strs_at
abbrev Has (xs : List Str) (i : Nat) : Str → Bool := fun k => (ones (xs.take i)).any (· == k)
abbrev Cnt (xs : List Str) (i : Nat) : Nat := (ones (xs.take i)).length
section
variable {prog : Program} {w : World} {A : Around} {R : Result → Shared → Prop} {I : Addr} {fp wr : List Addr} {G : Array GenState → Array GenState → Prop} {n : Nat} {P : Nat → Value → Prop} {St : Nat → Shared → Prop}
theorem turns (W : WalksS prog w A.in1 I fp wr G n P St) (S : Addr) (out : S ∉ fp) (xs : List Str) (len : xs.length = n) (room : n + 1 < scanBound)
    (val : ∀ i v, P i v → ∃ t, v = .str (xs.getD i Str.empty) t) :
    ∀ (k i : Nat) (s : Shared), n - i = k → i ≤ n → St i s → s.heap.SetOf (PySem.strKind prog w) S (Has xs i) (Cnt xs i) →
      (∀ s', Moved (S :: wr) G s s' → s'.heap.SetOf (PySem.strKind prog w) S (Has xs n) (Cnt xs n) → R (.ok (.ret .none)) s') →
      codeAny (model prog w) A (.builtin "set.update.loop" ⟨[.ref S, .ref I], []⟩) R s := by
  have off : S ∉ wr := fun h => out (W.sub _ h)
  have wid : ∀ b ∈ wr, b ∈ S :: wr := fun b hb => List.mem_cons_of_mem _ hb
  intro k
  induction k with
  | zero =>
    intro i s hk hi hst hS hR
    obtain rfl : i = n := by omega
    refine codeAny_builtin F.entry_set_update_loop ?_
    rw [Around.under_plainId F.plain_set_update_loop _]
    show wpAny _ A.in1 (pyNext (.ref I) >>= _) _ _ s
    refine wpAny_bind (W.done s _ _ hst fun s' hm => ?_)
    show wpAny _ A.in1 (ret Value.none) _ _ s'
    obtain ⟨o, es, ep, t, ho, rest⟩ := hS
    exact wpAny_pure (hR s' (hm.mono wid) ⟨o, es, ep, t, hm.heap S _ off ho, rest⟩)
  | succ k ih =>
    intro i s hk hi hst hS hR
    have hlt : i < n := by omega
    refine codeAny_builtin F.entry_set_update_loop ?_
    rw [Around.under_plainId F.plain_set_update_loop _]
    show wpAny _ A.in1 (pyNext (.ref I) >>= _) _ _ s
    refine wpAny_bind (W.item i s _ _ hlt hst fun v s' hP hst' hm => ?_)
    obtain ⟨t, rfl⟩ := val i v hP
    have hS1 : s'.heap.SetOf (PySem.strKind prog w) S (Has xs i) (Cnt xs i) := by
      obtain ⟨o, es, ep, tb, ho, rest⟩ := hS
      exact ⟨o, es, ep, tb, hm.heap S _ off ho, rest⟩
    show wpAny _ A.in1 (holding [Value.str (xs.getD i Str.empty) t] (setAdd S (.str (xs.getD i Str.empty) t)) >>= _) _ _ s'
    refine wpAny_bind (wpAny_holding ?_)
    unfold setAdd
    refine wpAny_holding (wpAny_bind ((PySem.strKind prog w).pyHash (k := xs.getD i Str.empty) (strKind_is _ _ _ _) ?_))
    have hc : Cnt xs i ≤ i := Nat.le_trans (ones_le _) (by rw [List.length_take]; exact Nat.min_le_left _ _)
    refine wpAny_setAddHashed_of (knd := PySem.strKind prog w) (s := { s' with toks := s'.toks + 1 }) (strKind_is _ _ _ _) rfl hS1 (by omega) fun h' hsb hS2 => ?_
    have e1 : ones (xs.take (i + 1)) = more (ones (xs.take i)) (xs.getD i Str.empty) := by rw [take_snoc xs (by omega), ones_snoc]
    have hS3 : h'.SetOf (PySem.strKind prog w) S (Has xs (i + 1)) (Cnt xs (i + 1)) := by
      refine SetOf_congr hS2 (fun k' => ?_) ?_
      · show _ = (ones (xs.take (i + 1))).any (· == k')
        rw [e1, more_any]
      · show _ = (ones (xs.take (i + 1))).length
        rw [e1, more_len]
    refine wpAny_pure ⟨plainId_quiet F.plain_set_update_loop _, ih (i + 1) _ (by omega) hlt (W.frame _ s' _ _ hst' (Nat.le_succ _) fun b hb o e => ?_) hS3 fun s'' hm2 hS4 => ?_⟩
    · rw [hsb.2 b (fun h : b = S => out (by rw [← h]; exact hb))]; exact e
    · refine hR s'' (Moved.trans W.gtrans ((hm.mono wid).then_heap (Nat.le_succ _) fun b o hb e => ?_) hm2) hS4
      rw [hsb.2 b (fun h : b = S => hb (by rw [h]; exact List.mem_cons_self))]; exact e
end
section
variable {prog : Program} {w : World} {A : Around} {E : Value → Shared → Prop} {s : Shared}
set_option maxHeartbeats 6400000 in
theorem call_set_texts {l : Addr} {items : Array Value} {xs : List Str} {Q : Value → Shared → Prop}
    (hh : A.handled = none) (hl : s.heap.IsTuple l items) (hi : StrsAre items.toList xs) (room : xs.length + 1 < scanBound)
    (h : ∀ (h' : Heap) (tk : Nat), h'.SetOf (PySem.strKind prog w) s.heap.objs.size (Has xs items.size) (Cnt xs items.size) →
      (∀ b o, b < s.heap.objs.size → s.heap.get? b = some o → h'.get? b = some o) → Q (.ref s.heap.objs.size) { s with heap := h', toks := tk }) :
    wpAny (model prog w) A (call (.type "set") [.ref l]) Q E s := by
  obtain ⟨c, tl, hmro⟩ := PySem.F.called_set.mro
  have hmade := PySem.F.called_set.made
  have hsub := PySem.F.called_set.sub
  refine wpAny_call (codeAny_of_tree ?_)
  show wpAny _ _ (callAny (.type "set") _) _ _ _
  refine wpAny_pure ⟨Code.quiet_builtin _ (by decide +kernel), codeAny_builtin PySem.F.entry_type_call ?_⟩
  rw [Around.under_plain (weight_type_call_type "set" [.ref l] []) rfl]
  have h1 := PySem.F.called_set.notType
  have h2 := PySem.F.called_set.canCreate
  have hct := PySem.F.typeCall_set_1 (.ref l)
  repeat (any_goals (first | assumption | wp_step))
  let fresh : Bool → Heap := fun led => s.heap.push { cls := .type "set", dict := none, data := .set #[] 0 (.fresh 0 0 led) }
  refine codeAny_mono (code_set_new_1 (.ref l) (E := E) (Q₁ := fun obj s₁ => ∃ led : Bool, obj = .ref s.heap.objs.size ∧ s₁ = { s with heap := s.heap.push { cls := .type "set", dict := none, data := .set #[] 0 (.fresh 0 0 led) } }) fun led => ⟨led, rfl, rfl⟩) fun r s₁ hr => ?_
  cases r with
  | error e => exact hr
  | ok fl =>
    cases fl with
    | ret obj =>
      obtain ⟨led, rfl, rfl⟩ := hr
      have hS : (s.heap.push { cls := .type "set", dict := none, data := .set #[] 0 (.fresh 0 0 led) }).get? s.heap.objs.size = some { cls := .type "set", dict := none, data := .set #[] 0 (.fresh 0 0 led) } := Heap.get?_push_size _ rfl
      have hT : Shared.TypeIs { s with heap := s.heap.push { cls := .type "set", dict := none, data := .set #[] 0 (.fresh 0 0 led) } } (.ref s.heap.objs.size) "set" := ⟨_, hS, rfl⟩
      have hli := PySem.F.called_set.init.lookup
      have hbi := PySem.F.called_set.init.bind (.ref s.heap.objs.size)
      repeat (any_goals (first | assumption | wp_step))
      refine codeAny_mono (codeAny_call_builtin (R := wants (fun r s₂ => r = .none ∧ ∃ h' tk, s₂ = { s with heap := h', toks := tk } ∧
          h'.SetOf (PySem.strKind prog w) s.heap.objs.size (Has xs items.size) (Cnt xs items.size) ∧
          (∀ b o, b < s.heap.objs.size → s.heap.get? b = some o → h'.get? b = some o)) E) PySem.F.called_set.init.plain PySem.F.entry_set_init (check_set_init_1 hT ?_)) fun r₂ s₂ hr₂ => ?_
      · obtain ⟨ol, hol, hcl, nl, hdl⟩ := hl
        obtain ⟨ocls, odict, odata, oslots⟩ := ol
        simp only at hcl hdl
        subst hcl; subst hdl
        have hol' : (s.heap.push { cls := .type "set", dict := none, data := .set #[] 0 (.fresh 0 0 led) }).get? l = some { cls := .type "tuple", dict := odict, data := .seq items nl, slots := oslots } := Heap.get?_push_of_some _ hol
        have g1 := PySem.F.sub_tuple_set
        have g2 := PySem.F.sub_tuple_frozenset
        have g3 : (Value.type "tuple" == Value.type "dict") = false := by decide
        have hl1 : (s.heap.push { cls := .type "set", dict := none, data := .set #[] 0 (.fresh 0 0 led) }).IsTuple l items := ⟨_, hol', rfl, nl, rfl⟩
        unfold Builtin.«set.__init__» noKeywords Builtin.Frozenset.updateFrom
        generalize hPI : pyIter = PI
        wp_walk
        subst hPI
        refine wpAny_pyIter_tuple hl1 (wpAny_bind (wpAny_runValue ?_))
        have lt : l < s.heap.objs.size := Heap.lt_size hol
        have calm3 : A.in1.in1.in1.handled = none := by simp [hh]
        have sz : (s.heap.push { cls := .type "set", dict := none, data := .set #[] 0 (.fresh 0 0 led) }).objs.size = s.heap.objs.size + 1 := Heap.size_push _ _
        have ne1 : l ≠ (s.heap.push { cls := .type "set", dict := none, data := .set #[] 0 (.fresh 0 0 led) }).objs.size := by rw [sz]; exact Nat.ne_of_lt (Nat.lt_succ_of_lt lt)
        have len : xs.length = items.size := by rw [← StrsAre.len_eq hi, Array.length_toList]
        refine turns ((Walks.tuple calm3 _ l ne1 items).toS) s.heap.objs.size
          (by rw [sz]; simp only [List.mem_cons, List.not_mem_nil, or_false, not_or]; exact ⟨Nat.ne_of_lt (Nat.lt_succ_self _), Nat.ne_of_gt lt⟩) xs len (by rw [← len]; exact room) (fun i v hv => text_at hi i v (by rw [Array.getElem?_toList]; exact hv)) (items.size - 0) 0 _ (by omega) (Nat.zero_le _)
          ⟨⟨_, Heap.get?_push_size _ rfl, rfl, rfl⟩, (hl1.push _)⟩ ?hS0 ?hR
        case hS0 =>
          have got : ((s.heap.push { cls := .type "set", dict := none, data := .set #[] 0 (.fresh 0 0 led) }).push { cls := .type "tuple_iterator", data := .fields #[.ref l, .int 0 0] }).get? s.heap.objs.size
              = some { cls := .type "set", dict := none, data := .set #[] 0 (.fresh 0 0 led) } := Heap.get?_push_of_some _ hS
          exact SetOf_congr ((setObjOf_fresh (knd := PySem.strKind prog w) led).setOf got (by unfold scanBound; omega)) (fun _ => rfl) rfl
        case hR =>
          intro s' hm hS'
          obtain ⟨h', g', d', tk', os'⟩ := s'
          obtain rfl : g' = s.gens := hm.gens
          obtain rfl : d' = s.drawn := hm.drawn
          obtain rfl : os' = s.os := hm.os
          show wpAny _ _ _ _ _ _
          refine wpAny_pure ?_
          show wpAny _ _ (ret Value.none) _ _ _
          refine wpAny_pure ⟨rfl, h', tk', rfl, hS', fun b o hb e => ?_⟩
          exact hm.heap b o (by rw [sz]; simp only [List.mem_cons, List.not_mem_nil, or_false, not_or]; exact ⟨Nat.ne_of_lt hb, Nat.ne_of_lt (Nat.lt_succ_of_lt hb)⟩) (Heap.get?_push_of_some _ (Heap.get?_push_of_some _ e))
      · cases r₂ with
        | error e => exact hr₂
        | ok fl₂ =>
          cases fl₂ with
          | ret r =>
            obtain ⟨rfl, h', tk, rfl, hS', hk'⟩ := hr₂
            repeat (any_goals (first | assumption | wp_step))
            exact h _ _ hS' hk'
          | _ => exact hr₂.elim
    | _ => exact hr.elim
end
end DLset
set_option maxRecDepth 100000
set_option maxHeartbeats 4000000
namespace DL
open PySem PySem.Spec L2
def tLenSetT (K : PySem.W.Frag) (ta : TE) : TE := fun σ H Q => ta σ H fun x H1 => ∃ (l : Addr) (xs : List Str), x = .ref l ∧ SqT K H1 l (xs.map V.str) ∧ xs.length ≤ 1000 ∧ Q (.int ((DLset.ones xs).length : Nat)) H1
theorem pe_lenSetT {X : Cx} {a : Expr} {ta : TE} {p p2 q pos : Pos} (hc : X.calm = true) (hg : Gl X "len") (hm : X.mg "len" = none) (hg2 : Gl X "set") (hm2 : X.mg "set" = none) (ha : PE X a ta)
    (na : starEach [a] X.env = (false, eval a X.env) :: starEach [] X.env := by rfl) : PE X (.Call (.Name "len" p) [.Call (.Name "set" p2) [a] [] q] [] pos) (tLenSetT X.K ta) := by
  refine ⟨fun pins s σ H Q I h => ?_⟩
  refine PyProof.Rows.Call_ (ld_blt I hg hm PySem.boot_len ?_)
  refine PyProof.Rows.callWith_builtin1 (PyProof.Rows.args_cons ?_ rfl) rfl rfl
  refine PyProof.Rows.Call_ (ld_blt I hg2 hm2 PyProof.Rows.boot_set ?_)
  refine PyProof.Rows.callWith_type1 (PyProof.Rows.args_cons (thn (ha.run pins s σ H _ I h) fun v s1 ⟨x, H1, I1, r1, q1⟩ => PyProof.Rows.args_nil ?_) na) na rfl
  obtain ⟨l, xs, rfl, hq, h1, q1⟩ := q1
  cases r1
  obtain ⟨its, r, pl, hz⟩ := I1.tuple hq
  have hl : its.toArray.size = xs.length := by rw [List.size_toArray, ← r.length, List.length_map]
  refine DLset.call_set_texts (I1.ok.hd hc) pl (by simpa using strsAre_of r) (by unfold scanBound; omega) fun h' tk hS hk => ?_
  refine PyProof.Rows.args_nil ?_
  have e1 : DLset.Cnt xs its.toArray.size = (DLset.ones xs).length := by rw [hl]; unfold DLset.Cnt; rw [List.take_length]
  rw [e1] at hS
  obtain ⟨o, es, ep, t, ho, hex, hd, _, _, _, hf, hn⟩ := hS
  have I2 : Inv X pins σ H1 { s1 with heap := h', toks := tk } := I1.kept fun b o e => hk b o (Heap.lt_size e) e
  have le := DLset.ones_le xs
  exact call_len_set ho hex hd hf (by rw [hn] <;> omega) ⟨.int ((DLset.ones xs).length : Nat), H1, I2.tok _, ⟨_, by rw [hn]⟩, q1⟩
section
variable {K : PySem.W.Frag} {Fb N : Addr → Prop} {H H' B : Hp} {σ ι : St} {ρ ρ' : Env'} {ta : TE} {fa : FE}
def strs? : List D → Option (List Str)
  | [] => some []
  | .str x :: ds => (strs? ds).map (x :: ·)
  | _ => none
theorem strs?_ok : ∀ {vs : List V} {ds : List D} {xs : List Str}, Reps K Fb H vs ds → strs? ds = some xs → vs = xs.map V.str
  | _, _, xs, .nil, h => by cases h; rfl
  | _, _, xs, @Reps.cons _ _ _ v d vs ds h r, e => by
    cases d with
    | str x =>
      unfold strs? at e
      cases e2 : strs? ds with
      | none => rw [e2] at e; cases e
      | some ys =>
        rw [e2] at e
        cases e
        cases h
        rw [strs?_ok r e2]
        rfl
    | _ => cases e
def gLenSet : D → Option R
  | .tup ds => (match strs? ds with
    | some xs => if xs.length ≤ 1000 then some (.val (.int ((DLset.ones xs).length : Nat))) else none
    | none => none)
  | _ => none
theorem se_lenSet (ha : SE K ta fa) : SE K (tLenSetT K ta) (f1 gLenSet fa) := by
  intro N B ι σ H ρ r ρ' I e Q k
  obtain ⟨r1, d, e1, e2, e3⟩ := f1_eq e
  refine ha.use I e1 fun v H1 x1 I1 q1 => ?_
  have q := q1.top I1 e2
  unfold gLenSet at e3
  split at e3
  · split at e3
    · rename_i ds xs hx
      split at e3
      · rename_i hl
        cases e3
        obtain ⟨a, vs, rfl, h1, r1⟩ := repT_tup q
        have ev := strs?_ok r1 hx
        subst ev
        exact ⟨a, xs, rfl, h1.sq, hl, k _ H1 x1 ⟨I1, .int⟩⟩
      · cases e3
    · cases e3
  · cases e3
end
end DL
set_option maxRecDepth 100000
set_option maxHeartbeats 4000000
namespace DL
open PySem PySem.Spec L2
section
variable {K : PySem.W.Frag} {Fb N : Addr → Prop} {H H' B : Hp} {X : Cx} {σ ι : St} {ρ ρ' : Env'} {t ta tb tc : TE} {f fa fb fc : FE} {Z : Addr → Prop}
def fItK (fa : FE) : FI := fun ρ => match fIt fa ρ with
  | some x => some x
  | none => fKeys fa ρ
def iItK (K : PySem.W.Frag) (Z : Addr → Prop) (te : TE) : TI := fun σ H R => iAny K te σ H R ∨ iKeysL Z te σ H R
theorem pi_it {tg e : Expr} {te : TE} (h : PE X e te) : PI X tg e (iItK X.K (NotL X) te) := pi_or (pi_any h) (pi_keysL h)
theorem si_it (ha : SE K ta fa) : SI K Z (iItK K Z ta) (fItK fa) := by
  intro N B ι σ H ρ ds ρ' I e R k
  unfold fItK at e
  cases e1 : fIt fa ρ with
  | some x => rw [e1] at e; cases e; exact .inl (si_any ha N B ι σ H ρ ds ρ' I e1 R k)
  | none => rw [e1] at e; exact .inr (si_keys ha N B ι σ H ρ ds ρ' I e R k)
theorem ss_setU {i : Nat} {fs : FS} (h : SS K (tAsg (tUE Z t) (gName i)) fs) : SS K (tUS Z (tAsg t (gName i))) fs := fun N B ι σ H ρ o I e D k => h N B ι σ H ρ o I e D k
/-- within a block: nothing is locked -/
theorem pe_unF {e : Expr} {t : TE} (h : PE X e t) : PE X e (tUE (fun _ => False) t) := by
  refine ⟨fun pins s σ H Q I hw => ?_⟩
  refine thn (h.run pins s σ _ _ I hw) fun v s1 ⟨x, H1, I2, r, H3, e2, q⟩ => ?_
  rcases e2 with rfl | ⟨d, od, u, h1, m, z, _⟩
  · exact ⟨x, _, I2, r, q⟩
  · exact z.elim
/-- what no test asks -/
def ftYes : FT := fun ρ => some (true, ρ)
theorem st_yes : ST K tYes ftYes := by
  intro N B ι σ H ρ b ρ' I e Q k
  cases e
  exact k H .refl I
theorem pt_in {a b : Expr} {pos : Pos} (hu : X.A.units + 64 < cLine) (ha : PE X a ta) (hb : PE X b tb) (hm : behindInMarks .In b = false) : PT X (.Compare a [.In] [b] pos) (tB (fun σ H Q => tOp (rInA X.K) ta tb σ H Q ∨ tDIn ta tb σ H Q)) :=
  ⟨fun pins s σ H Q I q => q.elim ((pt_cmpR (op_inA hu) ha hb hm).run pins s σ H Q I) ((pt_cmp (pc_din (by omega) ha hb) hm).run pins s σ H Q I)⟩
theorem pt_notin {a b : Expr} {pos : Pos} (hu : X.A.units + 64 < cLine) (ha : PE X a ta) (hb : PE X b tb) (hm : behindInMarks .NotIn b = false) : PT X (.Compare a [.NotIn] [b] pos) (tB (fun σ H Q => tOp (rNotInA X.K) ta tb σ H Q ∨ tDNotIn ta tb σ H Q)) :=
  ⟨fun pins s σ H Q I q => q.elim ((pt_cmpR op_notInA ha hb hm).run pins s σ H Q I) ((pt_cmp (pc_dnotin (by omega) ha hb) hm).run pins s σ H Q I)⟩
theorem xbeh {b : Expr} {op : CmpOp} (h : behindInMarks op b = false) : behindInMarks op b = false := h
/-- a mirror of a def -/
abbrev Mir := List D → Option (R × List D)
theorem room64 {A : Around} {k : Nat} (hr : Room k A) : A.units + 64 < cLine := hr.units
end
theorem isi_int {K : PySem.W.Frag} : IsiOk K "int" := isi_ok fun n hn => by
  simp only [List.mem_cons, List.not_mem_nil, or_false] at hn
  rcases hn with rfl | rfl | rfl | rfl | rfl | rfl | rfl <;> exact kit_ty (by decide +kernel)
theorem isi_str {K : PySem.W.Frag} : IsiOk K "str" := isi_ok fun n hn => by
  simp only [List.mem_cons, List.not_mem_nil, or_false] at hn
  rcases hn with rfl | rfl | rfl | rfl | rfl | rfl | rfl <;> exact kit_ty (by decide +kernel)
theorem isi_bool {K : PySem.W.Frag} : IsiOk K "bool" := isi_ok fun n hn => by
  simp only [List.mem_cons, List.not_mem_nil, or_false] at hn
  rcases hn with rfl | rfl | rfl | rfl | rfl | rfl | rfl <;> exact kit_ty (by decide +kernel)
theorem isi_tuple {K : PySem.W.Frag} : IsiOk K "tuple" := isi_ok fun n hn => by
  simp only [List.mem_cons, List.not_mem_nil, or_false] at hn
  rcases hn with rfl | rfl | rfl | rfl | rfl | rfl | rfl <;> exact kit_ty (by decide +kernel)
/-- a def that keeps its mirror -/
structure Ok (P : Program) (w : World) (K : PySem.W.Frag) (mg : Str → Option Value) (base : Heap) (k : Nat) (x : Str) (ms : List Mode) (g : Mir) : Prop where
  ex : ∃ (f : Addr) (fd : FuncData) (ps : List Str), FnOk P w K mg base CX0 k f fd ps (spD K ms g) ∧ mg x = some (.ref f) ∧ PySem.W.keepIn K (.ref f) = true ∧ Binds K fd ps []
theorem pe_c {X : Cx} {x : Str} {e : Expr} {es : List Expr} {ta : TA} {p pos : Pos} {j k : Nat} {ms : List Mode} {g : Mir} (c : Ok X.prog X.w X.K X.mg X.base k x ms g) (hr : Room j X.A) (hk : k ≤ j) (hg : Gl X x) (ha : PA X (e :: es) ta)
    (hdb : (x == ("__debug__" : Str)) = false := by decide) (he : starEach (e :: es) X.env = (false, eval e X.env) :: starEach es X.env := by rfl) (hpl : (backTo pos (starEach es X.env)).any (·.1) = false := by rfl) :
    PE X (.Call (.Name x p) (e :: es) [] pos) (tCall (spD X.K ms g) [] E0 ta) := by
  obtain ⟨f, fd, ps, F, hm, kp, b⟩ := c.ex
  exact pe_call F (hr.mono hk) hg hm kp b .nil pass0 ha hdb he hpl
/-- a name of the module, by its value -/
theorem pe_gv {X : Cx} {x : Str} {pos : Pos} {v : V} (hg : Gl X x) (h : ∃ u, X.mg x = some u ∧ RelV v u) (hd : (x == ("__debug__" : Str)) = false := by decide) : PE X (.Name x pos) (tC v) := by
  obtain ⟨u, hm, r⟩ := h
  exact pe_glob hg hm r hd
/-- where a def stands -/
structure At (K : PySem.W.Frag) (mg : Str → Option Value) (x : Str) (st : Stmt) (ps : List Str) : Prop where
  ex : ∃ (f : Addr) (fd : FuncData), Fun K x x st f fd ∧ mg x = some (.ref f) ∧ Binds K fd ps []
theorem At.ok {P : Program} {w : World} {K : PySem.W.Frag} {mg : Str → Option Value} {base : Heap} {x : Str} {st : Stmt} {N0 ps : List Str} {k : Nat} {g : Mir} (ms : List Mode) {fs : FS} (A0 : At K mg x st ps) (S0 : FnScope N0 ps (defScope st)) (hm : ms.length = ps.length)
    (hl : ms.length ≤ N0.length) (hg : ∀ ds r, g ds = some r → runD ms N0.length fs ds = some r)
    (body : ∀ (fA : Addr) (cdv : Value) (A : Around) (outer : List Env) (s : Shared) (H : Hp) (E : XK), Room k (A.deeper (PyProof.Rows.envOfC x (defScope st) s.heap.objs.size fA cdv)) →
      ∃ t, PSs (cxOf CX0 P w K mg base N0 x (defScope st) fA cdv A outer s H E).nox (defBody st) t ∧ SS K t fs) : Ok P w K mg base (k + 1) x ms g := by
  obtain ⟨f, fd, F, hmg, b⟩ := A0.ex
  exact ⟨f, fd, ps, def_ok ms F S0 hm hl hg (fun cdv A outer s H E hr => body f cdv A outer s H E hr), hmg, F.kp, b⟩
/-- the law's own def -/
structure OkL (P : Program) (w : World) (K : PySem.W.Frag) (mg : Str → Option Value) (base : Heap) (k : Nat) (x : Str) (st : Stmt) (ps : List Str) (ms : List Mode) (g : Mir) : Prop where
  ex : ∃ (f : Addr) (fd : FuncData), Fun K x x st f fd ∧ mg x = some (.ref f) ∧ FnOk P w K mg base CX0 k f fd ps (spD K ms g)
theorem At.okL {P : Program} {w : World} {K : PySem.W.Frag} {mg : Str → Option Value} {base : Heap} {x : Str} {st : Stmt} {N0 ps : List Str} {k : Nat} {g : Mir} (ms : List Mode) {fs : FS} (A0 : At K mg x st ps) (S0 : FnScope N0 ps (defScope st)) (hm : ms.length = ps.length)
    (hl : ms.length ≤ N0.length) (hg : ∀ ds r, g ds = some r → runD ms N0.length fs ds = some r)
    (body : ∀ (fA : Addr) (cdv : Value) (A : Around) (outer : List Env) (s : Shared) (H : Hp) (E : XK), Room k (A.deeper (PyProof.Rows.envOfC x (defScope st) s.heap.objs.size fA cdv)) →
      ∃ t, PSs (cxOf CX0 P w K mg base N0 x (defScope st) fA cdv A outer s H E).nox (defBody st) t ∧ SS K t fs) : OkL P w K mg base (k + 1) x st ps ms g := by
  obtain ⟨f, fd, F, hmg, b⟩ := A0.ex
  exact ⟨f, fd, F, hmg, def_ok ms F S0 hm hl hg (fun cdv A outer s H E hr => body f cdv A outer s H E hr)⟩
end DL
set_option maxRecDepth 100000
set_option maxHeartbeats 4000000
namespace DL
open PySem PySem.Spec L2
section
variable {K : PySem.W.Frag} {Fb N N' : Addr → Prop} {H H0 H1 H' B : Hp} {X : Cx} {σ ι : St} {ρ ρ' ρ1 : Env'} {t ta tb tc : TE} {f fa fb fc : FE} {p : Addr} {d : D} {r : R} {v : V} {vs : List V} {rs : List R} {ms : List Mode}
theorem sX_lt {i : Nat} (h : i < σ.length) : (σ ++ [some (V.ref p)])[i]? = σ[i]? := List.getElem?_append_left h
theorem sX_eq : (σ ++ [some (V.ref p)])[σ.length]? = some (some (.ref p)) := by simp
theorem rX_lt {i : Nat} (h : i < ρ.length) : (ρ ++ [S.own false d])[i]? = ρ[i]? := List.getElem?_append_left h
theorem rX_eq : (ρ ++ [S.own false d])[ρ.length]? = some (.own false d) := by simp
theorem rX_cases {i : Nat} {s : S} (h : (ρ ++ [S.own false d])[i]? = some s) : (i < ρ.length ∧ ρ[i]? = some s) ∨ (i = ρ.length ∧ s = .own false d) := by
  rcases Nat.lt_trichotomy i ρ.length with q | q | q
  · exact .inl ⟨q, by rw [rX_lt q] at h; exact h⟩
  · subst q; rw [rX_eq] at h; exact .inr ⟨rfl, (Option.some.inj h).symm⟩
  · rw [List.getElem?_eq_none (by rw [List.length_append, List.length_singleton]; omega)] at h; cases h
theorem ownX (hl : ρ.length = σ.length) {a : Addr} : Own (σ ++ [some (V.ref p)]) (ρ ++ [S.own false d]) a ↔ Own σ ρ a ∨ a = p := by
  constructor
  · rintro ⟨i, b, e, h1, h2⟩
    rcases rX_cases h1 with ⟨q, h1⟩ | ⟨rfl, _⟩
    · rw [sX_lt (hl ▸ q)] at h2; exact .inl ⟨i, b, e, h1, h2⟩
    · rw [hl, sX_eq] at h2; cases h2; exact .inr rfl
  · rintro (⟨i, b, e, h1, h2⟩ | rfl)
    · have q : i < ρ.length := by
        rcases Nat.lt_or_ge i ρ.length with q | q
        · exact q
        · rw [List.getElem?_eq_none q] at h1; cases h1
      exact ⟨i, b, e, by rw [rX_lt q]; exact h1, by rw [sX_lt (hl ▸ q)]; exact h2⟩
    · exact ⟨ρ.length, false, d, rX_eq, by rw [hl]; exact sX_eq⟩
theorem fbdX (hl : ρ.length = σ.length) {a : Addr} : Fbd N (σ ++ [some (V.ref p)]) (ρ ++ [S.own false d]) a ↔ Fbd (fun a => N a ∨ a = p) σ ρ a := by
  unfold Fbd
  constructor
  · rintro (z | z)
    · exact .inl (.inl z)
    · rcases (ownX hl).mp z with z | z
      · exact .inr z
      · exact .inl (.inr z)
  · rintro ((z | z) | z)
    · exact .inl z
    · exact .inr ((ownX hl).mpr (.inr z))
    · exact .inr ((ownX hl).mpr (.inl z))
/-- a new thing held in a slot more -/
theorem Rel.addSlot (I : Rel K (fun a => N a ∨ a = p) B ι σ H ρ) (nN : ¬ N p) (o : OwnR K (Fbd (fun a => N a ∨ a = p) σ ρ) H p d) (hB : B p = none) : Rel K N B ι (σ ++ [some (.ref p)]) H (ρ ++ [.own false d]) := by
  have hl := I.len
  have tr : TrR (Fbd (fun a => N a ∨ a = p) σ ρ) H (Fbd N (σ ++ [some (.ref p)]) (ρ ++ [.own false d])) H := .less fun a z => (fbdX hl).mp z
  have lt : ∀ {i : Nat} {s : S}, ρ[i]? = some s → i < ρ.length := fun {i s} h => by
    rcases Nat.lt_or_ge i ρ.length with q | q
    · exact q
    · rw [List.getElem?_eq_none q] at h; cases h
  refine ⟨by simp [hl], fun i x h => ?_, fun i x h => ?_, fun i b x h => ?_, fun i j a b x b' x' h1 h2 h3 h4 => ?_, fun a u h => ?_, fun a z => I.nH a (.inl z)⟩
  · rcases rX_cases h with ⟨q, h⟩ | ⟨_, z⟩
    · obtain ⟨v, e1, e2⟩ := I.val i x h
      exact ⟨v, by rw [sX_lt (hl ▸ q)]; exact e1, e2.tr tr⟩
    · cases z
  · rcases rX_cases h with ⟨q, h⟩ | ⟨_, z⟩
    · obtain ⟨v, e1, e2⟩ := I.bor i x h
      refine ⟨v, by rw [sX_lt (hl ▸ q)]; exact e1, ?_⟩
      rcases e2 with e2 | ⟨⟨a, ea, n, b⟩, e2⟩
      · exact .inl (e2.tr tr)
      · exact .inr ⟨⟨a, ea, fun z => ((ownX hl).mp z).elim n fun z => b (z ▸ hB), b⟩, e2.tr tr fun _ _ _ q => q⟩
    · cases z
  · rcases rX_cases h with ⟨q, h⟩ | ⟨rfl, z⟩
    · obtain ⟨a, e1, e2, e3, e4, e5⟩ := I.own i b x h
      exact ⟨a, by rw [sX_lt (hl ▸ q)]; exact e1, OwnR.tr e2 tr fun _ q => q, fun z => e3 (.inl z), e4, e5⟩
    · cases z
      exact ⟨p, by rw [hl]; exact sX_eq, OwnR.tr o tr fun _ q => q, nN, fun _ => hB, fun z => nomatch z⟩
  · have np : ∀ {i : Nat} {b : Bool} {x : D}, ρ[i]? = some (.own b x) → σ[i]? ≠ some (some (.ref p)) := fun {i b x} h z => by
      obtain ⟨a, e1, _, e3, _⟩ := I.own i b x h
      rw [z] at e1; cases e1
      exact e3 (.inr rfl)
    rcases rX_cases h1 with ⟨q1, h1⟩ | ⟨rfl, z1⟩ <;> rcases rX_cases h2 with ⟨q2, h2⟩ | ⟨rfl, z2⟩
    · rw [sX_lt (hl ▸ q1)] at h3; rw [sX_lt (hl ▸ q2)] at h4
      exact I.uniq i j a _ _ _ _ h1 h2 h3 h4
    · rw [sX_lt (hl ▸ q1)] at h3; rw [hl, sX_eq] at h4; cases h4
      exact absurd h3 (np h1)
    · rw [sX_lt (hl ▸ q2)] at h4; rw [hl, sX_eq] at h3; cases h3
      exact absurd h4 (np h2)
    · rfl
  · exact (I.base a u h).imp id fun z => (ownX hl).mpr (.inl z)
theorem dropX_len {ρX : Env'} (h : ρX.length = σ.length + 1) : (ρX.take σ.length).length = σ.length := by rw [List.length_take]; omega
/-- .. and let go -/
theorem Rel.dropSlot {ρX : Env'} (I : Rel K N B ι (σ ++ [some (.ref p)]) H ρX) (hB : B p = none) : Rel K N B ι σ H (ρX.take σ.length) ∧ (∀ a, Own σ (ρX.take σ.length) a → Own (σ ++ [some (.ref p)]) ρX a) := by
  have hl : ρX.length = σ.length + 1 := by rw [I.len]; simp
  have gt : ∀ {i : Nat} {s : S}, (ρX.take σ.length)[i]? = some s → i < σ.length ∧ ρX[i]? = some s := fun {i s} h => by
    rw [List.getElem?_take] at h
    split at h
    · rename_i q; exact ⟨q, h⟩
    · cases h
  have own : ∀ a, Own σ (ρX.take σ.length) a → Own (σ ++ [some (.ref p)]) ρX a := fun a ⟨i, b, x, h1, h2⟩ => by
    obtain ⟨q, h1⟩ := gt h1
    exact ⟨i, b, x, h1, by rw [sX_lt q]; exact h2⟩
  have tr : TrR (Fbd N (σ ++ [some (.ref p)]) ρX) H (Fbd N σ (ρX.take σ.length)) H := .less fun a z => z.imp id (own a)
  refine ⟨⟨dropX_len hl, fun i x h => ?_, fun i x h => ?_, fun i b x h => ?_, fun i j a b x b' x' h1 h2 h3 h4 => ?_, fun a u h => ?_, I.nH⟩, own⟩
  · obtain ⟨q, h⟩ := gt h
    obtain ⟨v, e1, e2⟩ := I.val i x h
    exact ⟨v, by rw [sX_lt q] at e1; exact e1, e2.tr tr⟩
  · obtain ⟨q, h⟩ := gt h
    obtain ⟨v, e1, e2⟩ := I.bor i x h
    refine ⟨v, by rw [sX_lt q] at e1; exact e1, ?_⟩
    rcases e2 with e2 | ⟨⟨a, ea, n, b⟩, e2⟩
    · exact .inl (e2.tr tr)
    · exact .inr ⟨⟨a, ea, fun z => n (own a z), b⟩, e2.tr tr fun _ _ _ q => q⟩
  · obtain ⟨q, h⟩ := gt h
    obtain ⟨a, e1, e2, e3⟩ := I.own i b x h
    exact ⟨a, by rw [sX_lt q] at e1; exact e1, OwnR.tr e2 tr fun _ q => q, e3⟩
  · obtain ⟨q1, h1⟩ := gt h1
    obtain ⟨q2, h2⟩ := gt h2
    exact I.uniq i j a _ _ _ _ h1 h2 (by rw [sX_lt q1]; exact h3) (by rw [sX_lt q2]; exact h4)
  · rcases I.base a u h with z | ⟨i, b, x, h1, h2⟩
    · exact .inl z
    · rcases Nat.lt_or_ge i σ.length with q | q
      · exact .inr ⟨i, b, x, by rw [List.getElem?_take, if_pos q]; exact h1, by rw [sX_lt q] at h2; exact h2⟩
      · have e : i = σ.length := by
          rcases Nat.lt_or_ge i ρX.length with z | z
          · omega
          · rw [List.getElem?_eq_none z] at h1; cases h1
        subst e
        rw [sX_eq] at h2; cases h2
        rw [hB] at h; cases h
def SAN (K : PySem.W.Frag) (t : TA) (f : FA) (j : Nat) : Prop := ∀ N B ι σ H ρ rs ρ', Rel K N B ι σ H ρ → f ρ = some (rs, ρ') → ∀ Q : List V → Hp → Prop,
  (∀ vs H' p d, rs[j]? = some (.new d) → H p = none → ¬ N p → B p = none → Ext σ ρ H σ ρ' H' → Rel K N B ι (σ ++ [some (.ref p)]) H' (ρ' ++ [.own false d]) → RRs K N (σ ++ [some (.ref p)]) (ρ' ++ [.own false d]) H' vs (rs.set j (.slot ρ'.length)) → Q vs H') → t σ H Q
def fConsN (fa : FE) (fr : FA) : FA := fun ρ => match fa ρ with
  | some (.new d, ρ1) => (match fr ρ1 with
    | some (rs, ρ2) => some (.new d :: rs, ρ2)
    | none => none)
  | _ => none
theorem RR.toX (hl : ρ'.length = σ.length) (h : RR K N σ ρ H v r) (x : Ext σ ρ H σ ρ' H') (hp : H p = none) (hlr : ρ.length = σ.length) : RR K N (σ ++ [some (.ref p)]) (ρ' ++ [.own false d]) H' v r := by
  have tr : TrR (Fbd N σ ρ) H (Fbd N (σ ++ [some (.ref p)]) (ρ' ++ [.own false d])) H' := fun a u n q => by
    obtain ⟨h1, h2⟩ := x.tr a u n q
    refine ⟨h1, fun z => ?_⟩
    rcases (fbdX hl).mp z with (z | z) | z
    · exact h2 (.inl z)
    · rw [z] at q
      rcases q with q | ⟨o, q⟩ <;> rw [hp] at q <;> cases q
    · exact h2 (.inr z)
  cases r with
  | val d => exact Rep.tr tr h
  | new d => exact Rep.tr tr h
  | slot i =>
    have h : σ[i]? = some (some v) := h
    have q : i < σ.length := by
      rcases Nat.lt_or_ge i σ.length with q | q
      · exact q
      · rw [List.getElem?_eq_none q] at h; cases h
    show (σ ++ [some (V.ref p)])[i]? = some (some v)
    rw [sX_lt q]; exact h
theorem san_cons {tr : TA} {fr : FA} {j : Nat} (ha : SE K ta fa) (hr : SAN K tr fr j) : SAN K (tCons ta tr) (fCons fa fr) (j + 1) := by
  intro N B ι σ H ρ rs ρ' I e Q k
  unfold fCons at e
  cases e1 : fa ρ with
  | none => rw [e1] at e; cases e
  | some q =>
    obtain ⟨r, ρ1⟩ := q
    simp only [e1] at e
    cases e2 : fr ρ1 with
    | none => simp only [e2] at e; cases e
    | some q2 =>
      obtain ⟨rs', ρ2⟩ := q2
      simp only [e2] at e
      cases e
      refine ha.use I e1 fun v H1 x1 I1 q1 => ?_
      refine hr N B ι σ H1 ρ1 rs' ρ' I1 e2 _ fun vs H2 p d hj hp nN hB x2 I2 q2 => ?_
      have hl : ρ'.length = σ.length := by have := I2.len; simp at this; exact this
      exact k (v :: vs) H2 p d hj (x1.live p hp) nN hB (x1.trans x2) I2 (.cons (q1.toX hl x2 hp I1.len) q2)
theorem san_here {tr : TA} {fr : FA} (ha : SE K ta fa) (hr : SA K tr fr) : SAN K (tCons ta tr) (fConsN fa fr) 0 := by
  intro N B ι σ H ρ rs ρ' I e Q k
  unfold fConsN at e
  cases e1 : fa ρ with
  | none => rw [e1] at e; cases e
  | some q =>
    obtain ⟨r, ρ1⟩ := q
    rw [e1] at e
    cases r with
    | new d =>
      simp only at e
      cases e2 : fr ρ1 with
      | none => simp only [e2] at e; cases e
      | some q2 =>
        obtain ⟨rs', ρ2⟩ := q2
        simp only [e2] at e
        cases e
        refine ha N B ι σ H ρ _ ρ1 I e1 _ fun v H1 x1 q1 => ?_
        obtain ⟨p, rfl, hp, nN, I1, o1⟩ := q1
        refine hr (fun a => N a ∨ a = p) B ι σ H1 ρ1 rs' ρ' I1 e2 _ fun vs H2 x2 I2 q2 => ?_
        have hB := I.noB hp
        have np : ¬ Own σ ρ1 p := fun z => I1.notN z (.inr rfl)
        have o2 : OwnR K (Fbd (fun a => N a ∨ a = p) σ ρ') H2 p d := OwnR.tr o1 x2.tr fun o q => (x2.keep p o np q).1
        have hl := I2.len
        have IX := I2.addSlot nN o2 hB
        refine k (.ref p :: vs) H2 p d rfl hp nN hB (x1.trans x2) IX (.cons ?_ ?_)
        · show (σ ++ [some (V.ref p)])[ρ'.length]? = _
          rw [hl]; exact sX_eq
        · have tr : TrR (Fbd (fun a => N a ∨ a = p) σ ρ') H2 (Fbd N (σ ++ [some (.ref p)]) (ρ' ++ [.own false d])) H2 := .less fun a z => (fbdX hl).mp z
          have go : ∀ {vs rs}, RRs K (fun a => N a ∨ a = p) σ ρ' H2 vs rs → RRs K N (σ ++ [some (.ref p)]) (ρ' ++ [.own false d]) H2 vs rs := by
            intro vs rs h
            induction h with
            | nil => exact .nil
            | @cons v r vs rs h _ ih =>
              refine .cons ?_ ih
              cases r with
              | val d => exact Rep.tr tr h
              | new d => exact Rep.tr tr h
              | slot i =>
                have h : σ[i]? = some (some v) := h
                have q : i < σ.length := by
                  rcases Nat.lt_or_ge i σ.length with q | q
                  · exact q
                  · rw [List.getElem?_eq_none q] at h; cases h
                show (σ ++ [some (V.ref p)])[i]? = some (some v)
                rw [sX_lt q]; exact h
          exact go q2
    | _ => cases e
/-- the call -/
def fCallN (ms : List Mode) (g : List D → Option (R × List D)) (j : Nat) (fa : FA) : FE := fun ρ => match fa ρ with
  | some (rs, ρ1) => (match rs[j]? with
    | some (.new d) => (match callR ms g (rs.set j (.slot ρ1.length)) (ρ1 ++ [.own false d]) with
      | some (r, ρ2) => if isSlot r then none else some (r, ρ2.take ρ1.length)
      | none => none)
    | _ => none)
  | none => none
theorem se_callN {ta : TA} {fa : FA} {E : XK} {j : Nat} {g : List D → Option (R × List D)} (ha : SAN K ta fa j) : SE K (tCall (spD K ms g) [] E ta) (fCallN ms g j fa) := by
  intro N B ι σ H ρ r ρ' I e Q k
  unfold fCallN at e
  cases e1 : fa ρ with
  | none => rw [e1] at e; cases e
  | some q =>
    obtain ⟨rs, ρ1⟩ := q
    simp only [e1] at e
    split at e
    · rename_i d hj
      cases e2 : callR ms g (rs.set j (.slot ρ1.length)) (ρ1 ++ [.own false d]) with
      | none => simp only [e2] at e; cases e
      | some q2 =>
        obtain ⟨r2, ρ2⟩ := q2
        simp only [e2] at e
        split at e
        · cases e
        · rename_i ns
          cases e
          refine ha N B ι σ H ρ rs ρ1 I e1 _ fun vs H1 p d' hj' hp nN hB x1 I1 z1 => ?_
          rw [hj] at hj'; cases hj'
          refine call_core I1 z1 e2 fun v H' x2 q => ?_
          have hl : ρ1.length = σ.length := by have := I1.len; simp at this; exact this
          have ext : ∀ {ρ3 : Env'}, (∀ a, Own σ ρ3 a → Own (σ ++ [some (.ref p)]) ρ2 a) → Ext σ ρ H σ ρ3 H' := fun {ρ3} ow => ⟨fun a o n h => by
            obtain ⟨h1, n1⟩ := x1.keep a o n h
            have na : a ≠ p := fun z => by rw [z, hp] at h; cases h
            obtain ⟨h2, n2⟩ := x2.keep a o (fun z => ((ownX hl).mp z).elim n1 na) h1
            exact ⟨h2, fun z => n2 (ow a z)⟩, fun a h => x1.live a (x2.live a h)⟩
          rw [hl] at k
          cases r with
          | slot i => exact absurd rfl ns
          | val d2 =>
            obtain ⟨I2, ow⟩ := q.1.dropSlot hB
            exact k v H' (ext ow) ⟨I2, q.2.tr (.less fun a z => z.imp id (ow a))⟩
          | new d2 =>
            obtain ⟨p2, ev, hp2, nN2, I2, o2⟩ := q
            obtain ⟨I3, ow⟩ := I2.dropSlot hB
            exact k v H' (ext ow) ⟨p2, ev, x1.live p2 hp2, nN2, I3, OwnR.tr o2 (.less fun a z => z.imp id (ow a)) fun _ q => q⟩
    · cases e
end
end DL
set_option maxRecDepth 100000
set_option maxHeartbeats 4000000
namespace DL
open PySem PySem.Spec L2
/-- isinstance(e, c), e the exception that is pinned -/
theorem call_isP {X : Cx} {a C0 : Addr} {oe : Obj} (C : ExcC X.K C0) (hz : Zc (.ref C0) none oe) (hf : ∃ vs, oe.data = .fields vs) (hp : (a, oe) ∈ X.pn) : CallR X (.builtin "isinstance") (rIsE X.K C0 a) := by
  intro pins s σ H xs us Q I r h
  obtain ⟨c, cv, b, rfl, hcv, e, q⟩ := h
  cases r with
  | cons rx rr =>
    cases rr with
    | cons rt rr =>
      cases rr
      cases rx
      have ec := hcv _ rt
      subst ec
      obtain ⟨hget, _⟩ := I.pin (a, oe) (List.mem_append_left _ hp)
      obtain ⟨vs, hv⟩ := hf
      have J : PySem.W.InstAt s.heap a oe C0 none := by
        obtain ⟨oc, od, oda, osl⟩ := oe
        obtain ⟨h1, h2⟩ := hz
        dsimp only at h1 h2 hv
        subst h1 h2 hv
        exact ⟨hget, rfl, rfl, trivial⟩
      exact PySem.W.kia_one (PySem.W.handS_kitx_exc C.hg C.hk C.hs C.hd C.ha C.hn C.ht C.hm) I.kIn J e (fun z => nomatch z) fun tk => ⟨.bl b, H, I.kept (t' := tk) fun _ _ z => z, rfl, q⟩
section
variable {K : PySem.W.Frag} {Fb N : Addr → Prop} {H H' B : Hp} {X : Cx} {σ ι : St} {ρ ρ' : Env'} {t ta tb tc : TE} {f fa fb fc : FE} {ms : List Mode}
/-- e the exception at a: what isinstance says of class c -/
def gIsE (a : Addr) (b : Bool) : D → Option R
  | .obj a' => if a' = a then some (.val (.bl b)) else none
  | _ => none
theorem se_isE {a D0 : Addr} {b : Bool} {c : V} {cv : Value} (hc : ∀ u, RelV c u → u = cv) (hk : PySem.W.kitOne K (.ref D0) cv = some b) (ha : SE K ta fa) : SE K (tCB (rIsE K D0 a) (tCons ta (tCons (tC c) tNil))) (f1 (gIsE a b) fa) := by
  intro N B ι σ H ρ r ρ' I e Q k
  obtain ⟨r1, d, e1, e2, e3⟩ := f1_eq e
  refine ha.use I e1 fun v H1 x1 I1 q1 => ?_
  have q := q1.top I1 e2
  unfold gIsE at e3
  split at e3
  · split at e3
    · rename_i h
      cases e3
      cases (show Rep K _ H1 v (.obj _) from q)
      rw [h]
      exact ⟨c, cv, b, rfl, hc, hk, k _ H1 x1 ⟨I1, .bl⟩⟩
    · cases e3
  · cases e3
/-- such a def called: its body with the exception pinned -/
theorem pe_callP {x : Str} {st : Stmt} {N0 ps : List Str} {k : Nat} {g : Mir} {fs : FS} {p : Addr × Obj} {e : Expr} {es : List Expr} {tx : TA} {q pos : Pos} (A0 : At X.K X.mg x st ps) (S0 : FnScope N0 ps (defScope st)) (hm : ms.length = ps.length)
    (hl : ms.length ≤ N0.length) (hgm : ∀ ds r, g ds = some r → runD ms N0.length fs ds = some r) (hp : p ∈ X.pn) (hot : L2H.Hot1 X.A p) (hr : L2H.RoomH (k + 1) X.A)
    (body : ∀ (fA : Addr) (cdv : Value) (A : Around) (outer : List Env) (s : Shared) (H : Hp) (E : XK), L2H.RoomH k (A.deeper (PyProof.Rows.envOfC x (defScope st) s.heap.objs.size fA cdv)) →
      ∃ t, PSs (L2H.cxH CX0 X.prog X.w X.K X.mg X.base N0 x (defScope st) fA cdv A outer s H E p) (defBody st) t ∧ SS X.K t fs)
    (hg : Gl X x) (ha : PA X (e :: es) tx) (hdb : (x == ("__debug__" : Str)) = false := by decide) (he : starEach (e :: es) X.env = (false, eval e X.env) :: starEach es X.env := by rfl) (hpl : (backTo pos (starEach es X.env)).any (·.1) = false := by rfl) :
    PE X (.Call (.Name x q) (e :: es) [] pos) (tCall (spD X.K ms g) [] E0 tx) := by
  obtain ⟨f, fd, F, hmg, bi⟩ := A0.ex
  refine ⟨fun pins s σ H Q I h => ?_⟩
  refine wpAny_Call_Name_kw (ld_glob I hg hmg ?_ hdb)
  refine PySem.W.callWith_K (h₀ := X.base) I.ok.mod.kin F.kp (thn (ha.run pos pins s σ H _ I h) fun us s1 ⟨vs, H1, I1, r1, q1⟩ => ⟨I1.kIn, ?_⟩) he hpl
  have q1 : spD X.K ms g (vs ++ []) H1 Q E0 := q1
  rw [List.append_nil] at q1
  obtain ⟨oc, od, kV, doc, pm, an, cdv, ct, osl, rfl, lk, hcd⟩ := F.ex
  have hlen : vs.length = ps.length := (spD_len q1).trans hm
  have hlen' : us.length = ps.length := by rw [← r1.length]; exact hlen
  have b := bi s1 us I1.kIn (by rw [List.append_nil]; exact hlen')
  rw [List.append_nil] at b
  have P1 := I1.pin p (List.mem_append_left _ hp)
  have hpin : L2H.PinOk X.stack H1 s1 p := ⟨P1.1, P1.2.1, fun hm => (List.mem_cons.mp (I1.stkSub p.1 hm)).elim P1.2.2.1 P1.2.2.2.1, P1.2.2.2.2⟩
  have e0 := I1.env0
  have KX : X.K.In s1.heap := I1.kIn
  have lim : s1.heap.NoLimit := I1.nolimit
  have hkind : ∀ y ∈ ps.zip us, (defScope st).names.lookup y.1 = some .local ∨ ((defScope st).names.lookup y.1 = some .cell ∧ ((cellsFrom (s1.heap.objs.size + 1) (defScope st).names []).lookup y.1).isSome = true) := fun ⟨n, v⟩ hy => by
    rcases S0.par n (List.of_mem_zip hy).1 with q | q
    · exact .inl q
    · exact .inr ⟨q, PySem.W.cellsFrom_some _ _ _ (.inl q)⟩
  refine wpAny_call (codeAny_mono (R := CR CX0 X.stack X.prog X.w H1 s1 Q E0) ?_ fun r s' hq => ?_)
  · refine codeAny_call_function hr.depth (KX _ _ lk) rfl S0.co S0.gen rfl (PySem.W.codeRec_of KX hcd) (b _ _ _ _ ?_)
    refine PySem.wpAny_newFunctionEnv_cells S0.kind hkind fun env he s2 x2 => ?_
    subst he
    refine ⟨lim.keeps x2.toInCall.keep, codeAny_func ?_⟩
    obtain ⟨t, ht, hs⟩ := body f cdv X.A X.stack s1 H1 E0 (hr.deeper _)
    have J0 : Inv (L2H.cxH CX0 X.prog X.w X.K X.mg X.base N0 x (defScope st) f cdv X.A X.stack s1 H1 E0 p) [] (L2.start N0 vs) H1 s2 := L2H.inv_startH S0 hpin e0 hlen r1 x2
    refine wpAny_mono (ht.run [] s2 (L2.start N0 vs) H1 _ J0 (body_of hl hgm hs q1)) (fun fl s' hs => ?_) fun e s' hs => hs
    have fin : ∀ {σ' : St} {H' : Hp} {v : V} {u : Value}, Inv (L2H.cxH CX0 X.prog X.w X.K X.mg X.base N0 x (defScope st) f cdv X.A X.stack s1 H1 E0 p) [] σ' H' s' → RelV v u → Q v H' → CE X.stack X.prog X.w H1 s1 Q u s' :=
      fun {σ' H' v u} J rv q => ⟨v, H', J.os, J.bare, J.base, J.hok, rv, q⟩
    cases fl with
    | ret u =>
      obtain ⟨v, σ', H', J, rv, q⟩ := hs
      exact fin J rv q
    | next =>
      obtain ⟨σ', H', J, q⟩ := hs
      exact fin (v := V.non) (u := Value.none) J rfl q
    | brk =>
      obtain ⟨_, _, _, q⟩ := hs
      exact False.elim q
    | cont =>
      obtain ⟨_, _, _, q⟩ := hs
      exact False.elim q
  · cases r with
    | error e => exact hq.elim
    | ok fl =>
      cases fl with
      | ret u => exact I1.after hq
      | next => exact False.elim hq
      | brk => exact False.elim hq
      | cont => exact False.elim hq
end
end DL
namespace DL
open PySem PySem.Spec L2
theorem boot_ValueError : bootBuiltins "ValueError" = some (.type "ValueError") := by decide +kernel
end DL
set_option maxRecDepth 100000
set_option maxHeartbeats 4000000
namespace DL
open PySem PySem.Spec L2
section
variable {K : PySem.W.Frag} {Fb N : Addr → Prop} {H H' B : Hp} {X : Cx} {σ ι : St} {ρ ρ' : Env'} {t u ta tb tc : TE} {f fa fb fc : FE} {ms : List Mode} {g : Mir} {gx : List D → Bool} {C : Addr}
theorem ss_nev {t : TS} : SS K t sNever := fun _ _ _ _ _ _ _ _ e => nomatch e
/-- a def's promise where it may raise an exception of class C -/
def spX (K : PySem.W.Frag) (ms : List Mode) (g : Mir) (C : Addr) (gx : List D → Bool) : Sp := fun vs H Q E => spD K ms g vs H Q E ∨
  ∃ Fb ds, Fresh Fb H ∧ (ioA ms vs).Nodup ∧ Args K Fb (ioA ms vs) H ms vs ds ∧ gx ds = true ∧ ∀ H', (∀ a o, a ∉ ioA ms vs → H a = some o → H' a = some o) → E (.ref C) none H'
/-- it raises: whatever comes behind, out of env ρ -/
def RX (K : PySem.W.Frag) (t : TS) (fx : Env' → Prop) (E : Value → Option Addr → Hp → Prop) (C : Addr) : Prop := ∀ N B ι σ H ρ, Rel K N B ι σ H ρ → fx ρ → (∀ H', (∀ a o, ¬ Own σ ρ a → H a = some o → H' a = some o) → E (.ref C) none H') → ∀ D, t D σ H
abbrev EX := Value → Option Addr → Hp → Prop
abbrev WT (E : EX) : WX := fun cls d _ H => E cls d H
/-- raise C(..) -/
def tRaise (C : Addr) (W : WX) : TS := fun _ σ H => W (.ref C) none σ H
theorem rx_raise {E : EX} : RX K (tRaise C (WT E)) (fun _ => True) E C := fun N B ι σ H ρ I _ k D => k H fun _ _ _ h => h
theorem rx_if {tc : TT} {gc : FT} {t1 t2 : TS} {E : EX} {fx : Env' → Prop} (hc : ST K tc gc) (h1 : RX K t1 fx E C) : RX K (tIfS tc t1 t2) (fun ρ => ∃ ρ1, gc ρ = some (true, ρ1) ∧ fx ρ1) E C := by
  intro N B ι σ H ρ I ⟨ρ1, e, e2⟩ k D
  refine hc N B ι σ H ρ true ρ1 I e _ fun H1 x1 I1 => ?_
  rw [if_pos rfl]
  exact h1 N B ι σ H1 ρ1 I1 e2 (fun H' h => k H' fun a o n q => h a o (x1.keep a o n q).2 (x1.keep a o n q).1) D
theorem rx_seq1 {t1 t2 : TS} {E : EX} {fx : Env' → Prop} (h1 : RX K t1 fx E C) : RX K (tSeq t1 t2) fx E C := fun N B ι σ H ρ I e k D => h1 N B ι σ H ρ I e k _
theorem rx_seq2 {t1 t2 : TS} {g1 : FS} {E : EX} {fx : Env' → Prop} (h1 : SS K t1 g1) (h2 : RX K t2 fx E C) : RX K (tSeq t1 t2) (fun ρ => ∃ ρ1, g1 ρ = some (.nx ρ1) ∧ fx ρ1) E C := by
  intro N B ι σ H ρ I ⟨ρ1, e, e2⟩ k D
  exact h1 N B ι σ H ρ _ I e _ fun σ1 H1 x1 I1 => h2 N B ι σ1 H1 ρ1 I1 e2 (fun H' h => k H' fun a o n q => h a o (x1.keep a o n q).2 (x1.keep a o n q).1) D
/-- a call of such a def -/
theorem se_callX {tx : TA} {fx : FA} {E : St → XK} (ha : SA K tx fx) : SE K (tCallS (spX K ms g C gx) E tx) (fCall ms g fx) := by
  intro N B ι σ H ρ r ρ' I e Q k
  unfold fCall at e
  cases e1 : fx ρ with
  | none => rw [e1] at e; cases e
  | some q =>
    obtain ⟨rs, ρ1⟩ := q
    simp only [e1] at e
    refine ha N B ι σ H ρ rs ρ1 I e1 _ fun vs H1 x1 I1 z1 => .inl ?_
    have := call_core (E := E σ) I1 z1 e fun v H' x2 q => k v H' (x1.trans x2) (q.back' x1.live)
    rw [List.append_nil] at this
    exact this
/-- what is handed over, for a call that raises -/
def argsR (ms : List Mode) (fx : FA) (ρ : Env') : Option (List D) := match fx ρ with
  | some (rs, ρ1) => (match rsv (frzV ms rs ρ1) ms rs with
    | some ds => if ioS ms rs = [] ∧ borOk [] ms rs = true then some ds else none
    | none => none)
  | none => none
theorem callX_raises {tx : TA} {fx : FA} {W : EX} {ds : List D} {Q : VK} (ha : SA K tx fx) (I : Rel K N B ι σ H ρ) (e : argsR ms fx ρ = some ds) (hg : gx ds = true) (k : ∀ H', (∀ a o, ¬ Own σ ρ a → H a = some o → H' a = some o) → W (.ref C) none H') :
    tCallS (spX K ms g C gx) (fun _ cls d H => W cls d H) tx σ H Q := by
  unfold argsR at e
  cases e1 : fx ρ with
  | none => rw [e1] at e; cases e
  | some q =>
    obtain ⟨rs, ρ1⟩ := q
    simp only [e1] at e
    cases e2 : rsv (frzV ms rs ρ1) ms rs with
    | none => simp only [e2] at e; cases e
    | some ds' =>
      simp only [e2] at e
      split at e
      · rename_i hc
        cases e
        refine ha N B ι σ H ρ rs ρ1 I e1 _ fun vs H1 x1 I1 z1 => .inr ?_
        obtain ⟨I2, x2⟩ := frzV_ok (ms := ms) I1 z1
        have z2 := z1.ext x2
        have hP := ioS_A I2 z2 e2
        rw [hc.1] at hP
        have hA := args_of I2 hP z2 e2 hc.2 (fun i h => by rw [hc.1] at h; exact h)
        have e0 : ioA ms vs = [] := by
          cases q : ioA ms vs with
          | nil => rfl
          | cons a l => rw [q] at hP; cases hP
        rw [e0] at hA ⊢
        refine ⟨_, ds, fun a z => I2.live z, List.nodup_nil, hA, hg, fun H' h => k H' fun a o n q => ?_⟩
        obtain ⟨q1, n1⟩ := x1.keep a o n q
        exact h a o (fun z => nomatch z) q1
      · cases e
theorem rx_call {tx : TA} {fx : FA} {E : EX} (ha : SA K tx fx) : RX K (tDrop (tCallS (spX K ms g C gx) (WE (WT E)) tx)) (fun ρ => ∃ ds, argsR ms fx ρ = some ds ∧ gx ds = true) E C :=
  fun N B ι σ H ρ I ⟨ds, e, h⟩ k D => callX_raises (W := E) ha I e h k
theorem rx_ret {tx : TA} {fx : FA} {E : EX} (ha : SA K tx fx) : RX K (tRet (tCallS (spX K ms g C gx) (WE (WT E)) tx)) (fun ρ => ∃ ds, argsR ms fx ρ = some ds ∧ gx ds = true) E C :=
  fun N B ι σ H ρ I ⟨ds, e, h⟩ k D => callX_raises (W := E) ha I e h k
end
/-- a def that may raise, from its body -/
theorem okX {P : Program} {w : World} {K : PySem.W.Frag} {mg : Str → Option Value} {base : Heap} {x : Str} {st : Stmt} {f : Addr} {fd : FuncData} {N0 ps : List Str} {k : Nat} {g : Mir} {gx : List D → Bool} {C : Addr} (ms : List Mode) {fs : FS} {fx : Env' → Prop} (F : Fun K x x st f fd) (S0 : FnScope N0 ps (defScope st)) (hm : ms.length = ps.length)
    (hl : ms.length ≤ N0.length) (hg : ∀ ds r, g ds = some r → runD ms N0.length fs ds = some r) (hx : ∀ ds, gx ds = true → fx (ent ms ds ++ List.replicate (N0.length - ms.length) .unset))
    (body : ∀ (cdv : Value) (A : Around) (outer : List Env) (s : Shared) (H : Hp) (E : XK), Room k (A.deeper (PyProof.Rows.envOfC x (defScope st) s.heap.objs.size f cdv)) →
      ∃ t, PSs (cxOf (L2N.CX P w) P w K mg base N0 x (defScope st) f cdv A outer s H E) (defBody st) t ∧ SS K t fs ∧ RX K t fx E C) : FnOk P w K mg base (L2N.CX P w) (k + 1) f fd ps (spX K ms g C gx) := by
  obtain ⟨oc, od, kV, doc, pm, an, cdv, ct, osl, rfl, lk, hcd⟩ := F.ex
  refine fn_of lk hcd S0 (fun vs H Q E h => ?_) fun A outer s H vs Q E hr hsp => ?_
  · rcases h with h | ⟨Fb, ds, _, _, ha, _⟩
    · exact (spD_len h).trans hm
    · exact ha.len.1.trans hm
  · obtain ⟨t, h, hs, hR⟩ := body cdv A outer s H E hr
    refine ⟨t, h, ?_⟩
    rcases hsp with hsp | ⟨Fb, ds, hF, hn, ha, hgx, k⟩
    · exact body_of hl hg hs hsp
    · obtain ⟨I, own⟩ := rel_start (N0 := N0) hF hn ha hl
      exact hR _ _ _ _ _ _ I (hx ds hgx) (fun H' h => k H' fun a o n q => h a o (fun z => n ((own a).mp z)) q) _
/-- a def that may raise, under its name -/
structure OkX (P : Program) (w : World) (K : PySem.W.Frag) (mg : Str → Option Value) (base : Heap) (k : Nat) (x : Str) (ms : List Mode) (g : Mir) (C : Addr) (gx : List D → Bool) : Prop where
  ex : ∃ (f : Addr) (fd : FuncData) (ps : List Str), FnOk P w K mg base (L2N.CX P w) k f fd ps (spX K ms g C gx) ∧ mg x = some (.ref f) ∧ PySem.W.keepIn K (.ref f) = true ∧ Binds K fd ps []
theorem pe_cX {X : Cx} {x : Str} {e : Expr} {es : List Expr} {ta : TA} {p pos : Pos} {j k : Nat} {ms : List Mode} {g : Mir} {gx : List D → Bool} {C : Addr} {W : WX} (c : OkX X.prog X.w X.K X.mg X.base k x ms g C gx) (tk : L2N.Takes X W) (hr : Room j X.A) (hk : k ≤ j) (hg : Gl X x) (ha : PA X (e :: es) ta)
    (hdb : (x == ("__debug__" : Str)) = false := by decide) (he : starEach (e :: es) X.env = (false, eval e X.env) :: starEach es X.env := by rfl) (hpl : (backTo pos (starEach es X.env)).any (·.1) = false := by rfl) :
    PE X (.Call (.Name x p) (e :: es) [] pos) (tCallS (spX X.K ms g C gx) (WE W) ta) := by
  obtain ⟨f, fd, ps, F, hm, kp, b⟩ := c.ex
  exact pe_callS F (hr.mono hk) hg hm kp b (fun σ => L2N.passAt tk σ) ha hdb he hpl
theorem At.okX {P : Program} {w : World} {K : PySem.W.Frag} {mg : Str → Option Value} {base : Heap} {x : Str} {st : Stmt} {N0 ps : List Str} {k : Nat} {g : Mir} {gx : List D → Bool} {C : Addr} (ms : List Mode) {fs : FS} {fx : Env' → Prop} (A0 : At K mg x st ps) (S0 : FnScope N0 ps (defScope st)) (hm : ms.length = ps.length)
    (hl : ms.length ≤ N0.length) (hg : ∀ ds r, g ds = some r → runD ms N0.length fs ds = some r) (hx : ∀ ds, gx ds = true → fx (ent ms ds ++ List.replicate (N0.length - ms.length) .unset))
    (body : ∀ (fA : Addr) (cdv : Value) (A : Around) (outer : List Env) (s : Shared) (H : Hp) (E : XK), Room k (A.deeper (PyProof.Rows.envOfC x (defScope st) s.heap.objs.size fA cdv)) →
      ∃ t, PSs (cxOf (L2N.CX P w) P w K mg base N0 x (defScope st) fA cdv A outer s H E) (defBody st) t ∧ SS K t fs ∧ RX K t fx E C) : OkX P w K mg base (k + 1) x ms g C gx := by
  obtain ⟨f, fd, F, hmg, b⟩ := A0.ex
  exact ⟨f, fd, ps, DL.okX ms F S0 hm hl hg hx (fun cdv A outer s H E hr => body f cdv A outer s H E hr), hmg, F.kp, b⟩
end DL
set_option maxRecDepth 100000
set_option maxHeartbeats 4000000
namespace DL
open PySem PySem.Spec L2
/-- what a def that may be asked does: its mirror, the class of what it raises, when -/
structure Ask where
  g : Mir
  C : Addr
  gx : List D → Bool
structure HeldX (P : Program) (w : World) (K : PySem.W.Frag) (mg : Str → Option Value) (base : Heap) (k : Nat) (f : Addr) (q : Ask) : Prop where
  ex : ∃ (fd : FuncData) (ps : List Str), FnOk P w K mg base (L2N.CX P w) k f fd ps (spX K [.val] q.g q.C q.gx) ∧ PySem.W.keepIn K (.ref f) = true ∧ Binds K fd ps []
def tAsk (K : PySem.W.Frag) (S : Addr → Option Ask) (i : Nat) (W : WX) (t : TA) : TE := fun σ H Q => ∃ f q, σ[i]? = some (some (.ref f)) ∧ S f = some q ∧ tCallS (spX K [.val] q.g q.C q.gx) (WE W) t σ H Q
theorem pe_ask {X : Cx} {S : Addr → Option Ask} {W : WX} {i k : Nat} {x : Str} {e : Expr} {es : List Expr} {t : TA} {p pos : Pos} (A : ∀ f q, S f = some q → HeldX X.prog X.w X.K X.mg X.base k f q) (tk : L2N.Takes X W) (hr : Room k X.A) (hN : X.N[i]? = some x) (hv : Vis X.env.scope x) (ha : PA X (e :: es) t)
    (hdb : (x == ("__debug__" : Str)) = false := by decide) (hcd : (x == ("__classdict__" : Str)) = false := by decide)
    (he : starEach (e :: es) X.env = (false, eval e X.env) :: starEach es X.env := by rfl) (hpl : (backTo pos (starEach es X.env)).any (·.1) = false := by rfl) : PE X (.Call (.Name x p) (e :: es) [] pos) (tAsk X.K S i W t) := by
  refine ⟨fun pins s σ H Q I h => ?_⟩
  obtain ⟨f, q, hs, hS, ht⟩ := h
  obtain ⟨fd, ps, F, hk, hb⟩ := (A f q hS).ex
  refine wpAny_Call_Name_kw (thn ((pe_var (pos := p) hN hv hdb hcd).run pins s σ H (fun v H1 => v = .ref f ∧ H1 = H) I ⟨.ref f, hs, rfl, rfl⟩) fun u s1 ⟨v, H1, I1, r1, q1⟩ => ?_)
  obtain ⟨rfl, rfl⟩ := q1
  cases r1
  refine PySem.W.callWith_K (h₀ := X.base) I.ok.mod.kin hk (thn (ha.run pos pins s1 σ _ _ I1 ht) fun us s2 ⟨vs, H2, I2, r, q⟩ => ⟨I2.kIn, ?_⟩) he hpl
  exact run_fnS F hr hb (L2N.passAt tk σ) I2 r q
theorem ps_when {X : Cx} {sts : List Stmt} {p : Prop} {t : TS} (h : p → PSs X sts t) : PSs X sts (fun D σ H => p ∧ t D σ H) := ⟨fun pins s σ H D I hw => (h hw.1).run pins s σ H D I hw.2⟩
theorem takes0N {X : Cx} : L2N.Takes X (fun _ _ _ _ => False) := fun u s' x => by
  obtain ⟨_, _, _, _, _, _, _, _, _, _, _, _, _, _, _, _, w⟩ := x
  exact w.elim
section
variable {K : PySem.W.Frag} {Fb N : Addr → Prop} {H H' B : Hp} {X : Cx} {σ ι : St} {ρ ρ' : Env'}
/-- what an exception of class C at a is told as -/
def Whi : Type := Addr → Addr → Option Mir
/-- the suite: the def that looks at it -/
def tSuite (K : PySem.W.Frag) (wh : Addr → Addr → Option Mir) (a : Addr) (cls : Value) (d : Option Addr) : TS := fun D σ H => ∃ C g, cls = .ref C ∧ d = none ∧ wh C a = some g ∧ tRet (tCall (spD K [.val] g) [] E0 (tCons (tVar 2) tNil)) D σ H
def tTold (K : PySem.W.Frag) (S : Addr → Option Ask) (wh : Addr → Addr → Option Mir) (c : Value) : TS := fun D σ H => tRet (tAsk K S 0 (wAs K c 2 (tSuite K wh) (fun _ _ _ _ => False) D) (tCons (tVar 1) tNil)) D σ H
def gTold (S : Addr → Option Ask) (wh : Addr → D) : Mir
  | [.obj a, d] => (match S a with
    | some q => (match q.g [d] with
      | some (.val r, []) => some (.val r, [])
      | some _ => none
      | none => if q.gx [d] then some (.val (wh q.C), []) else none)
    | none => none)
  | _ => none
def sTold (S : Addr → Option Ask) (wh : Addr → D) : FS
  | [.val (.obj a), .val d, .unset] => (match S a with
    | some q => (match q.g [d] with
      | some (.val r, []) => some (.rt (.val r) [.val (.obj a), .val d, .unset])
      | some _ => none
      | none => if q.gx [d] then some (.rt (.val (wh q.C)) [.val (.obj a), .val d, .unset]) else none)
    | none => none)
  | _ => none
theorem gTold_run {S : Addr → Option Ask} {wh : Addr → D} : ∀ ds r, gTold S wh ds = some r → runD [.val, .val] 3 (sTold S wh) ds = some r := by
  intro ds r h
  unfold gTold at h
  split at h
  · rename_i a d
    show finD _ (sTold S wh [.val (.obj a), .val d, .unset]) = _
    unfold sTold
    simp only
    cases e1 : S a with
    | none => rw [e1] at h; cases h
    | some q =>
      rw [e1] at h
      simp only at h ⊢
      cases e2 : q.g [d] with
      | none =>
        rw [e2] at h
        simp only at h ⊢
        split at h
        · rename_i h2; cases h; rw [if_pos h2]; rfl
        · cases h
      | some y =>
        rw [e2] at h
        obtain ⟨y1, y2⟩ := y
        cases y1 with
        | val r => cases y2 with
          | nil => cases h; rfl
          | cons _ _ => cases h
        | new r => cases h
        | slot r => cases h
  · cases h
theorem fvar_args {ρ : Env'} {d : D} {i : Nat} (h : ρ[i]? = some (.val d)) (g : Mir) : fCall [.val] g (fCons (fVar i) fNil) ρ = (match g [d] with
    | some (r, os) => if os.length = 0 then some (r, wb ρ [] os) else none
    | none => none) := by
  simp only [fCall, fCons, fNil, fVar, h, frzV, frz, rsv, rsv1, ioS, borOk, List.nodup_nil, and_self, if_true, List.length_nil]
  cases g [d] <;> rfl
theorem fvar_argsR {ρ : Env'} {d : D} {i : Nat} (h : ρ[i]? = some (.val d)) : argsR [.val] (fCons (fVar i) fNil) ρ = some [d] := by
  simp only [argsR, fCons, fNil, fVar, h, frzV, frz, rsv, rsv1, ioS, borOk, and_self, if_true]
theorem ss_told {S : Addr → Option Ask} {wh : Addr → Addr → Option Mir} {whD : Addr → D} {c : Value}
    (hq : ∀ f q, S f = some q → PySem.W.exmOne K (.ref q.C) c = some true ∧ ∀ a, ∃ g, wh q.C a = some g ∧ g [.obj a] = some (.val (whD q.C), [])) : SS K (tTold K S wh c) (sTold S whD) := by
  intro N B ι σ H ρ o I e D0 k
  unfold sTold at e
  split at e
  · rename_i a d
    cases e1 : S a with
    | none => rw [e1] at e; cases e
    | some q =>
      rw [e1] at e
      simp only at e
      obtain ⟨v0, s0, r0⟩ := I.val 0 (.obj a) rfl
      obtain ⟨v1, s1, r1⟩ := I.val 1 d rfl
      cases r0
      have hl : σ.length = 3 := I.len.symm
      refine ⟨a, q, s0, e1, ?_⟩
      cases e2 : q.g [d] with
      | some y =>
        rw [e2] at e
        obtain ⟨y1, y2⟩ := y
        cases y1 with
        | val r =>
          cases y2 with
          | nil =>
            cases e
            refine se_callX (E := WE _) (fx := fCons (fVar 1) fNil) (sa_cons se_var sa_nil) N B ι σ H _ (.val r) [.val (.obj a), .val d, .unset] I ?_ _ fun v H' x q => k v σ H' x q
            rw [fvar_args (d := d) rfl, e2]
            rfl
          | cons _ _ => cases e
        | new r => cases e
        | slot r => cases e
      | none =>
        rw [e2] at e
        simp only at e
        split at e
        · rename_i hgx
          cases e
          obtain ⟨hm, hw⟩ := hq a q e1
          refine callX_raises (W := fun cls d' H' => wAs K c 2 (tSuite K wh) (fun _ _ _ _ => False) D0 cls d' σ H') (fx := fCons (fVar 1) fNil) (sa_cons se_var sa_nil) I (fvar_argsR (d := d) rfl) hgx fun H1 h1 => ?_
          refine ⟨true, hm, fun _ p hp => ?_, fun z => nomatch z⟩
          obtain ⟨gm, g1, g2⟩ := hw p
          refine ⟨q.C, gm, rfl, rfl, g1, ?_⟩
          have no : ∀ x, ¬ Own σ [DL.S.val (.obj a), DL.S.val d, DL.S.unset] x := fun x ⟨i, b, z, h, _⟩ => by
            match i, h with
            | 0, h => cases h
            | 1, h => cases h
            | 2, h => cases h
            | i + 3, h => simp at h
          have hs : Same H H1 := fun x o h => h1 x o (no x) h
          have I1 := I.same hs
          have x1 : Ext σ [DL.S.val (.obj a), DL.S.val d, DL.S.unset] H σ [DL.S.val (.obj a), DL.S.val d, DL.S.unset] H1 := .same hs
          obtain ⟨I2, ow⟩ := I1.swap (σ2 := σ.set 2 (some (.ref p))) (ρ2 := [.val (.obj a), .val d, .val (.obj p)]) (by rw [List.length_set, hl]; rfl) fun j => by
            match j with
            | 0 => exact .inl ⟨rfl, List.getElem?_set_ne (by decide)⟩
            | 1 => exact .inl ⟨rfl, List.getElem?_set_ne (by decide)⟩
            | 2 => exact .inr ⟨rfl, fun s e => .inr ⟨.obj p, .ref p, (Option.some.inj e).symm, List.getElem?_set_self (by omega), .obj⟩⟩
            | j + 3 => exact .inl ⟨rfl, List.getElem?_set_ne (by omega)⟩
          refine se_call (E := E0) (fa := fCons (fVar 2) fNil) (sa_cons se_var sa_nil) N B ι _ H1 _ (.val (whD q.C)) [.val (.obj a), .val d, .val (.obj p)] I2 ?_ _ fun v H' x q' => ?_
          · rw [fvar_args (d := .obj p) rfl, g2]
            rfl
          · obtain ⟨I3, r3⟩ := q'
            obtain ⟨I4, ow2⟩ := I3.swap (σ2 := σ.set 2 (some (.ref p))) (ρ2 := [.val (.obj a), .val d, .unset]) (by rw [List.length_set, hl]; rfl) fun j => by
              match j with
              | 0 => exact .inl ⟨rfl, rfl⟩
              | 1 => exact .inl ⟨rfl, rfl⟩
              | 2 => exact .inr ⟨rfl, fun s e => .inl (Option.some.inj e).symm⟩
              | j + 3 => exact .inl ⟨rfl, rfl⟩
            refine k v _ H' (x1.trans ?_) ⟨I4, r3.tr (.less fun z h => h.imp id (ow2 z).mp)⟩
            exact ext_of_own (fun z => (ow z).symm) (fun z => ow2 z) x
        · cases e
  · cases e
end
end DL
set_option maxRecDepth 100000
set_option maxHeartbeats 4000000
namespace DL
open PySem PySem.Spec L2
theorem at_mk {K : PySem.W.Frag} {h : Heap} {mg : Str → Option Value} (X : K.In h) (G : h.Ns mainGlobals mg) {x : Str} {st : Stmt} {ps : List Str} {f : Addr} {oc : Value} {od an : Option Addr} {osl : Array (Option Value)} {kV doc pm cdv ct : Value}
    (a : PySem.W.nsIn K mainGlobals x = some (some (.ref f))) (l : K.lookup f = some ⟨oc, od, .func (PySem.W.fnOf x x (defArgs st) (defBody st) (defScope st) .none kV doc pm an cdv ct), osl⟩)
    (c : PySem.W.codeIn K cdv x = true) (k : PySem.W.keepIn K (.ref f) = true)
    (hb : ∀ (kV doc pm : Value) (an : Option Addr) (cdv ct : Value) (us : List Value), us.length = ps.length → bindArgs (PySem.W.fnOf x x (defArgs st) (defBody st) (defScope st) .none kV doc pm an cdv ct) ⟨us, []⟩ = pure (ps.zip us)) : At K mg x st ps :=
  ⟨f, _, fun_mk l c k, PySem.W.mg_of X G a, (fun_mk l c k).binds hb⟩
/-- a table's entries -/
def TabE (P : Params) : List DictEntry → List (Str × Str) → Prop
  | [], [] => True
  | e :: es, (k, v) :: kvs => (∃ t, e.key = .str k t) ∧ e.hash = PyData.keyHash P k ∧ (∃ t, e.val = .str v t) ∧ TabE P es kvs
  | _, _ => False
theorem tabE_lit {P : Params} : ∀ {es : List DictEntry} {kvs : List (Str × Str)}, TabE P es kvs → PySem.W.KeysLit P es
  | [], _, _ => trivial
  | e :: es, [], h => h.elim
  | e :: es, (k, v) :: kvs, ⟨⟨t, h1⟩, h2, _, h3⟩ => ⟨⟨k, t, h1, h2⟩, tabE_lit h3⟩
theorem tabE_find {P : Params} : ∀ {es : List DictEntry} {kvs : List (Str × Str)} (z : Str), TabE P es kvs →
    (∀ v, tget kvs z = some v → ∃ e, es.find? (·.key.isStr z) = some e ∧ ∃ t, e.val = .str v t) ∧ (tget kvs z = none → es.find? (·.key.isStr z) = none) ∧ es.any (·.refKey) = false
  | [], [], z, _ => ⟨fun v h => by simp [tget] at h, fun _ => rfl, rfl⟩
  | [], _ :: _, z, h => h.elim
  | e :: es, [], z, h => h.elim
  | e :: es, (k, v) :: kvs, z, ⟨⟨t, h1⟩, h2, ⟨t', h3⟩, h4⟩ => by
    obtain ⟨g1, g2, g3⟩ := tabE_find z h4
    have e1 : e.key.isStr z = decide (k = z) := by
      rw [h1]
      by_cases q : k = z
      · subst q; rw [decide_eq_true rfl]; exact beq_self_eq_true k
      · rw [decide_eq_false q]; exact beq_eq_false_iff_ne.mpr q
    have e2 : e.refKey = false := by unfold DictEntry.refKey; rw [h1]
    refine ⟨fun w hw => ?_, fun hw => ?_, ?_⟩
    · rw [List.find?_cons, e1]
      unfold tget at hw
      rw [List.find?_cons] at hw
      by_cases q : k = z
      · rw [decide_eq_true q] at hw ⊢
        cases hw
        exact ⟨e, rfl, t', h3⟩
      · rw [decide_eq_false q] at hw ⊢
        exact g1 w hw
    · rw [List.find?_cons, e1]
      unfold tget at hw
      rw [List.find?_cons] at hw
      by_cases q : k = z
      · rw [decide_eq_true q] at hw
        cases hw
      · rw [decide_eq_false q] at hw ⊢
        exact g2 hw
    · rw [List.any_cons, e2, g3]
      rfl
theorem tab_mk {w : World} {K : PySem.W.Frag} {a : Addr} {es : Array DictEntry} {n : Nat} {kvs : List (Str × Str)} (l : K.lookup a = some ⟨.type "dict", none, .dict es n, #[]⟩) (e : TabE w.params es.toList kvs) (s : (a == sysModules) = false) : TabAt K w a kvs where
  d := ⟨es, n, l, tabE_lit e, s⟩
  has := fun k v h => by
    obtain ⟨x, h1, t, h2⟩ := (tabE_find k e).1 v h
    refine ⟨t, ?_⟩
    unfold PySem.W.nsIn
    rw [l]
    simp only [h1, h2]
  non := fun k h => by
    have h1 := (tabE_find k e).2.1 h
    have h2 := (tabE_find k e).2.2
    unfold PySem.W.nsIn
    rw [l]
    simp only [h1, h2]
    rfl
/-- a written tuple of texts -/
def StrsE : List Value → List D → Prop
  | [], [] => True
  | v :: vs, .str x :: ds => (∃ t, v = .str x t) ∧ StrsE vs ds
  | _, _ => False
def TupE (vs : List Value) : D → Prop
  | .tup ds => StrsE vs ds
  | _ => False
theorem strsE_ok {K : PySem.W.Frag} : ∀ {vs : List Value} {ds : List D}, StrsE vs ds → ∃ us : List V, Vals us vs ∧ ∀ Fb H, Reps K Fb H us ds
  | [], [], _ => ⟨[], .nil, fun _ _ => .nil⟩
  | [], _ :: _, h => h.elim
  | _ :: _, [], h => h.elim
  | v :: vs, d :: ds, h => by
    cases d with
    | str x =>
      obtain ⟨⟨t, e⟩, h⟩ := h
      obtain ⟨us, h1, h2⟩ := strsE_ok (K := K) h
      exact ⟨.str x :: us, .cons ⟨t, e⟩ h1, fun Fb H => .cons .str (h2 Fb H)⟩
    | _ => exact h.elim
theorem tup_mk {K : PySem.W.Frag} {a : Addr} {o : Obj} {its : Array Value} {n : Nat} {d : D} (l : K.lookup a = some o) (e : o.cls = .type "tuple" ∧ o.data = .seq its n) (v : TupE its.toList d) (hz : its.size ≤ sizeLine) : ∀ Fb H, Rep K Fb H (.ref a) d := by
  intro Fb H
  cases d with
  | tup ds =>
    obtain ⟨us, h1, h2⟩ := strsE_ok (K := K) v
    exact .tup (.inr ⟨o, its, n, l, e.1, e.2, hz, h1⟩) (h2 Fb H)
  | _ => exact v.elim
theorem Ok.mono {P : Program} {w : World} {K : PySem.W.Frag} {mg : Str → Option Value} {base : Heap} {j k : Nat} {x : Str} {ms : List Mode} {g : Mir} (h : Ok P w K mg base j x ms g) (hj : j ≤ k) : Ok P w K mg base k x ms g := by
  obtain ⟨f, fd, ps, F, h⟩ := h.ex
  exact ⟨f, fd, ps, F.mono hj, h⟩
theorem OkX.mono {P : Program} {w : World} {K : PySem.W.Frag} {mg : Str → Option Value} {base : Heap} {j k : Nat} {x : Str} {ms : List Mode} {g : Mir} {C : Addr} {gx : List D → Bool} (h : OkX P w K mg base j x ms g C gx) (hj : j ≤ k) : OkX P w K mg base k x ms g C gx := by
  obtain ⟨f, fd, ps, F, h⟩ := h.ex
  exact ⟨f, fd, ps, F.mono hj, h⟩
/-- nothing is promised -/
theorem At.zero {P : Program} {w : World} {K : PySem.W.Frag} {mg : Str → Option Value} {base : Heap} {x : Str} {st : Stmt} {N0 ps : List Str} {k : Nat} (ms : List Mode) (A0 : At K mg x st ps) (S0 : FnScope N0 ps (defScope st)) (hm : ms.length = ps.length) (hl : ms.length ≤ N0.length) : Ok P w K mg base (k + 1) x ms (fun _ => none) :=
  At.ok ms (fs := sNever) A0 S0 hm hl (fun _ _ h => nomatch h) fun _ _ _ _ _ _ _ _ => ⟨_, pss_never, ss_never⟩
/-- the law's promise -/
def spTrue (K : PySem.W.Frag) : Sp := fun vs H Q _ => ∃ (a : Addr) (ns : List Int), vs = [.ref a] ∧ SqL K H a (ns.map V.int) ∧ ns.length ≤ 63 ∧ ∀ H', Q (.bl true) H'
theorem law_of {P : Program} {w : World} {K : PySem.W.Frag} {mg : Str → Option Value} {base : Heap} {k : Nat} {fa : Addr} {st : Stmt} {g : Mir} {x : Str} (C : OkL P w K mg base k "law" st [x] [.val] g) (hmg : mg "law" = some (.ref fa)) (hp : ∀ ns : List Int, ns.length ≤ 63 → g [.scr ns] = some (.val (.bl true), [])) :
    ∃ fd, Fun K "law" "law" st fa fd ∧ FnOk P w K mg base CX0 k fa fd [x] (spTrue K) := by
  obtain ⟨f, fd, F0, hm, F⟩ := C.ex
  rw [hmg] at hm
  cases hm
  have imp : ∀ vs H Q E, spTrue K vs H Q E → spD K [.val] g vs H Q E := by
    rintro vs H Q E ⟨a, ns, rfl, hS, hl, q⟩
    refine ⟨fun _ => False, [.scr ns], _, _, fun a z => z.elim, List.nodup_nil, .cons (.scr ?_) .nil, hp ns hl, fun v H' _ _ post => ?_⟩
    · exact hS.elim (fun h => .inl ⟨id, h⟩) .inr
    · cases post.1
      exact q H'
  exact ⟨fd, F0, ⟨fun vs H Q E h => F.len vs H Q E (imp _ _ _ _ h), fun A outer s H args us vs Q E h1 h2 h3 h4 h5 => F.run A outer s H args us vs Q E h1 h2 h3 h4 (imp _ _ _ _ h5)⟩⟩
end DL
set_option maxRecDepth 100000
set_option maxHeartbeats 4000000
namespace DL
open PySem PySem.Spec L2
section
variable {K : PySem.W.Frag} {Fb N : Addr → Prop} {H H' B : Hp} {σ ι : St} {ρ ρ' : Env'} {t : TS} {f : FS}
def fgt1 (ρ : Env') (i : Nat) : Env' := if isIo ρ[i]? = true then ρ else ρ.set i .unset
theorem Rel.forget (I : Rel K N B ι σ H ρ) (i : Nat) : Rel K N B ι σ H (fgt1 ρ i) ∧ Ext σ ρ H σ (fgt1 ρ i) H := by
  unfold fgt1
  split
  · exact ⟨I, .refl⟩
  rename_i hio
  have hown : ∀ a, Own σ (ρ.set i .unset) a → Own σ ρ a := fun a ⟨j, b, d', h1, h2⟩ => by
    rcases getElem?_set_cases h1 with ⟨_, z, _⟩ | ⟨hj, h1⟩
    · cases z
    · exact ⟨j, b, d', h1, h2⟩
  have hf : ∀ a, Fbd N σ (ρ.set i .unset) a → Fbd N σ ρ a := fun a z => z.imp id fun z => hown a z
  refine ⟨⟨by simpa using I.len, fun j d' h => ?_, fun j d' h => ?_, fun j b d' h => ?_, fun j k p b d1 b' d2 h1 h2 h3 h4 => ?_, fun a o h => ?_, I.nH⟩, fun a o n h => ⟨h, fun z => n (hown a z)⟩, fun _ h => h⟩
  · rcases getElem?_set_cases h with ⟨_, z, _⟩ | ⟨_, h⟩
    · cases z
    · obtain ⟨v, h1, h2⟩ := I.val j d' h
      exact ⟨v, h1, h2.tr (.less hf)⟩
  · rcases getElem?_set_cases h with ⟨_, z, _⟩ | ⟨_, h⟩
    · cases z
    · obtain ⟨v, h1, h2⟩ := I.bor j d' h
      exact ⟨v, h1, h2.tr (.less hf) (fun a _ z => hown a z) fun _ _ _ q => q⟩
  · rcases getElem?_set_cases h with ⟨_, z, _⟩ | ⟨_, h⟩
    · cases z
    · obtain ⟨v, h1, h2, h3⟩ := I.own j b d' h
      exact ⟨v, h1, OwnR.tr h2 (.less hf) fun _ q => q, h3⟩
  · rcases getElem?_set_cases h1 with ⟨_, z, _⟩ | ⟨_, h1⟩
    · cases z
    · rcases getElem?_set_cases h2 with ⟨_, z, _⟩ | ⟨_, h2⟩
      · cases z
      · exact I.uniq j k p _ _ _ _ h1 h2 h3 h4
  · rcases I.base a o h with q | ⟨j, b, d', h1, h2⟩
    · exact .inl q
    · by_cases hj : j = i
      · subst hj
        rw [h1] at hio
        cases b with
        | true => exact absurd rfl hio
        | false =>
          obtain ⟨p, g1, g2, g3, g4, _⟩ := I.own j _ _ h1
          rw [h2] at g1; cases g1
          rw [g4 rfl] at h; cases h
      · exact .inr ⟨j, b, d', by rw [List.getElem?_set_ne (Ne.symm hj)]; exact h1, h2⟩
def fgtL (ρ : Env') : List Nat → Env'
  | [] => ρ
  | i :: is => fgtL (fgt1 ρ i) is
theorem Rel.forgets : ∀ {is : List Nat} {ρ : Env'}, Rel K N B ι σ H ρ → Rel K N B ι σ H (fgtL ρ is) ∧ Ext σ ρ H σ (fgtL ρ is) H
  | [], ρ, I => ⟨I, .refl⟩
  | i :: is, ρ, I => by
    obtain ⟨J, x⟩ := I.forget i
    obtain ⟨J2, x2⟩ := J.forgets (is := is)
    exact ⟨J2, x.trans x2⟩
theorem fgt1_own {a : Addr} {i : Nat} (h : Own σ (fgt1 ρ i) a) : Own σ ρ a := by
  unfold fgt1 at h
  split at h
  · exact h
  obtain ⟨j, b, d', h1, h2⟩ := h
  rcases getElem?_set_cases h1 with ⟨_, z, _⟩ | ⟨hj, h1⟩
  · cases z
  · exact ⟨j, b, d', h1, h2⟩
theorem fgtL_own {a : Addr} : ∀ {is : List Nat} {ρ : Env'}, Own σ (fgtL ρ is) a → Own σ ρ a
  | [], ρ, h => h
  | i :: is, ρ, h => fgt1_own (fgtL_own (is := is) h)
def fgtO (is : List Nat) : Option Out → Option Out
  | some (.nx ρ) => some (.nx (fgtL ρ is))
  | some (.bk ρ) => some (.bk (fgtL ρ is))
  | some (.ct ρ) => some (.ct (fgtL ρ is))
  | some (.rt (.val d) ρ) => some (.rt (.val d) (fgtL ρ is))
  | some (.rt (.new d) ρ) => some (.rt (.new d) (fgtL ρ is))
  | some (.rt (.slot i) ρ) => some (.rt (.slot i) ρ)
  | none => none
def sFgt (is : List Nat) (f : FS) : FS := fun ρ => fgtO is (f ρ)
theorem ss_fgt {is : List Nat} (h : SS K t f) : SS K t (sFgt is f) := by
  intro N B ι σ H ρ o I e D k
  unfold sFgt at e
  cases q : f ρ with
  | none => rw [q] at e; cases e
  | some o' =>
    rw [q] at e
    refine h N B ι σ H ρ o' I q D ?_
    cases o' with
    | nx ρ1 =>
      cases e
      exact fun σ' H' x J => let ⟨J2, x2⟩ := J.forgets (is := is); k σ' H' (x.trans x2) J2
    | rt r ρ1 =>
      cases r with
      | slot i => cases e; exact k
      | val d =>
        cases e
        intro v σ' H' x q
        obtain ⟨J, q⟩ := q
        obtain ⟨J2, x2⟩ := J.forgets (is := is)
        exact k v σ' H' (x.trans x2) ⟨J2, Rep.tr (.less fun a z => z.imp id fun z => fgtL_own z) q⟩
      | new d =>
        cases e
        intro v σ' H' x q
        obtain ⟨p, e1, e2, e3, J, q⟩ := q
        obtain ⟨J2, x2⟩ := J.forgets (is := is)
        exact k v σ' H' (x.trans x2) ⟨p, e1, e2, e3, J2, OwnR.tr q (.less fun a z => z.imp id fun z => fgtL_own z) fun _ h => h⟩
    | bk ρ1 =>
      cases e
      exact fun σ' H' x J => let ⟨J2, x2⟩ := J.forgets (is := is); k σ' H' (x.trans x2) J2
    | ct ρ1 =>
      cases e
      exact fun σ' H' x J => let ⟨J2, x2⟩ := J.forgets (is := is); k σ' H' (x.trans x2) J2
end
end DL
set_option maxRecDepth 100000
set_option maxHeartbeats 4000000
namespace DLrev
open PySem PyProof.Rows HT
open PySem.SeqAt
open PySem.AutoSeq1 (wpAny_loadPart')
open PySem.MeetsSeq PySem.MeetsSeq2 PySem.MeetsSeq3
variable {prog : Program} {w : World} {A : Around} {E : Value → Shared → Prop} {s : Shared}
theorem adjust_rev (n : Nat) : Builtin.Slice.sliceAdjust none none (-1) (n : Int) = ((n : Int) - 1, -1) := by
  unfold Builtin.Slice.sliceAdjust
  simp
theorem places_rev (n : Nat) : Builtin.Slice.slicePlaces ((n : Int) - 1) (-1) (-1) = n := by
  unfold Builtin.Slice.slicePlaces
  simp
  omega
theorem pick_rev (xs : Array Value) : ((List.range xs.size).filterMap fun (m : Nat) => xs[(((xs.size : Int) - 1) + (m : Int) * (-1)).toNat]?).toArray = xs.toList.reverse.toArray := by
  congr 1
  have h : ∀ k, k ≤ xs.size → (List.range k).filterMap (fun (m : Nat) => xs[(((xs.size : Int) - 1) + (m : Int) * (-1)).toNat]?) = xs.toList.reverse.take k := by
    intro k
    induction k with
    | zero => intro _; simp
    | succ k ih =>
      intro hk
      rw [List.range_succ, List.filterMap_append, ih (by omega), List.take_succ]
      congr 1
      have e : (((xs.size : Int) - 1) + (k : Int) * (-1)).toNat = xs.size - 1 - k := by omega
      rw [List.filterMap_cons, e, List.filterMap_nil, List.getElem?_reverse (by rw [Array.length_toList]; omega), Array.length_toList, Array.getElem?_toList]
      cases xs[xs.size - 1 - k]? <;> rfl
  rw [h xs.size (Nat.le_refl _), List.take_of_length_le (by rw [List.length_reverse, Array.length_toList]; exact Nat.le_refl _)]
theorem sliceApplied_rev {sl : Addr} {vl vu vs : Value} {n : Nat} {Q : Int × Int × Nat → Shared → Prop} (hs : s.heap.IsSliceOf sl vl vu vs) (pl : IsPart vl none) (pu : IsPart vu none) (ps : IsPart vs (some (-1)))
    (h : Q ((n : Int) - 1, -1, n) s) : wpAny (model prog w) A (Builtin.Slice.sliceApplied (.ref sl) (pure (n : Int))) Q E s := by
  obtain ⟨os, hos, hcs, hds⟩ := id hs
  unfold Builtin.Slice.sliceApplied Builtin.Slice.sliceFields
  refine wpAny_bind (wpAny_bind (wpAny_field hos hds (x := vl) rfl (wpAny_bind (wpAny_field hos hds (x := vu) rfl (wpAny_bind (wpAny_field hos hds (x := vs) rfl (wpAny_pure ?_)))))))
  refine wpAny_bind (slicePart_ ps ?_)
  show wpAny _ _ (if ((-1 : Int) == 0) = true then _ else _) _ _ s
  rw [if_neg (by decide)]
  refine wpAny_bind (slicePart_ pl (wpAny_bind (slicePart_ pu (wpAny_bind (wpAny_pure ?_)))))
  show wpAny _ _ (match Builtin.Slice.sliceAdjust none none (-1) (n : Int) with | (lo, hi) => pure (lo, (-1 : Int), Builtin.Slice.slicePlaces lo hi (-1))) _ _ s
  rw [adjust_rev n]
  show wpAny _ _ (pure ((n : Int) - 1, (-1 : Int), Builtin.Slice.slicePlaces ((n : Int) - 1) (-1) (-1))) _ _ s
  rw [places_rev]
  exact wpAny_pure h
theorem getItem_tuple_rev {t sl : Addr} {items : Array Value} {vl vu vs : Value} {Q : Value → Shared → Prop} (ht : IsTup s.heap t items) (hs : s.heap.IsSliceOf sl vl vu vs) (pl : IsPart vl none) (pu : IsPart vu none) (ps : IsPart vs (some (-1)))
    (h : Q (.ref s.heap.objs.size) { s with heap := s.heap.push { cls := .type "tuple", data := .seq items.toList.reverse.toArray } })
    (hsz : items.size ≤ sizeLine) : wpAny (model prog w) A (getItem (.ref t) (.ref sl)) Q E s := by
  have htake : sizeOk (.seq items.toList.reverse.toArray) := by
    show items.toList.reverse.toArray.size ≤ sizeLine
    rw [List.size_toArray, List.length_reverse, Array.length_toList]
    exact hsz
  obtain ⟨os, hos, hcs, hds⟩ := id hs
  have hTs : s.TypeIs (.ref sl) "slice" := ⟨os, hos, hcs⟩
  unfold getItem
  try with_reducible refine wpAny_holding ?_
  first | refine wpAny_bind (wpAny_pure ?_) | skip
  refine wpAny_bind (wpAny_sequenceKey ht.typeIs (by decide) ?_)
  refine wpAny_bind (wpAny_callSpecial?_slot (name := Str.ofString "__getitem__") ht.typeIs PyProof.Rows.slot_tuple_getitem
    (wpAny_call_entry PyProof.Rows.slot_tuple_getitem ht.typeIs entry_tuple_getitem ?_ (args_tuple_getitem _ _)))
  show wpAny _ _ (Builtin.Tuple.tupleItemsOf (.ref t) >>= _) _ _ s
  refine wpAny_bind (tupleItemsOf_ ht ?_)
  refine wpAny_bind (wpAny_typeOf hTs ?_)
  rw [if_pos (by decide)]
  refine wpAny_bind (sliceApplied_rev hs pl pu ps ?_)
  have hno : ¬ ((((items.size : Int) - 1) == 0 && (-1 : Int) == 1 && items.size == items.size) = true) := by
    intro q
    rw [Bool.and_eq_true, Bool.and_eq_true] at q
    exact absurd q.1.2 (by decide)
  show wpAny _ _ (if (((items.size : Int) - 1) == 0 && (-1 : Int) == 1 && items.size == items.size) = true then _ else _) _ _ s
  rw [if_neg hno, pick_rev]
  first
    | exact wpAny_bind (m := Builtin.Tuple.tupleExact _) (wpAny_newObj_type (wpAny_pure ⟨_, rfl, wpAny_pure h⟩) htake)
    | exact wpAny_bind (m := Builtin.Tuple.tupleExact _) (wpAny_newObj_type (wpAny_bind (wpAny_pure (wpAny_pure ⟨_, rfl, wpAny_pure h⟩))) htake)
    | exact wpAny_bind (wpAny_bind (m := Builtin.Tuple.tupleExact _) (wpAny_newObj_type (wpAny_pure (wpAny_pure ⟨_, rfl, wpAny_pure h⟩)) htake))
    | exact wpAny_bind (wpAny_bind (m := Builtin.Tuple.tupleExact _) (wpAny_newObj_type (wpAny_pure ⟨_, rfl, wpAny_pure h⟩) htake))
end DLrev
namespace DL
open PySem PySem.Spec L2
open PyProof.Rows hiding St
section
variable {K : PySem.W.Frag} {Fb N : Addr → Prop} {H H' B : Hp} {X : Cx} {σ ι : St} {ρ ρ' : Env'} {t ta : TE} {fa : FE}
def rRev (K : PySem.W.Frag) : V → Hp → VK → Prop := fun x H Q => ∃ a xs, x = .ref a ∧ ((SqT K H a xs ∧ ∀ p, H p = none → Q (.ref p) (upd H p (.tup xs.reverse))) ∨ (SqL K H a xs ∧ ∀ p, H p = none → Q (.ref p) (upd H p (.lst xs.reverse))))
theorem pe_rev {e : Expr} {te : TE} {k : Nat} {p1 p2 p3 pos : Pos} (he : PE X e te) : PE X (.Subscript e (.Slice none none (some (.UnaryOp .USub (.Constant (.int 1) k p1) p2)) p3) pos) (tUn (rRev X.K) te) := by
  refine ⟨fun pins s σ H Q I h => ?_⟩
  refine Subscript_ (thn (he.run pins s σ H _ I h) fun v s1 ⟨x, H1, I1, r1, q1⟩ => ?_)
  obtain ⟨a, xs, ex, q⟩ := q1
  subst ex
  cases r1
  have hst : PO X (some (.UnaryOp .USub (.Constant (.int 1) k p1) p2)) (tPart (tUn (rU fun i => .int (-i)) (tC (.int 1)))) := po_some (L2.pe_un un_neg pe_int)
  refine wpAny_Slice (thn (po_none.run pins s1 σ H1 (fun o H2 => o = none ∧ H2 = H1) I1 ⟨rfl, rfl⟩) fun vl s2 ⟨l, H2, I2, pl, el, e2⟩ => ?_)
  subst el e2
  refine thn (po_none.run pins s2 σ H2 (fun o H3 => o = none ∧ H3 = H2) I2 ⟨rfl, rfl⟩) fun vu s3 ⟨u, H3, I3, pu, eu, e3⟩ => ?_
  subst eu e3
  refine thn (hst.run pins s3 σ H3 (fun o H4 => o = some (-1) ∧ H4 = H3) I3 ⟨1, rfl, -1, rfl, rfl, rfl⟩) fun vs s4 ⟨o, H4, I4, ps, eo, e4⟩ => ?_
  subst eo e4
  have I5 : Inv X pins σ H4 { s4 with heap := s4.heap.push { cls := .type "slice", data := .fields #[vl, vu, vs] } } := I4.kept (t' := s4.toks) fun b ob q => Heap.get?_push_of_some _ q
  show wpAny (model X.prog X.w) X.A (subscriptTail e (.Slice none none (some (.UnaryOp .USub (.Constant (.int 1) k p1) p2)) p3) (.ref a) (.ref s4.heap.objs.size)) (EP X pins σ Q) X.xe { s4 with heap := s4.heap.push { cls := .type "slice", data := .fields #[vl, vu, vs] } }
  rcases q with ⟨hx, q⟩ | ⟨hx, q⟩
  · obtain ⟨its, r, ht, hz⟩ := I5.tuple hx
    have hlen := r.length
    refine tail_any (ops := [.ref a, .ref s4.heap.objs.size]) ht.typeIs (PyProof.Rows.slot_tuple_getitem.lookup) ?_ (by with_unfolding_all rfl)
    refine DLrev.getItem_tuple_rev ht (Heap.IsSliceOf.new _ vl vu vs) pl pu ps ?_ (by rw [List.size_toArray]; omega)
    refine ⟨.ref _, _, I5.laid (t' := s4.toks) (o := .tup xs.reverse) (fun b ob q => Heap.get?_push_of_some _ q) (Nat.le_refl _) ?_, rfl, q _ (I5.hok.fresh (Nat.le_refl _))⟩
    exact ⟨by rw [List.length_reverse]; exact hz, _, r.reverse, IsTup.new _ _⟩
  · obtain ⟨its, r, ht, hz⟩ := I5.list hx
    have hlen := r.length
    refine tail_any (ops := [.ref a, .ref s4.heap.objs.size]) ht.isList.typeIs (PySem.slot_list_getitem.lookup) ?_ (by with_unfolding_all rfl)
    refine wpAny_getItem_list_slice ht.isList (Heap.IsSliceOf.new _ vl vu vs) pl pu ps (by decide) ?_ (by rw [List.size_toArray]; omega)
    rw [PySem.W.krv_pick]
    refine ⟨.ref _, _, I5.laid (t' := s4.toks) (o := .lst xs.reverse) (fun b ob q => Heap.get?_push_of_some _ q) (Nat.le_refl _) ?_, rfl, q _ (I5.hok.fresh (Nat.le_refl _))⟩
    exact ⟨by rw [List.length_reverse]; exact hz, _, 0, r.reverse, Heap.get?_push_size _ rfl⟩
def gRev : D → Option R
  | .tup xs => some (.val (.tup xs.reverse))
  | .lst xs => some (.new (.lst xs.reverse))
  | _ => none
theorem u_rev : U1 K (rRev K) gRev := by
  intro Fb H v d r hF hv hg Q k
  unfold gRev at hg
  split at hg
  · cases hg
    obtain ⟨a, ws, rfl, h1, r1⟩ := repT_tup hv
    exact ⟨a, ws, rfl, .inl ⟨h1.sq, fun l hl => k _ _ (upd_ns hl) (vr_tup hF hl r1.reverse)⟩⟩
  · cases hg
    obtain ⟨a, ws, rfl, h1, r1⟩ := hv
    exact ⟨a, ws, rfl, .inr ⟨.inl h1, fun l hl => k _ _ (upd_ns hl) (vr_new hl r1.reverse)⟩⟩
  · cases hg
end
end DL
set_option maxRecDepth 100000
set_option maxHeartbeats 4000000
namespace DL
open PySem PySem.Spec L2
open PyProof.Rows hiding St
open PyProof.V (Flat)
section
variable {K : PySem.W.Frag} {Fb N : Addr → Prop} {H H' B : Hp} {X : Cx} {σ ι : St} {ρ ρ' : Env'} {t ta : TE} {fa : FE}
def rDUpdate : V → List V → Hp → VK → Prop := fun x vs H Q => ∃ (d o : Addr) (kvs more : List (Key × V)), x = .ref d ∧ vs = [.ref o] ∧ d ≠ o ∧ H d = some (.dK kvs) ∧ Rd H o (.dK more) ∧ kvs.length + more.length ≤ sizeLine ∧ Q .non (upd H d (.dK (mergeK kvs more)))
theorem mt_dupdate : MtM X "dict.update" rDUpdate := by
  intro pins s σ H x vs v us Q I rx rv h
  obtain ⟨d, o, kvs, more, rfl, rfl, hne, hH, hB, hz, q⟩ := h
  cases rx
  obtain ⟨u, rfl, ru⟩ := rv.one
  cases ru
  obtain ⟨z1, lo1, vs1, r1, dd1⟩ := dk_of I.hok hH
  obtain ⟨z2, lo2, vs2, r2, dd2⟩ := dk_rd I.hok hB
  refine call_meetsIn PySem.F.slot_dict_update dd1.typeIs PySem.F.entry_dict_update (PySem.F.args_dict_update_2 _ _) (meets_dict_update (mixKind X.prog X.w) d o hne lo2)
    ⟨vs1, vs2, dd1, dd2, by rw [← r1.length, ← r2.length]; exact hz, fun h' hmm _ hs => ?_⟩
  have hl2 : (mergeK kvs more).length ≤ sizeLine := Nat.le_trans (length_mergeK more kvs) hz
  have he : ∃ q, h'.get? d = some q := let ⟨q, _, _, hq, _⟩ := hmm; ⟨q, hq⟩
  exact ⟨.non, _, d_write (t' := s.toks) I (by rw [hH]; exact True.intro) hs he (dk_new hl2 lo1 (KV.merge r2 r1) hmm), rfl, q⟩
def mDUpdate : D → List D → Option (D × D)
  | .dct kvs, [.dct more] => if kvs.length + more.length ≤ sizeLine then some (.non, .dct (dmerge kvs more)) else none
  | _, _ => none
theorem mu_dupdate : MU K rDUpdate mDUpdate := by
  intro Fb H p d vs ds res d' hp ho hr hm Q k
  unfold mDUpdate at hm
  split at hm
  · rename_i kvs more
    split at hm
    · rename_i hl
      cases hm
      obtain ⟨ws, h1, r1⟩ := ho
      cases hr with
      | cons hx hn =>
        cases hn
        cases hx with
        | dct h2 n2 r2 =>
          exact ⟨p, _, ws, _, rfl, rfl, fun e => n2 (e ▸ hp), h1, h2, by rw [r1.length, r2.length]; exact hl, k _ _ hk_upd hl_upd .non ⟨_, upd_same, (r2.merge r1).tr (trw hp hk_upd)⟩⟩
    · cases hm
  · cases hm
def flatV : V → Option PyData
  | .non => some .none
  | .bl b => some (.bool b)
  | .int i => some (.int i)
  | .str x => some (.str x)
  | _ => none
theorem flatV_ok {v : V} {u : Value} {d : PyData} (h : flatV v = some d) (r : RelV v u) : Flat u d := by
  cases v <;> simp only [flatV, Option.some.injEq, reduceCtorEq] at h <;> subst h
  · obtain rfl := r; exact fun _ => .none
  · obtain rfl := r; exact fun _ => .bool _
  · obtain ⟨t, rfl⟩ := r; exact .int _ _
  · obtain ⟨t, rfl⟩ := r; exact .str _ _
/-- whether each entry of the one stands in the other -/
inductive HitsV (kb : List (Key × V)) : List (Key × V) → Bool → Prop
  | nil : HitsV kb [] true
  | miss {k v r} : valV kb k = none → HitsV kb ((k, v) :: r) false
  | hit {k v y r d e b} : valV kb k = some y → flatV v = some d → flatV y = some e → HitsV kb r b → HitsV kb ((k, v) :: r) (PyData.eqv d e && b)
theorem hits_ok {A : Around} {s : Shared} {kb : List (Key × V)} {vb : List (Key × Value)} (rb : KV kb vb) : ∀ {ka : List (Key × V)} {va : List (Key × Value)} {r : Bool}, KV ka va → HitsV kb ka r → PySem.W.KeqHits A s vb va r := by
  intro ka va r ra h
  induction h generalizing va with
  | nil =>
    unfold KV at ra
    cases ra
    exact .nil
  | @miss k v r hn =>
    unfold KV at ra
    cases ra with
    | @cons _ q _ qs h1 h2 =>
      obtain ⟨k', u⟩ := q
      obtain ⟨e1, e2⟩ := h1
      have e1 : k = k' := e1
      subst e1
      have := rb.val k
      rw [hn] at this
      cases hv : valueAt vb k with
      | none => exact .miss hv
      | some z => rw [hv] at this; exact this.elim
  | @hit k v y r d e b hy hd he hr ih =>
    unfold KV at ra
    cases ra with
    | @cons _ q _ qs h1 h2 =>
      obtain ⟨k', u⟩ := q
      obtain ⟨e1, e2⟩ := h1
      have e1 : k = k' := e1
      subst e1
      have := rb.val k
      rw [hy] at this
      cases hv : valueAt vb k with
      | none => rw [hv] at this; exact this.elim
      | some z =>
        rw [hv] at this
        have g1 : Flat u d := flatV_ok hd e2
        have g2 : Flat z e := flatV_ok he this
        exact .hit hv (PySem.W.keq_flat g1 g2) (ih h2)
def rEqDct (f : Bool → Bool) : R2 := fun x y H Q => ∃ a b ka kb r, x = .ref a ∧ y = .ref b ∧ Rd H a (.dK ka) ∧ Rd H b (.dK kb) ∧ HitsV kb ka r ∧ Q (.bl (f (ka.length == kb.length && r))) H
theorem op_eqDct (hu : X.A.units < cLine) : OpR X (compareOp .Eq) (rEqDct id) := by
  intro pins s σ H x y v u Q I rx ry h
  obtain ⟨a, b, ka, kb, r, rfl, rfl, ha, hb, hh, q⟩ := h
  cases rx
  cases ry
  obtain ⟨z1, lo1, vs1, r1, dd1⟩ := dk_rd I.hok ha
  obtain ⟨z2, lo2, vs2, r2, dd2⟩ := dk_rd I.hok hb
  refine PySem.W.keq_eq (r := r) lo1 lo2 dd1 dd2 hu (fun _ => hits_ok r2 r1 hh) ?_
  rw [← r1.length, ← r2.length]
  exact ⟨.bl _, H, I, rfl, q⟩
theorem op_neDct (hu : X.A.units < cLine) : OpR X (compareOp .NotEq) (rEqDct not) := by
  intro pins s σ H x y v u Q I rx ry h
  obtain ⟨a, b, ka, kb, r, rfl, rfl, ha, hb, hh, q⟩ := h
  cases rx
  cases ry
  obtain ⟨z1, lo1, vs1, r1, dd1⟩ := dk_rd I.hok ha
  obtain ⟨z2, lo2, vs2, r2, dd2⟩ := dk_rd I.hok hb
  refine PySem.W.keq_ne (r := r) lo1 lo2 dd1 dd2 hu (fun _ => hits_ok r2 r1 hh) ?_
  rw [← r1.length, ← r2.length]
  exact ⟨.bl _, H, I, rfl, q⟩
def pyF : D → Option PyData
  | .non => some .none
  | .bl b => some (.bool b)
  | .int i => some (.int i)
  | .str x => some (.str x)
  | _ => none
theorem pyF_V {v : V} {d : D} {a : PyData} (h : pyF d = some a) (r : Rep K Fb H v d) : flatV v = some a := by
  cases r <;> simp only [pyF, Option.some.injEq, reduceCtorEq] at h <;> subst h <;> rfl
def hitsD (kb : List (Str × D)) : List (Str × D) → Option Bool
  | [] => some true
  | (k, v) :: r => match dget kb k with
    | none => some false
    | some y => (match pyF v, pyF y, hitsD kb r with
      | some d, some e, some b => some (PyData.eqv d e && b)
      | _, _, _ => none)
theorem hitsD_V {kb : List (Str × D)} {vb : List (Key × V)} (rb : RepK K Fb H vb kb) : ∀ {ka : List (Str × D)} {va : List (Key × V)} {r : Bool}, RepK K Fb H va ka → hitsD kb ka = some r → HitsV vb va r
  | [], _, r, .nil, e => by cases e; exact .nil
  | _ :: ka, _, r, @RepK.cons _ _ _ k v d vs _ h t, e => by
    unfold hitsD at e
    rcases rb.get k with ⟨y, dy, h1, h2, h3⟩ | ⟨h1, h2⟩
    · rw [h2] at e
      dsimp only at e
      cases q1 : pyF d with
      | none => rw [q1] at e; cases e
      | some a1 =>
        cases q2 : pyF dy with
        | none => rw [q1, q2] at e; cases e
        | some a2 =>
          cases q3 : hitsD kb ka with
          | none => rw [q1, q2, q3] at e; cases e
          | some b =>
            rw [q1, q2, q3] at e
            cases e
            exact .hit h1 (pyF_V q1 h) (pyF_V q2 h3) (hitsD_V rb t q3)
    · rw [h2] at e
      cases e
      exact .miss h1
def gEqDct (f : Bool → Bool) : D → D → Option R
  | .dct ka, .dct kb => (match hitsD kb ka with
    | some r => some (.val (.bl (f (ka.length == kb.length && r))))
    | none => none)
  | _, _ => none
theorem u_eqDct (f : Bool → Bool) : U2 K (rEqDct f) (gEqDct f) := by
  intro Fb H v w d e r hF hv hw hg Q k
  unfold gEqDct at hg
  split at hg
  · rename_i ka kb
    cases q : hitsD kb ka with
    | none => rw [q] at hg; cases hg
    | some b =>
      rw [q] at hg
      cases hg
      obtain ⟨a, va, rfl, h1, r1⟩ := hv
      obtain ⟨a', vb, rfl, h2, r2⟩ := hw
      refine ⟨a, a', va, vb, b, rfl, rfl, h1, h2, hitsD_V r2 r1 q, ?_⟩
      rw [r1.length, r2.length]
      exact k _ H (.refl _) Rep.bl
  · cases hg
end
end DL
set_option maxRecDepth 100000
set_option maxHeartbeats 4000000
namespace DL
open PySem PySem.Spec L2
/-- what is walked as it stands at each turn, each item in a new pair -/
def IteK (K : PySem.W.Frag) (k1 : SK) : It :=
  ⟨fun i H => ∃ xs x, k1.at K H xs ∧ xs[i]? = some x,
   fun i H v H' => ∃ T x, v = .ref T ∧ H T = none ∧ H' = upd H T (.tup [.int (i : Nat), x]) ∧ ∀ xs, k1.at K H xs → xs[i]? = some x,
   fun i H => ∃ xs, k1.at K H xs ∧ i = xs.length⟩
theorem turn_enumK {P : Program} {w : World} {K : PySem.W.Frag} {elts : List Expr} {kk : Nat} {tpos : Pos} {k1 : SK} {e it : Addr} (hne : e ≠ it) (hn1 : it ∉ k1.src) (hn2 : e ∉ k1.src) :
    Turn P w K (.Tuple elts kk tpos) (IteK K k1) [e, it] e (fun i h => (∃ old, IsEnum h e it ((i : Nat) : Int) old) ∧ k1.st it i h) where
  mem := by simp
  obj := fun i h st c hc => by
    obtain ⟨⟨old, he⟩, h1⟩ := st
    have e' : c = e ∨ c = it := by simpa using hc
    rcases e' with q | q
    · rw [q]; exact ⟨_, he, fun v q => nomatch q⟩
    · rw [q]; exact SK.obj h1
  keep := fun i h h' st k => by
    obtain ⟨⟨old, he⟩, h1⟩ := st
    exact ⟨⟨old, k e (by simp) _ he⟩, SK.keep h1 fun o q => k it (by simp) o q⟩
  item := by
    intro X hP hw hK hc i pins s σ H E I hf st hg
    subst hP hw hK
    obtain ⟨⟨old, he⟩, h1⟩ := st
    obtain ⟨xs, x, hq, hx⟩ := hg
    have hh : X.A.in1.handled = none := I.ok.hd hc
    obtain ⟨S1, D1, st1, q1⟩ := SK.any (P := X.prog) (w := X.w) hh I it i k1 hq hn1 h1
    have hel : e < s.heap.objs.size := Heap.lt_size he
    have l1 : i < xs.length := by
      rcases Nat.lt_or_ge i xs.length with q | q
      · exact q
      · rw [List.getElem?_eq_none q] at hx; cases hx
    have hef : e ∉ it :: k1.src := fun z => (List.mem_cons.mp z).elim (fun z => hne z) hn2
    refine wpAny_pyNext_enum_itemC D1 he st1 l1 hne hef fun u h' tk p ho s1' hT hsz hk => ?_
    obtain ⟨x', hx', ru⟩ := p
    rw [hx] at hx'; cases hx'
    refine ⟨_, rfl, wpAny_letOwnedTupleGo_enum (s := { s with heap := h', toks := tk + 1 }) ho fun h'' he' sb => ?_⟩
    have hT2 : h''.get? s.heap.objs.size = some { cls := .type "tuple", data := .seq #[.int (i : Nat) tk, u] } := (sb.2 _ (Nat.ne_of_gt hel)).trans hT
    have new : ObjOk X.prog X.w (upd H s.heap.objs.size (.tup [.int (i : Nat), x])) h'' s.heap.objs.size (.tup [.int (i : Nat), x]) :=
      ⟨by show 2 ≤ sizeLine; decide, [.int (i : Nat) tk, u], .cons ⟨_, rfl⟩ (.cons ru .nil), ⟨_, hT2, rfl, _, rfl⟩⟩
    have I1 : Inv X pins σ (upd H s.heap.objs.size (.tup [.int (i : Nat), x])) { s with heap := h'', toks := tk + 1 } :=
      I.turnedNew (t' := tk + 1) (ch := [e, it]) (fun c o hb q => (sb.2 c (fun q' => hb (by simp [q']))).trans (hk c o (fun q' => hb (by simp [q'])) (fun q' => hb (by simp [q'])) q)) hf (Nat.le_refl _) new
    refine ⟨.ref s.heap.objs.size, _, I1, rfl, ⟨_, x, rfl, I.hok.fresh (Nat.le_refl _), rfl, fun l hl => by rw [k1.uniq I hl hq]; exact hx⟩, ⟨⟨u, ?_⟩, ?_⟩, fun c hcm => ?_⟩
    · have e1 : ((i + 1 : Nat) : Int) = (i : Int) + 1 := by omega
      rw [e1]; exact he'
    · exact SK.keep (q1 _ _ s1') fun o q => (sb.2 _ (Ne.symm hne)).trans q
    · have hlt : c < s.heap.objs.size := by
        have e' : c = e ∨ c = it := by simpa using hcm
        rcases e' with q | q
        · rw [q]; exact hel
        · rw [q]; obtain ⟨_, e1, _⟩ := SK.obj h1; exact Heap.lt_size e1
      rw [upd_ne (Nat.ne_of_lt hlt)]
      exact (hf c hcm).1
  done := by
    intro X hP hw hK hc i pins s σ H E I hf st hg
    subst hP hw hK
    obtain ⟨⟨old, he⟩, h1⟩ := st
    obtain ⟨xs, hq, hx⟩ := hg
    have hh : X.A.in1.handled = none := I.ok.hd hc
    obtain ⟨S1, D1, st1, q1⟩ := SK.any (P := X.prog) (w := X.w) hh I it i k1 hq hn1 h1
    rw [hx] at st1
    exact wpAny_pyNext_enum_endD D1 he st1 fun h' eb => ⟨rfl, I.turnedL (t' := s.toks) (ch := [e, it]) (fun c o hb q => eb c o (fun q' => hb (by simp [q'])) q) hf⟩
  self := fun A i s Q E st h => let ⟨⟨_, he⟩, _⟩ := st; wpAny_pyIter_enum he h
set_option maxHeartbeats 1000000 in
theorem meets_enum1 {v : Value} {o : Obj} {H : Heap → Prop} (B : Begins v o H) :
    Meets (Builtin.«enumerate.__new__» ⟨[.type "enumerate", v], []⟩) (fun _ R s => H s.heap ∧
      R (.ok (.ret (.ref (s.heap.push o).objs.size))) { s with heap := (s.heap.push o).push { cls := .type "enumerate", data := .fields #[.none, .bool false, .ref s.heap.objs.size, rawInt 0, .none, .none] } }) :=
  .of_wp fun prog w A R s h => by
    obtain ⟨hp, g, d, tk, os⟩ := s; obtain ⟨h1, h⟩ := h
    have hsb := sub_enumerate
    have go : ∀ {A' : Around} {E : Value → Shared → Prop} {Q : Value → Shared → Prop}, Q (.ref hp.objs.size) ⟨hp.push o, g, d, tk, os⟩ → wpAny (model prog w) A' (pyIter v) Q E ⟨hp, g, d, tk, os⟩ :=
      fun q => B.iter prog w _ _ ⟨hp, g, d, tk, os⟩ _ h1 q
    wp_walk using go
    refine wpAny_stack_any fun st => wpAny_pure ?_
    split
    · rename_i c _ _ _ _ _
      cases (c == Value.type "enumerate") <;> (wp_walk using go) <;> exact ⟨_, rfl, h⟩
    · wp_walk using go
      exact ⟨_, rfl, h⟩
theorem enum_begins1 {prog : Program} {w : World} {A : Around} {E : Value → Shared → Prop} {s : Shared} {v : Value} {o : Obj} {H : Heap → Prop} {Q : Value → Shared → Prop} (B : Begins v o H) (h1 : H s.heap)
    (h : ∀ h', IsEnum h' (s.heap.objs.size + 1) s.heap.objs.size 0 .none → h'.get? s.heap.objs.size = some o → h'.objs.size = s.heap.objs.size + 2 →
      (∀ b o, s.heap.get? b = some o → h'.get? b = some o) → Q (.ref (s.heap.objs.size + 1)) { s with heap := h' }) :
    wpAny (model prog w) A (call (.type "enumerate") [v]) Q E s := by
  refine callType_new F.called_enumerate (by decide) (F.typeCall_enumerate_1 _) (F.newCall_enumerate_1 _) (fun obj => F.args_object_init_2 obj _) F.entry_enumerate_new (meets_enum1 B) ⟨h1, ?_⟩
  have hz : (s.heap.push o).objs.size = s.heap.objs.size + 1 := Heap.size_push ..
  show _ ∧ _
  rw [hz]
  have he : IsEnum ((s.heap.push o).push { cls := .type "enumerate", data := .fields #[.none, .bool false, .ref s.heap.objs.size, rawInt 0, .none, .none] }) (s.heap.objs.size + 1) s.heap.objs.size 0 .none := by
    have := Heap.get?_push_size (s.heap.push o) (o := { cls := .type "enumerate", data := .fields #[.none, .bool false, .ref s.heap.objs.size, rawInt 0, .none, .none] }) rfl
    rw [hz] at this; exact this
  refine ⟨⟨_, he, rfl⟩, h _ he (Heap.get?_push_of_some _ (Heap.get?_push_size _ B.free)) (by rw [Heap.size_push, hz]) fun b o x => Heap.get?_push_of_some _ (Heap.get?_push_of_some _ x)⟩
def iEnumK (K : PySem.W.Frag) (ta : TA) : TI := fun σ H R => ta σ H fun vs H1 => ∃ k1 xs, vs = [SK.v k1] ∧ k1.at K H1 xs ∧ R (IteK K k1) H1
theorem pi_enumK {X : Cx} {e : Expr} {ta : TA} {p pos tpos : Pos} {elts : List Expr} {kk : Nat} (hg : Gl X "enumerate") (hm : X.mg "enumerate" = none) (ha : PA X [e] ta) (hs : starEach [e] X.env = [(false, eval e X.env)] := by rfl) :
    PI X (.Tuple elts kk tpos) (.Call (.Name "enumerate" p) [e] [] pos) (iEnumK X.K ta) := by
  refine ⟨fun pins s σ H R I h => ?_⟩
  refine PyProof.Rows.Call_ (ld_blt I hg hm PyProof.Rows.boot_enumerate (PyProof.Rows.callWith_type1 (thn (ha.run pos pins s σ H _ I h) fun us s1 ⟨vs, H1, I1, r1, q1⟩ => ?_) hs rfl))
  obtain ⟨k1, xs, ex, hq, q⟩ := q1
  subst ex
  cases r1 with
  | cons r rr =>
    cases rr
    obtain ⟨o1, Hb1, B1, b1, st1⟩ := SK.begins I1 k1 hq r
    refine enum_begins1 B1 b1 fun h' he g1 hsz hk => wpAny_pyIter_enum he ?_
    have I2 : Inv X pins σ H1 { s1 with heap := h' } := I1.kept (t' := s1.toks) hk
    have l1 := SK.live I1 k1 hq
    refine ⟨s1.heap.objs.size + 1, [s1.heap.objs.size + 1, s1.heap.objs.size], _, _, H1, rfl, I2, turn_enumK (Nat.succ_ne_self _) (fun m => absurd (l1 _ m) (Nat.lt_irrefl _)) (fun m => absurd (l1 _ m) (Nat.not_lt.mpr (Nat.le_succ _))), ⟨⟨.none, he⟩, st1 _ _ g1⟩, fun c hcm => ?_, q⟩
    have e' : c = s1.heap.objs.size + 1 ∨ c = s1.heap.objs.size := by simpa using hcm
    have hle : s1.heap.objs.size ≤ c := by
      rcases e' with q | q <;> rw [q]
      · exact Nat.le_add_right _ _
      · exact Nat.le_refl _
    exact I1.fpOk hle (I1.hok.fresh hle)
theorem hu_lt {A : Around} {k : Nat} (hr : Room k A) : A.units < cLine := by have := hr.units; omega
section
variable {K : PySem.W.Frag} {Fb N : Addr → Prop} {H H' B : Hp} {X : Cx} {σ ι : St} {ρ ρ' : Env'} {t ta : TE} {fa : FE}
def enumD : Nat → List D → List D
  | _, [] => []
  | i, d :: ds => .tup [.int (i : Nat), d] :: enumD (i + 1) ds
theorem enumD_len : ∀ (ds : List D) (i : Nat), (enumD i ds).length = ds.length
  | [], _ => rfl
  | d :: ds, i => congrArg (· + 1) (enumD_len ds (i + 1))
theorem enumD_at : ∀ {ds : List D} {i j : Nat} {d : D}, ds[j]? = some d → (enumD i ds)[j]? = some (.tup [.int ((i + j : Nat) : Int), d])
  | [], _, _, _, h => by simp at h
  | x :: ds, i, 0, d, h => by simp at h; subst h; rfl
  | x :: ds, i, j + 1, d, h => by
    have := enumD_at (ds := ds) (i := i + 1) (j := j) (by simpa using h)
    rw [show i + 1 + j = i + (j + 1) by omega] at this
    exact this
def fEnum (fa : FA) : FI := fun ρ => match fa ρ with
  | some (rs, ρ1) => (match frzs ρ1 rs with
    | some ([a], ρ2) => (match itemsOf a with
      | some as => some (enumD 0 as, ρ2)
      | none => none)
    | _ => none)
  | none => none
theorem si_enum {Z : Addr → Prop} {t : TA} {f : FA} (ha : SA K t f) : SI K Z (iEnumK K t) (fEnum f) := by
  refine SI.of ?_
  intro N B ι σ H ρ ds ρ' I e R k
  unfold fEnum at e
  cases e1 : f ρ with
  | none => rw [e1] at e; cases e
  | some q =>
    obtain ⟨rs, ρ1⟩ := q
    simp only [e1] at e
    split at e
    · rename_i a ρ2 e2
      cases e3 : itemsOf a with
      | none => simp only [e3] at e; cases e
      | some as =>
        simp only [e3] at e
        cases e
        refine ha N B ι σ H ρ rs ρ1 I e1 _ fun vs H1 x1 I1 q1 => ?_
        obtain ⟨I2, r2, x2⟩ := frzs_ok I1 q1 e2
        cases r2 with
        | cons ra r2 =>
          cases r2
          obtain ⟨k1, xs, rfl, a1, ra1, ka⟩ := sk_of ra e3
          refine ⟨k1, xs, rfl, a1, k _ H1 (x1.trans x2) I2 ?_⟩
          refine ⟨fun H => k1.at K H xs, fun i H v H' => ∃ T x, v = .ref T ∧ H T = none ∧ H' = upd H T (.tup [.int (i : Nat), x]) ∧ xs[i]? = some x, ⟨fun i Hi hi g => ?_, fun Hi g => ?_, fun i Hi v Hi' hi g y => ?_⟩, a1, fun σ' ρ'' H' x => ka x.tr, fun N' B' ι' σ' ρ'' H' i v H2 hN xx I' y => ?_⟩
          · rw [enumD_len] at hi
            have hx : i < xs.length := by rw [ra1.length]; omega
            exact ⟨xs, _, g, List.getElem?_eq_getElem hx⟩
          · exact ⟨xs, g, by rw [enumD_len, ra1.length]⟩
          · obtain ⟨T, x, h1, h2, h3, h4⟩ := y
            exact ⟨T, x, h1, h2, h3, h4 xs g⟩
          · obtain ⟨T, x, rfl, hT, rfl, h4⟩ := y
            obtain ⟨d1, g1, g2⟩ := (ra1.tr (tr_more xx hN)).getV h4
            have ga := enumD_at (i := 0) g1
            rw [Nat.zero_add] at ga
            refine ⟨_, ga, upd_ns hT, ?_⟩
            exact .tup (.inl ⟨I'.new hT, .of upd_same⟩) (.cons .int (.cons (g2.tr (.same (upd_ns hT))) .nil))
    · cases e
end
end DL
set_option maxRecDepth 100000
set_option maxHeartbeats 4000000
namespace DL
open PySem PySem.Spec L2
section
variable {β γ : Type}
def bO (x : Option γ) (k : γ → Option β) : Option β := match x with
  | some a => k a
  | none => none
def bE (x : Option (R × Env')) (k : R → Env' → Option β) : Option β := match x with
  | some (r, ρ) => k r ρ
  | none => none
def bEE (x : Option (R × Env')) (f : FE) (k : R → R → Env' → Option β) : Option β := match x with
  | some (r, ρ) => bE (f ρ) (k r)
  | none => none
def bEEE (x : Option (R × Env')) (f h : FE) (k : R → R → R → Env' → Option β) : Option β := match x with
  | some (r, ρ) => bEE (f ρ) h (k r)
  | none => none
def bA (x : Option (List R × Env')) (k : List R → Env' → Option β) : Option β := match x with
  | some (r, ρ) => k r ρ
  | none => none
def bEA (x : Option (R × Env')) (f : FA) (k : R → List R → Env' → Option β) : Option β := match x with
  | some (r, ρ) => bA (f ρ) (k r)
  | none => none
def bT (x : Option (Bool × Env')) (a b : Env' → Option β) : Option β := match x with
  | some (true, ρ) => a ρ
  | some (false, ρ) => b ρ
  | none => none
def bS (x : Option Out) (k : FS) : Option Out := match x with
  | some (.nx ρ) => k ρ
  | some o => some o
  | none => none
def bI (x : Option (List D × Env')) (k : List D → Env' → Option β) : Option β := match x with
  | some (r, ρ) => k r ρ
  | none => none
def bFO (x : Option (Option Int × Env')) (k : Option Int → Env' → Option β) : Option β := match x with
  | some (r, ρ) => k r ρ
  | none => none
def bDE (x : Option (D × Env')) (k : D → Env' → Option β) : Option β := match x with
  | some (r, ρ) => k r ρ
  | none => none
def bDsE (x : Option (List D × Env')) (k : List D → Env' → Option β) : Option β := match x with
  | some (r, ρ) => k r ρ
  | none => none
def bRL (x : Option (R × List D)) (k : R → List D → Option β) : Option β := match x with
  | some (r, ρ) => k r ρ
  | none => none
end
/-- a slot's content -/
def sV (i : Nat) (ρ : Env') : Option S → Option (R × Env')
  | some (.val d) => some (.val d, ρ)
  | some (.bor _) => some (.slot i, ρ)
  | some (.own _ _) => some (.slot i, ρ)
  | _ => none
def noE : Env' → Option (Bool × Env') := fun ρ => some (false, ρ)
def yesE : Env' → Option (Bool × Env') := fun ρ => some (true, ρ)
def tooE (b : Bool) : Env' → Option (R × Env') := fun ρ => some (.val (.bl b), ρ)
def sub1 (l : Option S) : Option D := match l with
  | some (.val d) => some d
  | _ => none
def frzS2 (i : Nat) (l : Option S) (ms : List Mode) (rs : List R) (ρ : Env') : Env' := match l with
  | some (.own false d) => frzV ms rs (ρ.set i (.val d))
  | _ => frzV ms rs ρ
def wbS (i : Nat) (d : D) (l : Option S) (ρ : Env') : Env' := match l with
  | some (.own b _) => ρ.set i (.own b d)
  | _ => ρ
def ioD (l : Option S) : Option D := match l with
  | some (.own _ d) => some d
  | _ => none
def seqO {γ : Type} (x : Option γ) (y : Option (List γ)) : Option (List γ) := match x, y with
  | some a, some l => some (a :: l)
  | _, _ => none
def okIf {β : Type} (b : Bool) (x : Option β) : Option β := if b = true then x else none
def csO (x : Option D) (y : Option (List D)) : Option (List D) := match x, y with
  | some a, some l => some (a :: l)
  | _, _ => none
def finK (ms : List Mode) (r : R) (ρ : Env') : Option (R × List D) := if isSlot r then none else (match outsOf ms ρ with
    | some o => some (r, o)
    | none => none)
def putK' (ρ4 : Env') (i : Nat) (x : Str) (dv : D) (s : Option S) : Option Out := match s with
  | some (.own b (.dct kvs)) => if kvs.length < sizeLine then some (.nx (ρ4.set i (.own b (.dct (dput kvs x dv))))) else none
  | _ => none
def slotOf (r : R) (ρ : Env') (k : Nat → Option S → Option β) : Option β := match r with
  | .slot i => k i ρ[i]?
  | _ => none
def mu1 (T : String) (s : Option S) (x : Option β) : Option β := match s with
  | some (.own _ d0) => if tyD d0 = T then x else none
  | _ => none
def mu2 (m : D → List D → Option (D × D)) (i : Nat) (ds : List D) (ρ3 : Env') (s : Option S) : Option (R × Env') := match s with
  | some (.own b d) => (match m d ds with
    | some (res, d') => some (.val res, ρ3.set i (.own b d'))
    | none => none)
  | _ => none
def dc1 (s : Option S) (x : Option β) : Option β := match s with
  | some (.own _ (.dct _)) => x
  | _ => none
def dc2 (m : List (Str × D) → Str → D → Option (D × List (Str × D))) (i : Nat) (x : Str) (dx : D) (ρ4 : Env') (s : Option S) : Option (R × Env') := match s with
  | some (.own b (.dct kvs)) => (match m kvs x dx with
    | some (res, kvs') => some (.val res, ρ4.set i (.own b (.dct kvs')))
    | none => none)
  | _ => none
def strO (d : Option D) (k : Str → Option β) : Option β := match d with
  | some (.str x) => k x
  | _ => none
def dctO (d : Option D) (x : Option β) : Option β := match d with
  | some (.dct _) => x
  | _ => none
def get2K (r : Option D) (rk : Option D) (rx : R) (ρ3 : Env') : Option (R × Env') := match r, rk with
  | some (.dct kvs), some (.str x) => (match dget kvs x with
            | some d => some (.val d, ρ3)
            | none => (match frz ρ3 rx with
              | some (d, ρ4) => some (.val d, ρ4)
              | none => none))
  | _, _ => none
def blO (d : Option D) (ρ : Env') : Option (Bool × Env') := match d with
  | some (.bl b) => some (b, ρ)
  | _ => none
def chK (h : D → D → Option R) (r2 : R) (fc : FE) (ρ2 : Env') (x : Option R) : Option (R × Env') := match x with
  | some (.val (.bl true)) => bE (fc ρ2) (fun r3 ρ3 => bO (cont ρ3 r2) fun d => bO (cont ρ3 r3) fun e => bO (h d e) fun x => some (x, ρ3))
  | some (.val (.bl false)) => some (.val (.bl false), ρ2)
  | _ => none
def itK (x : Option (List D × Env')) (y : Option (List D × Env')) : Option (List D × Env') := match x with
  | some z => some z
  | none => y
def newR (r : R) (x : Option β) (k : D → Option β) : Option β := match r with
  | .new d => k d
  | _ => x
def fcons1 (r : R) (k : D → Option β) : Option β := match r with
  | .new d => k d
  | _ => none
def mulK (j : Int) (r : R) (ρ1 : Env') : Option (R × Env') := match r with
  | .new (.lst ds) => if 0 ≤ j ∧ j < 2 ^ 63 ∧ ds.length * j.toNat ≤ sizeLine then some (.new (.lst (List.replicate j.toNat ds).flatten), ρ1) else none
  | _ => none
def putRS (ρ : Env') (i : Nat) (x : Option (D × Env')) : Option Env' := match x with
  | some (d, ρ2) => putV ρ2 i d
  | none => none
def retS (ρ : Env') (i : Nat) (s : Option S) : Option Out := match s with
    | some (.val d) => some (.rt (.val d) ρ)
    | some (.own false d) => some (.rt (.new d) (ρ.set i .unset))
    | _ => none
def foI (d : Option D) (ρ : Env') : Option (Option Int × Env') := match d with
  | some (.int i) => some (some i, ρ)
  | _ => none
def enumK (l : List D) (ρ2 : Env') : Option (List D × Env') := match l with
  | [a] => (match itemsOf a with
      | some as => some (enumD 0 as, ρ2)
      | none => none)
  | _ => none
def lcD (g : FG) (tt : FT) (fe : FE) (vs : List Nat) (ds : List D) (ρ : Env') : Option (List D × Env') := bE (fe ρ) (fun r ρ3 => bDE (frz ρ3 r) fun y ρ4 => bDsE (lcL g tt fe vs ds ρ4) fun ys ρ5 => some (y :: ys, ρ5))
def lcC (g : FG) (tt : FT) (fe : FE) (vs : List Nat) (ds : List D) (ρ : Env') : Option (List D × Env') := bT (tt ρ) (lcD g tt fe vs ds) (lcL g tt fe vs ds)
def bL (g : FG) (b : FS) (ds : List D) (x : Option Out) : Option Out := match x with
  | some (.nx ρ) => forL g b ds ρ
  | some (.ct ρ) => forL g b ds ρ
  | some (.bk ρ) => some (.nx ρ)
  | some (.rt r ρ) => some (.rt r ρ)
  | none => none
def lcK (g : FG) (tt : FT) (fe : FE) (vs : List Nat) (ds : List D) (ρ1 : Env') : Option (R × Env') := if plainAt ρ1 vs = true then bDsE (lcL g tt fe vs ds ρ1) (fun ys ρ2 => if ys.length ≤ sizeLine then some (.new (.lst ys), backS ρ1 vs ρ2) else none) else none
def lcE (vs : List Nat) (o : Option D) (ρ : Env') : Option (Option D × Env') := if plainAt ρ vs = true then some (o, wipeS ρ vs) else none
def lcY (fe : FE) (vs : List Nat) (ρ : Env') : Option (Option D × Env') := bE (fe ρ) (fun r ρ3 => bDE (frz ρ3 r) fun y ρ4 => lcE vs (some y) ρ4)
def lcT (tt : FT) (fe : FE) (vs : List Nat) (ρ : Env') : Option (Option D × Env') := bT (tt ρ) (lcY fe vs) (lcE vs none)
def lcW (g : FG) (tt : FT) (fe : FE) (vs : List Nat) (d : D) (ρ : Env') : Option (Option D × Env') := bO (g d ρ) (lcT tt fe vs)
def slK (r : R) (fl fh : FO) (ρ1 : Env') : Option (R × Env') := match fl ρ1 with
    | some (lo, ρ2) => (match fh ρ2 with
      | some (hi, ρ3) => (match cont ρ3 r with
        | some d => (match gSl d lo hi with
          | some x => some (x, ρ3)
          | none => none)
        | none => none)
      | none => none)
    | none => none
def slK2 (r : R) (fh : FO) (lo : Option Int) (ρ2 : Env') : Option (R × Env') := match fh ρ2 with
      | some (hi, ρ3) => (match cont ρ3 r with
        | some d => (match gSl d lo hi with
          | some x => some (x, ρ3)
          | none => none)
        | none => none)
      | none => none
def muK (m : D → List D → Option (D × D)) (i : Nat) (fa : FA) (ρ : Env') : Option (R × Env') := bA (fa ρ) (fun rs ρ2 => bDsE (frzs ρ2 rs) fun ds ρ3 => mu2 m i ds ρ3 ρ3[i]?)
def mu3 (i : Nat) (b : Bool) (ρ : Env') (x : Option (D × D)) : Option (R × Env') := match x with
  | some (res, d') => some (.val res, ρ.set i (.own b d'))
  | none => none
def dcK2 (m : List (Str × D) → Str → D → Option (D × List (Str × D))) (i : Nat) (rk rx : R) (ρ3 : Env') : Option (R × Env') := strO (cont ρ3 rk) fun x => bDE (frz ρ3 rx) fun dx ρ4 => dc2 m i x dx ρ4 ρ4[i]?
def dcK (m : List (Str × D) → Str → D → Option (D × List (Str × D))) (i : Nat) (fk fx : FE) (ρ : Env') : Option (R × Env') := bEE (fk ρ) fx (dcK2 m i)
def dc3 (i : Nat) (b : Bool) (ρ : Env') (x : Option (D × List (Str × D))) : Option (R × Env') := match x with
  | some (res, kvs') => some (.val res, ρ.set i (.own b (.dct kvs')))
  | none => none
def get2J (r : R) (fk fx : FE) (ρ : Env') : Option (R × Env') := bEE (fk ρ) fx (fun rk rx ρ3 => get2K (cont ρ3 r) (cont ρ3 rk) rx ρ3)
def get2L (x : Option D) (rx : R) (ρ3 : Env') : Option (R × Env') := match x with
  | some d => some (.val d, ρ3)
  | none => bDE (frz ρ3 rx) (fun d ρ4 => some (.val d, ρ4))
def zipK (l : List D) (ρ2 : Env') : Option (List D × Env') := match l with
  | [a, b] => (match itemsOf a, itemsOf b with
      | some as, some bs => some (zipD as bs, ρ2)
      | _, _ => none)
  | _ => none
def rngK (l : Option (List D)) (ρ1 : Env') : Option (List D × Env') := match l with
    | some [.int j] => if -(2 ^ 62) ≤ j ∧ j < 2 ^ 62 then some ((List.range j.toNat).map fun (i : Nat) => D.int (i : Int), ρ1) else none
    | _ => none
def lendS (ρ : Env') (i : Nat) (s : Option S) : Option (D × Env') := match s with
  | some (.val d) => some (d, ρ)
  | some (.own false d) => some (d, ρ.set i (.val d))
  | some (.bor d) => some (d, ρ)
  | _ => none
def itD (d : D) (ρ : Env') : Option (List D × Env') := match itemsOf d with
  | some ds => some (ds, ρ)
  | none => (match keysOf d with
    | some ds => some (ds, ρ)
    | none => none)
def itS (i : Nat) (s : Option S) (ρ : Env') : Option (List D × Env') := match s with
  | some (.val d) => itD d ρ
  | some (.own false d) => itD d (ρ.set i (.val d))
  | some (.bor d) => bO (keysOf d) fun ds => some (ds, ρ)
  | _ => none
def itK1 (r : R) (ρ1 : Env') : Option (List D × Env') := match (bDE (frz ρ1 r) fun d ρ2 => bO (itemsOf d) fun ds => some (ds, ρ2)) with
  | some z => some z
  | none => bDE (lend ρ1 r) fun d ρ2 => bO (keysOf d) fun ds => some (ds, ρ2)
def rmK (g : D → List D → Option R) (r : R) (fa : FA) (ρ : Env') : Option (R × Env') := bA (fa ρ) (fun rs ρ2 => bO (cont ρ2 r) fun d => bO (conts ρ2 rs) fun ds => bO (g d ds) fun x => some (x, ρ2))
def calN (ms : List Mode) (g : List D → Option (R × List D)) (j : Nat) (rs : List R) (ρ1 : Env') (x : Option R) : Option (R × Env') := match x with
    | some (.new d) => bE (callR ms g (rs.set j (.slot ρ1.length)) (ρ1 ++ [.own false d])) (fun r ρ2 => if isSlot r = true then none else some (r, ρ2.take ρ1.length))
    | _ => none
def setdK (kvs : List (Str × D)) (x : Str) (d : D) (o : Option D) : Option (D × List (Str × D)) := match o with
  | some e => if kvs.length < sizeLine then some (e, kvs) else none
  | none => if kvs.length < sizeLine then some (d, dput kvs x d) else none
def popK (kvs : List (Str × D)) (x : Str) (o : Option D) (r : Option D) : Option (D × List (Str × D)) := match r with
  | some e => some (e, ddrop kvs x)
  | none => (match o with
    | some d => some (d, kvs)
    | none => none)
theorem bO_s {β γ : Type} (a : γ) (k : γ → Option β) : bO (some a) k = k a := rfl
theorem bE_s {β : Type} (r : R) (ρ : Env') (k : R → Env' → Option β) : bE (some (r, ρ)) k = k r ρ := rfl
theorem bEE_s {β : Type} (r : R) (ρ : Env') (f : FE) (k : R → R → Env' → Option β) : bEE (some (r, ρ)) f k = bE (f ρ) (k r) := rfl
theorem bEEE_s {β : Type} (r : R) (ρ : Env') (f h : FE) (k : R → R → R → Env' → Option β) : bEEE (some (r, ρ)) f h k = bEE (f ρ) h (k r) := rfl
theorem bA_s {β : Type} (r : List R) (ρ : Env') (k : List R → Env' → Option β) : bA (some (r, ρ)) k = k r ρ := rfl
theorem bEA_s {β : Type} (r : R) (ρ : Env') (f : FA) (k : R → List R → Env' → Option β) : bEA (some (r, ρ)) f k = bA (f ρ) (k r) := rfl
theorem bT_t {β : Type} (ρ : Env') (a b : Env' → Option β) : bT (some (true, ρ)) a b = a ρ := rfl
theorem bT_f {β : Type} (ρ : Env') (a b : Env' → Option β) : bT (some (false, ρ)) a b = b ρ := rfl
theorem bS_nx (ρ : Env') (k : FS) : bS (some (.nx ρ)) k = k ρ := rfl
theorem bS_rt (r : R) (ρ : Env') (k : FS) : bS (some (.rt r ρ)) k = some (.rt r ρ) := rfl
theorem bS_bk (ρ : Env') (k : FS) : bS (some (.bk ρ)) k = some (.bk ρ) := rfl
theorem bS_ct (ρ : Env') (k : FS) : bS (some (.ct ρ)) k = some (.ct ρ) := rfl
theorem bI_s {β : Type} (r : List D) (ρ : Env') (k : List D → Env' → Option β) : bI (some (r, ρ)) k = k r ρ := rfl
theorem bFO_s {β : Type} (r : Option Int) (ρ : Env') (k : Option Int → Env' → Option β) : bFO (some (r, ρ)) k = k r ρ := rfl
theorem bDE_s {β : Type} (r : D) (ρ : Env') (k : D → Env' → Option β) : bDE (some (r, ρ)) k = k r ρ := rfl
theorem bDsE_s {β : Type} (r : List D) (ρ : Env') (k : List D → Env' → Option β) : bDsE (some (r, ρ)) k = k r ρ := rfl
theorem bRL_s {β : Type} (r : R) (ρ : List D) (k : R → List D → Option β) : bRL (some (r, ρ)) k = k r ρ := rfl
theorem noE_e (ρ : Env') : noE ρ = some (false, ρ) := rfl
theorem yesE_e (ρ : Env') : yesE ρ = some (true, ρ) := rfl
theorem tooE_e (b : Bool) (ρ : Env') : tooE b ρ = some (.val (.bl b), ρ) := rfl
theorem cont_v (ρ : Env') (d : D) : cont ρ (.val d) = some d := rfl
theorem cont_n (ρ : Env') (d : D) : cont ρ (.new d) = some d := rfl
theorem cont_s (ρ : Env') (i : Nat) : cont ρ (.slot i) = contS ρ[i]? := rfl
theorem contS_v (d : D) : contS (some (.val d)) = some d := rfl
theorem contS_b (d : D) : contS (some (.bor d)) = some d := rfl
theorem contS_o (b : Bool) (d : D) : contS (some (.own b d)) = some d := rfl
theorem frz_v (ρ : Env') (d : D) : frz ρ (.val d) = some (d, ρ) := rfl
theorem frz_n (ρ : Env') (d : D) : frz ρ (.new d) = some (d, ρ) := rfl
theorem frz_s (ρ : Env') (i : Nat) : frz ρ (.slot i) = frzS ρ i ρ[i]? := rfl
theorem frzS_v (ρ : Env') (i : Nat) (d : D) : frzS ρ i (some (.val d)) = some (d, ρ) := rfl
theorem frzS_o (ρ : Env') (i : Nat) (d : D) : frzS ρ i (some (.own false d)) = some (d, ρ.set i (.val d)) := rfl
theorem frzS_b (ρ : Env') (i : Nat) (d : D) : frzS ρ i (some (.bor d)) = none := rfl
theorem frzS_i (ρ : Env') (i : Nat) (d : D) : frzS ρ i (some (.own true d)) = none := rfl
theorem sV_v (i : Nat) (ρ : Env') (d : D) : sV i ρ (some (.val d)) = some (.val d, ρ) := rfl
theorem sV_b (i : Nat) (ρ : Env') (d : D) : sV i ρ (some (.bor d)) = some (.slot i, ρ) := rfl
theorem sV_o (i : Nat) (ρ : Env') (b : Bool) (d : D) : sV i ρ (some (.own b d)) = some (.slot i, ρ) := rfl
theorem fVar_e (i : Nat) (ρ : Env') : fVar i ρ = sV i ρ ρ[i]? := rfl
theorem fC_e (d : D) (ρ : Env') : fC d ρ = some (.val d, ρ) := rfl
theorem fDct_e (ρ : Env') : fDct ρ = some (.new (.dct []), ρ) := rfl
theorem f1_e (g : D → Option R) (fa : FE) (ρ : Env') : f1 g fa ρ = bE (fa ρ) (fun r ρ1 => bO (cont ρ1 r) fun d => bO (g d) fun x => some (x, ρ1)) := by
  simp only [f1, bE, bEE, bEEE, bA, bEA, bO, bDE, bDsE, bFO]
  repeat' split
  all_goals first | rfl | simp_all
theorem f2_e (g : D → D → Option R) (fa fb : FE) (ρ : Env') : f2 g fa fb ρ = bEE (fa ρ) fb (fun r1 r2 ρ2 => bO (cont ρ2 r1) fun d => bO (cont ρ2 r2) fun e => bO (g d e) fun x => some (x, ρ2)) := by
  simp only [f2, bE, bEE, bEEE, bA, bEA, bO, bDE, bDsE, bFO]
  repeat' split
  all_goals first | rfl | simp_all
theorem fNil_e (ρ : Env') : fNil ρ = some ([], ρ) := rfl
theorem fCons_e (fa : FE) (fr : FA) (ρ : Env') : fCons fa fr ρ = bEA (fa ρ) fr (fun r rs ρ2 => some (r :: rs, ρ2)) := rfl
theorem conts_n (ρ : Env') : conts ρ [] = some [] := rfl
theorem conts_c (ρ : Env') (r : R) (rs : List R) : conts ρ (r :: rs) = csO (cont ρ r) (conts ρ rs) := rfl
theorem csO_s (d : D) (ds : List D) : csO (some d) (some ds) = some (d :: ds) := rfl
theorem frzs_n (ρ : Env') : frzs ρ [] = some ([], ρ) := rfl
theorem frzs_c (ρ : Env') (r : R) (rs : List R) : frzs ρ (r :: rs) = bDE (frz ρ r) (fun d ρ1 => bDsE (frzs ρ1 rs) (fun ds ρ2 => some (d :: ds, ρ2))) := rfl
theorem fN_e (g : List D → Option R) (fa : FA) (ρ : Env') : fN g fa ρ = bA (fa ρ) (fun rs ρ1 => bO (conts ρ1 rs) fun ds => bO (g ds) fun x => some (x, ρ1)) := by
  simp only [fN, bE, bEE, bEEE, bA, bEA, bO, bDE, bDsE, bFO]
  repeat' split
  all_goals first | rfl | simp_all
theorem fTup_e (fa : FA) (ρ : Env') : fTup fa ρ = bA (fa ρ) (fun rs ρ1 => bDsE (frzs ρ1 rs) fun ds ρ2 => if ds.length ≤ sizeLine then some (.val (.tup ds), ρ2) else none) := rfl
theorem fLst_e (fa : FA) (ρ : Env') : fLst fa ρ = bA (fa ρ) (fun rs ρ1 => bDsE (frzs ρ1 rs) fun ds ρ2 => if ds.length ≤ sizeLine then some (.new (.lst ds), ρ2) else none) := rfl
theorem asB_e (ρ : Env') (r : R) : asB ρ r = blO (cont ρ r) ρ := by unfold asB blO; rfl
theorem blO_s (b : Bool) (ρ : Env') : blO (some (.bl b)) ρ = some (b, ρ) := rfl
theorem fB_e (fa : FE) (ρ : Env') : fB fa ρ = bE (fa ρ) (fun r ρ1 => asB ρ1 r) := rfl
theorem fNotT_e (g : FT) (ρ : Env') : fNotT g ρ = bT (g ρ) noE yesE := by unfold fNotT bT; rcases g ρ with _ | ⟨_ | _, ρ1⟩ <;> rfl
theorem fAndT_e (g h : FT) (ρ : Env') : fAndT g h ρ = bT (g ρ) h noE := by unfold fAndT bT; rcases g ρ with _ | ⟨_ | _, ρ1⟩ <;> rfl
theorem fOrT_e (g h : FT) (ρ : Env') : fOrT g h ρ = bT (g ρ) yesE h := by unfold fOrT bT; rcases g ρ with _ | ⟨_ | _, ρ1⟩ <;> rfl
theorem fAnd_e (fa fb : FE) (ρ : Env') : fAnd fa fb ρ = bT (fB fa ρ) fb (tooE false) := by unfold fAnd bT; rcases fB fa ρ with _ | ⟨_ | _, ρ1⟩ <;> rfl
theorem fOr_e (fa fb : FE) (ρ : Env') : fOr fa fb ρ = bT (fB fa ρ) (tooE true) fb := by unfold fOr bT; rcases fB fa ρ with _ | ⟨_ | _, ρ1⟩ <;> rfl
theorem fNot_e (fa : FE) (ρ : Env') : fNot fa ρ = bT (fB fa ρ) (tooE false) (tooE true) := by unfold fNot bT; rcases fB fa ρ with _ | ⟨_ | _, ρ1⟩ <;> rfl
theorem fIfE_e (g : FT) (fa fb : FE) (ρ : Env') : fIfE g fa fb ρ = bT (g ρ) fa fb := by unfold fIfE bT; rcases g ρ with _ | ⟨_ | _, ρ1⟩ <;> rfl
theorem ftYes_e (ρ : Env') : ftYes ρ = some (true, ρ) := rfl
theorem fChain_e (g h : D → D → Option R) (fa fb fc : FE) (ρ : Env') : fChain g h fa fb fc ρ = bEE (fa ρ) fb (fun r1 r2 ρ2 => bO (cont ρ2 r1) fun d => bO (cont ρ2 r2) fun e => chK h r2 fc ρ2 (g d e)) := by
  simp only [fChain, chK, f2, bE, bEE, bEEE, bA, bEA, bO, bDE, bDsE, bFO]
  repeat' split
  all_goals first | rfl | simp_all
theorem chK_t (h : D → D → Option R) (r2 : R) (fc : FE) (ρ2 : Env') : chK h r2 fc ρ2 (some (.val (.bl true))) = bE (fc ρ2) (fun r3 ρ3 => bO (cont ρ3 r2) fun d => bO (cont ρ3 r3) fun e => bO (h d e) fun x => some (x, ρ3)) := rfl
theorem chK_f (h : D → D → Option R) (r2 : R) (fc : FE) (ρ2 : Env') : chK h r2 fc ρ2 (some (.val (.bl false))) = some (.val (.bl false), ρ2) := rfl
theorem sNext_e (ρ : Env') : sNext ρ = some (.nx ρ) := rfl
theorem sBreak_e (ρ : Env') : sBreak ρ = some (.bk ρ) := rfl
theorem sCont_e (ρ : Env') : sCont ρ = some (.ct ρ) := rfl
theorem sSeq_e (g h : FS) (ρ : Env') : sSeq g h ρ = bS (g ρ) h := by unfold sSeq bS; rcases g ρ with _ | _ | _ | _ | _ <;> rfl
theorem sIf_e (c : FT) (g h : FS) (ρ : Env') : sIf c g h ρ = bT (c ρ) g h := by unfold sIf bT; rcases c ρ with _ | ⟨_ | _, ρ1⟩ <;> rfl
theorem sDrop_e (fa : FE) (ρ : Env') : sDrop fa ρ = bE (fa ρ) (fun _ ρ1 => some (.nx ρ1)) := rfl
theorem isIo_t (d : D) : isIo (some (.own true d)) = true := rfl
theorem isIo_f (d : D) : isIo (some (.own false d)) = false := rfl
theorem isIo_v (d : D) : isIo (some (.val d)) = false := rfl
theorem isIo_b (d : D) : isIo (some (.bor d)) = false := rfl
theorem isIo_u : isIo (some .unset) = false := rfl
theorem putV_e (ρ : Env') (i : Nat) (d : D) : putV ρ i d = if isIo ρ[i]? = true then none else some (ρ.set i (.val d)) := rfl
theorem putR_v (ρ : Env') (i : Nat) (d : D) : putR ρ i (.val d) = putV ρ i d := rfl
theorem putR_n (ρ : Env') (i : Nat) (d : D) : putR ρ i (.new d) = if isIo ρ[i]? = true then none else some (ρ.set i (.own false d)) := rfl
theorem putR_s (ρ : Env') (i j : Nat) : putR ρ i (.slot j) = putRS ρ i (frz ρ (.slot j)) := by unfold putR putRS; rfl
theorem putRS_s (ρ ρ2 : Env') (i : Nat) (d : D) : putRS ρ i (some (d, ρ2)) = putV ρ2 i d := rfl
theorem sSet_e (i : Nat) (fa : FE) (ρ : Env') : sSet i fa ρ = bE (fa ρ) (fun r ρ1 => bO (putR ρ1 i r) fun ρ2 => some (.nx ρ2)) := by
  unfold sSet bE
  rcases fa ρ with _ | ⟨r, ρ1⟩
  · rfl
  dsimp only [bO]
  rcases putR ρ1 i r with _ | ρ2 <;> rfl
theorem retR_v (ρ : Env') (d : D) : retR ρ (.val d) = some (.rt (.val d) ρ) := rfl
theorem retR_n (ρ : Env') (d : D) : retR ρ (.new d) = some (.rt (.new d) ρ) := rfl
theorem retR_s (ρ : Env') (i : Nat) : retR ρ (.slot i) = retS ρ i ρ[i]? := by unfold retR retS; rfl
theorem retS_v (ρ : Env') (i : Nat) (d : D) : retS ρ i (some (.val d)) = some (.rt (.val d) ρ) := rfl
theorem retS_o (ρ : Env') (i : Nat) (d : D) : retS ρ i (some (.own false d)) = some (.rt (.new d) (ρ.set i .unset)) := rfl
theorem sRet_e (fa : FE) (ρ : Env') : sRet fa ρ = bE (fa ρ) (fun r ρ1 => retR ρ1 r) := rfl
theorem sRetN_e (ρ : Env') : sRetN ρ = some (.rt (.val .non) ρ) := rfl
theorem sPut_e (fd fk fv : FE) (ρ : Env') : sPut fd fk fv ρ = bEEE (fv ρ) fd fk (fun rv rd rk ρ3 => slotOf rd ρ3 fun i _ => strO (cont ρ3 rk) fun x => bDE (frz ρ3 rv) fun dv ρ4 => putK' ρ4 i x dv ρ4[i]?) := by
  unfold sPut bEEE bEE bE
  rcases fv ρ with _ | ⟨rv, ρ1⟩
  · rfl
  dsimp only
  rcases fd ρ1 with _ | ⟨rd, ρ2⟩
  · rfl
  cases rd with
  | val d => dsimp only [slotOf]; rcases fk ρ2 with _ | ⟨rk, ρ3⟩ <;> rfl
  | new d => dsimp only [slotOf]; rcases fk ρ2 with _ | ⟨rk, ρ3⟩ <;> rfl
  | slot i =>
    dsimp only [slotOf]
    rcases fk ρ2 with _ | ⟨rk, ρ3⟩
    · rfl
    dsimp only [strO]
    rcases cont ρ3 rk with _ | dk
    · rfl
    cases dk <;> rfl
theorem slotOf_s {β : Type} (i : Nat) (ρ : Env') (k : Nat → Option S → Option β) : slotOf (.slot i) ρ k = k i ρ[i]? := rfl
theorem strO_s {β : Type} (x : Str) (k : Str → Option β) : strO (some (.str x)) k = k x := rfl
theorem putK_e (ρ4 : Env') (i : Nat) (x : Str) (dv : D) (b : Bool) (kvs : List (Str × D)) : putK' ρ4 i x dv (some (.own b (.dct kvs))) = if kvs.length < sizeLine then some (.nx (ρ4.set i (.own b (.dct (dput kvs x dv))))) else none := rfl
theorem outs_n (ρ : Env') : outsOf [] ρ = some [] := rfl
theorem outs_io (ms : List Mode) (d : D) (ρ : Env') : outsOf (.io :: ms) (.own true d :: ρ) = bO (outsOf ms ρ) (fun ds => some (d :: ds)) := by
  simp only [outsOf, bO]
  repeat' split
  all_goals first | rfl | simp_all
theorem outs_v (ms : List Mode) (s : S) (ρ : Env') : outsOf (.val :: ms) (s :: ρ) = outsOf ms ρ := by rw [outsOf]
theorem outs_b (ms : List Mode) (s : S) (ρ : Env') : outsOf (.bor :: ms) (s :: ρ) = outsOf ms ρ := by rw [outsOf]
theorem fin_nx (ms : List Mode) (ρ : Env') : finD ms (some (.nx ρ)) = bO (outsOf ms ρ) (fun o => some (.val .non, o)) := by
  simp only [finD, bO]
  repeat' split
  all_goals first | rfl | simp_all
theorem fin_v (ms : List Mode) (d : D) (ρ : Env') : finD ms (some (.rt (.val d) ρ)) = bO (outsOf ms ρ) (fun o => some (.val d, o)) := by unfold finD bO; simp only [isSlot]; rcases outsOf ms ρ with _ | o <;> rfl
theorem fin_n (ms : List Mode) (d : D) (ρ : Env') : finD ms (some (.rt (.new d) ρ)) = bO (outsOf ms ρ) (fun o => some (.new d, o)) := by unfold finD bO; simp only [isSlot]; rcases outsOf ms ρ with _ | o <;> rfl
theorem frzV_vv (ms : List Mode) (d : D) (rs : List R) (ρ : Env') : frzV (.val :: ms) (.val d :: rs) ρ = frzV ms rs ρ := by rw [frzV]; rfl
theorem frzV_vn (ms : List Mode) (d : D) (rs : List R) (ρ : Env') : frzV (.val :: ms) (.new d :: rs) ρ = frzV ms rs ρ := by rw [frzV]; rfl
theorem frzV_vs (ms : List Mode) (i : Nat) (rs : List R) (ρ : Env') : frzV (.val :: ms) (.slot i :: rs) ρ = frzS2 i ρ[i]? ms rs ρ := by
  rw [frzV]
  show (match frzS ρ i ρ[i]? with
    | some (_, ρ1) => frzV ms rs ρ1
    | none => frzV ms rs ρ) = _
  unfold frzS frzS2
  rcases ρ[i]? with _ | s
  · rfl
  rcases s with _ | _ | _ | ⟨_ | _, _⟩ <;> rfl
theorem frzS2_o (i : Nat) (d : D) (ms : List Mode) (rs : List R) (ρ : Env') : frzS2 i (some (.own false d)) ms rs ρ = frzV ms rs (ρ.set i (.val d)) := rfl
theorem frzS2_v (i : Nat) (d : D) (ms : List Mode) (rs : List R) (ρ : Env') : frzS2 i (some (.val d)) ms rs ρ = frzV ms rs ρ := rfl
theorem frzS2_b (i : Nat) (d : D) (ms : List Mode) (rs : List R) (ρ : Env') : frzS2 i (some (.bor d)) ms rs ρ = frzV ms rs ρ := rfl
theorem frzV_b (ms : List Mode) (r : R) (rs : List R) (ρ : Env') : frzV (.bor :: ms) (r :: rs) ρ = frzV ms rs ρ := by rw [frzV]; exact fun z => nomatch z
theorem frzV_i (ms : List Mode) (r : R) (rs : List R) (ρ : Env') : frzV (.io :: ms) (r :: rs) ρ = frzV ms rs ρ := by rw [frzV]; exact fun z => nomatch z
theorem frzV_0 (ρ : Env') : frzV [] [] ρ = ρ := by rw [frzV] <;> intros <;> contradiction
theorem rsv1_vv (ρ : Env') (d : D) : rsv1 ρ .val (.val d) = some d := rfl
theorem rsv1_vn (ρ : Env') (d : D) : rsv1 ρ .val (.new d) = some d := rfl
theorem rsv1_vs (ρ : Env') (i : Nat) : rsv1 ρ .val (.slot i) = sub1 ρ[i]? := rfl
theorem sub1_v (d : D) : sub1 (some (.val d)) = some d := rfl
theorem rsv1_b (ρ : Env') (r : R) : rsv1 ρ .bor r = cont ρ r := by unfold rsv1; cases r <;> rfl
theorem rsv1_i (ρ : Env') (i : Nat) : rsv1 ρ .io (.slot i) = ioD ρ[i]? := rfl
theorem ioD_o (b : Bool) (d : D) : ioD (some (.own b d)) = some d := rfl
theorem rsv_0 (ρ : Env') : rsv ρ [] [] = some [] := rfl
theorem rsv_c (ρ : Env') (m : Mode) (ms : List Mode) (r : R) (rs : List R) : rsv ρ (m :: ms) (r :: rs) = csO (rsv1 ρ m r) (rsv ρ ms rs) := rfl
theorem ioS_i (ms : List Mode) (i : Nat) (rs : List R) : ioS (.io :: ms) (.slot i :: rs) = i :: ioS ms rs := by rw [ioS]
theorem ioS_v (ms : List Mode) (r : R) (rs : List R) : ioS (.val :: ms) (r :: rs) = ioS ms rs := by rw [ioS]; intros; contradiction
theorem ioS_b (ms : List Mode) (r : R) (rs : List R) : ioS (.bor :: ms) (r :: rs) = ioS ms rs := by rw [ioS]; intros; contradiction
theorem ioS_0 : ioS [] [] = [] := rfl
theorem borOk_b (is : List Nat) (ms : List Mode) (i : Nat) (rs : List R) : borOk is (.bor :: ms) (.slot i :: rs) = (!is.contains i && borOk is ms rs) := rfl
theorem borOk_bv (is : List Nat) (ms : List Mode) (d : D) (rs : List R) : borOk is (.bor :: ms) (.val d :: rs) = borOk is ms rs := rfl
theorem borOk_bn (is : List Nat) (ms : List Mode) (d : D) (rs : List R) : borOk is (.bor :: ms) (.new d :: rs) = borOk is ms rs := rfl
theorem borOk_v (is : List Nat) (ms : List Mode) (r : R) (rs : List R) : borOk is (.val :: ms) (r :: rs) = borOk is ms rs := rfl
theorem borOk_i (is : List Nat) (ms : List Mode) (r : R) (rs : List R) : borOk is (.io :: ms) (r :: rs) = borOk is ms rs := rfl
theorem borOk_0 (is : List Nat) : borOk is [] [] = true := rfl
theorem wb_0 (ρ : Env') : wb ρ [] [] = ρ := rfl
theorem wb_c (ρ : Env') (i : Nat) (is : List Nat) (d : D) (ds : List D) : wb ρ (i :: is) (d :: ds) = wb (wbS i d ρ[i]? ρ) is ds := by
  simp only [wb, setOwn, wbS]
  repeat' split
  all_goals first | rfl | simp_all
theorem wbS_o (i : Nat) (d d' : D) (b : Bool) (ρ : Env') : wbS i d (some (.own b d')) ρ = ρ.set i (.own b d) := rfl
theorem fCall_e (ms : List Mode) (g : List D → Option (R × List D)) (fa : FA) (ρ : Env') : fCall ms g fa ρ = bA (fa ρ) (callR ms g) := by
  simp only [fCall, callR, bE, bEE, bEEE, bA, bEA, bO, bDE, bDsE, bFO]
  repeat' split
  all_goals first | rfl | simp_all
theorem callR_e (ms : List Mode) (g : List D → Option (R × List D)) (rs : List R) (ρ : Env') : callR ms g rs ρ = bO (rsv (frzV ms rs ρ) ms rs) fun ds => if (ioS ms rs).Nodup ∧ borOk (ioS ms rs) ms rs = true then bRL (g ds) (fun r os => if os.length = (ioS ms rs).length then some (r, wb (frzV ms rs ρ) (ioS ms rs) os) else none) else none := by
  simp only [callR, bRL, bO]
  repeat' split
  all_goals first | rfl | simp_all
theorem fgName_e (i : Nat) (d : D) (ρ : Env') : fgName i d ρ = putV ρ i d := rfl
theorem fgNil_e (ρ : Env') : fgNil [] ρ = some ρ := rfl
theorem fgCons_e (g : FG) (h : FGs) (d : D) (ds : List D) (ρ : Env') : fgCons g h (d :: ds) ρ = bO (g d ρ) (h ds) := by
  simp only [fgCons, bO]
  repeat' split
  all_goals first | rfl | simp_all
theorem fgTup_e (n : Nat) (g : FGs) (ds : List D) (ρ : Env') : fgTup n g (.tup ds) ρ = if ds.length = n then g ds ρ else none := rfl
theorem sAsg_e (fa : FE) (g : FG) (ρ : Env') : sAsg fa g ρ = bE (fa ρ) (fun r ρ1 => bDE (frz ρ1 r) fun d ρ2 => bO (g d ρ2) fun ρ3 => some (.nx ρ3)) := by
  simp only [sAsg, bE, bEE, bEEE, bA, bEA, bO, bDE, bDsE, bFO]
  repeat' split
  all_goals first | rfl | simp_all
theorem items_t (ds : List D) : itemsOf (.tup ds) = some ds := rfl
theorem items_l (ds : List D) : itemsOf (.lst ds) = some ds := rfl
theorem items_s (z : Str) : itemsOf (.str z) = some (signs z) := rfl
theorem items_d (kvs : List (Str × D)) : itemsOf (.dct kvs) = none := rfl
theorem fIt_e (fa : FE) (ρ : Env') : fIt fa ρ = bE (fa ρ) (fun r ρ1 => bDE (frz ρ1 r) fun d ρ2 => bO (itemsOf d) fun ds => some (ds, ρ2)) := by
  simp only [fIt, bE, bEE, bEEE, bA, bEA, bO, bDE, bDsE, bFO]
  repeat' split
  all_goals first | rfl | simp_all
theorem fKeys_e (fa : FE) (ρ : Env') : fKeys fa ρ = bE (fa ρ) (fun r ρ1 => bDE (lend ρ1 r) fun d ρ2 => bO (keysOf d) fun ds => some (ds, ρ2)) := by
  simp only [fKeys, bE, bEE, bEEE, bA, bEA, bO, bDE, bDsE, bFO]
  repeat' split
  all_goals first | rfl | simp_all
theorem sFor_e (fi : FI) (g : FG) (b : FS) (ρ : Env') : sFor fi g b ρ = bI (fi ρ) (forL g b) := rfl
theorem forL_n (g : FG) (b : FS) (ρ : Env') : forL g b [] ρ = some (.nx ρ) := rfl
theorem fSl_e (fe : FE) (fl fh : FO) (ρ : Env') : fSl fe fl fh ρ = bE (fe ρ) (fun r ρ1 => slK r fl fh ρ1) := by
  simp only [fSl, slK, bE, bEE, bEEE, bA, bEA, bO, bDE, bDsE, bFO]
  repeat' split
  all_goals first | rfl | simp_all
theorem slK_e (r : R) (fl fh : FO) (ρ : Env') : slK r fl fh ρ = bFO (fl ρ) (slK2 r fh) := by
  simp only [slK, slK2, bE, bEE, bEEE, bA, bEA, bO, bDE, bDsE, bFO]
  repeat' split
  all_goals first | rfl | simp_all
theorem slK2_e (r : R) (fh : FO) (lo : Option Int) (ρ : Env') : slK2 r fh lo ρ = bFO (fh ρ) (fun hi ρ3 => bO (cont ρ3 r) fun d => bO (gSl d lo hi) fun x => some (x, ρ3)) := by
  simp only [slK2, bE, bEE, bEEE, bA, bEA, bO, bDE, bDsE, bFO]
  repeat' split
  all_goals first | rfl | simp_all
theorem foNone_e (ρ : Env') : foNone ρ = some (none, ρ) := rfl
theorem foSome_e (fa : FE) (ρ : Env') : foSome fa ρ = bE (fa ρ) (fun r ρ1 => foI (cont ρ1 r) ρ1) := by
  simp only [foSome, foI, bE, bEE, bEEE, bA, bEA, bO, bDE, bDsE, bFO]
  repeat' split
  all_goals first | rfl | simp_all
theorem foI_s (i : Int) (ρ : Env') : foI (some (.int i)) ρ = some (some i, ρ) := rfl
theorem fMu_e (T : String) (m : D → List D → Option (D × D)) (fo : FE) (fa : FA) (ρ : Env') : fMu T m fo fa ρ = bE (fo ρ) (fun r ρ1 => slotOf r ρ1 fun i s => mu1 T s (muK m i fa ρ1)) := by
  simp only [fMu, slotOf, mu1, muK, mu2, bE, bEE, bEEE, bA, bEA, bO, bDE, bDsE, bFO]
  repeat' split
  all_goals first | rfl | simp_all
theorem mu1_e {β : Type} (T : String) (b : Bool) (d : D) (x : Option β) : mu1 T (some (.own b d)) x = okIf (tyD d == T) x := by unfold mu1 okIf; simp only [beq_iff_eq]
theorem muK_e (m : D → List D → Option (D × D)) (i : Nat) (fa : FA) (ρ : Env') : muK m i fa ρ = bA (fa ρ) (fun rs ρ2 => bDsE (frzs ρ2 rs) fun ds ρ3 => mu2 m i ds ρ3 ρ3[i]?) := rfl
theorem mu2_e (m : D → List D → Option (D × D)) (i : Nat) (ds : List D) (ρ : Env') (b : Bool) (d : D) : mu2 m i ds ρ (some (.own b d)) = mu3 i b ρ (m d ds) := by unfold mu2 mu3; rfl
theorem mu3_e (i : Nat) (b : Bool) (ρ : Env') (res d' : D) : mu3 i b ρ (some (res, d')) = some (.val res, ρ.set i (.own b d')) := rfl
theorem tyD_l (l : List D) : tyD (.lst l) = "list" := rfl
theorem tyD_d (l : List (Str × D)) : tyD (.dct l) = "dict" := rfl
theorem okIf_e {β : Type} (x : Option β) : okIf true x = x := rfl
theorem mAppend_e (xs : List D) (d : D) : mAppend (.lst xs) [d] = if xs.length < sizeLine then some (.non, .lst (xs ++ [d])) else none := rfl
theorem mExtend_e (xs ys : List D) : mExtend (.lst xs) [.lst ys] = if xs.length + ys.length ≤ sizeLine then some (.non, .lst (xs ++ ys)) else none := rfl
theorem fD2_e (m : List (Str × D) → Str → D → Option (D × List (Str × D))) (fo fk fx : FE) (ρ : Env') : fD2 m fo fk fx ρ = bE (fo ρ) (fun r ρ1 => slotOf r ρ1 fun i s => dc1 s (dcK m i fk fx ρ1)) := by
  simp only [fD2, slotOf, dc1, dcK, dcK2, strO, dc2, bE, bEE, bEEE, bA, bEA, bO, bDE, bDsE, bFO]
  repeat' split
  all_goals first | rfl | simp_all
theorem dc1_e {β : Type} (b : Bool) (kvs : List (Str × D)) (x : Option β) : dc1 (some (.own b (.dct kvs))) x = x := rfl
theorem dcK_e (m : List (Str × D) → Str → D → Option (D × List (Str × D))) (i : Nat) (fk fx : FE) (ρ : Env') : dcK m i fk fx ρ = bEE (fk ρ) fx (dcK2 m i) := rfl
theorem dcK2_e (m : List (Str × D) → Str → D → Option (D × List (Str × D))) (i : Nat) (rk rx : R) (ρ3 : Env') : dcK2 m i rk rx ρ3 = strO (cont ρ3 rk) fun x => bDE (frz ρ3 rx) fun dx ρ4 => dc2 m i x dx ρ4 ρ4[i]? := rfl
theorem dc2_e (m : List (Str × D) → Str → D → Option (D × List (Str × D))) (i : Nat) (x : Str) (dx : D) (ρ4 : Env') (b : Bool) (kvs : List (Str × D)) : dc2 m i x dx ρ4 (some (.own b (.dct kvs))) = dc3 i b ρ4 (m kvs x dx) := by unfold dc2 dc3; rfl
theorem dc3_e (i : Nat) (b : Bool) (ρ : Env') (res : D) (kvs' : List (Str × D)) : dc3 i b ρ (some (res, kvs')) = some (.val res, ρ.set i (.own b (.dct kvs'))) := rfl
theorem fGet2_e (fo fk fx : FE) (ρ : Env') : fGet2 fo fk fx ρ = bE (fo ρ) (fun r ρ1 => dctO (cont ρ1 r) (get2J r fk fx ρ1)) := by
  simp only [fGet2, dctO, get2J, get2K, bE, bEE, bEEE, bA, bEA, bO, bDE, bDsE, bFO]
  repeat' split
  all_goals first | rfl | simp_all
theorem dctO_s {β : Type} (kvs : List (Str × D)) (x : Option β) : dctO (some (.dct kvs)) x = x := rfl
theorem get2J_e (r : R) (fk fx : FE) (ρ : Env') : get2J r fk fx ρ = bEE (fk ρ) fx (fun rk rx ρ3 => get2K (cont ρ3 r) (cont ρ3 rk) rx ρ3) := rfl
theorem get2K_e (kvs : List (Str × D)) (x : Str) (rx : R) (ρ3 : Env') : get2K (some (.dct kvs)) (some (.str x)) rx ρ3 = get2L (dget kvs x) rx ρ3 := by
  simp only [get2K, get2L, bDE]
  repeat' split
  all_goals first | rfl | simp_all
theorem get2L_s (d : D) (rx : R) (ρ3 : Env') : get2L (some d) rx ρ3 = some (.val d, ρ3) := rfl
theorem get2L_n (rx : R) (ρ3 : Env') : get2L none rx ρ3 = bDE (frz ρ3 rx) (fun d ρ4 => some (.val d, ρ4)) := rfl
theorem fZip_e (fa : FA) (ρ : Env') : fZip fa ρ = bA (fa ρ) (fun rs ρ1 => bDsE (frzs ρ1 rs) zipK) := by
  unfold fZip bA
  rcases fa ρ with _ | ⟨rs, ρ1⟩
  · rfl
  dsimp only [bDsE]
  rcases frzs ρ1 rs with _ | ⟨ds, ρ2⟩
  · rfl
  rcases ds with _ | ⟨a, _ | ⟨b, _ | ⟨c, l⟩⟩⟩
  · rfl
  · rfl
  · dsimp only [zipK] <;> rcases itemsOf a with _ | x <;> rcases itemsOf b with _ | y <;> rfl
  · rfl
theorem zipK_e (a b : D) (ρ : Env') : zipK [a, b] ρ = bO (itemsOf a) fun as => bO (itemsOf b) fun bs => some (zipD as bs, ρ) := by
  simp only [zipK, bO]
  repeat' split
  all_goals first | rfl | simp_all
theorem fRng1_e (fa : FA) (ρ : Env') : fRng1 fa ρ = bA (fa ρ) (fun rs ρ1 => rngK (conts ρ1 rs) ρ1) := by unfold fRng1 bA rngK; rfl
theorem rngK_e (j : Int) (ρ : Env') : rngK (some [.int j]) ρ = if -(2 ^ 62) ≤ j ∧ j < 2 ^ 62 then some ((List.range j.toNat).map fun (i : Nat) => D.int (i : Int), ρ) else none := rfl
theorem fEnum_e (fa : FA) (ρ : Env') : fEnum fa ρ = bA (fa ρ) (fun rs ρ1 => bDsE (frzs ρ1 rs) enumK) := by
  unfold fEnum bA
  rcases fa ρ with _ | ⟨rs, ρ1⟩
  · rfl
  dsimp only [bDsE]
  rcases frzs ρ1 rs with _ | ⟨ds, ρ2⟩
  · rfl
  rcases ds with _ | ⟨a, _ | ⟨b, l⟩⟩
  · rfl
  · dsimp only [enumK] <;> rcases itemsOf a with _ | z <;> rfl
  · rfl
theorem enumK_t (l : List D) (ρ : Env') : enumK [.tup l] ρ = some (enumD 0 l, ρ) := rfl
theorem enumK_l (l : List D) (ρ : Env') : enumK [.lst l] ρ = some (enumD 0 l, ρ) := rfl
theorem gRev_t (l : List D) : gRev (.tup l) = some (.val (.tup l.reverse)) := rfl
theorem gRev_l (l : List D) : gRev (.lst l) = some (.new (.lst l.reverse)) := rfl
theorem gEqS_b (f : Bool → Bool) (x y : Bool) : gEqS f (.bl x) (.bl y) = some (.val (.bl (f (x == y)))) := by cases x <;> cases y <;> rfl
theorem gEqS_sn (f : Bool → Bool) (x : Str) (h : PyData.strOk x = true) : gEqS f (.str x) .non = some (.val (.bl (f false))) := by
  show gEqB f (.str x) .non = _
  unfold gEqB
  have : SeqAt.shaped (.str x) = true := by show (PyData.strOk x && true) = true; rw [h]; rfl
  simp only [toPy, this]
  rfl
theorem mDUpdate_e (kvs more : List (Str × D)) : mDUpdate (.dct kvs) [.dct more] = if kvs.length + more.length ≤ sizeLine then some (.non, .dct (dmerge kvs more)) else none := rfl
theorem sWhile_e (n : Nat) (c : FT) (b : FS) (ρ : Env') : sWhile n c b ρ = whileL c b n ρ := rfl
theorem gEqDct_e (f : Bool → Bool) (ka kb : List (Str × D)) : gEqDct f (.dct ka) (.dct kb) = bO (hitsD kb ka) fun r => some (.val (.bl (f (ka.length == kb.length && r)))) := by
  show (match hitsD kb ka with | some r => some (R.val (D.bl (f (ka.length == kb.length && r)))) | none => none) = _
  unfold bO
  rcases hitsD kb ka with _ | r <;> rfl
theorem keysOf_d (kvs : List (Str × D)) : keysOf (.dct kvs) = some (kvs.map fun kv => .str kv.1) := rfl
theorem lend_v (ρ : Env') (d : D) : lend ρ (.val d) = some (d, ρ) := rfl
theorem lend_n (ρ : Env') (d : D) : lend ρ (.new d) = some (d, ρ) := rfl
theorem lend_s (ρ : Env') (i : Nat) : lend ρ (.slot i) = lendS ρ i ρ[i]? := by
  simp only [lend, lendS, frz, frzS]
  repeat' split
  all_goals first | rfl | simp_all
theorem lendS_v (ρ : Env') (i : Nat) (d : D) : lendS ρ i (some (.val d)) = some (d, ρ) := rfl
theorem lendS_o (ρ : Env') (i : Nat) (d : D) : lendS ρ i (some (.own false d)) = some (d, ρ.set i (.val d)) := rfl
theorem lendS_b (ρ : Env') (i : Nat) (d : D) : lendS ρ i (some (.bor d)) = some (d, ρ) := rfl
theorem fItK_e (fa : FE) (ρ : Env') : fItK fa ρ = bE (fa ρ) itK1 := by
  unfold fItK fIt fKeys bE itK1 bDE
  rcases fa ρ with _ | ⟨r, ρ1⟩
  · rfl
  dsimp only [bO]
  rcases frz ρ1 r with _ | ⟨d, ρ2⟩
  · dsimp only
    rcases lend ρ1 r with _ | ⟨d, ρ2⟩
    · rfl
    · dsimp only
      rcases keysOf d with _ | z <;> rfl
  dsimp only
  rcases itemsOf d with _ | ds
  · dsimp only
    rcases lend ρ1 r with _ | ⟨d, ρ2⟩
    · rfl
    · dsimp only
      rcases keysOf d with _ | z <;> rfl
  rfl
theorem itK1_v (d : D) (ρ : Env') : itK1 (.val d) ρ = itD d ρ := by
  simp only [itK1, itD, frz, lend, bDE, bO]
  repeat' split
  all_goals first | rfl | simp_all
theorem itK1_n (d : D) (ρ : Env') : itK1 (.new d) ρ = itD d ρ := by
  simp only [itK1, itD, frz, lend, bDE, bO]
  repeat' split
  all_goals first | rfl | simp_all
theorem itK1_s (i : Nat) (ρ : Env') : itK1 (.slot i) ρ = itS i ρ[i]? ρ := by
  unfold itK1 itS bDE
  rw [lend_s]
  show (match (match frzS ρ i ρ[i]? with
    | some (d, ρ2) => bO (itemsOf d) fun ds => some (ds, ρ2)
    | none => none) with
  | some z => some z
  | none => _) = _
  unfold frzS lendS itD
  rcases ρ[i]? with _ | s
  · rfl
  rcases s with _ | d | d | ⟨_ | _, d⟩
  · rfl
  · dsimp only [bO]
    rcases itemsOf d with _ | z
    · dsimp only
      rcases keysOf d with _ | z <;> rfl
    · rfl
  · rfl
  · dsimp only [bO]
    rcases itemsOf d with _ | z
    · dsimp only
      rcases keysOf d with _ | z <;> rfl
    · rfl
  · rfl
theorem itS_v (i : Nat) (d : D) (ρ : Env') : itS i (some (.val d)) ρ = itD d ρ := rfl
theorem itS_o (i : Nat) (d : D) (ρ : Env') : itS i (some (.own false d)) ρ = itD d (ρ.set i (.val d)) := rfl
theorem itS_b (i : Nat) (d : D) (ρ : Env') : itS i (some (.bor d)) ρ = bO (keysOf d) fun ds => some (ds, ρ) := rfl
theorem itD_t (l : List D) (ρ : Env') : itD (.tup l) ρ = some (l, ρ) := rfl
theorem itD_l (l : List D) (ρ : Env') : itD (.lst l) ρ = some (l, ρ) := rfl
theorem itD_s (z : Str) (ρ : Env') : itD (.str z) ρ = some (signs z, ρ) := rfl
theorem itD_d (l : List (Str × D)) (ρ : Env') : itD (.dct l) ρ = some (l.map fun kv => .str kv.1, ρ) := rfl
theorem fMulL_e (fa : FE) (j : Int) (ρ : Env') : fMulL fa j ρ = bE (fa ρ) (mulK j) := by
  unfold fMulL bE mulK
  rcases fa ρ with _ | ⟨r, ρ1⟩
  · rfl
  rcases r with d | d | i
  · rfl
  · cases d <;> rfl
  · rfl
theorem mulK_e (j : Int) (ds : List D) (ρ : Env') : mulK j (.new (.lst ds)) ρ = if 0 ≤ j ∧ j < 2 ^ 63 ∧ ds.length * j.toNat ≤ sizeLine then some (.new (.lst (List.replicate j.toNat ds).flatten), ρ) else none := rfl
theorem fRm_e (T : String) (g : D → List D → Option R) (fo : FE) (fa : FA) (ρ : Env') : fRm T g fo fa ρ = bE (fo ρ) (fun r ρ1 => bO (cont ρ1 r) fun d0 => okIf (tyR d0 == T && T != "") (rmK g r fa ρ1)) := by
  simp only [fRm, okIf, rmK, Bool.and_eq_true, beq_iff_eq, bne_iff_ne, bE, bEE, bEEE, bA, bEA, bO, bDE, bDsE, bFO]
  repeat' split
  all_goals first | rfl | simp_all
theorem rmK_e (g : D → List D → Option R) (r : R) (fa : FA) (ρ : Env') : rmK g r fa ρ = bA (fa ρ) (fun rs ρ2 => bO (cont ρ2 r) fun d => bO (conts ρ2 rs) fun ds => bO (g d ds) fun x => some (x, ρ2)) := rfl
theorem tyR_s (z : Str) : tyR (.str z) = "str" := rfl
theorem tyR_l (l : List D) : tyR (.lst l) = "list" := rfl
theorem fConsN_e (fa : FE) (fr : FA) (ρ : Env') : fConsN fa fr ρ = bEA (fa ρ) fr (fun r rs ρ2 => newR r none fun d => some (.new d :: rs, ρ2)) := by
  simp only [fConsN, newR, bE, bEE, bEEE, bA, bEA, bO, bDE, bDsE, bFO]
  repeat' split
  all_goals first | rfl | simp_all
theorem newR_e {β : Type} (d : D) (x : Option β) (k : D → Option β) : newR (.new d) x k = k d := rfl
theorem fCallN_e (ms : List Mode) (g : List D → Option (R × List D)) (j : Nat) (fa : FA) (ρ : Env') : fCallN ms g j fa ρ = bA (fa ρ) (fun rs ρ1 => calN ms g j rs ρ1 rs[j]?) := by
  simp only [fCallN, calN, bE, bEE, bEEE, bA, bEA, bO, bDE, bDsE, bFO]
  repeat' split
  all_goals first | rfl | simp_all
theorem calN_e (ms : List Mode) (g : List D → Option (R × List D)) (j : Nat) (rs : List R) (ρ1 : Env') (d : D) : calN ms g j rs ρ1 (some (.new d)) = bE (callR ms g (rs.set j (.slot ρ1.length)) (ρ1 ++ [.own false d])) (fun r ρ2 => if isSlot r = true then none else some (r, ρ2.take ρ1.length)) := rfl
theorem isSlot_v (d : D) : isSlot (.val d) = false := rfl
theorem isSlot_n (d : D) : isSlot (.new d) = false := rfl
theorem gAdd_i (i j : Int) : gAdd (.int i) (.int j) = some (.val (.int (i + j))) := rfl
theorem gAdd_s (x y : Str) : gAdd (.str x) (.str y) = if x.length + y.length ≤ sizeLine then some (.val (.str (x ++ y))) else none := rfl
theorem gAdd_t (x y : List D) : gAdd (.tup x) (.tup y) = if x.length + y.length ≤ sizeLine then some (.val (.tup (x ++ y))) else none := rfl
theorem gAdd_l (x y : List D) : gAdd (.lst x) (.lst y) = if x.length + y.length ≤ sizeLine then some (.new (.lst (x ++ y))) else none := rfl
theorem gSub_i (i j : Int) : DL.gSub (.int i) (.int j) = some (.val (.int (i - j))) := rfl
theorem gMod_i (i j : Int) : gMod (.int i) (.int j) = if 0 < j then some (.val (.int (i % j))) else none := rfl
theorem gMul_i (i j : Int) : gMul (.int i) (.int j) = if CMul i j then some (.val (.int (i * j))) else none := rfl
theorem gFDiv_i (i j : Int) : gFDiv (.int i) (.int j) = if CDiv i j then some (.val (.int (i / j))) else none := rfl
theorem gNeg_i (i : Int) : gNeg (.int i) = some (.val (.int (-i))) := rfl
theorem gLt_i (i j : Int) : gLt (.int i) (.int j) = some (.val (.bl (decide (i < j)))) := rfl
theorem gLe_i (i j : Int) : gLe (.int i) (.int j) = some (.val (.bl (decide (i ≤ j)))) := rfl
theorem gGt_i (i j : Int) : gGt (.int i) (.int j) = some (.val (.bl (decide (j < i)))) := rfl
theorem gGe_i (i j : Int) : gGe (.int i) (.int j) = some (.val (.bl (decide (j ≤ i)))) := rfl
theorem gCmp_i (p : Int → Int → Bool) (i j : Int) : gCmp p (.int i) (.int j) = some (.val (.bl (p i j))) := rfl
theorem gEqS_s (f : Bool → Bool) (x y : Str) : gEqS f (.str x) (.str y) = some (.val (.bl (f (x == y)))) := rfl
theorem gEqS_i (f : Bool → Bool) (x y : Int) : gEqS f (.int x) (.int y) = some (.val (.bl (f (x == y)))) := rfl
theorem gIs_n (f : Bool → Bool) (d : D) : gIs f d .non = some (.val (.bl (f (isNonD d)))) := by cases d <;> rfl
theorem isNonD_non : isNonD (.non) = true := rfl
theorem isNonD_bl (b : Bool) : isNonD (.bl b) = false := rfl
theorem isNonD_int (i : Int) : isNonD (.int i) = false := rfl
theorem isNonD_str (x : Str) : isNonD (.str x) = false := rfl
theorem isNonD_tup (l : List D) : isNonD (.tup l) = false := rfl
theorem isNonD_lst (l : List D) : isNonD (.lst l) = false := rfl
theorem isNonD_dct (kv : List (Str × D)) : isNonD (.dct kv) = false := rfl
theorem gIx_t (xs : List D) (i : Int) : gIx (.tup xs) (.int i) = bO (atI xs i) fun d => some (.val d) := by
  simp only [gIx, bO]
  repeat' split
  all_goals first | rfl | simp_all
theorem gIx_l (xs : List D) (i : Int) : gIx (.lst xs) (.int i) = bO (atI xs i) fun d => some (.val d) := by
  simp only [gIx, bO]
  repeat' split
  all_goals first | rfl | simp_all
theorem gIx_d (kvs : List (Str × D)) (x : Str) : gIx (.dct kvs) (.str x) = bO (dget kvs x) fun d => some (.val d) := by
  simp only [gIx, bO]
  repeat' split
  all_goals first | rfl | simp_all
theorem atI_0 (x : D) (xs : List D) : atI (x :: xs) 0 = some x := by simp [atI, ixN]
theorem atI_1 (x y : D) (xs : List D) : atI (x :: y :: xs) 1 = some y := by
  have h : ixN (x :: y :: xs).length (1 : Int) = some 1 := by
    unfold ixN
    simp only [List.length_cons]
    rw [if_pos (by omega), if_pos (by omega)]
    rfl
  unfold atI
  rw [h]
  rfl
theorem atI_2 (x y z : D) (xs : List D) : atI (x :: y :: z :: xs) 2 = some z := by
  have h : ixN (x :: y :: z :: xs).length (2 : Int) = some 2 := by
    unfold ixN
    simp only [List.length_cons]
    rw [if_pos (by omega), if_pos (by omega)]
    rfl
  unfold atI
  rw [h]
  rfl
theorem atI_3 (x y z w : D) (xs : List D) : atI (x :: y :: z :: w :: xs) 3 = some w := by
  have h : ixN (x :: y :: z :: w :: xs).length (3 : Int) = some 3 := by
    unfold ixN
    simp only [List.length_cons]
    rw [if_pos (by omega), if_pos (by omega)]
    rfl
  unfold atI
  rw [h]
  rfl
theorem gSl_t (xs : List D) (lo hi : Option Int) : gSl (.tup xs) lo hi = some (.val (.tup (cutG xs lo hi))) := rfl
theorem gSl_l (xs : List D) (lo hi : Option Int) : gSl (.lst xs) lo hi = some (.new (.lst (cutG xs lo hi))) := rfl
theorem gOr_d (h : Bool → Bool) (g : D → D → Option R) (x : Str) (kvs : List (Str × D)) : gOr h g (.str x) (.dct kvs) = some (.val (.bl (h (dget kvs x).isSome))) := rfl
theorem gOr_t (h : Bool → Bool) (g : D → D → Option R) (d : D) (l : List D) : gOr h g d (.tup l) = g d (.tup l) := by unfold gOr; cases d <;> rfl
theorem gOr_l (h : Bool → Bool) (g : D → D → Option R) (d : D) (l : List D) : gOr h g d (.lst l) = g d (.lst l) := by unfold gOr; cases d <;> rfl
theorem gOr_s (h : Bool → Bool) (g : D → D → Option R) (d : D) (l : Str) : gOr h g d (.str l) = g d (.str l) := by unfold gOr; cases d <;> rfl
theorem gInS_t (x : Str) (l : List D) : gInS (.str x) (.tup l) = if l.all flatD = true then some (.val (.bl (inF (.str x) l))) else none := by unfold gInS; simp [flatD]
theorem gNotInS_t (x : Str) (l : List D) : gNotInS (.str x) (.tup l) = if l.all flatD = true then some (.val (.bl (!inF (.str x) l))) else none := by unfold gNotInS; simp [flatD]
theorem gInS_l (x : Str) (l : List D) (h : l.all flatD = true) : gInS (.str x) (.lst l) = some (.val (.bl (inF (.str x) l))) := by unfold gInS; simp [flatD, h]
theorem gInt_i (i : Int) : gInt [.int i] = some (.val (.int i)) := rfl
theorem gInt_b (b : Bool) : gInt [.bl b] = some (.val (.int (if b = true then 1 else 0))) := by cases b <;> rfl
theorem gTuple_t (l : List D) : gTuple [.tup l] = some (.val (.tup l)) := rfl
theorem gTuple_l (l : List D) : gTuple [.lst l] = some (.val (.tup l)) := rfl
theorem gList_t (l : List D) : gList [.tup l] = some (.new (.lst l)) := rfl
theorem gList_l (l : List D) : gList [.lst l] = some (.new (.lst l)) := rfl
theorem gList_d (l : List (Str × D)) : gList [.dct l] = some (.new (.lst (l.map fun kv => .str kv.1))) := rfl
theorem gDict_d (l : List (Str × D)) : gDict [.dct l] = some (.new (.dct l)) := rfl
theorem gDict_l (l : List D) : gDict [.lst l] = bO (pairsD l) fun l => some (.new (.dct (dmerge [] l))) := by
  simp only [gDict, bO]
  repeat' split
  all_goals first | rfl | simp_all
theorem gLen_t (l : List D) : gLen [.tup l] = some (.val (.int l.length)) := rfl
theorem gLen_l (l : List D) : gLen [.lst l] = some (.val (.int l.length)) := rfl
theorem gLen_d (l : List (Str × D)) : gLen [.dct l] = some (.val (.int l.length)) := rfl
theorem gLen_s (x : Str) : gLen [.str x] = if x.length ≤ sizeLine then some (.val (.int x.length)) else none := by
  simp only [gLen, lenD]
  repeat' split
  all_goals first | rfl | simp_all
theorem gLen_c (l : List Int) : gLen [.scr l] = some (.val (.int l.length)) := rfl
theorem gBls_l (f : List Bool → Bool) (l : List D) : gBls f [.lst l] = bO (blsD l) fun l => some (.val (.bl (f l))) := by
  simp only [gBls, bO]
  repeat' split
  all_goals first | rfl | simp_all
theorem gSum_l (l : List D) : gSum [.lst l] = bO (intsD l) fun l => some (.val (.int l.sum)) := by
  simp only [gSum, bO]
  repeat' split
  all_goals first | rfl | simp_all
theorem gTabIn_e (kvs : List (Str × Str)) (neg : Bool) (z : Str) : gTabIn kvs neg (.str z) = some (.val (.bl ((tget kvs z).isSome ^^ neg))) := rfl
theorem gTabAt_e (kvs : List (Str × Str)) (z : Str) : gTabAt kvs (.str z) = bO (tget kvs z) fun v => some (.val (.str v)) := by
  simp only [gTabAt, bO]
  repeat' split
  all_goals first | rfl | simp_all
theorem gIsi_non (T : String)  : gIsi T (.non) = some (.val (.bl ("NoneType" == T || (T == "int" && "NoneType" == "bool")))) := rfl
theorem gIsi_bl (T : String) (b : Bool) : gIsi T (.bl b) = some (.val (.bl ("bool" == T || (T == "int" && "bool" == "bool")))) := rfl
theorem gIsi_int (T : String) (i : Int) : gIsi T (.int i) = some (.val (.bl ("int" == T || (T == "int" && "int" == "bool")))) := rfl
theorem gIsi_str (T : String) (x : Str) : gIsi T (.str x) = some (.val (.bl ("str" == T || (T == "int" && "str" == "bool")))) := rfl
theorem gIsi_tup (T : String) (l : List D) : gIsi T (.tup l) = some (.val (.bl ("tuple" == T || (T == "int" && "tuple" == "bool")))) := rfl
theorem gIsi_lst (T : String) (l : List D) : gIsi T (.lst l) = some (.val (.bl ("list" == T || (T == "int" && "list" == "bool")))) := rfl
theorem gIsi_dct (T : String) (kv : List (Str × D)) : gIsi T (.dct kv) = some (.val (.bl ("dict" == T || (T == "int" && "dict" == "bool")))) := rfl
theorem mSetd_e (kvs : List (Str × D)) (x : Str) (d : D) : mSetd kvs x d = setdK kvs x d (dget kvs x) := by unfold mSetd setdK; rfl
theorem setdK_s (kvs : List (Str × D)) (x : Str) (d e : D) : setdK kvs x d (some e) = if kvs.length < sizeLine then some (e, kvs) else none := rfl
theorem setdK_n (kvs : List (Str × D)) (x : Str) (d : D) : setdK kvs x d none = if kvs.length < sizeLine then some (d, dput kvs x d) else none := rfl
theorem mPop1_e (kvs : List (Str × D)) (x : Str) (d : D) : mPop1 kvs x d = popK kvs x none (dget kvs x) := by unfold mPop1 popK; rfl
theorem mPop2_e (kvs : List (Str × D)) (x : Str) (d : D) : mPop2 kvs x d = popK kvs x (some d) (dget kvs x) := by unfold mPop2 popK; rfl
theorem popK_s (kvs : List (Str × D)) (x : Str) (o : Option D) (e : D) : popK kvs x o (some e) = some (e, ddrop kvs x) := rfl
theorem popK_n (kvs : List (Str × D)) (x : Str) (d : D) : popK kvs x (some d) none = some (d, kvs) := rfl
theorem sFgt_e (is : List Nat) (f : FS) (ρ : Env') : sFgt is f ρ = fgtO is (f ρ) := rfl
theorem fgtO_nx (is : List Nat) (ρ : Env') : fgtO is (some (.nx ρ)) = some (.nx (fgtL ρ is)) := rfl
theorem fgtO_bk (is : List Nat) (ρ : Env') : fgtO is (some (.bk ρ)) = some (.bk (fgtL ρ is)) := rfl
theorem fgtO_ct (is : List Nat) (ρ : Env') : fgtO is (some (.ct ρ)) = some (.ct (fgtL ρ is)) := rfl
theorem fgtO_rv (is : List Nat) (d : D) (ρ : Env') : fgtO is (some (.rt (.val d) ρ)) = some (.rt (.val d) (fgtL ρ is)) := rfl
theorem fgtO_rn (is : List Nat) (d : D) (ρ : Env') : fgtO is (some (.rt (.new d) ρ)) = some (.rt (.new d) (fgtL ρ is)) := rfl
theorem fgtL_n (ρ : Env') : fgtL ρ [] = ρ := rfl
theorem fgtL_c (ρ : Env') (i : Nat) (is : List Nat) : fgtL ρ (i :: is) = fgtL (fgt1 ρ i) is := rfl
theorem fgt1_e (ρ : Env') (i : Nat) : fgt1 ρ i = if isIo ρ[i]? = true then ρ else ρ.set i .unset := rfl
theorem forL_c (g : FG) (b : FS) (d : D) (ds : List D) (ρ : Env') : forL g b (d :: ds) ρ = bL g b ds (bO (g d ρ) b) := by
  unfold bL bO
  rw [forL]
  rcases g d ρ with _ | ρ1
  · rfl
  dsimp only <;> rcases b ρ1 with _ | _ | _ | _ | _ <;> rfl
theorem bL_nx (g : FG) (b : FS) (ds : List D) (ρ : Env') : bL g b ds (some (.nx ρ)) = forL g b ds ρ := rfl
theorem bL_ct (g : FG) (b : FS) (ds : List D) (ρ : Env') : bL g b ds (some (.ct ρ)) = forL g b ds ρ := rfl
theorem bL_bk (g : FG) (b : FS) (ds : List D) (ρ : Env') : bL g b ds (some (.bk ρ)) = some (.nx ρ) := rfl
theorem bL_rt (g : FG) (b : FS) (ds : List D) (r : R) (ρ : Env') : bL g b ds (some (.rt r ρ)) = some (.rt r ρ) := rfl
theorem fLc_e (fi : FI) (g : FG) (tt : FT) (fe : FE) (vs : List Nat) (ρ : Env') : fLc fi g tt fe vs ρ = bI (fi ρ) (lcK g tt fe vs) := by
  unfold fLc bI lcK bDsE
  rcases fi ρ with _ | ⟨ds, ρ1⟩ <;> rfl
theorem lcK_n (g : FG) (tt : FT) (fe : FE) (vs : List Nat) (ρ1 : Env') : lcK g tt fe vs [] ρ1 = if plainAt ρ1 vs = true then bDsE (lcL g tt fe vs [] ρ1) (fun ys ρ2 => if ys.length ≤ sizeLine then some (.new (.lst ys), backS ρ1 vs ρ2) else none) else none := rfl
theorem lcK_c (g : FG) (tt : FT) (fe : FE) (vs : List Nat) (d : D) (ds : List D) (ρ1 : Env') : lcK g tt fe vs (d :: ds) ρ1 = if plainAt ρ1 vs = true then bDsE (lcL g tt fe vs (d :: ds) ρ1) (fun ys ρ2 => if ys.length ≤ sizeLine then some (.new (.lst ys), backS ρ1 vs ρ2) else none) else none := rfl
theorem lcL_n (g : FG) (tt : FT) (fe : FE) (vs : List Nat) (ρ : Env') : lcL g tt fe vs [] ρ = if plainAt ρ vs = true then some ([], ρ) else none := rfl
theorem lcL_c (g : FG) (tt : FT) (fe : FE) (vs : List Nat) (d : D) (ds : List D) (ρ : Env') : lcL g tt fe vs (d :: ds) ρ = if plainAt ρ vs = true then bO (g d (wipeS ρ vs)) (lcC g tt fe vs ds) else none := by
  rw [lcL]
  split
  · unfold bO
    rcases g d (wipeS ρ vs) with _ | ρ1
    · rfl
    dsimp only [lcC, bT]
    rcases tt ρ1 with _ | ⟨_ | _, ρ2⟩
    · rfl
    · rfl
    dsimp only [lcD, bE]
    rcases fe ρ2 with _ | ⟨r, ρ3⟩
    · rfl
    dsimp only [bDE]
    rcases frz ρ3 r with _ | ⟨y, ρ4⟩
    · rfl
    dsimp only [bDsE] <;> rcases lcL g tt fe vs ds ρ4 with _ | ⟨ys, ρ5⟩ <;> rfl
  · rfl
theorem lcC_e (g : FG) (tt : FT) (fe : FE) (vs : List Nat) (ds : List D) (ρ : Env') : lcC g tt fe vs ds ρ = bT (tt ρ) (lcD g tt fe vs ds) (lcL g tt fe vs ds) := rfl
theorem lcD_e (g : FG) (tt : FT) (fe : FE) (vs : List Nat) (ds : List D) (ρ : Env') : lcD g tt fe vs ds ρ = bE (fe ρ) (fun r ρ3 => bDE (frz ρ3 r) fun y ρ4 => bDsE (lcL g tt fe vs ds ρ4) fun ys ρ5 => some (y :: ys, ρ5)) := rfl
theorem lcW_e (g : FG) (tt : FT) (fe : FE) (vs : List Nat) (d : D) (ρ : Env') : lcW g tt fe vs d ρ = bO (g d ρ) (lcT tt fe vs) := rfl
theorem lcT_e (tt : FT) (fe : FE) (vs : List Nat) (ρ : Env') : lcT tt fe vs ρ = bT (tt ρ) (lcY fe vs) (lcE vs none) := rfl
theorem lcY_e (fe : FE) (vs : List Nat) (ρ : Env') : lcY fe vs ρ = bE (fe ρ) (fun r ρ3 => bDE (frz ρ3 r) fun y ρ4 => lcE vs (some y) ρ4) := rfl
theorem lcE_e (vs : List Nat) (o : Option D) (ρ : Env') : lcE vs o ρ = if plainAt ρ vs = true then some (o, wipeS ρ vs) else none := rfl
theorem plain_n (ρ : Env') : plainAt ρ [] = true := rfl
theorem plain_c (ρ : Env') (i : Nat) (is : List Nat) : plainAt ρ (i :: is) = (plainS ρ[i]? && plainAt ρ is) := rfl
theorem plainS_v (d : D) : plainS (some (.val d)) = true := rfl
theorem plainS_u : plainS (some .unset) = true := rfl
theorem wipeS_n (ρ : Env') : wipeS ρ [] = ρ := rfl
theorem wipeS_c (ρ : Env') (i : Nat) (is : List Nat) : wipeS ρ (i :: is) = (wipeS ρ is).set i .unset := rfl
theorem backS_n (ρ0 ρ : Env') : backS ρ0 [] ρ = ρ := rfl
theorem backS_c (ρ0 ρ : Env') (i : Nat) (is : List Nat) : backS ρ0 (i :: is) ρ = (backS ρ0 is ρ).set i (ρ0[i]?.getD .unset) := rfl
theorem EV : (∀ (β γ : Type) (a : γ) (k : γ → Option β), bO (some a) k = k a) ∧
  (∀ (β : Type) (r : R) (ρ : Env') (k : R → Env' → Option β), bE (some (r, ρ)) k = k r ρ) ∧
  (∀ (β : Type) (r : R) (ρ : Env') (f : FE) (k : R → R → Env' → Option β), bEE (some (r, ρ)) f k = bE (f ρ) (k r)) ∧
  (∀ (β : Type) (r : R) (ρ : Env') (f h : FE) (k : R → R → R → Env' → Option β), bEEE (some (r, ρ)) f h k = bEE (f ρ) h (k r)) ∧
  (∀ (β : Type) (r : List R) (ρ : Env') (k : List R → Env' → Option β), bA (some (r, ρ)) k = k r ρ) ∧
  (∀ (β : Type) (r : R) (ρ : Env') (f : FA) (k : R → List R → Env' → Option β), bEA (some (r, ρ)) f k = bA (f ρ) (k r)) ∧
  (∀ (β : Type) (ρ : Env') (a b : Env' → Option β), bT (some (true, ρ)) a b = a ρ) ∧
  (∀ (β : Type) (ρ : Env') (a b : Env' → Option β), bT (some (false, ρ)) a b = b ρ) ∧
  (∀ (ρ : Env') (k : FS), bS (some (.nx ρ)) k = k ρ) ∧
  (∀ (r : R) (ρ : Env') (k : FS), bS (some (.rt r ρ)) k = some (.rt r ρ)) ∧
  (∀ (ρ : Env') (k : FS), bS (some (.bk ρ)) k = some (.bk ρ)) ∧
  (∀ (ρ : Env') (k : FS), bS (some (.ct ρ)) k = some (.ct ρ)) ∧
  (∀ (β : Type) (r : List D) (ρ : Env') (k : List D → Env' → Option β), bI (some (r, ρ)) k = k r ρ) ∧
  (∀ (β : Type) (r : Option Int) (ρ : Env') (k : Option Int → Env' → Option β), bFO (some (r, ρ)) k = k r ρ) ∧
  (∀ (β : Type) (r : D) (ρ : Env') (k : D → Env' → Option β), bDE (some (r, ρ)) k = k r ρ) ∧
  (∀ (β : Type) (r : List D) (ρ : Env') (k : List D → Env' → Option β), bDsE (some (r, ρ)) k = k r ρ) ∧
  (∀ (β : Type) (r : R) (ρ : List D) (k : R → List D → Option β), bRL (some (r, ρ)) k = k r ρ) ∧
  (∀ (ρ : Env'), noE ρ = some (false, ρ)) ∧
  (∀ (ρ : Env'), yesE ρ = some (true, ρ)) ∧
  (∀ (b : Bool) (ρ : Env'), tooE b ρ = some (.val (.bl b), ρ)) ∧
  (∀ (ρ : Env') (d : D), cont ρ (.val d) = some d) ∧
  (∀ (ρ : Env') (d : D), cont ρ (.new d) = some d) ∧
  (∀ (ρ : Env') (i : Nat), cont ρ (.slot i) = contS ρ[i]?) ∧
  (∀ (d : D), contS (some (.val d)) = some d) ∧
  (∀ (d : D), contS (some (.bor d)) = some d) ∧
  (∀ (b : Bool) (d : D), contS (some (.own b d)) = some d) ∧
  (∀ (ρ : Env') (d : D), frz ρ (.val d) = some (d, ρ)) ∧
  (∀ (ρ : Env') (d : D), frz ρ (.new d) = some (d, ρ)) ∧
  (∀ (ρ : Env') (i : Nat), frz ρ (.slot i) = frzS ρ i ρ[i]?) ∧
  (∀ (ρ : Env') (i : Nat) (d : D), frzS ρ i (some (.val d)) = some (d, ρ)) ∧
  (∀ (ρ : Env') (i : Nat) (d : D), frzS ρ i (some (.own false d)) = some (d, ρ.set i (.val d))) ∧
  (∀ (ρ : Env') (i : Nat) (d : D), frzS ρ i (some (.bor d)) = none) ∧
  (∀ (ρ : Env') (i : Nat) (d : D), frzS ρ i (some (.own true d)) = none) ∧
  (∀ (i : Nat) (ρ : Env') (d : D), sV i ρ (some (.val d)) = some (.val d, ρ)) ∧
  (∀ (i : Nat) (ρ : Env') (d : D), sV i ρ (some (.bor d)) = some (.slot i, ρ)) ∧
  (∀ (i : Nat) (ρ : Env') (b : Bool) (d : D), sV i ρ (some (.own b d)) = some (.slot i, ρ)) ∧
  (∀ (i : Nat) (ρ : Env'), fVar i ρ = sV i ρ ρ[i]?) ∧
  (∀ (d : D) (ρ : Env'), fC d ρ = some (.val d, ρ)) ∧
  (∀ (ρ : Env'), fDct ρ = some (.new (.dct []), ρ)) ∧
  (∀ (g : D → Option R) (fa : FE) (ρ : Env'), f1 g fa ρ = bE (fa ρ) (fun r ρ1 => bO (cont ρ1 r) fun d => bO (g d) fun x => some (x, ρ1))) ∧
  (∀ (g : D → D → Option R) (fa fb : FE) (ρ : Env'), f2 g fa fb ρ = bEE (fa ρ) fb (fun r1 r2 ρ2 => bO (cont ρ2 r1) fun d => bO (cont ρ2 r2) fun e => bO (g d e) fun x => some (x, ρ2))) ∧
  (∀ (ρ : Env'), fNil ρ = some ([], ρ)) ∧
  (∀ (fa : FE) (fr : FA) (ρ : Env'), fCons fa fr ρ = bEA (fa ρ) fr (fun r rs ρ2 => some (r :: rs, ρ2))) ∧
  (∀ (ρ : Env'), conts ρ [] = some []) ∧
  (∀ (ρ : Env') (r : R) (rs : List R), conts ρ (r :: rs) = csO (cont ρ r) (conts ρ rs)) ∧
  (∀ (d : D) (ds : List D), csO (some d) (some ds) = some (d :: ds)) ∧
  (∀ (ρ : Env'), frzs ρ [] = some ([], ρ)) ∧
  (∀ (ρ : Env') (r : R) (rs : List R), frzs ρ (r :: rs) = bDE (frz ρ r) (fun d ρ1 => bDsE (frzs ρ1 rs) (fun ds ρ2 => some (d :: ds, ρ2)))) ∧
  (∀ (g : List D → Option R) (fa : FA) (ρ : Env'), fN g fa ρ = bA (fa ρ) (fun rs ρ1 => bO (conts ρ1 rs) fun ds => bO (g ds) fun x => some (x, ρ1))) ∧
  (∀ (fa : FA) (ρ : Env'), fTup fa ρ = bA (fa ρ) (fun rs ρ1 => bDsE (frzs ρ1 rs) fun ds ρ2 => if ds.length ≤ sizeLine then some (.val (.tup ds), ρ2) else none)) ∧
  (∀ (fa : FA) (ρ : Env'), fLst fa ρ = bA (fa ρ) (fun rs ρ1 => bDsE (frzs ρ1 rs) fun ds ρ2 => if ds.length ≤ sizeLine then some (.new (.lst ds), ρ2) else none)) ∧
  (∀ (ρ : Env') (r : R), asB ρ r = blO (cont ρ r) ρ) ∧
  (∀ (b : Bool) (ρ : Env'), blO (some (.bl b)) ρ = some (b, ρ)) ∧
  (∀ (fa : FE) (ρ : Env'), fB fa ρ = bE (fa ρ) (fun r ρ1 => asB ρ1 r)) ∧
  (∀ (g : FT) (ρ : Env'), fNotT g ρ = bT (g ρ) noE yesE) ∧
  (∀ (g h : FT) (ρ : Env'), fAndT g h ρ = bT (g ρ) h noE) ∧
  (∀ (g h : FT) (ρ : Env'), fOrT g h ρ = bT (g ρ) yesE h) ∧
  (∀ (fa fb : FE) (ρ : Env'), fAnd fa fb ρ = bT (fB fa ρ) fb (tooE false)) ∧
  (∀ (fa fb : FE) (ρ : Env'), fOr fa fb ρ = bT (fB fa ρ) (tooE true) fb) ∧
  (∀ (fa : FE) (ρ : Env'), fNot fa ρ = bT (fB fa ρ) (tooE false) (tooE true)) ∧
  (∀ (g : FT) (fa fb : FE) (ρ : Env'), fIfE g fa fb ρ = bT (g ρ) fa fb) ∧
  (∀ (ρ : Env'), ftYes ρ = some (true, ρ)) ∧
  (∀ (g h : D → D → Option R) (fa fb fc : FE) (ρ : Env'), fChain g h fa fb fc ρ = bEE (fa ρ) fb (fun r1 r2 ρ2 => bO (cont ρ2 r1) fun d => bO (cont ρ2 r2) fun e => chK h r2 fc ρ2 (g d e))) ∧
  (∀ (h : D → D → Option R) (r2 : R) (fc : FE) (ρ2 : Env'), chK h r2 fc ρ2 (some (.val (.bl true))) = bE (fc ρ2) (fun r3 ρ3 => bO (cont ρ3 r2) fun d => bO (cont ρ3 r3) fun e => bO (h d e) fun x => some (x, ρ3))) ∧
  (∀ (h : D → D → Option R) (r2 : R) (fc : FE) (ρ2 : Env'), chK h r2 fc ρ2 (some (.val (.bl false))) = some (.val (.bl false), ρ2)) ∧
  (∀ (ρ : Env'), sNext ρ = some (.nx ρ)) ∧
  (∀ (ρ : Env'), sBreak ρ = some (.bk ρ)) ∧
  (∀ (ρ : Env'), sCont ρ = some (.ct ρ)) ∧
  (∀ (g h : FS) (ρ : Env'), sSeq g h ρ = bS (g ρ) h) ∧
  (∀ (c : FT) (g h : FS) (ρ : Env'), sIf c g h ρ = bT (c ρ) g h) ∧
  (∀ (fa : FE) (ρ : Env'), sDrop fa ρ = bE (fa ρ) (fun _ ρ1 => some (.nx ρ1))) ∧
  (∀ (d : D), isIo (some (.own true d)) = true) ∧
  (∀ (d : D), isIo (some (.own false d)) = false) ∧
  (∀ (d : D), isIo (some (.val d)) = false) ∧
  (∀ (d : D), isIo (some (.bor d)) = false) ∧
  (isIo (some .unset) = false) ∧
  (∀ (ρ : Env') (i : Nat) (d : D), putV ρ i d = if isIo ρ[i]? = true then none else some (ρ.set i (.val d))) ∧
  (∀ (ρ : Env') (i : Nat) (d : D), putR ρ i (.val d) = putV ρ i d) ∧
  (∀ (ρ : Env') (i : Nat) (d : D), putR ρ i (.new d) = if isIo ρ[i]? = true then none else some (ρ.set i (.own false d))) ∧
  (∀ (ρ : Env') (i j : Nat), putR ρ i (.slot j) = putRS ρ i (frz ρ (.slot j))) ∧
  (∀ (ρ ρ2 : Env') (i : Nat) (d : D), putRS ρ i (some (d, ρ2)) = putV ρ2 i d) ∧
  (∀ (i : Nat) (fa : FE) (ρ : Env'), sSet i fa ρ = bE (fa ρ) (fun r ρ1 => bO (putR ρ1 i r) fun ρ2 => some (.nx ρ2))) ∧
  (∀ (ρ : Env') (d : D), retR ρ (.val d) = some (.rt (.val d) ρ)) ∧
  (∀ (ρ : Env') (d : D), retR ρ (.new d) = some (.rt (.new d) ρ)) ∧
  (∀ (ρ : Env') (i : Nat), retR ρ (.slot i) = retS ρ i ρ[i]?) ∧
  (∀ (ρ : Env') (i : Nat) (d : D), retS ρ i (some (.val d)) = some (.rt (.val d) ρ)) ∧
  (∀ (ρ : Env') (i : Nat) (d : D), retS ρ i (some (.own false d)) = some (.rt (.new d) (ρ.set i .unset))) ∧
  (∀ (fa : FE) (ρ : Env'), sRet fa ρ = bE (fa ρ) (fun r ρ1 => retR ρ1 r)) ∧
  (∀ (ρ : Env'), sRetN ρ = some (.rt (.val .non) ρ)) ∧
  (∀ (fd fk fv : FE) (ρ : Env'), sPut fd fk fv ρ = bEEE (fv ρ) fd fk (fun rv rd rk ρ3 => slotOf rd ρ3 fun i _ => strO (cont ρ3 rk) fun x => bDE (frz ρ3 rv) fun dv ρ4 => putK' ρ4 i x dv ρ4[i]?)) ∧
  (∀ (β : Type) (i : Nat) (ρ : Env') (k : Nat → Option S → Option β), slotOf (.slot i) ρ k = k i ρ[i]?) ∧
  (∀ (β : Type) (x : Str) (k : Str → Option β), strO (some (.str x)) k = k x) ∧
  (∀ (ρ4 : Env') (i : Nat) (x : Str) (dv : D) (b : Bool) (kvs : List (Str × D)), putK' ρ4 i x dv (some (.own b (.dct kvs))) = if kvs.length < sizeLine then some (.nx (ρ4.set i (.own b (.dct (dput kvs x dv))))) else none) ∧
  (∀ (ρ : Env'), outsOf [] ρ = some []) ∧
  (∀ (ms : List Mode) (d : D) (ρ : Env'), outsOf (.io :: ms) (.own true d :: ρ) = bO (outsOf ms ρ) (fun ds => some (d :: ds))) ∧
  (∀ (ms : List Mode) (s : S) (ρ : Env'), outsOf (.val :: ms) (s :: ρ) = outsOf ms ρ) ∧
  (∀ (ms : List Mode) (s : S) (ρ : Env'), outsOf (.bor :: ms) (s :: ρ) = outsOf ms ρ) ∧
  (∀ (ms : List Mode) (ρ : Env'), finD ms (some (.nx ρ)) = bO (outsOf ms ρ) (fun o => some (.val .non, o))) ∧
  (∀ (ms : List Mode) (d : D) (ρ : Env'), finD ms (some (.rt (.val d) ρ)) = bO (outsOf ms ρ) (fun o => some (.val d, o))) ∧
  (∀ (ms : List Mode) (d : D) (ρ : Env'), finD ms (some (.rt (.new d) ρ)) = bO (outsOf ms ρ) (fun o => some (.new d, o))) ∧
  (∀ (ms : List Mode) (d : D) (rs : List R) (ρ : Env'), frzV (.val :: ms) (.val d :: rs) ρ = frzV ms rs ρ) ∧
  (∀ (ms : List Mode) (d : D) (rs : List R) (ρ : Env'), frzV (.val :: ms) (.new d :: rs) ρ = frzV ms rs ρ) ∧
  (∀ (ms : List Mode) (i : Nat) (rs : List R) (ρ : Env'), frzV (.val :: ms) (.slot i :: rs) ρ = frzS2 i ρ[i]? ms rs ρ) ∧
  (∀ (i : Nat) (d : D) (ms : List Mode) (rs : List R) (ρ : Env'), frzS2 i (some (.own false d)) ms rs ρ = frzV ms rs (ρ.set i (.val d))) ∧
  (∀ (i : Nat) (d : D) (ms : List Mode) (rs : List R) (ρ : Env'), frzS2 i (some (.val d)) ms rs ρ = frzV ms rs ρ) ∧
  (∀ (i : Nat) (d : D) (ms : List Mode) (rs : List R) (ρ : Env'), frzS2 i (some (.bor d)) ms rs ρ = frzV ms rs ρ) ∧
  (∀ (ms : List Mode) (r : R) (rs : List R) (ρ : Env'), frzV (.bor :: ms) (r :: rs) ρ = frzV ms rs ρ) ∧
  (∀ (ms : List Mode) (r : R) (rs : List R) (ρ : Env'), frzV (.io :: ms) (r :: rs) ρ = frzV ms rs ρ) ∧
  (∀ (ρ : Env'), frzV [] [] ρ = ρ) ∧
  (∀ (ρ : Env') (d : D), rsv1 ρ .val (.val d) = some d) ∧
  (∀ (ρ : Env') (d : D), rsv1 ρ .val (.new d) = some d) ∧
  (∀ (ρ : Env') (i : Nat), rsv1 ρ .val (.slot i) = sub1 ρ[i]?) ∧
  (∀ (d : D), sub1 (some (.val d)) = some d) ∧
  (∀ (ρ : Env') (r : R), rsv1 ρ .bor r = cont ρ r) ∧
  (∀ (ρ : Env') (i : Nat), rsv1 ρ .io (.slot i) = ioD ρ[i]?) ∧
  (∀ (b : Bool) (d : D), ioD (some (.own b d)) = some d) ∧
  (∀ (ρ : Env'), rsv ρ [] [] = some []) ∧
  (∀ (ρ : Env') (m : Mode) (ms : List Mode) (r : R) (rs : List R), rsv ρ (m :: ms) (r :: rs) = csO (rsv1 ρ m r) (rsv ρ ms rs)) ∧
  (∀ (ms : List Mode) (i : Nat) (rs : List R), ioS (.io :: ms) (.slot i :: rs) = i :: ioS ms rs) ∧
  (∀ (ms : List Mode) (r : R) (rs : List R), ioS (.val :: ms) (r :: rs) = ioS ms rs) ∧
  (∀ (ms : List Mode) (r : R) (rs : List R), ioS (.bor :: ms) (r :: rs) = ioS ms rs) ∧
  (ioS [] [] = []) ∧
  (∀ (is : List Nat) (ms : List Mode) (i : Nat) (rs : List R), borOk is (.bor :: ms) (.slot i :: rs) = (!is.contains i && borOk is ms rs)) ∧
  (∀ (is : List Nat) (ms : List Mode) (d : D) (rs : List R), borOk is (.bor :: ms) (.val d :: rs) = borOk is ms rs) ∧
  (∀ (is : List Nat) (ms : List Mode) (d : D) (rs : List R), borOk is (.bor :: ms) (.new d :: rs) = borOk is ms rs) ∧
  (∀ (is : List Nat) (ms : List Mode) (r : R) (rs : List R), borOk is (.val :: ms) (r :: rs) = borOk is ms rs) ∧
  (∀ (is : List Nat) (ms : List Mode) (r : R) (rs : List R), borOk is (.io :: ms) (r :: rs) = borOk is ms rs) ∧
  (∀ (is : List Nat), borOk is [] [] = true) ∧
  (∀ (ρ : Env'), wb ρ [] [] = ρ) ∧
  (∀ (ρ : Env') (i : Nat) (is : List Nat) (d : D) (ds : List D), wb ρ (i :: is) (d :: ds) = wb (wbS i d ρ[i]? ρ) is ds) ∧
  (∀ (i : Nat) (d d' : D) (b : Bool) (ρ : Env'), wbS i d (some (.own b d')) ρ = ρ.set i (.own b d)) ∧
  (∀ (ms : List Mode) (g : List D → Option (R × List D)) (fa : FA) (ρ : Env'), fCall ms g fa ρ = bA (fa ρ) (callR ms g)) ∧
  (∀ (ms : List Mode) (g : List D → Option (R × List D)) (rs : List R) (ρ : Env'), callR ms g rs ρ = bO (rsv (frzV ms rs ρ) ms rs) fun ds => if (ioS ms rs).Nodup ∧ borOk (ioS ms rs) ms rs = true then bRL (g ds) (fun r os => if os.length = (ioS ms rs).length then some (r, wb (frzV ms rs ρ) (ioS ms rs) os) else none) else none) ∧
  (∀ (i : Nat) (d : D) (ρ : Env'), fgName i d ρ = putV ρ i d) ∧
  (∀ (ρ : Env'), fgNil [] ρ = some ρ) ∧
  (∀ (g : FG) (h : FGs) (d : D) (ds : List D) (ρ : Env'), fgCons g h (d :: ds) ρ = bO (g d ρ) (h ds)) ∧
  (∀ (n : Nat) (g : FGs) (ds : List D) (ρ : Env'), fgTup n g (.tup ds) ρ = if ds.length = n then g ds ρ else none) ∧
  (∀ (fa : FE) (g : FG) (ρ : Env'), sAsg fa g ρ = bE (fa ρ) (fun r ρ1 => bDE (frz ρ1 r) fun d ρ2 => bO (g d ρ2) fun ρ3 => some (.nx ρ3))) ∧
  (∀ (ds : List D), itemsOf (.tup ds) = some ds) ∧
  (∀ (ds : List D), itemsOf (.lst ds) = some ds) ∧
  (∀ (z : Str), itemsOf (.str z) = some (signs z)) ∧
  (∀ (kvs : List (Str × D)), itemsOf (.dct kvs) = none) ∧
  (∀ (fa : FE) (ρ : Env'), fIt fa ρ = bE (fa ρ) (fun r ρ1 => bDE (frz ρ1 r) fun d ρ2 => bO (itemsOf d) fun ds => some (ds, ρ2))) ∧
  (∀ (fa : FE) (ρ : Env'), fKeys fa ρ = bE (fa ρ) (fun r ρ1 => bDE (lend ρ1 r) fun d ρ2 => bO (keysOf d) fun ds => some (ds, ρ2))) ∧
  (∀ (fi : FI) (g : FG) (b : FS) (ρ : Env'), sFor fi g b ρ = bI (fi ρ) (forL g b)) ∧
  (∀ (g : FG) (b : FS) (ρ : Env'), forL g b [] ρ = some (.nx ρ)) ∧
  (∀ (fe : FE) (fl fh : FO) (ρ : Env'), fSl fe fl fh ρ = bE (fe ρ) (fun r ρ1 => slK r fl fh ρ1)) ∧
  (∀ (r : R) (fl fh : FO) (ρ : Env'), slK r fl fh ρ = bFO (fl ρ) (slK2 r fh)) ∧
  (∀ (r : R) (fh : FO) (lo : Option Int) (ρ : Env'), slK2 r fh lo ρ = bFO (fh ρ) (fun hi ρ3 => bO (cont ρ3 r) fun d => bO (gSl d lo hi) fun x => some (x, ρ3))) ∧
  (∀ (ρ : Env'), foNone ρ = some (none, ρ)) ∧
  (∀ (fa : FE) (ρ : Env'), foSome fa ρ = bE (fa ρ) (fun r ρ1 => foI (cont ρ1 r) ρ1)) ∧
  (∀ (i : Int) (ρ : Env'), foI (some (.int i)) ρ = some (some i, ρ)) ∧
  (∀ (T : String) (m : D → List D → Option (D × D)) (fo : FE) (fa : FA) (ρ : Env'), fMu T m fo fa ρ = bE (fo ρ) (fun r ρ1 => slotOf r ρ1 fun i s => mu1 T s (muK m i fa ρ1))) ∧
  (∀ (β : Type) (T : String) (b : Bool) (d : D) (x : Option β), mu1 T (some (.own b d)) x = okIf (tyD d == T) x) ∧
  (∀ (m : D → List D → Option (D × D)) (i : Nat) (fa : FA) (ρ : Env'), muK m i fa ρ = bA (fa ρ) (fun rs ρ2 => bDsE (frzs ρ2 rs) fun ds ρ3 => mu2 m i ds ρ3 ρ3[i]?)) ∧
  (∀ (m : D → List D → Option (D × D)) (i : Nat) (ds : List D) (ρ : Env') (b : Bool) (d : D), mu2 m i ds ρ (some (.own b d)) = mu3 i b ρ (m d ds)) ∧
  (∀ (i : Nat) (b : Bool) (ρ : Env') (res d' : D), mu3 i b ρ (some (res, d')) = some (.val res, ρ.set i (.own b d'))) ∧
  (∀ (l : List D), tyD (.lst l) = "list") ∧
  (∀ (l : List (Str × D)), tyD (.dct l) = "dict") ∧
  (∀ (β : Type) (x : Option β), okIf true x = x) ∧
  (∀ (xs : List D) (d : D), mAppend (.lst xs) [d] = if xs.length < sizeLine then some (.non, .lst (xs ++ [d])) else none) ∧
  (∀ (xs ys : List D), mExtend (.lst xs) [.lst ys] = if xs.length + ys.length ≤ sizeLine then some (.non, .lst (xs ++ ys)) else none) ∧
  (∀ (m : List (Str × D) → Str → D → Option (D × List (Str × D))) (fo fk fx : FE) (ρ : Env'), fD2 m fo fk fx ρ = bE (fo ρ) (fun r ρ1 => slotOf r ρ1 fun i s => dc1 s (dcK m i fk fx ρ1))) ∧
  (∀ (β : Type) (b : Bool) (kvs : List (Str × D)) (x : Option β), dc1 (some (.own b (.dct kvs))) x = x) ∧
  (∀ (m : List (Str × D) → Str → D → Option (D × List (Str × D))) (i : Nat) (fk fx : FE) (ρ : Env'), dcK m i fk fx ρ = bEE (fk ρ) fx (dcK2 m i)) ∧
  (∀ (m : List (Str × D) → Str → D → Option (D × List (Str × D))) (i : Nat) (rk rx : R) (ρ3 : Env'), dcK2 m i rk rx ρ3 = strO (cont ρ3 rk) fun x => bDE (frz ρ3 rx) fun dx ρ4 => dc2 m i x dx ρ4 ρ4[i]?) ∧
  (∀ (m : List (Str × D) → Str → D → Option (D × List (Str × D))) (i : Nat) (x : Str) (dx : D) (ρ4 : Env') (b : Bool) (kvs : List (Str × D)), dc2 m i x dx ρ4 (some (.own b (.dct kvs))) = dc3 i b ρ4 (m kvs x dx)) ∧
  (∀ (i : Nat) (b : Bool) (ρ : Env') (res : D) (kvs' : List (Str × D)), dc3 i b ρ (some (res, kvs')) = some (.val res, ρ.set i (.own b (.dct kvs')))) ∧
  (∀ (fo fk fx : FE) (ρ : Env'), fGet2 fo fk fx ρ = bE (fo ρ) (fun r ρ1 => dctO (cont ρ1 r) (get2J r fk fx ρ1))) ∧
  (∀ (β : Type) (kvs : List (Str × D)) (x : Option β), dctO (some (.dct kvs)) x = x) ∧
  (∀ (r : R) (fk fx : FE) (ρ : Env'), get2J r fk fx ρ = bEE (fk ρ) fx (fun rk rx ρ3 => get2K (cont ρ3 r) (cont ρ3 rk) rx ρ3)) ∧
  (∀ (kvs : List (Str × D)) (x : Str) (rx : R) (ρ3 : Env'), get2K (some (.dct kvs)) (some (.str x)) rx ρ3 = get2L (dget kvs x) rx ρ3) ∧
  (∀ (d : D) (rx : R) (ρ3 : Env'), get2L (some d) rx ρ3 = some (.val d, ρ3)) ∧
  (∀ (rx : R) (ρ3 : Env'), get2L none rx ρ3 = bDE (frz ρ3 rx) (fun d ρ4 => some (.val d, ρ4))) ∧
  (∀ (fa : FA) (ρ : Env'), fZip fa ρ = bA (fa ρ) (fun rs ρ1 => bDsE (frzs ρ1 rs) zipK)) ∧
  (∀ (a b : D) (ρ : Env'), zipK [a, b] ρ = bO (itemsOf a) fun as => bO (itemsOf b) fun bs => some (zipD as bs, ρ)) ∧
  (∀ (fa : FA) (ρ : Env'), fRng1 fa ρ = bA (fa ρ) (fun rs ρ1 => rngK (conts ρ1 rs) ρ1)) ∧
  (∀ (j : Int) (ρ : Env'), rngK (some [.int j]) ρ = if -(2 ^ 62) ≤ j ∧ j < 2 ^ 62 then some ((List.range j.toNat).map fun (i : Nat) => D.int (i : Int), ρ) else none) ∧
  (∀ (fa : FA) (ρ : Env'), fEnum fa ρ = bA (fa ρ) (fun rs ρ1 => bDsE (frzs ρ1 rs) enumK)) ∧
  (∀ (l : List D) (ρ : Env'), enumK [.tup l] ρ = some (enumD 0 l, ρ)) ∧
  (∀ (l : List D) (ρ : Env'), enumK [.lst l] ρ = some (enumD 0 l, ρ)) ∧
  (∀ (l : List D), gRev (.tup l) = some (.val (.tup l.reverse))) ∧
  (∀ (l : List D), gRev (.lst l) = some (.new (.lst l.reverse))) ∧
  (∀ (f : Bool → Bool) (x y : Bool), gEqS f (.bl x) (.bl y) = some (.val (.bl (f (x == y))))) ∧
  (∀ (f : Bool → Bool) (x : Str) (h : PyData.strOk x = true), gEqS f (.str x) .non = some (.val (.bl (f false)))) ∧
  (∀ (kvs more : List (Str × D)), mDUpdate (.dct kvs) [.dct more] = if kvs.length + more.length ≤ sizeLine then some (.non, .dct (dmerge kvs more)) else none) ∧
  (∀ (n : Nat) (c : FT) (b : FS) (ρ : Env'), sWhile n c b ρ = whileL c b n ρ) ∧
  (∀ (f : Bool → Bool) (ka kb : List (Str × D)), gEqDct f (.dct ka) (.dct kb) = bO (hitsD kb ka) fun r => some (.val (.bl (f (ka.length == kb.length && r))))) ∧
  (∀ (kvs : List (Str × D)), keysOf (.dct kvs) = some (kvs.map fun kv => .str kv.1)) ∧
  (∀ (ρ : Env') (d : D), lend ρ (.val d) = some (d, ρ)) ∧
  (∀ (ρ : Env') (d : D), lend ρ (.new d) = some (d, ρ)) ∧
  (∀ (ρ : Env') (i : Nat), lend ρ (.slot i) = lendS ρ i ρ[i]?) ∧
  (∀ (ρ : Env') (i : Nat) (d : D), lendS ρ i (some (.val d)) = some (d, ρ)) ∧
  (∀ (ρ : Env') (i : Nat) (d : D), lendS ρ i (some (.own false d)) = some (d, ρ.set i (.val d))) ∧
  (∀ (ρ : Env') (i : Nat) (d : D), lendS ρ i (some (.bor d)) = some (d, ρ)) ∧
  (∀ (fa : FE) (ρ : Env'), fItK fa ρ = bE (fa ρ) itK1) ∧
  (∀ (d : D) (ρ : Env'), itK1 (.val d) ρ = itD d ρ) ∧
  (∀ (d : D) (ρ : Env'), itK1 (.new d) ρ = itD d ρ) ∧
  (∀ (i : Nat) (ρ : Env'), itK1 (.slot i) ρ = itS i ρ[i]? ρ) ∧
  (∀ (i : Nat) (d : D) (ρ : Env'), itS i (some (.val d)) ρ = itD d ρ) ∧
  (∀ (i : Nat) (d : D) (ρ : Env'), itS i (some (.own false d)) ρ = itD d (ρ.set i (.val d))) ∧
  (∀ (i : Nat) (d : D) (ρ : Env'), itS i (some (.bor d)) ρ = bO (keysOf d) fun ds => some (ds, ρ)) ∧
  (∀ (l : List D) (ρ : Env'), itD (.tup l) ρ = some (l, ρ)) ∧
  (∀ (l : List D) (ρ : Env'), itD (.lst l) ρ = some (l, ρ)) ∧
  (∀ (z : Str) (ρ : Env'), itD (.str z) ρ = some (signs z, ρ)) ∧
  (∀ (l : List (Str × D)) (ρ : Env'), itD (.dct l) ρ = some (l.map fun kv => .str kv.1, ρ)) ∧
  (∀ (fa : FE) (j : Int) (ρ : Env'), fMulL fa j ρ = bE (fa ρ) (mulK j)) ∧
  (∀ (j : Int) (ds : List D) (ρ : Env'), mulK j (.new (.lst ds)) ρ = if 0 ≤ j ∧ j < 2 ^ 63 ∧ ds.length * j.toNat ≤ sizeLine then some (.new (.lst (List.replicate j.toNat ds).flatten), ρ) else none) ∧
  (∀ (T : String) (g : D → List D → Option R) (fo : FE) (fa : FA) (ρ : Env'), fRm T g fo fa ρ = bE (fo ρ) (fun r ρ1 => bO (cont ρ1 r) fun d0 => okIf (tyR d0 == T && T != "") (rmK g r fa ρ1))) ∧
  (∀ (g : D → List D → Option R) (r : R) (fa : FA) (ρ : Env'), rmK g r fa ρ = bA (fa ρ) (fun rs ρ2 => bO (cont ρ2 r) fun d => bO (conts ρ2 rs) fun ds => bO (g d ds) fun x => some (x, ρ2))) ∧
  (∀ (z : Str), tyR (.str z) = "str") ∧
  (∀ (l : List D), tyR (.lst l) = "list") ∧
  (∀ (fa : FE) (fr : FA) (ρ : Env'), fConsN fa fr ρ = bEA (fa ρ) fr (fun r rs ρ2 => newR r none fun d => some (.new d :: rs, ρ2))) ∧
  (∀ (β : Type) (d : D) (x : Option β) (k : D → Option β), newR (.new d) x k = k d) ∧
  (∀ (ms : List Mode) (g : List D → Option (R × List D)) (j : Nat) (fa : FA) (ρ : Env'), fCallN ms g j fa ρ = bA (fa ρ) (fun rs ρ1 => calN ms g j rs ρ1 rs[j]?)) ∧
  (∀ (ms : List Mode) (g : List D → Option (R × List D)) (j : Nat) (rs : List R) (ρ1 : Env') (d : D), calN ms g j rs ρ1 (some (.new d)) = bE (callR ms g (rs.set j (.slot ρ1.length)) (ρ1 ++ [.own false d])) (fun r ρ2 => if isSlot r = true then none else some (r, ρ2.take ρ1.length))) ∧
  (∀ (d : D), isSlot (.val d) = false) ∧
  (∀ (d : D), isSlot (.new d) = false) ∧
  (∀ (i j : Int), gAdd (.int i) (.int j) = some (.val (.int (i + j)))) ∧
  (∀ (x y : Str), gAdd (.str x) (.str y) = if x.length + y.length ≤ sizeLine then some (.val (.str (x ++ y))) else none) ∧
  (∀ (x y : List D), gAdd (.tup x) (.tup y) = if x.length + y.length ≤ sizeLine then some (.val (.tup (x ++ y))) else none) ∧
  (∀ (x y : List D), gAdd (.lst x) (.lst y) = if x.length + y.length ≤ sizeLine then some (.new (.lst (x ++ y))) else none) ∧
  (∀ (i j : Int), DL.gSub (.int i) (.int j) = some (.val (.int (i - j)))) ∧
  (∀ (i j : Int), gMod (.int i) (.int j) = if 0 < j then some (.val (.int (i % j))) else none) ∧
  (∀ (i j : Int), gMul (.int i) (.int j) = if CMul i j then some (.val (.int (i * j))) else none) ∧
  (∀ (i j : Int), gFDiv (.int i) (.int j) = if CDiv i j then some (.val (.int (i / j))) else none) ∧
  (∀ (i : Int), gNeg (.int i) = some (.val (.int (-i)))) ∧
  (∀ (i j : Int), gLt (.int i) (.int j) = some (.val (.bl (decide (i < j))))) ∧
  (∀ (i j : Int), gLe (.int i) (.int j) = some (.val (.bl (decide (i ≤ j))))) ∧
  (∀ (i j : Int), gGt (.int i) (.int j) = some (.val (.bl (decide (j < i))))) ∧
  (∀ (i j : Int), gGe (.int i) (.int j) = some (.val (.bl (decide (j ≤ i))))) ∧
  (∀ (p : Int → Int → Bool) (i j : Int), gCmp p (.int i) (.int j) = some (.val (.bl (p i j)))) ∧
  (∀ (f : Bool → Bool) (x y : Str), gEqS f (.str x) (.str y) = some (.val (.bl (f (x == y))))) ∧
  (∀ (f : Bool → Bool) (x y : Int), gEqS f (.int x) (.int y) = some (.val (.bl (f (x == y))))) ∧
  (∀ (f : Bool → Bool) (d : D), gIs f d .non = some (.val (.bl (f (isNonD d))))) ∧
  (isNonD (.non) = true) ∧
  (∀ (b : Bool), isNonD (.bl b) = false) ∧
  (∀ (i : Int), isNonD (.int i) = false) ∧
  (∀ (x : Str), isNonD (.str x) = false) ∧
  (∀ (l : List D), isNonD (.tup l) = false) ∧
  (∀ (l : List D), isNonD (.lst l) = false) ∧
  (∀ (kv : List (Str × D)), isNonD (.dct kv) = false) ∧
  (∀ (xs : List D) (i : Int), gIx (.tup xs) (.int i) = bO (atI xs i) fun d => some (.val d)) ∧
  (∀ (xs : List D) (i : Int), gIx (.lst xs) (.int i) = bO (atI xs i) fun d => some (.val d)) ∧
  (∀ (kvs : List (Str × D)) (x : Str), gIx (.dct kvs) (.str x) = bO (dget kvs x) fun d => some (.val d)) ∧
  (∀ (x : D) (xs : List D), atI (x :: xs) 0 = some x) ∧
  (∀ (x y : D) (xs : List D), atI (x :: y :: xs) 1 = some y) ∧
  (∀ (x y z : D) (xs : List D), atI (x :: y :: z :: xs) 2 = some z) ∧
  (∀ (x y z w : D) (xs : List D), atI (x :: y :: z :: w :: xs) 3 = some w) ∧
  (∀ (xs : List D) (lo hi : Option Int), gSl (.tup xs) lo hi = some (.val (.tup (cutG xs lo hi)))) ∧
  (∀ (xs : List D) (lo hi : Option Int), gSl (.lst xs) lo hi = some (.new (.lst (cutG xs lo hi)))) ∧
  (∀ (h : Bool → Bool) (g : D → D → Option R) (x : Str) (kvs : List (Str × D)), gOr h g (.str x) (.dct kvs) = some (.val (.bl (h (dget kvs x).isSome)))) ∧
  (∀ (h : Bool → Bool) (g : D → D → Option R) (d : D) (l : List D), gOr h g d (.tup l) = g d (.tup l)) ∧
  (∀ (h : Bool → Bool) (g : D → D → Option R) (d : D) (l : List D), gOr h g d (.lst l) = g d (.lst l)) ∧
  (∀ (h : Bool → Bool) (g : D → D → Option R) (d : D) (l : Str), gOr h g d (.str l) = g d (.str l)) ∧
  (∀ (x : Str) (l : List D), gInS (.str x) (.tup l) = if l.all flatD = true then some (.val (.bl (inF (.str x) l))) else none) ∧
  (∀ (x : Str) (l : List D), gNotInS (.str x) (.tup l) = if l.all flatD = true then some (.val (.bl (!inF (.str x) l))) else none) ∧
  (∀ (x : Str) (l : List D) (h : l.all flatD = true), gInS (.str x) (.lst l) = some (.val (.bl (inF (.str x) l)))) ∧
  (∀ (i : Int), gInt [.int i] = some (.val (.int i))) ∧
  (∀ (b : Bool), gInt [.bl b] = some (.val (.int (if b = true then 1 else 0)))) ∧
  (∀ (l : List D), gTuple [.tup l] = some (.val (.tup l))) ∧
  (∀ (l : List D), gTuple [.lst l] = some (.val (.tup l))) ∧
  (∀ (l : List D), gList [.tup l] = some (.new (.lst l))) ∧
  (∀ (l : List D), gList [.lst l] = some (.new (.lst l))) ∧
  (∀ (l : List (Str × D)), gList [.dct l] = some (.new (.lst (l.map fun kv => .str kv.1)))) ∧
  (∀ (l : List (Str × D)), gDict [.dct l] = some (.new (.dct l))) ∧
  (∀ (l : List D), gDict [.lst l] = bO (pairsD l) fun l => some (.new (.dct (dmerge [] l)))) ∧
  (∀ (l : List D), gLen [.tup l] = some (.val (.int l.length))) ∧
  (∀ (l : List D), gLen [.lst l] = some (.val (.int l.length))) ∧
  (∀ (l : List (Str × D)), gLen [.dct l] = some (.val (.int l.length))) ∧
  (∀ (x : Str), gLen [.str x] = if x.length ≤ sizeLine then some (.val (.int x.length)) else none) ∧
  (∀ (l : List Int), gLen [.scr l] = some (.val (.int l.length))) ∧
  (∀ (f : List Bool → Bool) (l : List D), gBls f [.lst l] = bO (blsD l) fun l => some (.val (.bl (f l)))) ∧
  (∀ (l : List D), gSum [.lst l] = bO (intsD l) fun l => some (.val (.int l.sum))) ∧
  (∀ (kvs : List (Str × Str)) (neg : Bool) (z : Str), gTabIn kvs neg (.str z) = some (.val (.bl ((tget kvs z).isSome ^^ neg)))) ∧
  (∀ (kvs : List (Str × Str)) (z : Str), gTabAt kvs (.str z) = bO (tget kvs z) fun v => some (.val (.str v))) ∧
  (∀ (T : String) , gIsi T (.non) = some (.val (.bl ("NoneType" == T || (T == "int" && "NoneType" == "bool"))))) ∧
  (∀ (T : String) (b : Bool), gIsi T (.bl b) = some (.val (.bl ("bool" == T || (T == "int" && "bool" == "bool"))))) ∧
  (∀ (T : String) (i : Int), gIsi T (.int i) = some (.val (.bl ("int" == T || (T == "int" && "int" == "bool"))))) ∧
  (∀ (T : String) (x : Str), gIsi T (.str x) = some (.val (.bl ("str" == T || (T == "int" && "str" == "bool"))))) ∧
  (∀ (T : String) (l : List D), gIsi T (.tup l) = some (.val (.bl ("tuple" == T || (T == "int" && "tuple" == "bool"))))) ∧
  (∀ (T : String) (l : List D), gIsi T (.lst l) = some (.val (.bl ("list" == T || (T == "int" && "list" == "bool"))))) ∧
  (∀ (T : String) (kv : List (Str × D)), gIsi T (.dct kv) = some (.val (.bl ("dict" == T || (T == "int" && "dict" == "bool"))))) ∧
  (∀ (kvs : List (Str × D)) (x : Str) (d : D), mSetd kvs x d = setdK kvs x d (dget kvs x)) ∧
  (∀ (kvs : List (Str × D)) (x : Str) (d e : D), setdK kvs x d (some e) = if kvs.length < sizeLine then some (e, kvs) else none) ∧
  (∀ (kvs : List (Str × D)) (x : Str) (d : D), setdK kvs x d none = if kvs.length < sizeLine then some (d, dput kvs x d) else none) ∧
  (∀ (kvs : List (Str × D)) (x : Str) (d : D), mPop1 kvs x d = popK kvs x none (dget kvs x)) ∧
  (∀ (kvs : List (Str × D)) (x : Str) (d : D), mPop2 kvs x d = popK kvs x (some d) (dget kvs x)) ∧
  (∀ (kvs : List (Str × D)) (x : Str) (o : Option D) (e : D), popK kvs x o (some e) = some (e, ddrop kvs x)) ∧
  (∀ (kvs : List (Str × D)) (x : Str) (d : D), popK kvs x (some d) none = some (d, kvs)) ∧
  (∀ (is : List Nat) (f : FS) (ρ : Env'), sFgt is f ρ = fgtO is (f ρ)) ∧
  (∀ (is : List Nat) (ρ : Env'), fgtO is (some (.nx ρ)) = some (.nx (fgtL ρ is))) ∧
  (∀ (is : List Nat) (ρ : Env'), fgtO is (some (.bk ρ)) = some (.bk (fgtL ρ is))) ∧
  (∀ (is : List Nat) (ρ : Env'), fgtO is (some (.ct ρ)) = some (.ct (fgtL ρ is))) ∧
  (∀ (is : List Nat) (d : D) (ρ : Env'), fgtO is (some (.rt (.val d) ρ)) = some (.rt (.val d) (fgtL ρ is))) ∧
  (∀ (is : List Nat) (d : D) (ρ : Env'), fgtO is (some (.rt (.new d) ρ)) = some (.rt (.new d) (fgtL ρ is))) ∧
  (∀ (ρ : Env'), fgtL ρ [] = ρ) ∧
  (∀ (ρ : Env') (i : Nat) (is : List Nat), fgtL ρ (i :: is) = fgtL (fgt1 ρ i) is) ∧
  (∀ (ρ : Env') (i : Nat), fgt1 ρ i = if isIo ρ[i]? = true then ρ else ρ.set i .unset) ∧
  (∀ (g : FG) (b : FS) (d : D) (ds : List D) (ρ : Env'), forL g b (d :: ds) ρ = bL g b ds (bO (g d ρ) b)) ∧
  (∀ (g : FG) (b : FS) (ds : List D) (ρ : Env'), bL g b ds (some (.nx ρ)) = forL g b ds ρ) ∧
  (∀ (g : FG) (b : FS) (ds : List D) (ρ : Env'), bL g b ds (some (.ct ρ)) = forL g b ds ρ) ∧
  (∀ (g : FG) (b : FS) (ds : List D) (ρ : Env'), bL g b ds (some (.bk ρ)) = some (.nx ρ)) ∧
  (∀ (g : FG) (b : FS) (ds : List D) (r : R) (ρ : Env'), bL g b ds (some (.rt r ρ)) = some (.rt r ρ)) ∧
  (∀ (fi : FI) (g : FG) (tt : FT) (fe : FE) (vs : List Nat) (ρ : Env'), fLc fi g tt fe vs ρ = bI (fi ρ) (lcK g tt fe vs)) ∧
  (∀ (g : FG) (tt : FT) (fe : FE) (vs : List Nat) (ρ1 : Env'), lcK g tt fe vs [] ρ1 = if plainAt ρ1 vs = true then bDsE (lcL g tt fe vs [] ρ1) (fun ys ρ2 => if ys.length ≤ sizeLine then some (.new (.lst ys), backS ρ1 vs ρ2) else none) else none) ∧
  (∀ (g : FG) (tt : FT) (fe : FE) (vs : List Nat) (d : D) (ds : List D) (ρ1 : Env'), lcK g tt fe vs (d :: ds) ρ1 = if plainAt ρ1 vs = true then bDsE (lcL g tt fe vs (d :: ds) ρ1) (fun ys ρ2 => if ys.length ≤ sizeLine then some (.new (.lst ys), backS ρ1 vs ρ2) else none) else none) ∧
  (∀ (g : FG) (tt : FT) (fe : FE) (vs : List Nat) (ρ : Env'), lcL g tt fe vs [] ρ = if plainAt ρ vs = true then some ([], ρ) else none) ∧
  (∀ (g : FG) (tt : FT) (fe : FE) (vs : List Nat) (d : D) (ds : List D) (ρ : Env'), lcL g tt fe vs (d :: ds) ρ = if plainAt ρ vs = true then bO (g d (wipeS ρ vs)) (lcC g tt fe vs ds) else none) ∧
  (∀ (g : FG) (tt : FT) (fe : FE) (vs : List Nat) (ds : List D) (ρ : Env'), lcC g tt fe vs ds ρ = bT (tt ρ) (lcD g tt fe vs ds) (lcL g tt fe vs ds)) ∧
  (∀ (g : FG) (tt : FT) (fe : FE) (vs : List Nat) (ds : List D) (ρ : Env'), lcD g tt fe vs ds ρ = bE (fe ρ) (fun r ρ3 => bDE (frz ρ3 r) fun y ρ4 => bDsE (lcL g tt fe vs ds ρ4) fun ys ρ5 => some (y :: ys, ρ5))) ∧
  (∀ (g : FG) (tt : FT) (fe : FE) (vs : List Nat) (d : D) (ρ : Env'), lcW g tt fe vs d ρ = bO (g d ρ) (lcT tt fe vs)) ∧
  (∀ (tt : FT) (fe : FE) (vs : List Nat) (ρ : Env'), lcT tt fe vs ρ = bT (tt ρ) (lcY fe vs) (lcE vs none)) ∧
  (∀ (fe : FE) (vs : List Nat) (ρ : Env'), lcY fe vs ρ = bE (fe ρ) (fun r ρ3 => bDE (frz ρ3 r) fun y ρ4 => lcE vs (some y) ρ4)) ∧
  (∀ (vs : List Nat) (o : Option D) (ρ : Env'), lcE vs o ρ = if plainAt ρ vs = true then some (o, wipeS ρ vs) else none) ∧
  (∀ (ρ : Env'), plainAt ρ [] = true) ∧
  (∀ (ρ : Env') (i : Nat) (is : List Nat), plainAt ρ (i :: is) = (plainS ρ[i]? && plainAt ρ is)) ∧
  (∀ (d : D), plainS (some (.val d)) = true) ∧
  (plainS (some .unset) = true) ∧
  (∀ (ρ : Env'), wipeS ρ [] = ρ) ∧
  (∀ (ρ : Env') (i : Nat) (is : List Nat), wipeS ρ (i :: is) = (wipeS ρ is).set i .unset) ∧
  (∀ (ρ0 ρ : Env'), backS ρ0 [] ρ = ρ) ∧
  (∀ (ρ0 ρ : Env') (i : Nat) (is : List Nat), backS ρ0 (i :: is) ρ = (backS ρ0 is ρ).set i (ρ0[i]?.getD .unset)) :=
  ⟨(fun β γ a k => bO_s a k), (fun β r ρ k => bE_s r ρ k), (fun β r ρ f k => bEE_s r ρ f k), (fun β r ρ f h k => bEEE_s r ρ f h k), (fun β r ρ k => bA_s r ρ k), (fun β r ρ f k => bEA_s r ρ f k), (fun β ρ a b => bT_t ρ a b), (fun β ρ a b => bT_f ρ a b), bS_nx, bS_rt, bS_bk, bS_ct, (fun β r ρ k => bI_s r ρ k), (fun β r ρ k => bFO_s r ρ k), (fun β r ρ k => bDE_s r ρ k), (fun β r ρ k => bDsE_s r ρ k), (fun β r ρ k => bRL_s r ρ k), noE_e, yesE_e, tooE_e, cont_v, cont_n, cont_s, contS_v, contS_b, contS_o, frz_v, frz_n, frz_s, frzS_v, frzS_o, frzS_b, frzS_i, sV_v, sV_b, sV_o, fVar_e, fC_e, fDct_e, f1_e, f2_e, fNil_e, fCons_e, conts_n, conts_c, csO_s, frzs_n, frzs_c, fN_e, fTup_e, fLst_e, asB_e, blO_s, fB_e, fNotT_e, fAndT_e, fOrT_e, fAnd_e, fOr_e, fNot_e, fIfE_e, ftYes_e, fChain_e, chK_t, chK_f, sNext_e, sBreak_e, sCont_e, sSeq_e, sIf_e, sDrop_e, isIo_t, isIo_f, isIo_v, isIo_b, isIo_u, putV_e, putR_v, putR_n, putR_s, putRS_s, sSet_e, retR_v, retR_n, retR_s, retS_v, retS_o, sRet_e, sRetN_e, sPut_e, (fun β i ρ k => slotOf_s i ρ k), (fun β x k => strO_s x k), putK_e, outs_n, outs_io, outs_v, outs_b, fin_nx, fin_v, fin_n, frzV_vv, frzV_vn, frzV_vs, frzS2_o, frzS2_v, frzS2_b, frzV_b, frzV_i, frzV_0, rsv1_vv, rsv1_vn, rsv1_vs, sub1_v, rsv1_b, rsv1_i, ioD_o, rsv_0, rsv_c, ioS_i, ioS_v, ioS_b, ioS_0, borOk_b, borOk_bv, borOk_bn, borOk_v, borOk_i, borOk_0, wb_0, wb_c, wbS_o, fCall_e, callR_e, fgName_e, fgNil_e, fgCons_e, fgTup_e, sAsg_e, items_t, items_l, items_s, items_d, fIt_e, fKeys_e, sFor_e, forL_n, fSl_e, slK_e, slK2_e, foNone_e, foSome_e, foI_s, fMu_e, (fun β T b d x => mu1_e T b d x), muK_e, mu2_e, mu3_e, tyD_l, tyD_d, (fun β x => okIf_e x), mAppend_e, mExtend_e, fD2_e, (fun β b kvs x => dc1_e b kvs x), dcK_e, dcK2_e, dc2_e, dc3_e, fGet2_e, (fun β kvs x => dctO_s kvs x), get2J_e, get2K_e, get2L_s, get2L_n, fZip_e, zipK_e, fRng1_e, rngK_e, fEnum_e, enumK_t, enumK_l, gRev_t, gRev_l, gEqS_b, gEqS_sn, mDUpdate_e, sWhile_e, gEqDct_e, keysOf_d, lend_v, lend_n, lend_s, lendS_v, lendS_o, lendS_b, fItK_e, itK1_v, itK1_n, itK1_s, itS_v, itS_o, itS_b, itD_t, itD_l, itD_s, itD_d, fMulL_e, mulK_e, fRm_e, rmK_e, tyR_s, tyR_l, fConsN_e, (fun β d x k => newR_e d x k), fCallN_e, calN_e, isSlot_v, isSlot_n, gAdd_i, gAdd_s, gAdd_t, gAdd_l, gSub_i, gMod_i, gMul_i, gFDiv_i, gNeg_i, gLt_i, gLe_i, gGt_i, gGe_i, gCmp_i, gEqS_s, gEqS_i, gIs_n, isNonD_non, isNonD_bl, isNonD_int, isNonD_str, isNonD_tup, isNonD_lst, isNonD_dct, gIx_t, gIx_l, gIx_d, atI_0, atI_1, atI_2, atI_3, gSl_t, gSl_l, gOr_d, gOr_t, gOr_l, gOr_s, gInS_t, gNotInS_t, gInS_l, gInt_i, gInt_b, gTuple_t, gTuple_l, gList_t, gList_l, gList_d, gDict_d, gDict_l, gLen_t, gLen_l, gLen_d, gLen_s, gLen_c, gBls_l, gSum_l, gTabIn_e, gTabAt_e, gIsi_non, gIsi_bl, gIsi_int, gIsi_str, gIsi_tup, gIsi_lst, gIsi_dct, mSetd_e, setdK_s, setdK_n, mPop1_e, mPop2_e, popK_s, popK_n, sFgt_e, fgtO_nx, fgtO_bk, fgtO_ct, fgtO_rv, fgtO_rn, fgtL_n, fgtL_c, fgt1_e, forL_c, bL_nx, bL_ct, bL_bk, bL_rt, fLc_e, lcK_n, lcK_c, lcL_n, lcL_c, lcC_e, lcD_e, lcW_e, lcT_e, lcY_e, lcE_e, plain_n, plain_c, plainS_v, plainS_u, wipeS_n, wipeS_c, backS_n, backS_c⟩
end DL
set_option maxRecDepth 100000
set_option maxHeartbeats 4000000
namespace DL
open PySem PySem.Spec L2
/-- a loop that goes through -/
theorem forL_fold {α τ : Type} {g : FG} {b : FS} (E : τ → Env') (F : τ → α → τ) (e : α → D) (P : τ → Prop) : ∀ (l : List α) (s : τ), P s → (∀ x ∈ l, ∀ s, P s → bO (g (e x) (E s)) b = some (.nx (E (F s x))) ∧ P (F s x)) →
    forL g b (l.map e) (E s) = some (.nx (E (l.foldl F s))) ∧ P (l.foldl F s)
  | [], s, h, _ => ⟨rfl, h⟩
  | x :: l, s, h, k => by
    obtain ⟨e1, p1⟩ := k x List.mem_cons_self s h
    obtain ⟨e2, p2⟩ := forL_fold E F e P l (F s x) p1 fun y hy => k y (List.mem_cons_of_mem _ hy)
    refine ⟨?_, p2⟩
    rw [List.map_cons, forL_c, e1, bL_nx, e2]
    rfl
/-- .. or ends by a return -/
theorem forL_ret {α τ : Type} {g : FG} {b : FS} (E : τ → Env') (F : τ → α → τ ⊕ Out) (e : α → D) (P : τ → Prop) : ∀ (l : List α) (s : τ), P s → (∀ x ∈ l, ∀ s, P s → (∀ s', F s x = .inl s' → bO (g (e x) (E s)) b = some (.nx (E s')) ∧ P s') ∧ (∀ o, F s x = .inr o → bO (g (e x) (E s)) b = some o ∧ ∃ r ρ, o = .rt r ρ)) →
    ∃ z : τ ⊕ Out, z = l.foldl (fun z x => match z with | .inl s => F s x | .inr o => .inr o) (.inl s) ∧ (∀ s', z = .inl s' → forL g b (l.map e) (E s) = some (.nx (E s')) ∧ P s') ∧ (∀ o, z = .inr o → forL g b (l.map e) (E s) = some o)
  | [], s, h, _ => ⟨.inl s, rfl, fun s' e => by cases e; exact ⟨rfl, h⟩, fun o e => nomatch e⟩
  | x :: l, s, h, k => by
    obtain ⟨k1, k2⟩ := k x List.mem_cons_self s h
    rw [List.foldl_cons, List.map_cons, forL_c]
    dsimp only
    cases q : F s x with
    | inl s1 =>
      obtain ⟨e1, p1⟩ := k1 s1 q
      rw [e1, bL_nx]
      exact forL_ret E F e P l s1 p1 fun y hy => k y (List.mem_cons_of_mem _ hy)
    | inr o =>
      obtain ⟨e1, r, ρ, e2⟩ := k2 o q
      refine ⟨.inr o, ?_, fun s' z => (nomatch z), fun o' z => ?_⟩
      · clear k k1 k2 e1
        induction l with
        | nil => rfl
        | cons y l ih => rw [List.foldl_cons]; exact ih
      · cases z
        rw [e1, e2, bL_rt]
theorem wipeS_twice (ρ : Env') (vs : List Nat) : wipeS (wipeS ρ vs) vs = wipeS ρ vs := by
  apply List.ext_getElem?
  intro j
  by_cases h : j ∈ vs
  · have a : ∀ ρ' : Env', j < ρ'.length → (wipeS ρ' vs)[j]? = some .unset := fun ρ' hl => by
      have := List.getElem?_eq_getElem (l := wipeS ρ' vs) (i := j) (by rw [wipeS_len]; exact hl)
      rw [this, wipeS_in h _ this]
    by_cases hl : j < ρ.length
    · rw [a ρ hl, a (wipeS ρ vs) (by rw [wipeS_len]; exact hl)]
    · rw [List.getElem?_eq_none (by rw [wipeS_len, wipeS_len]; omega), List.getElem?_eq_none (by rw [wipeS_len]; omega)]
  · rw [wipeS_ne h]
theorem back_wipe (ρ0 ρ : Env') (vs : List Nat) : backS ρ0 vs (wipeS ρ vs) = backS ρ0 vs ρ := by
  apply List.ext_getElem?
  intro j
  by_cases hj : j ∈ vs
  · by_cases hlt : j < ρ.length
    · have e1 := List.getElem?_eq_getElem (l := backS ρ0 vs ρ) (i := j) (by rw [backS_len]; exact hlt)
      have e2 := List.getElem?_eq_getElem (l := backS ρ0 vs (wipeS ρ vs)) (i := j) (by rw [backS_len, wipeS_len]; exact hlt)
      rw [e1, e2, backS_in hj _ e1, backS_in hj _ e2]
    · rw [List.getElem?_eq_none (by rw [backS_len, wipeS_len]; omega), List.getElem?_eq_none (by rw [backS_len]; omega)]
  · rw [backS_ne hj, backS_ne hj, wipeS_ne hj]
theorem back_same {ρ ρ' : Env'} {vs : List Nat} (h : wipeS ρ' vs = wipeS ρ vs) : backS ρ vs ρ' = ρ := by
  have hl : ρ'.length = ρ.length := by rw [← wipeS_len ρ' vs, h, wipeS_len]
  apply List.ext_getElem?
  intro j
  by_cases hj : j ∈ vs
  · by_cases hlt : j < ρ.length
    · have e := List.getElem?_eq_getElem (l := backS ρ vs ρ') (i := j) (by rw [backS_len, hl]; exact hlt)
      rw [e, backS_in hj _ e, List.getElem?_eq_getElem hlt]
      rfl
    · rw [List.getElem?_eq_none (by rw [backS_len, hl]; omega), List.getElem?_eq_none (by omega)]
  · rw [backS_ne hj, ← wipeS_ne (ρ := ρ') hj, h, wipeS_ne hj]
/-- what a comprehension tells -/
def outs {α τ : Type} (F : τ → α → τ) (o : τ → α → Option D) : τ → List α → List D
  | _, [] => []
  | s, x :: l => (o s x).toList ++ outs F o (F s x) l
theorem lcL_fold {α τ : Type} {g : FG} {tt : FT} {fe : FE} {vs : List Nat} (E : τ → Env') (F : τ → α → τ) (o : τ → α → Option D) (e : α → D) (P : τ → Prop) : ∀ (l : List α) (s : τ) (ρ : Env'), plainAt ρ vs = true → wipeS ρ vs = E s → P s →
    (∀ x ∈ l, ∀ s, P s → lcW g tt fe vs (e x) (E s) = some (o s x, E (F s x)) ∧ P (F s x)) →
    ∃ ρ', lcL g tt fe vs (l.map e) ρ = some (outs F o s l, ρ') ∧ wipeS ρ' vs = E (l.foldl F s) ∧ P (l.foldl F s)
  | [], s, ρ, hp, hw, h, _ => ⟨ρ, by rw [List.map_nil, lcL_n, if_pos hp]; rfl, hw, h⟩
  | x :: l, s, ρ, hp, hw, h, k => by
    obtain ⟨e1, p1⟩ := k x List.mem_cons_self s h
    unfold lcW bO at e1
    rw [List.map_cons]
    cases q1 : g (e x) (E s) with
    | none => rw [q1] at e1; cases e1
    | some ρ1 =>
      rw [q1] at e1
      dsimp only [lcT] at e1
      have fin : ∀ {y : Option D} {ρ4 : Env'}, lcE vs y ρ4 = some (o s x, E (F s x)) → plainAt ρ4 vs = true ∧ y = o s x ∧ wipeS ρ4 vs = E (F s x) := fun {y ρ4} z => by
        unfold lcE at z
        split at z
        · rename_i hz
          have z := Option.some.inj z
          exact ⟨hz, congrArg Prod.fst z, congrArg Prod.snd z⟩
        · cases z
      rw [List.foldl_cons]
      unfold lcL
      rw [if_pos hp, hw, q1]
      dsimp only
      cases q2 : tt ρ1 with
      | none => rw [q2] at e1; cases e1
      | some z =>
        obtain ⟨b, ρ2⟩ := z
        rw [q2] at e1
        cases b with
        | false =>
          have e1 : lcE vs none ρ2 = _ := e1
          obtain ⟨f1, f2, f3⟩ := fin e1
          obtain ⟨ρ', g1, g2, g3⟩ := lcL_fold E F o e P l (F s x) ρ2 f1 f3 p1 fun y hy => k y (List.mem_cons_of_mem _ hy)
          refine ⟨ρ', ?_, g2, g3⟩
          dsimp only
          rw [g1]
          rw [outs, ← f2]
          rfl
        | true =>
          have e1 : lcY fe vs ρ2 = _ := e1
          unfold lcY bE at e1
          cases q3 : fe ρ2 with
          | none => rw [q3] at e1; cases e1
          | some z =>
            obtain ⟨r, ρ3⟩ := z
            rw [q3] at e1
            dsimp only [bDE] at e1
            cases q4 : frz ρ3 r with
            | none => rw [q4] at e1; cases e1
            | some z =>
              obtain ⟨y, ρ4⟩ := z
              rw [q4] at e1
              obtain ⟨f1, f2, f3⟩ := fin e1
              obtain ⟨ρ', g1, g2, g3⟩ := lcL_fold E F o e P l (F s x) ρ4 f1 f3 p1 fun y hy => k y (List.mem_cons_of_mem _ hy)
              refine ⟨ρ', ?_, g2, g3⟩
              dsimp only
              rw [q3]
              dsimp only
              rw [q4]
              dsimp only
              rw [g1, outs, ← f2]
              rfl
theorem lcK_fold {α τ : Type} {g : FG} {tt : FT} {fe : FE} {vs : List Nat} (E : τ → Env') (F : τ → α → τ) (o : τ → α → Option D) (e : α → D) (P : τ → Prop) (l : List α) (s : τ) (ρ : Env') (hp : plainAt ρ vs = true) (hw : wipeS ρ vs = E s) (h : P s)
    (k : ∀ x ∈ l, ∀ s, P s → lcW g tt fe vs (e x) (E s) = some (o s x, E (F s x)) ∧ P (F s x)) (hl : (outs F o s l).length ≤ 16777216) :
    lcK g tt fe vs (l.map e) ρ = some (.new (.lst (outs F o s l)), backS ρ vs (E (l.foldl F s))) ∧ P (l.foldl F s) := by
  obtain ⟨ρ', g1, g2, g3⟩ := lcL_fold E F o e P l s ρ hp hw h k
  refine ⟨?_, g3⟩
  unfold lcK bDsE
  rw [if_pos hp, g1]
  dsimp only
  rw [if_pos (by rw [sizeLine_eq]; exact hl), ← g2, back_wipe]
theorem outs_pure {α : Type} (o : α → Option D) : ∀ l : List α, outs (τ := Unit) (fun _ _ => ()) (fun _ x => o x) () l = l.filterMap o
  | [] => rfl
  | x :: l => by
    unfold outs
    rw [outs_pure o l, List.filterMap_cons]
    cases o x <;> rfl
/-- a comprehension that changes nothing -/
theorem lcK_pure {α : Type} {g : FG} {tt : FT} {fe : FE} {vs : List Nat} (o : α → Option D) (e : α → D) (l : List α) (ρ : Env') (hp : plainAt ρ vs = true) (hl : l.length ≤ 16777216)
    (k : ∀ x ∈ l, lcW g tt fe vs (e x) (wipeS ρ vs) = some (o x, wipeS ρ vs)) :
    lcK g tt fe vs (l.map e) ρ = some (.new (.lst (l.filterMap o)), ρ) := by
  have h := (lcK_fold (τ := Unit) (fun _ => wipeS ρ vs) (fun _ _ => ()) (fun _ x => o x) e (fun _ => True) l () ρ hp rfl trivial (fun x hx _ _ => ⟨k x hx, trivial⟩) (by rw [outs_pure]; exact Nat.le_trans (List.length_filterMap_le _ _) hl)).1
  rw [h, outs_pure, back_same (wipeS_twice ρ vs)]
theorem lcK_map {α : Type} {g : FG} {tt : FT} {fe : FE} {vs : List Nat} (o : α → D) (e : α → D) (l : List α) (ρ : Env') (hp : plainAt ρ vs = true) (hl : l.length ≤ 16777216)
    (k : ∀ x ∈ l, lcW g tt fe vs (e x) (wipeS ρ vs) = some (some (o x), wipeS ρ vs)) :
    lcK g tt fe vs (l.map e) ρ = some (.new (.lst (l.map o)), ρ) := by
  rw [lcK_pure (fun x => some (o x)) e l ρ hp hl k]
  congr
  induction l with
  | nil => rfl
  | cons x l ih => simp
end DL
set_option maxRecDepth 100000
set_option maxHeartbeats 4000000
namespace TA
open PySem PySem.Spec L2 DL
def d_SHAPES : List (Str × Str) := [("num", "n#"), ("copy", "nn"), ("add", "nnn"), ("make", "tnn"), ("get", "ntf"), ("put", "tfn"), ("let", "tt"), ("same", "ntt"), ("say", "n"), ("give", "t"), ("stir", "")]
def d_SETS : DL.D := (.tup [(.str "num"), (.str "copy"), (.str "add"), (.str "make"), (.str "get"), (.str "let"), (.str "same")])
def fs_is_word : FS :=
  (sRet (fAnd (f1 (gIsi "str") (fVar 0)) (fAnd (fChain gLe gLe (fC (.int 1)) (fN gLen (fCons (fVar 0) fNil)) (fC (.int 6))) (f2 gEq (fRm "str" gStrip (fVar 0) (fCons (fC (.str "abcdefghijklmnopqrstuvwxyz")) fNil)) (fC (.str ""))))))
def m_is_word : Mir := runD [.val] 1 (fs_is_word)
theorem mk_is_word (d0 : DL.D) : m_is_word [d0] = finD [.val] (fs_is_word [.val d0]) := rfl
def fs_is_whole : FS :=
  (sRet (fAnd (f1 (gIsi "int") (fVar 0)) (fAnd (fNot (f1 (gIsi "bool") (fVar 0))) (fChain gLe gLe (fVar 1) (fVar 0) (fVar 2)))))
def m_is_whole : Mir := runD [.val, .val, .val] 3 (fs_is_whole)
theorem mk_is_whole (d0 d1 d2 : DL.D) : m_is_whole [d0, d1, d2] = finD [.val, .val, .val] (fs_is_whole [.val d0, .val d1, .val d2]) := rfl
def fs_is_part (g_is_whole : Mir) (g_is_word : Mir) : FS :=
  (sSeq (sIf (fB (f2 gEq (fVar 0) (fC (.str "#")))) (sRet (fCall [.val, .val, .val] g_is_whole (fCons (fVar 1) (fCons (fC (.int 0)) (fCons (fC (.int 999)) fNil))))) sNext)
    (sSeq (sIf (fB (f2 gEq (fVar 0) (fC (.str "f")))) (sRet (fCall [.val, .val, .val] g_is_whole (fCons (fVar 1) (fCons (fC (.int 0)) (fCons (fC (.int 1)) fNil))))) sNext)
    (sRet (fCall [.val] g_is_word (fCons (fVar 1) fNil)))))
def m_is_part (g_is_whole : Mir) (g_is_word : Mir) : Mir := runD [.val, .val] 2 (fs_is_part g_is_whole g_is_word)
theorem mk_is_part (g_is_whole : Mir) (g_is_word : Mir) (d0 d1 : DL.D) : m_is_part g_is_whole g_is_word [d0, d1] = finD [.val, .val] (fs_is_part g_is_whole g_is_word [.val d0, .val d1]) := rfl
def fs_blocks_of : FS :=
  (sSeq (sIf (fB (f2 gEq (f2 gIx (fVar 0) (fC (.int 0))) (fC (.str "if")))) (sRet (fLst (fCons (f2 gIx (fVar 0) (fC (.int 2))) (fCons (f2 gIx (fVar 0) (fC (.int 3))) fNil)))) sNext)
    (sSeq (sIf (fB (f2 gEq (f2 gIx (fVar 0) (fC (.int 0))) (fC (.str "loop")))) (sRet (fLst (fCons (f2 gIx (fVar 0) (fC (.int 2))) fNil))) sNext)
    (sRet (fLst fNil))))
def m_blocks_of : Mir := runD [.val] 1 (fs_blocks_of)
theorem mk_blocks_of (d0 : DL.D) : m_blocks_of [d0] = finD [.val] (fs_blocks_of [.val d0]) := rfl
def lc0_is_row (g_is_part : Mir) (g_is_word : Mir) (g_is_block : Mir) : FE :=
  (fLc (fZip (fCons (fVar 2) (fCons (fSl (fVar 0) (foSome (fC (.int 1))) foNone) fNil))) (fgTup 2 (fgCons (fgName 3) (fgCons (fgName 4) fgNil))) ftYes (fCall [.val, .val] g_is_part (fCons (fVar 3) (fCons (fVar 4) fNil))) [3, 4])
def lc1_is_row (g_is_part : Mir) (g_is_word : Mir) (g_is_block : Mir) : FE :=
  (fLc (fItK (fSl (fVar 0) (foSome (fC (.int 2))) foNone)) (fgName 4) ftYes (fCall [.val, .val] g_is_block (fCons (fVar 4) (fCons (f2 gAdd (fVar 1) (fC (.int 1))) fNil))) [4])
def fs_is_row (g_is_part : Mir) (g_is_word : Mir) (g_is_block : Mir) : FS :=
  (sSeq (sIf (fOrT (fNotT (fB (f1 (gIsi "tuple") (fVar 0)))) (fOrT (fB (f2 gEq (fN gLen (fCons (fVar 0) fNil)) (fC (.int 0)))) (fNotT (fB (f1 (gIsi "str") (f2 gIx (fVar 0) (fC (.int 0)))))))) (sRet (fC (.bl false))) sNext)
    (sSeq (sIf (fB (f1 (gTabIn d_SHAPES false) (f2 gIx (fVar 0) (fC (.int 0))))) (sSeq (sSet 2 (f1 (gTabAt d_SHAPES) (f2 gIx (fVar 0) (fC (.int 0)))))
    (sSeq (sIf (fB (f2 gNe (fN gLen (fCons (fVar 0) fNil)) (f2 gAdd (fN gLen (fCons (fVar 2) fNil)) (fC (.int 1))))) (sRet (fC (.bl false))) sNext)
    (sRet (fN gAll (fCons (lc0_is_row g_is_part g_is_word g_is_block) fNil))))) sNext)
    (sSeq (sIf (fB (f2 gEq (f2 gIx (fVar 0) (fC (.int 0))) (fC (.str "if")))) (sRet (fAnd (f2 gEq (fN gLen (fCons (fVar 0) fNil)) (fC (.int 4))) (fAnd (fCall [.val] g_is_word (fCons (f2 gIx (fVar 0) (fC (.int 1))) fNil)) (fN gAll (fCons (lc1_is_row g_is_part g_is_word g_is_block) fNil))))) sNext)
    (sRet (fAnd (f2 gEq (f2 gIx (fVar 0) (fC (.int 0))) (fC (.str "loop"))) (fAnd (f2 gEq (fN gLen (fCons (fVar 0) fNil)) (fC (.int 3))) (fAnd (fCall [.val] g_is_word (fCons (f2 gIx (fVar 0) (fC (.int 1))) fNil)) (fCall [.val, .val] g_is_block (fCons (f2 gIx (fVar 0) (fC (.int 2))) (fCons (f2 gAdd (fVar 1) (fC (.int 1))) fNil))))))))))
def m_is_row (g_is_part : Mir) (g_is_word : Mir) (g_is_block : Mir) : Mir := runD [.val, .val] 5 (fs_is_row g_is_part g_is_word g_is_block)
theorem mk_is_row (g_is_part : Mir) (g_is_word : Mir) (g_is_block : Mir) (d0 d1 : DL.D) : m_is_row g_is_part g_is_word g_is_block [d0, d1] = finD [.val, .val] (fs_is_row g_is_part g_is_word g_is_block [.val d0, .val d1, .unset, .unset, .unset]) := rfl
def lc0_is_block (g_is_row : Mir) : FE :=
  (fLc (fItK (fVar 0)) (fgName 2) ftYes (fCall [.val, .val] g_is_row (fCons (fVar 2) (fCons (fVar 1) fNil))) [2])
def fs_is_block (g_is_row : Mir) : FS :=
  (sSeq (sIf (fOrT (fNotT (fB (f1 (gIsi "tuple") (fVar 0)))) (fOrT (fB (f2 gGt (fVar 1) (fC (.int 6)))) (fB (f2 gGt (fN gLen (fCons (fVar 0) fNil)) (fC (.int 400)))))) (sRet (fC (.bl false))) sNext)
    (sRet (fN gAll (fCons (lc0_is_block g_is_row) fNil))))
def m_is_block (g_is_row : Mir) : Mir := runD [.val, .val] 3 (fs_is_block g_is_row)
theorem mk_is_block (g_is_row : Mir) (d0 d1 : DL.D) : m_is_block g_is_row [d0, d1] = finD [.val, .val] (fs_is_block g_is_row [.val d0, .val d1, .unset]) := rfl
def lc0_count_of (g_blocks_of : Mir) (g_count_of : Mir) : FE :=
  (fLc (fIt (fCall [.val] g_blocks_of (fCons (fVar 1) fNil))) (fgName 2) ftYes (fCall [.val] g_count_of (fCons (fVar 2) fNil)) [2])
def lc1_count_of (g_blocks_of : Mir) (g_count_of : Mir) : FE :=
  (fLc (fItK (fVar 0)) (fgName 1) ftYes (f2 gAdd (fC (.int 1)) (fN gSum (fCons (lc0_count_of g_blocks_of g_count_of) fNil))) [1])
def fs_count_of (g_blocks_of : Mir) (g_count_of : Mir) : FS :=
  (sRet (fN gSum (fCons (lc1_count_of g_blocks_of g_count_of) fNil)))
def m_count_of (g_blocks_of : Mir) (g_count_of : Mir) : Mir := runD [.val] 3 (fs_count_of g_blocks_of g_count_of)
theorem mk_count_of (g_blocks_of : Mir) (g_count_of : Mir) (d0 : DL.D) : m_count_of g_blocks_of g_count_of [d0] = finD [.val] (fs_count_of g_blocks_of g_count_of [.val d0, .unset, .unset]) := rfl
def lc0_kinds_of : FE :=
  (fLc (fZip (fCons (f1 (gTabAt d_SHAPES) (f2 gIx (fVar 0) (fC (.int 0)))) (fCons (fSl (fVar 0) (foSome (fC (.int 1))) foNone) fNil))) (fgTup 2 (fgCons (fgName 1) (fgCons (fgName 2) fgNil))) (fB (f2 gIn (fVar 1) (fC (.str "nt")))) (fTup (fCons (fVar 2) (fCons (fVar 1) fNil))) [1, 2])
def fs_kinds_of : FS :=
  (sSeq (sIf (fB (f1 (gTabIn d_SHAPES false) (f2 gIx (fVar 0) (fC (.int 0))))) (sRet (lc0_kinds_of)) sNext)
    (sRet (fLst (fCons (fTup (fCons (f2 gIx (fVar 0) (fC (.int 1))) (fCons (fC (.str "n")) fNil))) fNil))))
def m_kinds_of : Mir := runD [.val] 3 (fs_kinds_of)
theorem mk_kinds_of (d0 : DL.D) : m_kinds_of [d0] = finD [.val] (fs_kinds_of [.val d0, .unset, .unset]) := rfl
def lb0_kinds_in (g_kinds_of : Mir) (g_blocks_of : Mir) (g_kinds_in : Mir) : FS :=
  (sFgt [3, 4] (sIf (fB (f2 gNe (fD2 mSetd (fVar 1) (fVar 3) (fVar 4)) (fVar 4))) (sRet (fC (.bl false))) sNext))
def lp0_kinds_in (g_kinds_of : Mir) (g_blocks_of : Mir) (g_kinds_in : Mir) : FS :=
  (sFor (fItK (fCall [.val] g_kinds_of (fCons (fVar 2) fNil))) (fgTup 2 (fgCons (fgName 3) (fgCons (fgName 4) fgNil))) (lb0_kinds_in g_kinds_of g_blocks_of g_kinds_in))
def lc0_kinds_in (g_kinds_of : Mir) (g_blocks_of : Mir) (g_kinds_in : Mir) : FE :=
  (fLc (fItK (fCall [.val] g_blocks_of (fCons (fVar 2) fNil))) (fgName 5) ftYes (fCall [.val, .io] g_kinds_in (fCons (fVar 5) (fCons (fVar 1) fNil))) [5])
def lb1_kinds_in (g_kinds_of : Mir) (g_blocks_of : Mir) (g_kinds_in : Mir) : FS :=
  (sFgt [2, 3, 4] (sSeq (lp0_kinds_in g_kinds_of g_blocks_of g_kinds_in)
    (sIf (fNotT (fB (fN gAll (fCons (lc0_kinds_in g_kinds_of g_blocks_of g_kinds_in) fNil)))) (sRet (fC (.bl false))) sNext)))
def lp1_kinds_in (g_kinds_of : Mir) (g_blocks_of : Mir) (g_kinds_in : Mir) : FS :=
  (sFor (fItK (fVar 0)) (fgName 2) (lb1_kinds_in g_kinds_of g_blocks_of g_kinds_in))
def fs_kinds_in (g_kinds_of : Mir) (g_blocks_of : Mir) (g_kinds_in : Mir) : FS :=
  (sSeq (lp1_kinds_in g_kinds_of g_blocks_of g_kinds_in)
    (sRet (fC (.bl true))))
def m_kinds_in (g_kinds_of : Mir) (g_blocks_of : Mir) (g_kinds_in : Mir) : Mir := runD [.val, .io] 6 (fs_kinds_in g_kinds_of g_blocks_of g_kinds_in)
theorem mk_kinds_in (g_kinds_of : Mir) (g_blocks_of : Mir) (g_kinds_in : Mir) (d0 d1 : DL.D) : m_kinds_in g_kinds_of g_blocks_of g_kinds_in [d0, d1] = finD [.val, .io] (fs_kinds_in g_kinds_of g_blocks_of g_kinds_in [.val d0, .own true d1, .unset, .unset, .unset, .unset]) := rfl
def lc0_reads (g_kinds_of : Mir) : FE :=
  (fLc (fItK (fCall [.val] g_kinds_of (fCons (fVar 0) fNil))) (fgTup 2 (fgCons (fgName 2) (fgCons (fgName 3) fgNil))) ftYes (fVar 2) [2, 3])
def fs_reads (g_kinds_of : Mir) : FS :=
  (sSeq (sSet 1 (lc0_reads g_kinds_of))
    (sSeq (sIf (fB (f2 gIn (f2 gIx (fVar 0) (fC (.int 0))) (fC d_SETS))) (sRet (fSl (fVar 1) (foSome (fC (.int 1))) foNone)) sNext)
    (sRet (fVar 1))))
def m_reads (g_kinds_of : Mir) : Mir := runD [.val] 4 (fs_reads g_kinds_of)
theorem mk_reads (g_kinds_of : Mir) (d0 : DL.D) : m_reads g_kinds_of [d0] = finD [.val] (fs_reads g_kinds_of [.val d0, .unset, .unset, .unset]) := rfl
def fs_sets : FS :=
  (sSeq (sIf (fB (f2 gIn (f2 gIx (fVar 0) (fC (.int 0))) (fC d_SETS))) (sRet (f2 gIx (fVar 0) (fC (.int 1)))) sNext)
    (sRet (fC .non)))
def m_sets : Mir := runD [.val] 1 (fs_sets)
theorem mk_sets (d0 : DL.D) : m_sets [d0] = finD [.val] (fs_sets [.val d0]) := rfl
def lc0_surely (g_reads : Mir) (g_blocks_of : Mir) (g_surely : Mir) (g_sets : Mir) : FE :=
  (fLc (fItK (fCall [.val] g_reads (fCons (fVar 2) fNil))) (fgName 4) ftYes (f2 gIn (fVar 4) (fVar 1)) [4])
def lc1_surely (g_reads : Mir) (g_blocks_of : Mir) (g_surely : Mir) (g_sets : Mir) : FE :=
  (fLc (fItK (fCall [.val] g_blocks_of (fCons (fVar 2) fNil))) (fgName 5) ftYes (fCall [.val, .bor] g_surely (fCons (fVar 5) (fCons (fVar 1) fNil))) [5])
def lb0_surely (g_reads : Mir) (g_blocks_of : Mir) (g_surely : Mir) (g_sets : Mir) : FS :=
  (sFgt [4] (sIf (fB (f2 gIn (fVar 4) (f2 gIx (fVar 3) (fC (.int 1))))) (sPut (fVar 1) (fVar 4) (fC (.bl true))) sNext))
def lp0_surely (g_reads : Mir) (g_blocks_of : Mir) (g_surely : Mir) (g_sets : Mir) : FS :=
  (sFor (fItK (f2 gIx (fVar 3) (fC (.int 0)))) (fgName 4) (lb0_surely g_reads g_blocks_of g_surely g_sets))
def lb1_surely (g_reads : Mir) (g_blocks_of : Mir) (g_surely : Mir) (g_sets : Mir) : FS :=
  (sFgt [2, 3, 4] (sSeq (sIf (fNotT (fB (fN gAll (fCons (lc0_surely g_reads g_blocks_of g_surely g_sets) fNil)))) (sRet (fC .non)) sNext)
    (sSeq (sSet 3 (lc1_surely g_reads g_blocks_of g_surely g_sets))
    (sSeq (sIf (fB (f2 gIn (fC .non) (fVar 3))) (sRet (fC .non)) sNext)
    (sSeq (sIf (fB (f2 gEq (f2 gIx (fVar 2) (fC (.int 0))) (fC (.str "if")))) (lp0_surely g_reads g_blocks_of g_surely g_sets) sNext)
    (sIf (fB (f2 (gIs not) (fCall [.val] g_sets (fCons (fVar 2) fNil)) (fC .non))) (sPut (fVar 1) (fCall [.val] g_sets (fCons (fVar 2) fNil)) (fC (.bl true))) sNext))))))
def lp1_surely (g_reads : Mir) (g_blocks_of : Mir) (g_surely : Mir) (g_sets : Mir) : FS :=
  (sFor (fItK (fVar 0)) (fgName 2) (lb1_surely g_reads g_blocks_of g_surely g_sets))
def fs_surely (g_reads : Mir) (g_blocks_of : Mir) (g_surely : Mir) (g_sets : Mir) : FS :=
  (sSeq (sSet 1 (fN gDict (fCons (fVar 1) fNil)))
    (sSeq (lp1_surely g_reads g_blocks_of g_surely g_sets)
    (sRet (fVar 1))))
def m_surely (g_reads : Mir) (g_blocks_of : Mir) (g_surely : Mir) (g_sets : Mir) : Mir := runD [.val, .bor] 6 (fs_surely g_reads g_blocks_of g_surely g_sets)
theorem mk_surely (g_reads : Mir) (g_blocks_of : Mir) (g_surely : Mir) (g_sets : Mir) (d0 d1 : DL.D) : m_surely g_reads g_blocks_of g_surely g_sets [d0, d1] = finD [.val, .bor] (fs_surely g_reads g_blocks_of g_surely g_sets [.val d0, .bor d1, .unset, .unset, .unset, .unset]) := rfl
def lc0_is_program (g_is_word : Mir) (g_is_block : Mir) (g_count_of : Mir) (g_kinds_in : Mir) (g_surely : Mir) : FE :=
  (fLc (fItK (f2 gIx (fVar 0) (fC (.int 0)))) (fgName 2) ftYes (fCall [.val] g_is_word (fCons (fVar 2) fNil)) [2])
def lc1_is_program (g_is_word : Mir) (g_is_block : Mir) (g_count_of : Mir) (g_kinds_in : Mir) (g_surely : Mir) : FE :=
  (fLc (fItK (f2 gIx (fVar 0) (fC (.int 0)))) (fgName 2) ftYes (fTup (fCons (fVar 2) (fCons (fC (.str "n")) fNil))) [2])
def lc2_is_program (g_is_word : Mir) (g_is_block : Mir) (g_count_of : Mir) (g_kinds_in : Mir) (g_surely : Mir) : FE :=
  (fLc (fItK (f2 gIx (fVar 0) (fC (.int 0)))) (fgName 2) ftYes (fTup (fCons (fVar 2) (fCons (fC (.bl true)) fNil))) [2])
def fs_is_program (g_is_word : Mir) (g_is_block : Mir) (g_count_of : Mir) (g_kinds_in : Mir) (g_surely : Mir) : FS :=
  (sSeq (sIf (fOrT (fNotT (fB (f1 (gIsi "tuple") (fVar 0)))) (fOrT (fB (f2 gNe (fN gLen (fCons (fVar 0) fNil)) (fC (.int 2)))) (fOrT (fNotT (fB (f1 (gIsi "tuple") (f2 gIx (fVar 0) (fC (.int 0)))))) (fB (f2 gGt (fN gLen (fCons (f2 gIx (fVar 0) (fC (.int 0))) fNil)) (fC (.int 3))))))) (sRet (fC (.bl false))) sNext)
    (sSeq (sIf (fOrT (fNotT (fB (fN gAll (fCons (lc0_is_program g_is_word g_is_block g_count_of g_kinds_in g_surely) fNil)))) (fB (f2 gNe (f1 gLenSet (f2 gIx (fVar 0) (fC (.int 0)))) (fN gLen (fCons (f2 gIx (fVar 0) (fC (.int 0))) fNil))))) (sRet (fC (.bl false))) sNext)
    (sSeq (sIf (fOrT (fNotT (fB (fCall [.val, .val] g_is_block (fCons (f2 gIx (fVar 0) (fC (.int 1))) (fCons (fC (.int 0)) fNil))))) (fB (f2 gGt (fCall [.val] g_count_of (fCons (f2 gIx (fVar 0) (fC (.int 1))) fNil)) (fC (.int 400))))) (sRet (fC (.bl false))) sNext)
    (sSeq (sSet 1 (fN gDict (fCons (lc1_is_program g_is_word g_is_block g_count_of g_kinds_in g_surely) fNil)))
    (sSeq (sIf (fNotT (fB (fCall [.val, .io] g_kinds_in (fCons (f2 gIx (fVar 0) (fC (.int 1))) (fCons (fVar 1) fNil))))) (sRet (fC (.bl false))) sNext)
    (sRet (f2 (gIs not) (fCall [.val, .bor] g_surely (fCons (f2 gIx (fVar 0) (fC (.int 1))) (fCons (fN gDict (fCons (lc2_is_program g_is_word g_is_block g_count_of g_kinds_in g_surely) fNil)) fNil))) (fC .non))))))))
def m_is_program (g_is_word : Mir) (g_is_block : Mir) (g_count_of : Mir) (g_kinds_in : Mir) (g_surely : Mir) : Mir := runD [.val] 3 (fs_is_program g_is_word g_is_block g_count_of g_kinds_in g_surely)
theorem mk_is_program (g_is_word : Mir) (g_is_block : Mir) (g_count_of : Mir) (g_kinds_in : Mir) (g_surely : Mir) (d0 : DL.D) : m_is_program g_is_word g_is_block g_count_of g_kinds_in g_surely [d0] = finD [.val] (fs_is_program g_is_word g_is_block g_count_of g_kinds_in g_surely [.val d0, .unset, .unset]) := rfl
def fs__law_cell_at : FS :=
  (sSeq (sIf (fB (f2 gLt (fVar 1) (fN gLen (fCons (fVar 0) fNil)))) (sRet (f2 gIx (fVar 0) (fVar 1))) sNext)
    (sSeq (sIf (fB (f2 gEq (fVar 0) (fLst fNil))) (sRet (fC (.int 0))) sNext)
    (sRet (f2 gAdd (f2 gMul (f2 gIx (fVar 0) (f2 gMod (fVar 1) (fN gLen (fCons (fVar 0) fNil)))) (fC (.int 31))) (fVar 1)))))
def m__law_cell_at : Mir := runD [.val, .val] 2 (fs__law_cell_at)
theorem mk__law_cell_at (d0 d1 : DL.D) : m__law_cell_at [d0, d1] = finD [.val, .val] (fs__law_cell_at [.val d0, .val d1]) := rfl
def fs__law_mixed (g__law_cell_at : Mir) : FS :=
  (sSeq (sSet 3 (f2 gMod (f2 gMul (f2 gAdd (f2 gAdd (fCall [.val, .val] g__law_cell_at (fCons (fVar 0) (fCons (fVar 1) fNil))) (f2 gMul (fC (.int 7919)) (fVar 1))) (fC (.int 1))) (fC (.int 48271))) (fC (.int 2147483647))))
    (sRet (f2 gMod (f2 gMod (f2 gAdd (f2 gAdd (f2 gMul (fVar 3) (fVar 3)) (f2 gMul (fC (.int 7)) (fVar 3))) (fVar 1)) (fC (.int 2147483629))) (fVar 2))))
def m__law_mixed (g__law_cell_at : Mir) : Mir := runD [.val, .val, .val] 4 (fs__law_mixed g__law_cell_at)
theorem mk__law_mixed (g__law_cell_at : Mir) (d0 d1 d2 : DL.D) : m__law_mixed g__law_cell_at [d0, d1, d2] = finD [.val, .val, .val] (fs__law_mixed g__law_cell_at [.val d0, .val d1, .val d2, .unset]) := rfl
def fs__law_draw (g__law_mixed : Mir) : FS :=
  (sSeq (sDrop (fMu "list" mAppend (fVar 1) (fCons (fC (.int 0)) fNil)))
    (sRet (fCall [.val, .val, .val] g__law_mixed (fCons (fVar 0) (fCons (fN gLen (fCons (fVar 1) fNil)) (fCons (fVar 2) fNil))))))
def m__law_draw (g__law_mixed : Mir) : Mir := runD [.val, .io, .val] 3 (fs__law_draw g__law_mixed)
theorem mk__law_draw (g__law_mixed : Mir) (d0 d1 d2 : DL.D) : m__law_draw g__law_mixed [d0, d1, d2] = finD [.val, .io, .val] (fs__law_draw g__law_mixed [.val d0, .own true d1, .val d2]) := rfl
def fs__law_pick (g__law_draw : Mir) : FS :=
  (sRet (f2 gIx (fVar 2) (fCall [.val, .io, .val] g__law_draw (fCons (fVar 0) (fCons (fVar 1) (fCons (fN gLen (fCons (fVar 2) fNil)) fNil))))))
def m__law_pick (g__law_draw : Mir) : Mir := runD [.val, .io, .bor] 3 (fs__law_pick g__law_draw)
theorem mk__law_pick (g__law_draw : Mir) (d0 d1 d2 : DL.D) : m__law_pick g__law_draw [d0, d1, d2] = finD [.val, .io, .bor] (fs__law_pick g__law_draw [.val d0, .own true d1, .bor d2]) := rfl
def lc0__law_simple (g__law_draw : Mir) (g__law_pick : Mir) : FE :=
  (fLc (fItK (f2 gIx (fVar 2) (fC (.int 0)))) (fgName 13) (fB (f2 gIn (fVar 13) (fVar 3))) (fVar 13) [13])
def lc1__law_simple (g__law_draw : Mir) (g__law_pick : Mir) : FE :=
  (fLc (fItK (f2 gIx (fVar 2) (fC (.int 1)))) (fgName 13) (fB (f2 gIn (fVar 13) (fVar 3))) (fVar 13) [13])
def fs__law_simple (g__law_draw : Mir) (g__law_pick : Mir) : FS :=
  (sSeq (sSet 4 (lc0__law_simple g__law_draw g__law_pick))
    (sSeq (sSet 5 (lc1__law_simple g__law_draw g__law_pick))
    (sSeq (sSet 6 (fCall [.val, .io, .val] g__law_draw (fCons (fVar 0) (fCons (fVar 1) (fCons (fC (.int 28)) fNil)))))
    (sSeq (sSet 7 (fCall [.val, .io, .bor] g__law_pick (fCons (fVar 0) (fCons (fVar 1) (fCons (f2 gIx (fVar 2) (fC (.int 0))) fNil)))))
    (sSeq (sIf (fOrT (fB (f2 gEq (fVar 4) (fLst fNil))) (fB (f2 gLt (fVar 6) (fC (.int 2))))) (sRet (fTup (fCons (fC (.str "num")) (fCons (fVar 7) (fCons (fCall [.val, .io, .bor] g__law_pick (fCons (fVar 0) (fCons (fVar 1) (fCons (fLst (fCons (fC (.int 0)) (fCons (fC (.int 1)) (fCons (fC (.int 2)) (fCons (fC (.int 999)) (fCons (fCall [.val, .io, .val] g__law_draw (fCons (fVar 0) (fCons (fVar 1) (fCons (fC (.int 1000)) fNil)))) fNil)))))) fNil)))) fNil))))) sNext)
    (sSeq (sSet 8 (fCall [.val, .io, .bor] g__law_pick (fCons (fVar 0) (fCons (fVar 1) (fCons (fVar 4) fNil)))))
    (sSeq (sSet 9 (fCall [.val, .io, .bor] g__law_pick (fCons (fVar 0) (fCons (fVar 1) (fCons (fVar 4) fNil)))))
    (sSeq (sIf (fB (f2 gLt (fVar 6) (fC (.int 6)))) (sRet (fCall [.val, .io, .bor] g__law_pick (fCons (fVar 0) (fCons (fVar 1) (fCons (fLst (fCons (fTup (fCons (fC (.str "copy")) (fCons (fVar 7) (fCons (fVar 8) fNil)))) (fCons (fTup (fCons (fC (.str "copy")) (fCons (fVar 7) (fCons (fVar 9) fNil)))) (fCons (fTup (fCons (fC (.str "add")) (fCons (fVar 7) (fCons (fVar 8) (fCons (fVar 9) fNil))))) fNil)))) fNil))))) sNext)
    (sSeq (sSet 10 (fCall [.val, .io, .bor] g__law_pick (fCons (fVar 0) (fCons (fVar 1) (fCons (f2 gIx (fVar 2) (fC (.int 1))) fNil)))))
    (sSeq (sIf (fOrT (fB (f2 gEq (fVar 5) (fLst fNil))) (fB (f2 gLt (fVar 6) (fC (.int 10))))) (sRet (fTup (fCons (fC (.str "make")) (fCons (fVar 10) (fCons (fVar 8) (fCons (fVar 9) fNil)))))) sNext)
    (sSeq (sSet 11 (fCall [.val, .io, .bor] g__law_pick (fCons (fVar 0) (fCons (fVar 1) (fCons (fVar 5) fNil)))))
    (sSeq (sIf (fB (f2 gLt (fVar 6) (fC (.int 13)))) (sRet (fTup (fCons (fC (.str "get")) (fCons (fVar 7) (fCons (fVar 11) (fCons (fCall [.val, .io, .val] g__law_draw (fCons (fVar 0) (fCons (fVar 1) (fCons (fC (.int 2)) fNil)))) fNil)))))) sNext)
    (sSeq (sIf (fB (f2 gLt (fVar 6) (fC (.int 16)))) (sRet (fTup (fCons (fC (.str "put")) (fCons (fVar 11) (fCons (fCall [.val, .io, .val] g__law_draw (fCons (fVar 0) (fCons (fVar 1) (fCons (fC (.int 2)) fNil)))) (fCons (fVar 8) fNil)))))) sNext)
    (sSeq (sIf (fB (f2 gLt (fVar 6) (fC (.int 18)))) (sRet (fTup (fCons (fC (.str "let")) (fCons (fVar 10) (fCons (fVar 11) fNil))))) sNext)
    (sSeq (sIf (fB (f2 gLt (fVar 6) (fC (.int 20)))) (sRet (fTup (fCons (fC (.str "same")) (fCons (fVar 7) (fCons (fVar 11) (fCons (fCall [.val, .io, .bor] g__law_pick (fCons (fVar 0) (fCons (fVar 1) (fCons (fVar 5) fNil)))) fNil)))))) sNext)
    (sSeq (sSet 12 (fMulL (fLst (fCons (fTup (fCons (fC (.str "say")) (fCons (fVar 8) fNil))) (fCons (fTup (fCons (fC (.str "say")) (fCons (fVar 9) fNil))) (fCons (fTup (fCons (fC (.str "give")) (fCons (fVar 11) fNil))) (fCons (fTup (fCons (fC (.str "stir")) fNil)) fNil))))) 2))
    (sRet (f2 gIx (fVar 12) (f2 gSub (fVar 6) (fC (.int 20)))))))))))))))))))))
def m__law_simple (g__law_draw : Mir) (g__law_pick : Mir) : Mir := runD [.val, .io, .val, .bor] 14 (fs__law_simple g__law_draw g__law_pick)
theorem mk__law_simple (g__law_draw : Mir) (g__law_pick : Mir) (d0 d1 d2 d3 : DL.D) : m__law_simple g__law_draw g__law_pick [d0, d1, d2, d3] = finD [.val, .io, .val, .bor] (fs__law_simple g__law_draw g__law_pick [.val d0, .own true d1, .val d2, .bor d3, .unset, .unset, .unset, .unset, .unset, .unset, .unset, .unset, .unset, .unset]) := rfl
def lc0__law_block (g__law_draw : Mir) (g__law_block : Mir) (g__law_pick : Mir) (g__law_simple : Mir) : FE :=
  (fLc (fItK (f2 gIx (fVar 2) (fC (.int 0)))) (fgName 14) (fB (f2 gIn (fVar 14) (fVar 3))) (fVar 14) [14])
def lb0__law_block (g__law_draw : Mir) (g__law_block : Mir) (g__law_pick : Mir) (g__law_simple : Mir) : FS :=
  (sFgt [14] (sIf (fB (f2 gIn (fVar 14) (fVar 11))) (sPut (fVar 3) (fVar 14) (fC (.bl true))) sNext))
def lp0__law_block (g__law_draw : Mir) (g__law_block : Mir) (g__law_pick : Mir) (g__law_simple : Mir) : FS :=
  (sFor (fItK (fVar 10)) (fgName 14) (lb0__law_block g__law_draw g__law_block g__law_pick g__law_simple))
def lb1__law_block (g__law_draw : Mir) (g__law_block : Mir) (g__law_pick : Mir) (g__law_simple : Mir) : FS :=
  (sFgt [7, 8, 9, 10, 11, 12, 13, 14, 15, 16, 17] (sSeq (sSet 8 (fCall [.val, .io, .val] g__law_draw (fCons (fVar 0) (fCons (fVar 1) (fCons (fC (.int 9)) fNil)))))
    (sSeq (sSet 9 (lc0__law_block g__law_draw g__law_block g__law_pick g__law_simple))
    (sIf (fAndT (fB (f2 gLt (fVar 8) (fC (.int 2)))) (fAndT (fB (f2 gGt (fVar 5) (fC (.int 0)))) (fB (f2 gNe (fVar 9) (fLst fNil))))) (sSeq (sSet 10 (fN gDict (fCons (fVar 3) fNil)))
    (sSeq (sSet 11 (fN gDict (fCons (fVar 3) fNil)))
    (sSeq (sSet 12 (fCall [.val, .io, .val, .io, .val, .val] g__law_block (fCons (fVar 0) (fCons (fVar 1) (fCons (fVar 2) (fCons (fVar 10) (fCons (f2 gAdd (f2 gFDiv (fVar 4) (fC (.int 2))) (fC (.int 1))) (fCons (f2 gSub (fVar 5) (fC (.int 1))) fNil))))))))
    (sSeq (sSet 13 (fCall [.val, .io, .val, .io, .val, .val] g__law_block (fCons (fVar 0) (fCons (fVar 1) (fCons (fVar 2) (fCons (fVar 11) (fCons (f2 gAdd (f2 gFDiv (fVar 4) (fC (.int 2))) (fC (.int 1))) (fCons (f2 gSub (fVar 5) (fC (.int 1))) fNil))))))))
    (sSeq (sDrop (fMu "list" mAppend (fVar 6) (fCons (fTup (fCons (fC (.str "if")) (fCons (fCall [.val, .io, .bor] g__law_pick (fCons (fVar 0) (fCons (fVar 1) (fCons (fVar 9) fNil)))) (fCons (fVar 12) (fCons (fVar 13) fNil))))) fNil)))
    (lp0__law_block g__law_draw g__law_block g__law_pick g__law_simple)))))) (sIf (fAndT (fB (f2 gEq (fVar 8) (fC (.int 2)))) (fAndT (fB (f2 gGt (fVar 5) (fC (.int 0)))) (fB (f2 gNe (fVar 9) (fLst fNil))))) (sSeq (sSet 15 (f2 gIx (fLst (fCons (f2 gSub (fVar 5) (fC (.int 1))) (fCons (fC (.int 0)) (fCons (fC (.int 0)) (fCons (fC (.int 0)) fNil))))) (fCall [.val, .io, .val] g__law_draw (fCons (fVar 0) (fCons (fVar 1) (fCons (fC (.int 4)) fNil))))))
    (sSeq (sSet 16 (fCallN [.val, .io, .val, .io, .val, .val] g__law_block 3 (fCons (fVar 0) (fCons (fVar 1) (fCons (fVar 2) (fConsN (fN gDict (fCons (fVar 3) fNil)) (fCons (f2 gAdd (f2 gFDiv (fVar 4) (fC (.int 2))) (fC (.int 1))) (fCons (fVar 15) fNil))))))))
    (sDrop (fMu "list" mAppend (fVar 6) (fCons (fTup (fCons (fC (.str "loop")) (fCons (fCall [.val, .io, .bor] g__law_pick (fCons (fVar 0) (fCons (fVar 1) (fCons (fVar 9) fNil)))) (fCons (fVar 16) fNil)))) fNil))))) (sSeq (sSet 17 (fCall [.val, .io, .val, .bor] g__law_simple (fCons (fVar 0) (fCons (fVar 1) (fCons (fVar 2) (fCons (fVar 3) fNil))))))
    (sSeq (sDrop (fMu "list" mAppend (fVar 6) (fCons (fVar 17) fNil)))
    (sIf (fB (f2 gIn (f2 gIx (fVar 17) (fC (.int 0))) (fTup (fCons (fC (.str "num")) (fCons (fC (.str "copy")) (fCons (fC (.str "add")) (fCons (fC (.str "make")) (fCons (fC (.str "get")) (fCons (fC (.str "let")) (fCons (fC (.str "same")) fNil)))))))))) (sPut (fVar 3) (f2 gIx (fVar 17) (fC (.int 1))) (fC (.bl true))) sNext))))))))
def lp1__law_block (g__law_draw : Mir) (g__law_block : Mir) (g__law_pick : Mir) (g__law_simple : Mir) : FS :=
  (sFor (fRng1 (fCons (fCall [.val, .io, .val] g__law_draw (fCons (fVar 0) (fCons (fVar 1) (fCons (f2 gAdd (fVar 4) (fC (.int 1))) fNil)))) fNil)) (fgName 7) (lb1__law_block g__law_draw g__law_block g__law_pick g__law_simple))
def fs__law_block (g__law_draw : Mir) (g__law_block : Mir) (g__law_pick : Mir) (g__law_simple : Mir) : FS :=
  (sSeq (sSet 6 (fLst fNil))
    (sSeq (lp1__law_block g__law_draw g__law_block g__law_pick g__law_simple)
    (sRet (fN gTuple (fCons (fVar 6) fNil)))))
def m__law_block (g__law_draw : Mir) (g__law_block : Mir) (g__law_pick : Mir) (g__law_simple : Mir) : Mir := runD [.val, .io, .val, .io, .val, .val] 18 (fs__law_block g__law_draw g__law_block g__law_pick g__law_simple)
theorem mk__law_block (g__law_draw : Mir) (g__law_block : Mir) (g__law_pick : Mir) (g__law_simple : Mir) (d0 d1 d2 d3 d4 d5 : DL.D) : m__law_block g__law_draw g__law_block g__law_pick g__law_simple [d0, d1, d2, d3, d4, d5] = finD [.val, .io, .val, .io, .val, .val] (fs__law_block g__law_draw g__law_block g__law_pick g__law_simple [.val d0, .own true d1, .val d2, .own true d3, .val d4, .val d5, .unset, .unset, .unset, .unset, .unset, .unset, .unset, .unset, .unset, .unset, .unset, .unset]) := rfl
def lb0__law_names (g__law_draw : Mir) (g__law_pick : Mir) : FS :=
  (sFgt [3] (sSet 2 (f2 gAdd (fVar 2) (fCall [.val, .io, .bor] g__law_pick (fCons (fVar 0) (fCons (fVar 1) (fCons (fC (.str "abcdefghijklmnopqrstuvwxyz")) fNil)))))))
def lp0__law_names (g__law_draw : Mir) (g__law_pick : Mir) : FS :=
  (sFor (fRng1 (fCons (fCall [.val, .io, .val] g__law_draw (fCons (fVar 0) (fCons (fVar 1) (fCons (fC (.int 4)) fNil)))) fNil)) (fgName 3) (lb0__law_names g__law_draw g__law_pick))
def lc0__law_names (g__law_draw : Mir) (g__law_pick : Mir) : FE :=
  (fLc (fItK (fC (.str "tuv"))) (fgName 5) ftYes (f2 gAdd (fVar 5) (fVar 2)) [5])
def lc1__law_names (g__law_draw : Mir) (g__law_pick : Mir) : FE :=
  (fLc (fItK (fVar 4)) (fgName 5) ftYes (f2 gAdd (fVar 5) (fVar 2)) [5])
def fs__law_names (g__law_draw : Mir) (g__law_pick : Mir) : FS :=
  (sSeq (sSet 2 (fC (.str "")))
    (sSeq (lp0__law_names g__law_draw g__law_pick)
    (sSeq (sSet 4 (fCall [.val, .io, .bor] g__law_pick (fCons (fVar 0) (fCons (fVar 1) (fCons (fLst (fCons (fC (.str "abcd")) (fCons (fC (.str "dcba")) (fCons (fC (.str "bdac")) fNil)))) fNil)))))
    (sRet (fTup (fCons (lc1__law_names g__law_draw g__law_pick) (fCons (lc0__law_names g__law_draw g__law_pick) fNil)))))))
def m__law_names (g__law_draw : Mir) (g__law_pick : Mir) : Mir := runD [.val, .io] 6 (fs__law_names g__law_draw g__law_pick)
theorem mk__law_names (g__law_draw : Mir) (g__law_pick : Mir) (d0 d1 : DL.D) : m__law_names g__law_draw g__law_pick [d0, d1] = finD [.val, .io] (fs__law_names g__law_draw g__law_pick [.val d0, .own true d1, .unset, .unset, .unset, .unset]) := rfl
def lc0__law_program (g__law_names : Mir) (g__law_draw : Mir) (g__law_block : Mir) : FE :=
  (fLc (fItK (fVar 5)) (fgName 7) ftYes (fTup (fCons (fVar 7) (fCons (fC (.bl true)) fNil))) [7])
def fs__law_program (g__law_names : Mir) (g__law_draw : Mir) (g__law_block : Mir) : FS :=
  (sSeq (sSet 4 (fCall [.val, .io] g__law_names (fCons (fVar 0) (fCons (fVar 1) fNil))))
    (sSeq (sSet 5 (fN gTuple (fCons (fSl (f2 gIx (fVar 4) (fC (.int 0))) foNone (foSome (fCall [.val, .io, .val] g__law_draw (fCons (fVar 0) (fCons (fVar 1) (fCons (fC (.int 4)) fNil)))))) fNil)))
    (sSeq (sSet 6 (fN gDict (fCons (lc0__law_program g__law_names g__law_draw g__law_block) fNil)))
    (sRet (fTup (fCons (fVar 5) (fCons (fCall [.val, .io, .val, .io, .val, .val] g__law_block (fCons (fVar 0) (fCons (fVar 1) (fCons (fVar 4) (fCons (fVar 6) (fCons (fVar 2) (fCons (fVar 3) fNil))))))) fNil)))))))
def m__law_program (g__law_names : Mir) (g__law_draw : Mir) (g__law_block : Mir) : Mir := runD [.val, .io, .val, .val] 8 (fs__law_program g__law_names g__law_draw g__law_block)
theorem mk__law_program (g__law_names : Mir) (g__law_draw : Mir) (g__law_block : Mir) (d0 d1 d2 d3 : DL.D) : m__law_program g__law_names g__law_draw g__law_block [d0, d1, d2, d3] = finD [.val, .io, .val, .val] (fs__law_program g__law_names g__law_draw g__law_block [.val d0, .own true d1, .val d2, .val d3, .unset, .unset, .unset, .unset]) := rfl
end TA
set_option maxRecDepth 100000
set_option maxHeartbeats 4000000
namespace TA
open PySem PySem.Spec L2 DL
def fs_need_program (g_is_program : Mir) : FS :=
  (sIf (fNotT (fB (fCall [.val] g_is_program (fCons (fVar 0) fNil)))) sNever sNext)
def m_need_program (g_is_program : Mir) : Mir := runD [.val] 1 (fs_need_program g_is_program)
theorem mk_need_program (g_is_program : Mir) (d0 : DL.D) : m_need_program g_is_program [d0] = finD [.val] (fs_need_program g_is_program [.val d0]) := rfl
def lb0_rows_in (g_blocks_of : Mir) (g_rows_in : Mir) : FS :=
  (sFgt [5, 6] (sDrop (fMu "list" mExtend (fVar 2) (fCons (fCall [.val, .val] g_rows_in (fCons (fVar 6) (fCons (f2 gAdd (fVar 1) (fTup (fCons (fVar 3) (fCons (fVar 5) fNil)))) fNil))) fNil))))
def lp0_rows_in (g_blocks_of : Mir) (g_rows_in : Mir) : FS :=
  (sFor (fEnum (fCons (fCall [.val] g_blocks_of (fCons (fVar 4) fNil)) fNil)) (fgTup 2 (fgCons (fgName 5) (fgCons (fgName 6) fgNil))) (lb0_rows_in g_blocks_of g_rows_in))
def lb1_rows_in (g_blocks_of : Mir) (g_rows_in : Mir) : FS :=
  (sFgt [3, 4, 5, 6] (sSeq (sDrop (fMu "list" mAppend (fVar 2) (fCons (fTup (fCons (fVar 4) (fCons (f2 gAdd (fVar 1) (fTup (fCons (fVar 3) fNil))) fNil))) fNil)))
    (lp0_rows_in g_blocks_of g_rows_in)))
def lp1_rows_in (g_blocks_of : Mir) (g_rows_in : Mir) : FS :=
  (sFor (fEnum (fCons (fVar 0) fNil)) (fgTup 2 (fgCons (fgName 3) (fgCons (fgName 4) fgNil))) (lb1_rows_in g_blocks_of g_rows_in))
def fs_rows_in (g_blocks_of : Mir) (g_rows_in : Mir) : FS :=
  (sSeq (sSet 2 (fLst fNil))
    (sSeq (lp1_rows_in g_blocks_of g_rows_in)
    (sRet (fVar 2))))
def m_rows_in (g_blocks_of : Mir) (g_rows_in : Mir) : Mir := runD [.val, .val] 7 (fs_rows_in g_blocks_of g_rows_in)
theorem mk_rows_in (g_blocks_of : Mir) (g_rows_in : Mir) (d0 d1 : DL.D) : m_rows_in g_blocks_of g_rows_in [d0, d1] = finD [.val, .val] (fs_rows_in g_blocks_of g_rows_in [.val d0, .val d1, .unset, .unset, .unset, .unset, .unset]) := rfl
def lb0_holders : FS :=
  (sFgt [5] (sDrop (fD2 mSetd (fVar 1) (fVar 5) (fLst (fCons (fVar 5) fNil)))))
def lp0_holders : FS :=
  (sFor (fItK (fVar 4)) (fgName 5) (lb0_holders))
def lb1_holders : FS :=
  (sFgt [5] (sPut (fVar 1) (fVar 5) (fVar 6)))
def lp1_holders : FS :=
  (sFor (fItK (fVar 6)) (fgName 5) (lb1_holders))
def lb2_holders : FS :=
  (sFgt [2, 3, 4, 5, 6] (sSeq (sSet 4 (fIfE (fB (f2 gIn (f2 gIx (fVar 2) (fC (.int 0))) (fTup (fCons (fC (.str "make")) (fCons (fC (.str "give")) fNil))))) (fLst (fCons (f2 gIx (fVar 2) (fC (.int 1))) fNil)) (fIfE (fB (f2 gEq (f2 gIx (fVar 2) (fC (.int 0))) (fC (.str "let")))) (fN gList (fCons (fSl (fVar 2) (foSome (fC (.int 1))) (foSome (fC (.int 3)))) fNil)) (fLst fNil))))
    (sSeq (lp0_holders)
    (sIf (fAndT (fB (f2 gEq (f2 gIx (fVar 2) (fC (.int 0))) (fC (.str "let")))) (fB (f2 gNe (f2 gIx (fVar 1) (f2 gIx (fVar 2) (fC (.int 1)))) (f2 gIx (fVar 1) (f2 gIx (fVar 2) (fC (.int 2))))))) (sSeq (sSet 6 (f2 gAdd (f2 gIx (fVar 1) (f2 gIx (fVar 2) (fC (.int 1)))) (f2 gIx (fVar 1) (f2 gIx (fVar 2) (fC (.int 2))))))
    (lp1_holders)) sNext))))
def lp2_holders : FS :=
  (sFor (fItK (fVar 0)) (fgTup 2 (fgCons (fgName 2) (fgCons (fgName 3) fgNil))) (lb2_holders))
def fs_holders : FS :=
  (sSeq (sSet 1 fDct)
    (sSeq (lp2_holders)
    (sRet (fVar 1))))
def m_holders : Mir := runD [.val] 7 (fs_holders)
theorem mk_holders (d0 : DL.D) : m_holders [d0] = finD [.val] (fs_holders [.val d0, .unset, .unset, .unset, .unset, .unset, .unset]) := rfl
def lb0_may_give (g_need_program : Mir) (g_rows_in : Mir) (g_holders : Mir) : FS :=
  (sFgt [6] (sPut (fVar 3) (fVar 6) (fC (.bl true))))
def lp0_may_give (g_need_program : Mir) (g_rows_in : Mir) (g_holders : Mir) : FS :=
  (sFor (fItK (f2 gIx (fVar 2) (f2 gIx (fVar 4) (fC (.int 1))))) (fgName 6) (lb0_may_give g_need_program g_rows_in g_holders))
def lb1_may_give (g_need_program : Mir) (g_rows_in : Mir) (g_holders : Mir) : FS :=
  (sFgt [4, 5, 6] (sIf (fB (f2 gEq (f2 gIx (fVar 4) (fC (.int 0))) (fC (.str "give")))) (lp0_may_give g_need_program g_rows_in g_holders) sNext))
def lp1_may_give (g_need_program : Mir) (g_rows_in : Mir) (g_holders : Mir) : FS :=
  (sFor (fItK (fVar 1)) (fgTup 2 (fgCons (fgName 4) (fgCons (fgName 5) fgNil))) (lb1_may_give g_need_program g_rows_in g_holders))
def lc0_may_give (g_need_program : Mir) (g_rows_in : Mir) (g_holders : Mir) : FE :=
  (fLc (fItK (fVar 1)) (fgTup 2 (fgCons (fgName 4) (fgCons (fgName 5) fgNil))) (fAndT (fB (f2 gEq (f2 gIx (fVar 4) (fC (.int 0))) (fC (.str "make")))) (fB (f2 gIn (f2 gIx (fVar 4) (fC (.int 1))) (fVar 3)))) (fVar 5) [4, 5])
def fs_may_give (g_need_program : Mir) (g_rows_in : Mir) (g_holders : Mir) : FS :=
  (sSeq (sDrop (fCall [.val] g_need_program (fCons (fVar 0) fNil)))
    (sSeq (sSet 1 (fCall [.val, .val] g_rows_in (fCons (f2 gIx (fVar 0) (fC (.int 1))) (fCons (fTup fNil) fNil))))
    (sSeq (sSet 2 (fCall [.val] g_holders (fCons (fVar 1) fNil)))
    (sSeq (sSet 3 fDct)
    (sSeq (lp1_may_give g_need_program g_rows_in g_holders)
    (sRet (lc0_may_give g_need_program g_rows_in g_holders)))))))
def m_may_give (g_need_program : Mir) (g_rows_in : Mir) (g_holders : Mir) : Mir := runD [.val] 7 (fs_may_give g_need_program g_rows_in g_holders)
theorem mk_may_give (g_need_program : Mir) (g_rows_in : Mir) (g_holders : Mir) (d0 : DL.D) : m_may_give g_need_program g_rows_in g_holders [d0] = finD [.val] (fs_may_give g_need_program g_rows_in g_holders [.val d0, .unset, .unset, .unset, .unset, .unset, .unset]) := rfl
def fs_size (g_need_program : Mir) (g_rows_in : Mir) : FS :=
  (sSeq (sDrop (fCall [.val] g_need_program (fCons (fVar 0) fNil)))
    (sRet (fN gLen (fCons (fCall [.val, .val] g_rows_in (fCons (f2 gIx (fVar 0) (fC (.int 1))) (fCons (fTup fNil) fNil))) fNil))))
def m_size (g_need_program : Mir) (g_rows_in : Mir) : Mir := runD [.val] 1 (fs_size g_need_program g_rows_in)
theorem mk_size (g_need_program : Mir) (g_rows_in : Mir) (d0 : DL.D) : m_size g_need_program g_rows_in [d0] = finD [.val] (fs_size g_need_program g_rows_in [.val d0]) := rfl
end TA
set_option maxRecDepth 100000
set_option maxHeartbeats 4000000
namespace TA
open PySem PySem.Spec L2 DL
theorem LST : (∀ {α : Type} (x : α) (l : List α), (x :: l)[0]? = some x) ∧ (∀ {α : Type} (x : α) (l : List α) (i : Nat), (x :: l)[i + 1]? = l[i]?) ∧ (∀ {α : Type} (i : Nat), ([] : List α)[i]? = none) ∧
  (∀ {α : Type} (x y : α) (l : List α), (x :: l).set 0 y = y :: l) ∧ (∀ {α : Type} (x y : α) (l : List α) (i : Nat), (x :: l).set (i + 1) y = x :: l.set i y) ∧
  (∀ {α : Type} (x : α) (l : List α), (x :: l).length = l.length + 1) ∧ (∀ {α : Type}, ([] : List α).length = 0) ∧ (∀ {α : Type} (l : List α), [] ++ l = l) ∧ (∀ {α : Type} (x : α) (l m : List α), (x :: l) ++ m = x :: (l ++ m)) ∧
  (∀ {α : Type} (x : α), (some x).isSome = true) ∧ (∀ {α : Type}, (none : Option α).isSome = false) ∧ (∀ b : Bool, id b = b) ∧ (∀ b : Bool, (b ^^ false) = b) ∧ (∀ b : Bool, (b ^^ true) = !b) ∧ (∀ b : Bool, (true && b) = b) ∧ (∀ b : Bool, (false && b) = false) ∧ (∀ b : Bool, (b && true) = b) ∧ (∀ b : Bool, (true || b) = true) ∧ (∀ b : Bool, (false || b) = b) ∧ ((!true) = false) ∧ ((!false) = true) ∧
  (∀ x : Str, (x == x) = true) ∧ (∀ x : Int, (x == x) = true) ∧ (∀ {α : Type} (x y : α), (some x).getD y = x) ∧ (∀ {α : Type} (y : α), (none : Option α).getD y = y) ∧ (∀ {α β : Type} (f : α → β), [].map f = []) ∧ (∀ {α β : Type} (f : α → β) (x : α) (l : List α), (x :: l).map f = f x :: l.map f) ∧
  (zipD [] [] = []) ∧ (∀ (x : DL.D) (l : List DL.D), zipD [] (x :: l) = []) ∧ (∀ (x : DL.D) (l : List DL.D), zipD (x :: l) [] = []) ∧ (∀ (x y : DL.D) (l m : List DL.D), zipD (x :: l) (y :: m) = .tup [x, y] :: zipD l m) ∧
  (∀ (x y : DL.D), cutG [x, y] (some 1) none = [y]) ∧ (blsD [] = some []) ∧ (∀ (b : Bool) (l : List DL.D), blsD (.bl b :: l) = bO (blsD l) fun l => some (b :: l)) ∧ (intsD [] = some []) ∧ (∀ (b : Int) (l : List DL.D), intsD (.int b :: l) = bO (intsD l) fun l => some (b :: l)) ∧ (pairsD [] = some []) ∧ (∀ (x : Str) (d : DL.D) (l : List DL.D), pairsD (.tup [.str x, d] :: l) = bO (pairsD l) fun l => some ((x, d) :: l)) ∧
  ([].Nodup (α := Nat)) ∧ (∀ i : Nat, [i].Nodup) ∧ (∀ l : List DL.D, cutG l (some 1) none = l.drop 1) ∧ (List.all (α := Bool) [] id = true) ∧ (∀ (b : Bool) (l : List Bool), (b :: l).all id = (b && l.all id)) ∧ (List.any (α := Bool) [] id = false) ∧ (∀ (b : Bool) (l : List Bool), (b :: l).any id = (b || l.any id)) ∧
  (∀ (x : DL.D) (l : List DL.D), (x :: l).drop 1 = l) ∧ (([] : List Int).sum = 0) ∧ (∀ (x : Int) (l : List Int), (x :: l).sum = x + l.sum) ∧ (∀ i : Nat, ([] : List Nat).contains i = false) ∧ (∀ i j : Nat, [i].contains j = (j == i)) ∧ (∀ (a b : DL.D), (a :: [b]).length = 2) ∧ (∀ x : Int, x = x ↔ True) ∧ (∀ {α : Type} (x : α) (l : List α) (i : Nat), (x :: l).take (i + 1) = x :: l.take i) ∧ (∀ {α : Type} (l : List α), l.take 0 = []) ∧ (∀ i j : Nat, [i, j].Nodup = (¬ (i = j))) ∧ ((¬ False) = True) ∧ (∀ (p : Prop), (p ∧ True) = p) ∧ (∀ (p : Prop), (True ∧ p) = p) ∧ (((0 : Nat) : Int) = 0) ∧ (((1 : Nat) : Int) = 1) ∧ (((2 : Nat) : Int) = 2) ∧ (((3 : Nat) : Int) = 3) ∧ (((4 : Nat) : Int) = 4) ∧ (((5 : Nat) : Int) = 5) ∧ (((6 : Nat) : Int) = 6) ∧ (((7 : Nat) : Int) = 7) := by
  refine ⟨fun _ _ => rfl, fun _ _ _ => rfl, fun _ => rfl, fun _ _ _ => rfl, fun _ _ _ _ => rfl, fun _ _ => rfl, rfl, fun _ => rfl, fun _ _ _ => rfl, fun _ => rfl, rfl, fun _ => rfl, fun b => by cases b <;> rfl, fun b => by cases b <;> rfl, fun b => by cases b <;> rfl, fun b => by cases b <;> rfl, fun b => by cases b <;> rfl, fun b => by cases b <;> rfl, fun b => by cases b <;> rfl, rfl, rfl, fun x => beq_self_eq_true x, fun x => beq_self_eq_true x, fun _ _ => rfl, fun _ => rfl, fun _ => rfl, fun _ _ _ => rfl, ?_⟩
  refine ⟨rfl, fun _ _ => rfl, fun _ _ => rfl, fun _ _ _ _ => rfl, fun _ _ => rfl, rfl, fun b l => ?_, rfl, fun b l => ?_, rfl, fun x d l => ?_, List.nodup_nil, fun i => by simp, fun l => ?_, rfl, fun _ _ => rfl, rfl, fun _ _ => rfl, fun _ _ => rfl, rfl, fun _ _ => by simp, fun _ => rfl, fun i j => ?_, fun _ _ => rfl, fun _ => by simp, fun _ _ _ => rfl, fun _ => rfl, fun i j => by simp, by simp, fun _ => by simp, fun _ => by simp, rfl, rfl, rfl, rfl, rfl, rfl, rfl, rfl⟩
  · unfold bO; rw [blsD]; cases blsD l <;> rfl
  · unfold bO; rw [intsD]; cases intsD l <;> rfl
  · unfold bO; rw [pairsD]; cases pairsD l <;> rfl
  · unfold cutG
    have h1 : HT.sIx l.length 0 (some 1) = min 1 l.length := by unfold HT.sIx; simp
    have h2 : HT.sIx l.length l.length none = l.length := rfl
    rw [h1, h2]
    cases l with
    | nil => rfl
    | cons x l => simp
  · simp [List.contains_cons]; rfl
theorem EVC : ((("num" : Str) == "copy") = false) ∧
  ((("num" : Str) == "add") = false) ∧
  ((("num" : Str) == "make") = false) ∧
  ((("num" : Str) == "get") = false) ∧
  ((("num" : Str) == "put") = false) ∧
  ((("num" : Str) == "let") = false) ∧
  ((("num" : Str) == "same") = false) ∧
  ((("num" : Str) == "say") = false) ∧
  ((("num" : Str) == "give") = false) ∧
  ((("num" : Str) == "stir") = false) ∧
  ((("num" : Str) == "if") = false) ∧
  ((("num" : Str) == "loop") = false) ∧
  ((("num" : Str) == "else") = false) ∧
  ((("num" : Str) == "top") = false) ∧
  ((("copy" : Str) == "num") = false) ∧
  ((("copy" : Str) == "add") = false) ∧
  ((("copy" : Str) == "make") = false) ∧
  ((("copy" : Str) == "get") = false) ∧
  ((("copy" : Str) == "put") = false) ∧
  ((("copy" : Str) == "let") = false) ∧
  ((("copy" : Str) == "same") = false) ∧
  ((("copy" : Str) == "say") = false) ∧
  ((("copy" : Str) == "give") = false) ∧
  ((("copy" : Str) == "stir") = false) ∧
  ((("copy" : Str) == "if") = false) ∧
  ((("copy" : Str) == "loop") = false) ∧
  ((("copy" : Str) == "else") = false) ∧
  ((("copy" : Str) == "top") = false) ∧
  ((("add" : Str) == "num") = false) ∧
  ((("add" : Str) == "copy") = false) ∧
  ((("add" : Str) == "make") = false) ∧
  ((("add" : Str) == "get") = false) ∧
  ((("add" : Str) == "put") = false) ∧
  ((("add" : Str) == "let") = false) ∧
  ((("add" : Str) == "same") = false) ∧
  ((("add" : Str) == "say") = false) ∧
  ((("add" : Str) == "give") = false) ∧
  ((("add" : Str) == "stir") = false) ∧
  ((("add" : Str) == "if") = false) ∧
  ((("add" : Str) == "loop") = false) ∧
  ((("add" : Str) == "else") = false) ∧
  ((("add" : Str) == "top") = false) ∧
  ((("make" : Str) == "num") = false) ∧
  ((("make" : Str) == "copy") = false) ∧
  ((("make" : Str) == "add") = false) ∧
  ((("make" : Str) == "get") = false) ∧
  ((("make" : Str) == "put") = false) ∧
  ((("make" : Str) == "let") = false) ∧
  ((("make" : Str) == "same") = false) ∧
  ((("make" : Str) == "say") = false) ∧
  ((("make" : Str) == "give") = false) ∧
  ((("make" : Str) == "stir") = false) ∧
  ((("make" : Str) == "if") = false) ∧
  ((("make" : Str) == "loop") = false) ∧
  ((("make" : Str) == "else") = false) ∧
  ((("make" : Str) == "top") = false) ∧
  ((("get" : Str) == "num") = false) ∧
  ((("get" : Str) == "copy") = false) ∧
  ((("get" : Str) == "add") = false) ∧
  ((("get" : Str) == "make") = false) ∧
  ((("get" : Str) == "put") = false) ∧
  ((("get" : Str) == "let") = false) ∧
  ((("get" : Str) == "same") = false) ∧
  ((("get" : Str) == "say") = false) ∧
  ((("get" : Str) == "give") = false) ∧
  ((("get" : Str) == "stir") = false) ∧
  ((("get" : Str) == "if") = false) ∧
  ((("get" : Str) == "loop") = false) ∧
  ((("get" : Str) == "else") = false) ∧
  ((("get" : Str) == "top") = false) ∧
  ((("put" : Str) == "num") = false) ∧
  ((("put" : Str) == "copy") = false) ∧
  ((("put" : Str) == "add") = false) ∧
  ((("put" : Str) == "make") = false) ∧
  ((("put" : Str) == "get") = false) ∧
  ((("put" : Str) == "let") = false) ∧
  ((("put" : Str) == "same") = false) ∧
  ((("put" : Str) == "say") = false) ∧
  ((("put" : Str) == "give") = false) ∧
  ((("put" : Str) == "stir") = false) ∧
  ((("put" : Str) == "if") = false) ∧
  ((("put" : Str) == "loop") = false) ∧
  ((("put" : Str) == "else") = false) ∧
  ((("put" : Str) == "top") = false) ∧
  ((("let" : Str) == "num") = false) ∧
  ((("let" : Str) == "copy") = false) ∧
  ((("let" : Str) == "add") = false) ∧
  ((("let" : Str) == "make") = false) ∧
  ((("let" : Str) == "get") = false) ∧
  ((("let" : Str) == "put") = false) ∧
  ((("let" : Str) == "same") = false) ∧
  ((("let" : Str) == "say") = false) ∧
  ((("let" : Str) == "give") = false) ∧
  ((("let" : Str) == "stir") = false) ∧
  ((("let" : Str) == "if") = false) ∧
  ((("let" : Str) == "loop") = false) ∧
  ((("let" : Str) == "else") = false) ∧
  ((("let" : Str) == "top") = false) ∧
  ((("same" : Str) == "num") = false) ∧
  ((("same" : Str) == "copy") = false) ∧
  ((("same" : Str) == "add") = false) ∧
  ((("same" : Str) == "make") = false) ∧
  ((("same" : Str) == "get") = false) ∧
  ((("same" : Str) == "put") = false) ∧
  ((("same" : Str) == "let") = false) ∧
  ((("same" : Str) == "say") = false) ∧
  ((("same" : Str) == "give") = false) ∧
  ((("same" : Str) == "stir") = false) ∧
  ((("same" : Str) == "if") = false) ∧
  ((("same" : Str) == "loop") = false) ∧
  ((("same" : Str) == "else") = false) ∧
  ((("same" : Str) == "top") = false) ∧
  ((("say" : Str) == "num") = false) ∧
  ((("say" : Str) == "copy") = false) ∧
  ((("say" : Str) == "add") = false) ∧
  ((("say" : Str) == "make") = false) ∧
  ((("say" : Str) == "get") = false) ∧
  ((("say" : Str) == "put") = false) ∧
  ((("say" : Str) == "let") = false) ∧
  ((("say" : Str) == "same") = false) ∧
  ((("say" : Str) == "give") = false) ∧
  ((("say" : Str) == "stir") = false) ∧
  ((("say" : Str) == "if") = false) ∧
  ((("say" : Str) == "loop") = false) ∧
  ((("say" : Str) == "else") = false) ∧
  ((("say" : Str) == "top") = false) ∧
  ((("give" : Str) == "num") = false) ∧
  ((("give" : Str) == "copy") = false) ∧
  ((("give" : Str) == "add") = false) ∧
  ((("give" : Str) == "make") = false) ∧
  ((("give" : Str) == "get") = false) ∧
  ((("give" : Str) == "put") = false) ∧
  ((("give" : Str) == "let") = false) ∧
  ((("give" : Str) == "same") = false) ∧
  ((("give" : Str) == "say") = false) ∧
  ((("give" : Str) == "stir") = false) ∧
  ((("give" : Str) == "if") = false) ∧
  ((("give" : Str) == "loop") = false) ∧
  ((("give" : Str) == "else") = false) ∧
  ((("give" : Str) == "top") = false) ∧
  ((("stir" : Str) == "num") = false) ∧
  ((("stir" : Str) == "copy") = false) ∧
  ((("stir" : Str) == "add") = false) ∧
  ((("stir" : Str) == "make") = false) ∧
  ((("stir" : Str) == "get") = false) ∧
  ((("stir" : Str) == "put") = false) ∧
  ((("stir" : Str) == "let") = false) ∧
  ((("stir" : Str) == "same") = false) ∧
  ((("stir" : Str) == "say") = false) ∧
  ((("stir" : Str) == "give") = false) ∧
  ((("stir" : Str) == "if") = false) ∧
  ((("stir" : Str) == "loop") = false) ∧
  ((("stir" : Str) == "else") = false) ∧
  ((("stir" : Str) == "top") = false) ∧
  ((("if" : Str) == "num") = false) ∧
  ((("if" : Str) == "copy") = false) ∧
  ((("if" : Str) == "add") = false) ∧
  ((("if" : Str) == "make") = false) ∧
  ((("if" : Str) == "get") = false) ∧
  ((("if" : Str) == "put") = false) ∧
  ((("if" : Str) == "let") = false) ∧
  ((("if" : Str) == "same") = false) ∧
  ((("if" : Str) == "say") = false) ∧
  ((("if" : Str) == "give") = false) ∧
  ((("if" : Str) == "stir") = false) ∧
  ((("if" : Str) == "loop") = false) ∧
  ((("if" : Str) == "else") = false) ∧
  ((("if" : Str) == "top") = false) ∧
  ((("loop" : Str) == "num") = false) ∧
  ((("loop" : Str) == "copy") = false) ∧
  ((("loop" : Str) == "add") = false) ∧
  ((("loop" : Str) == "make") = false) ∧
  ((("loop" : Str) == "get") = false) ∧
  ((("loop" : Str) == "put") = false) ∧
  ((("loop" : Str) == "let") = false) ∧
  ((("loop" : Str) == "same") = false) ∧
  ((("loop" : Str) == "say") = false) ∧
  ((("loop" : Str) == "give") = false) ∧
  ((("loop" : Str) == "stir") = false) ∧
  ((("loop" : Str) == "if") = false) ∧
  ((("loop" : Str) == "else") = false) ∧
  ((("loop" : Str) == "top") = false) ∧
  ((("else" : Str) == "num") = false) ∧
  ((("else" : Str) == "copy") = false) ∧
  ((("else" : Str) == "add") = false) ∧
  ((("else" : Str) == "make") = false) ∧
  ((("else" : Str) == "get") = false) ∧
  ((("else" : Str) == "put") = false) ∧
  ((("else" : Str) == "let") = false) ∧
  ((("else" : Str) == "same") = false) ∧
  ((("else" : Str) == "say") = false) ∧
  ((("else" : Str) == "give") = false) ∧
  ((("else" : Str) == "stir") = false) ∧
  ((("else" : Str) == "if") = false) ∧
  ((("else" : Str) == "loop") = false) ∧
  ((("else" : Str) == "top") = false) ∧
  ((("top" : Str) == "num") = false) ∧
  ((("top" : Str) == "copy") = false) ∧
  ((("top" : Str) == "add") = false) ∧
  ((("top" : Str) == "make") = false) ∧
  ((("top" : Str) == "get") = false) ∧
  ((("top" : Str) == "put") = false) ∧
  ((("top" : Str) == "let") = false) ∧
  ((("top" : Str) == "same") = false) ∧
  ((("top" : Str) == "say") = false) ∧
  ((("top" : Str) == "give") = false) ∧
  ((("top" : Str) == "stir") = false) ∧
  ((("top" : Str) == "if") = false) ∧
  ((("top" : Str) == "loop") = false) ∧
  ((("top" : Str) == "else") = false) ∧
  ((("n" : Str) == "t") = false) ∧
  ((("n" : Str) == "#") = false) ∧
  ((("n" : Str) == "f") = false) ∧
  ((("t" : Str) == "n") = false) ∧
  ((("t" : Str) == "#") = false) ∧
  ((("t" : Str) == "f") = false) ∧
  ((("#" : Str) == "n") = false) ∧
  ((("#" : Str) == "t") = false) ∧
  ((("#" : Str) == "f") = false) ∧
  ((("f" : Str) == "n") = false) ∧
  ((("f" : Str) == "t") = false) ∧
  ((("f" : Str) == "#") = false) := ⟨by decide +kernel, by decide +kernel, by decide +kernel, by decide +kernel, by decide +kernel, by decide +kernel, by decide +kernel, by decide +kernel, by decide +kernel, by decide +kernel, by decide +kernel, by decide +kernel, by decide +kernel, by decide +kernel, by decide +kernel, by decide +kernel, by decide +kernel, by decide +kernel, by decide +kernel, by decide +kernel, by decide +kernel, by decide +kernel, by decide +kernel, by decide +kernel, by decide +kernel, by decide +kernel, by decide +kernel, by decide +kernel, by decide +kernel, by decide +kernel, by decide +kernel, by decide +kernel, by decide +kernel, by decide +kernel, by decide +kernel, by decide +kernel, by decide +kernel, by decide +kernel, by decide +kernel, by decide +kernel, by decide +kernel, by decide +kernel, by decide +kernel, by decide +kernel, by decide +kernel, by decide +kernel, by decide +kernel, by decide +kernel, by decide +kernel, by decide +kernel, by decide +kernel, by decide +kernel, by decide +kernel, by decide +kernel, by decide +kernel, by decide +kernel, by decide +kernel, by decide +kernel, by decide +kernel, by decide +kernel, by decide +kernel, by decide +kernel, by decide +kernel, by decide +kernel, by decide +kernel, by decide +kernel, by decide +kernel, by decide +kernel, by decide +kernel, by decide +kernel, by decide +kernel, by decide +kernel, by decide +kernel, by decide +kernel, by decide +kernel, by decide +kernel, by decide +kernel, by decide +kernel, by decide +kernel, by decide +kernel, by decide +kernel, by decide +kernel, by decide +kernel, by decide +kernel, by decide +kernel, by decide +kernel, by decide +kernel, by decide +kernel, by decide +kernel, by decide +kernel, by decide +kernel, by decide +kernel, by decide +kernel, by decide +kernel, by decide +kernel, by decide +kernel, by decide +kernel, by decide +kernel, by decide +kernel, by decide +kernel, by decide +kernel, by decide +kernel, by decide +kernel, by decide +kernel, by decide +kernel, by decide +kernel, by decide +kernel, by decide +kernel, by decide +kernel, by decide +kernel, by decide +kernel, by decide +kernel, by decide +kernel, by decide +kernel, by decide +kernel, by decide +kernel, by decide +kernel, by decide +kernel, by decide +kernel, by decide +kernel, by decide +kernel, by decide +kernel, by decide +kernel, by decide +kernel, by decide +kernel, by decide +kernel, by decide +kernel, by decide +kernel, by decide +kernel, by decide +kernel, by decide +kernel, by decide +kernel, by decide +kernel, by decide +kernel, by decide +kernel, by decide +kernel, by decide +kernel, by decide +kernel, by decide +kernel, by decide +kernel, by decide +kernel, by decide +kernel, by decide +kernel, by decide +kernel, by decide +kernel, by decide +kernel, by decide +kernel, by decide +kernel, by decide +kernel, by decide +kernel, by decide +kernel, by decide +kernel, by decide +kernel, by decide +kernel, by decide +kernel, by decide +kernel, by decide +kernel, by decide +kernel, by decide +kernel, by decide +kernel, by decide +kernel, by decide +kernel, by decide +kernel, by decide +kernel, by decide +kernel, by decide +kernel, by decide +kernel, by decide +kernel, by decide +kernel, by decide +kernel, by decide +kernel, by decide +kernel, by decide +kernel, by decide +kernel, by decide +kernel, by decide +kernel, by decide +kernel, by decide +kernel, by decide +kernel, by decide +kernel, by decide +kernel, by decide +kernel, by decide +kernel, by decide +kernel, by decide +kernel, by decide +kernel, by decide +kernel, by decide +kernel, by decide +kernel, by decide +kernel, by decide +kernel, by decide +kernel, by decide +kernel, by decide +kernel, by decide +kernel, by decide +kernel, by decide +kernel, by decide +kernel, by decide +kernel, by decide +kernel, by decide +kernel, by decide +kernel, by decide +kernel, by decide +kernel, by decide +kernel, by decide +kernel, by decide +kernel, by decide +kernel, by decide +kernel, by decide +kernel, by decide +kernel, by decide +kernel, by decide +kernel, by decide +kernel, by decide +kernel, by decide +kernel, by decide +kernel, by decide +kernel, by decide +kernel, by decide +kernel, by decide +kernel, by decide +kernel⟩
theorem EVY : ((("NoneType" : String) == "NoneType") = true) ∧
  ((("NoneType" : String) == "bool") = false) ∧
  ((("NoneType" : String) == "int") = false) ∧
  ((("NoneType" : String) == "str") = false) ∧
  ((("NoneType" : String) == "tuple") = false) ∧
  ((("NoneType" : String) == "list") = false) ∧
  ((("NoneType" : String) == "dict") = false) ∧
  ((("bool" : String) == "NoneType") = false) ∧
  ((("bool" : String) == "bool") = true) ∧
  ((("bool" : String) == "int") = false) ∧
  ((("bool" : String) == "str") = false) ∧
  ((("bool" : String) == "tuple") = false) ∧
  ((("bool" : String) == "list") = false) ∧
  ((("bool" : String) == "dict") = false) ∧
  ((("int" : String) == "NoneType") = false) ∧
  ((("int" : String) == "bool") = false) ∧
  ((("int" : String) == "int") = true) ∧
  ((("int" : String) == "str") = false) ∧
  ((("int" : String) == "tuple") = false) ∧
  ((("int" : String) == "list") = false) ∧
  ((("int" : String) == "dict") = false) ∧
  ((("str" : String) == "NoneType") = false) ∧
  ((("str" : String) == "bool") = false) ∧
  ((("str" : String) == "int") = false) ∧
  ((("str" : String) == "str") = true) ∧
  ((("str" : String) == "tuple") = false) ∧
  ((("str" : String) == "list") = false) ∧
  ((("str" : String) == "dict") = false) ∧
  ((("tuple" : String) == "NoneType") = false) ∧
  ((("tuple" : String) == "bool") = false) ∧
  ((("tuple" : String) == "int") = false) ∧
  ((("tuple" : String) == "str") = false) ∧
  ((("tuple" : String) == "tuple") = true) ∧
  ((("tuple" : String) == "list") = false) ∧
  ((("tuple" : String) == "dict") = false) ∧
  ((("list" : String) == "NoneType") = false) ∧
  ((("list" : String) == "bool") = false) ∧
  ((("list" : String) == "int") = false) ∧
  ((("list" : String) == "str") = false) ∧
  ((("list" : String) == "tuple") = false) ∧
  ((("list" : String) == "list") = true) ∧
  ((("list" : String) == "dict") = false) ∧
  ((("dict" : String) == "NoneType") = false) ∧
  ((("dict" : String) == "bool") = false) ∧
  ((("dict" : String) == "int") = false) ∧
  ((("dict" : String) == "str") = false) ∧
  ((("dict" : String) == "tuple") = false) ∧
  ((("dict" : String) == "list") = false) ∧
  ((("dict" : String) == "dict") = true) ∧
  ((("str" : String) != "") = true) ∧
  ((("list" : String) != "") = true) ∧
  ((("dict" : String) != "") = true) := ⟨by decide +kernel, by decide +kernel, by decide +kernel, by decide +kernel, by decide +kernel, by decide +kernel, by decide +kernel, by decide +kernel, by decide +kernel, by decide +kernel, by decide +kernel, by decide +kernel, by decide +kernel, by decide +kernel, by decide +kernel, by decide +kernel, by decide +kernel, by decide +kernel, by decide +kernel, by decide +kernel, by decide +kernel, by decide +kernel, by decide +kernel, by decide +kernel, by decide +kernel, by decide +kernel, by decide +kernel, by decide +kernel, by decide +kernel, by decide +kernel, by decide +kernel, by decide +kernel, by decide +kernel, by decide +kernel, by decide +kernel, by decide +kernel, by decide +kernel, by decide +kernel, by decide +kernel, by decide +kernel, by decide +kernel, by decide +kernel, by decide +kernel, by decide +kernel, by decide +kernel, by decide +kernel, by decide +kernel, by decide +kernel, by decide +kernel, by decide +kernel, by decide +kernel, by decide +kernel⟩
theorem nt_in (c : Str) (b : Bool) (h : (!(Builtin.Str.occurrences "nt" c 0 ("nt" : Str).length 1).isEmpty) = b) : gInS (.str c) (.str "nt") = some (.val (.bl b)) := by
  show some (R.val (DL.D.bl (!(Builtin.Str.occurrences "nt" c 0 ("nt" : Str).length 1).isEmpty))) = _
  rw [h]
theorem EVT : (tget d_SHAPES "num" = some ("n#" : Str)) ∧
  (gIn (.str "num") d_SETS = some (.val (.bl true))) ∧
  (tget d_SHAPES "copy" = some ("nn" : Str)) ∧
  (gIn (.str "copy") d_SETS = some (.val (.bl true))) ∧
  (tget d_SHAPES "add" = some ("nnn" : Str)) ∧
  (gIn (.str "add") d_SETS = some (.val (.bl true))) ∧
  (tget d_SHAPES "make" = some ("tnn" : Str)) ∧
  (gIn (.str "make") d_SETS = some (.val (.bl true))) ∧
  (tget d_SHAPES "get" = some ("ntf" : Str)) ∧
  (gIn (.str "get") d_SETS = some (.val (.bl true))) ∧
  (tget d_SHAPES "put" = some ("tfn" : Str)) ∧
  (gIn (.str "put") d_SETS = some (.val (.bl false))) ∧
  (tget d_SHAPES "let" = some ("tt" : Str)) ∧
  (gIn (.str "let") d_SETS = some (.val (.bl true))) ∧
  (tget d_SHAPES "same" = some ("ntt" : Str)) ∧
  (gIn (.str "same") d_SETS = some (.val (.bl true))) ∧
  (tget d_SHAPES "say" = some ("n" : Str)) ∧
  (gIn (.str "say") d_SETS = some (.val (.bl false))) ∧
  (tget d_SHAPES "give" = some ("t" : Str)) ∧
  (gIn (.str "give") d_SETS = some (.val (.bl false))) ∧
  (tget d_SHAPES "stir" = some ("" : Str)) ∧
  (gIn (.str "stir") d_SETS = some (.val (.bl false))) ∧
  (tget d_SHAPES "if" = none) ∧
  (gIn (.str "if") d_SETS = some (.val (.bl false))) ∧
  (tget d_SHAPES "loop" = none) ∧
  (gIn (.str "loop") d_SETS = some (.val (.bl false))) ∧
  (signs "" = []) ∧
  (signs "n" = [.str "n"]) ∧
  (signs "n#" = [.str "n", .str "#"]) ∧
  (signs "nn" = [.str "n", .str "n"]) ∧
  (signs "nnn" = [.str "n", .str "n", .str "n"]) ∧
  (signs "ntf" = [.str "n", .str "t", .str "f"]) ∧
  (signs "ntt" = [.str "n", .str "t", .str "t"]) ∧
  (signs "t" = [.str "t"]) ∧
  (signs "tfn" = [.str "t", .str "f", .str "n"]) ∧
  (signs "tnn" = [.str "t", .str "n", .str "n"]) ∧
  (signs "tt" = [.str "t", .str "t"]) ∧
  (gInS (.str "n") (.str "nt") = some (.val (.bl true))) ∧
  (gInS (.str "t") (.str "nt") = some (.val (.bl true))) ∧
  (gInS (.str "#") (.str "nt") = some (.val (.bl false))) ∧
  (gInS (.str "f") (.str "nt") = some (.val (.bl false))) := ⟨rfl, rfl, rfl, rfl, rfl, rfl, rfl, rfl, rfl, rfl, rfl, rfl, rfl, rfl, rfl, rfl, rfl, rfl, rfl, rfl, rfl, rfl, rfl, rfl, rfl, rfl, rfl, rfl, rfl, rfl, rfl, rfl, rfl, rfl, rfl, rfl, rfl, nt_in "n" true (by decide +kernel), nt_in "t" true (by decide +kernel), nt_in "#" false (by decide +kernel), nt_in "f" false (by decide +kernel)⟩
end TA
set_option maxRecDepth 100000
set_option maxHeartbeats 4000000
namespace TA
open PySem PySem.Spec L2 DL
inductive SR where
  | num (x : Str) (n : Int) | copy (x y : Str) | add (x y z : Str) | make (t x y : Str) | get (x t : Str) (f : Int) | put (t : Str) (f : Int) (x : Str) | lets (t u : Str) | same (x t u : Str) | say (x : Str) | give (t : Str) | stir
  deriving DecidableEq
def SR.toD : SR → DL.D
  | .num x n => .tup [.str "num", .str x, .int n]
  | .copy x y => .tup [.str "copy", .str x, .str y]
  | .add x y z => .tup [.str "add", .str x, .str y, .str z]
  | .make t x y => .tup [.str "make", .str t, .str x, .str y]
  | .get x t f => .tup [.str "get", .str x, .str t, .int f]
  | .put t f x => .tup [.str "put", .str t, .int f, .str x]
  | .lets t u => .tup [.str "let", .str t, .str u]
  | .same x t u => .tup [.str "same", .str x, .str t, .str u]
  | .say x => .tup [.str "say", .str x]
  | .give t => .tup [.str "give", .str t]
  | .stir => .tup [.str "stir"]
inductive Row where
  | s (r : SR) | ife (x : Str) (a b : List Row) | loop (x : Str) (b : List Row)
mutual
def Row.toD : Row → DL.D
  | .s r => r.toD
  | .ife x a b => .tup [.str "if", .str x, .tup (toDs a), .tup (toDs b)]
  | .loop x b => .tup [.str "loop", .str x, .tup (toDs b)]
def toDs : List Row → List DL.D
  | [] => []
  | r :: rs => r.toD :: toDs rs
end
theorem toDs_map : ∀ l : List Row, toDs l = l.map Row.toD
  | [] => by unfold toDs; rfl
  | r :: l => by unfold toDs; rw [List.map_cons, toDs_map l]
/-- the blocks in a row -/
def Row.parts : Row → List (List Row)
  | .s _ => [] | .ife _ a b => [a, b] | .loop _ b => [b]
def bD (l : List Row) : DL.D := .tup (toDs l)
mutual
def Row.cnt : Row → Nat
  | .s _ => 1
  | .ife _ a b => 1 + (cnts a + cnts b)
  | .loop _ b => 1 + cnts b
def cnts : List Row → Nat
  | [] => 0
  | r :: rs => r.cnt + cnts rs
end
mutual
def Row.dep : Row → Nat
  | .s _ => 0
  | .ife _ a b => max (deps a) (deps b) + 1
  | .loop _ b => deps b + 1
def deps : List Row → Nat
  | [] => 0
  | r :: rs => max r.dep (deps rs)
end
/-- a row of numbers, of things -/
def SR.kinds : SR → List (Str × Bool)
  | .num x _ => [(x, false)] | .copy x y => [(x, false), (y, false)] | .add x y z => [(x, false), (y, false), (z, false)] | .make t x y => [(t, true), (x, false), (y, false)] | .get x t _ => [(x, false), (t, true)] | .put t _ x => [(t, true), (x, false)] | .lets t u => [(t, true), (u, true)] | .same x t u => [(x, false), (t, true), (u, true)] | .say x => [(x, false)] | .give t => [(t, true)] | .stir => []
def Row.kinds : Row → List (Str × Bool)
  | .s r => r.kinds | .ife x _ _ => [(x, false)] | .loop x _ => [(x, false)]
def kD (b : Bool) : DL.D := .str (if b = true then "t" else "n")
theorem kD_t : (.str "t" : DL.D) = kD true := rfl
theorem kD_n : (.str "n" : DL.D) = kD false := rfl
def pD (p : Str × Bool) : DL.D := .tup [.str p.1, kD p.2]
def SR.st : SR → Option Str
  | .num x _ => some x | .copy x _ => some x | .add x _ _ => some x | .make t _ _ => some t | .get x _ _ => some x | .put _ _ _ => none | .lets t _ => some t | .same x _ _ => some x | .say _ => none | .give _ => none | .stir => none
def Row.st : Row → Option Str
  | .s r => r.st | .ife _ _ _ => none | .loop _ _ => none
def SR.rd : SR → List Str
  | .num _ _ => [] | .copy _ y => [y] | .add _ y z => [y, z] | .make _ x y => [x, y] | .get _ t _ => [t] | .put t _ x => [t, x] | .lets _ u => [u] | .same _ t u => [t, u] | .say x => [x] | .give t => [t] | .stir => []
def Row.rd : Row → List Str
  | .s r => r.rd | .ife x _ _ => [x] | .loop x _ => [x]
def oD (o : Option Str) : DL.D := match o with
  | some x => .str x
  | none => .non
theorem blocks_ok (r : Row) : m_blocks_of [r.toD] = some (.new (.lst (r.parts.map bD)), []) := by
  rw [mk_blocks_of]
  unfold fs_blocks_of
  rcases r with r | _ | _
  · cases r <;> simp only [Row.toD, SR.toD, Row.parts, EV, EVT, EVC, EVY, LST, ↓reduceIte, Nat.reduceAdd, Nat.reduceSub, Nat.reduceLeDiff, Nat.reduceLT, Nat.reduceEqDiff, Nat.reduceBEq, Int.reduceLT, Int.reduceAdd, Int.reduceBNe, Int.reduceLE, Int.reduceEq, Int.reduceBEq, Bool.false_eq_true, reduceCtorEq, sizeLine_eq, decide_true, decide_false, decide_eq_true_eq, true_and, and_true, and_self]
  · simp only [Row.toD, Row.parts, bD, EV, EVT, EVC, EVY, LST, ↓reduceIte, Nat.reduceAdd, Nat.reduceSub, Nat.reduceLeDiff, Nat.reduceLT, Nat.reduceEqDiff, Nat.reduceBEq, Int.reduceLT, Int.reduceAdd, Int.reduceBNe, Int.reduceLE, Int.reduceEq, Int.reduceBEq, Bool.false_eq_true, reduceCtorEq, sizeLine_eq, decide_true, decide_false, decide_eq_true_eq, true_and, and_true, and_self]
  · simp only [Row.toD, Row.parts, bD, EV, EVT, EVC, EVY, LST, ↓reduceIte, Nat.reduceAdd, Nat.reduceSub, Nat.reduceLeDiff, Nat.reduceLT, Nat.reduceEqDiff, Nat.reduceBEq, Int.reduceLT, Int.reduceAdd, Int.reduceBNe, Int.reduceLE, Int.reduceEq, Int.reduceBEq, Bool.false_eq_true, reduceCtorEq, sizeLine_eq, decide_true, decide_false, decide_eq_true_eq, true_and, and_true, and_self]
theorem sets_ok (r : Row) : m_sets [r.toD] = some (.val (oD r.st), []) := by
  rw [mk_sets]
  unfold fs_sets
  rcases r with r | _ | _
  · cases r <;> simp only [Row.toD, SR.toD, Row.st, SR.st, oD, EV, EVT, EVC, EVY, LST, ↓reduceIte, Nat.reduceAdd, Nat.reduceSub, Nat.reduceLeDiff, Nat.reduceLT, Nat.reduceEqDiff, Nat.reduceBEq, Int.reduceLT, Int.reduceAdd, Int.reduceBNe, Int.reduceLE, Int.reduceEq, Int.reduceBEq, Bool.false_eq_true, reduceCtorEq, sizeLine_eq, decide_true, decide_false, decide_eq_true_eq, true_and, and_true, and_self]
  · simp only [Row.toD, Row.st, oD, EV, EVT, EVC, EVY, LST, ↓reduceIte, Nat.reduceAdd, Nat.reduceSub, Nat.reduceLeDiff, Nat.reduceLT, Nat.reduceEqDiff, Nat.reduceBEq, Int.reduceLT, Int.reduceAdd, Int.reduceBNe, Int.reduceLE, Int.reduceEq, Int.reduceBEq, Bool.false_eq_true, reduceCtorEq, sizeLine_eq, decide_true, decide_false, decide_eq_true_eq, true_and, and_true, and_self]
  · simp only [Row.toD, Row.st, oD, EV, EVT, EVC, EVY, LST, ↓reduceIte, Nat.reduceAdd, Nat.reduceSub, Nat.reduceLeDiff, Nat.reduceLT, Nat.reduceEqDiff, Nat.reduceBEq, Int.reduceLT, Int.reduceAdd, Int.reduceBNe, Int.reduceLE, Int.reduceEq, Int.reduceBEq, Bool.false_eq_true, reduceCtorEq, sizeLine_eq, decide_true, decide_false, decide_eq_true_eq, true_and, and_true, and_self]
theorem kinds_ok (r : Row) : m_kinds_of [r.toD] = some (.new (.lst (r.kinds.map pD)), []) := by
  rw [mk_kinds_of]
  unfold fs_kinds_of lc0_kinds_of
  rcases r with r | _ | _
  · cases r <;> simp only [Row.toD, SR.toD, Row.kinds, SR.kinds, pD, ← kD_t, ← kD_n, EV, EVT, EVC, EVY, LST, ↓reduceIte, Nat.reduceAdd, Nat.reduceSub, Nat.reduceLeDiff, Nat.reduceLT, Nat.reduceEqDiff, Nat.reduceBEq, Int.reduceLT, Int.reduceAdd, Int.reduceBNe, Int.reduceLE, Int.reduceEq, Int.reduceBEq, Bool.false_eq_true, reduceCtorEq, sizeLine_eq, decide_true, decide_false, decide_eq_true_eq, true_and, and_true, and_self]
  · simp only [Row.toD, Row.kinds, pD, ← kD_t, ← kD_n, EV, EVT, EVC, EVY, LST, ↓reduceIte, Nat.reduceAdd, Nat.reduceSub, Nat.reduceLeDiff, Nat.reduceLT, Nat.reduceEqDiff, Nat.reduceBEq, Int.reduceLT, Int.reduceAdd, Int.reduceBNe, Int.reduceLE, Int.reduceEq, Int.reduceBEq, Bool.false_eq_true, reduceCtorEq, sizeLine_eq, decide_true, decide_false, decide_eq_true_eq, true_and, and_true, and_self]
  · simp only [Row.toD, Row.kinds, pD, ← kD_t, ← kD_n, EV, EVT, EVC, EVY, LST, ↓reduceIte, Nat.reduceAdd, Nat.reduceSub, Nat.reduceLeDiff, Nat.reduceLT, Nat.reduceEqDiff, Nat.reduceBEq, Int.reduceLT, Int.reduceAdd, Int.reduceBNe, Int.reduceLE, Int.reduceEq, Int.reduceBEq, Bool.false_eq_true, reduceCtorEq, sizeLine_eq, decide_true, decide_false, decide_eq_true_eq, true_and, and_true, and_self]
end TA
set_option maxRecDepth 100000
set_option maxHeartbeats 4000000
namespace TA
open PySem PySem.Spec L2 DL
theorem intsD_map {α : Type} (f : α → Int) : ∀ l : List α, intsD (l.map fun x => DL.D.int (f x)) = some (l.map f)
  | [] => rfl
  | x :: l => by rw [List.map_cons, intsD, intsD_map f l]; rfl
theorem blsD_map {α : Type} (f : α → Bool) : ∀ l : List α, blsD (l.map fun x => DL.D.bl (f x)) = some (l.map f)
  | [] => rfl
  | x :: l => by rw [List.map_cons, blsD, blsD_map f l]; rfl
theorem all_id_map {α : Type} (f : α → Bool) (l : List α) : (l.map f).all id = l.all f := by
  induction l with
  | nil => rfl
  | cons x l ih => rw [List.map_cons, List.all_cons, List.all_cons, ih]; rfl
def SR.op : SR → Str
  | .num _ _ => "num" | .copy _ _ => "copy" | .add _ _ _ => "add" | .make _ _ _ => "make" | .get _ _ _ => "get" | .put _ _ _ => "put" | .lets _ _ => "let" | .same _ _ _ => "same" | .say _ => "say" | .give _ => "give" | .stir => "stir"
def Row.op : Row → Str
  | .s r => r.op | .ife _ _ _ => "if" | .loop _ _ => "loop"
theorem hop (r : Row) : gIx r.toD (.int 0) = some (.val (.str r.op)) := by
  rcases r with r | _ | _
  · cases r <;> simp only [Row.toD, SR.toD, Row.op, SR.op, EV, EVT, EVC, EVY, LST, ↓reduceIte, Nat.reduceAdd, Nat.reduceSub, Nat.reduceLeDiff, Nat.reduceLT, Nat.reduceEqDiff, Nat.reduceBEq, Int.reduceLT, Int.reduceAdd, Int.reduceBNe, Int.reduceLE, Int.reduceEq, Int.reduceBEq, Bool.false_eq_true, reduceCtorEq, sizeLine_eq, decide_true, decide_false, decide_eq_true_eq, true_and, and_true, and_self]
  · simp only [Row.toD, Row.op, EV, EVT, EVC, EVY, LST, ↓reduceIte, Nat.reduceAdd, Nat.reduceSub, Nat.reduceLeDiff, Nat.reduceLT, Nat.reduceEqDiff, Nat.reduceBEq, Int.reduceLT, Int.reduceAdd, Int.reduceBNe, Int.reduceLE, Int.reduceEq, Int.reduceBEq, Bool.false_eq_true, reduceCtorEq, sizeLine_eq, decide_true, decide_false, decide_eq_true_eq, true_and, and_true, and_self]
  · simp only [Row.toD, Row.op, EV, EVT, EVC, EVY, LST, ↓reduceIte, Nat.reduceAdd, Nat.reduceSub, Nat.reduceLeDiff, Nat.reduceLT, Nat.reduceEqDiff, Nat.reduceBEq, Int.reduceLT, Int.reduceAdd, Int.reduceBNe, Int.reduceLE, Int.reduceEq, Int.reduceBEq, Bool.false_eq_true, reduceCtorEq, sizeLine_eq, decide_true, decide_false, decide_eq_true_eq, true_and, and_true, and_self]
theorem hop_set (r : Row) : gIn (.str r.op) d_SETS = some (.val (.bl r.st.isSome)) := by
  rcases r with r | _ | _
  · cases r <;> simp only [Row.op, SR.op, Row.st, SR.st, EV, EVT, EVC, EVY, LST, ↓reduceIte, Nat.reduceAdd, Nat.reduceSub, Nat.reduceLeDiff, Nat.reduceLT, Nat.reduceEqDiff, Nat.reduceBEq, Int.reduceLT, Int.reduceAdd, Int.reduceBNe, Int.reduceLE, Int.reduceEq, Int.reduceBEq, Bool.false_eq_true, reduceCtorEq, sizeLine_eq, decide_true, decide_false, decide_eq_true_eq, true_and, and_true, and_self]
  · simp only [Row.op, Row.st, EV, EVT, EVC, EVY, LST, ↓reduceIte, Nat.reduceAdd, Nat.reduceSub, Nat.reduceLeDiff, Nat.reduceLT, Nat.reduceEqDiff, Nat.reduceBEq, Int.reduceLT, Int.reduceAdd, Int.reduceBNe, Int.reduceLE, Int.reduceEq, Int.reduceBEq, Bool.false_eq_true, reduceCtorEq, sizeLine_eq, decide_true, decide_false, decide_eq_true_eq, true_and, and_true, and_self]
  · simp only [Row.op, Row.st, EV, EVT, EVC, EVY, LST, ↓reduceIte, Nat.reduceAdd, Nat.reduceSub, Nat.reduceLeDiff, Nat.reduceLT, Nat.reduceEqDiff, Nat.reduceBEq, Int.reduceLT, Int.reduceAdd, Int.reduceBNe, Int.reduceLE, Int.reduceEq, Int.reduceBEq, Bool.false_eq_true, reduceCtorEq, sizeLine_eq, decide_true, decide_false, decide_eq_true_eq, true_and, and_true, and_self]
theorem kinds_le (r : Row) : r.kinds.length ≤ 3 := by
  rcases r with r | _ | _
  · cases r <;> simp [Row.kinds, SR.kinds]
  · simp [Row.kinds]
  · simp [Row.kinds]
theorem reads_lc (r : Row) : lc0_reads m_kinds_of [.val r.toD, .unset, .unset, .unset] = some (.new (.lst (r.kinds.map fun p => .str p.1)), [.val r.toD, .unset, .unset, .unset]) := by
  unfold lc0_reads
  simp only [kinds_ok, EV, EVT, EVC, EVY, LST, ↓reduceIte, Nat.reduceAdd, Nat.reduceSub, Nat.reduceLeDiff, Nat.reduceLT, Nat.reduceEqDiff, Nat.reduceBEq, Int.reduceLT, Int.reduceAdd, Int.reduceBNe, Int.reduceLE, Int.reduceEq, Int.reduceBEq, Bool.false_eq_true, reduceCtorEq, sizeLine_eq, decide_true, decide_false, decide_eq_true_eq, true_and, and_true, and_self]
  exact lcK_map (fun p : Str × Bool => .str p.1) pD _ _ rfl (by have := kinds_le r; omega) fun p _ => by simp only [pD, EV, EVT, EVC, EVY, LST, ↓reduceIte, Nat.reduceAdd, Nat.reduceSub, Nat.reduceLeDiff, Nat.reduceLT, Nat.reduceEqDiff, Nat.reduceBEq, Int.reduceLT, Int.reduceAdd, Int.reduceBNe, Int.reduceLE, Int.reduceEq, Int.reduceBEq, Bool.false_eq_true, reduceCtorEq, sizeLine_eq, decide_true, decide_false, decide_eq_true_eq, true_and, and_true, and_self]
theorem rd_eq (r : Row) : r.rd = if r.st.isSome = true then (r.kinds.map (·.1)).drop 1 else r.kinds.map (·.1) := by
  rcases r with r | _ | _
  · cases r <;> rfl
  · rfl
  · rfl
theorem reads_ok (r : Row) : m_reads m_kinds_of [r.toD] = some (.new (.lst (r.rd.map .str)), []) := by
  rw [mk_reads]
  unfold fs_reads
  simp only [reads_lc, hop, hop_set, EV, EVT, EVC, EVY, LST, ↓reduceIte, Nat.reduceAdd, Nat.reduceSub, Nat.reduceLeDiff, Nat.reduceLT, Nat.reduceEqDiff, Nat.reduceBEq, Int.reduceLT, Int.reduceAdd, Int.reduceBNe, Int.reduceLE, Int.reduceEq, Int.reduceBEq, Bool.false_eq_true, reduceCtorEq, sizeLine_eq, decide_true, decide_false, decide_eq_true_eq, true_and, and_true, and_self]
  have e : r.kinds.map (fun p => DL.D.str p.1) = (r.kinds.map (·.1)).map .str := by rw [List.map_map]; rfl
  rw [rd_eq, e]
  by_cases h : r.st.isSome = true
  · simp only [h, EV, EVT, EVC, EVY, LST, ↓reduceIte, Nat.reduceAdd, Nat.reduceSub, Nat.reduceLeDiff, Nat.reduceLT, Nat.reduceEqDiff, Nat.reduceBEq, Int.reduceLT, Int.reduceAdd, Int.reduceBNe, Int.reduceLE, Int.reduceEq, Int.reduceBEq, Bool.false_eq_true, reduceCtorEq, sizeLine_eq, decide_true, decide_false, decide_eq_true_eq, true_and, and_true, and_self, List.map_drop]
  · simp only [Bool.not_eq_true] at h
    simp only [h, EV, EVT, EVC, EVY, LST, ↓reduceIte, Nat.reduceAdd, Nat.reduceSub, Nat.reduceLeDiff, Nat.reduceLT, Nat.reduceEqDiff, Nat.reduceBEq, Int.reduceLT, Int.reduceAdd, Int.reduceBNe, Int.reduceLE, Int.reduceEq, Int.reduceBEq, Bool.false_eq_true, reduceCtorEq, sizeLine_eq, decide_true, decide_false, decide_eq_true_eq, true_and, and_true, and_self]
def Rcount : Nat → Mir
  | 0 => fun _ => none
  | n + 1 => m_count_of m_blocks_of (Rcount n)
theorem row_cnt (r : Row) : (r.cnt : Int) = 1 + ((r.parts.map fun b => (cnts b : Int)).sum) := by
  cases r <;> simp [Row.cnt, Row.parts]
theorem cnts_map (b : List Row) : (b.map fun r => (r.cnt : Int)).sum = cnts b := by
  induction b with
  | nil => rfl
  | cons r b ih => rw [List.map_cons, List.sum_cons, ih, cnts]; simp
theorem len_cnts : ∀ b : List Row, b.length ≤ cnts b
  | [] => Nat.zero_le _
  | r :: b => by
    have h := len_cnts b
    have : 1 ≤ r.cnt := by cases r <;> simp [Row.cnt]
    rw [cnts, List.length_cons]
    omega
theorem part_dep {r : Row} {b : List Row} (h : b ∈ r.parts) : deps b < r.dep ∧ cnts b < r.cnt := by
  cases r with
  | s r => cases h
  | ife x a c =>
    simp only [Row.parts, List.mem_cons, List.not_mem_nil, or_false] at h
    rcases h with rfl | rfl <;> simp only [Row.dep, Row.cnt] <;> omega
  | loop x c =>
    simp only [Row.parts, List.mem_cons, List.not_mem_nil, or_false] at h
    rcases h with rfl
    simp only [Row.dep, Row.cnt]; omega
theorem mem_dep {r : Row} {b : List Row} (h : r ∈ b) : r.dep ≤ deps b ∧ r.cnt ≤ cnts b := by
  induction b with
  | nil => cases h
  | cons x b ih =>
    rw [deps, cnts]
    rcases List.mem_cons.mp h with rfl | h
    · omega
    · have := ih h; omega
theorem parts_le (r : Row) : r.parts.length ≤ 2 := by cases r <;> simp [Row.parts]
theorem count_lc {n : Nat} {r : Row} {d0 : S} (ih : ∀ b ∈ r.parts, Rcount n [bD b] = some (.val (.int (cnts b)), [])) :
    lc0_count_of m_blocks_of (Rcount n) [d0, .val r.toD, .unset] = some (.new (.lst (r.parts.map fun b => .int (cnts b))), [d0, .val r.toD, .unset]) := by
  unfold lc0_count_of
  simp only [blocks_ok, EV, EVT, EVC, EVY, LST, ↓reduceIte, Nat.reduceAdd, Nat.reduceSub, Nat.reduceLeDiff, Nat.reduceLT, Nat.reduceEqDiff, Nat.reduceBEq, Int.reduceLT, Int.reduceAdd, Int.reduceBNe, Int.reduceLE, Int.reduceEq, Int.reduceBEq, Bool.false_eq_true, reduceCtorEq, sizeLine_eq, decide_true, decide_false, decide_eq_true_eq, true_and, and_true, and_self]
  exact lcK_map (fun b => .int (cnts b)) bD _ _ rfl (by have := parts_le r; omega) fun b hb => by simp only [EV, EVT, EVC, EVY, LST, ↓reduceIte, Nat.reduceAdd, Nat.reduceSub, Nat.reduceLeDiff, Nat.reduceLT, Nat.reduceEqDiff, Nat.reduceBEq, Int.reduceLT, Int.reduceAdd, Int.reduceBNe, Int.reduceLE, Int.reduceEq, Int.reduceBEq, Bool.false_eq_true, reduceCtorEq, sizeLine_eq, decide_true, decide_false, decide_eq_true_eq, true_and, and_true, and_self, ih b hb]
theorem count_ok : ∀ (n : Nat) (b : List Row), deps b < n → cnts b ≤ 16000000 → Rcount n [bD b] = some (.val (.int (cnts b)), [])
  | 0, _, h, _ => absurd h (Nat.not_lt_zero _)
  | n + 1, b, h, hc => by
    show m_count_of m_blocks_of (Rcount n) [bD b] = _
    rw [mk_count_of]
    unfold fs_count_of lc1_count_of
    have L := lcK_map (g := fgName 1) (tt := ftYes) (fe := f2 gAdd (fC (.int 1)) (fN gSum (fCons (lc0_count_of m_blocks_of (Rcount n)) fNil))) (vs := [1]) (fun r : Row => .int r.cnt) Row.toD b [.val (bD b), .unset, .unset] rfl (by have := len_cnts b; omega) fun r hr => by
      have hi : ∀ p ∈ r.parts, Rcount n [bD p] = some (.val (.int (cnts p)), []) := fun p hp => by
        have := part_dep hp; have := mem_dep hr
        exact count_ok n p (by omega) (by omega)
      simp only [EV, EVT, EVC, EVY, LST, ↓reduceIte, Nat.reduceAdd, Nat.reduceSub, Nat.reduceLeDiff, Nat.reduceLT, Nat.reduceEqDiff, Nat.reduceBEq, Int.reduceLT, Int.reduceAdd, Int.reduceBNe, Int.reduceLE, Int.reduceEq, Int.reduceBEq, Bool.false_eq_true, reduceCtorEq, sizeLine_eq, decide_true, decide_false, decide_eq_true_eq, true_and, and_true, and_self, count_lc hi, intsD_map, row_cnt]
    have e : itD (bD b) = fun ρ => some (b.map Row.toD, ρ) := by funext ρ; rw [bD, toDs_map]; rfl
    simp only [EV, EVT, EVC, EVY, LST, ↓reduceIte, Nat.reduceAdd, Nat.reduceSub, Nat.reduceLeDiff, Nat.reduceLT, Nat.reduceEqDiff, Nat.reduceBEq, Int.reduceLT, Int.reduceAdd, Int.reduceBNe, Int.reduceLE, Int.reduceEq, Int.reduceBEq, Bool.false_eq_true, reduceCtorEq, sizeLine_eq, decide_true, decide_false, decide_eq_true_eq, true_and, and_true, and_self, e, L, intsD_map, cnts_map]
end TA
set_option maxRecDepth 100000
set_option maxHeartbeats 4000000
namespace TA
open PySem PySem.Spec L2 DL
abbrev KD := List (Str × Bool)
def kvD (k : KD) : List (Str × DL.D) := k.map fun p => (p.1, kD p.2)
def kfind (k : KD) (x : Str) : Option Bool := (k.find? fun p => decide (p.1 = x)).map (·.2)
theorem kvD_get (x : Str) : ∀ k : KD, dget (kvD k) x = (kfind k x).map kD
  | [] => rfl
  | p :: k => by
    have ih := kvD_get x k
    unfold dget kfind kvD at *
    rw [List.map_cons, List.find?_cons, List.find?_cons]
    by_cases h : p.1 = x
    · simp [h]
    · simp only [decide_eq_false h]
      exact ih
theorem dput_new {kvs : List (Str × DL.D)} {x : Str} (d : DL.D) (h : dget kvs x = none) : dput kvs x d = kvs ++ [(x, d)] := by
  unfold dput
  have : (kvs.any fun kv => decide (kv.1 = x)) = false := by
    unfold dget at h
    rw [Option.map_eq_none_iff, List.find?_eq_none] at h
    rw [List.any_eq_false]
    exact h
  rw [this, if_neg Bool.false_ne_true]
theorem gEqS_kD (f : Bool → Bool) (a b : Bool) : gEqS f (kD a) (kD b) = some (.val (.bl (f (a == b)))) := by
  cases a <;> cases b <;> simp only [kD, EV, EVT, EVC, EVY, LST, ↓reduceIte, Nat.reduceAdd, Nat.reduceSub, Nat.reduceLeDiff, Nat.reduceLT, Nat.reduceEqDiff, Nat.reduceBEq, Int.reduceLT, Int.reduceAdd, Int.reduceBNe, Int.reduceLE, Int.reduceEq, Int.reduceBEq, Bool.false_eq_true, reduceCtorEq, sizeLine_eq, decide_true, decide_false, decide_eq_true_eq, true_and, and_true, and_self] <;> rfl
def kRow : List (Str × Bool) → KD → Bool × KD
  | [], k => (true, k)
  | (x, b) :: l, k => match kfind k x with
    | some c => if c = b then kRow l k else (false, k)
    | none => kRow l (k ++ [(x, b)])
theorem kRow_len : ∀ (l : List (Str × Bool)) (k : KD), (kRow l k).2.length ≤ k.length + l.length
  | [], k => by simp [kRow]
  | (x, b) :: l, k => by
    unfold kRow
    rw [List.length_cons]
    split
    · split
      · have := kRow_len l k; omega
      · simp only; omega
    · have := kRow_len l (k ++ [(x, b)])
      rw [List.length_append, List.length_singleton] at this
      omega
def kOut (x : Bool × KD) (R0 : S) (own : Bool) (row : S) : Option Out := match x with
  | (true, k) => some (.nx [R0, .own own (.dct (kvD k)), row, .unset, .unset, .unset])
  | (false, k) => some (.rt (.val (.bl false)) [R0, .own own (.dct (kvD k)), row, .unset, .unset, .unset])
theorem kin0 {g1 g2 g3 : Mir} {R0 row : S} {own : Bool} : ∀ (l : List (Str × Bool)) (k : KD), k.length + l.length ≤ 16000000 →
    forL (fgTup 2 (fgCons (fgName 3) (fgCons (fgName 4) fgNil))) (lb0_kinds_in g1 g2 g3) (l.map pD) [R0, .own own (.dct (kvD k)), row, .unset, .unset, .unset] = kOut (kRow l k) R0 own row
  | [], k, _ => rfl
  | (x, b) :: l, k, h => by
    rw [List.length_cons] at h
    have hl : (kvD k).length ≤ 16000000 := by unfold kvD; rw [List.length_map]; omega
    have hl : (kvD k).length < 16777216 := by omega
    rw [List.map_cons, forL_c]
    unfold kRow
    cases q : kfind k x with
    | some c =>
      have q1 : dget (kvD k) x = some (kD c) := by rw [kvD_get, q]; rfl
      by_cases e : c = b
      · subst e
        simp only [pD, lb0_kinds_in, EV, EVT, EVC, EVY, LST, ↓reduceIte, Nat.reduceAdd, Nat.reduceSub, Nat.reduceLeDiff, Nat.reduceLT, Nat.reduceEqDiff, Nat.reduceBEq, Int.reduceLT, Int.reduceAdd, Int.reduceBNe, Int.reduceLE, Int.reduceEq, Int.reduceBEq, Bool.false_eq_true, reduceCtorEq, sizeLine_eq, decide_true, decide_false, decide_eq_true_eq, true_and, and_true, and_self, q1, hl, gEqS_kD, beq_self_eq_true]
        exact kin0 (g1 := g1) (g2 := g2) (g3 := g3) l k (by omega)
      · have e' : (c == b) = false := by simpa using e
        simp only [pD, lb0_kinds_in, EV, EVT, EVC, EVY, LST, ↓reduceIte, Nat.reduceAdd, Nat.reduceSub, Nat.reduceLeDiff, Nat.reduceLT, Nat.reduceEqDiff, Nat.reduceBEq, Int.reduceLT, Int.reduceAdd, Int.reduceBNe, Int.reduceLE, Int.reduceEq, Int.reduceBEq, Bool.false_eq_true, reduceCtorEq, sizeLine_eq, decide_true, decide_false, decide_eq_true_eq, true_and, and_true, and_self, q1, hl, gEqS_kD, e', e, kOut]
    | none =>
      have q1 : dget (kvD k) x = none := by rw [kvD_get, q]; rfl
      have q2 : kvD k ++ [(x, kD b)] = kvD (k ++ [(x, b)]) := by unfold kvD; rw [List.map_append]; rfl
      simp only [pD, lb0_kinds_in, EV, EVT, EVC, EVY, LST, ↓reduceIte, Nat.reduceAdd, Nat.reduceSub, Nat.reduceLeDiff, Nat.reduceLT, Nat.reduceEqDiff, Nat.reduceBEq, Int.reduceLT, Int.reduceAdd, Int.reduceBNe, Int.reduceLE, Int.reduceEq, Int.reduceBEq, Bool.false_eq_true, reduceCtorEq, sizeLine_eq, decide_true, decide_false, decide_eq_true_eq, true_and, and_true, and_self, q1, hl, gEqS_kD, beq_self_eq_true, dput_new _ q1, q2]
      exact kin0 (g1 := g1) (g2 := g2) (g3 := g3) l (k ++ [(x, b)]) (by rw [List.length_append, List.length_singleton]; omega)
mutual
def kR : Row → KD → Bool × KD
  | .s r, k => kRow r.kinds k
  | .ife x a b, k => match kRow [(x, false)] k with
    | (false, k1) => (false, k1)
    | (true, k1) => ((kB a k1).1 && (kB b (kB a k1).2).1, (kB b (kB a k1).2).2)
  | .loop x b, k => match kRow [(x, false)] k with
    | (false, k1) => (false, k1)
    | (true, k1) => kB b k1
def kB : List Row → KD → Bool × KD
  | [], k => (true, k)
  | r :: rs, k => match kR r k with
    | (false, k1) => (false, k1)
    | (true, k1) => kB rs k1
end
theorem skinds_le (r : SR) : r.kinds.length ≤ 3 := by cases r <;> simp [SR.kinds]
mutual
theorem kR_len : ∀ (r : Row) (k : KD), (kR r k).2.length ≤ k.length + 3 * r.cnt
  | .s r, k => by
    have h1 := kRow_len r.kinds k
    have h2 := skinds_le r
    simp only [kR, Row.cnt]
    omega
  | .ife x a b, k => by
    have h1 := kRow_len [(x, false)] k
    rw [List.length_singleton] at h1
    simp only [kR, Row.cnt]
    cases q : kRow [(x, false)] k with
    | mk f k1 =>
      rw [q] at h1
      have h2 := kB_len a k1
      have h3 := kB_len b (kB a k1).2
      cases f <;> simp only at * <;> omega
  | .loop x b, k => by
    have h1 := kRow_len [(x, false)] k
    rw [List.length_singleton] at h1
    simp only [kR, Row.cnt]
    cases q : kRow [(x, false)] k with
    | mk f k1 =>
      rw [q] at h1
      have h2 := kB_len b k1
      cases f <;> simp only at * <;> omega
theorem kB_len : ∀ (b : List Row) (k : KD), (kB b k).2.length ≤ k.length + 3 * cnts b
  | [], k => by simp [kB]
  | r :: rs, k => by
    have h1 := kR_len r k
    simp only [kB, cnts]
    cases q : kR r k with
    | mk f k1 =>
      rw [q] at h1
      have h2 := kB_len rs k1
      cases f <;> simp only at * <;> omega
end
def Rkinds : Nat → Mir
  | 0 => fun _ => none
  | n + 1 => m_kinds_in m_kinds_of m_blocks_of (Rkinds n)
theorem kin_lp0 {g : Mir} {R0 : S} {own : Bool} {r : Row} (k : KD) (hk : k.length + 3 ≤ 16000000) :
    lp0_kinds_in m_kinds_of m_blocks_of g [R0, .own own (.dct (kvD k)), .val r.toD, .unset, .unset, .unset] = kOut (kRow r.kinds k) R0 own (.val r.toD) := by
  unfold lp0_kinds_in
  simp only [EV, EVT, EVC, EVY, LST, ↓reduceIte, Nat.reduceAdd, Nat.reduceSub, Nat.reduceLeDiff, Nat.reduceLT, Nat.reduceEqDiff, Nat.reduceBEq, Int.reduceLT, Int.reduceAdd, Int.reduceBNe, Int.reduceLE, Int.reduceEq, Int.reduceBEq, Bool.false_eq_true, reduceCtorEq, sizeLine_eq, decide_true, decide_false, decide_eq_true_eq, true_and, and_true, and_self, kinds_ok]
  exact kin0 r.kinds k (by have := kinds_le r; omega)
def kOut1 (x : Bool × KD) (R0 : S) (own : Bool) : Option Out := match x with
  | (true, k) => some (.nx [R0, .own own (.dct (kvD k)), .unset, .unset, .unset, .unset])
  | (false, k) => some (.rt (.val (.bl false)) [R0, .own own (.dct (kvD k)), .unset, .unset, .unset, .unset])
theorem kin_row {n : Nat} {R0 : S} {own : Bool} {r : Row} (k : KD) (hk : k.length + 3 * r.cnt ≤ 16000000)
    (ih : ∀ b ∈ r.parts, ∀ k : KD, k.length + 3 * cnts b ≤ 16000000 → Rkinds n [bD b, .dct (kvD k)] = some (.val (.bl (kB b k).1), [.dct (kvD (kB b k).2)])) :
    bO (fgName 2 r.toD [R0, .own own (.dct (kvD k)), .unset, .unset, .unset, .unset]) (lb1_kinds_in m_kinds_of m_blocks_of (Rkinds n)) = kOut1 (kR r k) R0 own := by
  have c1 : 1 ≤ r.cnt := by cases r <;> simp [Row.cnt]
  simp only [lb1_kinds_in, EV, EVT, EVC, EVY, LST, ↓reduceIte, Nat.reduceAdd, Nat.reduceSub, Nat.reduceLeDiff, Nat.reduceLT, Nat.reduceEqDiff, Nat.reduceBEq, Int.reduceLT, Int.reduceAdd, Int.reduceBNe, Int.reduceLE, Int.reduceEq, Int.reduceBEq, Bool.false_eq_true, reduceCtorEq, sizeLine_eq, decide_true, decide_false, decide_eq_true_eq, true_and, and_true, and_self, kin_lp0 (r := r) (g := Rkinds n) (R0 := R0) (own := own) k (by omega)]
  have hlen := kRow_len r.kinds k
  have hk3 := kinds_le r
  cases r with
  | s r =>
    simp only [kR, Row.kinds] at *
    cases q : kRow r.kinds k with
    | mk f k1 =>
      cases f
      · simp only [kOut, kOut1, EV, EVT, EVC, EVY, LST, ↓reduceIte, Nat.reduceAdd, Nat.reduceSub, Nat.reduceLeDiff, Nat.reduceLT, Nat.reduceEqDiff, Nat.reduceBEq, Int.reduceLT, Int.reduceAdd, Int.reduceBNe, Int.reduceLE, Int.reduceEq, Int.reduceBEq, Bool.false_eq_true, reduceCtorEq, sizeLine_eq, decide_true, decide_false, decide_eq_true_eq, true_and, and_true, and_self]
      · simp only [kOut, kOut1, EV, EVT, EVC, EVY, LST, ↓reduceIte, Nat.reduceAdd, Nat.reduceSub, Nat.reduceLeDiff, Nat.reduceLT, Nat.reduceEqDiff, Nat.reduceBEq, Int.reduceLT, Int.reduceAdd, Int.reduceBNe, Int.reduceLE, Int.reduceEq, Int.reduceBEq, Bool.false_eq_true, reduceCtorEq, sizeLine_eq, decide_true, decide_false, decide_eq_true_eq, true_and, and_true, and_self, lc0_kinds_in, blocks_ok, Row.parts]
  | ife x a b =>
    simp only [kR, Row.kinds, Row.cnt, List.length_singleton] at *
    cases q : kRow [(x, false)] k with
    | mk f k1 =>
      rw [q] at hlen
      simp only at hlen
      cases f
      · simp only [kOut, kOut1, EV, EVT, EVC, EVY, LST, ↓reduceIte, Nat.reduceAdd, Nat.reduceSub, Nat.reduceLeDiff, Nat.reduceLT, Nat.reduceEqDiff, Nat.reduceBEq, Int.reduceLT, Int.reduceAdd, Int.reduceBNe, Int.reduceLE, Int.reduceEq, Int.reduceBEq, Bool.false_eq_true, reduceCtorEq, sizeLine_eq, decide_true, decide_false, decide_eq_true_eq, true_and, and_true, and_self]
      · have l1 := kB_len a k1
        have i1 := ih a (by simp [Row.parts]) k1 (by omega)
        have i2 := ih b (by simp [Row.parts]) (kB a k1).2 (by omega)
        simp only [kOut, kOut1, EV, EVT, EVC, EVY, LST, ↓reduceIte, Nat.reduceAdd, Nat.reduceSub, Nat.reduceLeDiff, Nat.reduceLT, Nat.reduceEqDiff, Nat.reduceBEq, Int.reduceLT, Int.reduceAdd, Int.reduceBNe, Int.reduceLE, Int.reduceEq, Int.reduceBEq, Bool.false_eq_true, reduceCtorEq, sizeLine_eq, decide_true, decide_false, decide_eq_true_eq, true_and, and_true, and_self, lc0_kinds_in, blocks_ok, Row.parts, i1, i2]
        cases (kB a k1).1 <;> cases (kB b (kB a k1).2).1 <;> simp only [EV, EVT, EVC, EVY, LST, ↓reduceIte, Nat.reduceAdd, Nat.reduceSub, Nat.reduceLeDiff, Nat.reduceLT, Nat.reduceEqDiff, Nat.reduceBEq, Int.reduceLT, Int.reduceAdd, Int.reduceBNe, Int.reduceLE, Int.reduceEq, Int.reduceBEq, Bool.false_eq_true, reduceCtorEq, sizeLine_eq, decide_true, decide_false, decide_eq_true_eq, true_and, and_true, and_self]
  | loop x b =>
    simp only [kR, Row.kinds, Row.cnt, List.length_singleton] at *
    cases q : kRow [(x, false)] k with
    | mk f k1 =>
      rw [q] at hlen
      simp only at hlen
      cases f
      · simp only [kOut, kOut1, EV, EVT, EVC, EVY, LST, ↓reduceIte, Nat.reduceAdd, Nat.reduceSub, Nat.reduceLeDiff, Nat.reduceLT, Nat.reduceEqDiff, Nat.reduceBEq, Int.reduceLT, Int.reduceAdd, Int.reduceBNe, Int.reduceLE, Int.reduceEq, Int.reduceBEq, Bool.false_eq_true, reduceCtorEq, sizeLine_eq, decide_true, decide_false, decide_eq_true_eq, true_and, and_true, and_self]
      · have i1 := ih b (by simp [Row.parts]) k1 (by omega)
        simp only [kOut, EV, EVT, EVC, EVY, LST, ↓reduceIte, Nat.reduceAdd, Nat.reduceSub, Nat.reduceLeDiff, Nat.reduceLT, Nat.reduceEqDiff, Nat.reduceBEq, Int.reduceLT, Int.reduceAdd, Int.reduceBNe, Int.reduceLE, Int.reduceEq, Int.reduceBEq, Bool.false_eq_true, reduceCtorEq, sizeLine_eq, decide_true, decide_false, decide_eq_true_eq, true_and, and_true, and_self, lc0_kinds_in, blocks_ok, Row.parts, i1]
        rcases kB b k1 with ⟨_ | _, k2⟩ <;> simp only [kOut1, EV, EVT, EVC, EVY, LST, ↓reduceIte, Nat.reduceAdd, Nat.reduceSub, Nat.reduceLeDiff, Nat.reduceLT, Nat.reduceEqDiff, Nat.reduceBEq, Int.reduceLT, Int.reduceAdd, Int.reduceBNe, Int.reduceLE, Int.reduceEq, Int.reduceBEq, Bool.false_eq_true, reduceCtorEq, sizeLine_eq, decide_true, decide_false, decide_eq_true_eq, true_and, and_true, and_self]
theorem kin_rows {n : Nat} {R0 : S} {own : Bool} : ∀ (b : List Row) (k : KD), k.length + 3 * cnts b ≤ 16000000 →
    (∀ r ∈ b, ∀ p ∈ r.parts, ∀ k : KD, k.length + 3 * cnts p ≤ 16000000 → Rkinds n [bD p, .dct (kvD k)] = some (.val (.bl (kB p k).1), [.dct (kvD (kB p k).2)])) →
    forL (fgName 2) (lb1_kinds_in m_kinds_of m_blocks_of (Rkinds n)) (b.map Row.toD) [R0, .own own (.dct (kvD k)), .unset, .unset, .unset, .unset] = kOut1 (kB b k) R0 own
  | [], k, _, _ => by simp only [EV, EVT, EVC, EVY, LST, ↓reduceIte, Nat.reduceAdd, Nat.reduceSub, Nat.reduceLeDiff, Nat.reduceLT, Nat.reduceEqDiff, Nat.reduceBEq, Int.reduceLT, Int.reduceAdd, Int.reduceBNe, Int.reduceLE, Int.reduceEq, Int.reduceBEq, Bool.false_eq_true, reduceCtorEq, sizeLine_eq, decide_true, decide_false, decide_eq_true_eq, true_and, and_true, and_self, kB, kOut1]
  | r :: b, k, hk, ih => by
    rw [cnts] at hk
    rw [List.map_cons, forL_c, kin_row k (by omega) (ih r List.mem_cons_self)]
    have hl := kR_len r k
    unfold kB
    cases q : kR r k with
    | mk f k1 =>
      rw [q] at hl
      cases f
      · simp only [kOut1, EV, EVT, EVC, EVY, LST, ↓reduceIte, Nat.reduceAdd, Nat.reduceSub, Nat.reduceLeDiff, Nat.reduceLT, Nat.reduceEqDiff, Nat.reduceBEq, Int.reduceLT, Int.reduceAdd, Int.reduceBNe, Int.reduceLE, Int.reduceEq, Int.reduceBEq, Bool.false_eq_true, reduceCtorEq, sizeLine_eq, decide_true, decide_false, decide_eq_true_eq, true_and, and_true, and_self]
      · simp only [kOut1, EV, EVT, EVC, EVY, LST, ↓reduceIte, Nat.reduceAdd, Nat.reduceSub, Nat.reduceLeDiff, Nat.reduceLT, Nat.reduceEqDiff, Nat.reduceBEq, Int.reduceLT, Int.reduceAdd, Int.reduceBNe, Int.reduceLE, Int.reduceEq, Int.reduceBEq, Bool.false_eq_true, reduceCtorEq, sizeLine_eq, decide_true, decide_false, decide_eq_true_eq, true_and, and_true, and_self]
        exact kin_rows b k1 (by simp only at hl; omega) fun r' hr' => ih r' (List.mem_cons_of_mem _ hr')
theorem kinds_in_ok : ∀ (n : Nat) (b : List Row) (k : KD), deps b < n → k.length + 3 * cnts b ≤ 16000000 → Rkinds n [bD b, .dct (kvD k)] = some (.val (.bl (kB b k).1), [.dct (kvD (kB b k).2)])
  | 0, _, _, h, _ => absurd h (Nat.not_lt_zero _)
  | n + 1, b, k, h, hk => by
    show m_kinds_in m_kinds_of m_blocks_of (Rkinds n) [bD b, .dct (kvD k)] = _
    rw [mk_kinds_in]
    unfold fs_kinds_in lp1_kinds_in
    have L := kin_rows (n := n) (R0 := .val (bD b)) (own := true) b k hk fun r hr p hp k' hk' => by
      have := part_dep hp; have := mem_dep hr
      exact kinds_in_ok n p k' (by omega) hk'
    have e : itD (bD b) = fun ρ => some (b.map Row.toD, ρ) := by funext ρ; rw [bD, toDs_map]; rfl
    simp only [EV, EVT, EVC, EVY, LST, ↓reduceIte, Nat.reduceAdd, Nat.reduceSub, Nat.reduceLeDiff, Nat.reduceLT, Nat.reduceEqDiff, Nat.reduceBEq, Int.reduceLT, Int.reduceAdd, Int.reduceBNe, Int.reduceLE, Int.reduceEq, Int.reduceBEq, Bool.false_eq_true, reduceCtorEq, sizeLine_eq, decide_true, decide_false, decide_eq_true_eq, true_and, and_true, and_self, e, L]
    cases q : kB b k with
    | mk f k1 => cases f <;> simp only [kOut1, EV, EVT, EVC, EVY, LST, ↓reduceIte, Nat.reduceAdd, Nat.reduceSub, Nat.reduceLeDiff, Nat.reduceLT, Nat.reduceEqDiff, Nat.reduceBEq, Int.reduceLT, Int.reduceAdd, Int.reduceBNe, Int.reduceLE, Int.reduceEq, Int.reduceBEq, Bool.false_eq_true, reduceCtorEq, sizeLine_eq, decide_true, decide_false, decide_eq_true_eq, true_and, and_true, and_self]
end TA
set_option maxRecDepth 100000
set_option maxHeartbeats 4000000
namespace TA
open PySem PySem.Spec L2 DL
def dk (l : List Str) : List (Str × DL.D) := l.map fun x => (x, .bl true)
def ins (l : List Str) (x : Str) : List Str := if x ∈ l then l else l ++ [x]
theorem dk_len (l : List Str) : (dk l).length = l.length := by unfold dk; rw [List.length_map]
theorem dk_get (x : Str) : ∀ l : List Str, dget (dk l) x = if x ∈ l then some (.bl true) else none
  | [] => rfl
  | y :: l => by
    have ih := dk_get x l
    unfold dget dk at *
    rw [List.map_cons, List.find?_cons]
    by_cases h : y = x
    · subst h; simp
    · simp only [decide_eq_false h]
      rw [ih]
      have h' : ¬ x = y := fun z => h z.symm
      simp [h']
theorem dk_has (l : List Str) (x : Str) : (dget (dk l) x).isSome = decide (x ∈ l) := by
  rw [dk_get]; split <;> simp_all
theorem dk_any (l : List Str) (x : Str) : ((dk l).any fun kv => decide (kv.1 = x)) = decide (x ∈ l) := by
  induction l with
  | nil => rfl
  | cons y l ih =>
    unfold dk at *
    rw [List.map_cons, List.any_cons, ih]
    by_cases h : y = x
    · subst h; simp
    · have h' : ¬ x = y := fun z => h z.symm
      simp [h, h']
theorem dk_put (l : List Str) (x : Str) : dput (dk l) x (.bl true) = dk (ins l x) := by
  unfold dput ins
  rw [dk_any]
  by_cases h : x ∈ l
  · simp only [h, decide_true, if_true]
    unfold dk
    rw [List.map_map]
    apply List.map_congr_left
    intro y hy
    simp
  · simp [h, dk]
theorem dk_keys (l : List Str) : (dk l).map (fun kv => DL.D.str kv.1) = l.map .str := by
  unfold dk; rw [List.map_map]; rfl
theorem ins_len (l : List Str) (x : Str) : (ins l x).length ≤ l.length + 1 ∧ l.length ≤ (ins l x).length := by
  unfold ins; split
  · omega
  · rw [List.length_append, List.length_singleton]; omega
def both (hb : List Str) (h : List Str) (x : Str) : List Str := if x ∈ hb then ins h x else h
mutual
def suR : Row → List Str → Option (List Str)
  | .s r, h => if r.rd.all (fun x => decide (x ∈ h)) = true then some (match r.st with | some x => ins h x | none => h) else none
  | .ife x a b, h => if x ∈ h then (match suB a h, suB b h with
    | some ha, some hb => some (ha.foldl (both hb) h)
    | _, _ => none) else none
  | .loop x b, h => if x ∈ h then (match suB b h with
    | some _ => some h
    | none => none) else none
def suB : List Row → List Str → Option (List Str)
  | [], h => some h
  | r :: rs, h => match suR r h with
    | some h1 => suB rs h1
    | none => none
end
/-- it only grows -/
structure Grew (h h' : List Str) (n : Nat) : Prop where
  ex : ∃ m, h' = h ++ m ∧ m.length ≤ n
theorem Grew.len {h h' : List Str} {n : Nat} (g : Grew h h' n) : h'.length ≤ h.length + n := by
  obtain ⟨m, rfl, hm⟩ := g.ex
  rw [List.length_append]; omega
theorem Grew.trans {h h1 h2 : List Str} {n m : Nat} (a : Grew h h1 n) (b : Grew h1 h2 m) : Grew h h2 (n + m) := by
  obtain ⟨x, rfl, hx⟩ := a.ex
  obtain ⟨y, rfl, hy⟩ := b.ex
  exact ⟨x ++ y, by rw [List.append_assoc], by rw [List.length_append]; omega⟩
theorem Grew.refl {h : List Str} {n : Nat} : Grew h h n := ⟨[], by simp, Nat.zero_le _⟩
theorem ins_grew (h : List Str) (x : Str) : Grew h (ins h x) 1 := by
  unfold ins
  split
  · exact .refl
  · exact ⟨[x], rfl, Nat.le_refl _⟩
theorem both_grew (hb h : List Str) (x : Str) : Grew h (both hb h x) 1 := by
  unfold both
  split
  · exact ins_grew h x
  · exact .refl
theorem foldl_grew (hb : List Str) : ∀ (l h : List Str), Grew h (l.foldl (both hb) h) l.length
  | [], h => .refl
  | x :: l, h => by
    rw [List.foldl_cons, List.length_cons, Nat.add_comm]
    exact (both_grew hb h x).trans (foldl_grew hb l _)
theorem foldl_have (hb : List Str) : ∀ (l h : List Str), (∀ x ∈ l, x ∈ h) → l.foldl (both hb) h = h
  | [], h, _ => rfl
  | x :: l, h, k => by
    have : both hb h x = h := by
      unfold both ins
      rw [if_pos (k x List.mem_cons_self)]
      split <;> rfl
    rw [List.foldl_cons, this]
    exact foldl_have hb l h fun y hy => k y (List.mem_cons_of_mem _ hy)
mutual
theorem suR_grew : ∀ (r : Row) (h h' : List Str), suR r h = some h' → Grew h h' r.cnt
  | .s r, h, h', e => by
    unfold suR at e
    split at e
    · have e := Option.some.inj e
      subst e
      unfold Row.cnt
      cases r.st with
      | none => exact .refl
      | some x => exact ins_grew h x
    · cases e
  | .ife x a b, h, h', e => by
    unfold suR at e
    split at e
    · cases qa : suB a h with
      | none => simp only [qa] at e; cases e
      | some ha =>
        cases qb : suB b h with
        | none => simp only [qa, qb] at e; cases e
        | some hb =>
          simp only [qa, qb] at e
          have e := Option.some.inj e
          subst e
          obtain ⟨m, rfl, hm⟩ := (suB_grew a h ha qa).ex
          rw [List.foldl_append, foldl_have hb h h fun _ z => z]
          obtain ⟨m', e', hm'⟩ := (foldl_grew hb m h).ex
          exact ⟨m', e', by unfold Row.cnt; omega⟩
    · cases e
  | .loop x b, h, h', e => by
    unfold suR at e
    split at e
    · cases qb : suB b h with
      | none => simp only [qb] at e; cases e
      | some hb =>
        simp only [qb] at e
        cases e
        exact .refl
    · cases e
theorem suB_grew : ∀ (b : List Row) (h h' : List Str), suB b h = some h' → Grew h h' (cnts b)
  | [], h, h', e => by unfold suB at e; cases e; exact .refl
  | r :: rs, h, h', e => by
    unfold suB at e
    cases q : suR r h with
    | none => simp only [q] at e; cases e
    | some h1 =>
      simp only [q] at e
      rw [cnts]
      exact (suR_grew r h h1 q).trans (suB_grew rs h1 h' e)
end
def suRes (o : Option (List Str)) : R := match o with
  | some h => .new (.dct (dk h))
  | none => .val .non
def suD (o : Option (List Str)) : DL.D := match o with
  | some h => .dct (dk h)
  | none => .non
def Rsurely : Nat → Mir
  | 0 => fun _ => none
  | n + 1 => m_surely (m_reads m_kinds_of) m_blocks_of (Rsurely n) m_sets
def suE (R0 : S) (h : List Str) : Env' := [R0, .own false (.dct (dk h)), .unset, .unset, .unset, .unset]
theorem su_lp0 {g1 g2 g3 g4 : Mir} {R0 row : S} {ha hb : List Str} : ∀ (l s : List Str), s.length + l.length ≤ 16000000 →
    forL (fgName 4) (lb0_surely g1 g2 g3 g4) (l.map .str) [R0, .own false (.dct (dk s)), row, .own false (.lst [.dct (dk ha), .dct (dk hb)]), .unset, .unset] =
      some (.nx [R0, .own false (.dct (dk (l.foldl (both hb) s))), row, .own false (.lst [.dct (dk ha), .dct (dk hb)]), .unset, .unset])
  | [], s, _ => rfl
  | x :: l, s, h => by
    rw [List.length_cons] at h
    have hl : (dk s).length < 16777216 := by rw [dk_len]; omega
    have h1 := (both_grew hb s x).len
    rw [List.map_cons, forL_c, List.foldl_cons, ← su_lp0 (g1 := g1) (g2 := g2) (g3 := g3) (g4 := g4) l (both hb s x) (by omega)]
    by_cases q : x ∈ hb
    · simp only [lb0_surely, EV, EVT, EVC, EVY, LST, ↓reduceIte, Nat.reduceAdd, Nat.reduceSub, Nat.reduceLeDiff, Nat.reduceLT, Nat.reduceEqDiff, Nat.reduceBEq, Int.reduceLT, Int.reduceAdd, Int.reduceBNe, Int.reduceLE, Int.reduceEq, Int.reduceBEq, Bool.false_eq_true, reduceCtorEq, sizeLine_eq, decide_true, decide_false, decide_eq_true_eq, true_and, and_true, and_self, dk_has, q, hl, dk_put, both, if_true]
    · simp only [lb0_surely, EV, EVT, EVC, EVY, LST, ↓reduceIte, Nat.reduceAdd, Nat.reduceSub, Nat.reduceLeDiff, Nat.reduceLT, Nat.reduceEqDiff, Nat.reduceBEq, Int.reduceLT, Int.reduceAdd, Int.reduceBNe, Int.reduceLE, Int.reduceEq, Int.reduceBEq, Bool.false_eq_true, reduceCtorEq, sizeLine_eq, decide_true, decide_false, decide_eq_true_eq, true_and, and_true, and_self, dk_has, q, both, if_false]
theorem none_in (l : List DL.D) (h1 : l.all isNoneOr = true) (h2 : l.all flatD = true → l.any isNonD = inF .non l) : gInS .non (.lst l) = some (.val (.bl (l.any isNonD))) := by
  have e : gInS .non (.lst l) = if (flatD .non && l.all flatD) = true then some (.val (.bl (inF .non l))) else if (isNonD .non && l.all isNoneOr) = true then some (.val (.bl (l.any isNonD))) else none := by
    unfold gInS; rfl
  rw [e]
  by_cases q : l.all flatD = true
  · rw [if_pos (by rw [q]; rfl), h2 q]
  · rw [if_neg (by simp [flatD, q]), if_pos (by rw [h1]; rfl)]
theorem none_in0 : gInS .non (.lst []) = some (.val (.bl false)) := none_in [] rfl fun _ => rfl
theorem none_in1 (o : Option (List Str)) : gInS .non (.lst [suD o]) = some (.val (.bl o.isNone)) := by
  rw [none_in [suD o] (by cases o <;> rfl) (by cases o <;> intro h <;> first | rfl | cases h)]
  cases o <;> rfl
theorem none_in2 (o p : Option (List Str)) : gInS .non (.lst [suD o, suD p]) = some (.val (.bl (o.isNone || p.isNone))) := by
  rw [none_in [suD o, suD p] (by cases o <;> cases p <;> rfl) (by cases o <;> cases p <;> intro h <;> first | rfl | cases h)]
  cases o <;> cases p <;> rfl
theorem su_lc0 {g2 g3 g4 : Mir} {R0 : S} {r : Row} (h : List Str) : lc0_surely (m_reads m_kinds_of) g2 g3 g4 [R0, .own false (.dct (dk h)), .val r.toD, .unset, .unset, .unset] =
    some (.new (.lst (r.rd.map fun x => .bl (decide (x ∈ h)))), [R0, .own false (.dct (dk h)), .val r.toD, .unset, .unset, .unset]) := by
  unfold lc0_surely
  simp only [EV, EVT, EVC, EVY, LST, ↓reduceIte, Nat.reduceAdd, Nat.reduceSub, Nat.reduceLeDiff, Nat.reduceLT, Nat.reduceEqDiff, Nat.reduceBEq, Int.reduceLT, Int.reduceAdd, Int.reduceBNe, Int.reduceLE, Int.reduceEq, Int.reduceBEq, Bool.false_eq_true, reduceCtorEq, sizeLine_eq, decide_true, decide_false, decide_eq_true_eq, true_and, and_true, and_self, reads_ok]
  have hl : r.rd.length ≤ 3 := by
    rcases r with r | _ | _
    · cases r <;> simp [Row.rd, SR.rd]
    · simp [Row.rd]
    · simp [Row.rd]
  exact lcK_map (fun x : Str => .bl (decide (x ∈ h))) .str _ _ rfl (by omega) fun x _ => by simp only [EV, EVT, EVC, EVY, LST, ↓reduceIte, Nat.reduceAdd, Nat.reduceSub, Nat.reduceLeDiff, Nat.reduceLT, Nat.reduceEqDiff, Nat.reduceBEq, Int.reduceLT, Int.reduceAdd, Int.reduceBNe, Int.reduceLE, Int.reduceEq, Int.reduceBEq, Bool.false_eq_true, reduceCtorEq, sizeLine_eq, decide_true, decide_false, decide_eq_true_eq, true_and, and_true, and_self, dk_has]
theorem frz_res (o : Option (List Str)) (ρ : Env') : frz ρ (suRes o) = some (suD o, ρ) := by cases o <;> rfl
theorem su_lc1 {n : Nat} {g1 g4 : Mir} {R0 : S} {r : Row} (h : List Str) (ih : ∀ b ∈ r.parts, Rsurely n [bD b, .dct (dk h)] = some (suRes (suB b h), [])) :
    lc1_surely g1 m_blocks_of (Rsurely n) g4 [R0, .own false (.dct (dk h)), .val r.toD, .unset, .unset, .unset] = some (.new (.lst (r.parts.map fun b => suD (suB b h))), [R0, .own false (.dct (dk h)), .val r.toD, .unset, .unset, .unset]) := by
  unfold lc1_surely
  simp only [EV, EVT, EVC, EVY, LST, ↓reduceIte, Nat.reduceAdd, Nat.reduceSub, Nat.reduceLeDiff, Nat.reduceLT, Nat.reduceEqDiff, Nat.reduceBEq, Int.reduceLT, Int.reduceAdd, Int.reduceBNe, Int.reduceLE, Int.reduceEq, Int.reduceBEq, Bool.false_eq_true, reduceCtorEq, sizeLine_eq, decide_true, decide_false, decide_eq_true_eq, true_and, and_true, and_self, blocks_ok]
  exact lcK_map (fun b => suD (suB b h)) bD _ _ rfl (by have := parts_le r; omega) fun b hb => by simp only [EV, EVT, EVC, EVY, LST, ↓reduceIte, Nat.reduceAdd, Nat.reduceSub, Nat.reduceLeDiff, Nat.reduceLT, Nat.reduceEqDiff, Nat.reduceBEq, Int.reduceLT, Int.reduceAdd, Int.reduceBNe, Int.reduceLE, Int.reduceEq, Int.reduceBEq, Bool.false_eq_true, reduceCtorEq, sizeLine_eq, decide_true, decide_false, decide_eq_true_eq, true_and, and_true, and_self, ih b hb, frz_res]
theorem all_rd (l h : List Str) : (l.map fun x => decide (x ∈ h)).all id = l.all fun x => decide (x ∈ h) := all_id_map _ l
def suT (o : Option (List Str)) (R0 : S) (h : List Str) : Option Out := match o with
  | some h' => some (.nx (suE R0 h'))
  | none => some (.rt (.val .non) (suE R0 h))
theorem su_turn {n : Nat} {R0 : S} {r : Row} (h : List Str) (hl : h.length + r.cnt ≤ 8000000) (ih : ∀ b ∈ r.parts, Rsurely n [bD b, .dct (dk h)] = some (suRes (suB b h), [])) :
    bO (fgName 2 r.toD (suE R0 h)) (lb1_surely (m_reads m_kinds_of) m_blocks_of (Rsurely n) m_sets) = suT (suR r h) R0 h := by
  have c1 : 1 ≤ r.cnt := by cases r <;> simp [Row.cnt]
  have hk : (dk h).length < 16777216 := by rw [dk_len]; omega
  have L1 := su_lc1 (g1 := m_reads m_kinds_of) (g4 := m_sets) (R0 := R0) (r := r) h ih
  have L0 := su_lc0 (g2 := m_blocks_of) (g3 := Rsurely n) (g4 := m_sets) (R0 := R0) (r := r) h
  simp only [lb1_surely, suE, EV, EVT, EVC, EVY, LST, ↓reduceIte, Nat.reduceAdd, Nat.reduceSub, Nat.reduceLeDiff, Nat.reduceLT, Nat.reduceEqDiff, Nat.reduceBEq, Int.reduceLT, Int.reduceAdd, Int.reduceBNe, Int.reduceLE, Int.reduceEq, Int.reduceBEq, Bool.false_eq_true, reduceCtorEq, sizeLine_eq, decide_true, decide_false, decide_eq_true_eq, true_and, and_true, and_self, L0, blsD_map, all_rd]
  cases r with
  | s r =>
    unfold suR
    cases q : (Row.s r).rd.all fun x => decide (x ∈ h) with
    | false =>
      have q' : (r.rd.all fun x => decide (x ∈ h)) = false := q
      simp only [EV, EVT, EVC, EVY, LST, ↓reduceIte, Nat.reduceAdd, Nat.reduceSub, Nat.reduceLeDiff, Nat.reduceLT, Nat.reduceEqDiff, Nat.reduceBEq, Int.reduceLT, Int.reduceAdd, Int.reduceBNe, Int.reduceLE, Int.reduceEq, Int.reduceBEq, Bool.false_eq_true, reduceCtorEq, sizeLine_eq, decide_true, decide_false, decide_eq_true_eq, true_and, and_true, and_self, suT, suE, q']
    | true =>
      have q' : (r.rd.all fun x => decide (x ∈ h)) = true := q
      have he : ((SR.op r == ("if" : Str)) = false) := by cases r <;> simp only [SR.op, EV, EVT, EVC, EVY, LST, ↓reduceIte, Nat.reduceAdd, Nat.reduceSub, Nat.reduceLeDiff, Nat.reduceLT, Nat.reduceEqDiff, Nat.reduceBEq, Int.reduceLT, Int.reduceAdd, Int.reduceBNe, Int.reduceLE, Int.reduceEq, Int.reduceBEq, Bool.false_eq_true, reduceCtorEq, sizeLine_eq, decide_true, decide_false, decide_eq_true_eq, true_and, and_true, and_self]
      simp only [EV, EVT, EVC, EVY, LST, ↓reduceIte, Nat.reduceAdd, Nat.reduceSub, Nat.reduceLeDiff, Nat.reduceLT, Nat.reduceEqDiff, Nat.reduceBEq, Int.reduceLT, Int.reduceAdd, Int.reduceBNe, Int.reduceLE, Int.reduceEq, Int.reduceBEq, Bool.false_eq_true, reduceCtorEq, sizeLine_eq, decide_true, decide_false, decide_eq_true_eq, true_and, and_true, and_self, L1, Row.parts, none_in0, hop, Row.op, he, sets_ok, suT, suE, q', Row.st]
      cases q2 : r.st with
      | none => simp only [oD, EV, EVT, EVC, EVY, LST, ↓reduceIte, Nat.reduceAdd, Nat.reduceSub, Nat.reduceLeDiff, Nat.reduceLT, Nat.reduceEqDiff, Nat.reduceBEq, Int.reduceLT, Int.reduceAdd, Int.reduceBNe, Int.reduceLE, Int.reduceEq, Int.reduceBEq, Bool.false_eq_true, reduceCtorEq, sizeLine_eq, decide_true, decide_false, decide_eq_true_eq, true_and, and_true, and_self]
      | some x => simp only [oD, EV, EVT, EVC, EVY, LST, ↓reduceIte, Nat.reduceAdd, Nat.reduceSub, Nat.reduceLeDiff, Nat.reduceLT, Nat.reduceEqDiff, Nat.reduceBEq, Int.reduceLT, Int.reduceAdd, Int.reduceBNe, Int.reduceLE, Int.reduceEq, Int.reduceBEq, Bool.false_eq_true, reduceCtorEq, sizeLine_eq, decide_true, decide_false, decide_eq_true_eq, true_and, and_true, and_self, hk, dk_put, sets_ok, Row.st, q2]
  | ife x a b =>
    unfold suR
    by_cases q : x ∈ h
    · have ga := suB_grew a h
      simp only [Row.cnt] at hl
      simp only [EV, EVT, EVC, EVY, LST, ↓reduceIte, Nat.reduceAdd, Nat.reduceSub, Nat.reduceLeDiff, Nat.reduceLT, Nat.reduceEqDiff, Nat.reduceBEq, Int.reduceLT, Int.reduceAdd, Int.reduceBNe, Int.reduceLE, Int.reduceEq, Int.reduceBEq, Bool.false_eq_true, reduceCtorEq, sizeLine_eq, decide_true, decide_false, decide_eq_true_eq, true_and, and_true, and_self, Row.rd, q, List.all_cons, List.all_nil, if_true]
      cases qa : suB a h with
      | none => simp only [EV, EVT, EVC, EVY, LST, ↓reduceIte, Nat.reduceAdd, Nat.reduceSub, Nat.reduceLeDiff, Nat.reduceLT, Nat.reduceEqDiff, Nat.reduceBEq, Int.reduceLT, Int.reduceAdd, Int.reduceBNe, Int.reduceLE, Int.reduceEq, Int.reduceBEq, Bool.false_eq_true, reduceCtorEq, sizeLine_eq, decide_true, decide_false, decide_eq_true_eq, true_and, and_true, and_self, L1, Row.parts, qa, none_in2, Option.isNone_none, suT, suE]
      | some ha =>
        have la := (ga ha qa).len
        cases qb : suB b h with
        | none => simp only [EV, EVT, EVC, EVY, LST, ↓reduceIte, Nat.reduceAdd, Nat.reduceSub, Nat.reduceLeDiff, Nat.reduceLT, Nat.reduceEqDiff, Nat.reduceBEq, Int.reduceLT, Int.reduceAdd, Int.reduceBNe, Int.reduceLE, Int.reduceEq, Int.reduceBEq, Bool.false_eq_true, reduceCtorEq, sizeLine_eq, decide_true, decide_false, decide_eq_true_eq, true_and, and_true, and_self, L1, Row.parts, qa, qb, none_in2, Option.isNone_none, Option.isNone_some, suT, suE]
        | some hb =>
          simp only [EV, EVT, EVC, EVY, LST, ↓reduceIte, Nat.reduceAdd, Nat.reduceSub, Nat.reduceLeDiff, Nat.reduceLT, Nat.reduceEqDiff, Nat.reduceBEq, Int.reduceLT, Int.reduceAdd, Int.reduceBNe, Int.reduceLE, Int.reduceEq, Int.reduceBEq, Bool.false_eq_true, reduceCtorEq, sizeLine_eq, decide_true, decide_false, decide_eq_true_eq, true_and, and_true, and_self, L1, Row.parts, qa, qb, none_in2, Option.isNone_some, suT, suE, hop, Row.op, lp0_surely]
          simp only [EV, EVT, EVC, EVY, LST, ↓reduceIte, Nat.reduceAdd, Nat.reduceSub, Nat.reduceLeDiff, Nat.reduceLT, Nat.reduceEqDiff, Nat.reduceBEq, Int.reduceLT, Int.reduceAdd, Int.reduceBNe, Int.reduceLE, Int.reduceEq, Int.reduceBEq, Bool.false_eq_true, reduceCtorEq, sizeLine_eq, decide_true, decide_false, decide_eq_true_eq, true_and, and_true, and_self, suD, dk_keys, hop, Row.op]
          rw [su_lp0 ha h (by omega)]
          simp only [EV, EVT, EVC, EVY, LST, ↓reduceIte, Nat.reduceAdd, Nat.reduceSub, Nat.reduceLeDiff, Nat.reduceLT, Nat.reduceEqDiff, Nat.reduceBEq, Int.reduceLT, Int.reduceAdd, Int.reduceBNe, Int.reduceLE, Int.reduceEq, Int.reduceBEq, Bool.false_eq_true, reduceCtorEq, sizeLine_eq, decide_true, decide_false, decide_eq_true_eq, true_and, and_true, and_self, sets_ok, Row.st, oD]
    · simp only [EV, EVT, EVC, EVY, LST, ↓reduceIte, Nat.reduceAdd, Nat.reduceSub, Nat.reduceLeDiff, Nat.reduceLT, Nat.reduceEqDiff, Nat.reduceBEq, Int.reduceLT, Int.reduceAdd, Int.reduceBNe, Int.reduceLE, Int.reduceEq, Int.reduceBEq, Bool.false_eq_true, reduceCtorEq, sizeLine_eq, decide_true, decide_false, decide_eq_true_eq, true_and, and_true, and_self, Row.rd, q, List.all_cons, List.all_nil, if_false, suT, suE]
  | loop x b =>
    unfold suR
    by_cases q : x ∈ h
    · simp only [EV, EVT, EVC, EVY, LST, ↓reduceIte, Nat.reduceAdd, Nat.reduceSub, Nat.reduceLeDiff, Nat.reduceLT, Nat.reduceEqDiff, Nat.reduceBEq, Int.reduceLT, Int.reduceAdd, Int.reduceBNe, Int.reduceLE, Int.reduceEq, Int.reduceBEq, Bool.false_eq_true, reduceCtorEq, sizeLine_eq, decide_true, decide_false, decide_eq_true_eq, true_and, and_true, and_self, Row.rd, q, List.all_cons, List.all_nil, if_true]
      cases qb : suB b h with
      | none => simp only [EV, EVT, EVC, EVY, LST, ↓reduceIte, Nat.reduceAdd, Nat.reduceSub, Nat.reduceLeDiff, Nat.reduceLT, Nat.reduceEqDiff, Nat.reduceBEq, Int.reduceLT, Int.reduceAdd, Int.reduceBNe, Int.reduceLE, Int.reduceEq, Int.reduceBEq, Bool.false_eq_true, reduceCtorEq, sizeLine_eq, decide_true, decide_false, decide_eq_true_eq, true_and, and_true, and_self, L1, Row.parts, qb, none_in1, Option.isNone_none, suT, suE]
      | some hb => simp only [EV, EVT, EVC, EVY, LST, ↓reduceIte, Nat.reduceAdd, Nat.reduceSub, Nat.reduceLeDiff, Nat.reduceLT, Nat.reduceEqDiff, Nat.reduceBEq, Int.reduceLT, Int.reduceAdd, Int.reduceBNe, Int.reduceLE, Int.reduceEq, Int.reduceBEq, Bool.false_eq_true, reduceCtorEq, sizeLine_eq, decide_true, decide_false, decide_eq_true_eq, true_and, and_true, and_self, L1, Row.parts, qb, none_in1, Option.isNone_some, suT, suE, hop, Row.op, sets_ok, Row.st, oD]
    · simp only [EV, EVT, EVC, EVY, LST, ↓reduceIte, Nat.reduceAdd, Nat.reduceSub, Nat.reduceLeDiff, Nat.reduceLT, Nat.reduceEqDiff, Nat.reduceBEq, Int.reduceLT, Int.reduceAdd, Int.reduceBNe, Int.reduceLE, Int.reduceEq, Int.reduceBEq, Bool.false_eq_true, reduceCtorEq, sizeLine_eq, decide_true, decide_false, decide_eq_true_eq, true_and, and_true, and_self, Row.rd, q, List.all_cons, List.all_nil, if_false, suT, suE]
theorem su_rows {n : Nat} {R0 : S} : ∀ (b : List Row) (h : List Str), h.length + cnts b ≤ 8000000 →
    (∀ r ∈ b, ∀ p ∈ r.parts, ∀ h : List Str, h.length + cnts p ≤ 8000000 → Rsurely n [bD p, .dct (dk h)] = some (suRes (suB p h), [])) →
    (∀ h', suB b h = some h' → forL (fgName 2) (lb1_surely (m_reads m_kinds_of) m_blocks_of (Rsurely n) m_sets) (b.map Row.toD) (suE R0 h) = some (.nx (suE R0 h'))) ∧
    (suB b h = none → ∃ hx, forL (fgName 2) (lb1_surely (m_reads m_kinds_of) m_blocks_of (Rsurely n) m_sets) (b.map Row.toD) (suE R0 h) = some (.rt (.val .non) (suE R0 hx)))
  | [], h, _, _ => by
    unfold suB
    exact ⟨fun h' e => by cases e; rfl, fun e => nomatch e⟩
  | r :: b, h, hl, ih => by
    rw [cnts] at hl
    have ht := su_turn (n := n) (R0 := R0) (r := r) h (by omega) fun p hp => ih r List.mem_cons_self p hp h (by have := part_dep hp; omega)
    rw [List.map_cons, forL_c, ht]
    unfold suB
    cases q : suR r h with
    | none =>
      dsimp only
      exact ⟨fun h' e => (nomatch e), fun _ => ⟨h, by simp only [suT, EV, EVT, EVC, EVY, LST, ↓reduceIte, Nat.reduceAdd, Nat.reduceSub, Nat.reduceLeDiff, Nat.reduceLT, Nat.reduceEqDiff, Nat.reduceBEq, Int.reduceLT, Int.reduceAdd, Int.reduceBNe, Int.reduceLE, Int.reduceEq, Int.reduceBEq, Bool.false_eq_true, reduceCtorEq, sizeLine_eq, decide_true, decide_false, decide_eq_true_eq, true_and, and_true, and_self]⟩⟩
    | some h1 =>
      have hg := (suR_grew r h h1 q).len
      simp only [suT, EV, EVT, EVC, EVY, LST, ↓reduceIte, Nat.reduceAdd, Nat.reduceSub, Nat.reduceLeDiff, Nat.reduceLT, Nat.reduceEqDiff, Nat.reduceBEq, Int.reduceLT, Int.reduceAdd, Int.reduceBNe, Int.reduceLE, Int.reduceEq, Int.reduceBEq, Bool.false_eq_true, reduceCtorEq, sizeLine_eq, decide_true, decide_false, decide_eq_true_eq, true_and, and_true, and_self]
      exact su_rows b h1 (by omega) fun r' hr' => ih r' (List.mem_cons_of_mem _ hr')
theorem surely_ok : ∀ (n : Nat) (b : List Row) (h : List Str), deps b < n → h.length + cnts b ≤ 8000000 → Rsurely n [bD b, .dct (dk h)] = some (suRes (suB b h), [])
  | 0, _, _, hd, _ => absurd hd (Nat.not_lt_zero _)
  | n + 1, b, h, hd, hl => by
    show m_surely (m_reads m_kinds_of) m_blocks_of (Rsurely n) m_sets [bD b, .dct (dk h)] = _
    rw [mk_surely]
    unfold fs_surely lp1_surely
    obtain ⟨l1, l2⟩ := su_rows (n := n) (R0 := .val (bD b)) b h hl fun r hr p hp h' hl' => by
      have := part_dep hp; have := mem_dep hr
      exact surely_ok n p h' (by omega) hl'
    have e : itD (bD b) = fun ρ => some (b.map Row.toD, ρ) := by funext ρ; rw [bD, toDs_map]; rfl
    unfold suE at l1 l2
    cases q : suB b h with
    | some h' => simp only [EV, EVT, EVC, EVY, LST, ↓reduceIte, Nat.reduceAdd, Nat.reduceSub, Nat.reduceLeDiff, Nat.reduceLT, Nat.reduceEqDiff, Nat.reduceBEq, Int.reduceLT, Int.reduceAdd, Int.reduceBNe, Int.reduceLE, Int.reduceEq, Int.reduceBEq, Bool.false_eq_true, reduceCtorEq, sizeLine_eq, decide_true, decide_false, decide_eq_true_eq, true_and, and_true, and_self, e, l1 h' q, suRes]
    | none =>
      obtain ⟨hx, l2⟩ := l2 q
      simp only [EV, EVT, EVC, EVY, LST, ↓reduceIte, Nat.reduceAdd, Nat.reduceSub, Nat.reduceLeDiff, Nat.reduceLT, Nat.reduceEqDiff, Nat.reduceBEq, Int.reduceLT, Int.reduceAdd, Int.reduceBNe, Int.reduceLE, Int.reduceEq, Int.reduceBEq, Bool.false_eq_true, reduceCtorEq, sizeLine_eq, decide_true, decide_false, decide_eq_true_eq, true_and, and_true, and_self, e, l2, suRes]
end TA
set_option maxRecDepth 100000
set_option maxHeartbeats 4000000
namespace TA
open PySem PySem.Spec L2 DL
def letters : Str := "abcdefghijklmnopqrstuvwxyz"
def isWord (x : Str) : Bool := decide (1 ≤ x.length) && (decide (x.length ≤ 6) && (Txt.stripChars x letters == ""))
theorem word_ok {x : Str} (h : isWord x = true) : m_is_word [.str x] = some (.val (.bl true), []) := by
  unfold isWord at h
  simp only [Bool.and_eq_true, decide_eq_true_eq] at h
  obtain ⟨h1, h2, h6⟩ := h
  have h3 : x.length ≤ 16777216 := by omega
  have h4 : (1 : Int) ≤ x.length := by omega
  have h5 : (x.length : Int) ≤ 6 := by omega
  unfold letters at h6
  have e : gStrip (.str x) [.str "abcdefghijklmnopqrstuvwxyz"] = some (.val (.str (Txt.stripChars x "abcdefghijklmnopqrstuvwxyz"))) := by
    show (if x.length ≤ sizeLine then some (R.val (DL.D.str (Txt.stripChars x "abcdefghijklmnopqrstuvwxyz"))) else none) = _
    rw [if_pos (by rw [sizeLine_eq]; omega)]
  rw [mk_is_word]
  unfold fs_is_word
  simp only [EV, EVT, EVC, EVY, LST, ↓reduceIte, Nat.reduceAdd, Nat.reduceSub, Nat.reduceLeDiff, Nat.reduceLT, Nat.reduceEqDiff, Nat.reduceBEq, Int.reduceLT, Int.reduceAdd, Int.reduceBNe, Int.reduceLE, Int.reduceEq, Int.reduceBEq, Bool.false_eq_true, reduceCtorEq, sizeLine_eq, decide_true, decide_false, decide_eq_true_eq, true_and, and_true, and_self, h3, h4, h5, h6, e]
theorem whole_ok (i a b : Int) (h1 : a ≤ i) (h2 : i ≤ b) : m_is_whole [.int i, .int a, .int b] = some (.val (.bl true), []) := by
  rw [mk_is_whole]
  unfold fs_is_whole
  simp only [EV, EVT, EVC, EVY, LST, ↓reduceIte, Nat.reduceAdd, Nat.reduceSub, Nat.reduceLeDiff, Nat.reduceLT, Nat.reduceEqDiff, Nat.reduceBEq, Int.reduceLT, Int.reduceAdd, Int.reduceBNe, Int.reduceLE, Int.reduceEq, Int.reduceBEq, Bool.false_eq_true, reduceCtorEq, sizeLine_eq, decide_true, decide_false, decide_eq_true_eq, true_and, and_true, and_self, h1, h2]
def Mpart : Mir := m_is_part m_is_whole m_is_word
def SR.fit : SR → Prop
  | .num _ n => 0 ≤ n ∧ n ≤ 999
  | .get _ _ f => 0 ≤ f ∧ f ≤ 1
  | .put _ f _ => 0 ≤ f ∧ f ≤ 1
  | _ => True
def SR.wf (r : SR) : Prop := (∀ p ∈ r.kinds, isWord p.1 = true) ∧ r.fit
mutual
def Row.wf : Row → Prop
  | .s r => r.wf
  | .ife x a b => isWord x = true ∧ wfB a ∧ wfB b
  | .loop x b => isWord x = true ∧ wfB b
def wfB : List Row → Prop
  | [] => True
  | r :: rs => r.wf ∧ wfB rs
end
theorem wfB_mem {b : List Row} (h : wfB b) : ∀ r ∈ b, r.wf := by
  induction b with
  | nil => intro r hr; cases hr
  | cons x b ih =>
    intro r hr
    unfold wfB at h
    rcases List.mem_cons.mp hr with rfl | hr
    · exact h.1
    · exact ih h.2 r hr
theorem wf_part {r : Row} (h : r.wf) : ∀ p ∈ r.parts, wfB p := by
  intro p hp
  cases r with
  | s r => cases hp
  | ife x a b =>
    unfold Row.wf at h
    simp only [Row.parts, List.mem_cons, List.not_mem_nil, or_false] at hp
    rcases hp with rfl | rfl
    · exact h.2.1
    · exact h.2.2
  | loop x b =>
    unfold Row.wf at h
    simp only [Row.parts, List.mem_cons, List.not_mem_nil, or_false] at hp
    rcases hp with rfl
    exact h.2
def Rblk : Nat → Mir
  | 0 => fun _ => none
  | n + 1 => m_is_block (m_is_row Mpart m_is_word (Rblk n))
theorem part_n {x : Str} (h : isWord x = true) : Mpart [.str "n", .str x] = some (.val (.bl true), []) := by
  unfold Mpart; rw [mk_is_part]; unfold fs_is_part
  simp only [EV, EVT, EVC, EVY, LST, ↓reduceIte, Nat.reduceAdd, Nat.reduceSub, Nat.reduceLeDiff, Nat.reduceLT, Nat.reduceEqDiff, Nat.reduceBEq, Int.reduceLT, Int.reduceAdd, Int.reduceBNe, Int.reduceLE, Int.reduceEq, Int.reduceBEq, Bool.false_eq_true, reduceCtorEq, sizeLine_eq, decide_true, decide_false, decide_eq_true_eq, true_and, and_true, and_self, word_ok h]
theorem part_t {x : Str} (h : isWord x = true) : Mpart [.str "t", .str x] = some (.val (.bl true), []) := by
  unfold Mpart; rw [mk_is_part]; unfold fs_is_part
  simp only [EV, EVT, EVC, EVY, LST, ↓reduceIte, Nat.reduceAdd, Nat.reduceSub, Nat.reduceLeDiff, Nat.reduceLT, Nat.reduceEqDiff, Nat.reduceBEq, Int.reduceLT, Int.reduceAdd, Int.reduceBNe, Int.reduceLE, Int.reduceEq, Int.reduceBEq, Bool.false_eq_true, reduceCtorEq, sizeLine_eq, decide_true, decide_false, decide_eq_true_eq, true_and, and_true, and_self, word_ok h]
theorem part_h {i : Int} (h1 : 0 ≤ i) (h2 : i ≤ 999) : Mpart [.str "#", .int i] = some (.val (.bl true), []) := by
  unfold Mpart; rw [mk_is_part]; unfold fs_is_part
  simp only [EV, EVT, EVC, EVY, LST, ↓reduceIte, Nat.reduceAdd, Nat.reduceSub, Nat.reduceLeDiff, Nat.reduceLT, Nat.reduceEqDiff, Nat.reduceBEq, Int.reduceLT, Int.reduceAdd, Int.reduceBNe, Int.reduceLE, Int.reduceEq, Int.reduceBEq, Bool.false_eq_true, reduceCtorEq, sizeLine_eq, decide_true, decide_false, decide_eq_true_eq, true_and, and_true, and_self, whole_ok i 0 999 h1 h2]
theorem part_f {i : Int} (h1 : 0 ≤ i) (h2 : i ≤ 1) : Mpart [.str "f", .int i] = some (.val (.bl true), []) := by
  unfold Mpart; rw [mk_is_part]; unfold fs_is_part
  simp only [EV, EVT, EVC, EVY, LST, ↓reduceIte, Nat.reduceAdd, Nat.reduceSub, Nat.reduceLeDiff, Nat.reduceLT, Nat.reduceEqDiff, Nat.reduceBEq, Int.reduceLT, Int.reduceAdd, Int.reduceBNe, Int.reduceLE, Int.reduceEq, Int.reduceBEq, Bool.false_eq_true, reduceCtorEq, sizeLine_eq, decide_true, decide_false, decide_eq_true_eq, true_and, and_true, and_self, whole_ok i 0 1 h1 h2]
theorem sh_len : (Str.length "n#" = 2) ∧ (Str.length "nn" = 2) ∧ (Str.length "nnn" = 3) ∧ (Str.length "tnn" = 3) ∧ (Str.length "ntf" = 3) ∧ (Str.length "tfn" = 3) ∧ (Str.length "tt" = 2) ∧ (Str.length "ntt" = 3) ∧ (Str.length "n" = 1) ∧ (Str.length "t" = 1) ∧ (Str.length "" = 0) ∧ (0 ≤ 1 ∧ 1 ≤ 2) := by decide +kernel
theorem row_s (g : Mir) (d : Int) {r : SR} (h : r.wf) : m_is_row Mpart m_is_word g [r.toD, .int d] = some (.val (.bl true), []) := by
  rw [mk_is_row]
  unfold fs_is_row
  obtain ⟨h1, h2⟩ := h
  cases r <;> simp only [SR.kinds, List.forall_mem_cons, List.not_mem_nil, false_imp_iff, forall_const, and_true, SR.fit, true_and, implies_true] at h1 h2 <;>
    simp only [SR.toD, EV, EVT, EVC, EVY, LST, ↓reduceIte, Nat.reduceAdd, Nat.reduceSub, Nat.reduceLeDiff, Nat.reduceLT, Nat.reduceEqDiff, Nat.reduceBEq, Int.reduceLT, Int.reduceAdd, Int.reduceBNe, Int.reduceLE, Int.reduceEq, Int.reduceBEq, Bool.false_eq_true, reduceCtorEq, sizeLine_eq, decide_true, decide_false, decide_eq_true_eq, true_and, and_true, and_self, sh_len, lc0_is_row, part_n, part_t, part_h, part_f, h1, h2]
theorem row_if (g : Mir) (d : Int) {x : Str} {a b : List Row} (h : isWord x = true) (ha : g [bD a, .int (d + 1)] = some (.val (.bl true), [])) (hb : g [bD b, .int (d + 1)] = some (.val (.bl true), [])) : m_is_row Mpart m_is_word g [(Row.ife x a b).toD, .int d] = some (.val (.bl true), []) := by
  rw [mk_is_row]
  unfold fs_is_row
  unfold bD at ha hb
  have e : ∀ (x y z w : DL.D), cutG [x, y, z, w] (some 2) none = [z, w] := fun _ _ _ _ => rfl
  simp only [Row.toD, EV, EVT, EVC, EVY, LST, ↓reduceIte, Nat.reduceAdd, Nat.reduceSub, Nat.reduceLeDiff, Nat.reduceLT, Nat.reduceEqDiff, Nat.reduceBEq, Int.reduceLT, Int.reduceAdd, Int.reduceBNe, Int.reduceLE, Int.reduceEq, Int.reduceBEq, Bool.false_eq_true, reduceCtorEq, sizeLine_eq, decide_true, decide_false, decide_eq_true_eq, true_and, and_true, and_self, lc1_is_row, word_ok h, ha, hb, e]
theorem row_loop (g : Mir) (d : Int) {x : Str} {b : List Row} (h : isWord x = true) (hb : g [bD b, .int (d + 1)] = some (.val (.bl true), [])) : m_is_row Mpart m_is_word g [(Row.loop x b).toD, .int d] = some (.val (.bl true), []) := by
  rw [mk_is_row]
  unfold fs_is_row
  unfold bD at hb
  simp only [Row.toD, EV, EVT, EVC, EVY, LST, ↓reduceIte, Nat.reduceAdd, Nat.reduceSub, Nat.reduceLeDiff, Nat.reduceLT, Nat.reduceEqDiff, Nat.reduceBEq, Int.reduceLT, Int.reduceAdd, Int.reduceBNe, Int.reduceLE, Int.reduceEq, Int.reduceBEq, Bool.false_eq_true, reduceCtorEq, sizeLine_eq, decide_true, decide_false, decide_eq_true_eq, true_and, and_true, and_self, lc1_is_row, word_ok h, hb]
theorem block_ok : ∀ (n : Nat) (b : List Row) (d : Int), deps b < n → d + deps b ≤ 6 → cnts b ≤ 400 → wfB b → Rblk n [bD b, .int d] = some (.val (.bl true), [])
  | 0, _, _, h, _, _, _ => absurd h (Nat.not_lt_zero _)
  | n + 1, b, d, h, hd, hc, hw => by
    show m_is_block (m_is_row Mpart m_is_word (Rblk n)) [bD b, .int d] = _
    rw [mk_is_block]
    unfold fs_is_block lc0_is_block
    have e : itD (bD b) = fun ρ => some (b.map Row.toD, ρ) := by funext ρ; rw [bD, toDs_map]; rfl
    have hl := len_cnts b
    have L := lcK_map (g := fgName 2) (tt := ftYes) (fe := fCall [.val, .val] (m_is_row Mpart m_is_word (Rblk n)) (fCons (fVar 2) (fCons (fVar 1) fNil))) (vs := [2]) (fun r : Row => .bl true) Row.toD b [.val (bD b), .val (.int d), .unset] rfl (by omega) fun r hr => by
      have hm := mem_dep hr
      have hp : ∀ p ∈ r.parts, Rblk n [bD p, .int (d + 1)] = some (.val (.bl true), []) := fun p hp => by
        have := part_dep hp
        exact block_ok n p (d + 1) (by omega) (by omega) (by omega) (wf_part (wfB_mem hw r hr) p hp)
      have hr' := wfB_mem hw r hr
      have key : m_is_row Mpart m_is_word (Rblk n) [r.toD, .int d] = some (.val (.bl true), []) := by
        cases r with
        | s r => exact row_s _ d hr'
        | ife x a b => exact row_if _ d hr'.1 (hp a (by simp [Row.parts])) (hp b (by simp [Row.parts]))
        | loop x b => exact row_loop _ d hr'.1 (hp b (by simp [Row.parts]))
      simp only [EV, EVT, EVC, EVY, LST, ↓reduceIte, Nat.reduceAdd, Nat.reduceSub, Nat.reduceLeDiff, Nat.reduceLT, Nat.reduceEqDiff, Nat.reduceBEq, Int.reduceLT, Int.reduceAdd, Int.reduceBNe, Int.reduceLE, Int.reduceEq, Int.reduceBEq, Bool.false_eq_true, reduceCtorEq, sizeLine_eq, decide_true, decide_false, decide_eq_true_eq, true_and, and_true, and_self, key]
    have e1 : decide ((6 : Int) < d) = false := decide_eq_false (by omega)
    have e2 : decide ((400 : Int) < ((b.map Row.toD).length : Nat)) = false := decide_eq_false (by rw [List.length_map]; omega)
    have e3 : gIsi "tuple" (bD b) = some (.val (.bl true)) := rfl
    have e4 : gLen [bD b] = some (.val (.int (b.map Row.toD).length)) := by rw [bD, toDs_map]; rfl
    have ea : (b.map fun _ => true).all id = true := by simp
    simp only [EV, EVT, EVC, EVY, LST, ↓reduceIte, Nat.reduceAdd, Nat.reduceSub, Nat.reduceLeDiff, Nat.reduceLT, Nat.reduceEqDiff, Nat.reduceBEq, Int.reduceLT, Int.reduceAdd, Int.reduceBNe, Int.reduceLE, Int.reduceEq, Int.reduceBEq, Bool.false_eq_true, reduceCtorEq, sizeLine_eq, decide_true, decide_false, decide_eq_true_eq, true_and, and_true, and_self, e, L, e1, e2, e3, e4, blsD_map, ea]
end TA
set_option maxRecDepth 100000
set_option maxHeartbeats 4000000
namespace TA
open PySem PySem.Spec L2 DL
structure Prog where
  ps : List Str
  b : List Row
def Prog.toD (p : Prog) : DL.D := .tup [.tup (p.ps.map .str), bD p.b]
structure Prog.wf (p : Prog) : Prop where
  len : p.ps.length ≤ 3
  word : ∀ x ∈ p.ps, isWord x = true
  nd : p.ps.Nodup
  wb : wfB p.b
  cnt : cnts p.b ≤ 400
  dep : deps p.b ≤ 6
def kstart (ps : List Str) : KD := ps.map fun x => (x, false)
def progB (p : Prog) : Bool := (kB p.b (kstart p.ps)).1 && (suB p.b p.ps).isSome
def Mprog : Mir := m_is_program m_is_word (Rblk 8) (Rcount 8) (Rkinds 8) (Rsurely 8)
theorem foldl_more : ∀ (xs acc : List Str), (acc ++ xs).Nodup → xs.foldl DLset.more acc = acc ++ xs
  | [], acc, _ => by simp
  | x :: xs, acc, h => by
    have hx : x ∉ acc := fun z => by
      rw [List.nodup_append] at h
      exact h.2.2 x z x List.mem_cons_self rfl
    have e : DLset.more acc x = acc ++ [x] := by
      unfold DLset.more
      rw [if_neg]
      intro z
      rw [List.any_eq_true] at z
      obtain ⟨y, hy, q⟩ := z
      exact hx ((eq_of_beq q) ▸ hy)
    rw [List.foldl_cons, e, foldl_more xs (acc ++ [x]) (by rw [List.append_assoc]; exact h), List.append_assoc]
    rfl
theorem strs_map : ∀ l : List Str, DL.strs? (l.map .str) = some l
  | [] => rfl
  | x :: l => by rw [List.map_cons, DL.strs?, strs_map l]; rfl
theorem lenSet_ok {ps : List Str} (h : ps.Nodup) (hl : ps.length ≤ 1000) : gLenSet (.tup (ps.map .str)) = some (.val (.int ps.length)) := by
  unfold gLenSet
  have e : DLset.ones ps = ps := by unfold DLset.ones; rw [foldl_more ps [] (by simpa using h)]; rfl
  simp only [strs_map, if_pos hl, e]
theorem pairs_map (f : Str → DL.D) : ∀ l : List Str, pairsD (l.map fun x => .tup [.str x, f x]) = some (l.map fun x => (x, f x))
  | [] => rfl
  | x :: l => by rw [List.map_cons, pairsD, pairs_map f l]; rfl
theorem merge_new (f : Str → DL.D) : ∀ (l : List Str) (acc : List (Str × DL.D)), (acc.map (·.1) ++ l).Nodup → dmerge acc (l.map fun x => (x, f x)) = acc ++ l.map fun x => (x, f x)
  | [], acc, _ => by simp [dmerge]
  | x :: l, acc, h => by
    have hx : x ∉ acc.map (·.1) := fun z => by
      rw [List.nodup_append] at h
      exact h.2.2 x z x List.mem_cons_self rfl
    have e : dput acc x (f x) = acc ++ [(x, f x)] := by
      apply dput_new
      unfold dget
      rw [Option.map_eq_none_iff, List.find?_eq_none]
      intro kv hkv
      simp only [decide_eq_true_eq]
      intro z
      exact hx (List.mem_map.mpr ⟨kv, hkv, z⟩)
    have ih := merge_new f l (acc ++ [(x, f x)]) (by rw [List.map_append, List.append_assoc]; exact h)
    unfold dmerge at *
    rw [List.map_cons, List.foldl_cons, e, ih, List.append_assoc]
    rfl
theorem merge_ok (f : Str → DL.D) {l : List Str} (h : l.Nodup) : dmerge [] (l.map fun x => (x, f x)) = l.map fun x => (x, f x) := by
  rw [merge_new f l [] (by simpa using h)]; rfl
theorem prog_ok {p : Prog} (w : p.wf) : Mprog [p.toD] = some (.val (.bl (progB p)), []) := by
  obtain ⟨w1, w2, w3, w4, w5, w6⟩ := w
  unfold Mprog
  rw [mk_is_program]
  unfold fs_is_program
  have L0 := lcK_map (g := fgName 2) (tt := ftYes) (fe := fCall [.val] m_is_word (fCons (fVar 2) fNil)) (vs := [2]) (fun x : Str => .bl true) .str p.ps [.val p.toD, .unset, .unset] rfl (by omega) fun x hx => by simp only [EV, EVT, EVC, EVY, LST, ↓reduceIte, Nat.reduceAdd, Nat.reduceSub, Nat.reduceLeDiff, Nat.reduceLT, Nat.reduceEqDiff, Nat.reduceBEq, Int.reduceLT, Int.reduceAdd, Int.reduceBNe, Int.reduceLE, Int.reduceEq, Int.reduceBEq, Bool.false_eq_true, reduceCtorEq, sizeLine_eq, decide_true, decide_false, decide_eq_true_eq, true_and, and_true, and_self, word_ok (w2 x hx)]
  have L1 := lcK_map (g := fgName 2) (tt := ftYes) (fe := fTup (fCons (fVar 2) (fCons (fC (.str "n")) fNil))) (vs := [2]) (fun x : Str => .tup [.str x, .str "n"]) .str p.ps [.val p.toD, .unset, .unset] rfl (by omega) fun x hx => by simp only [EV, EVT, EVC, EVY, LST, ↓reduceIte, Nat.reduceAdd, Nat.reduceSub, Nat.reduceLeDiff, Nat.reduceLT, Nat.reduceEqDiff, Nat.reduceBEq, Int.reduceLT, Int.reduceAdd, Int.reduceBNe, Int.reduceLE, Int.reduceEq, Int.reduceBEq, Bool.false_eq_true, reduceCtorEq, sizeLine_eq, decide_true, decide_false, decide_eq_true_eq, true_and, and_true, and_self]
  have L2 : ∀ k : S, lcK (fgName 2) ftYes (fTup (fCons (fVar 2) (fCons (fC (.bl true)) fNil))) [2] (p.ps.map .str) [.val p.toD, k, .unset] = some (.new (.lst (p.ps.map fun x => .tup [.str x, .bl true])), [.val p.toD, k, .unset]) := fun k =>
    lcK_map (g := fgName 2) (tt := ftYes) (fe := fTup (fCons (fVar 2) (fCons (fC (.bl true)) fNil))) (vs := [2]) (fun x : Str => .tup [.str x, .bl true]) .str p.ps [.val p.toD, k, .unset] rfl (by omega) fun x hx => by simp only [EV, EVT, EVC, EVY, LST, ↓reduceIte, Nat.reduceAdd, Nat.reduceSub, Nat.reduceLeDiff, Nat.reduceLT, Nat.reduceEqDiff, Nat.reduceBEq, Int.reduceLT, Int.reduceAdd, Int.reduceBNe, Int.reduceLE, Int.reduceEq, Int.reduceBEq, Bool.false_eq_true, reduceCtorEq, sizeLine_eq, decide_true, decide_false, decide_eq_true_eq, true_and, and_true, and_self]
  have e1 : decide ((3 : Int) < ((p.ps.map DL.D.str).length : Nat)) = false := decide_eq_false (by rw [List.length_map]; omega)
  have e2 : ((p.ps.length : Int) == ((p.ps.map DL.D.str).length : Nat)) = true := by rw [List.length_map]; exact beq_self_eq_true _
  have ea : (p.ps.map fun _ => true).all id = true := by simp
  have eb := block_ok 8 p.b 0 (by omega) (by omega) w5 w4
  have ec := count_ok 8 p.b (by omega) (by omega)
  have ed : decide ((400 : Int) < (cnts p.b : Nat)) = false := decide_eq_false (by omega)
  have hm1 := merge_ok (fun _ => .str "n") w3
  have hm2 := merge_ok (fun _ => .bl true) w3
  have ek := kinds_in_ok 8 p.b (kstart p.ps) (by omega) (by unfold kstart; rw [List.length_map]; omega)
  have hk : kvD (kstart p.ps) = p.ps.map fun x => (x, DL.D.str "n") := by unfold kvD kstart; rw [List.map_map]; rfl
  rw [hk] at ek
  have es := surely_ok 8 p.b p.ps (by omega) (by omega)
  unfold dk at es
  have g0 : gIx p.toD (.int 0) = some (.val (.tup (p.ps.map .str))) := by simp only [Prog.toD, EV, EVT, EVC, EVY, LST, ↓reduceIte, Nat.reduceAdd, Nat.reduceSub, Nat.reduceLeDiff, Nat.reduceLT, Nat.reduceEqDiff, Nat.reduceBEq, Int.reduceLT, Int.reduceAdd, Int.reduceBNe, Int.reduceLE, Int.reduceEq, Int.reduceBEq, Bool.false_eq_true, reduceCtorEq, sizeLine_eq, decide_true, decide_false, decide_eq_true_eq, true_and, and_true, and_self]
  have g1 : gIx p.toD (.int 1) = some (.val (bD p.b)) := by simp only [Prog.toD, EV, EVT, EVC, EVY, LST, ↓reduceIte, Nat.reduceAdd, Nat.reduceSub, Nat.reduceLeDiff, Nat.reduceLT, Nat.reduceEqDiff, Nat.reduceBEq, Int.reduceLT, Int.reduceAdd, Int.reduceBNe, Int.reduceLE, Int.reduceEq, Int.reduceBEq, Bool.false_eq_true, reduceCtorEq, sizeLine_eq, decide_true, decide_false, decide_eq_true_eq, true_and, and_true, and_self]
  have g2 : gIsi "tuple" p.toD = some (.val (.bl true)) := rfl
  have g3 : gLen [p.toD] = some (.val (.int 2)) := rfl
  have hz : ∀ o : Option (List Str), gIs not (match suRes o with | .val d => d | .new d => d | .slot _ => .non) .non = some (.val (.bl o.isSome)) := fun o => by cases o <;> simp only [suRes, EV, EVT, EVC, EVY, LST, ↓reduceIte, Nat.reduceAdd, Nat.reduceSub, Nat.reduceLeDiff, Nat.reduceLT, Nat.reduceEqDiff, Nat.reduceBEq, Int.reduceLT, Int.reduceAdd, Int.reduceBNe, Int.reduceLE, Int.reduceEq, Int.reduceBEq, Bool.false_eq_true, reduceCtorEq, sizeLine_eq, decide_true, decide_false, decide_eq_true_eq, true_and, and_true, and_self]
  simp only [EV, EVT, EVC, EVY, LST, ↓reduceIte, Nat.reduceAdd, Nat.reduceSub, Nat.reduceLeDiff, Nat.reduceLT, Nat.reduceEqDiff, Nat.reduceBEq, Int.reduceLT, Int.reduceAdd, Int.reduceBNe, Int.reduceLE, Int.reduceEq, Int.reduceBEq, Bool.false_eq_true, reduceCtorEq, sizeLine_eq, decide_true, decide_false, decide_eq_true_eq, true_and, and_true, and_self, g0, g1, g2, g3, e1, lc0_is_program, lc1_is_program, lc2_is_program, L0, L1, L2, blsD_map, ea, lenSet_ok w3 (by omega), e2, eb, ec, ed, pairs_map, hm1, hm2, ek, es]
  unfold progB
  cases (kB p.b (kstart p.ps)).1
  · simp only [EV, EVT, EVC, EVY, LST, ↓reduceIte, Nat.reduceAdd, Nat.reduceSub, Nat.reduceLeDiff, Nat.reduceLT, Nat.reduceEqDiff, Nat.reduceBEq, Int.reduceLT, Int.reduceAdd, Int.reduceBNe, Int.reduceLE, Int.reduceEq, Int.reduceBEq, Bool.false_eq_true, reduceCtorEq, sizeLine_eq, decide_true, decide_false, decide_eq_true_eq, true_and, and_true, and_self]
  · simp only [EV, EVT, EVC, EVY, LST, ↓reduceIte, Nat.reduceAdd, Nat.reduceSub, Nat.reduceLeDiff, Nat.reduceLT, Nat.reduceEqDiff, Nat.reduceBEq, Int.reduceLT, Int.reduceAdd, Int.reduceBNe, Int.reduceLE, Int.reduceEq, Int.reduceBEq, Bool.false_eq_true, reduceCtorEq, sizeLine_eq, decide_true, decide_false, decide_eq_true_eq, true_and, and_true, and_self, g0, g1, L2, pairs_map, hm2, es]
    cases suB p.b p.ps <;> simp only [suRes, EV, EVT, EVC, EVY, LST, ↓reduceIte, Nat.reduceAdd, Nat.reduceSub, Nat.reduceLeDiff, Nat.reduceLT, Nat.reduceEqDiff, Nat.reduceBEq, Int.reduceLT, Int.reduceAdd, Int.reduceBNe, Int.reduceLE, Int.reduceEq, Int.reduceBEq, Bool.false_eq_true, reduceCtorEq, sizeLine_eq, decide_true, decide_false, decide_eq_true_eq, true_and, and_true, and_self]
end TA
set_option maxRecDepth 100000
set_option maxHeartbeats 4000000
namespace TA
open PySem PySem.Spec L2 DL
def cellAt (ns : List Int) (k : Nat) : Int := if k < ns.length then ns[k]?.getD 0 else if ns = [] then 0 else (ns[k % ns.length]?.getD 0) * 31 + k
theorem canLay_ints : ∀ ns : List Int, PyData.canLayAll0 (ns.map PyData.int) = true
  | [] => rfl
  | n :: ns => by
    show (PyData.canLay0 (.int n) && PyData.canLayAll0 (ns.map PyData.int)) = true
    rw [canLay_ints ns]
    rfl
theorem depth_ints : ∀ ns : List Int, PyData.depthAll (ns.map PyData.int) = 0
  | [] => rfl
  | n :: ns => by
    show max (PyData.depth (.int n)) (PyData.depthAll (ns.map PyData.int)) = 0
    rw [depth_ints ns]
    rfl
theorem shaped_ints (ns : List Int) : SeqAt.shaped (.list (ns.map PyData.int)) = true := by
  show (PyData.canLayAll0 (ns.map PyData.int) && decide (PyData.depthAll (ns.map PyData.int) + 1 ≤ 64)) = true
  rw [canLay_ints, depth_ints]
  rfl
theorem cell_ok (ns : List Int) (n : Nat) (hl : ns.length ≤ 63) : m__law_cell_at [.scr ns, .int n] = some (.val (.int (cellAt ns n)), []) := by
  rw [mk__law_cell_at]
  unfold fs__law_cell_at cellAt
  by_cases h : n < ns.length
  · have h2 : (n : Int) < ns.length := by omega
    obtain ⟨y, hy⟩ : ∃ y, ns[n]? = some y := ⟨_, List.getElem?_eq_getElem h⟩
    have h7 : gIx (.scr ns) (.int n) = some (.val (.int y)) := by
      have : atI ns (n : Int) = some y := by
        unfold atI ixN
        rw [if_pos (by omega), if_pos h2, Int.toNat_natCast]
        exact hy
      show (match atI ns n with | some n => some (R.val (.int n)) | none => none) = _
      rw [this]
    simp only [EV, EVT, EVC, EVY, LST, ↓reduceIte, Nat.reduceAdd, Nat.reduceSub, Nat.reduceLeDiff, Nat.reduceLT, Nat.reduceEqDiff, Nat.reduceBEq, Int.reduceLT, Int.reduceAdd, Int.reduceBNe, Int.reduceLE, Int.reduceEq, Int.reduceBEq, Bool.false_eq_true, reduceCtorEq, sizeLine_eq, decide_true, decide_false, decide_eq_true_eq, true_and, and_true, and_self, h, h2, h7, hy]
  · have h2 : ¬ (n : Int) < ns.length := by omega
    cases ns with
    | nil =>
      have h3 : ¬ (n : Int) < 0 := by omega
      have e : gEqS id (.scr []) (.lst []) = some (.val (.bl true)) := rfl
      have e2 : ((([] : List Int).length : Nat) : Int) = 0 := rfl
      simp only [EV, EVT, EVC, EVY, LST, ↓reduceIte, Nat.reduceAdd, Nat.reduceSub, Nat.reduceLeDiff, Nat.reduceLT, Nat.reduceEqDiff, Nat.reduceBEq, Int.reduceLT, Int.reduceAdd, Int.reduceBNe, Int.reduceLE, Int.reduceEq, Int.reduceBEq, Bool.false_eq_true, reduceCtorEq, sizeLine_eq, decide_true, decide_false, decide_eq_true_eq, true_and, and_true, and_self, e, e2, h3, Nat.not_lt_zero]
    | cons x xs =>
      have h4 : 0 < (x :: xs).length := by simp
      have h5 : ((n : Int) % ((x :: xs).length : Nat)) = ((n % (x :: xs).length : Nat) : Int) := by omega
      have h6 : n % (x :: xs).length < (x :: xs).length := Nat.mod_lt _ h4
      have hs := shaped_ints (x :: xs)
      have hg : (gEqS id (.scr (x :: xs)) (.lst [])) = some (.val (.bl false)) := by
        show gEqB id (.scr (x :: xs)) (.lst []) = _
        unfold gEqB
        simp only [toPy, toPys]
        rw [hs]
        rfl
      obtain ⟨y, hy⟩ : ∃ y, (x :: xs)[n % (x :: xs).length]? = some y := ⟨_, List.getElem?_eq_getElem h6⟩
      have h7 : gIx (.scr (x :: xs)) (.int ((n : Int) % ((x :: xs).length : Nat))) = some (.val (.int y)) := by
        have : atI (x :: xs) (((n % (x :: xs).length : Nat)) : Int) = some y := by
          unfold atI ixN
          rw [if_pos (by omega), if_pos (by omega), Int.toNat_natCast]
          exact hy
        rw [h5]
        show (match atI (x :: xs) (((n % (x :: xs).length : Nat)) : Int) with | some n => some (R.val (.int n)) | none => none) = _
        rw [this]
      have h8 : CMul y 31 := .inr ⟨by decide, by decide⟩
      have h9 : (0 : Int) < ((x :: xs).length : Nat) := by omega
      rw [hy, if_neg h, if_neg (List.cons_ne_nil _ _), Option.getD_some]
      generalize (x :: xs) = l at *
      simp only [EV, EVT, EVC, EVY, LST, ↓reduceIte, Nat.reduceAdd, Nat.reduceSub, Nat.reduceLeDiff, Nat.reduceLT, Nat.reduceEqDiff, Nat.reduceBEq, Int.reduceLT, Int.reduceAdd, Int.reduceBNe, Int.reduceLE, Int.reduceEq, Int.reduceBEq, Bool.false_eq_true, reduceCtorEq, sizeLine_eq, decide_true, decide_false, decide_eq_true_eq, true_and, and_true, and_self, h2, hg, h9, h7, h8]
def drawn (ns : List Int) (k : Nat) : Int := (cellAt ns k + 7919 * k + 1) * 48271 % 2147483647
def mix (ns : List Int) (k : Nat) (many : Int) : Int := (drawn ns k * drawn ns k + 7 * drawn ns k + k) % 2147483629 % many
/-- the number drawn as the k-th -/
def dv (ns : List Int) (k : Nat) (many : Int) : Nat := (mix ns k many).toNat
theorem mix_dv (ns : List Int) (k : Nat) {many : Int} (h : 0 < many) : mix ns k many = (dv ns k many : Int) := by
  have := Int.emod_nonneg ((drawn ns k * drawn ns k + 7 * drawn ns k + k) % 2147483629) (b := many) (by omega)
  unfold dv mix
  omega
theorem dv_lt (ns : List Int) (k : Nat) {many : Int} (h : 0 < many) : (dv ns k many : Int) < many := by
  rw [← mix_dv ns k h]
  exact Int.emod_lt_of_pos _ h
theorem mixed_ok (ns : List Int) (n : Nat) (many : Int) (hl : ns.length ≤ 63) (hm : 0 < many) : m__law_mixed m__law_cell_at [.scr ns, .int n, .int many] = some (.val (.int (dv ns n many)), []) := by
  have hc := cell_ok ns n hl
  have c1 : CMul 7919 n := .inl ⟨by decide, by decide⟩
  have c2 : CMul (cellAt ns n + 7919 * n + 1) 48271 := .inr ⟨by decide, by decide⟩
  have hd : 0 ≤ drawn ns n ∧ drawn ns n < 2147483647 := by unfold drawn; omega
  have hd' : (cellAt ns n + 7919 * n + 1) * 48271 % 2147483647 = drawn ns n := rfl
  have c3 : CMul (drawn ns n) (drawn ns n) := .inl ⟨by omega, by omega⟩
  have c4 : CMul 7 (drawn ns n) := .inl ⟨by decide, by decide⟩
  have c5 : (drawn ns n * drawn ns n + 7 * drawn ns n + n) % 2147483629 % many = dv ns n many := mix_dv ns n hm
  have k1 : (0 : Int) < 2147483647 := by decide
  have k2 : (0 : Int) < 2147483629 := by decide
  rw [mk__law_mixed]
  unfold fs__law_mixed
  simp only [EV, EVT, EVC, EVY, LST, ↓reduceIte, Nat.reduceAdd, Nat.reduceSub, Nat.reduceLeDiff, Nat.reduceLT, Nat.reduceEqDiff, Nat.reduceBEq, Int.reduceLT, Int.reduceAdd, Int.reduceBNe, Int.reduceLE, Int.reduceEq, Int.reduceBEq, Bool.false_eq_true, reduceCtorEq, sizeLine_eq, decide_true, decide_false, decide_eq_true_eq, true_and, and_true, and_self, hc, c1, c2, hd', c3, c4, hm, c5, k1, k2]
def Mdraw : Mir := m__law_draw (m__law_mixed m__law_cell_at)
def Mpick : Mir := m__law_pick Mdraw
/-- the town -/
def zs (n : Nat) : List DL.D := List.replicate n (.int 0)
theorem zs_len (n : Nat) : (zs n).length = n := List.length_replicate
theorem zs_app (n : Nat) : zs n ++ [.int 0] = zs (n + 1) := by unfold zs; rw [List.replicate_succ']
theorem draw_ok (ns : List Int) (n : Nat) (many : Int) (hl : ns.length ≤ 63) (hm : 0 < many) (hn : n < 16777000) : Mdraw [.scr ns, .lst (zs n), .int many] = some (.val (.int (dv ns (n + 1) many)), [.lst (zs (n + 1))]) := by
  have h3 : n < 16777216 := by omega
  unfold Mdraw
  rw [mk__law_draw]
  unfold fs__law_draw
  simp only [EV, EVT, EVC, EVY, LST, ↓reduceIte, Nat.reduceAdd, Nat.reduceSub, Nat.reduceLeDiff, Nat.reduceLT, Nat.reduceEqDiff, Nat.reduceBEq, Int.reduceLT, Int.reduceAdd, Int.reduceBNe, Int.reduceLE, Int.reduceEq, Int.reduceBEq, Bool.false_eq_true, reduceCtorEq, sizeLine_eq, decide_true, decide_false, decide_eq_true_eq, true_and, and_true, and_self, h3, zs_app, zs_len, mixed_ok ns (n + 1) many hl hm]
theorem pick_ok (ns : List Int) (n : Nat) (ds : List DL.D) (hl : ns.length ≤ 63) (hn : n < 16777000) (hd : 0 < ds.length) : Mpick [.scr ns, .lst (zs n), .lst ds] = some (.val (ds[dv ns (n + 1) ds.length]?.getD .non), [.lst (zs (n + 1))]) := by
  have hd' : (0 : Int) < ds.length := by omega
  have hv := dv_lt ns (n + 1) hd'
  have hj : dv ns (n + 1) ds.length < ds.length := by omega
  have h7 : gIx (.lst ds) (.int (dv ns (n + 1) ds.length)) = some (.val (ds[dv ns (n + 1) ds.length]?.getD .non)) := by
    have : atI ds (dv ns (n + 1) ds.length : Int) = some ds[dv ns (n + 1) ds.length] := by
      unfold atI ixN
      rw [if_pos (by omega), if_pos (by omega), Int.toNat_natCast]
      exact List.getElem?_eq_getElem hj
    rw [gIx_l, this, List.getElem?_eq_getElem hj]
    rfl
  unfold Mpick
  rw [mk__law_pick]
  unfold fs__law_pick
  simp only [EV, EVT, EVC, EVY, LST, ↓reduceIte, Nat.reduceAdd, Nat.reduceSub, Nat.reduceLeDiff, Nat.reduceLT, Nat.reduceEqDiff, Nat.reduceBEq, Int.reduceLT, Int.reduceAdd, Int.reduceBNe, Int.reduceLE, Int.reduceEq, Int.reduceBEq, Bool.false_eq_true, reduceCtorEq, sizeLine_eq, decide_true, decide_false, decide_eq_true_eq, true_and, and_true, and_self, draw_ok ns n _ hl hd' hn, h7]
/-- one of some words -/
def pk (ns : List Int) (n : Nat) (l : List Str) : Str := l[dv ns (n + 1) l.length]?.getD ""
theorem pk_mem (ns : List Int) (n : Nat) {l : List Str} (h : 0 < l.length) : pk ns n l ∈ l := by
  have hv := dv_lt ns (n + 1) (many := l.length) (by omega)
  have hj : dv ns (n + 1) l.length < l.length := by omega
  unfold pk
  rw [List.getElem?_eq_getElem hj]
  exact List.getElem_mem hj
theorem picks_ok (ns : List Int) (n : Nat) (l : List Str) (hl : ns.length ≤ 63) (hn : n < 16777000) (hd : 0 < l.length) : Mpick [.scr ns, .lst (zs n), .lst (l.map .str)] = some (.val (.str (pk ns n l)), [.lst (zs (n + 1))]) := by
  have hv := dv_lt ns (n + 1) (many := l.length) (by omega)
  have hj : dv ns (n + 1) l.length < l.length := by omega
  rw [pick_ok ns n _ hl hn (by rw [List.length_map]; exact hd), List.length_map, List.getElem?_map]
  unfold pk
  rw [List.getElem?_eq_getElem hj]
  rfl
theorem canLay_strs : ∀ {l : List Str}, (∀ x ∈ l, PyData.strOk x = true) → PyData.canLayAll0 (l.map PyData.str) = true
  | [], _ => rfl
  | x :: l, h => by
    show (PyData.strOk x && PyData.canLayAll0 (l.map PyData.str)) = true
    rw [h x List.mem_cons_self, canLay_strs fun y hy => h y (List.mem_cons_of_mem _ hy)]
    rfl
theorem depth_strs : ∀ l : List Str, PyData.depthAll (l.map PyData.str) = 0
  | [] => rfl
  | n :: ns => by
    show max (PyData.depth (.str n)) (PyData.depthAll (ns.map PyData.str)) = 0
    rw [depth_strs ns]
    rfl
theorem toPys_strs : ∀ l : List Str, toPys (l.map DL.D.str) = some (l.map PyData.str)
  | [] => rfl
  | x :: l => by rw [List.map_cons, toPys, toPys_strs l]; rfl
theorem eq_nil {l : List Str} (h : ∀ x ∈ l, PyData.strOk x = true) (f : Bool → Bool) : gEqS f (.lst (l.map .str)) (.lst []) = some (.val (.bl (f l.isEmpty))) := by
  show gEqB f (.lst (l.map .str)) (.lst []) = _
  unfold gEqB
  have e1 : toPy (.lst (l.map .str)) = some (.list (l.map PyData.str)) := by unfold toPy; rw [toPys_strs]
  have e2 : toPy (.lst []) = some (.list []) := rfl
  have e3 : SeqAt.shaped (.list (l.map PyData.str)) = true := by
    show (PyData.canLayAll0 (l.map PyData.str) && decide (PyData.depthAll (l.map PyData.str) + 1 ≤ 64)) = true
    rw [canLay_strs h, depth_strs]
    rfl
  rw [e1, e2]
  simp only [e3]
  cases l <;> rfl
end TA
set_option maxRecDepth 100000
set_option maxHeartbeats 4000000
namespace TA
open PySem PySem.Spec L2 DL
def Lets (x : Str) : Prop := ∀ c ∈ x.cps.toList, 97 ≤ c ∧ c ≤ 122
theorem letters_has : ∀ c : Nat, c < 123 → 97 ≤ c → letters.cps.contains c = true := by decide +kernel
theorem takeW_all {p : Nat → Bool} : ∀ {l : List Nat}, (∀ c ∈ l, p c = true) → l.takeWhile p = l
  | [], _ => rfl
  | c :: l, h => by rw [List.takeWhile_cons, if_pos (h c List.mem_cons_self), takeW_all fun d hd => h d (List.mem_cons_of_mem _ hd)]
theorem isWord_of {x : Str} (h : Lets x) (h1 : 1 ≤ x.length) (h2 : x.length ≤ 6) : isWord x = true := by
  have go : ∀ c ∈ x.cps.toList, letters.cps.contains c = true := fun c hc => letters_has c (by have := h c hc; omega) (h c hc).1
  have hlo : stripLo letters.cps.contains true x = x.length := by
    unfold stripLo
    rw [if_pos rfl, takeW_all go, Array.length_toList]
    rfl
  have e : Txt.stripChars x letters = "" := by
    unfold Txt.stripChars
    rw [PyProof.Rows.stripBy_eq, hlo]
    unfold Builtin.Str.strSub
    have : x.cps.extract x.length (stripHi letters.cps.contains true x x.length) = #[] := by
      apply Array.extract_empty_of_stop_le_start
      unfold stripHi
      rw [if_pos rfl]
      omega
    rw [this]
    rfl
  unfold isWord
  rw [e, decide_eq_true h1, decide_eq_true h2]
  rfl
theorem lets_ok {x : Str} (h : Lets x) : PyData.strOk x = true := by
  unfold PyData.strOk
  rw [Array.all_eq_true']
  intro c hc
  have := h c (Array.mem_toList_iff.mpr hc)
  simp
  omega
def sg (c : Nat) : Str := ⟨#[c]⟩
theorem cps_app (a b : Str) : (a ++ b).cps = a.cps ++ b.cps := rfl
theorem lets_app {a b : Str} (ha : Lets a) (hb : Lets b) : Lets (a ++ b) := fun c hc => by
  rw [cps_app, Array.toList_append, List.mem_append] at hc
  exact hc.elim (ha c) (hb c)
theorem lets_sg {c : Nat} (h1 : 97 ≤ c) (h2 : c ≤ 122) : Lets (sg c) := fun d hd => by
  have : d = c := by simpa [sg] using hd
  omega
theorem lets_nil : Lets "" := fun c hc => by
  have : (("" : Str).cps.toList) = [] := rfl
  rw [this] at hc; cases hc
theorem len_app (a b : Str) : (a ++ b).length = a.length + b.length := by
  show (a.cps ++ b.cps).size = _
  rw [Array.size_append]
  rfl
theorem len_sg (c : Nat) : (sg c).length = 1 := rfl
/-- the names of numbers and of things -/
structure NG (nums things : List Str) : Prop where
  w : ∀ x, x ∈ nums ∨ x ∈ things → Lets x ∧ 1 ≤ x.length ∧ x.length ≤ 6
  nd : nums.Nodup
  dis : ∀ x, x ∈ nums → x ∉ things
  len : nums.length = 4
  th : things.length = 3
theorem NG.wordN {nums things : List Str} (g : NG nums things) {x : Str} (h : x ∈ nums) : isWord x = true := isWord_of (g.w x (.inl h)).1 (g.w x (.inl h)).2.1 (g.w x (.inl h)).2.2
theorem NG.wordT {nums things : List Str} (g : NG nums things) {x : Str} (h : x ∈ things) : isWord x = true := isWord_of (g.w x (.inr h)).1 (g.w x (.inr h)).2.1 (g.w x (.inr h)).2.2
theorem sg_inj {a b : Nat} {r : Str} (h : sg a ++ r = sg b ++ r) : a = b := by
  have := congrArg (fun x : Str => x.cps.toList) h
  simp [cps_app, sg] at this
  exact this
theorem ng_of {r : Str} (hr : Lets r) (hl : r.length ≤ 3) {l : List Nat} (h : l ∈ [[97, 98, 99, 100], [100, 99, 98, 97], [98, 100, 97, 99]]) : NG (l.map fun c => sg c ++ r) ([116, 117, 118].map fun c => sg c ++ r) := by
  have hc : ∀ c ∈ l, c ∈ [97, 98, 99, 100] := by
    simp only [List.mem_cons, List.not_mem_nil, or_false] at h
    rcases h with rfl | rfl | rfl <;> simp
  have hw : ∀ c, 97 ≤ c → c ≤ 122 → Lets (sg c ++ r) ∧ 1 ≤ (sg c ++ r).length ∧ (sg c ++ r).length ≤ 6 := fun c h1 h2 => by
    refine ⟨lets_app (lets_sg h1 h2) hr, ?_, ?_⟩ <;> rw [len_app] <;> show _ <;> (have : (sg c).length = 1 := rfl) <;> omega
  refine ⟨fun x hx => ?_, ?_, fun x hx ht => ?_, ?_, rfl⟩
  · rcases hx with hx | hx
    · obtain ⟨c, h1, rfl⟩ := List.mem_map.mp hx
      have := hc c h1
      simp only [List.mem_cons, List.not_mem_nil, or_false] at this
      exact hw c (by omega) (by omega)
    · obtain ⟨c, h1, rfl⟩ := List.mem_map.mp hx
      simp only [List.mem_cons, List.not_mem_nil, or_false] at h1
      exact hw c (by omega) (by omega)
  · have nd : l.Nodup := by
      simp only [List.mem_cons, List.not_mem_nil, or_false] at h
      rcases h with rfl | rfl | rfl <;> decide
    exact List.Pairwise.map _ (fun a b hab e => hab (sg_inj e)) nd
  · obtain ⟨c, h1, rfl⟩ := List.mem_map.mp hx
    obtain ⟨d, h2, e⟩ := List.mem_map.mp ht
    have := sg_inj e
    have h3 := hc c h1
    simp only [List.mem_cons, List.not_mem_nil, or_false] at h2 h3
    omega
  · simp only [List.mem_cons, List.not_mem_nil, or_false] at h
    rcases h with rfl | rfl | rfl <;> rfl
/-- a letter drawn -/
def lt (ns : List Int) (n : Nat) : Str := sg (dv ns (n + 1) 26 + 97)
theorem pickL_ok (ns : List Int) (n : Nat) (hl : ns.length ≤ 63) (hn : n < 16777000) : Mpick [.scr ns, .lst (zs n), .str "abcdefghijklmnopqrstuvwxyz"] = some (.val (.str (lt ns n)), [.lst (zs (n + 1))]) := by
  have hj := dv_lt ns (n + 1) (many := 26) (by decide)
  have hs : ("abcdefghijklmnopqrstuvwxyz" : Str).cps.toList = (List.range 26).map (· + 97) := by decide +kernel
  have hn' : ("abcdefghijklmnopqrstuvwxyz" : Str).length = 26 := by decide +kernel
  have h26 : ((26 : Nat) : Int) = 26 := rfl
  have h7 : gIx (.str "abcdefghijklmnopqrstuvwxyz") (.int (dv ns (n + 1) 26)) = some (.val (.str (lt ns n))) := by
    have : atI ("abcdefghijklmnopqrstuvwxyz" : Str).cps.toList (dv ns (n + 1) 26 : Int) = some (dv ns (n + 1) 26 + 97) := by
      rw [hs]
      unfold atI ixN
      rw [List.length_map, List.length_range, if_pos (by omega), if_pos (by omega), Int.toNat_natCast]
      show ((List.range 26).map (· + 97))[dv ns (n + 1) 26]? = _
      rw [List.getElem?_map, List.getElem?_range (by omega)]
      rfl
    show (if ("abcdefghijklmnopqrstuvwxyz" : Str).length ≤ sizeLine then (match atI ("abcdefghijklmnopqrstuvwxyz" : Str).cps.toList (dv ns (n + 1) 26 : Int) with | some c => some (R.val (DL.D.str ⟨#[c]⟩)) | none => none) else none) = _
    rw [this, hn', if_pos (by rw [sizeLine_eq]; omega)]
    rfl
  unfold Mpick
  rw [mk__law_pick]
  unfold fs__law_pick
  simp only [EV, EVT, EVC, EVY, LST, ↓reduceIte, Nat.reduceAdd, Nat.reduceSub, Nat.reduceLeDiff, Nat.reduceLT, Nat.reduceEqDiff, Nat.reduceBEq, Int.reduceLT, Int.reduceAdd, Int.reduceBNe, Int.reduceLE, Int.reduceEq, Int.reduceBEq, Bool.false_eq_true, reduceCtorEq, sizeLine_eq, decide_true, decide_false, decide_eq_true_eq, true_and, and_true, and_self, hn', h26, draw_ok ns n 26 hl (by decide) hn, h7]
def Mnames : Mir := m__law_names Mdraw Mpick
/-- letters behind -/
def restT (ns : List Int) : Nat → Nat → Str → Str
  | 0, _, r => r
  | j + 1, n, r => restT ns j (n + 1) (r ++ lt ns n)
theorem lt_lets (ns : List Int) (n : Nat) : Lets (lt ns n) := by
  have hj := dv_lt ns (n + 1) (many := 26) (by decide)
  exact lets_sg (by omega) (by omega)
theorem restT_ok (ns : List Int) : ∀ (j n : Nat) (r : Str), Lets r → Lets (restT ns j n r) ∧ (restT ns j n r).length = r.length + j
  | 0, _, r, h => ⟨h, rfl⟩
  | j + 1, n, r, h => by
    obtain ⟨h1, h2⟩ := restT_ok ns j (n + 1) (r ++ lt ns n) (lets_app h (lt_lets ns n))
    refine ⟨h1, ?_⟩
    unfold restT
    rw [h2, len_app]
    have : (lt ns n).length = 1 := rfl
    omega
theorem names_lp (ns : List Int) (hl : ns.length ≤ 63) : ∀ (l : List Nat) (n : Nat) (r : Str), n + l.length < 16777000 → r.length + l.length ≤ 1000 →
    forL (fgName 3) (lb0__law_names Mdraw Mpick) (l.map fun i => .int (i : Nat)) [.val (.scr ns), .own true (.lst (zs n)), .val (.str r), .unset, .unset, .unset] =
      some (.nx [.val (.scr ns), .own true (.lst (zs (n + l.length))), .val (.str (restT ns l.length n r)), .unset, .unset, .unset])
  | [], n, r, _, _ => rfl
  | i :: l, n, r, h, h2 => by
    rw [List.length_cons] at h h2
    have e := names_lp ns hl l (n + 1) (r ++ lt ns n) (by omega) (by rw [len_app]; have : (lt ns n).length = 1 := rfl; omega)
    have h3 : r.length + (lt ns n).length ≤ 16777216 := by have : (lt ns n).length = 1 := rfl; omega
    have st : bO (fgName 3 (.int (i : Nat)) [.val (.scr ns), .own true (.lst (zs n)), .val (.str r), .unset, .unset, .unset]) (lb0__law_names Mdraw Mpick) = some (.nx [.val (.scr ns), .own true (.lst (zs (n + 1))), .val (.str (r ++ lt ns n)), .unset, .unset, .unset]) := by
      simp only [lb0__law_names, EV, EVT, EVC, EVY, LST, ↓reduceIte, Nat.reduceAdd, Nat.reduceSub, Nat.reduceLeDiff, Nat.reduceLT, Nat.reduceEqDiff, Nat.reduceBEq, Int.reduceLT, Int.reduceAdd, Int.reduceBNe, Int.reduceLE, Int.reduceEq, Int.reduceBEq, Bool.false_eq_true, reduceCtorEq, sizeLine_eq, decide_true, decide_false, decide_eq_true_eq, true_and, and_true, and_self, pickL_ok ns n hl (by omega), h3]
    rw [List.map_cons, forL_c, List.length_cons, st, bL_nx, e]
    rw [show n + 1 + l.length = n + (l.length + 1) by omega]
    rfl
def namesT (ns : List Int) (n : Nat) : (List Str × List Str) × Nat :=
  let j := dv ns (n + 1) 4
  let r := restT ns j (n + 1) ""
  let z := pk ns (n + 1 + j) ["abcd", "dcba", "bdac"]
  ((z.cps.toList.map fun c => sg c ++ r, [116, 117, 118].map fun c => sg c ++ r), n + 2 + j)
theorem add_signs {ns : List Int} {i k : Nat} {ρ : Env'} (r : Str) (l : List Nat) (hr : r.length ≤ 100) (hl : l.length ≤ 100) (h2 : ρ[2]? = some (.val (.str r))) (hp : plainAt ρ [5] = true) (h5 : 5 < ρ.length) :
    lcK (fgName 5) ftYes (f2 gAdd (fVar 5) (fVar 2)) [5] (l.map fun c => .str (sg c)) ρ = some (.new (.lst (l.map fun c => .str (sg c ++ r))), ρ) := by
  refine lcK_map (fun c : Nat => .str (sg c ++ r)) (fun c => .str (sg c)) l ρ hp (by omega) fun c _ => ?_
  have e1 : (ρ.set 5 .unset)[5]? = some .unset := List.getElem?_set_self h5
  have e2 : (ρ.set 5 (.val (.str (sg c))))[5]? = some (.val (.str (sg c))) := List.getElem?_set_self h5
  have e3 : (ρ.set 5 (.val (.str (sg c))))[2]? = some (.val (.str r)) := by rw [List.getElem?_set_ne (by decide)]; exact h2
  have e4 : (sg c).length + r.length ≤ 16777216 := by rw [len_sg]; omega
  simp only [EV, EVT, EVC, EVY, LST, ↓reduceIte, Nat.reduceAdd, Nat.reduceSub, Nat.reduceLeDiff, Nat.reduceLT, Nat.reduceEqDiff, Nat.reduceBEq, Int.reduceLT, Int.reduceAdd, Int.reduceBNe, Int.reduceLE, Int.reduceEq, Int.reduceBEq, Bool.false_eq_true, reduceCtorEq, sizeLine_eq, decide_true, decide_false, decide_eq_true_eq, true_and, and_true, and_self, e1, List.set_set, e2, e3, e4]
theorem signs_eq (z : Str) : signs z = z.cps.toList.map fun c => .str (sg c) := rfl
theorem names_ok (ns : List Int) (n : Nat) (hl : ns.length ≤ 63) (hn : n < 16776000) : Mnames [.scr ns, .lst (zs n)] = some (.val (.tup [.lst ((namesT ns n).1.1.map .str), .lst ((namesT ns n).1.2.map .str)]), [.lst (zs (namesT ns n).2)]) := by
  have hj := dv_lt ns (n + 1) (many := 4) (by decide)
  have d1 := draw_ok ns n 4 hl (by decide) (by omega)
  obtain ⟨j, ej⟩ : ∃ j, j = dv ns (n + 1) 4 := ⟨_, rfl⟩
  rw [← ej] at d1 hj
  have hj : j < 4 := by omega
  have L := names_lp ns hl (List.range j) (n + 1) "" (by rw [List.length_range]; omega) (by rw [List.length_range]; show 0 + j ≤ 1000; omega)
  rw [List.length_range] at L
  obtain ⟨hr, hrl⟩ := restT_ok ns j (n + 1) "" lets_nil
  have hrl : (restT ns j (n + 1) "").length = j := by rw [hrl]; show 0 + j = j; omega
  have p1 := picks_ok ns (n + 1 + j) ["abcd", "dcba", "bdac"] hl (by omega) (by decide)
  have pm := pk_mem ns (n + 1 + j) (l := ["abcd", "dcba", "bdac"]) (by decide)
  simp only [List.map_cons, List.map_nil] at p1
  have hz : (pk ns (n + 1 + j) ["abcd", "dcba", "bdac"]).cps.toList.length ≤ 100 := by
    simp only [List.mem_cons, List.not_mem_nil, or_false] at pm
    rcases pm with e | e | e <;> rw [e] <;> decide +kernel
  have s2 : signs "tuv" = [116, 117, 118].map fun c => .str (sg c) := by rw [signs_eq]; congr 1
  have c1 : -(2 ^ 62) ≤ (j : Int) ∧ (j : Int) < 2 ^ 62 := by omega
  unfold namesT
  simp only [← ej]
  generalize hrr : restT ns j (n + 1) "" = r at *
  generalize hzz : pk ns (n + 1 + j) ["abcd", "dcba", "bdac"] = z at *
  have A1 := add_signs (ns := ns) (i := 0) (k := 0) (ρ := [.val (.scr ns), .own true (.lst (zs (n + 1 + j + 1))), .val (.str r), .unset, .val (.str z), .unset]) r z.cps.toList (by omega) hz rfl rfl (by simp)
  have A2 := add_signs (ns := ns) (i := 0) (k := 0) (ρ := [.val (.scr ns), .own true (.lst (zs (n + 1 + j + 1))), .val (.str r), .unset, .val (.str z), .unset]) r [116, 117, 118] (by omega) (by simp) rfl rfl (by simp)
  rw [← s2] at A2
  have e3 : n + 1 + j + 1 = n + 2 + j := by omega
  rw [e3] at A1 A2
  unfold Mnames
  rw [mk__law_names]
  unfold fs__law_names
  simp only [EV, EVT, EVC, EVY, LST, ↓reduceIte, Nat.reduceAdd, Nat.reduceSub, Nat.reduceLeDiff, Nat.reduceLT, Nat.reduceEqDiff, Nat.reduceBEq, Int.reduceLT, Int.reduceAdd, Int.reduceBNe, Int.reduceLE, Int.reduceEq, Int.reduceBEq, Bool.false_eq_true, reduceCtorEq, sizeLine_eq, decide_true, decide_false, decide_eq_true_eq, true_and, and_true, and_self, lp0__law_names, lc0__law_names, lc1__law_names, d1, Int.toNat_natCast, c1, L, p1, signs_eq z, A1, A2, List.map_map, e3]
  rfl
theorem names_good (ns : List Int) (n : Nat) : NG (namesT ns n).1.1 (namesT ns n).1.2 := by
  have hj := dv_lt ns (n + 1) (many := 4) (by decide)
  unfold namesT
  obtain ⟨hr, hrl⟩ := restT_ok ns (dv ns (n + 1) 4) (n + 1) "" lets_nil
  have hrl : (restT ns (dv ns (n + 1) 4) (n + 1) "").length = dv ns (n + 1) 4 := by rw [hrl]; show 0 + _ = _; omega
  have pm := pk_mem ns (n + 1 + dv ns (n + 1) 4) (l := ["abcd", "dcba", "bdac"]) (by decide)
  refine ng_of hr (by omega) ?_
  simp only [List.mem_cons, List.not_mem_nil, or_false] at pm ⊢
  rcases pm with e | e | e <;> rw [e]
  · exact .inl (by decide +kernel)
  · exact .inr (.inl (by decide +kernel))
  · exact .inr (.inr (by decide +kernel))
theorem names_cost (ns : List Int) (n : Nat) : (namesT ns n).2 ≤ n + 5 ∧ n ≤ (namesT ns n).2 := by
  have hj := dv_lt ns (n + 1) (many := 4) (by decide)
  unfold namesT
  simp only
  omega
end TA
set_option maxRecDepth 100000
set_option maxHeartbeats 8000000
namespace TA
open PySem PySem.Spec L2 DL
def selT (l h : List Str) : List Str := l.filter fun x => decide (x ∈ h)
theorem sel_mem {l h : List Str} {x : Str} : x ∈ selT l h ↔ x ∈ l ∧ x ∈ h := by unfold selT; simp
theorem sel_fm (l h : List Str) : l.filterMap (fun x => if x ∈ h then some (DL.D.str x) else none) = (selT l h).map .str := by
  unfold selT
  induction l with
  | nil => rfl
  | cons x l ih =>
    rw [List.filterMap_cons, List.filter_cons]
    by_cases q : x ∈ h
    · simp [q, ih]
    · simp [q, ih]
def simpleT (ns : List Int) (nums things h : List Str) (n : Nat) : SR × Nat :=
  let N := selT nums h
  let T := selT things h
  let k := dv ns (n + 1) 28
  let goal := pk ns (n + 1) nums
  if N = [] ∨ k < 2 then (.num goal ([0, 1, 2, 999, (dv ns (n + 3) 1000 : Int)][dv ns (n + 4) 5]?.getD 0), n + 4)
  else
    let one := pk ns (n + 2) N
    let two := pk ns (n + 3) N
    if k < 6 then ([SR.copy goal one, .copy goal two, .add goal one two][dv ns (n + 5) 3]?.getD .stir, n + 5)
    else
      let thing := pk ns (n + 4) things
      if T = [] ∨ k < 10 then (.make thing one two, n + 5)
      else
        let held := pk ns (n + 5) T
        if k < 13 then (.get goal held (dv ns (n + 7) 2), n + 7)
        else if k < 16 then (.put held (dv ns (n + 7) 2) one, n + 7)
        else if k < 18 then (.lets thing held, n + 6)
        else if k < 20 then (.same goal held (pk ns (n + 6) T), n + 7)
        else ([SR.say one, .say two, .give held, .stir, .say one, .say two, .give held, .stir][k - 20]?.getD .stir, n + 6)
theorem simple_cost (ns : List Int) (nums things h : List Str) (n : Nat) : (simpleT ns nums things h n).2 ≤ n + 7 ∧ n ≤ (simpleT ns nums things h n).2 := by
  unfold simpleT
  simp only
  repeat' split
  all_goals simp only; omega
def Msimple : Mir := m__law_simple Mdraw Mpick
def nhD (nums things : List Str) : DL.D := .tup [.lst (nums.map .str), .lst (things.map .str)]
theorem getD_toD (l : List SR) (i : Nat) (h : i < l.length) : (l.map SR.toD)[i]?.getD .non = (l[i]?.getD .stir).toD := by
  rw [List.getElem?_map, List.getElem?_eq_getElem h]; rfl
theorem simple_ok (ns : List Int) {nums things h : List Str} (g : NG nums things) (n : Nat) (hl : ns.length ≤ 63) (hn : n < 16776000) (hh : h.length ≤ 1000) :
    Msimple [.scr ns, .lst (zs n), nhD nums things, .dct (dk h)] = some (.val (simpleT ns nums things h n).1.toD, [.lst (zs (simpleT ns nums things h n).2)]) := by
  have gl := g.len
  have gt := g.th
  have sok : ∀ x, x ∈ nums ∨ x ∈ things → PyData.strOk x = true := fun x hx => lets_ok (g.w x hx).1
  have sN : ∀ x ∈ selT nums h, PyData.strOk x = true := fun x hx => sok x (.inl (sel_mem.mp hx).1)
  have sT : ∀ x ∈ selT things h, PyData.strOk x = true := fun x hx => sok x (.inr (sel_mem.mp hx).1)
  have L0 : ∀ s : S, lcK (fgName 13) (fB (f2 gIn (fVar 13) (fVar 3))) (fVar 13) [13] (nums.map .str) [.val (.scr ns), .own true (.lst (zs n)), .val (nhD nums things), .bor (.dct (dk h)), .unset, .unset, .unset, .unset, .unset, .unset, .unset, .unset, .unset, .unset] =
      some (.new (.lst ((selT nums h).map .str)), [.val (.scr ns), .own true (.lst (zs n)), .val (nhD nums things), .bor (.dct (dk h)), .unset, .unset, .unset, .unset, .unset, .unset, .unset, .unset, .unset, .unset]) := fun s => by
    rw [← sel_fm]
    refine lcK_pure (fun x : Str => if x ∈ h then some (DL.D.str x) else none) .str nums _ rfl (by omega) fun x _ => ?_
    by_cases q : x ∈ h <;> simp only [EV, EVT, EVC, EVY, LST, ↓reduceIte, Nat.reduceAdd, Nat.reduceSub, Nat.reduceLeDiff, Nat.reduceLT, Nat.reduceEqDiff, Nat.reduceBEq, Int.reduceLT, Int.reduceAdd, Int.reduceBNe, Int.reduceLE, Int.reduceEq, Int.reduceBEq, Bool.false_eq_true, reduceCtorEq, sizeLine_eq, decide_true, decide_false, decide_eq_true_eq, true_and, and_true, and_self, dk_has, q]
  have L1 : ∀ d : DL.D, lcK (fgName 13) (fB (f2 gIn (fVar 13) (fVar 3))) (fVar 13) [13] (things.map .str) [.val (.scr ns), .own true (.lst (zs n)), .val (nhD nums things), .bor (.dct (dk h)), .own false d, .unset, .unset, .unset, .unset, .unset, .unset, .unset, .unset, .unset] =
      some (.new (.lst ((selT things h).map .str)), [.val (.scr ns), .own true (.lst (zs n)), .val (nhD nums things), .bor (.dct (dk h)), .own false d, .unset, .unset, .unset, .unset, .unset, .unset, .unset, .unset, .unset]) := fun d => by
    rw [← sel_fm]
    refine lcK_pure (fun x : Str => if x ∈ h then some (DL.D.str x) else none) .str things _ rfl (by omega) fun x _ => ?_
    by_cases q : x ∈ h <;> simp only [EV, EVT, EVC, EVY, LST, ↓reduceIte, Nat.reduceAdd, Nat.reduceSub, Nat.reduceLeDiff, Nat.reduceLT, Nat.reduceEqDiff, Nat.reduceBEq, Int.reduceLT, Int.reduceAdd, Int.reduceBNe, Int.reduceLE, Int.reduceEq, Int.reduceBEq, Bool.false_eq_true, reduceCtorEq, sizeLine_eq, decide_true, decide_false, decide_eq_true_eq, true_and, and_true, and_self, dk_has, q]
  have d1 := draw_ok ns n 28 hl (by decide) (by omega)
  have hk := dv_lt ns (n + 1) (many := 28) (by decide)
  have p1 := picks_ok ns (n + 1) nums hl (by omega) (by omega)
  have i0 : gIx (nhD nums things) (.int 0) = some (.val (.lst (nums.map .str))) := rfl
  have i1 : gIx (nhD nums things) (.int 1) = some (.val (.lst (things.map .str))) := rfl
  have eN := eq_nil sN id
  have eT := eq_nil sT id
  unfold Msimple simpleT
  rw [mk__law_simple]
  unfold fs__law_simple
  dsimp only
  generalize hK : dv ns (n + 1) 28 = k at *
  by_cases c1 : selT nums h = [] ∨ k < 2
  · have d2 : Mdraw [.scr ns, .lst (zs (n + 2)), .int 1000] = some (.val (.int (dv ns (n + 3) 1000)), [.lst (zs (n + 3))]) := draw_ok ns (n + 2) 1000 hl (by decide) (by omega)
    have p2 : Mpick [.scr ns, .lst (zs (n + 3)), .lst [.int 0, .int 1, .int 2, .int 999, .int (dv ns (n + 3) 1000)]] = some (.val (.int ([0, 1, 2, 999, (dv ns (n + 3) 1000 : Int)][dv ns (n + 4) 5]?.getD 0)), [.lst (zs (n + 4))]) := by
      have := pick_ok ns (n + 3) [.int 0, .int 1, .int 2, .int 999, .int (dv ns (n + 3) 1000)] hl (by omega) (by simp)
      have hv := dv_lt ns (n + 4) (many := 5) (by decide)
      rw [this]
      have e : ∀ i < 5, ([.int 0, .int 1, .int 2, .int 999, .int (dv ns (n + 3) 1000)] : List DL.D)[i]?.getD .non = .int ([0, 1, 2, 999, (dv ns (n + 3) 1000 : Int)][i]?.getD 0) := by
        intro i hi
        rcases i with _ | _ | _ | _ | _ | i <;> first | rfl | omega
      rw [← e _ (by omega)]
      rfl
    by_cases c2 : selT nums h = []
    · have c5 : (selT nums h).isEmpty = true := by rw [c2]; rfl
      rw [if_pos c1]
      simp only [EV, EVT, EVC, EVY, LST, ↓reduceIte, Nat.reduceAdd, Nat.reduceSub, Nat.reduceLeDiff, Nat.reduceLT, Nat.reduceEqDiff, Nat.reduceBEq, Int.reduceLT, Int.reduceAdd, Int.reduceBNe, Int.reduceLE, Int.reduceEq, Int.reduceBEq, Bool.false_eq_true, reduceCtorEq, sizeLine_eq, decide_true, decide_false, decide_eq_true_eq, true_and, and_true, and_self, lc0__law_simple, lc1__law_simple, i0, i1, L0 .unset, L1, d1, p1, d2, p2, eN, c5, SR.toD]
    · have c3 : k < 2 := c1.resolve_left c2
      have c4 : (k : Int) < 2 := by omega
      have c5 : (selT nums h).isEmpty = false := by cases q : selT nums h with
        | nil => exact absurd q c2
        | cons _ _ => rfl
      rw [if_pos c1]
      simp only [EV, EVT, EVC, EVY, LST, ↓reduceIte, Nat.reduceAdd, Nat.reduceSub, Nat.reduceLeDiff, Nat.reduceLT, Nat.reduceEqDiff, Nat.reduceBEq, Int.reduceLT, Int.reduceAdd, Int.reduceBNe, Int.reduceLE, Int.reduceEq, Int.reduceBEq, Bool.false_eq_true, reduceCtorEq, sizeLine_eq, decide_true, decide_false, decide_eq_true_eq, true_and, and_true, and_self, lc0__law_simple, lc1__law_simple, i0, i1, L0 .unset, L1, d1, p1, d2, p2, eN, c4, c5, SR.toD]
  · have c2 : ¬ selT nums h = [] := fun z => c1 (.inl z)
    have c3 : ¬ k < 2 := fun z => c1 (.inr z)
    have c4 : ¬ (k : Int) < 2 := by omega
    have c5 : (selT nums h).isEmpty = false := by cases q : selT nums h with
      | nil => exact absurd q c2
      | cons _ _ => rfl
    have c6 : 0 < (selT nums h).length := List.length_pos_iff.mpr c2
    have p2 : Mpick [.scr ns, .lst (zs (n + 2)), .lst ((selT nums h).map .str)] = some (.val (.str (pk ns (n + 2) (selT nums h))), [.lst (zs (n + 3))]) := picks_ok ns (n + 2) _ hl (by omega) c6
    have p3 : Mpick [.scr ns, .lst (zs (n + 3)), .lst ((selT nums h).map .str)] = some (.val (.str (pk ns (n + 3) (selT nums h))), [.lst (zs (n + 4))]) := picks_ok ns (n + 3) _ hl (by omega) c6
    rw [if_neg c1]
    generalize ho : pk ns (n + 2) (selT nums h) = one at *
    generalize ht : pk ns (n + 3) (selT nums h) = two at *
    generalize hg : pk ns (n + 1) nums = goal at *
    by_cases c7 : k < 6
    · have c8 : (k : Int) < 6 := by omega
      have p4 : Mpick [.scr ns, .lst (zs (n + 4)), .lst [(SR.copy goal one).toD, (SR.copy goal two).toD, (SR.add goal one two).toD]] = some (.val ([SR.copy goal one, .copy goal two, .add goal one two][dv ns (n + 5) 3]?.getD .stir).toD, [.lst (zs (n + 5))]) := by
        have := pick_ok ns (n + 4) [(SR.copy goal one).toD, (SR.copy goal two).toD, (SR.add goal one two).toD] hl (by omega) (by simp)
        have hv := dv_lt ns (n + 5) (many := 3) (by decide)
        rw [this, ← getD_toD _ _ (by simp only [List.length_cons, List.length_nil]; omega)]
        rfl
      rw [if_pos c7]
      generalize hr : ([SR.copy goal one, .copy goal two, .add goal one two][dv ns (n + 5) 3]?.getD .stir).toD = r at *
      simp only [SR.toD] at p4
      simp only [EV, EVT, EVC, EVY, LST, ↓reduceIte, Nat.reduceAdd, Nat.reduceSub, Nat.reduceLeDiff, Nat.reduceLT, Nat.reduceEqDiff, Nat.reduceBEq, Int.reduceLT, Int.reduceAdd, Int.reduceBNe, Int.reduceLE, Int.reduceEq, Int.reduceBEq, Bool.false_eq_true, reduceCtorEq, sizeLine_eq, decide_true, decide_false, decide_eq_true_eq, true_and, and_true, and_self, lc0__law_simple, lc1__law_simple, i0, i1, L0 .unset, L1, d1, p1, p2, p3, p4, eN, c4, c5, c8]
    · have c8 : ¬ (k : Int) < 6 := by omega
      have p4 : Mpick [.scr ns, .lst (zs (n + 4)), .lst (things.map .str)] = some (.val (.str (pk ns (n + 4) things)), [.lst (zs (n + 5))]) := picks_ok ns (n + 4) _ hl (by omega) (by omega)
      rw [if_neg c7]
      generalize hth : pk ns (n + 4) things = thing at *
      by_cases c9 : selT things h = [] ∨ k < 10
      · rw [if_pos c9]
        by_cases d2 : selT things h = []
        · have d5 : (selT things h).isEmpty = true := by rw [d2]; rfl
          simp only [EV, EVT, EVC, EVY, LST, ↓reduceIte, Nat.reduceAdd, Nat.reduceSub, Nat.reduceLeDiff, Nat.reduceLT, Nat.reduceEqDiff, Nat.reduceBEq, Int.reduceLT, Int.reduceAdd, Int.reduceBNe, Int.reduceLE, Int.reduceEq, Int.reduceBEq, Bool.false_eq_true, reduceCtorEq, sizeLine_eq, decide_true, decide_false, decide_eq_true_eq, true_and, and_true, and_self, lc0__law_simple, lc1__law_simple, i0, i1, L0 .unset, L1, d1, p1, p2, p3, p4, eN, eT, c4, c5, c8, d5, SR.toD]
        · have d3 : k < 10 := c9.resolve_left d2
          have d4 : (k : Int) < 10 := by omega
          have d5 : (selT things h).isEmpty = false := by cases q : selT things h with
            | nil => exact absurd q d2
            | cons _ _ => rfl
          simp only [EV, EVT, EVC, EVY, LST, ↓reduceIte, Nat.reduceAdd, Nat.reduceSub, Nat.reduceLeDiff, Nat.reduceLT, Nat.reduceEqDiff, Nat.reduceBEq, Int.reduceLT, Int.reduceAdd, Int.reduceBNe, Int.reduceLE, Int.reduceEq, Int.reduceBEq, Bool.false_eq_true, reduceCtorEq, sizeLine_eq, decide_true, decide_false, decide_eq_true_eq, true_and, and_true, and_self, lc0__law_simple, lc1__law_simple, i0, i1, L0 .unset, L1, d1, p1, p2, p3, p4, eN, eT, c4, c5, c8, d4, d5, SR.toD]
      · have d2 : ¬ selT things h = [] := fun z => c9 (.inl z)
        have d3 : ¬ k < 10 := fun z => c9 (.inr z)
        have d4 : ¬ (k : Int) < 10 := by omega
        have d5 : (selT things h).isEmpty = false := by cases q : selT things h with
          | nil => exact absurd q d2
          | cons _ _ => rfl
        have d6 : 0 < (selT things h).length := List.length_pos_iff.mpr d2
        have p5 : Mpick [.scr ns, .lst (zs (n + 5)), .lst ((selT things h).map .str)] = some (.val (.str (pk ns (n + 5) (selT things h))), [.lst (zs (n + 6))]) := picks_ok ns (n + 5) _ hl (by omega) d6
        have p6 : Mpick [.scr ns, .lst (zs (n + 6)), .lst ((selT things h).map .str)] = some (.val (.str (pk ns (n + 6) (selT things h))), [.lst (zs (n + 7))]) := picks_ok ns (n + 6) _ hl (by omega) d6
        have dr : Mdraw [.scr ns, .lst (zs (n + 6)), .int 2] = some (.val (.int (dv ns (n + 7) 2)), [.lst (zs (n + 7))]) := draw_ok ns (n + 6) 2 hl (by decide) (by omega)
        rw [if_neg c9]
        generalize hhe : pk ns (n + 5) (selT things h) = held at *
        by_cases e1 : k < 13
        · have e2 : (k : Int) < 13 := by omega
          rw [if_pos e1]
          simp only [EV, EVT, EVC, EVY, LST, ↓reduceIte, Nat.reduceAdd, Nat.reduceSub, Nat.reduceLeDiff, Nat.reduceLT, Nat.reduceEqDiff, Nat.reduceBEq, Int.reduceLT, Int.reduceAdd, Int.reduceBNe, Int.reduceLE, Int.reduceEq, Int.reduceBEq, Bool.false_eq_true, reduceCtorEq, sizeLine_eq, decide_true, decide_false, decide_eq_true_eq, true_and, and_true, and_self, lc0__law_simple, lc1__law_simple, i0, i1, L0 .unset, L1, d1, p1, p2, p3, p4, p5, dr, eN, eT, c4, c5, c8, d4, d5, e2, SR.toD]
        have e2 : ¬ (k : Int) < 13 := by omega
        rw [if_neg e1]
        by_cases e3 : k < 16
        · have e4 : (k : Int) < 16 := by omega
          rw [if_pos e3]
          simp only [EV, EVT, EVC, EVY, LST, ↓reduceIte, Nat.reduceAdd, Nat.reduceSub, Nat.reduceLeDiff, Nat.reduceLT, Nat.reduceEqDiff, Nat.reduceBEq, Int.reduceLT, Int.reduceAdd, Int.reduceBNe, Int.reduceLE, Int.reduceEq, Int.reduceBEq, Bool.false_eq_true, reduceCtorEq, sizeLine_eq, decide_true, decide_false, decide_eq_true_eq, true_and, and_true, and_self, lc0__law_simple, lc1__law_simple, i0, i1, L0 .unset, L1, d1, p1, p2, p3, p4, p5, dr, eN, eT, c4, c5, c8, d4, d5, e2, e4, SR.toD]
        have e4 : ¬ (k : Int) < 16 := by omega
        rw [if_neg e3]
        by_cases e5 : k < 18
        · have e6 : (k : Int) < 18 := by omega
          rw [if_pos e5]
          simp only [EV, EVT, EVC, EVY, LST, ↓reduceIte, Nat.reduceAdd, Nat.reduceSub, Nat.reduceLeDiff, Nat.reduceLT, Nat.reduceEqDiff, Nat.reduceBEq, Int.reduceLT, Int.reduceAdd, Int.reduceBNe, Int.reduceLE, Int.reduceEq, Int.reduceBEq, Bool.false_eq_true, reduceCtorEq, sizeLine_eq, decide_true, decide_false, decide_eq_true_eq, true_and, and_true, and_self, lc0__law_simple, lc1__law_simple, i0, i1, L0 .unset, L1, d1, p1, p2, p3, p4, p5, eN, eT, c4, c5, c8, d4, d5, e2, e4, e6, SR.toD]
        have e6 : ¬ (k : Int) < 18 := by omega
        rw [if_neg e5]
        by_cases e7 : k < 20
        · have e8 : (k : Int) < 20 := by omega
          rw [if_pos e7]
          simp only [EV, EVT, EVC, EVY, LST, ↓reduceIte, Nat.reduceAdd, Nat.reduceSub, Nat.reduceLeDiff, Nat.reduceLT, Nat.reduceEqDiff, Nat.reduceBEq, Int.reduceLT, Int.reduceAdd, Int.reduceBNe, Int.reduceLE, Int.reduceEq, Int.reduceBEq, Bool.false_eq_true, reduceCtorEq, sizeLine_eq, decide_true, decide_false, decide_eq_true_eq, true_and, and_true, and_self, lc0__law_simple, lc1__law_simple, i0, i1, L0 .unset, L1, d1, p1, p2, p3, p4, p5, p6, eN, eT, c4, c5, c8, d4, d5, e2, e4, e6, e8, SR.toD]
        have e8 : ¬ (k : Int) < 20 := by omega
        rw [if_neg e7]
        have hix : gIx (.lst [(SR.say one).toD, (SR.say two).toD, (SR.give held).toD, SR.stir.toD, (SR.say one).toD, (SR.say two).toD, (SR.give held).toD, SR.stir.toD]) (.int ((k : Int) - 20)) = some (.val ([SR.say one, .say two, .give held, .stir, .say one, .say two, .give held, .stir][k - 20]?.getD .stir).toD) := by
          obtain ⟨j, rfl⟩ : ∃ j, k = j + 20 := ⟨k - 20, by omega⟩
          have hj : j < 8 := by omega
          rw [show ((j + 20 : Nat) : Int) - 20 = j by omega, show j + 20 - 20 = j by omega]
          clear hK hk c1 c3 c4 c7 c8 c9 d3 d4 e1 e2 e3 e4 e5 e6 e7 e8 d1
          rcases j with _ | _ | _ | _ | _ | _ | _ | _ | j <;> first | rfl | omega
        have hmul : (List.replicate (Int.toNat 2) [(SR.say one).toD, (SR.say two).toD, (SR.give held).toD, SR.stir.toD]).flatten = [(SR.say one).toD, (SR.say two).toD, (SR.give held).toD, SR.stir.toD, (SR.say one).toD, (SR.say two).toD, (SR.give held).toD, SR.stir.toD] := rfl
        generalize hr : ([SR.say one, .say two, .give held, .stir, .say one, .say two, .give held, .stir][k - 20]?.getD .stir).toD = r at *
        have hz : (0 : Int) ≤ 2 ∧ (2 : Int) < 2 ^ 63 ∧ 4 * Int.toNat 2 ≤ 16777216 := by decide
        simp only [SR.toD] at hix hmul
        simp only [EV, EVT, EVC, EVY, LST, ↓reduceIte, Nat.reduceAdd, Nat.reduceSub, Nat.reduceLeDiff, Nat.reduceLT, Nat.reduceEqDiff, Nat.reduceBEq, Int.reduceLT, Int.reduceAdd, Int.reduceBNe, Int.reduceLE, Int.reduceEq, Int.reduceBEq, Bool.false_eq_true, reduceCtorEq, sizeLine_eq, decide_true, decide_false, decide_eq_true_eq, true_and, and_true, and_self, lc0__law_simple, lc1__law_simple, i0, i1, L0 .unset, L1, d1, p1, p2, p3, p4, p5, eN, eT, c4, c5, c8, d4, d5, e2, e4, e6, e8, hmul, hz, hix]
end TA
set_option maxRecDepth 100000
set_option maxHeartbeats 8000000
namespace TA
open PySem PySem.Spec L2 DL
structure BR where
  rows : List Row
  n : Nat
  h : List Str
def turnT (rA : Nat → Nat → Nat → List Str → BR) (ns : List Int) (nums things : List Str) (deep many n : Nat) (h : List Str) : Row × Nat × List Str :=
  let N := selT nums h
  let k := dv ns (n + 1) 9
  if k < 2 ∧ 0 < deep ∧ N ≠ [] then
    let A := rA (deep - 1) (many / 2 + 1) (n + 1) h
    let B := rA (deep - 1) (many / 2 + 1) A.n h
    (.ife (pk ns B.n N) A.rows B.rows, B.n + 1, A.h.foldl (both B.h) h)
  else if k = 2 ∧ 0 < deep ∧ N ≠ [] then
    let A := rA (if dv ns (n + 2) 4 = 0 then deep - 1 else 0) (many / 2 + 1) (n + 2) h
    (.loop (pk ns A.n N) A.rows, A.n + 1, h)
  else
    let q := simpleT ns nums things h (n + 1)
    (.s q.1, q.2, match q.1.st with | some x => ins h x | none => h)
def turnsT (rA : Nat → Nat → Nat → List Str → BR) (ns : List Int) (nums things : List Str) (deep many : Nat) : Nat → Nat → List Str → BR
  | 0, n, h => ⟨[], n, h⟩
  | j + 1, n, h =>
    let t := turnT rA ns nums things deep many n h
    let R := turnsT rA ns nums things deep many j t.2.1 t.2.2
    ⟨t.1 :: R.rows, R.n, R.h⟩
def blockF (ns : List Int) (nums things : List Str) : Nat → Nat → Nat → Nat → List Str → BR
  | 0, _, _, n, h => ⟨[], n, h⟩
  | f + 1, deep, many, n, h => turnsT (blockF ns nums things f) ns nums things deep many (dv ns (n + 1) (many + 1 : Nat)) (n + 1) h
/-- how many numbers are drawn, at most -/
def CB : Nat → Nat → Nat
  | 0, m => 1 + m * 8
  | d + 1, m => 1 + m * (8 + 2 * CB d (m / 2 + 1))
/-- .. in a turn -/
def TC : Nat → Nat → Nat
  | 0, _ => 8
  | d + 1, m => 8 + 2 * CB d (m / 2 + 1)
theorem CB_pos (d m : Nat) : 1 ≤ CB d m := by cases d <;> simp [CB]
theorem CB_zero (d m : Nat) : CB 0 m ≤ CB d m := by
  cases d with
  | zero => exact Nat.le_refl _
  | succ d =>
    show 1 + m * 8 ≤ 1 + m * (8 + 2 * CB d (m / 2 + 1))
    have := Nat.mul_le_mul_left m (show 8 ≤ 8 + 2 * CB d (m / 2 + 1) by omega)
    omega
/-- the names that are had -/
structure HV (nums things h : List Str) : Prop where
  nd : h.Nodup
  sub : ∀ x ∈ h, x ∈ nums ∨ x ∈ things
theorem HV.len {nums things h : List Str} (g : NG nums things) (v : HV nums things h) : h.length ≤ 7 := by
  have : h.length ≤ (nums ++ things).length := by
    have key : ∀ (l m : List Str), l.Nodup → (∀ x ∈ l, x ∈ m) → l.length ≤ m.length := by
      intro l
      induction l with
      | nil => intro m _ _; exact Nat.zero_le _
      | cons x l ih =>
        intro m hd hs
        have hx := hs x List.mem_cons_self
        have := ih (m.erase x) (List.nodup_cons.mp hd).2 fun y hy => by
          have hne : y ≠ x := fun e => (List.nodup_cons.mp hd).1 (e ▸ hy)
          exact (List.mem_erase_of_ne hne).mpr (hs y (List.mem_cons_of_mem _ hy))
        rw [List.length_erase_of_mem hx] at this
        have : 0 < m.length := List.length_pos_of_mem hx
        rw [List.length_cons]; omega
    exact key h _ v.nd fun x hx => List.mem_append.mpr (v.sub x hx)
  rw [List.length_append, g.len, g.th] at this
  exact this
theorem HV.ins {nums things h : List Str} (v : HV nums things h) {x : Str} (hx : x ∈ nums ∨ x ∈ things) : HV nums things (ins h x) := by
  unfold TA.ins
  split
  · exact v
  · rename_i q
    refine ⟨?_, fun y hy => ?_⟩
    · rw [List.nodup_append]
      refine ⟨v.nd, by simp, ?_⟩
      intro a ha b hb e
      rw [List.mem_singleton] at hb
      subst hb e
      exact q ha
    · rcases List.mem_append.mp hy with hy | hy
      · exact v.sub y hy
      · rw [List.mem_singleton] at hy; subst hy; exact hx
theorem HV.both {nums things h ha hb : List Str} (v : HV nums things h) (va : HV nums things ha) : HV nums things (ha.foldl (both hb) h) := by
  have key : ∀ (l h : List Str), HV nums things h → (∀ x ∈ l, x ∈ nums ∨ x ∈ things) → HV nums things (l.foldl (TA.both hb) h) := by
    intro l
    induction l with
    | nil => intro h v _; exact v
    | cons x l ih =>
      intro h v k
      rw [List.foldl_cons]
      refine ih _ ?_ fun y hy => k y (List.mem_cons_of_mem _ hy)
      unfold TA.both
      split
      · exact v.ins (k x List.mem_cons_self)
      · exact v
  exact key ha h v va.sub
/-- a row of these names -/
def SR.okk (nums things : List Str) (r : SR) : Prop := (∀ p ∈ r.kinds, p.1 ∈ if p.2 = true then things else nums) ∧ r.fit
theorem simple_good (ns : List Int) {nums things h : List Str} (g : NG nums things) (n : Nat) : (simpleT ns nums things h n).1.okk nums things ∧ ∀ x ∈ (simpleT ns nums things h n).1.rd, x ∈ h := by
  have gl := g.len
  have gt := g.th
  have m1 : ∀ n, pk ns n nums ∈ nums := fun n => pk_mem ns n (by omega)
  have m2 : ∀ n, pk ns n things ∈ things := fun n => pk_mem ns n (by omega)
  unfold simpleT
  dsimp only
  have hv : ∀ i : Nat, i < 5 → ∀ v : Int, 0 ≤ v → v < 1000 → 0 ≤ ([0, 1, 2, 999, v] : List Int)[i]?.getD 0 ∧ ([0, 1, 2, 999, v] : List Int)[i]?.getD 0 ≤ 999 := by
    intro i hi v h1 h2
    rcases i with _ | _ | _ | _ | _ | i <;> first | (simp; done) | (simp; omega) | omega
  have v5 := dv_lt ns (n + 4) (many := 5) (by decide)
  have v1000 := dv_lt ns (n + 3) (many := 1000) (by decide)
  split
  · refine ⟨⟨?_, ?_⟩, ?_⟩
    · simp [SR.kinds, m1]
    · exact hv _ (by omega) _ (by omega) (by omega)
    · simp [SR.rd]
  rename_i c1
  have c2 : 0 < (selT nums h).length := List.length_pos_iff.mpr fun z => c1 (.inl z)
  have o1 : ∀ n, pk ns n (selT nums h) ∈ nums ∧ pk ns n (selT nums h) ∈ h := fun n => sel_mem.mp (pk_mem ns n c2)
  split
  · have v3 := dv_lt ns (n + 5) (many := 3) (by decide)
    have v3 : dv ns (n + 5) 3 < 3 := by omega
    generalize dv ns (n + 5) 3 = i at *
    rcases i with _ | _ | _ | i <;> first | (refine ⟨⟨?_, trivial⟩, ?_⟩ <;> simp [SR.kinds, SR.rd, m1, (o1 _).1, (o1 _).2]; done) | omega
  split
  · refine ⟨⟨?_, trivial⟩, ?_⟩ <;> simp [SR.kinds, SR.rd, m1, m2, (o1 _).1, (o1 _).2]
  rename_i c3
  have c4 : 0 < (selT things h).length := List.length_pos_iff.mpr fun z => c3 (.inl z)
  have o2 : ∀ n, pk ns n (selT things h) ∈ things ∧ pk ns n (selT things h) ∈ h := fun n => sel_mem.mp (pk_mem ns n c4)
  have v2 := dv_lt ns (n + 7) (many := 2) (by decide)
  split
  · refine ⟨⟨?_, ?_⟩, ?_⟩
    · simp [SR.kinds, m1, (o2 _).1]
    · show _ ∧ _; omega
    · simp [SR.rd, (o2 _).2]
  split
  · refine ⟨⟨?_, ?_⟩, ?_⟩
    · simp [SR.kinds, m1, (o2 _).1, (o1 _).1]
    · show _ ∧ _; omega
    · simp [SR.rd, (o2 _).2, (o1 _).2]
  split
  · refine ⟨⟨?_, trivial⟩, ?_⟩ <;> simp [SR.kinds, SR.rd, m1, m2, (o1 _).1, (o1 _).2, (o2 _).1, (o2 _).2]
  split
  · refine ⟨⟨?_, trivial⟩, ?_⟩ <;> simp [SR.kinds, SR.rd, m1, m2, (o1 _).1, (o1 _).2, (o2 _).1, (o2 _).2]
  have v28 := dv_lt ns (n + 1) (many := 28) (by decide)
  generalize hi : dv ns (n + 1) 28 - 20 = i
  have hi8 : i < 8 := by omega
  rcases i with _ | _ | _ | _ | _ | _ | _ | _ | i <;> first | (refine ⟨⟨?_, trivial⟩, ?_⟩ <;> simp [SR.kinds, SR.rd, m1, (o1 _).1, (o1 _).2, (o2 _).1, (o2 _).2]; done) | omega
theorem st_kind (r : SR) {x : Str} (h : r.st = some x) : ∃ b, (x, b) ∈ r.kinds := by
  cases r <;> simp only [SR.st, Option.some.injEq, reduceCtorEq] at h <;> subst h <;> simp [SR.kinds]
theorem okk_st {nums things : List Str} {r : SR} (h : r.okk nums things) {x : Str} (e : r.st = some x) : x ∈ nums ∨ x ∈ things := by
  obtain ⟨b, hb⟩ := st_kind r e
  have := h.1 _ hb
  cases b
  · exact .inl this
  · exact .inr this
/-- what is asked of what stands for the blocks within -/
structure RAok (ns : List Int) (nums things : List Str) (f : Nat) (rA : Nat → Nat → Nat → List Str → BR) : Prop where
  cost : ∀ deep many n h, deep < f → (rA deep many n h).n ≤ n + CB deep many ∧ n ≤ (rA deep many n h).n
  hv : ∀ deep many n h, HV nums things h → HV nums things (rA deep many n h).h
theorem turn_cost {ns : List Int} {nums things : List Str} {f : Nat} {rA : Nat → Nat → Nat → List Str → BR} (ra : RAok ns nums things f rA) (deep many n : Nat) (h : List Str) (hf : deep < f + 1) :
    (turnT rA ns nums things deep many n h).2.1 ≤ n + TC deep many ∧ n ≤ (turnT rA ns nums things deep many n h).2.1 := by
  have hs := simple_cost ns nums things h (n + 1)
  unfold turnT
  dsimp only
  cases deep with
  | zero => simp only [Nat.lt_irrefl, false_and, and_false, if_false, TC]; omega
  | succ d =>
    unfold TC
    have hp := CB_pos d (many / 2 + 1)
    have hz := CB_zero d (many / 2 + 1)
    simp only [Nat.add_sub_cancel]
    split
    · have a := ra.cost d (many / 2 + 1) (n + 1) h (by omega)
      have b := ra.cost d (many / 2 + 1) (rA d (many / 2 + 1) (n + 1) h).n h (by omega)
      simp only; omega
    split
    · split
      · have a := ra.cost d (many / 2 + 1) (n + 2) h (by omega)
        simp only; omega
      · have a := ra.cost 0 (many / 2 + 1) (n + 2) h (by omega)
        simp only; omega
    · simp only; omega
theorem turn_hv {ns : List Int} {nums things : List Str} {f : Nat} {rA : Nat → Nat → Nat → List Str → BR} (g : NG nums things) (ra : RAok ns nums things f rA) (deep many n : Nat) (h : List Str) (v : HV nums things h) : HV nums things (turnT rA ns nums things deep many n h).2.2 := by
  unfold turnT
  dsimp only
  split
  · exact v.both (ra.hv _ _ _ _ v)
  split
  · exact v
  · cases q : (simpleT ns nums things h (n + 1)).1.st with
    | none => exact v
    | some x => exact v.ins (okk_st (simple_good ns g (n + 1)).1 q)
theorem turns_cost {ns : List Int} {nums things : List Str} {f : Nat} {rA : Nat → Nat → Nat → List Str → BR} (ra : RAok ns nums things f rA) (deep many : Nat) (hf : deep < f + 1) : ∀ (j n : Nat) (h : List Str),
    (turnsT rA ns nums things deep many j n h).n ≤ n + j * TC deep many ∧ n ≤ (turnsT rA ns nums things deep many j n h).n
  | 0, n, h => by simp [turnsT]
  | j + 1, n, h => by
    have a := turn_cost ra deep many n h hf
    have b := turns_cost ra deep many hf j (turnT rA ns nums things deep many n h).2.1 (turnT rA ns nums things deep many n h).2.2
    simp only [turnsT]
    rw [Nat.add_mul, Nat.one_mul]
    omega
theorem turns_hv {ns : List Int} {nums things : List Str} {f : Nat} {rA : Nat → Nat → Nat → List Str → BR} (g : NG nums things) (ra : RAok ns nums things f rA) (deep many : Nat) : ∀ (j n : Nat) (h : List Str), HV nums things h → HV nums things (turnsT rA ns nums things deep many j n h).h
  | 0, n, h, v => v
  | j + 1, n, h, v => turns_hv g ra deep many j _ _ (turn_hv g ra deep many n h v)
theorem blockF_ok (ns : List Int) {nums things : List Str} (g : NG nums things) : ∀ f, RAok ns nums things f (blockF ns nums things f)
  | 0 => ⟨fun _ _ _ _ h => absurd h (Nat.not_lt_zero _), fun _ _ _ _ v => v⟩
  | f + 1 => by
    have ra := blockF_ok ns g f
    refine ⟨fun deep many n h hf => ?_, fun deep many n h v => turns_hv g ra deep many _ _ _ v⟩
    have hd := dv_lt ns (n + 1) (many := (many + 1 : Nat)) (by omega)
    have a := turns_cost ra deep many hf (dv ns (n + 1) (many + 1 : Nat)) (n + 1) h
    have b : dv ns (n + 1) (many + 1 : Nat) ≤ many := by omega
    unfold blockF
    cases deep with
    | zero =>
      have := Nat.mul_le_mul_right 8 b
      simp only [CB, TC] at *
      omega
    | succ d =>
      have := Nat.mul_le_mul_right (8 + 2 * CB d (many / 2 + 1)) b
      simp only [CB, TC] at *
      omega
end TA
set_option maxRecDepth 100000
set_option maxHeartbeats 8000000
namespace TA
open PySem PySem.Spec L2 DL
def Rblock : Nat → Mir
  | 0 => fun _ => none
  | n + 1 => m__law_block Mdraw (Rblock n) Mpick Msimple
/-- the env of a block that is drawn -/
def bEnv (ns : List Int) (nums things : List Str) (many deep n : Nat) (h : List Str) (acc : List Row) : Env' :=
  [.val (.scr ns), .own true (.lst (zs n)), .val (nhD nums things), .own true (.dct (dk h)), .val (.int many), .val (.int deep), .own false (.lst (acc.map Row.toD)), .unset, .unset, .unset, .unset, .unset, .unset, .unset, .unset, .unset, .unset, .unset]
theorem bothF_lp {ns : List Int} {g1 g2 g3 g4 : Mir} {nums things : List Str} {many deep n : Nat} {acc : List Row} {i : S} {k : S} {N : S} {one a b : S} {hb : List Str} : ∀ (l s : List Str), s.length + l.length ≤ 16000000 →
    forL (fgName 14) (lb0__law_block g1 g2 g3 g4) (l.map .str) [.val (.scr ns), .own true (.lst (zs n)), .val (nhD nums things), .own true (.dct (dk s)), .val (.int many), .val (.int deep), .own false (.lst (acc.map Row.toD)), i, k, N, one, .own false (.dct (dk hb)), a, b, .unset, .unset, .unset, .unset] =
      some (.nx [.val (.scr ns), .own true (.lst (zs n)), .val (nhD nums things), .own true (.dct (dk (l.foldl (both hb) s))), .val (.int many), .val (.int deep), .own false (.lst (acc.map Row.toD)), i, k, N, one, .own false (.dct (dk hb)), a, b, .unset, .unset, .unset, .unset])
  | [], s, _ => rfl
  | x :: l, s, h => by
    rw [List.length_cons] at h
    have hl : s.length < 16777216 := by omega
    have h1 := (both_grew hb s x).len
    rw [List.map_cons, forL_c, List.foldl_cons, ← bothF_lp (g1 := g1) (g2 := g2) (g3 := g3) (g4 := g4) l (both hb s x) (by omega)]
    by_cases q : x ∈ hb
    · simp only [lb0__law_block, EV, EVT, EVC, EVY, LST, ↓reduceIte, Nat.reduceAdd, Nat.reduceSub, Nat.reduceLeDiff, Nat.reduceLT, Nat.reduceEqDiff, Nat.reduceBEq, Int.reduceLT, Int.reduceAdd, Int.reduceBNe, Int.reduceLE, Int.reduceEq, Int.reduceBEq, Bool.false_eq_true, reduceCtorEq, sizeLine_eq, decide_true, decide_false, decide_eq_true_eq, true_and, and_true, and_self, dk_has, dk_len, q, hl, dk_put, both, if_true]
    · simp only [lb0__law_block, EV, EVT, EVC, EVY, LST, ↓reduceIte, Nat.reduceAdd, Nat.reduceSub, Nat.reduceLeDiff, Nat.reduceLT, Nat.reduceEqDiff, Nat.reduceBEq, Int.reduceLT, Int.reduceAdd, Int.reduceBNe, Int.reduceLE, Int.reduceEq, Int.reduceBEq, Bool.false_eq_true, reduceCtorEq, sizeLine_eq, decide_true, decide_false, decide_eq_true_eq, true_and, and_true, and_self, dk_has, q, both, if_false]
theorem turn_ok (ns : List Int) {nums things : List Str} (g : NG nums things) {f deep many n : Nat} {h : List Str} {rA : Nat → Nat → Nat → List Str → BR} (ra : RAok ns nums things f rA) (v : HV nums things h) (hl : ns.length ≤ 63) (hf : deep < f + 1) (hm : many ≤ 1000)
    (hn : n + TC deep many ≤ 16000000) {gB : Mir} (acc : List Row) (ha : acc.length ≤ 1000) (i : Nat)
    (ih : ∀ d m n h, d < f → m ≤ 1000 → n + CB d m ≤ 16000000 → HV nums things h → gB [.scr ns, .lst (zs n), nhD nums things, .dct (dk h), .int m, .int d] = some (.val (bD (rA d m n h).rows), [.lst (zs (rA d m n h).n), .dct (dk (rA d m n h).h)])) :
    bO (fgName 7 (.int i) (bEnv ns nums things many deep n h acc)) (lb1__law_block Mdraw gB Mpick Msimple) =
      some (.nx (bEnv ns nums things many deep (turnT rA ns nums things deep many n h).2.1 (turnT rA ns nums things deep many n h).2.2 (acc ++ [(turnT rA ns nums things deep many n h).1]))) := by
  have gl := g.len
  have hvl := v.len g
  have sN : ∀ x ∈ selT nums h, PyData.strOk x = true := fun x hx => lets_ok (g.w x (.inl (sel_mem.mp hx).1)).1
  have hn8 : n + 8 ≤ 16000000 := by cases deep <;> simp only [TC] at hn <;> omega
  have d1 := draw_ok ns n 9 hl (by decide) (by omega)
  have i0 : gIx (nhD nums things) (.int 0) = some (.val (.lst (nums.map .str))) := rfl
  have eN := eq_nil sN not
  have L0 : ∀ (i k s10 s11 s12 s13 s15 s16 s17 : S), lcK (fgName 14) (fB (f2 gIn (fVar 14) (fVar 3))) (fVar 14) [14] (nums.map .str) [.val (.scr ns), .own true (.lst (zs (n + 1))), .val (nhD nums things), .own true (.dct (dk h)), .val (.int many), .val (.int deep), .own false (.lst (acc.map Row.toD)), i, k, .unset, s10, s11, s12, s13, .unset, s15, s16, s17] =
      some (.new (.lst ((selT nums h).map .str)), [.val (.scr ns), .own true (.lst (zs (n + 1))), .val (nhD nums things), .own true (.dct (dk h)), .val (.int many), .val (.int deep), .own false (.lst (acc.map Row.toD)), i, k, .unset, s10, s11, s12, s13, .unset, s15, s16, s17]) := fun i k s10 s11 s12 s13 s15 s16 s17 => by
    rw [← sel_fm]
    refine lcK_pure (fun x : Str => if x ∈ h then some (DL.D.str x) else none) .str nums _ rfl (by omega) fun x _ => ?_
    by_cases q : x ∈ h <;> simp only [EV, EVT, EVC, EVY, LST, ↓reduceIte, Nat.reduceAdd, Nat.reduceSub, Nat.reduceLeDiff, Nat.reduceLT, Nat.reduceEqDiff, Nat.reduceBEq, Int.reduceLT, Int.reduceAdd, Int.reduceBNe, Int.reduceLE, Int.reduceEq, Int.reduceBEq, Bool.false_eq_true, reduceCtorEq, sizeLine_eq, decide_true, decide_false, decide_eq_true_eq, true_and, and_true, and_self, dk_has, q]
  have ha' : acc.length < 16777216 := by omega
  have happ : ∀ r : Row, acc.map Row.toD ++ [r.toD] = (acc ++ [r]).map Row.toD := fun r => by rw [List.map_append]; rfl
  have am : (acc.map Row.toD).length = acc.length := List.length_map _
  have hdv : CDiv (many : Int) 2 := ⟨by decide, by decide⟩
  have hm2 : (many : Int) / 2 + 1 = ((many / 2 + 1 : Nat) : Int) := by omega
  have k9 := dv_lt ns (n + 1) (many := 9) (by decide)
  -- a simple row
  have simp_case : ¬ (dv ns (n + 1) 9 < 2 ∧ 0 < deep ∧ selT nums h ≠ []) → ¬ (dv ns (n + 1) 9 = 2 ∧ 0 < deep ∧ selT nums h ≠ []) → _ := fun c1 c2 =>
    show bO (fgName 7 (.int i) (bEnv ns nums things many deep n h acc)) (lb1__law_block Mdraw gB Mpick Msimple) =
      some (.nx (bEnv ns nums things many deep (turnT rA ns nums things deep many n h).2.1 (turnT rA ns nums things deep many n h).2.2 (acc ++ [(turnT rA ns nums things deep many n h).1]))) by
    have st := simple_ok ns g (n + 1) hl (by omega) (h := h) (by omega)
    have hcost := simple_cost ns nums things h (n + 1)
    unfold turnT
    dsimp only
    rw [if_neg c1, if_neg c2]
    dsimp only
    generalize simpleT ns nums things h (n + 1) = q at *
    obtain ⟨r, n'⟩ := q
    dsimp only at *
    have hop' : gIx r.toD (.int 0) = some (.val (.str r.op)) := hop (.s r)
    have hin : gIn (.str r.op) (.tup [.str "num", .str "copy", .str "add", .str "make", .str "get", .str "let", .str "same"]) = some (.val (.bl r.st.isSome)) := hop_set (.s r)
    have hst : ∀ x, r.st = some x → gIx r.toD (.int 1) = some (.val (.str x)) := by
      intro x hx
      cases r <;> simp only [SR.st, Option.some.injEq, reduceCtorEq] at hx <;> subst hx <;> simp only [SR.toD, EV, EVT, EVC, EVY, LST, ↓reduceIte, Nat.reduceAdd, Nat.reduceSub, Nat.reduceLeDiff, Nat.reduceLT, Nat.reduceEqDiff, Nat.reduceBEq, Int.reduceLT, Int.reduceAdd, Int.reduceBNe, Int.reduceLE, Int.reduceEq, Int.reduceBEq, Bool.false_eq_true, reduceCtorEq, sizeLine_eq, decide_true, decide_false, decide_eq_true_eq, true_and, and_true, and_self]
    have hra : acc.map Row.toD ++ [r.toD] = (acc ++ [Row.s r]).map Row.toD := happ (.s r)
    have hh : h.length < 16777216 := by omega
    generalize hK : dv ns (n + 1) 9 = k at *
    have e1 : (decide ((k : Int) < 2) && (decide ((0 : Int) < (deep : Int)) && !(selT nums h).isEmpty)) = false := by
      rw [Bool.eq_false_iff]; intro z
      simp only [Bool.and_eq_true, decide_eq_true_eq, Bool.not_eq_true', List.isEmpty_eq_false_iff] at z
      exact c1 ⟨by omega, by omega, z.2.2⟩
    have e2 : (((k : Int) == 2) && (decide ((0 : Int) < (deep : Int)) && !(selT nums h).isEmpty)) = false := by
      rw [Bool.eq_false_iff]; intro z
      simp only [Bool.and_eq_true, decide_eq_true_eq, Bool.not_eq_true', List.isEmpty_eq_false_iff, beq_iff_eq] at z
      exact c2 ⟨by omega, by omega, z.2.2⟩
    have key : ∀ a b c a' : Bool, (a && (b && c)) = false → (a' && (b && c)) = false → ∀ (ρ : Env') (X Y Z : FS), (decide ((k : Int) < 2) = a) → (decide ((0 : Int) < (deep : Int)) = b) → (!(selT nums h).isEmpty) = c → ((k : Int) == 2) = a' → True := fun _ _ _ _ _ _ _ _ _ _ _ _ _ _ => trivial
    cases h1 : decide ((0 : Int) < (deep : Int)) <;> cases h2 : (selT nums h).isEmpty <;> cases h3 : decide ((k : Int) < 2) <;> cases h4 : ((k : Int) == 2) <;> simp only [h1, h2, h3, h4] at e1 e2 <;> first | (exact absurd e1 (by decide)) | (exact absurd e2 (by decide)) | skip
    all_goals
      cases hs : r.st with
      | none =>
        simp only [hs] at hin
        simp only [lb1__law_block, bEnv, lc0__law_block, EV, EVT, EVC, EVY, LST, ↓reduceIte, Nat.reduceAdd, Nat.reduceSub, Nat.reduceLeDiff, Nat.reduceLT, Nat.reduceEqDiff, Nat.reduceBEq, Int.reduceLT, Int.reduceAdd, Int.reduceBNe, Int.reduceLE, Int.reduceEq, Int.reduceBEq, Bool.false_eq_true, reduceCtorEq, sizeLine_eq, decide_true, decide_false, decide_eq_true_eq, true_and, and_true, and_self, d1, i0, L0, eN, h1, h2, h3, h4, st, am, ha', hra, hop', hin, Option.isSome_none]
      | some x =>
        simp only [hs] at hin
        simp only [lb1__law_block, bEnv, lc0__law_block, EV, EVT, EVC, EVY, LST, ↓reduceIte, Nat.reduceAdd, Nat.reduceSub, Nat.reduceLeDiff, Nat.reduceLT, Nat.reduceEqDiff, Nat.reduceBEq, Int.reduceLT, Int.reduceAdd, Int.reduceBNe, Int.reduceLE, Int.reduceEq, Int.reduceBEq, Bool.false_eq_true, reduceCtorEq, sizeLine_eq, decide_true, decide_false, decide_eq_true_eq, true_and, and_true, and_self, d1, i0, L0, eN, h1, h2, h3, h4, st, am, ha', hra, hop', hin, hst x hs, Option.isSome_some, dk_len, hh, dk_put]
  by_cases c1 : dv ns (n + 1) 9 < 2 ∧ 0 < deep ∧ selT nums h ≠ []
  · obtain ⟨c2, c3, c4⟩ := c1
    obtain ⟨d, rfl⟩ : ∃ d, deep = d + 1 := ⟨deep - 1, by omega⟩
    simp only [TC] at hn
    have c5 : (selT nums h).isEmpty = false := by cases q : selT nums h with
      | nil => exact absurd q c4
      | cons _ _ => rfl
    have c6 : 0 < (selT nums h).length := List.length_pos_iff.mpr c4
    have h1 : decide ((0 : Int) < ((d + 1 : Nat) : Int)) = true := decide_eq_true (by omega)
    have h3 : decide ((dv ns (n + 1) 9 : Int) < 2) = true := decide_eq_true (by omega)
    have ed : ((d + 1 : Nat) : Int) - 1 = (d : Int) := by omega
    have cp := CB_pos d (many / 2 + 1)
    have A1 := ra.cost d (many / 2 + 1) (n + 1) h (by omega)
    have A2 := ra.hv d (many / 2 + 1) (n + 1) h v
    have A3 := ih d (many / 2 + 1) (n + 1) h (by omega) (by omega) (by omega) v
    unfold turnT
    dsimp only
    rw [if_pos ⟨c2, c3, c4⟩]
    dsimp only
    rw [Nat.add_sub_cancel]
    generalize rA d (many / 2 + 1) (n + 1) h = A at *
    have B1 := ra.cost d (many / 2 + 1) A.n h (by omega)
    have B2 := ra.hv d (many / 2 + 1) A.n h v
    have B3 := ih d (many / 2 + 1) A.n h (by omega) (by omega) (by omega) v
    generalize rA d (many / 2 + 1) A.n h = B at *
    have p1 := picks_ok ns B.n (selT nums h) hl (by omega) c6
    have la := A2.len g
    have e3 : bD A.rows = .tup (toDs A.rows) := rfl
    have e4 : bD B.rows = .tup (toDs B.rows) := rfl
    have hra : acc.map Row.toD ++ [.tup [.str "if", .str (pk ns B.n (selT nums h)), bD A.rows, bD B.rows]] = (acc ++ [Row.ife (pk ns B.n (selT nums h)) A.rows B.rows]).map Row.toD := by
      rw [← happ]; unfold Row.toD; rfl
    simp only [lb1__law_block, bEnv, lc0__law_block, EV, EVT, EVC, EVY, LST, ↓reduceIte, Nat.reduceAdd, Nat.reduceSub, Nat.reduceLeDiff, Nat.reduceLT, Nat.reduceEqDiff, Nat.reduceBEq, Int.reduceLT, Int.reduceAdd, Int.reduceBNe, Int.reduceLE, Int.reduceEq, Int.reduceBEq, Bool.false_eq_true, reduceCtorEq, sizeLine_eq, decide_true, decide_false, decide_eq_true_eq, true_and, and_true, and_self, d1, i0, L0, eN, c5, h1, h3, hdv, hm2, ed, A3, B3, p1, am, ha', hra, lp0__law_block, dk_keys]
    rw [bothF_lp A.h h (by omega)]
    simp only [EV, EVT, EVC, EVY, LST, ↓reduceIte, Nat.reduceAdd, Nat.reduceSub, Nat.reduceLeDiff, Nat.reduceLT, Nat.reduceEqDiff, Nat.reduceBEq, Int.reduceLT, Int.reduceAdd, Int.reduceBNe, Int.reduceLE, Int.reduceEq, Int.reduceBEq, Bool.false_eq_true, reduceCtorEq, sizeLine_eq, decide_true, decide_false, decide_eq_true_eq, true_and, and_true, and_self]
  by_cases c2 : dv ns (n + 1) 9 = 2 ∧ 0 < deep ∧ selT nums h ≠ []
  · obtain ⟨c3, c4, c5⟩ := c2
    obtain ⟨d, rfl⟩ : ∃ d, deep = d + 1 := ⟨deep - 1, by omega⟩
    simp only [TC] at hn
    have c6 : (selT nums h).isEmpty = false := by cases q : selT nums h with
      | nil => exact absurd q c5
      | cons _ _ => rfl
    have c7 : 0 < (selT nums h).length := List.length_pos_iff.mpr c5
    have h1 : decide ((0 : Int) < ((d + 1 : Nat) : Int)) = true := decide_eq_true (by omega)
    have h3 : decide ((dv ns (n + 1) 9 : Int) < 2) = false := decide_eq_false (by omega)
    have h4 : ((dv ns (n + 1) 9 : Int) == 2) = true := by rw [beq_iff_eq]; omega
    have ed : ((d + 1 : Nat) : Int) - 1 = (d : Int) := by omega
    have d2 : Mdraw [.scr ns, .lst (zs (n + 1)), .int 4] = some (.val (.int (dv ns (n + 2) 4)), [.lst (zs (n + 2))]) := draw_ok ns (n + 1) 4 hl (by decide) (by omega)
    have v4 := dv_lt ns (n + 2) (many := 4) (by decide)
    have hix : gIx (.lst [.int (d : Int), .int 0, .int 0, .int 0]) (.int (dv ns (n + 2) 4)) = some (.val (.int ((if dv ns (n + 2) 4 = 0 then d + 1 - 1 else 0 : Nat) : Int))) := by
      have v4 : dv ns (n + 2) 4 < 4 := by omega
      clear d2
      generalize dv ns (n + 2) 4 = j at *
      rcases j with _ | _ | _ | _ | j <;> first | rfl | omega
    have cp := CB_pos d (many / 2 + 1)
    have cz := CB_zero d (many / 2 + 1)
    have hw : (if dv ns (n + 2) 4 = 0 then d + 1 - 1 else 0 : Nat) < f ∧ CB (if dv ns (n + 2) 4 = 0 then d + 1 - 1 else 0) (many / 2 + 1) ≤ CB d (many / 2 + 1) := by
      split
      · rw [Nat.add_sub_cancel]; omega
      · omega
    unfold turnT
    dsimp only
    rw [if_neg c1, if_pos ⟨c3, c4, c5⟩]
    dsimp only
    generalize (if dv ns (n + 2) 4 = 0 then d + 1 - 1 else 0 : Nat) = w at *
    have A1 := ra.cost w (many / 2 + 1) (n + 2) h (by omega)
    have A2 := ra.hv w (many / 2 + 1) (n + 2) h v
    have A3 := ih w (many / 2 + 1) (n + 2) h (by omega) (by omega) (by omega) v
    generalize rA w (many / 2 + 1) (n + 2) h = A at *
    have p1 := picks_ok ns A.n (selT nums h) hl (by omega) c7
    have hra : acc.map Row.toD ++ [.tup [.str "loop", .str (pk ns A.n (selT nums h)), bD A.rows]] = (acc ++ [Row.loop (pk ns A.n (selT nums h)) A.rows]).map Row.toD := by
      rw [← happ]; unfold Row.toD; rfl
    simp only [lb1__law_block, bEnv, lc0__law_block, EV, EVT, EVC, EVY, LST, ↓reduceIte, Nat.reduceAdd, Nat.reduceSub, Nat.reduceLeDiff, Nat.reduceLT, Nat.reduceEqDiff, Nat.reduceBEq, Int.reduceLT, Int.reduceAdd, Int.reduceBNe, Int.reduceLE, Int.reduceEq, Int.reduceBEq, Bool.false_eq_true, reduceCtorEq, sizeLine_eq, decide_true, decide_false, decide_eq_true_eq, true_and, and_true, and_self, d1, d2, i0, L0, eN, c6, h1, h3, h4, hdv, hm2, ed, hix, A3, p1, am, ha', hra]
  · exact simp_case c1 c2
theorem turns_ok (ns : List Int) {nums things : List Str} (g : NG nums things) {f deep many : Nat} {rA : Nat → Nat → Nat → List Str → BR} (ra : RAok ns nums things f rA) (hl : ns.length ≤ 63) (hf : deep < f + 1) (hm : many ≤ 1000) {gB : Mir}
    (ih : ∀ d m n h, d < f → m ≤ 1000 → n + CB d m ≤ 16000000 → HV nums things h → gB [.scr ns, .lst (zs n), nhD nums things, .dct (dk h), .int m, .int d] = some (.val (bD (rA d m n h).rows), [.lst (zs (rA d m n h).n), .dct (dk (rA d m n h).h)])) :
    ∀ (l : List Nat) (n : Nat) (h : List Str) (acc : List Row), HV nums things h → n + l.length * TC deep many ≤ 16000000 → acc.length + l.length ≤ 1000 →
    forL (fgName 7) (lb1__law_block Mdraw gB Mpick Msimple) (l.map fun i => .int (i : Nat)) (bEnv ns nums things many deep n h acc) =
      some (.nx (bEnv ns nums things many deep (turnsT rA ns nums things deep many l.length n h).n (turnsT rA ns nums things deep many l.length n h).h (acc ++ (turnsT rA ns nums things deep many l.length n h).rows)))
  | [], n, h, acc, _, _, _ => by simp [turnsT, forL]
  | i :: l, n, h, acc, v, hn, ha => by
    rw [List.length_cons] at hn ha
    rw [Nat.add_mul, Nat.one_mul] at hn
    have tc := turn_cost ra deep many n h hf
    rw [List.map_cons, forL_c, turn_ok ns g ra v hl hf hm (by omega) acc (by omega) i ih, bL_nx]
    rw [turns_ok ns g ra hl hf hm ih l _ _ _ (turn_hv g ra deep many n h v) (by omega) (by rw [List.length_append, List.length_singleton]; omega)]
    rw [List.length_cons]
    simp only [turnsT, List.append_assoc, List.singleton_append]
theorem block_dr (ns : List Int) {nums things : List Str} (g : NG nums things) (hl : ns.length ≤ 63) : ∀ f deep many n h, deep < f → many ≤ 1000 → n + CB deep many ≤ 16000000 → HV nums things h →
    Rblock f [.scr ns, .lst (zs n), nhD nums things, .dct (dk h), .int many, .int deep] = some (.val (bD (blockF ns nums things f deep many n h).rows), [.lst (zs (blockF ns nums things f deep many n h).n), .dct (dk (blockF ns nums things f deep many n h).h)])
  | 0, _, _, _, _, h, _, _, _ => absurd h (Nat.not_lt_zero _)
  | f + 1, deep, many, n, h, hf, hm, hn, v => by
    have hd := dv_lt ns (n + 1) (many := (many + 1 : Nat)) (by omega)
    have d1 := draw_ok ns n ((many + 1 : Nat) : Int) hl (by omega) (by have := CB_pos deep many; omega)
    unfold blockF
    generalize dv ns (n + 1) ((many + 1 : Nat) : Int) = j at *
    have hj : j ≤ many := by omega
    have L := turns_ok ns g (blockF_ok ns g f) hl hf hm (block_dr ns g hl f) (List.range j) (n + 1) h [] v (by
      rw [List.length_range]
      cases deep with
      | zero => have := Nat.mul_le_mul_right 8 hj; simp only [CB, TC] at *; omega
      | succ d => have := Nat.mul_le_mul_right (8 + 2 * CB d (many / 2 + 1)) hj; simp only [CB, TC] at *; omega) (by rw [List.length_range]; simp; omega)
    rw [List.length_range, List.nil_append] at L
    have c1 : -(2 ^ 62) ≤ (j : Int) ∧ (j : Int) < 2 ^ 62 := by omega
    have e1 : (many : Int) + 1 = ((many + 1 : Nat) : Int) := by omega
    generalize turnsT (blockF ns nums things f) ns nums things deep many j (n + 1) h = T at *
    have e2 : (DL.D.tup (T.rows.map Row.toD)) = bD T.rows := by rw [bD, toDs_map]
    show m__law_block Mdraw (Rblock f) Mpick Msimple _ = _
    rw [mk__law_block]
    unfold fs__law_block
    simp only [bEnv, List.map_nil] at L
    simp only [lp1__law_block, EV, EVT, EVC, EVY, LST, ↓reduceIte, Nat.reduceAdd, Nat.reduceSub, Nat.reduceLeDiff, Nat.reduceLT, Nat.reduceEqDiff, Nat.reduceBEq, Int.reduceLT, Int.reduceAdd, Int.reduceBNe, Int.reduceLE, Int.reduceEq, Int.reduceBEq, Bool.false_eq_true, reduceCtorEq, sizeLine_eq, decide_true, decide_false, decide_eq_true_eq, true_and, and_true, and_self, e1, d1, Int.toNat_natCast, c1, L, e2]
end TA
set_option maxRecDepth 100000
set_option maxHeartbeats 8000000
namespace TA
open PySem PySem.Spec L2 DL
mutual
def Row.okk (nums things : List Str) : Row → Prop
  | .s r => r.okk nums things
  | .ife x a b => x ∈ nums ∧ okkB nums things a ∧ okkB nums things b
  | .loop x b => x ∈ nums ∧ okkB nums things b
def okkB (nums things : List Str) : List Row → Prop
  | [] => True
  | r :: rs => r.okk nums things ∧ okkB nums things rs
end
theorem suB_app : ∀ (a b : List Row) (h : List Str), suB (a ++ b) h = (suB a h).bind (suB b)
  | [], b, h => by simp [suB]
  | r :: a, b, h => by
    rw [List.cons_append]
    unfold suB
    cases suR r h with
    | none => rfl
    | some h1 => exact suB_app a b h1
/-- how many rows, at most -/
def RB : Nat → Nat → Nat
  | 0, m => m
  | d + 1, m => m * (1 + 2 * RB d (m / 2 + 1))
theorem RB_zero (d m : Nat) : m ≤ RB d m := by
  cases d with
  | zero => exact Nat.le_refl _
  | succ d => show m ≤ m * (1 + _); exact Nat.le_mul_of_pos_right _ (by omega)
structure RGood (nums things : List Str) (f : Nat) (rA : Nat → Nat → Nat → List Str → BR) : Prop where
  ok : ∀ deep many n h, HV nums things h → okkB nums things (rA deep many n h).rows
  su : ∀ deep many n h, HV nums things h → suB (rA deep many n h).rows h = some (rA deep many n h).h
  dep : ∀ deep many n h, deps (rA deep many n h).rows ≤ deep
  cnt : ∀ deep many n h, deep < f → cnts (rA deep many n h).rows ≤ RB deep many
def tcnt : Nat → Nat → Nat
  | 0, _ => 1
  | d + 1, m => 1 + 2 * RB d (m / 2 + 1)
theorem turn_good {ns : List Int} {nums things : List Str} {f : Nat} {rA : Nat → Nat → Nat → List Str → BR} (g : NG nums things) (ra : RAok ns nums things f rA) (rg : RGood nums things f rA) (deep many n : Nat) (h : List Str) :
    (HV nums things h → (turnT rA ns nums things deep many n h).1.okk nums things ∧ suR (turnT rA ns nums things deep many n h).1 h = some (turnT rA ns nums things deep many n h).2.2) ∧ (turnT rA ns nums things deep many n h).1.dep ≤ deep ∧
      (deep < f + 1 → (turnT rA ns nums things deep many n h).1.cnt ≤ tcnt deep many) := by
  have hs := simple_good ns g (n + 1) (h := h)
  have hN : selT nums h ≠ [] → ∀ n, pk ns n (selT nums h) ∈ nums ∧ pk ns n (selT nums h) ∈ h := fun z n => sel_mem.mp (pk_mem ns n (List.length_pos_iff.mpr z))
  unfold turnT
  dsimp only
  split
  · rename_i c
    obtain ⟨_, c2, c3⟩ := c
    obtain ⟨d, rfl⟩ : ∃ d, deep = d + 1 := ⟨deep - 1, by omega⟩
    rw [Nat.add_sub_cancel]
    have a1 := rg.dep d (many / 2 + 1) (n + 1) h
    have b1 := rg.dep d (many / 2 + 1) (rA d (many / 2 + 1) (n + 1) h).n h
    refine ⟨fun v => ⟨⟨(hN c3 _).1, rg.ok _ _ _ _ v, rg.ok _ _ _ _ v⟩, ?_⟩, ?_, fun hd => ?_⟩
    · dsimp only
      unfold suR
      rw [if_pos (hN c3 _).2, rg.su _ _ _ _ v, rg.su _ _ _ _ v]
    · simp only [Row.dep]; omega
    · have a2 := rg.cnt d (many / 2 + 1) (n + 1) h (by omega)
      have b2 := rg.cnt d (many / 2 + 1) (rA d (many / 2 + 1) (n + 1) h).n h (by omega)
      simp only [Row.cnt, tcnt]; omega
  split
  · rename_i c
    obtain ⟨_, c2, c3⟩ := c
    obtain ⟨d, rfl⟩ : ∃ d, deep = d + 1 := ⟨deep - 1, by omega⟩
    rw [Nat.add_sub_cancel]
    have hw : (if dv ns (n + 2) 4 = 0 then d else 0) ≤ d := by split <;> omega
    have hz := RB_zero d (many / 2 + 1)
    have hw2 : RB (if dv ns (n + 2) 4 = 0 then d else 0) (many / 2 + 1) ≤ RB d (many / 2 + 1) := by
      split
      · exact Nat.le_refl _
      · exact hz
    generalize (if dv ns (n + 2) 4 = 0 then d else 0) = w at *
    have a1 := rg.dep w (many / 2 + 1) (n + 2) h
    refine ⟨fun v => ⟨⟨(hN c3 _).1, rg.ok _ _ _ _ v⟩, ?_⟩, ?_, fun hd => ?_⟩
    · dsimp only
      unfold suR
      rw [if_pos (hN c3 _).2, rg.su _ _ _ _ v]
    · simp only [Row.dep]; omega
    · have a2 := rg.cnt w (many / 2 + 1) (n + 2) h (by omega)
      simp only [Row.cnt, tcnt]; omega
  · refine ⟨fun v => ⟨hs.1, ?_⟩, ?_, fun _ => ?_⟩
    · dsimp only
      unfold suR
      have : (Row.s (simpleT ns nums things h (n + 1)).1).rd.all (fun x => decide (x ∈ h)) = true := by
        rw [List.all_eq_true]
        intro x hx
        exact decide_eq_true (hs.2 x hx)
      have e : (simpleT ns nums things h (n + 1)).1.rd.all (fun x => decide (x ∈ h)) = true := this
      rw [if_pos e] <;> cases (simpleT ns nums things h (n + 1)).1.st <;> rfl
    · simp only [Row.dep]; omega
    · simp only [Row.cnt]; cases deep <;> simp only [tcnt] <;> omega
theorem turns_good {ns : List Int} {nums things : List Str} {f : Nat} {rA : Nat → Nat → Nat → List Str → BR} (g : NG nums things) (ra : RAok ns nums things f rA) (rg : RGood nums things f rA) (deep many : Nat) : ∀ (j n : Nat) (h : List Str),
    (HV nums things h → okkB nums things (turnsT rA ns nums things deep many j n h).rows ∧ suB (turnsT rA ns nums things deep many j n h).rows h = some (turnsT rA ns nums things deep many j n h).h) ∧ deps (turnsT rA ns nums things deep many j n h).rows ≤ deep ∧
      (deep < f + 1 → cnts (turnsT rA ns nums things deep many j n h).rows ≤ j * tcnt deep many)
  | 0, n, h => ⟨fun _ => ⟨trivial, rfl⟩, Nat.zero_le _, fun _ => Nat.zero_le _⟩
  | j + 1, n, h => by
    obtain ⟨a1, a2, a3⟩ := turn_good g ra rg deep many n h
    obtain ⟨b1, b2, b3⟩ := turns_good g ra rg deep many j (turnT rA ns nums things deep many n h).2.1 (turnT rA ns nums things deep many n h).2.2
    simp only [turnsT]
    refine ⟨fun v => ?_, ?_, fun hd => ?_⟩
    · obtain ⟨c1, c2⟩ := a1 v
      obtain ⟨d1, d2⟩ := b1 (turn_hv g ra deep many n h v)
      refine ⟨⟨c1, d1⟩, ?_⟩
      unfold suB
      rw [c2]
      exact d2
    · rw [deps]; omega
    · have := a3 hd; have := b3 hd
      rw [cnts, Nat.add_mul, Nat.one_mul]; omega
theorem blockF_good (ns : List Int) {nums things : List Str} (g : NG nums things) : ∀ f, RGood nums things f (blockF ns nums things f)
  | 0 => ⟨fun _ _ _ _ _ => trivial, fun _ _ _ _ _ => rfl, fun _ _ _ _ => Nat.zero_le _, fun _ _ _ _ h => absurd h (Nat.not_lt_zero _)⟩
  | f + 1 => by
    have rg := blockF_good ns g f
    have ra := blockF_ok ns g f
    refine ⟨fun deep many n h v => ((turns_good g ra rg deep many _ _ h).1 v).1, fun deep many n h v => ((turns_good g ra rg deep many _ _ h).1 v).2, fun deep many n h => (turns_good g ra rg deep many _ _ h).2.1, fun deep many n h hf => ?_⟩
    have hd := dv_lt ns (n + 1) (many := (many + 1 : Nat)) (by omega)
    have b : dv ns (n + 1) (many + 1 : Nat) ≤ many := by omega
    have c := (turns_good g ra rg deep many (dv ns (n + 1) (many + 1 : Nat)) (n + 1) h).2.2 hf
    unfold blockF
    refine Nat.le_trans c ?_
    cases deep with
    | zero => simp only [tcnt, RB]; omega
    | succ d => simp only [tcnt, RB]; exact Nat.mul_le_mul_right _ b
structure KO (nums things : List Str) (k : KD) : Prop where
  ty : ∀ p ∈ k, p.1 ∈ if p.2 = true then things else nums
theorem kfind_ty {nums things : List Str} (g : NG nums things) {k : KD} (o : KO nums things k) {x : Str} {b c : Bool} (h : kfind k x = some c) (hx : x ∈ if b = true then things else nums) : c = b := by
  unfold kfind at h
  cases f : k.find? (fun p => decide (p.1 = x)) with
  | none => rw [f] at h; cases h
  | some p =>
    rw [f] at h
    cases h
    have m := o.ty p (List.mem_of_find?_eq_some f)
    have q : p.1 = x := by have := List.find?_some f; simpa using this
    rw [q] at m
    cases hb : p.2 <;> cases b <;> simp only [hb, if_true, if_false, Bool.false_eq_true] at m hx ⊢
    · exact absurd hx (g.dis x m)
    · exact absurd m (g.dis x hx)
theorem kRow_good {nums things : List Str} (g : NG nums things) : ∀ (l : List (Str × Bool)) (k : KD), KO nums things k → (∀ p ∈ l, p.1 ∈ if p.2 = true then things else nums) → (kRow l k).1 = true ∧ KO nums things (kRow l k).2
  | [], k, o, _ => ⟨rfl, o⟩
  | (x, b) :: l, k, o, h => by
    have hx := h (x, b) List.mem_cons_self
    have hr := fun p hp => h p (List.mem_cons_of_mem _ hp)
    unfold kRow
    cases q : kfind k x with
    | some c =>
      dsimp only
      rw [if_pos (kfind_ty g o q hx)]
      exact kRow_good g l k o hr
    | none =>
      refine kRow_good g l _ ⟨fun p hp => ?_⟩ hr
      rcases List.mem_append.mp hp with hp | hp
      · exact o.ty p hp
      · rw [List.mem_singleton] at hp; subst hp; exact hx
mutual
theorem kR_good {nums things : List Str} (g : NG nums things) : ∀ (r : Row) (k : KD), r.okk nums things → KO nums things k → (kR r k).1 = true ∧ KO nums things (kR r k).2
  | .s r, k, h, o => kRow_good g r.kinds k o h.1
  | .ife x a b, k, h, o => by
    unfold Row.okk at h
    obtain ⟨h1, h2, h3⟩ := h
    have c := kRow_good g [(x, false)] k o (by simpa using h1)
    unfold kR
    cases q : kRow [(x, false)] k with
    | mk f k1 =>
      rw [q] at c
      obtain ⟨c1, c2⟩ := c
      have c1 : f = true := c1
      subst c1
      have d := kB_good g a k1 h2 c2
      have e := kB_good g b _ h3 d.2
      simp only [d.1, e.1, Bool.and_self, true_and]
      exact e.2
  | .loop x b, k, h, o => by
    unfold Row.okk at h
    obtain ⟨h1, h2⟩ := h
    have c := kRow_good g [(x, false)] k o (by simpa using h1)
    unfold kR
    cases q : kRow [(x, false)] k with
    | mk f k1 =>
      rw [q] at c
      obtain ⟨c1, c2⟩ := c
      have c1 : f = true := c1
      subst c1
      exact kB_good g b k1 h2 c2
theorem kB_good {nums things : List Str} (g : NG nums things) : ∀ (b : List Row) (k : KD), okkB nums things b → KO nums things k → (kB b k).1 = true ∧ KO nums things (kB b k).2
  | [], k, _, o => ⟨rfl, o⟩
  | r :: b, k, h, o => by
    unfold okkB at h
    have c := kR_good g r k h.1 o
    unfold kB
    cases q : kR r k with
    | mk f k1 =>
      rw [q] at c
      obtain ⟨c1, c2⟩ := c
      have c1 : f = true := c1
      subst c1
      exact kB_good g b k1 h.2 c2
end
theorem okk_wf {nums things : List Str} (g : NG nums things) {r : SR} (h : r.okk nums things) : r.wf := ⟨fun p hp => by
  have := h.1 p hp
  cases hb : p.2 <;> simp only [hb, if_true, if_false, Bool.false_eq_true] at this
  · exact g.wordN this
  · exact g.wordT this, h.2⟩
mutual
theorem okkR_wf {nums things : List Str} (g : NG nums things) : ∀ r : Row, r.okk nums things → r.wf
  | .s r, h => okk_wf g h
  | .ife x a b, h => by unfold Row.okk at h; exact ⟨g.wordN h.1, okkB_wf g a h.2.1, okkB_wf g b h.2.2⟩
  | .loop x b, h => by unfold Row.okk at h; exact ⟨g.wordN h.1, okkB_wf g b h.2⟩
theorem okkB_wf {nums things : List Str} (g : NG nums things) : ∀ b : List Row, okkB nums things b → wfB b
  | [], _ => trivial
  | r :: b, h => by unfold okkB at h; exact ⟨okkR_wf g r h.1, okkB_wf g b h.2⟩
end
def Mlawprog : Mir := m__law_program Mnames Mdraw (Rblock 4)
/-- a program that may be drawn -/
structure Drawn (nums things : List Str) (p : Prog) : Prop where
  g : NG nums things
  len : p.ps.length ≤ 3
  nd : p.ps.Nodup
  sub : ∀ x ∈ p.ps, x ∈ nums
  ok : okkB nums things p.b
  su : (suB p.b p.ps).isSome = true
  dep : deps p.b ≤ 2
theorem Drawn.wf {nums things : List Str} {p : Prog} (d : Drawn nums things p) (hc : cnts p.b ≤ 400) : p.wf :=
  ⟨d.len, fun x hx => d.g.wordN (d.sub x hx), d.nd, okkB_wf d.g p.b d.ok, hc, by have := d.dep; omega⟩
theorem Drawn.prog {nums things : List Str} {p : Prog} (d : Drawn nums things p) : progB p = true := by
  have k := (kB_good d.g p.b (kstart p.ps) d.ok ⟨fun q hq => by
    obtain ⟨x, hx, rfl⟩ := List.mem_map.mp hq
    exact d.sub x hx⟩).1
  unfold progB
  rw [k, d.su]
  rfl
def lawprogT (ns : List Int) (many deep n : Nat) : Prog × Nat :=
  let q := namesT ns n
  let ps := q.1.1.take (dv ns (q.2 + 1) 4)
  let B := blockF ns q.1.1 q.1.2 4 deep many (q.2 + 1) ps
  (⟨ps, B.rows⟩, B.n)
theorem take_hv {nums things : List Str} (g : NG nums things) (j : Nat) : HV nums things (nums.take j) :=
  ⟨(List.take_sublist j nums).nodup g.nd, fun x hx => .inl ((List.take_sublist j nums).mem hx)⟩
theorem lawprog_drawn (ns : List Int) (many deep n : Nat) (hd : deep ≤ 2) : Drawn (namesT ns n).1.1 (namesT ns n).1.2 (lawprogT ns many deep n).1 ∧ cnts (lawprogT ns many deep n).1.b ≤ RB deep many := by
  have g := names_good ns n
  unfold lawprogT
  dsimp only
  generalize namesT ns n = q at *
  have v := take_hv g (dv ns (q.2 + 1) 4)
  have rg := blockF_good ns g 4
  have hv := dv_lt ns (q.2 + 1) (many := 4) (by decide)
  refine ⟨⟨g, ?_, v.nd, fun x hx => (List.take_sublist _ _).mem hx, rg.ok _ _ _ _ v, by rw [rg.su _ _ _ _ v]; rfl, Nat.le_trans (rg.dep _ _ _ _) hd⟩, rg.cnt _ _ _ _ (by omega)⟩
  dsimp only
  rw [List.length_take]
  omega
theorem cut_take (l : List DL.D) (j : Nat) : cutG l none (some (j : Int)) = l.take j := by
  unfold cutG
  have h1 : HT.sIx l.length 0 none = 0 := rfl
  have h2 : HT.sIx l.length l.length (some (j : Int)) = min j l.length := HT.sIx_nat _ _ _
  rw [h1, h2, List.drop_zero, Nat.sub_zero]
  rw [← List.take_eq_take_min]
theorem lawprog_ok (ns : List Int) (n many deep : Nat) (hl : ns.length ≤ 63) (hd : deep ≤ 2) (hm : many ≤ 1000) (hn : n + CB deep many ≤ 15000000) :
    Mlawprog [.scr ns, .lst (zs n), .int many, .int deep] = some (.val (lawprogT ns many deep n).1.toD, [.lst (zs (lawprogT ns many deep n).2)]) := by
  have g := names_good ns n
  have nc := names_cost ns n
  have cp := CB_pos deep many
  have n1 := names_ok ns n hl (by omega)
  unfold lawprogT Prog.toD
  dsimp only
  generalize namesT ns n = q at *
  have d1 := draw_ok ns q.2 4 hl (by decide) (by omega)
  have hv := dv_lt ns (q.2 + 1) (many := 4) (by decide)
  generalize dv ns (q.2 + 1) 4 = j at *
  have v := take_hv g j
  have b1 := block_dr ns g hl 4 deep many (q.2 + 1) (q.1.1.take j) (by omega) hm (by omega) v
  generalize blockF ns q.1.1 q.1.2 4 deep many (q.2 + 1) (q.1.1.take j) = B at *
  have gl := g.len
  have tl : (q.1.1.take j).length ≤ 4 := by rw [List.length_take]; omega
  have i0 : gIx (.tup [.lst (q.1.1.map .str), .lst (q.1.2.map .str)]) (.int 0) = some (.val (.lst (q.1.1.map .str))) := rfl
  have ct : cutG (q.1.1.map DL.D.str) none (some (j : Int)) = (q.1.1.take j).map .str := by rw [cut_take, List.map_take]
  have L : ∀ (s : S), lcK (fgName 7) ftYes (fTup (fCons (fVar 7) (fCons (fC (.bl true)) fNil))) [7] ((q.1.1.take j).map .str) [.val (.scr ns), .own true (.lst (zs (q.2 + 1))), .val (.int many), .val (.int deep), .val (.tup [.lst (q.1.1.map .str), .lst (q.1.2.map .str)]), .val (.tup ((q.1.1.take j).map .str)), s, .unset] =
      some (.new (.lst ((q.1.1.take j).map fun x => .tup [.str x, .bl true])), [.val (.scr ns), .own true (.lst (zs (q.2 + 1))), .val (.int many), .val (.int deep), .val (.tup [.lst (q.1.1.map .str), .lst (q.1.2.map .str)]), .val (.tup ((q.1.1.take j).map .str)), s, .unset]) := fun s =>
    lcK_map (fun x : Str => .tup [.str x, .bl true]) .str _ _ rfl (by omega) fun x _ => by simp only [EV, EVT, EVC, EVY, LST, ↓reduceIte, Nat.reduceAdd, Nat.reduceSub, Nat.reduceLeDiff, Nat.reduceLT, Nat.reduceEqDiff, Nat.reduceBEq, Int.reduceLT, Int.reduceAdd, Int.reduceBNe, Int.reduceLE, Int.reduceEq, Int.reduceBEq, Bool.false_eq_true, reduceCtorEq, sizeLine_eq, decide_true, decide_false, decide_eq_true_eq, true_and, and_true, and_self]
  have hk : (q.1.1.take j).map (fun x => (x, DL.D.bl true)) = dk (q.1.1.take j) := rfl
  have hm2 := merge_ok (fun _ => .bl true) v.nd
  rw [hk] at hm2
  unfold Mlawprog nhD at *
  rw [mk__law_program]
  unfold fs__law_program
  simp only [EV, EVT, EVC, EVY, LST, ↓reduceIte, Nat.reduceAdd, Nat.reduceSub, Nat.reduceLeDiff, Nat.reduceLT, Nat.reduceEqDiff, Nat.reduceBEq, Int.reduceLT, Int.reduceAdd, Int.reduceBNe, Int.reduceLE, Int.reduceEq, Int.reduceBEq, Bool.false_eq_true, reduceCtorEq, sizeLine_eq, decide_true, decide_false, decide_eq_true_eq, true_and, and_true, and_self, n1, i0, d1, ct, lc0__law_program, L, pairs_map, hk, hm2, b1]
end TA
set_option maxRecDepth 100000
set_option maxHeartbeats 8000000
namespace TA
open PySem PySem.Spec L2 DL
theorem takeW_len {p : Nat → Bool} : ∀ (l : List Nat), (l.takeWhile p).length = l.length → ∀ c ∈ l, p c = true
  | [], _, c, h => by cases h
  | d :: l, e, c, h => by
    rw [List.takeWhile_cons] at e
    split at e
    · rename_i hd
      rw [List.length_cons, List.length_cons] at e
      rcases List.mem_cons.mp h with rfl | h
      · exact hd
      · exact takeW_len l (by omega) c h
    · simp at e
theorem takeW_le {p : Nat → Bool} (l : List Nat) : (l.takeWhile p).length ≤ l.length := (List.takeWhile_sublist p).length_le
theorem takeW_at {p : Nat → Bool} : ∀ (l : List Nat), (l.takeWhile p).length < l.length → ∃ c r, l.drop (l.takeWhile p).length = c :: r ∧ p c = false
  | [], h => by simp at h
  | d :: l, h => by
    rw [List.takeWhile_cons] at h ⊢
    split
    · rename_i hd
      rw [if_pos hd, List.length_cons, List.length_cons] at h
      rw [List.length_cons, List.drop_succ_cons]
      exact takeW_at l (by omega)
    · rename_i hd
      exact ⟨d, l, rfl, by simpa using hd⟩
theorem takeW_end {p : Nat → Bool} {c : Nat} (hc : p c = false) : ∀ l : List Nat, ((l ++ [c]).takeWhile p).length ≤ l.length
  | [] => by simp [hc]
  | d :: l => by
    rw [List.cons_append, List.takeWhile_cons]
    split
    · rw [List.length_cons, List.length_cons]; have := takeW_end hc l; omega
    · simp
theorem word_lets {x : Str} (h : isWord x = true) : Lets x ∧ 1 ≤ x.length ∧ x.length ≤ 6 := by
  unfold isWord at h
  simp only [Bool.and_eq_true, decide_eq_true_eq] at h
  obtain ⟨h1, h2, h6⟩ := h
  have h6 := eq_of_beq h6
  refine ⟨?_, h1, h2⟩
  unfold Txt.stripChars at h6
  rw [PyProof.Rows.stripBy_eq] at h6
  have hall : ∀ c ∈ x.cps.toList, letters.cps.contains c = true := by
    apply takeW_len
    have hle := takeW_le (p := letters.cps.contains) x.cps.toList
    rcases Nat.lt_or_ge (x.cps.toList.takeWhile letters.cps.contains).length x.cps.toList.length with hlt | hge
    · exfalso
      obtain ⟨c, r, e, hc⟩ := takeW_at _ hlt
      have hlo : stripLo letters.cps.contains true x = (x.cps.toList.takeWhile letters.cps.contains).length := by unfold stripLo; rw [if_pos rfl]
      rw [hlo] at h6
      have hhi : (x.cps.toList.takeWhile letters.cps.contains).length + 1 ≤ stripHi letters.cps.contains true x (x.cps.toList.takeWhile letters.cps.contains).length := by
        unfold stripHi
        rw [if_pos rfl, e, List.reverse_cons]
        have := takeW_end (p := letters.cps.contains) hc r.reverse
        rw [List.length_reverse] at this
        have hl : r.length + 1 = x.cps.toList.length - (x.cps.toList.takeWhile letters.cps.contains).length := by
          have := congrArg List.length e
          rw [List.length_drop, List.length_cons] at this
          omega
        have hx : x.length = x.cps.toList.length := by rw [Array.length_toList]; rfl
        omega
      have hx : x.length = x.cps.toList.length := by rw [Array.length_toList]; rfl
      have hhi2 : stripHi letters.cps.contains true x (x.cps.toList.takeWhile letters.cps.contains).length ≤ x.length := by
        unfold stripHi
        rw [if_pos rfl]
        omega
      unfold Builtin.Str.strSub at h6
      have hs := congrArg (fun s : Str => s.cps.size) h6
      simp only [Array.size_extract] at hs
      have : (("" : Str).cps.size) = 0 := rfl
      rw [this] at hs
      have hsz : x.cps.size = x.length := rfl
      rw [hsz] at hs
      omega
    · omega
  intro c hc
  have := hall c hc
  rw [Array.contains_iff] at this
  have hm := Array.mem_toList_iff.mpr this
  have key : ∀ c ∈ letters.cps.toList, 97 ≤ c ∧ c ≤ 122 := by decide +kernel
  exact key c hm
mutual
def okD : DL.D → Bool
  | .non => true
  | .bl _ => true
  | .int _ => true
  | .str x => PyData.strOk x
  | .tup l => okDs l
  | .lst l => okDs l
  | .dct _ => false
  | .scr _ => false
  | .obj _ => false
def okDs : List DL.D → Bool
  | [] => true
  | d :: l => okD d && okDs l
end
mutual
def depD : DL.D → Nat
  | .tup l => depDs l + 1
  | .lst l => depDs l + 1
  | _ => 0
def depDs : List DL.D → Nat
  | [] => 0
  | d :: l => max (depD d) (depDs l)
end
mutual
theorem okD_py : ∀ d : DL.D, okD d = true → ∃ a, toPy d = some a ∧ a.canLay0 = true ∧ a.depth = depD d
  | .non, _ => ⟨.none, rfl, rfl, rfl⟩
  | .bl b, _ => ⟨.bool b, rfl, rfl, rfl⟩
  | .int i, _ => ⟨.int i, rfl, rfl, rfl⟩
  | .str x, h => ⟨.str x, rfl, h, rfl⟩
  | .tup l, h => by
    unfold okD at h
    obtain ⟨as, h1, h2, h3⟩ := okDs_py l h
    refine ⟨.tuple as, by unfold toPy; rw [h1], h2, ?_⟩
    show PyData.depthAll as + 1 = depDs l + 1
    rw [h3]
  | .lst l, h => by
    unfold okD at h
    obtain ⟨as, h1, h2, h3⟩ := okDs_py l h
    refine ⟨.list as, by unfold toPy; rw [h1], h2, ?_⟩
    show PyData.depthAll as + 1 = depDs l + 1
    rw [h3]
  | .dct _, h => by unfold okD at h; cases h
  | .scr _, h => by unfold okD at h; cases h
  | .obj _, h => by unfold okD at h; cases h
theorem okDs_py : ∀ l : List DL.D, okDs l = true → ∃ as, toPys l = some as ∧ PyData.canLayAll0 as = true ∧ PyData.depthAll as = depDs l
  | [], _ => ⟨[], rfl, rfl, rfl⟩
  | d :: l, h => by
    unfold okDs at h
    rw [Bool.and_eq_true] at h
    obtain ⟨a, h1, h2, h3⟩ := okD_py d h.1
    obtain ⟨as, k1, k2, k3⟩ := okDs_py l h.2
    refine ⟨a :: as, by unfold toPys; rw [h1, k1], ?_, ?_⟩
    · show (a.canLay0 && PyData.canLayAll0 as) = true
      rw [h2, k2]; rfl
    · show max a.depth (PyData.depthAll as) = max (depD d) (depDs l)
      rw [h3, k3]
end
theorem eq_self (f : Bool → Bool) {d : DL.D} (h : okD d = true) (hd : depD d ≤ 64) : gEqS f d d = some (.val (.bl (f true))) := by
  obtain ⟨a, h1, h2, h3⟩ := okD_py d h
  have hs : SeqAt.shaped a = true := by
    unfold SeqAt.shaped
    rw [h2, h3, decide_eq_true hd]; rfl
  have key : gEqB f d d = some (.val (.bl (f true))) := by
    unfold gEqB
    rw [h1]
    simp only [hs, SeqAt.eqv_refl a h2]
    rfl
  cases d with
  | str x => rw [gEqS_s, beq_self_eq_true]
  | int i => rw [gEqS_i, beq_self_eq_true]
  | _ => exact key
theorem okDs_map {α : Type} (f : α → DL.D) (l : List α) (h : ∀ x ∈ l, okD (f x) = true) : okDs (l.map f) = true := by
  induction l with
  | nil => rfl
  | cons x l ih =>
    rw [List.map_cons, okDs, h x List.mem_cons_self, ih fun y hy => h y (List.mem_cons_of_mem _ hy)]; rfl
theorem depDs_map {α : Type} (f : α → DL.D) (n : Nat) (l : List α) (h : ∀ x ∈ l, depD (f x) ≤ n) : depDs (l.map f) ≤ n := by
  induction l with
  | nil => exact Nat.zero_le _
  | cons x l ih =>
    rw [List.map_cons, depDs]
    have := h x List.mem_cons_self
    have := ih fun y hy => h y (List.mem_cons_of_mem _ hy)
    omega
theorem ok_word {x : Str} (h : isWord x = true) : PyData.strOk x = true := lets_ok (word_lets h).1
theorem ops_ok (r : SR) : PyData.strOk r.op = true := by
  have ho : ∀ x, x ∈ [("num" : Str), "copy", "add", "make", "get", "put", "let", "same", "say", "give", "stir"] → PyData.strOk x = true := by decide +kernel
  cases r <;> exact ho _ (by simp [SR.op])
theorem sr_okD {r : SR} (h : r.wf) : okD r.toD = true ∧ depD r.toD = 1 := by
  obtain ⟨h1, h2⟩ := h
  have ho : ∀ x, x ∈ [("num" : Str), "copy", "add", "make", "get", "put", "let", "same", "say", "give", "stir"] → PyData.strOk x = true := by decide +kernel
  cases r <;> simp only [SR.kinds, List.forall_mem_cons, List.not_mem_nil, false_imp_iff, forall_const, and_true, implies_true] at h1 <;>
    simp only [SR.toD, okD, okDs, depD, depDs, Bool.and_true, Bool.and_eq_true, h1, ok_word, ho, List.mem_cons, true_or, or_true, and_self, Nat.max_self] <;> rfl
mutual
theorem row_okD : ∀ r : Row, r.wf → okD r.toD = true ∧ depD r.toD ≤ 1 + 2 * r.dep
  | .s r, h => by unfold Row.toD; have := sr_okD h; exact ⟨this.1, by rw [this.2]; omega⟩
  | .ife x a b, h => by
    unfold Row.wf at h
    obtain ⟨a1, a2⟩ := rows_okD a h.2.1
    obtain ⟨b1, b2⟩ := rows_okD b h.2.2
    have ho : PyData.strOk "if" = true := by decide +kernel
    unfold Row.toD
    simp only [okD, okDs, depD, depDs, ho, ok_word h.1, a1, b1, Bool.and_self, true_and, Row.dep]
    omega
  | .loop x b, h => by
    unfold Row.wf at h
    obtain ⟨b1, b2⟩ := rows_okD b h.2
    have ho : PyData.strOk "loop" = true := by decide +kernel
    unfold Row.toD
    simp only [okD, okDs, depD, depDs, ho, ok_word h.1, b1, Bool.and_self, true_and, Row.dep]
    omega
theorem rows_okD : ∀ b : List Row, wfB b → okDs (toDs b) = true ∧ depDs (toDs b) ≤ 1 + 2 * deps b
  | [], _ => ⟨rfl, by unfold toDs depDs; omega⟩
  | r :: b, h => by
    unfold wfB at h
    obtain ⟨a1, a2⟩ := row_okD r h.1
    obtain ⟨b1, b2⟩ := rows_okD b h.2
    unfold toDs
    simp only [okDs, depDs, deps, a1, b1, Bool.and_self, true_and]
    omega
end
theorem Prog.okD_ {p : Prog} (w : p.wf) : okD p.toD = true ∧ depD p.toD ≤ 64 := by
  obtain ⟨b1, b2⟩ := rows_okD p.b w.wb
  have h1 : okDs (p.ps.map .str) = true := okDs_map _ _ fun x hx => ok_word (w.word x hx)
  have h2 : depDs (p.ps.map .str) ≤ 0 := depDs_map _ 0 _ fun x _ => Nat.le_refl _
  have hd := w.dep
  unfold Prog.toD bD
  simp only [okD, okDs, depD, depDs, h1, b1, Bool.and_self, true_and]
  omega
theorem prog_eq (f : Bool → Bool) {p : Prog} (w : p.wf) : gEqS f p.toD p.toD = some (.val (.bl (f true))) := eq_self f (Prog.okD_ w).1 (Prog.okD_ w).2
end TA
set_option maxRecDepth 100000
set_option maxHeartbeats 8000000
namespace TA
open PySem PySem.Spec L2 DL
abbrev M_is_word : Mir := m_is_word
abbrev M_is_whole : Mir := m_is_whole
abbrev M_is_part : Mir := Mpart
abbrev M_blocks_of : Mir := m_blocks_of
abbrev M_kinds_of : Mir := m_kinds_of
abbrev M_reads : Mir := m_reads m_kinds_of
abbrev M_sets : Mir := m_sets
abbrev M_is_program : Mir := Mprog
abbrev M__law_cell_at : Mir := m__law_cell_at
abbrev M__law_mixed : Mir := m__law_mixed m__law_cell_at
abbrev M__law_draw : Mir := Mdraw
abbrev M__law_pick : Mir := Mpick
abbrev M__law_simple : Mir := Msimple
abbrev M__law_names : Mir := Mnames
abbrev M__law_program : Mir := Mlawprog
def M_need_program : Mir := m_need_program Mprog
theorem need_ok {p : Prog} (w : p.wf) (h : progB p = true) : M_need_program [p.toD] = some (.val .non, []) := by
  have e := prog_ok w
  rw [h] at e
  unfold M_need_program
  rw [mk_need_program]
  unfold fs_need_program
  simp only [EV, EVT, EVC, EVY, LST, ↓reduceIte, Nat.reduceAdd, Nat.reduceSub, Nat.reduceLeDiff, Nat.reduceLT, Nat.reduceEqDiff, Nat.reduceBEq, Int.reduceLT, Int.reduceAdd, Int.reduceBNe, Int.reduceLE, Int.reduceEq, Int.reduceBEq, Bool.false_eq_true, reduceCtorEq, sizeLine_eq, decide_true, decide_false, decide_eq_true_eq, true_and, and_true, and_self, e]
def plD (l : List Int) : DL.D := .tup (l.map .int)
mutual
def rowsR : Row → List Int → List (Row × List Int)
  | .s _, _ => []
  | .ife _ a b, pl => rowsB 0 a (pl ++ [0]) ++ rowsB 0 b (pl ++ [1])
  | .loop _ b, pl => rowsB 0 b (pl ++ [0])
def rowsB : Nat → List Row → List Int → List (Row × List Int)
  | _, [], _ => []
  | i, r :: rs, pl => (r, pl ++ [(i : Int)]) :: (rowsR r (pl ++ [(i : Int)]) ++ rowsB (i + 1) rs pl)
end
def rpD (q : Row × List Int) : DL.D := .tup [q.1.toD, plD q.2]
mutual
theorem rowsR_len : ∀ (r : Row) (pl : List Int), (rowsR r pl).length + 1 = r.cnt
  | .s _, _ => by simp [rowsR, Row.cnt]
  | .ife _ a b, pl => by
    have h1 := rowsB_len a 0 (pl ++ [0])
    have h2 := rowsB_len b 0 (pl ++ [1])
    simp only [rowsR, Row.cnt, List.length_append]; omega
  | .loop _ b, pl => by
    have h1 := rowsB_len b 0 (pl ++ [0])
    simp only [rowsR, Row.cnt]; omega
theorem rowsB_len : ∀ (b : List Row) (i : Nat) (pl : List Int), (rowsB i b pl).length = cnts b
  | [], _, _ => by simp [rowsB, cnts]
  | r :: b, i, pl => by
    have h1 := rowsR_len r (pl ++ [(i : Int)])
    have h2 := rowsB_len b (i + 1) pl
    simp only [rowsB, cnts, List.length_cons, List.length_append]; omega
end
def Rrows : Nat → Mir
  | 0 => fun _ => none
  | n + 1 => m_rows_in m_blocks_of (Rrows n)
theorem enumD_map {α : Type} (f : α → DL.D) : ∀ (l : List α) (i : Nat), enumD i (l.map f) = (l.zipIdx i).map fun p => .tup [.int (p.2 : Nat), f p.1]
  | [], _ => rfl
  | x :: l, i => by rw [List.map_cons, enumD, enumD_map f l (i + 1)]; rfl
theorem app_rp (acc l : List (Row × List Int)) : acc.map rpD ++ l.map rpD = (acc ++ l).map rpD := by rw [List.map_append]
theorem plD_app (pl l : List Int) : pl.map DL.D.int ++ l.map DL.D.int = (pl ++ l).map .int := by rw [List.map_append]
theorem rows_turn {n : Nat} {R0 : S} {i : Nat} {r : Row} {pl : List Int} {acc : List (Row × List Int)} (hp : pl.length ≤ 1000) (ha : acc.length + r.cnt ≤ 16000000)
    (ih : ∀ b ∈ r.parts, ∀ pl' : List Int, pl'.length = pl.length + 2 → Rrows n [bD b, plD pl'] = some (.new (.lst ((rowsB 0 b pl').map rpD)), [])) :
    bO (fgTup 2 (fgCons (fgName 3) (fgCons (fgName 4) fgNil)) (.tup [.int (i : Nat), r.toD]) [R0, .val (plD pl), .own false (.lst (acc.map rpD)), .unset, .unset, .unset, .unset]) (lb1_rows_in m_blocks_of (Rrows n)) =
      some (.nx [R0, .val (plD pl), .own false (.lst ((acc ++ ((r, pl ++ [(i : Int)]) :: rowsR r (pl ++ [(i : Int)]))).map rpD)), .unset, .unset, .unset, .unset]) := by
  have c1 : 1 ≤ r.cnt := by cases r <;> simp [Row.cnt]
  have s1 : acc.length < 16777216 := by omega
  have s2 : pl.length + 1 ≤ 16777216 := by omega
  have e1 : gAdd (plD pl) (.tup [.int (i : Nat)]) = some (.val (plD (pl ++ [(i : Int)]))) := by
    simp only [plD, EV, EVT, EVC, EVY, LST, ↓reduceIte, Nat.reduceAdd, Nat.reduceSub, Nat.reduceLeDiff, Nat.reduceLT, Nat.reduceEqDiff, Nat.reduceBEq, Int.reduceLT, Int.reduceAdd, Int.reduceBNe, Int.reduceLE, Int.reduceEq, Int.reduceBEq, Bool.false_eq_true, reduceCtorEq, sizeLine_eq, decide_true, decide_false, decide_eq_true_eq, true_and, and_true, and_self, List.length_map, s2, List.map_append]
  have e2 : ∀ k : Int, gAdd (plD pl) (.tup [.int (i : Nat), .int k]) = some (.val (plD (pl ++ [(i : Int)] ++ [k]))) := fun k => by
    have s3 : pl.length + (0 + 1 + 1) ≤ 16777216 := by omega
    simp only [plD, EV, EVT, EVC, EVY, LST, ↓reduceIte, Nat.reduceAdd, Nat.reduceSub, Nat.reduceLeDiff, Nat.reduceLT, Nat.reduceEqDiff, Nat.reduceBEq, Int.reduceLT, Int.reduceAdd, Int.reduceBNe, Int.reduceLE, Int.reduceEq, Int.reduceBEq, Bool.false_eq_true, reduceCtorEq, sizeLine_eq, decide_true, decide_false, decide_eq_true_eq, true_and, and_true, and_self, List.length_map, s3, List.map_append, List.append_assoc]
  have e3 : acc.map rpD ++ [.tup [r.toD, plD (pl ++ [(i : Int)])]] = (acc ++ [(r, pl ++ [(i : Int)])]).map rpD := by rw [List.map_append]; rfl
  have l1 : (pl ++ [(i : Int)]).length = pl.length + 1 := by simp
  cases r with
  | s r =>
    simp only [lb1_rows_in, lp0_rows_in, EV, EVT, EVC, EVY, LST, ↓reduceIte, Nat.reduceAdd, Nat.reduceSub, Nat.reduceLeDiff, Nat.reduceLT, Nat.reduceEqDiff, Nat.reduceBEq, Int.reduceLT, Int.reduceAdd, Int.reduceBNe, Int.reduceLE, Int.reduceEq, Int.reduceBEq, Bool.false_eq_true, reduceCtorEq, sizeLine_eq, decide_true, decide_false, decide_eq_true_eq, true_and, and_true, and_self, List.length_map, s1, e1, e3, blocks_ok, Row.parts, enumD, rowsR]
  | ife x a b =>
    have i1 := ih a (by simp [Row.parts]) (pl ++ [(i : Int)] ++ [0]) (by simp)
    have i2 := ih b (by simp [Row.parts]) (pl ++ [(i : Int)] ++ [1]) (by simp)
    simp only [Row.cnt] at ha
    have r1 := rowsB_len a 0 (pl ++ [(i : Int)] ++ [0])
    have r2 := rowsB_len b 0 (pl ++ [(i : Int)] ++ [1])
    have s3 : (acc ++ [(Row.ife x a b, pl ++ [(i : Int)])]).length + (rowsB 0 a (pl ++ [(i : Int)] ++ [0])).length ≤ 16777216 := by simp only [List.length_append, List.length_singleton]; omega
    have s4 : (acc ++ [(Row.ife x a b, pl ++ [(i : Int)])] ++ rowsB 0 a (pl ++ [(i : Int)] ++ [0])).length + (rowsB 0 b (pl ++ [(i : Int)] ++ [1])).length ≤ 16777216 := by simp only [List.length_append, List.length_singleton]; omega
    have c0 : ((0 : Nat) : Int) = 0 := rfl
    have c1 : ((0 + 1 : Nat) : Int) = 1 := rfl
    simp only [lb1_rows_in, lp0_rows_in, EV, EVT, EVC, EVY, LST, ↓reduceIte, Nat.reduceAdd, Nat.reduceSub, Nat.reduceLeDiff, Nat.reduceLT, Nat.reduceEqDiff, Nat.reduceBEq, Int.reduceLT, Int.reduceAdd, Int.reduceBNe, Int.reduceLE, Int.reduceEq, Int.reduceBEq, Bool.false_eq_true, reduceCtorEq, sizeLine_eq, decide_true, decide_false, decide_eq_true_eq, true_and, and_true, and_self, List.length_map, s1, e1, e3, blocks_ok, Row.parts, enumD, lb0_rows_in, c0, c1, e2, i1, i2, s3, s4, app_rp, rowsR]
    simp only [List.append_assoc, List.singleton_append, List.cons_append, List.nil_append]
  | loop x b =>
    have i1 := ih b (by simp [Row.parts]) (pl ++ [(i : Int)] ++ [0]) (by simp)
    simp only [Row.cnt] at ha
    have r1 := rowsB_len b 0 (pl ++ [(i : Int)] ++ [0])
    have s3 : (acc ++ [(Row.loop x b, pl ++ [(i : Int)])]).length + (rowsB 0 b (pl ++ [(i : Int)] ++ [0])).length ≤ 16777216 := by simp only [List.length_append, List.length_singleton]; omega
    have c0 : ((0 : Nat) : Int) = 0 := rfl
    simp only [lb1_rows_in, lp0_rows_in, EV, EVT, EVC, EVY, LST, ↓reduceIte, Nat.reduceAdd, Nat.reduceSub, Nat.reduceLeDiff, Nat.reduceLT, Nat.reduceEqDiff, Nat.reduceBEq, Int.reduceLT, Int.reduceAdd, Int.reduceBNe, Int.reduceLE, Int.reduceEq, Int.reduceBEq, Bool.false_eq_true, reduceCtorEq, sizeLine_eq, decide_true, decide_false, decide_eq_true_eq, true_and, and_true, and_self, List.length_map, s1, e1, e3, blocks_ok, Row.parts, enumD, lb0_rows_in, c0, e2, i1, s3, app_rp, rowsR]
    simp only [List.append_assoc, List.singleton_append, List.cons_append, List.nil_append]
theorem rows_lp {n : Nat} {R0 : S} {pl : List Int} (hq : pl.length ≤ 1000) : ∀ (b : List Row) (i : Nat) (acc : List (Row × List Int)), acc.length + cnts b ≤ 16000000 →
    (∀ r ∈ b, ∀ p ∈ r.parts, ∀ pl' : List Int, pl'.length = pl.length + 2 → Rrows n [bD p, plD pl'] = some (.new (.lst ((rowsB 0 p pl').map rpD)), [])) →
    forL (fgTup 2 (fgCons (fgName 3) (fgCons (fgName 4) fgNil))) (lb1_rows_in m_blocks_of (Rrows n)) (enumD i (b.map Row.toD)) [R0, .val (plD pl), .own false (.lst (acc.map rpD)), .unset, .unset, .unset, .unset] =
      some (.nx [R0, .val (plD pl), .own false (.lst ((acc ++ rowsB i b pl).map rpD)), .unset, .unset, .unset, .unset])
  | [], i, acc, _, _ => by simp only [List.map_nil, enumD, EV, EVT, EVC, EVY, LST, ↓reduceIte, Nat.reduceAdd, Nat.reduceSub, Nat.reduceLeDiff, Nat.reduceLT, Nat.reduceEqDiff, Nat.reduceBEq, Int.reduceLT, Int.reduceAdd, Int.reduceBNe, Int.reduceLE, Int.reduceEq, Int.reduceBEq, Bool.false_eq_true, reduceCtorEq, sizeLine_eq, decide_true, decide_false, decide_eq_true_eq, true_and, and_true, and_self, rowsB, List.append_nil]
  | r :: b, i, acc, ha, ih => by
    rw [cnts] at ha
    have hl := rowsR_len r (pl ++ [(i : Int)])
    rw [List.map_cons, enumD, forL_c, rows_turn (by omega) (by omega) (ih r List.mem_cons_self), bL_nx, rows_lp hq b (i + 1) _ (by simp only [List.length_append, List.length_cons]; omega) fun r' hr' => ih r' (List.mem_cons_of_mem _ hr')]
    simp only [rowsB, List.append_assoc, List.cons_append]
theorem itD_b (b : List Row) : itemsOf (bD b) = some (b.map Row.toD) := by rw [bD, toDs_map]; rfl
theorem enumK_b (b : List Row) (ρ : Env') : enumK [bD b] ρ = some (enumD 0 (b.map Row.toD), ρ) := by rw [bD, toDs_map]; rfl
theorem rows_ok : ∀ (n : Nat) (b : List Row) (pl : List Int), deps b < n → cnts b ≤ 16000000 → pl.length + 2 * deps b ≤ 1000 → Rrows n [bD b, plD pl] = some (.new (.lst ((rowsB 0 b pl).map rpD)), [])
  | 0, _, _, h, _, _ => absurd h (Nat.not_lt_zero _)
  | n + 1, b, pl, h, hc, hp => by
    have L := rows_lp (n := n) (R0 := .val (bD b)) (pl := pl) (by omega) b 0 [] (by simpa using hc) fun r hr p hp' pl' hl' => by
      have := part_dep hp'; have := mem_dep hr
      exact rows_ok n p pl' (by omega) (by omega) (by omega)
    rw [List.map_nil, List.nil_append] at L
    show m_rows_in m_blocks_of (Rrows n) [bD b, plD pl] = _
    rw [mk_rows_in]
    unfold fs_rows_in lp1_rows_in
    simp only [EV, EVT, EVC, EVY, LST, ↓reduceIte, Nat.reduceAdd, Nat.reduceSub, Nat.reduceLeDiff, Nat.reduceLT, Nat.reduceEqDiff, Nat.reduceBEq, Int.reduceLT, Int.reduceAdd, Int.reduceBNe, Int.reduceLE, Int.reduceEq, Int.reduceBEq, Bool.false_eq_true, reduceCtorEq, sizeLine_eq, decide_true, decide_false, decide_eq_true_eq, true_and, and_true, and_self, enumK_b, L]
end TA
set_option maxRecDepth 100000
set_option maxHeartbeats 8000000
namespace TA
open PySem PySem.Spec L2 DL
abbrev GD := List (Str × List Str)
def lD (l : List Str) : DL.D := .lst (l.map .str)
def gD (g : GD) : List (Str × DL.D) := g.map fun p => (p.1, lD p.2)
def gget (g : GD) (x : Str) : Option (List Str) := (g.find? fun p => decide (p.1 = x)).map (·.2)
def gput (g : GD) (x : Str) (l : List Str) : GD := if (g.any fun p => decide (p.1 = x)) = true then g.map (fun p => if p.1 = x then (p.1, l) else p) else g ++ [(x, l)]
def gset (g : GD) (x : Str) : GD := match gget g x with
  | some _ => g
  | none => g ++ [(x, [x])]
theorem gD_get (x : Str) : ∀ g : GD, dget (gD g) x = (gget g x).map lD
  | [] => rfl
  | p :: g => by
    have ih := gD_get x g
    unfold dget gget gD at *
    rw [List.map_cons, List.find?_cons, List.find?_cons]
    by_cases h : p.1 = x
    · simp [h]
    · simp only [decide_eq_false h]
      exact ih
theorem gD_any (x : Str) (g : GD) : ((gD g).any fun kv => decide (kv.1 = x)) = g.any fun p => decide (p.1 = x) := by
  unfold gD; rw [List.any_map]; rfl
theorem gD_put (x : Str) (l : List Str) (g : GD) : dput (gD g) x (lD l) = gD (gput g x l) := by
  unfold dput gput
  rw [gD_any]
  split
  · unfold gD
    rw [List.map_map, List.map_map]
    apply List.map_congr_left
    intro p _
    show (if p.1 = x then (p.1, lD l) else (p.1, lD p.2)) = _
    by_cases h : p.1 = x <;> simp [h]
  · unfold gD; rw [List.map_append]; rfl
theorem gget_put (g : GD) (x y : Str) (l : List Str) : gget (gput g x l) y = if y = x then some l else gget g y := by
  induction g with
  | nil =>
    unfold gput gget
    by_cases h : y = x
    · subst h; simp
    · have h' : ¬ x = y := fun z => h z.symm
      simp [h, h']
  | cons p g ih =>
    unfold gput at ih ⊢
    rw [List.any_cons]
    by_cases hp : p.1 = x
    · simp only [hp, decide_true, Bool.true_or, if_true]
      unfold gget at ih ⊢
      rw [List.map_cons, List.find?_cons, List.find?_cons]
      by_cases h : y = x
      · subst h; simp [hp]
      · have h' : ¬ x = y := fun z => h z.symm
        simp only [hp, if_true, decide_eq_false h', h, if_false]
        clear ih
        induction g with
        | nil => rfl
        | cons q g ih2 =>
          rw [List.map_cons, List.find?_cons, List.find?_cons]
          by_cases hq : q.1 = x
          · simp only [hq, if_true, decide_eq_false h']
            exact ih2
          · simp only [hq, if_false]
            by_cases hy : q.1 = y
            · simp [hy]
            · simp only [decide_eq_false hy]; exact ih2
    · simp only [decide_eq_false hp, Bool.false_or]
      by_cases ha : (g.any fun p => decide (p.1 = x)) = true
      · rw [if_pos ha] at ih ⊢
        unfold gget at ih ⊢
        rw [List.map_cons, List.find?_cons, List.find?_cons]
        simp only [hp, if_false]
        by_cases hy : p.1 = y
        · have : ¬ y = x := fun z => hp (hy.trans z)
          simp [hy, this]
        · simp only [decide_eq_false hy]; exact ih
      · rw [if_neg ha] at ih ⊢
        unfold gget at ih ⊢
        rw [List.cons_append, List.find?_cons, List.find?_cons]
        by_cases hy : p.1 = y
        · have : ¬ y = x := fun z => hp (hy.trans z)
          simp [hy, this]
        · simp only [decide_eq_false hy]; exact ih
theorem gget_set (g : GD) (x y : Str) : gget (gset g x) y = if y = x then some ((gget g x).getD [x]) else gget g y := by
  unfold gset
  cases h : gget g x with
  | some l =>
    by_cases e : y = x
    · subst e; simp [h]
    · simp [e]
  | none =>
    have e1 : (g.any fun p => decide (p.1 = x)) = false := by
      unfold gget at h
      rw [Option.map_eq_none_iff, List.find?_eq_none] at h
      rw [List.any_eq_false]
      exact h
    have e2 : g ++ [(x, [x])] = gput g x [x] := by unfold gput; rw [e1, if_neg Bool.false_ne_true]
    dsimp only
    rw [e2, gget_put]
    rfl
theorem gput_len (g : GD) (x : Str) (l : List Str) : (gput g x l).length ≤ g.length + 1 := by
  unfold gput
  split
  · rw [List.length_map]; omega
  · rw [List.length_append, List.length_singleton]; omega
theorem gput_keys {g : GD} {x : Str} {l : List Str} (h : gget g x ≠ none) : (gput g x l).map (·.1) = g.map (·.1) := by
  unfold gput
  have : (g.any fun p => decide (p.1 = x)) = true := by
    rw [← Bool.not_eq_false]
    intro z
    apply h
    unfold gget
    rw [Option.map_eq_none_iff, List.find?_eq_none]
    rw [List.any_eq_false] at z
    exact z
  rw [if_pos this, List.map_map]
  apply List.map_congr_left
  intro p _
  show (if p.1 = x then (p.1, l) else p).1 = p.1
  split <;> rfl
theorem gget_mem {g : GD} {x : Str} : gget g x ≠ none ↔ x ∈ g.map (·.1) := by
  unfold gget
  rw [ne_eq, Option.map_eq_none_iff, List.find?_eq_none]
  constructor
  · intro h
    apply Classical.byContradiction
    intro z
    apply h
    intro p hp
    simp only [decide_eq_true_eq]
    intro e
    exact z (List.mem_map.mpr ⟨p, hp, e⟩)
  · intro h z
    obtain ⟨p, hp, e⟩ := List.mem_map.mp h
    have := z p hp
    simp only [decide_eq_true_eq] at this
    exact this e
/-- the names of things in a row -/
def hn : Row → List Str
  | .s (.make t _ _) => [t]
  | .s (.give t) => [t]
  | .s (.lets t u) => [t, u]
  | _ => []
def merge (g : GD) (l : List Str) : GD := l.foldl (fun g x => gput g x l) g
def hstep (g : GD) (r : Row) : GD :=
  let g1 := (hn r).foldl gset g
  match r with
  | .s (.lets t u) => (match gget g1 t, gget g1 u with
    | some a, some b => if a = b then g1 else merge g1 (a ++ b)
    | _, _ => g1)
  | _ => g1
theorem merge_get (g : GD) (l : List Str) (y : Str) : gget (merge g l) y = if y ∈ l then some l else gget g y := by
  have key : ∀ (m : List Str) (g : GD), gget (m.foldl (fun g x => gput g x l) g) y = if y ∈ m then some l else gget g y := by
    intro m
    induction m with
    | nil => intro g; simp
    | cons x m ih =>
      intro g
      rw [List.foldl_cons, ih, gget_put]
      by_cases h1 : y ∈ m
      · simp [h1]
      · by_cases h2 : y = x <;> simp [h1, h2]
  exact key l g
def Closed (E : List (Str × Str)) (S : Str → Prop) : Prop := ∀ p ∈ E, S p.1 ↔ S p.2
def Conn (E : List (Str × Str)) (x y : Str) : Prop := ∀ S : Str → Prop, Closed E S → S x → S y
theorem Conn.refl {E : List (Str × Str)} {x : Str} : Conn E x x := fun _ _ h => h
theorem Conn.trans {E : List (Str × Str)} {x y z : Str} (a : Conn E x y) (b : Conn E y z) : Conn E x z := fun S c h => b S c (a S c h)
theorem Conn.symm {E : List (Str × Str)} {x y : Str} (a : Conn E x y) : Conn E y x := fun S c h =>
  Classical.byContradiction fun n => a (fun z => ¬ S z) (fun p hp => not_congr (c p hp)) n h
theorem Conn.more {E F : List (Str × Str)} {x y : Str} (a : Conn E x y) (h : ∀ p ∈ E, p ∈ F) : Conn F x y := fun S c => a S fun p hp => c p (h p hp)
theorem Conn.edge {E : List (Str × Str)} {x y : Str} (h : (x, y) ∈ E) : Conn E x y := fun S c hx => (c _ h).mp hx
def edge : Row → List (Str × Str)
  | .s (.lets t u) => [(t, u)]
  | _ => []
/-- the groups are the classes -/
structure HI (U : List Str) (E : List (Str × Str)) (g : GD) : Prop where
  nd : (g.map (·.1)).Nodup
  ku : ∀ x, gget g x ≠ none → x ∈ U
  me : ∀ x l, gget g x = some l → x ∈ l ∧ l.Nodup ∧ ∀ y ∈ l, gget g y = some l
  so : ∀ x l, gget g x = some l → ∀ y ∈ l, Conn E x y
  ed : ∀ p ∈ E, ∃ m, gget g p.1 = some m ∧ gget g p.2 = some m
theorem HI.conn {U : List Str} {E : List (Str × Str)} {g : GD} (h : HI U E g) {x : Str} {l : List Str} (e : gget g x = some l) (y : Str) : y ∈ l ↔ Conn E x y := by
  refine ⟨h.so x l e y, fun c => c (· ∈ l) (fun p hp => ?_) (h.me x l e).1⟩
  obtain ⟨m, h1, h2⟩ := h.ed p hp
  constructor
  · intro z
    have := (h.me x l e).2.2 _ z
    rw [h1] at this
    cases this
    exact (h.me _ _ h2).1
  · intro z
    have := (h.me x l e).2.2 _ z
    rw [h2] at this
    cases this
    exact (h.me _ _ h1).1
theorem sub_len : ∀ (l m : List Str), l.Nodup → (∀ x ∈ l, x ∈ m) → l.length ≤ m.length := by
  intro l
  induction l with
  | nil => intro m _ _; exact Nat.zero_le _
  | cons x l ih =>
    intro m hd hs
    have hx := hs x List.mem_cons_self
    have := ih (m.erase x) (List.nodup_cons.mp hd).2 fun y hy => by
      have hne : y ≠ x := fun e => (List.nodup_cons.mp hd).1 (e ▸ hy)
      exact (List.mem_erase_of_ne hne).mpr (hs y (List.mem_cons_of_mem _ hy))
    rw [List.length_erase_of_mem hx] at this
    have : 0 < m.length := List.length_pos_of_mem hx
    rw [List.length_cons]; omega
theorem HI.len {U : List Str} {E : List (Str × Str)} {g : GD} (h : HI U E g) : g.length ≤ U.length := by
  have := sub_len (g.map (·.1)) U h.nd fun x hx => h.ku x (gget_mem.mpr hx)
  rwa [List.length_map] at this
theorem HI.llen {U : List Str} {E : List (Str × Str)} {g : GD} (h : HI U E g) {x : Str} {l : List Str} (e : gget g x = some l) : l.length ≤ U.length := by
  obtain ⟨_, h2, h3⟩ := h.me x l e
  exact sub_len l U h2 fun y hy => h.ku y (by rw [h3 y hy]; exact fun z => nomatch z)
theorem HI.nil {U : List Str} : HI U [] [] := ⟨List.nodup_nil, fun x h => absurd rfl h, fun x l e => (nomatch e), fun x l e => (nomatch e), fun p hp => nomatch hp⟩
theorem HI.set {U : List Str} {E : List (Str × Str)} {g : GD} (h : HI U E g) {x : Str} (hx : x ∈ U) : HI U E (gset g x) := by
  cases q : gget g x with
  | some l => have : gset g x = g := by unfold gset; rw [q]
              rw [this]; exact h
  | none =>
    have gg : ∀ y, gget (gset g x) y = if y = x then some [x] else gget g y := fun y => by rw [gget_set, q]; rfl
    have notin : ∀ y l, gget g y = some l → x ∉ l := fun y l e hxl => by
      have := (h.me y l e).2.2 x hxl
      rw [q] at this; cases this
    refine ⟨?_, fun y hy => ?_, fun y l e => ?_, fun y l e z hz => ?_, fun p hp => ?_⟩
    · have : gset g x = g ++ [(x, [x])] := by unfold gset; rw [q]
      rw [this, List.map_append, List.nodup_append]
      refine ⟨h.nd, by simp, fun a ha b hb e => ?_⟩
      have hb : b = x := by simpa using hb
      subst hb e
      exact absurd q (gget_mem.mpr ha)
    · rw [gg] at hy
      by_cases e : y = x
      · rw [e]; exact hx
      · rw [if_neg e] at hy; exact h.ku y hy
    · rw [gg] at e
      by_cases e1 : y = x
      · rw [if_pos e1] at e
        cases e
        subst e1
        refine ⟨by simp, by simp, fun z hz => ?_⟩
        have : z = y := by simpa using hz
        rw [this, gg, if_pos rfl]
      · rw [if_neg e1] at e
        obtain ⟨h1, h2, h3⟩ := h.me y l e
        refine ⟨h1, h2, fun z hz => ?_⟩
        have hzx : ¬ z = x := fun e' => notin y l e (by rw [← e']; exact hz)
        rw [gg, if_neg hzx]
        exact h3 z hz
    · rw [gg] at e
      by_cases e1 : y = x
      · rw [if_pos e1] at e
        cases e
        have : z = x := by simpa using hz
        rw [e1, this]; exact .refl
      · rw [if_neg e1] at e
        exact h.so y l e z hz
    · obtain ⟨m, h1, h2⟩ := h.ed p hp
      refine ⟨m, ?_, ?_⟩
      · rw [gg, if_neg (fun e => by rw [e, q] at h1; cases h1)]; exact h1
      · rw [gg, if_neg (fun e => by rw [e, q] at h2; cases h2)]; exact h2
theorem merge_keys {g : GD} {l : List Str} (h : ∀ y ∈ l, gget g y ≠ none) : (merge g l).map (·.1) = g.map (·.1) := by
  have key : ∀ (m : List Str) (g : GD), (∀ y ∈ m, gget g y ≠ none) → (m.foldl (fun g x => gput g x l) g).map (·.1) = g.map (·.1) := by
    intro m
    induction m with
    | nil => intro g _; rfl
    | cons x m ih =>
      intro g k
      rw [List.foldl_cons, ih _ fun y hy => ?_, gput_keys (k x List.mem_cons_self)]
      rw [gget_put]
      split
      · exact fun z => nomatch z
      · exact k y (List.mem_cons_of_mem _ hy)
  exact key l g h
theorem HI.join {U : List Str} {E : List (Str × Str)} {g : GD} (h : HI U E g) {t u : Str} {a b : List Str} (ha : gget g t = some a) (hb : gget g u = some b) (hab : a ≠ b) : HI U (E ++ [(t, u)]) (merge g (a ++ b)) := by
  obtain ⟨a1, a2, a3⟩ := h.me t a ha
  obtain ⟨b1, b2, b3⟩ := h.me u b hb
  have dis : ∀ y ∈ a, y ∉ b := fun y hy hz => by
    have := a3 y hy
    rw [b3 y hz] at this
    exact hab (Option.some.inj this).symm
  have hk : ∀ y ∈ a ++ b, gget g y ≠ none := fun y hy => by
    rcases List.mem_append.mp hy with z | z
    · rw [a3 y z]; exact fun z => nomatch z
    · rw [b3 y z]; exact fun z => nomatch z
  have sub : ∀ p ∈ E, p ∈ E ++ [(t, u)] := fun p hp => List.mem_append_left _ hp
  have ce : Conn (E ++ [(t, u)]) t u := .edge (by simp)
  refine ⟨by rw [merge_keys hk]; exact h.nd, fun x hx => ?_, fun x l e => ?_, fun x l e y hy => ?_, fun p hp => ?_⟩
  · rw [merge_get] at hx
    by_cases q : x ∈ a ++ b
    · exact h.ku x (hk x q)
    · rw [if_neg q] at hx; exact h.ku x hx
  · rw [merge_get] at e
    by_cases q : x ∈ a ++ b
    · rw [if_pos q] at e
      cases e
      refine ⟨q, ?_, fun y hy => by rw [merge_get, if_pos hy]⟩
      rw [List.nodup_append]
      exact ⟨a2, b2, fun y hy z hz e => dis y hy (e ▸ hz)⟩
    · rw [if_neg q] at e
      obtain ⟨h1, h2, h3⟩ := h.me x l e
      refine ⟨h1, h2, fun y hy => ?_⟩
      rw [merge_get, if_neg]
      · exact h3 y hy
      · intro z
        have e1 := h3 y hy
        rcases List.mem_append.mp z with z | z
        · rw [a3 y z] at e1; cases e1; exact q (List.mem_append_left _ h1)
        · rw [b3 y z] at e1; cases e1; exact q (List.mem_append_right _ h1)
  · rw [merge_get] at e
    by_cases q : x ∈ a ++ b
    · rw [if_pos q] at e
      cases e
      have to : ∀ z ∈ a ++ b, Conn (E ++ [(t, u)]) t z := fun z hz => by
        rcases List.mem_append.mp hz with hz | hz
        · exact (h.so t a ha z hz).more sub
        · exact ce.trans ((h.so u b hb z hz).more sub)
      exact (to x q).symm.trans (to y hy)
    · rw [if_neg q] at e
      exact (h.so x l e y hy).more sub
  · rcases List.mem_append.mp hp with hp | hp
    · obtain ⟨m, h1, h2⟩ := h.ed p hp
      by_cases q : p.1 ∈ a ++ b
      · refine ⟨a ++ b, by rw [merge_get, if_pos q], ?_⟩
        rw [merge_get, if_pos]
        have p2 := (h.me _ _ h2).1
        rcases List.mem_append.mp q with z | z
        · rw [a3 _ z] at h1; cases h1; exact List.mem_append_left _ p2
        · rw [b3 _ z] at h1; cases h1; exact List.mem_append_right _ p2
      · refine ⟨m, by rw [merge_get, if_neg q]; exact h1, ?_⟩
        rw [merge_get, if_neg]
        · exact h2
        · intro z
          have p1 := (h.me _ _ h1).1
          rcases List.mem_append.mp z with z | z
          · rw [a3 _ z] at h2; cases h2; exact q (List.mem_append_left _ p1)
          · rw [b3 _ z] at h2; cases h2; exact q (List.mem_append_right _ p1)
    · have : p = (t, u) := by simpa using hp
      subst this
      exact ⟨a ++ b, by rw [merge_get, if_pos (List.mem_append_left _ a1)], by rw [merge_get, if_pos (List.mem_append_right _ b1)]⟩
theorem HI.sets {U : List Str} {E : List (Str × Str)} : ∀ (l : List Str) (g : GD), HI U E g → (∀ x ∈ l, x ∈ U) → HI U E (l.foldl gset g)
  | [], g, h, _ => h
  | x :: l, g, h, k => HI.sets l _ (h.set (k x List.mem_cons_self)) fun y hy => k y (List.mem_cons_of_mem _ hy)
theorem sets_has : ∀ (l : List Str) (g : GD) (x : Str), x ∈ l ∨ gget g x ≠ none → gget (l.foldl gset g) x ≠ none
  | [], g, x, h => h.elim (fun z => nomatch z) id
  | y :: l, g, x, h => by
    rw [List.foldl_cons]
    apply sets_has l
    by_cases e : x = y
    · right; rw [gget_set, if_pos e]; exact fun z => nomatch z
    · rcases h with h | h
      · rcases List.mem_cons.mp h with h | h
        · exact absurd h e
        · exact .inl h
      · right; rw [gget_set, if_neg e]; exact h
theorem HI.step {U : List Str} {E : List (Str × Str)} {g : GD} (h : HI U E g) (r : Row) (k : ∀ x ∈ hn r, x ∈ U) : HI U (E ++ edge r) (hstep g r) := by
  have h1 := HI.sets (hn r) g h k
  have triv : ∀ g', HI U E g' → edge r = [] → HI U (E ++ edge r) g' := fun g' h e => by rw [e, List.append_nil]; exact h
  unfold hstep
  dsimp only
  rcases r with r | _ | _
  · cases r with
    | lets t u =>
      dsimp only
      have e1 := sets_has (hn (.s (.lets t u))) g t (.inl (by simp [hn]))
      have e2 := sets_has (hn (.s (.lets t u))) g u (.inl (by simp [hn]))
      cases q1 : gget ((hn (.s (.lets t u))).foldl gset g) t with
      | none => exact absurd q1 e1
      | some a =>
        cases q2 : gget ((hn (.s (.lets t u))).foldl gset g) u with
        | none => exact absurd q2 e2
        | some b =>
          dsimp only
          by_cases hab : a = b
          · rw [if_pos hab]
            subst hab
            refine ⟨h1.nd, h1.ku, h1.me, fun x l e y hy => (h1.so x l e y hy).more fun p hp => List.mem_append_left _ hp, fun p hp => ?_⟩
            rcases List.mem_append.mp hp with hp | hp
            · exact h1.ed p hp
            · have : p = (t, u) := by simpa [edge] using hp
              subst this
              exact ⟨a, q1, q2⟩
          · rw [if_neg hab]
            exact h1.join q1 q2 hab
    | _ => exact triv _ h1 rfl
  · exact triv _ h1 rfl
  · exact triv _ h1 rfl
theorem hstep_has {g : GD} {r : Row} {x : Str} (h : x ∈ hn r ∨ gget g x ≠ none) : gget (hstep g r) x ≠ none := by
  have h1 := sets_has (hn r) g x h
  unfold hstep
  dsimp only
  rcases r with r | _ | _
  · cases r with
    | lets t u =>
      dsimp only
      split
      · split
        · exact h1
        · rw [merge_get]; split
          · exact fun z => nomatch z
          · exact h1
      · exact h1
    | _ => exact h1
  · exact h1
  · exact h1
def groupsT (rows : List (Row × List Int)) : GD := rows.foldl (fun g q => hstep g q.1) []
def edges (rows : List (Row × List Int)) : List (Str × Str) := rows.flatMap fun q => edge q.1
theorem HI.all {U : List Str} : ∀ (rows : List (Row × List Int)) (E : List (Str × Str)) (g : GD), HI U E g → (∀ q ∈ rows, ∀ x ∈ hn q.1, x ∈ U) → HI U (E ++ edges rows) (rows.foldl (fun g q => hstep g q.1) g)
  | [], E, g, h, _ => by simpa [edges] using h
  | q :: rows, E, g, h, k => by
    have := HI.all rows _ _ (h.step q.1 (k q List.mem_cons_self)) fun p hp => k p (List.mem_cons_of_mem _ hp)
    rw [List.foldl_cons]
    unfold edges at *
    rw [List.flatMap_cons, ← List.append_assoc]
    exact this
theorem groups_has : ∀ (rows : List (Row × List Int)) (g : GD) (x : Str), ((∃ q ∈ rows, x ∈ hn q.1) ∨ gget g x ≠ none) → gget (rows.foldl (fun g q => hstep g q.1) g) x ≠ none
  | [], g, x, h => h.elim (fun ⟨q, hq, _⟩ => nomatch hq) id
  | q :: rows, g, x, h => by
    rw [List.foldl_cons]
    apply groups_has rows
    rcases h with ⟨p, hp, hx⟩ | h
    · rcases List.mem_cons.mp hp with rfl | hp
      · exact .inr (hstep_has (.inl hx))
      · exact .inl ⟨p, hp, hx⟩
    · exact .inr (hstep_has (.inr h))
end TA
set_option maxRecDepth 100000
set_option maxHeartbeats 8000000
namespace TA
open PySem PySem.Spec L2 DL
theorem EVX : (∀ d : DL.D, inF d [] = false) ∧ (∀ (d x : DL.D) (l : List DL.D), inF d (x :: l) = (eqF x d || inF d l)) ∧ (∀ x y : Str, eqF (.str x) (.str y) = (x == y)) ∧ (∀ x y : Int, eqF (.int x) (.int y) = (x == y)) ∧
  (List.all [] flatD = true) ∧ (∀ (x : DL.D) (l : List DL.D), (x :: l).all flatD = (flatD x && l.all flatD)) ∧ (∀ x : Str, flatD (.str x) = true) ∧ (∀ x : Int, flatD (.int x) = true) ∧ (flatD .non = true) ∧ (∀ b : Bool, flatD (.bl b) = true) ∧
  ((true == true) = true) ∧ ((true == false) = false) ∧ ((false == true) = false) ∧ ((false == false) = true) ∧
  (∀ (x y z : DL.D), cutG [x, y, z] (some 1) (some 3) = [y, z]) :=
  ⟨fun _ => rfl, fun _ _ _ => rfl, fun _ _ => rfl, fun _ _ => rfl, rfl, fun _ _ => rfl, fun _ => rfl, fun _ => rfl, rfl, fun _ => rfl, rfl, rfl, rfl, rfl, fun _ _ _ => rfl⟩
theorem eqv_strs : ∀ a b : List Str, PyData.eqvAll (a.map PyData.str) (b.map PyData.str) = decide (a = b)
  | [], [] => rfl
  | [], y :: b => by simp [PyData.eqvAll]
  | x :: a, [] => by simp [PyData.eqvAll]
  | x :: a, y :: b => by
    show (PyData.eqv (.str x) (.str y) && PyData.eqvAll (a.map PyData.str) (b.map PyData.str)) = _
    rw [eqv_strs a b]
    show ((x == y) && decide (a = b)) = decide (x :: a = y :: b)
    by_cases h1 : x = y <;> by_cases h2 : a = b <;> simp [h1, h2]
theorem eq_lD (f : Bool → Bool) {a b : List Str} (ha : ∀ x ∈ a, PyData.strOk x = true) (hb : ∀ x ∈ b, PyData.strOk x = true) : gEqS f (lD a) (lD b) = some (.val (.bl (f (decide (a = b))))) := by
  show gEqB f (.lst (a.map .str)) (.lst (b.map .str)) = _
  unfold gEqB
  have e : ∀ l : List Str, toPy (.lst (l.map .str)) = some (.list (l.map PyData.str)) := fun l => by unfold toPy; rw [toPys_strs]
  have s : ∀ l : List Str, (∀ x ∈ l, PyData.strOk x = true) → SeqAt.shaped (.list (l.map PyData.str)) = true := fun l h => by
    show (PyData.canLayAll0 (l.map PyData.str) && decide (PyData.depthAll (l.map PyData.str) + 1 ≤ 64)) = true
    rw [canLay_strs h, depth_strs]
    rfl
  rw [e, e]
  simp only [s a ha, s b hb, Bool.and_self, if_true]
  show some (R.val (DL.D.bl (f (PyData.eqvAll (a.map PyData.str) (b.map PyData.str))))) = _
  rw [eqv_strs]
theorem setd_g {g : GD} (x : Str) (h : g.length < 16777216) : mSetd (gD g) x (.lst [.str x]) = some (lD ((gget g x).getD [x]), gD (gset g x)) := by
  have hl : (gD g).length < 16777216 := by unfold gD; rw [List.length_map]; exact h
  unfold gset
  cases q : gget g x with
  | some l =>
    have q1 : dget (gD g) x = some (lD l) := by rw [gD_get, q]; rfl
    simp only [EVX, EV, EVT, EVC, EVY, LST, ↓reduceIte, Nat.reduceAdd, Nat.reduceSub, Nat.reduceLeDiff, Nat.reduceLT, Nat.reduceEqDiff, Nat.reduceBEq, Int.reduceLT, Int.reduceAdd, Int.reduceBNe, Int.reduceLE, Int.reduceEq, Int.reduceBEq, Bool.false_eq_true, reduceCtorEq, sizeLine_eq, decide_true, decide_false, decide_eq_true_eq, true_and, and_true, and_self, q1, hl]
  | none =>
    have q1 : dget (gD g) x = none := by rw [gD_get, q]; rfl
    have q2 : gD g ++ [(x, .lst [.str x])] = gD (g ++ [(x, [x])]) := by unfold gD; rw [List.map_append]; rfl
    simp only [EVX, EV, EVT, EVC, EVY, LST, ↓reduceIte, Nat.reduceAdd, Nat.reduceSub, Nat.reduceLeDiff, Nat.reduceLT, Nat.reduceEqDiff, Nat.reduceBEq, Int.reduceLT, Int.reduceAdd, Int.reduceBNe, Int.reduceLE, Int.reduceEq, Int.reduceBEq, Bool.false_eq_true, reduceCtorEq, sizeLine_eq, decide_true, decide_false, decide_eq_true_eq, true_and, and_true, and_self, q1, hl, dput_new _ q1, q2]
    rfl
theorem hold_lp0 {U : List Str} {E : List (Str × Str)} {R0 s2 s3 s4 : S} (hU : U.length ≤ 1000) : ∀ (l : List Str) (g : GD), HI U E g → (∀ x ∈ l, x ∈ U) →
    forL (fgName 5) lb0_holders (l.map .str) [R0, .own false (.dct (gD g)), s2, s3, s4, .unset, .unset] = some (.nx [R0, .own false (.dct (gD (l.foldl gset g))), s2, s3, s4, .unset, .unset])
  | [], g, _, _ => rfl
  | x :: l, g, h, k => by
    have hl := h.len
    have hs := setd_g x (show g.length < 16777216 by omega)
    rw [mSetd_e] at hs
    have ih := hold_lp0 (R0 := R0) (s2 := s2) (s3 := s3) (s4 := s4) hU l _ (h.set (k x List.mem_cons_self)) fun y hy => k y (List.mem_cons_of_mem _ hy)
    have st : bO (fgName 5 (.str x) [R0, .own false (.dct (gD g)), s2, s3, s4, .unset, .unset]) lb0_holders = some (.nx [R0, .own false (.dct (gD (gset g x))), s2, s3, s4, .unset, .unset]) := by
      simp only [lb0_holders, EVX, EV, EVT, EVC, EVY, LST, ↓reduceIte, Nat.reduceAdd, Nat.reduceSub, Nat.reduceLeDiff, Nat.reduceLT, Nat.reduceEqDiff, Nat.reduceBEq, Int.reduceLT, Int.reduceAdd, Int.reduceBNe, Int.reduceLE, Int.reduceEq, Int.reduceBEq, Bool.false_eq_true, reduceCtorEq, sizeLine_eq, decide_true, decide_false, decide_eq_true_eq, true_and, and_true, and_self, hs]
    rw [List.map_cons, forL_c, st, bL_nx, ih]
    rfl
theorem hold_lp1 {R0 s2 s3 s4 : S} {m : List Str} : ∀ (l : List Str) (g : GD), g.length + l.length ≤ 16000000 →
    forL (fgName 5) lb1_holders (l.map .str) [R0, .own false (.dct (gD g)), s2, s3, s4, .unset, .val (lD m)] = some (.nx [R0, .own false (.dct (gD (l.foldl (fun g x => gput g x m) g))), s2, s3, s4, .unset, .val (lD m)])
  | [], g, _ => rfl
  | x :: l, g, h => by
    rw [List.length_cons] at h
    have hl := gput_len g x m
    have h1 : (gD g).length < 16777216 := by unfold gD; rw [List.length_map]; omega
    have ih := hold_lp1 (R0 := R0) (s2 := s2) (s3 := s3) (s4 := s4) (m := m) l (gput g x m) (by omega)
    have st : bO (fgName 5 (.str x) [R0, .own false (.dct (gD g)), s2, s3, s4, .unset, .val (lD m)]) lb1_holders = some (.nx [R0, .own false (.dct (gD (gput g x m))), s2, s3, s4, .unset, .val (lD m)]) := by
      simp only [lb1_holders, EVX, EV, EVT, EVC, EVY, LST, ↓reduceIte, Nat.reduceAdd, Nat.reduceSub, Nat.reduceLeDiff, Nat.reduceLT, Nat.reduceEqDiff, Nat.reduceBEq, Int.reduceLT, Int.reduceAdd, Int.reduceBNe, Int.reduceLE, Int.reduceEq, Int.reduceBEq, Bool.false_eq_true, reduceCtorEq, sizeLine_eq, decide_true, decide_false, decide_eq_true_eq, true_and, and_true, and_self, h1, gD_put]
    rw [List.map_cons, forL_c, st, bL_nx, ih]
    rfl
theorem hold_turn {U : List Str} {E : List (Str × Str)} {R0 : S} {g : GD} (hU : U.length ≤ 1000) (hs : ∀ x ∈ U, PyData.strOk x = true) (h : HI U E g) (q : Row × List Int) (k : ∀ x ∈ hn q.1, x ∈ U) :
    bO (fgTup 2 (fgCons (fgName 2) (fgCons (fgName 3) fgNil)) (rpD q) [R0, .own false (.dct (gD g)), .unset, .unset, .unset, .unset, .unset]) lb2_holders = some (.nx [R0, .own false (.dct (gD (hstep g q.1))), .unset, .unset, .unset, .unset, .unset]) := by
  obtain ⟨r, pl⟩ := q
  have L0 : ∀ s2 s3 s4 : S, _ := fun s2 s3 s4 => hold_lp0 (R0 := R0) (s2 := s2) (s3 := s3) (s4 := s4) hU (hn r) g h k
  have h1 := HI.sets (hn r) g h k
  have triv : ∀ r : Row, hn r = [] → hstep g r = g := fun r e => by
    unfold hstep
    rw [e]
    rcases r with r | _ | _
    · cases r <;> first | rfl | (simp [hn] at e)
    · rfl
    · rfl
  rcases r with r | ⟨x, a, b⟩ | ⟨x, b⟩
  · cases r with
    | make t x y =>
      simp only [hn, List.map_cons, List.map_nil, List.foldl_cons, List.foldl_nil] at L0
      simp only [lb2_holders, lp0_holders, rpD, Row.toD, SR.toD, EVX, EV, EVT, EVC, EVY, LST, ↓reduceIte, Nat.reduceAdd, Nat.reduceSub, Nat.reduceLeDiff, Nat.reduceLT, Nat.reduceEqDiff, Nat.reduceBEq, Int.reduceLT, Int.reduceAdd, Int.reduceBNe, Int.reduceLE, Int.reduceEq, Int.reduceBEq, Bool.false_eq_true, reduceCtorEq, sizeLine_eq, decide_true, decide_false, decide_eq_true_eq, true_and, and_true, and_self, L0, hstep, hn, List.foldl_cons, List.foldl_nil]
    | give t =>
      simp only [hn, List.map_cons, List.map_nil, List.foldl_cons, List.foldl_nil] at L0
      simp only [lb2_holders, lp0_holders, rpD, Row.toD, SR.toD, EVX, EV, EVT, EVC, EVY, LST, ↓reduceIte, Nat.reduceAdd, Nat.reduceSub, Nat.reduceLeDiff, Nat.reduceLT, Nat.reduceEqDiff, Nat.reduceBEq, Int.reduceLT, Int.reduceAdd, Int.reduceBNe, Int.reduceLE, Int.reduceEq, Int.reduceBEq, Bool.false_eq_true, reduceCtorEq, sizeLine_eq, decide_true, decide_false, decide_eq_true_eq, true_and, and_true, and_self, L0, hstep, hn, List.foldl_cons, List.foldl_nil]
    | lets t u =>
      have e1 := sets_has (hn (.s (.lets t u))) g t (.inl (by simp [hn]))
      have e2 := sets_has (hn (.s (.lets t u))) g u (.inl (by simp [hn]))
      unfold hstep
      dsimp only
      generalize hg1 : (hn (.s (.lets t u))).foldl gset g = g1 at *
      cases q1 : gget g1 t with
      | none => exact absurd q1 e1
      | some a =>
        cases q2 : gget g1 u with
        | none => exact absurd q2 e2
        | some b =>
          have d1 : dget (gD g1) t = some (lD a) := by rw [gD_get, q1]; rfl
          have d2 : dget (gD g1) u = some (lD b) := by rw [gD_get, q2]; rfl
          have sa : ∀ x ∈ a, PyData.strOk x = true := fun x hx => hs x (h1.ku x (by rw [(h1.me t a q1).2.2 x hx]; exact fun z => nomatch z))
          have sb : ∀ x ∈ b, PyData.strOk x = true := fun x hx => hs x (h1.ku x (by rw [(h1.me u b q2).2.2 x hx]; exact fun z => nomatch z))
          have hne := eq_lD not sa sb
          simp only [hn, List.map_cons, List.map_nil] at L0 hg1
          dsimp only
          by_cases hab : a = b
          · rw [if_pos hab]
            have hd : decide (a = b) = true := decide_eq_true hab
            simp only [lb2_holders, lp0_holders, rpD, Row.toD, SR.toD, EVX, EV, EVT, EVC, EVY, LST, ↓reduceIte, Nat.reduceAdd, Nat.reduceSub, Nat.reduceLeDiff, Nat.reduceLT, Nat.reduceEqDiff, Nat.reduceBEq, Int.reduceLT, Int.reduceAdd, Int.reduceBNe, Int.reduceLE, Int.reduceEq, Int.reduceBEq, Bool.false_eq_true, reduceCtorEq, sizeLine_eq, decide_true, decide_false, decide_eq_true_eq, true_and, and_true, and_self, L0, d1, d2, hne, hd]
          · rw [if_neg hab]
            have hd : decide (a = b) = false := decide_eq_false hab
            have la := h1.llen q1
            have lb := h1.llen q2
            have lg := h1.len
            have hsz : a.length + b.length ≤ 16777216 := by omega
            have happ : gAdd (lD a) (lD b) = some (.new (lD (a ++ b))) := by
              simp only [lD, EVX, EV, EVT, EVC, EVY, LST, ↓reduceIte, Nat.reduceAdd, Nat.reduceSub, Nat.reduceLeDiff, Nat.reduceLT, Nat.reduceEqDiff, Nat.reduceBEq, Int.reduceLT, Int.reduceAdd, Int.reduceBNe, Int.reduceLE, Int.reduceEq, Int.reduceBEq, Bool.false_eq_true, reduceCtorEq, sizeLine_eq, decide_true, decide_false, decide_eq_true_eq, true_and, and_true, and_self, List.length_map, hsz, List.map_append]
            have L1 : ∀ s2 s3 s4 : S, _ := fun s2 s3 s4 => hold_lp1 (R0 := R0) (s2 := s2) (s3 := s3) (s4 := s4) (m := a ++ b) (a ++ b) g1 (by rw [List.length_append]; omega)
            have it : ∀ ρ : Env', itD (lD (a ++ b)) ρ = some ((a ++ b).map .str, ρ) := fun _ => rfl
            have hm : merge g1 (a ++ b) = (a ++ b).foldl (fun g x => gput g x (a ++ b)) g1 := rfl
            simp only [lb2_holders, lp0_holders, lp1_holders, rpD, Row.toD, SR.toD, EVX, EV, EVT, EVC, EVY, LST, ↓reduceIte, Nat.reduceAdd, Nat.reduceSub, Nat.reduceLeDiff, Nat.reduceLT, Nat.reduceEqDiff, Nat.reduceBEq, Int.reduceLT, Int.reduceAdd, Int.reduceBNe, Int.reduceLE, Int.reduceEq, Int.reduceBEq, Bool.false_eq_true, reduceCtorEq, sizeLine_eq, decide_true, decide_false, decide_eq_true_eq, true_and, and_true, and_self, L0, d1, d2, hne, hd, happ, it, L1, hm]
    | _ =>
      rw [triv _ rfl]
      simp only [lb2_holders, lp0_holders, rpD, Row.toD, SR.toD, EVX, EV, EVT, EVC, EVY, LST, ↓reduceIte, Nat.reduceAdd, Nat.reduceSub, Nat.reduceLeDiff, Nat.reduceLT, Nat.reduceEqDiff, Nat.reduceBEq, Int.reduceLT, Int.reduceAdd, Int.reduceBNe, Int.reduceLE, Int.reduceEq, Int.reduceBEq, Bool.false_eq_true, reduceCtorEq, sizeLine_eq, decide_true, decide_false, decide_eq_true_eq, true_and, and_true, and_self]
  · rw [triv _ rfl]
    simp only [lb2_holders, lp0_holders, rpD, Row.toD, EVX, EV, EVT, EVC, EVY, LST, ↓reduceIte, Nat.reduceAdd, Nat.reduceSub, Nat.reduceLeDiff, Nat.reduceLT, Nat.reduceEqDiff, Nat.reduceBEq, Int.reduceLT, Int.reduceAdd, Int.reduceBNe, Int.reduceLE, Int.reduceEq, Int.reduceBEq, Bool.false_eq_true, reduceCtorEq, sizeLine_eq, decide_true, decide_false, decide_eq_true_eq, true_and, and_true, and_self]
  · rw [triv _ rfl]
    simp only [lb2_holders, lp0_holders, rpD, Row.toD, EVX, EV, EVT, EVC, EVY, LST, ↓reduceIte, Nat.reduceAdd, Nat.reduceSub, Nat.reduceLeDiff, Nat.reduceLT, Nat.reduceEqDiff, Nat.reduceBEq, Int.reduceLT, Int.reduceAdd, Int.reduceBNe, Int.reduceLE, Int.reduceEq, Int.reduceBEq, Bool.false_eq_true, reduceCtorEq, sizeLine_eq, decide_true, decide_false, decide_eq_true_eq, true_and, and_true, and_self]
theorem hold_rows {U : List Str} {R0 : S} (hU : U.length ≤ 1000) (hs : ∀ x ∈ U, PyData.strOk x = true) : ∀ (l : List (Row × List Int)) (E : List (Str × Str)) (g : GD), HI U E g → (∀ q ∈ l, ∀ x ∈ hn q.1, x ∈ U) →
    forL (fgTup 2 (fgCons (fgName 2) (fgCons (fgName 3) fgNil))) lb2_holders (l.map rpD) [R0, .own false (.dct (gD g)), .unset, .unset, .unset, .unset, .unset] = some (.nx [R0, .own false (.dct (gD (l.foldl (fun g q => hstep g q.1) g))), .unset, .unset, .unset, .unset, .unset])
  | [], _, g, _, _ => rfl
  | q :: l, E, g, h, k => by
    rw [List.map_cons, forL_c, hold_turn hU hs h q (k q List.mem_cons_self), bL_nx, List.foldl_cons]
    exact hold_rows hU hs l _ _ (h.step q.1 (k q List.mem_cons_self)) fun p hp => k p (List.mem_cons_of_mem _ hp)
abbrev M_holders : Mir := m_holders
theorem holders_ok {U : List Str} (hU : U.length ≤ 1000) (hs : ∀ x ∈ U, PyData.strOk x = true) (l : List (Row × List Int)) (k : ∀ q ∈ l, ∀ x ∈ hn q.1, x ∈ U) : m_holders [.lst (l.map rpD)] = some (.new (.dct (gD (groupsT l))), []) := by
  have L := hold_rows (R0 := .val (.lst (l.map rpD))) hU hs l [] [] HI.nil k
  have e0 : gD [] = [] := rfl
  rw [e0] at L
  rw [mk_holders]
  unfold fs_holders lp2_holders
  simp only [EVX, EV, EVT, EVC, EVY, LST, ↓reduceIte, Nat.reduceAdd, Nat.reduceSub, Nat.reduceLeDiff, Nat.reduceLT, Nat.reduceEqDiff, Nat.reduceBEq, Int.reduceLT, Int.reduceAdd, Int.reduceBNe, Int.reduceLE, Int.reduceEq, Int.reduceBEq, Bool.false_eq_true, reduceCtorEq, sizeLine_eq, decide_true, decide_false, decide_eq_true_eq, true_and, and_true, and_self, L]
  rfl
def outRow (G : GD) (o : List Str) (q : Row × List Int) : List Str := match q.1 with
  | .s (.give t) => ((gget G t).getD []).foldl ins o
  | _ => o
def outT (rows : List (Row × List Int)) : List Str := rows.foldl (outRow (groupsT rows)) []
def makeIn (o : List Str) (q : Row × List Int) : Bool := match q.1 with
  | .s (.make t _ _) => decide (t ∈ o)
  | _ => false
def giveT (b : List Row) : List (List Int) := ((rowsB 0 b []).filter (makeIn (outT (rowsB 0 b [])))).map (·.2)
def M_may_give : Mir := m_may_give M_need_program (Rrows 8) m_holders
def M_size : Mir := m_size M_need_program (Rrows 8)
theorem ins_lp {g1 g2 g3 : Mir} {s0 s1 s2 s4 s5 : S} : ∀ (l o : List Str), o.length + l.length ≤ 16000000 →
    forL (fgName 6) (lb0_may_give g1 g2 g3) (l.map .str) [s0, s1, s2, .own false (.dct (dk o)), s4, s5, .unset] = some (.nx [s0, s1, s2, .own false (.dct (dk (l.foldl ins o))), s4, s5, .unset])
  | [], o, _ => rfl
  | x :: l, o, h => by
    rw [List.length_cons] at h
    have hl := ins_len o x
    have h1 : o.length < 16777216 := by omega
    have ih := ins_lp (g1 := g1) (g2 := g2) (g3 := g3) (s0 := s0) (s1 := s1) (s2 := s2) (s4 := s4) (s5 := s5) l (ins o x) (by omega)
    have st : bO (fgName 6 (.str x) [s0, s1, s2, .own false (.dct (dk o)), s4, s5, .unset]) (lb0_may_give g1 g2 g3) = some (.nx [s0, s1, s2, .own false (.dct (dk (ins o x))), s4, s5, .unset]) := by
      simp only [lb0_may_give, EVX, EV, EVT, EVC, EVY, LST, ↓reduceIte, Nat.reduceAdd, Nat.reduceSub, Nat.reduceLeDiff, Nat.reduceLT, Nat.reduceEqDiff, Nat.reduceBEq, Int.reduceLT, Int.reduceAdd, Int.reduceBNe, Int.reduceLE, Int.reduceEq, Int.reduceBEq, Bool.false_eq_true, reduceCtorEq, sizeLine_eq, decide_true, decide_false, decide_eq_true_eq, true_and, and_true, and_self, dk_len, h1, dk_put]
    rw [List.map_cons, forL_c, st, bL_nx, ih]
    rfl
theorem ins_nd {o : List Str} {x : Str} (h : o.Nodup) : (ins o x).Nodup := by
  unfold ins
  split
  · exact h
  · rename_i q
    rw [List.nodup_append]
    refine ⟨h, by simp, fun a ha b hb e => ?_⟩
    rw [List.mem_singleton] at hb
    subst hb e
    exact q ha
theorem ins_mem {o : List Str} {x y : Str} : y ∈ ins o x ↔ y ∈ o ∨ y = x := by
  unfold ins
  split
  · rename_i q
    constructor
    · exact .inl
    · rintro (h | rfl)
      · exact h
      · exact q
  · simp
theorem inss_mem {l o : List Str} {y : Str} : y ∈ l.foldl ins o ↔ y ∈ o ∨ y ∈ l := by
  induction l generalizing o with
  | nil => simp
  | cons x l ih => rw [List.foldl_cons, ih, ins_mem, List.mem_cons, or_assoc]
theorem inss_nd {l o : List Str} (h : o.Nodup) : (l.foldl ins o).Nodup := by
  induction l generalizing o with
  | nil => exact h
  | cons x l ih => rw [List.foldl_cons]; exact ih (ins_nd h)
theorem out_lp {U : List Str} {E : List (Str × Str)} {g1 g2 g3 : Mir} {s0 s1 : S} {G : GD} (hG : HI U E G) (hU : U.length ≤ 1000) : ∀ (l : List (Row × List Int)) (o : List Str), o.Nodup → (∀ x ∈ o, x ∈ U) → (∀ q ∈ l, ∀ t, q.1 = .s (.give t) → gget G t ≠ none) →
    forL (fgTup 2 (fgCons (fgName 4) (fgCons (fgName 5) fgNil))) (lb1_may_give g1 g2 g3) (l.map rpD) [s0, s1, .own false (.dct (gD G)), .own false (.dct (dk o)), .unset, .unset, .unset] =
      some (.nx [s0, s1, .own false (.dct (gD G)), .own false (.dct (dk (l.foldl (outRow G) o))), .unset, .unset, .unset])
  | [], o, _, _, _ => rfl
  | q :: l, o, nd, sub, k => by
    have nx : bO (fgTup 2 (fgCons (fgName 4) (fgCons (fgName 5) fgNil)) (rpD q) [s0, s1, .own false (.dct (gD G)), .own false (.dct (dk o)), .unset, .unset, .unset]) (lb1_may_give g1 g2 g3) =
        some (.nx [s0, s1, .own false (.dct (gD G)), .own false (.dct (dk (outRow G o q))), .unset, .unset, .unset]) ∧ (outRow G o q).Nodup ∧ ∀ x ∈ outRow G o q, x ∈ U := by
      obtain ⟨r, pl⟩ := q
      rcases r with r | ⟨x, a, b⟩ | ⟨x, b⟩
      · cases r with
        | give t =>
          have hg := k _ List.mem_cons_self t rfl
          cases q1 : gget G t with
          | none => exact absurd q1 hg
          | some m =>
            have d1 : dget (gD G) t = some (lD m) := by rw [gD_get, q1]; rfl
            have lm := hG.llen q1
            have lo := sub_len o U nd sub
            have L := ins_lp (g1 := g1) (g2 := g2) (g3 := g3) (s0 := s0) (s1 := s1) (s2 := .own false (.dct (gD G))) (s4 := .val (SR.give t).toD) (s5 := .val (plD pl)) m o (by omega)
            have it : ∀ ρ : Env', itD (lD m) ρ = some (m.map .str, ρ) := fun _ => rfl
            simp only [SR.toD] at L
            refine ⟨?_, ?_, fun x hx => ?_⟩
            · simp only [lb1_may_give, lp0_may_give, rpD, Row.toD, SR.toD, EVX, EV, EVT, EVC, EVY, LST, ↓reduceIte, Nat.reduceAdd, Nat.reduceSub, Nat.reduceLeDiff, Nat.reduceLT, Nat.reduceEqDiff, Nat.reduceBEq, Int.reduceLT, Int.reduceAdd, Int.reduceBNe, Int.reduceLE, Int.reduceEq, Int.reduceBEq, Bool.false_eq_true, reduceCtorEq, sizeLine_eq, decide_true, decide_false, decide_eq_true_eq, true_and, and_true, and_self, d1, it, L, outRow, q1]
            · simp only [outRow, q1]; exact inss_nd nd
            · simp only [outRow, q1] at hx
              rcases inss_mem.mp hx with h | h
              · exact sub x h
              · have h : x ∈ m := h
                exact hG.ku x (by rw [(hG.me t m q1).2.2 x h]; exact fun z => nomatch z)
        | _ =>
          refine ⟨?_, nd, sub⟩
          simp only [lb1_may_give, lp0_may_give, rpD, Row.toD, SR.toD, EVX, EV, EVT, EVC, EVY, LST, ↓reduceIte, Nat.reduceAdd, Nat.reduceSub, Nat.reduceLeDiff, Nat.reduceLT, Nat.reduceEqDiff, Nat.reduceBEq, Int.reduceLT, Int.reduceAdd, Int.reduceBNe, Int.reduceLE, Int.reduceEq, Int.reduceBEq, Bool.false_eq_true, reduceCtorEq, sizeLine_eq, decide_true, decide_false, decide_eq_true_eq, true_and, and_true, and_self, outRow]
      · refine ⟨?_, nd, sub⟩
        simp only [lb1_may_give, lp0_may_give, rpD, Row.toD, EVX, EV, EVT, EVC, EVY, LST, ↓reduceIte, Nat.reduceAdd, Nat.reduceSub, Nat.reduceLeDiff, Nat.reduceLT, Nat.reduceEqDiff, Nat.reduceBEq, Int.reduceLT, Int.reduceAdd, Int.reduceBNe, Int.reduceLE, Int.reduceEq, Int.reduceBEq, Bool.false_eq_true, reduceCtorEq, sizeLine_eq, decide_true, decide_false, decide_eq_true_eq, true_and, and_true, and_self, outRow]
      · refine ⟨?_, nd, sub⟩
        simp only [lb1_may_give, lp0_may_give, rpD, Row.toD, EVX, EV, EVT, EVC, EVY, LST, ↓reduceIte, Nat.reduceAdd, Nat.reduceSub, Nat.reduceLeDiff, Nat.reduceLT, Nat.reduceEqDiff, Nat.reduceBEq, Int.reduceLT, Int.reduceAdd, Int.reduceBNe, Int.reduceLE, Int.reduceEq, Int.reduceBEq, Bool.false_eq_true, reduceCtorEq, sizeLine_eq, decide_true, decide_false, decide_eq_true_eq, true_and, and_true, and_self, outRow]
    rw [List.map_cons, forL_c, nx.1, bL_nx, List.foldl_cons]
    exact out_lp hG hU l _ nx.2.1 nx.2.2 fun p hp => k p (List.mem_cons_of_mem _ hp)
theorem filter_fm {α : Type} (p : α → Bool) (f : α → DL.D) (l : List α) : l.filterMap (fun x => if p x = true then some (f x) else none) = (l.filter p).map f := by
  induction l with
  | nil => rfl
  | cons x l ih =>
    rw [List.filterMap_cons, List.filter_cons]
    by_cases q : p x = true <;> simp [q, ih]
theorem give_ok {U : List Str} (hU : U.length ≤ 1000) (hs : ∀ x ∈ U, PyData.strOk x = true) {p : Prog} (w : p.wf) (hp : progB p = true) (k : ∀ q ∈ rowsB 0 p.b [], ∀ x ∈ hn q.1, x ∈ U) : M_may_give [p.toD] = some (.new (.lst ((giveT p.b).map plD)), []) := by
  have hc := w.cnt
  have hd := w.dep
  have n1 := need_ok w hp
  have r1 : Rrows 8 [bD p.b, .tup []] = _ := rows_ok 8 p.b [] (by omega) (by omega) (by simp; omega)
  have hl := rowsB_len p.b 0 []
  unfold giveT outT
  generalize rowsB 0 p.b [] = rows at *
  have h1 := holders_ok hU hs rows k
  have hG : HI U ([] ++ edges rows) (groupsT rows) := HI.all rows [] [] HI.nil k
  have hg : ∀ q ∈ rows, ∀ t, q.1 = .s (.give t) → gget (groupsT rows) t ≠ none := fun q hq t e => groups_has rows [] t (.inl ⟨q, hq, by rw [e]; simp [hn]⟩)
  have L := out_lp (g1 := M_need_program) (g2 := Rrows 8) (g3 := m_holders) (s0 := .val p.toD) (s1 := .val (.lst (rows.map rpD))) hG hU rows [] List.nodup_nil (fun x hx => nomatch hx) hg
  have e0 : dk [] = [] := rfl
  rw [e0] at L
  generalize hO : rows.foldl (outRow (groupsT rows)) [] = O at *
  have C : ∀ d : DL.D, lcK (fgTup 2 (fgCons (fgName 4) (fgCons (fgName 5) fgNil))) (fAndT (fB (f2 gEq (f2 gIx (fVar 4) (fC (.int 0))) (fC (.str "make")))) (fB (f2 gIn (f2 gIx (fVar 4) (fC (.int 1))) (fVar 3)))) (fVar 5) [4, 5] (rows.map rpD) [.val p.toD, .val (.lst (rows.map rpD)), .own false d, .own false (.dct (dk O)), .unset, .unset, .unset] =
      some (.new (.lst (((rows.filter (makeIn O)).map (·.2)).map plD)), [.val p.toD, .val (.lst (rows.map rpD)), .own false d, .own false (.dct (dk O)), .unset, .unset, .unset]) := fun d => by
    rw [List.map_map, show (plD ∘ fun q : Row × List Int => q.2) = fun q => plD q.2 from rfl, ← filter_fm]
    refine lcK_pure (fun q : Row × List Int => if makeIn O q = true then some (plD q.2) else none) rpD rows _ rfl (by omega) fun q _ => ?_
    obtain ⟨r, pl⟩ := q
    rcases r with r | ⟨x, a, b⟩ | ⟨x, b⟩
    · cases r with
      | make t x y => by_cases ht : t ∈ O <;> simp only [rpD, Row.toD, SR.toD, EVX, EV, EVT, EVC, EVY, LST, ↓reduceIte, Nat.reduceAdd, Nat.reduceSub, Nat.reduceLeDiff, Nat.reduceLT, Nat.reduceEqDiff, Nat.reduceBEq, Int.reduceLT, Int.reduceAdd, Int.reduceBNe, Int.reduceLE, Int.reduceEq, Int.reduceBEq, Bool.false_eq_true, reduceCtorEq, sizeLine_eq, decide_true, decide_false, decide_eq_true_eq, true_and, and_true, and_self, dk_has, ht, makeIn]
      | _ => simp only [rpD, Row.toD, SR.toD, EVX, EV, EVT, EVC, EVY, LST, ↓reduceIte, Nat.reduceAdd, Nat.reduceSub, Nat.reduceLeDiff, Nat.reduceLT, Nat.reduceEqDiff, Nat.reduceBEq, Int.reduceLT, Int.reduceAdd, Int.reduceBNe, Int.reduceLE, Int.reduceEq, Int.reduceBEq, Bool.false_eq_true, reduceCtorEq, sizeLine_eq, decide_true, decide_false, decide_eq_true_eq, true_and, and_true, and_self, makeIn]
    · simp only [rpD, Row.toD, EVX, EV, EVT, EVC, EVY, LST, ↓reduceIte, Nat.reduceAdd, Nat.reduceSub, Nat.reduceLeDiff, Nat.reduceLT, Nat.reduceEqDiff, Nat.reduceBEq, Int.reduceLT, Int.reduceAdd, Int.reduceBNe, Int.reduceLE, Int.reduceEq, Int.reduceBEq, Bool.false_eq_true, reduceCtorEq, sizeLine_eq, decide_true, decide_false, decide_eq_true_eq, true_and, and_true, and_self, makeIn]
    · simp only [rpD, Row.toD, EVX, EV, EVT, EVC, EVY, LST, ↓reduceIte, Nat.reduceAdd, Nat.reduceSub, Nat.reduceLeDiff, Nat.reduceLT, Nat.reduceEqDiff, Nat.reduceBEq, Int.reduceLT, Int.reduceAdd, Int.reduceBNe, Int.reduceLE, Int.reduceEq, Int.reduceBEq, Bool.false_eq_true, reduceCtorEq, sizeLine_eq, decide_true, decide_false, decide_eq_true_eq, true_and, and_true, and_self, makeIn]
  have g1 : gIx p.toD (.int 1) = some (.val (bD p.b)) := by simp only [Prog.toD, EVX, EV, EVT, EVC, EVY, LST, ↓reduceIte, Nat.reduceAdd, Nat.reduceSub, Nat.reduceLeDiff, Nat.reduceLT, Nat.reduceEqDiff, Nat.reduceBEq, Int.reduceLT, Int.reduceAdd, Int.reduceBNe, Int.reduceLE, Int.reduceEq, Int.reduceBEq, Bool.false_eq_true, reduceCtorEq, sizeLine_eq, decide_true, decide_false, decide_eq_true_eq, true_and, and_true, and_self]
  unfold M_may_give
  rw [mk_may_give]
  unfold fs_may_give
  simp only [lp1_may_give, lc0_may_give, EVX, EV, EVT, EVC, EVY, LST, ↓reduceIte, Nat.reduceAdd, Nat.reduceSub, Nat.reduceLeDiff, Nat.reduceLT, Nat.reduceEqDiff, Nat.reduceBEq, Int.reduceLT, Int.reduceAdd, Int.reduceBNe, Int.reduceLE, Int.reduceEq, Int.reduceBEq, Bool.false_eq_true, reduceCtorEq, sizeLine_eq, decide_true, decide_false, decide_eq_true_eq, true_and, and_true, and_self, n1, g1, r1, h1, L, C]
theorem size_ok {p : Prog} (w : p.wf) (hp : progB p = true) : M_size [p.toD] = some (.val (.int (cnts p.b)), []) := by
  have hc := w.cnt
  have hd := w.dep
  have n1 := need_ok w hp
  have r1 : Rrows 8 [bD p.b, .tup []] = _ := rows_ok 8 p.b [] (by omega) (by omega) (by simp; omega)
  have hl := rowsB_len p.b 0 []
  have g1 : gIx p.toD (.int 1) = some (.val (bD p.b)) := by simp only [Prog.toD, EVX, EV, EVT, EVC, EVY, LST, ↓reduceIte, Nat.reduceAdd, Nat.reduceSub, Nat.reduceLeDiff, Nat.reduceLT, Nat.reduceEqDiff, Nat.reduceBEq, Int.reduceLT, Int.reduceAdd, Int.reduceBNe, Int.reduceLE, Int.reduceEq, Int.reduceBEq, Bool.false_eq_true, reduceCtorEq, sizeLine_eq, decide_true, decide_false, decide_eq_true_eq, true_and, and_true, and_self]
  unfold M_size
  rw [mk_size]
  unfold fs_size
  simp only [EVX, EV, EVT, EVC, EVY, LST, ↓reduceIte, Nat.reduceAdd, Nat.reduceSub, Nat.reduceLeDiff, Nat.reduceLT, Nat.reduceEqDiff, Nat.reduceBEq, Int.reduceLT, Int.reduceAdd, Int.reduceBNe, Int.reduceLE, Int.reduceEq, Int.reduceBEq, Bool.false_eq_true, reduceCtorEq, sizeLine_eq, decide_true, decide_false, decide_eq_true_eq, true_and, and_true, and_self, n1, g1, r1, List.length_map, hl]
end TA
set_option maxRecDepth 100000
set_option maxHeartbeats 4000000
namespace TA
open PySem PySem.Spec L2 DL
def lb0__law_all (g__law_all : Mir) : FS :=
  (sFgt [3, 4, 5] (sSeq (sSet 5 (f2 gAdd (fVar 1) (fTup (fCons (fVar 3) fNil))))
    (sSeq (sDrop (fMu "list" mAppend (fVar 2) (fCons (fTup (fCons (fVar 4) (fCons (fVar 5) fNil))) fNil)))
    (sSeq (sIf (fB (f2 gEq (f2 gIx (fVar 4) (fC (.int 0))) (fC (.str "if")))) (sSet 2 (f2 gAdd (f2 gAdd (fVar 2) (fCall [.val, .val] g__law_all (fCons (f2 gIx (fVar 4) (fC (.int 2))) (fCons (f2 gAdd (fVar 5) (fTup (fCons (fC (.int 0)) fNil))) fNil)))) (fCall [.val, .val] g__law_all (fCons (f2 gIx (fVar 4) (fC (.int 3))) (fCons (f2 gAdd (fVar 5) (fTup (fCons (fC (.int 1)) fNil))) fNil))))) sNext)
    (sIf (fB (f2 gEq (f2 gIx (fVar 4) (fC (.int 0))) (fC (.str "loop")))) (sSet 2 (f2 gAdd (fVar 2) (fCall [.val, .val] g__law_all (fCons (f2 gIx (fVar 4) (fC (.int 2))) (fCons (f2 gAdd (fVar 5) (fTup (fCons (fC (.int 0)) fNil))) fNil))))) sNext)))))
def lp0__law_all (g__law_all : Mir) : FS :=
  (sFor (fEnum (fCons (fVar 0) fNil)) (fgTup 2 (fgCons (fgName 3) (fgCons (fgName 4) fgNil))) (lb0__law_all g__law_all))
def fs__law_all (g__law_all : Mir) : FS :=
  (sSeq (sSet 2 (fLst fNil))
    (sSeq (lp0__law_all g__law_all)
    (sRet (fVar 2))))
def m__law_all (g__law_all : Mir) : Mir := runD [.val, .val] 6 (fs__law_all g__law_all)
theorem mk__law_all (g__law_all : Mir) (d0 d1 : DL.D) : m__law_all g__law_all [d0, d1] = finD [.val, .val] (fs__law_all g__law_all [.val d0, .val d1, .unset, .unset, .unset, .unset]) := rfl
def lc0_law (g__law_program : Mir) (g__law_all : Mir) (g_may_give : Mir) (g_size : Mir) : FE :=
  (fLc (fItK (fVar 3)) (fgTup 2 (fgCons (fgName 7) (fgCons (fgName 8) fgNil))) (fB (f2 gEq (f2 gIx (fVar 7) (fC (.int 0))) (fC (.str "give")))) (fTup (fCons (f2 gIx (fVar 7) (fC (.int 1))) (fCons (fC (.bl true)) fNil))) [7, 8])
def lb0_law (g__law_program : Mir) (g__law_all : Mir) (g_may_give : Mir) (g_size : Mir) : FS :=
  (sFgt [7, 8] (sIf (fAndT (fB (f2 gEq (f2 gIx (fVar 7) (fC (.int 0))) (fC (.str "let")))) (fB (f2 gNe (f2 gIn (f2 gIx (fVar 7) (fC (.int 1))) (fVar 4)) (f2 gIn (f2 gIx (fVar 7) (fC (.int 2))) (fVar 4))))) (sSeq (sPut (fVar 4) (f2 gIx (fVar 7) (fC (.int 1))) (fC (.bl true)))
    (sSeq (sPut (fVar 4) (f2 gIx (fVar 7) (fC (.int 2))) (fC (.bl true)))
    (sSet 5 (fC (.bl true))))) sNext))
def lp0_law (g__law_program : Mir) (g__law_all : Mir) (g_may_give : Mir) (g_size : Mir) : FS :=
  (sFor (fItK (fVar 3)) (fgTup 2 (fgCons (fgName 7) (fgCons (fgName 8) fgNil))) (lb0_law g__law_program g__law_all g_may_give g_size))
def lb1_law (g__law_program : Mir) (g__law_all : Mir) (g_may_give : Mir) (g_size : Mir) : FS :=
  (sFgt [7, 8] (sSeq (sSet 5 (fC (.bl false)))
    (lp0_law g__law_program g__law_all g_may_give g_size)))
def lp1_law (g__law_program : Mir) (g__law_all : Mir) (g_may_give : Mir) (g_size : Mir) : FS :=
  (sWhile 1000000 (fB (fVar 5)) (lb1_law g__law_program g__law_all g_may_give g_size))
def lc1_law (g__law_program : Mir) (g__law_all : Mir) (g_may_give : Mir) (g_size : Mir) : FE :=
  (fLc (fItK (fVar 3)) (fgTup 2 (fgCons (fgName 7) (fgCons (fgName 8) fgNil))) (fAndT (fB (f2 gEq (f2 gIx (fVar 7) (fC (.int 0))) (fC (.str "make")))) (fB (f2 gIn (f2 gIx (fVar 7) (fC (.int 1))) (fVar 4)))) (fVar 8) [7, 8])
def fs_law (g__law_program : Mir) (g__law_all : Mir) (g_may_give : Mir) (g_size : Mir) : FS :=
  (sSeq (sSet 1 (fLst fNil))
    (sSeq (sSet 2 (fCall [.val, .io, .val, .val] g__law_program (fCons (fVar 0) (fCons (fVar 1) (fCons (fC (.int 6)) (fCons (fC (.int 2)) fNil))))))
    (sSeq (sSet 3 (fCall [.val, .val] g__law_all (fCons (f2 gIx (fVar 2) (fC (.int 1))) (fCons (fTup fNil) fNil))))
    (sSeq (sSet 4 (fN gDict (fCons (lc0_law g__law_program g__law_all g_may_give g_size) fNil)))
    (sSeq (sSet 5 (fC (.bl true)))
    (sSeq (lp1_law g__law_program g__law_all g_may_give g_size)
    (sSeq (sSet 6 (lc1_law g__law_program g__law_all g_may_give g_size))
    (sRet (fAnd (f2 gEq (fCall [.val] g_may_give (fCons (fVar 2) fNil)) (fVar 6)) (f2 gEq (fCall [.val] g_size (fCons (fVar 2) fNil)) (fN gLen (fCons (fVar 3) fNil))))))))))))
def m_law (g__law_program : Mir) (g__law_all : Mir) (g_may_give : Mir) (g_size : Mir) : Mir := runD [.val] 9 (fs_law g__law_program g__law_all g_may_give g_size)
theorem mk_law (g__law_program : Mir) (g__law_all : Mir) (g_may_give : Mir) (g_size : Mir) (d0 : DL.D) : m_law g__law_program g__law_all g_may_give g_size [d0] = finD [.val] (fs_law g__law_program g__law_all g_may_give g_size [.val d0, .unset, .unset, .unset, .unset, .unset, .unset, .unset, .unset]) := rfl
def topS (i : Nat) : Stmt := PySem.Challenge.pw_takeapart_k14_may_give.main.body.getD i (.Pass ⟨0, 0, 0, 0⟩)
abbrev s_is_word : Stmt := topS 12
abbrev N_is_word : List Str := ["thing"]
theorem sc_is_word : FnScope N_is_word ["thing"] (defScope s_is_word) := ⟨rfl, rfl, rfl, by decide +kernel, rfl, by decide +kernel, by decide +kernel⟩
abbrev s_is_whole : Stmt := topS 13
abbrev N_is_whole : List Str := ["thing", "low", "most"]
theorem sc_is_whole : FnScope N_is_whole ["thing", "low", "most"] (defScope s_is_whole) := ⟨rfl, rfl, rfl, by decide +kernel, rfl, by decide +kernel, by decide +kernel⟩
abbrev s_is_part : Stmt := topS 14
abbrev N_is_part : List Str := ["shape", "thing"]
theorem sc_is_part : FnScope N_is_part ["shape", "thing"] (defScope s_is_part) := ⟨rfl, rfl, rfl, by decide +kernel, rfl, by decide +kernel, by decide +kernel⟩
abbrev s_blocks_of : Stmt := topS 15
abbrev N_blocks_of : List Str := ["row"]
theorem sc_blocks_of : FnScope N_blocks_of ["row"] (defScope s_blocks_of) := ⟨rfl, rfl, rfl, by decide +kernel, rfl, by decide +kernel, by decide +kernel⟩
abbrev s_is_row : Stmt := topS 16
abbrev N_is_row : List Str := ["thing", "deep", "shapes", "shape", "part"]
theorem sc_is_row : FnScope N_is_row ["thing", "deep"] (defScope s_is_row) := ⟨rfl, rfl, rfl, by decide +kernel, rfl, by decide +kernel, by decide +kernel⟩
abbrev s_is_block : Stmt := topS 17
abbrev N_is_block : List Str := ["thing", "deep", "one"]
theorem sc_is_block : FnScope N_is_block ["thing", "deep"] (defScope s_is_block) := ⟨rfl, rfl, rfl, by decide +kernel, rfl, by decide +kernel, by decide +kernel⟩
abbrev s_count_of : Stmt := topS 18
abbrev N_count_of : List Str := ["block", "row", "part"]
theorem sc_count_of : FnScope N_count_of ["block"] (defScope s_count_of) := ⟨rfl, rfl, rfl, by decide +kernel, rfl, by decide +kernel, by decide +kernel⟩
abbrev s_kinds_of : Stmt := topS 19
abbrev N_kinds_of : List Str := ["row", "shape", "part"]
theorem sc_kinds_of : FnScope N_kinds_of ["row"] (defScope s_kinds_of) := ⟨rfl, rfl, rfl, by decide +kernel, rfl, by decide +kernel, by decide +kernel⟩
abbrev s_kinds_in : Stmt := topS 20
abbrev N_kinds_in : List Str := ["block", "known", "row", "name", "kind", "part"]
theorem sc_kinds_in : FnScope N_kinds_in ["block", "known"] (defScope s_kinds_in) := ⟨rfl, rfl, rfl, by decide +kernel, rfl, by decide +kernel, by decide +kernel⟩
abbrev s_reads : Stmt := topS 21
abbrev N_reads : List Str := ["row", "names", "name", "kind"]
theorem sc_reads : FnScope N_reads ["row"] (defScope s_reads) := ⟨rfl, rfl, rfl, by decide +kernel, rfl, by decide +kernel, by decide +kernel⟩
abbrev s_sets : Stmt := topS 22
abbrev N_sets : List Str := ["row"]
theorem sc_sets : FnScope N_sets ["row"] (defScope s_sets) := ⟨rfl, rfl, rfl, by decide +kernel, rfl, by decide +kernel, by decide +kernel⟩
abbrev s_surely : Stmt := topS 23
abbrev N_surely : List Str := ["block", "have", "row", "found", "name", "part"]
theorem sc_surely : FnScope N_surely ["block", "have"] (defScope s_surely) := ⟨rfl, rfl, rfl, by decide +kernel, rfl, by decide +kernel, by decide +kernel⟩
abbrev s_is_program : Stmt := topS 24
abbrev N_is_program : List Str := ["thing", "known", "name"]
theorem sc_is_program : FnScope N_is_program ["thing"] (defScope s_is_program) := ⟨rfl, rfl, rfl, by decide +kernel, rfl, by decide +kernel, by decide +kernel⟩
abbrev s_need_program : Stmt := topS 25
abbrev N_need_program : List Str := ["program"]
theorem sc_need_program : FnScope N_need_program ["program"] (defScope s_need_program) := ⟨rfl, rfl, rfl, by decide +kernel, rfl, by decide +kernel, by decide +kernel⟩
abbrev s_rows_in : Stmt := topS 27
abbrev N_rows_in : List Str := ["block", "place", "made", "number", "row", "which", "part"]
theorem sc_rows_in : FnScope N_rows_in ["block", "place"] (defScope s_rows_in) := ⟨rfl, rfl, rfl, by decide +kernel, rfl, by decide +kernel, by decide +kernel⟩
abbrev s_holders : Stmt := topS 28
abbrev N_holders : List Str := ["rows", "groups", "row", "place", "names", "name", "both"]
theorem sc_holders : FnScope N_holders ["rows"] (defScope s_holders) := ⟨rfl, rfl, rfl, by decide +kernel, rfl, by decide +kernel, by decide +kernel⟩
abbrev s_may_give : Stmt := topS 29
abbrev N_may_give : List Str := ["program", "rows", "groups", "out", "row", "place", "name"]
theorem sc_may_give : FnScope N_may_give ["program"] (defScope s_may_give) := ⟨rfl, rfl, rfl, by decide +kernel, rfl, by decide +kernel, by decide +kernel⟩
abbrev s_size : Stmt := topS 30
abbrev N_size : List Str := ["program"]
theorem sc_size : FnScope N_size ["program"] (defScope s_size) := ⟨rfl, rfl, rfl, by decide +kernel, rfl, by decide +kernel, by decide +kernel⟩
abbrev s__law_cell_at : Stmt := topS 32
abbrev N__law_cell_at : List Str := ["_law_script", "_law_k"]
theorem sc__law_cell_at : FnScope N__law_cell_at ["_law_script", "_law_k"] (defScope s__law_cell_at) := ⟨rfl, rfl, rfl, by decide +kernel, rfl, by decide +kernel, by decide +kernel⟩
abbrev s__law_mixed : Stmt := topS 33
abbrev N__law_mixed : List Str := ["_law_script", "_law_k", "_law_many", "_law_drawn"]
theorem sc__law_mixed : FnScope N__law_mixed ["_law_script", "_law_k", "_law_many"] (defScope s__law_mixed) := ⟨rfl, rfl, rfl, by decide +kernel, rfl, by decide +kernel, by decide +kernel⟩
abbrev s__law_draw : Stmt := topS 34
abbrev N__law_draw : List Str := ["_law_script", "_law_town", "_law_many"]
theorem sc__law_draw : FnScope N__law_draw ["_law_script", "_law_town", "_law_many"] (defScope s__law_draw) := ⟨rfl, rfl, rfl, by decide +kernel, rfl, by decide +kernel, by decide +kernel⟩
abbrev s__law_pick : Stmt := topS 35
abbrev N__law_pick : List Str := ["_law_script", "_law_town", "_law_some"]
theorem sc__law_pick : FnScope N__law_pick ["_law_script", "_law_town", "_law_some"] (defScope s__law_pick) := ⟨rfl, rfl, rfl, by decide +kernel, rfl, by decide +kernel, by decide +kernel⟩
abbrev s__law_simple : Stmt := topS 36
abbrev N__law_simple : List Str := ["_law_script", "_law_town", "_law_names_here", "_law_have", "_law_numbers", "_law_things", "_law_kind", "_law_goal", "_law_one", "_law_two", "_law_thing", "_law_held", "_law_some", "_law_name"]
theorem sc__law_simple : FnScope N__law_simple ["_law_script", "_law_town", "_law_names_here", "_law_have"] (defScope s__law_simple) := ⟨rfl, rfl, rfl, by decide +kernel, rfl, by decide +kernel, by decide +kernel⟩
abbrev s__law_block : Stmt := topS 37
abbrev N__law_block : List Str := ["_law_script", "_law_town", "_law_names_here", "_law_have", "_law_many", "_law_deep", "_law_made", "_law_k", "_law_kind", "_law_numbers", "_law_one", "_law_two", "_law_first", "_law_second", "_law_name", "_law_within", "_law_body", "_law_row"]
theorem sc__law_block : FnScope N__law_block ["_law_script", "_law_town", "_law_names_here", "_law_have", "_law_many", "_law_deep"] (defScope s__law_block) := ⟨rfl, rfl, rfl, by decide +kernel, rfl, by decide +kernel, by decide +kernel⟩
abbrev s__law_names : Stmt := topS 38
abbrev N__law_names : List Str := ["_law_script", "_law_town", "_law_rest", "_law_k", "_law_order", "_law_sign"]
theorem sc__law_names : FnScope N__law_names ["_law_script", "_law_town"] (defScope s__law_names) := ⟨rfl, rfl, rfl, by decide +kernel, rfl, by decide +kernel, by decide +kernel⟩
abbrev s__law_program : Stmt := topS 39
abbrev N__law_program : List Str := ["_law_script", "_law_town", "_law_many", "_law_deep", "_law_names_here", "_law_params", "_law_have", "_law_name"]
theorem sc__law_program : FnScope N__law_program ["_law_script", "_law_town", "_law_many", "_law_deep"] (defScope s__law_program) := ⟨rfl, rfl, rfl, by decide +kernel, rfl, by decide +kernel, by decide +kernel⟩
abbrev s__law_all : Stmt := topS 40
abbrev N__law_all : List Str := ["_law_block_here", "_law_place", "_law_made", "_law_number", "_law_row", "_law_here"]
theorem sc__law_all : FnScope N__law_all ["_law_block_here", "_law_place"] (defScope s__law_all) := ⟨rfl, rfl, rfl, by decide +kernel, rfl, by decide +kernel, by decide +kernel⟩
abbrev s_law : Stmt := topS 41
abbrev N_law : List Str := ["_law_script", "_law_town", "_law_program_here", "_law_rows", "_law_marked", "_law_more", "_law_due", "_law_row", "_law_place"]
theorem sc_law : FnScope N_law ["_law_script"] (defScope s_law) := ⟨rfl, rfl, rfl, by decide +kernel, rfl, by decide +kernel, by decide +kernel⟩
structure Top (w : World) (K : PySem.W.Frag) (mg : Str → Option Value) (a_SHAPES : Addr) (a_SETS : Addr) : Prop where
  b_isinstance : mg "isinstance" = none
  b_str : mg "str" = none
  b_len : mg "len" = none
  b_int : mg "int" = none
  b_bool : mg "bool" = none
  b_tuple : mg "tuple" = none
  b_zip : mg "zip" = none
  b_all : mg "all" = none
  b_sum : mg "sum" = none
  b_dict : mg "dict" = none
  b_set : mg "set" = none
  b_enumerate : mg "enumerate" = none
  b_list : mg "list" = none
  b_range : mg "range" = none
  c_LONGEST : ∃ u, mg "LONGEST" = some u ∧ RelV (.int 6) u
  c_LETTERS : ∃ u, mg "LETTERS" = some u ∧ RelV (.str "abcdefghijklmnopqrstuvwxyz") u
  c_GREATEST : ∃ u, mg "GREATEST" = some u ∧ RelV (.int 999) u
  c_SHAPES : ∃ u, mg "SHAPES" = some u ∧ RelV (.ref a_SHAPES) u
  t_SHAPES : TabAt K w a_SHAPES d_SHAPES
  c_DEEP : ∃ u, mg "DEEP" = some u ∧ RelV (.int 6) u
  c_ROWS : ∃ u, mg "ROWS" = some u ∧ RelV (.int 400) u
  c_SETS : ∃ u, mg "SETS" = some u ∧ RelV (.ref a_SETS) u
  r_SETS : ∀ Fb H, Rep K Fb H (.ref a_SETS) d_SETS
  c_PARAMS : ∃ u, mg "PARAMS" = some u ∧ RelV (.int 3) u
  d_is_word : At K mg "is_word" s_is_word ["thing"]
  d_is_whole : At K mg "is_whole" s_is_whole ["thing", "low", "most"]
  d_is_part : At K mg "is_part" s_is_part ["shape", "thing"]
  d_blocks_of : At K mg "blocks_of" s_blocks_of ["row"]
  d_is_row : At K mg "is_row" s_is_row ["thing", "deep"]
  d_is_block : At K mg "is_block" s_is_block ["thing", "deep"]
  d_count_of : At K mg "count_of" s_count_of ["block"]
  d_kinds_of : At K mg "kinds_of" s_kinds_of ["row"]
  d_kinds_in : At K mg "kinds_in" s_kinds_in ["block", "known"]
  d_reads : At K mg "reads" s_reads ["row"]
  d_sets : At K mg "sets" s_sets ["row"]
  d_surely : At K mg "surely" s_surely ["block", "have"]
  d_is_program : At K mg "is_program" s_is_program ["thing"]
  d_need_program : At K mg "need_program" s_need_program ["program"]
  d_rows_in : At K mg "rows_in" s_rows_in ["block", "place"]
  d_holders : At K mg "holders" s_holders ["rows"]
  d_may_give : At K mg "may_give" s_may_give ["program"]
  d_size : At K mg "size" s_size ["program"]
  d__law_cell_at : At K mg "_law_cell_at" s__law_cell_at ["_law_script", "_law_k"]
  d__law_mixed : At K mg "_law_mixed" s__law_mixed ["_law_script", "_law_k", "_law_many"]
  d__law_draw : At K mg "_law_draw" s__law_draw ["_law_script", "_law_town", "_law_many"]
  d__law_pick : At K mg "_law_pick" s__law_pick ["_law_script", "_law_town", "_law_some"]
  d__law_simple : At K mg "_law_simple" s__law_simple ["_law_script", "_law_town", "_law_names_here", "_law_have"]
  d__law_block : At K mg "_law_block" s__law_block ["_law_script", "_law_town", "_law_names_here", "_law_have", "_law_many", "_law_deep"]
  d__law_names : At K mg "_law_names" s__law_names ["_law_script", "_law_town"]
  d__law_program : At K mg "_law_program" s__law_program ["_law_script", "_law_town", "_law_many", "_law_deep"]
  d__law_all : At K mg "_law_all" s__law_all ["_law_block_here", "_law_place"]
  d_law : At K mg "law" s_law ["_law_script"]
section
variable {w : World} {K : PySem.W.Frag} {mg : Str → Option Value} {a_SHAPES a_SETS : Addr}
theorem ok_is_word {P : Program} {base : Heap} {k : Nat} (T : Top w K mg a_SHAPES a_SETS) : Ok P w K mg base (k + 1) "is_word" [.val] (m_is_word) := by
  refine At.ok [.val] T.d_is_word sc_is_word rfl (by decide) (fun _ _ h => h) (fun fA cdv A outer s H E hr => ?_)
  have hu := room64 hr
  have hu1 := hu_of hr
  have hu0 := hu_lt hr
  exact ⟨_, (pss_one (ps_ret (pe_and (pe_callB call_isi (by rfl) T.b_isinstance PyProof.Rows.boot_isinstance (pa_cons (pv 0) (pa_cons (pe_bltn (v := .ty "str") (by rfl) T.b_str PySem.Pv.boot_str rfl) pa_nil))) (pe_and (pe_chain op_le op_le pe_int (pe_callB cr_lenA (by rfl) T.b_len PySem.boot_len (pa_cons (pv 0) pa_nil)) (pe_gv (by rfl) T.c_LONGEST) (by with_unfolding_all rfl)) (pe_one (pe_cmpR (op_eqA hu) (pe_bm PySem.F.plainAttrs_str PySem.F.slot_str_strip PySem.F.type_str_strip mt_strip' (pv 0) (pa_cons (pe_gv (by rfl) T.c_LETTERS) pa_nil)) pe_str (nomark _))))))),
    (ss_ret (se_and (se_isi isi_str se_var) (se_and (se_chain u_cmp u_cmp (se_c fun _ _ => .int) (se_n u_len (sa_cons se_var sa_nil)) (se_c fun _ _ => .int)) (se_2 u_eq (se_rm u_strip se_var (sa_cons (se_c fun _ _ => .str) sa_nil)) (se_c fun _ _ => .str)))))⟩
theorem ok_is_whole {P : Program} {base : Heap} {k : Nat} (T : Top w K mg a_SHAPES a_SETS) : Ok P w K mg base (k + 1) "is_whole" [.val, .val, .val] (m_is_whole) := by
  refine At.ok [.val, .val, .val] T.d_is_whole sc_is_whole rfl (by decide) (fun _ _ h => h) (fun fA cdv A outer s H E hr => ?_)
  have hu := room64 hr
  have hu1 := hu_of hr
  have hu0 := hu_lt hr
  exact ⟨_, (pss_one (ps_ret (pe_and (pe_callB call_isi (by rfl) T.b_isinstance PyProof.Rows.boot_isinstance (pa_cons (pv 0) (pa_cons (pe_bltn (v := .ty "int") (by rfl) T.b_int PySem.Pv.boot_int rfl) pa_nil))) (pe_and (pe_not (pe_callB call_isi (by rfl) T.b_isinstance PyProof.Rows.boot_isinstance (pa_cons (pv 0) (pa_cons (pe_bltn (v := .ty "bool") (by rfl) T.b_bool PySem.Pv.boot_bool rfl) pa_nil)))) (pe_one (pe_chain op_le op_le (pv 1) (pv 0) (pv 2) (by with_unfolding_all rfl))))))),
    (ss_ret (se_and (se_isi isi_int se_var) (se_and (se_not (se_isi isi_bool se_var)) (se_chain u_cmp u_cmp se_var se_var se_var))))⟩
theorem ok_is_part {P : Program} {base : Heap} {k : Nat} (T : Top w K mg a_SHAPES a_SETS) {g_is_whole : Mir} (C_is_whole : Ok P w K mg base k "is_whole" [.val, .val, .val] g_is_whole) {g_is_word : Mir} (C_is_word : Ok P w K mg base k "is_word" [.val] g_is_word) : Ok P w K mg base (k + 1) "is_part" [.val, .val] (m_is_part g_is_whole g_is_word) := by
  refine At.ok [.val, .val] T.d_is_part sc_is_part rfl (by decide) (fun _ _ h => h) (fun fA cdv A outer s H E hr => ?_)
  have hu := room64 hr
  have hu1 := hu_of hr
  have hu0 := hu_lt hr
  exact ⟨_, (pss_cons (ps_if (pt_cmpR (op_eqA hu) (pv 0) pe_str (nomark _)) (pss_one (ps_ret (pe_c C_is_whole hr (Nat.le_refl _) (by rfl) (pa_cons (pv 1) (pa_cons pe_int (pa_cons (pe_gv (by rfl) T.c_GREATEST) pa_nil)))))) pss_nil)
    (pss_cons (ps_if (pt_cmpR (op_eqA hu) (pv 0) pe_str (nomark _)) (pss_one (ps_ret (pe_c C_is_whole hr (Nat.le_refl _) (by rfl) (pa_cons (pv 1) (pa_cons pe_int (pa_cons pe_int pa_nil)))))) pss_nil)
    (pss_one (ps_ret (pe_c C_is_word hr (Nat.le_refl _) (by rfl) (pa_cons (pv 1) pa_nil)))))),
    (ss_seq (ss_if (st_test (se_2 u_eq se_var (se_c fun _ _ => .str))) (ss_ret (se_call (sa_cons se_var (sa_cons (se_c fun _ _ => .int) (sa_cons (se_c fun _ _ => .int) sa_nil))))) ss_next)
    (ss_seq (ss_if (st_test (se_2 u_eq se_var (se_c fun _ _ => .str))) (ss_ret (se_call (sa_cons se_var (sa_cons (se_c fun _ _ => .int) (sa_cons (se_c fun _ _ => .int) sa_nil))))) ss_next)
    (ss_ret (se_call (sa_cons se_var sa_nil)))))⟩
theorem ok_blocks_of {P : Program} {base : Heap} {k : Nat} (T : Top w K mg a_SHAPES a_SETS) : Ok P w K mg base (k + 1) "blocks_of" [.val] (m_blocks_of) := by
  refine At.ok [.val] T.d_blocks_of sc_blocks_of rfl (by decide) (fun _ _ h => h) (fun fA cdv A outer s H E hr => ?_)
  have hu := room64 hr
  have hu1 := hu_of hr
  have hu0 := hu_lt hr
  exact ⟨_, (pss_cons (ps_if (pt_cmpR (op_eqA hu) (tDGet_or (hu := hu1) (pv 0) pe_int (fun _ _ => rfl) (fun _ _ => rfl)) pe_str (nomark _)) (pss_one (ps_ret (pe_lst (pa_cons (tDGet_or (hu := hu1) (pv 0) pe_int (fun _ _ => rfl) (fun _ _ => rfl)) (pa_cons (tDGet_or (hu := hu1) (pv 0) pe_int (fun _ _ => rfl) (fun _ _ => rfl)) pa_nil))))) pss_nil)
    (pss_cons (ps_if (pt_cmpR (op_eqA hu) (tDGet_or (hu := hu1) (pv 0) pe_int (fun _ _ => rfl) (fun _ _ => rfl)) pe_str (nomark _)) (pss_one (ps_ret (pe_lst (pa_cons (tDGet_or (hu := hu1) (pv 0) pe_int (fun _ _ => rfl) (fun _ _ => rfl)) pa_nil)))) pss_nil)
    (pss_one (ps_ret (pe_lst pa_nil))))),
    (ss_seq (ss_if (st_test (se_2 u_eq (se_ix se_var (se_c fun _ _ => .int)) (se_c fun _ _ => .str))) (ss_ret (se_lst (sa_cons (se_ix se_var (se_c fun _ _ => .int)) (sa_cons (se_ix se_var (se_c fun _ _ => .int)) sa_nil)))) ss_next)
    (ss_seq (ss_if (st_test (se_2 u_eq (se_ix se_var (se_c fun _ _ => .int)) (se_c fun _ _ => .str))) (ss_ret (se_lst (sa_cons (se_ix se_var (se_c fun _ _ => .int)) sa_nil))) ss_next)
    (ss_ret (se_lst sa_nil))))⟩
theorem ok_is_row {P : Program} {base : Heap} {k : Nat} (T : Top w K mg a_SHAPES a_SETS) {g_is_part : Mir} (C_is_part : Ok P w K mg base k "is_part" [.val, .val] g_is_part) {g_is_word : Mir} (C_is_word : Ok P w K mg base k "is_word" [.val] g_is_word) {g_is_block : Mir} (C_is_block : Ok P w K mg base k "is_block" [.val, .val] g_is_block) : Ok P w K mg base (k + 1) "is_row" [.val, .val] (m_is_row g_is_part g_is_word g_is_block) := by
  refine At.ok [.val, .val] T.d_is_row sc_is_row rfl (by decide) (fun _ _ h => h) (fun fA cdv A outer s H E hr => ?_)
  have hu := room64 hr
  have hu1 := hu_of hr
  have hu0 := hu_lt hr
  exact ⟨_, (pss_cons (ps_if (pw_or (pt_not (pt_val (pe_callB call_isi (by rfl) T.b_isinstance PyProof.Rows.boot_isinstance (pa_cons (pv 0) (pa_cons (pe_bltn (v := .ty "tuple") (by rfl) T.b_tuple PySem.Pv.boot_tuple rfl) pa_nil))))) (pw_or (pt_cmpR (op_eqA hu) (pe_callB cr_lenA (by rfl) T.b_len PySem.boot_len (pa_cons (pv 0) pa_nil)) pe_int (nomark _)) (pw_or1 (pt_not (pt_val (pe_callB call_isi (by rfl) T.b_isinstance PyProof.Rows.boot_isinstance (pa_cons (tDGet_or (hu := hu1) (pv 0) pe_int (fun _ _ => rfl) (fun _ _ => rfl)) (pa_cons (pe_bltn (v := .ty "str") (by rfl) T.b_str PySem.Pv.boot_str rfl) pa_nil)))))))).pt (pss_one (ps_ret pe_bl)) pss_nil)
    (pss_cons (ps_if (pt_cmpR (op_tabIn T.t_SHAPES) (tDGet_or (hu := hu1) (pv 0) pe_int (fun _ _ => rfl) (fun _ _ => rfl)) (pe_gv (by rfl) T.c_SHAPES) (by rfl)) (pss_cons (ps_set (i := 2) sc_is_row.nd rfl (by first | exact Or.inl rfl | exact Or.inr rfl) (pe_ix (ix_tab T.t_SHAPES) (pe_gv (by rfl) T.c_SHAPES) (tDGet_or (hu := hu1) (pv 0) pe_int (fun _ _ => rfl) (fun _ _ => rfl)) (fun _ _ => rfl)))
    (pss_cons (ps_if (pt_cmpR (op_neA hu) (pe_callB cr_lenA (by rfl) T.b_len PySem.boot_len (pa_cons (pv 0) pa_nil)) (pe_op op_addA (pe_callB cr_lenA (by rfl) T.b_len PySem.boot_len (pa_cons (pv 2) pa_nil)) pe_int) (nomark _)) (pss_one (ps_ret pe_bl)) pss_nil)
    (pss_one (ps_ret (pe_callB (cr_all rfl) (by rfl) T.b_all PyProof.Rows.boot_all (pa_cons (pe_un (pe_lc (own := [("shape", 3), ("part", 4)]) (by rfl) sc_is_row.nd (pi_zip2 (by rfl) T.b_zip (pa_cons (pv 2) (pa_cons (pe_slice sl_both (pv 0) (po_some pe_int) po_none) pa_nil))) (blkOk_by (own := [("shape", 3), ("part", 4)]) (N := N_is_row) (sc := defScope s_is_row) (by decide +kernel)) (fun _ _ _ _ _ => (pg_tup rfl (pgs_cons (pg_name (i := 3) sc_is_row.nd rfl (by first | exact Or.inl rfl | exact Or.inr rfl)) (pgs_cons (pg_name (i := 4) sc_is_row.nd rfl (by first | exact Or.inl rfl | exact Or.inr rfl)) pgs_nil)))) (fun _ _ _ _ _ => pts_nil) (fun _ _ _ _ _ => (pe_c C_is_part hr (Nat.le_refl _) (by rfl) (pa_cons (pv 3) (pa_cons (pv 4) pa_nil)))))) pa_nil)))))) pss_nil)
    (pss_cons (ps_if (pt_cmpR (op_eqA hu) (tDGet_or (hu := hu1) (pv 0) pe_int (fun _ _ => rfl) (fun _ _ => rfl)) pe_str (nomark _)) (pss_one (ps_ret (pe_and (pe_cmpR (op_eqA hu) (pe_callB cr_lenA (by rfl) T.b_len PySem.boot_len (pa_cons (pv 0) pa_nil)) pe_int (nomark _)) (pe_and (pe_c C_is_word hr (Nat.le_refl _) (by rfl) (pa_cons (tDGet_or (hu := hu1) (pv 0) pe_int (fun _ _ => rfl) (fun _ _ => rfl)) pa_nil)) (pe_one (pe_callB (cr_all rfl) (by rfl) T.b_all PyProof.Rows.boot_all (pa_cons (pe_un (pe_lc (own := [("part", 4)]) (by rfl) sc_is_row.nd (pi_it (pe_slice sl_both (pv 0) (po_some pe_int) po_none)) (blkOk_by (own := [("part", 4)]) (N := N_is_row) (sc := defScope s_is_row) (by decide +kernel)) (fun _ _ _ _ _ => (pg_name (i := 4) sc_is_row.nd rfl (by first | exact Or.inl rfl | exact Or.inr rfl))) (fun _ _ _ _ _ => pts_nil) (fun _ _ _ _ _ => (pe_c C_is_block hr (Nat.le_refl _) (by rfl) (pa_cons (pv 4) (pa_cons (pe_op op_addA (pv 1) pe_int) pa_nil)))))) pa_nil))))))) pss_nil)
    (pss_one (ps_ret (pe_and (pe_cmpR (op_eqA hu) (tDGet_or (hu := hu1) (pv 0) pe_int (fun _ _ => rfl) (fun _ _ => rfl)) pe_str (nomark _)) (pe_and (pe_cmpR (op_eqA hu) (pe_callB cr_lenA (by rfl) T.b_len PySem.boot_len (pa_cons (pv 0) pa_nil)) pe_int (nomark _)) (pe_and (pe_c C_is_word hr (Nat.le_refl _) (by rfl) (pa_cons (tDGet_or (hu := hu1) (pv 0) pe_int (fun _ _ => rfl) (fun _ _ => rfl)) pa_nil)) (pe_one (pe_c C_is_block hr (Nat.le_refl _) (by rfl) (pa_cons (tDGet_or (hu := hu1) (pv 0) pe_int (fun _ _ => rfl) (fun _ _ => rfl)) (pa_cons (pe_op op_addA (pv 1) pe_int) pa_nil)))))))))))),
    (ss_seq (ss_if (st_or (st_not (st_b (se_isi isi_tuple se_var))) (st_or (st_test (se_2 u_eq (se_n u_len (sa_cons se_var sa_nil)) (se_c fun _ _ => .int))) (st_not (st_b (se_isi isi_str (se_ix se_var (se_c fun _ _ => .int))))))) (ss_ret (se_c fun _ _ => .bl)) ss_next)
    (ss_seq (ss_if (st_test (se_tabIn (se_ix se_var (se_c fun _ _ => .int)))) (ss_seq (ss_set (se_tabAt (se_ix se_var (se_c fun _ _ => .int))))
    (ss_seq (ss_if (st_test (se_2 u_ne (se_n u_len (sa_cons se_var sa_nil)) (se_2 u_add (se_n u_len (sa_cons se_var sa_nil)) (se_c fun _ _ => .int)))) (ss_ret (se_c fun _ _ => .bl)) ss_next)
    (ss_ret (se_n u_all (sa_cons (se_lc (vs := [3, 4]) (si_zip (sa_cons se_var (sa_cons (se_sl se_var (so_some (se_c fun _ _ => .int)) so_none) sa_nil))) (sg_tup (sgs_cons (sg_name (by decide)) (sgs_cons (sg_name (by decide)) sgs_nil))) st_yes (se_call (sa_cons se_var (sa_cons se_var sa_nil)))) sa_nil))))) ss_next)
    (ss_seq (ss_if (st_test (se_2 u_eq (se_ix se_var (se_c fun _ _ => .int)) (se_c fun _ _ => .str))) (ss_ret (se_and (se_2 u_eq (se_n u_len (sa_cons se_var sa_nil)) (se_c fun _ _ => .int)) (se_and (se_call (sa_cons (se_ix se_var (se_c fun _ _ => .int)) sa_nil)) (se_n u_all (sa_cons (se_lc (vs := [4]) (si_it (se_sl se_var (so_some (se_c fun _ _ => .int)) so_none)) (sg_name (by decide)) st_yes (se_call (sa_cons se_var (sa_cons (se_2 u_add se_var (se_c fun _ _ => .int)) sa_nil)))) sa_nil))))) ss_next)
    (ss_ret (se_and (se_2 u_eq (se_ix se_var (se_c fun _ _ => .int)) (se_c fun _ _ => .str)) (se_and (se_2 u_eq (se_n u_len (sa_cons se_var sa_nil)) (se_c fun _ _ => .int)) (se_and (se_call (sa_cons (se_ix se_var (se_c fun _ _ => .int)) sa_nil)) (se_call (sa_cons (se_ix se_var (se_c fun _ _ => .int)) (sa_cons (se_2 u_add se_var (se_c fun _ _ => .int)) sa_nil))))))))))⟩
theorem ok_is_block {P : Program} {base : Heap} {k : Nat} (T : Top w K mg a_SHAPES a_SETS) {g_is_row : Mir} (C_is_row : Ok P w K mg base k "is_row" [.val, .val] g_is_row) : Ok P w K mg base (k + 1) "is_block" [.val, .val] (m_is_block g_is_row) := by
  refine At.ok [.val, .val] T.d_is_block sc_is_block rfl (by decide) (fun _ _ h => h) (fun fA cdv A outer s H E hr => ?_)
  have hu := room64 hr
  have hu1 := hu_of hr
  have hu0 := hu_lt hr
  exact ⟨_, (pss_cons (ps_if (pw_or (pt_not (pt_val (pe_callB call_isi (by rfl) T.b_isinstance PyProof.Rows.boot_isinstance (pa_cons (pv 0) (pa_cons (pe_bltn (v := .ty "tuple") (by rfl) T.b_tuple PySem.Pv.boot_tuple rfl) pa_nil))))) (pw_or (pt_cmpR op_gt (pv 1) (pe_gv (by rfl) T.c_DEEP) (nomark _)) (pw_or1 (pt_cmpR op_gt (pe_callB cr_lenA (by rfl) T.b_len PySem.boot_len (pa_cons (pv 0) pa_nil)) (pe_gv (by rfl) T.c_ROWS) (nomark _))))).pt (pss_one (ps_ret pe_bl)) pss_nil)
    (pss_one (ps_ret (pe_callB (cr_all rfl) (by rfl) T.b_all PyProof.Rows.boot_all (pa_cons (pe_un (pe_lc (own := [("one", 2)]) (by rfl) sc_is_block.nd (pi_it (pv 0)) (blkOk_by (own := [("one", 2)]) (N := N_is_block) (sc := defScope s_is_block) (by decide +kernel)) (fun _ _ _ _ _ => (pg_name (i := 2) sc_is_block.nd rfl (by first | exact Or.inl rfl | exact Or.inr rfl))) (fun _ _ _ _ _ => pts_nil) (fun _ _ _ _ _ => (pe_c C_is_row hr (Nat.le_refl _) (by rfl) (pa_cons (pv 2) (pa_cons (pv 1) pa_nil)))))) pa_nil))))),
    (ss_seq (ss_if (st_or (st_not (st_b (se_isi isi_tuple se_var))) (st_or (st_test (se_2 u_cmp se_var (se_c fun _ _ => .int))) (st_test (se_2 u_cmp (se_n u_len (sa_cons se_var sa_nil)) (se_c fun _ _ => .int))))) (ss_ret (se_c fun _ _ => .bl)) ss_next)
    (ss_ret (se_n u_all (sa_cons (se_lc (vs := [2]) (si_it se_var) (sg_name (by decide)) st_yes (se_call (sa_cons se_var (sa_cons se_var sa_nil)))) sa_nil))))⟩
theorem ok_count_of {P : Program} {base : Heap} {k : Nat} (T : Top w K mg a_SHAPES a_SETS) {g_blocks_of : Mir} (C_blocks_of : Ok P w K mg base k "blocks_of" [.val] g_blocks_of) {g_count_of : Mir} (C_count_of : Ok P w K mg base k "count_of" [.val] g_count_of) : Ok P w K mg base (k + 1) "count_of" [.val] (m_count_of g_blocks_of g_count_of) := by
  refine At.ok [.val] T.d_count_of sc_count_of rfl (by decide) (fun _ _ h => h) (fun fA cdv A outer s H E hr => ?_)
  have hu := room64 hr
  have hu1 := hu_of hr
  have hu0 := hu_lt hr
  exact ⟨_, (pss_one (ps_ret (pe_callB (cr_sum rfl) (by rfl) T.b_sum PyProof.Rows.boot_sum (pa_cons (pe_un (pe_lc (own := [("row", 1)]) (by rfl) sc_count_of.nd (pi_it (pv 0)) (blkOk_by (own := [("row", 1)]) (N := N_count_of) (sc := defScope s_count_of) (by decide +kernel)) (fun _ _ _ _ _ => (pg_name (i := 1) sc_count_of.nd rfl (by first | exact Or.inl rfl | exact Or.inr rfl))) (fun _ _ _ _ _ => pts_nil) (fun _ _ _ _ _ => (pe_op op_addA pe_int (pe_callB (cr_sum rfl) (by rfl) T.b_sum PyProof.Rows.boot_sum (pa_cons (pe_unF (pe_lc (own := [("part", 2)]) (by rfl) sc_count_of.nd (pi_any (pe_c C_blocks_of hr (Nat.le_refl _) (by rfl) (pa_cons (pv 1) pa_nil))) (blkOk_by (own := [("part", 2)]) (N := N_count_of) (sc := _) (by rfl)) (fun _ _ _ _ _ => (pg_name (i := 2) sc_count_of.nd rfl (by first | exact Or.inl rfl | exact Or.inr rfl))) (fun _ _ _ _ _ => pts_nil) (fun _ _ _ _ _ => (pe_c C_count_of hr (Nat.le_refl _) (by rfl) (pa_cons (pv 2) pa_nil))))) pa_nil)))))) pa_nil)))),
    (ss_ret (se_n u_sum (sa_cons (se_lc (vs := [1]) (si_it se_var) (sg_name (by decide)) st_yes (se_2 u_add (se_c fun _ _ => .int) (se_n u_sum (sa_cons (se_lc (vs := [2]) (si_any (se_call (sa_cons se_var sa_nil))) (sg_name (by decide)) st_yes (se_call (sa_cons se_var sa_nil))) sa_nil)))) sa_nil)))⟩
theorem ok_kinds_of {P : Program} {base : Heap} {k : Nat} (T : Top w K mg a_SHAPES a_SETS) : Ok P w K mg base (k + 1) "kinds_of" [.val] (m_kinds_of) := by
  refine At.ok [.val] T.d_kinds_of sc_kinds_of rfl (by decide) (fun _ _ h => h) (fun fA cdv A outer s H E hr => ?_)
  have hu := room64 hr
  have hu1 := hu_of hr
  have hu0 := hu_lt hr
  exact ⟨_, (pss_cons (ps_if (pt_cmpR (op_tabIn T.t_SHAPES) (tDGet_or (hu := hu1) (pv 0) pe_int (fun _ _ => rfl) (fun _ _ => rfl)) (pe_gv (by rfl) T.c_SHAPES) (by rfl)) (pss_one (ps_ret (pe_un (pe_lc (own := [("shape", 1), ("part", 2)]) (by rfl) sc_kinds_of.nd (pi_zip2 (by rfl) T.b_zip (pa_cons (pe_ix (ix_tab T.t_SHAPES) (pe_gv (by rfl) T.c_SHAPES) (tDGet_or (hu := hu1) (pv 0) pe_int (fun _ _ => rfl) (fun _ _ => rfl)) (fun _ _ => rfl)) (pa_cons (pe_slice sl_both (pv 0) (po_some pe_int) po_none) pa_nil))) (blkOk_by (own := [("shape", 1), ("part", 2)]) (N := N_kinds_of) (sc := defScope s_kinds_of) (by decide +kernel)) (fun _ _ _ _ _ => (pg_tup rfl (pgs_cons (pg_name (i := 1) sc_kinds_of.nd rfl (by first | exact Or.inl rfl | exact Or.inr rfl)) (pgs_cons (pg_name (i := 2) sc_kinds_of.nd rfl (by first | exact Or.inl rfl | exact Or.inr rfl)) pgs_nil)))) (fun _ _ _ _ _ => (pts_one (pt_in hu (pv 1) pe_str (by with_unfolding_all rfl)))) (fun _ _ _ _ _ => (pe_tup (pa_cons (pv 2) (pa_cons (pv 1) pa_nil)))))))) pss_nil)
    (pss_one (ps_ret (pe_lst (pa_cons (pe_tup (pa_cons (tDGet_or (hu := hu1) (pv 0) pe_int (fun _ _ => rfl) (fun _ _ => rfl)) (pa_cons pe_str pa_nil))) pa_nil))))),
    (ss_seq (ss_if (st_test (se_tabIn (se_ix se_var (se_c fun _ _ => .int)))) (ss_ret (se_lc (vs := [1, 2]) (si_zip (sa_cons (se_tabAt (se_ix se_var (se_c fun _ _ => .int))) (sa_cons (se_sl se_var (so_some (se_c fun _ _ => .int)) so_none) sa_nil))) (sg_tup (sgs_cons (sg_name (by decide)) (sgs_cons (sg_name (by decide)) sgs_nil))) (st_b (se_in se_var (se_c fun _ _ => .str))) (se_tup (sa_cons se_var (sa_cons se_var sa_nil))))) ss_next)
    (ss_ret (se_lst (sa_cons (se_tup (sa_cons (se_ix se_var (se_c fun _ _ => .int)) (sa_cons (se_c fun _ _ => .str) sa_nil))) sa_nil))))⟩
theorem ok_kinds_in {P : Program} {base : Heap} {k : Nat} (T : Top w K mg a_SHAPES a_SETS) {g_kinds_of : Mir} (C_kinds_of : Ok P w K mg base k "kinds_of" [.val] g_kinds_of) {g_blocks_of : Mir} (C_blocks_of : Ok P w K mg base k "blocks_of" [.val] g_blocks_of) {g_kinds_in : Mir} (C_kinds_in : Ok P w K mg base k "kinds_in" [.val, .io] g_kinds_in) : Ok P w K mg base (k + 1) "kinds_in" [.val, .io] (m_kinds_in g_kinds_of g_blocks_of g_kinds_in) := by
  refine At.ok [.val, .io] T.d_kinds_in sc_kinds_in rfl (by decide) (fun _ _ h => h) (fun fA cdv A outer s H E hr => ?_)
  have hu := room64 hr
  have hu1 := hu_of hr
  have hu0 := hu_lt hr
  exact ⟨_, (pss_cons (ps_un (ps_for PassesOwn.never rfl (pi_it (pv 0)) (pg_name (i := 2) sc_kinds_in.nd rfl (by first | exact Or.inl rfl | exact Or.inr rfl)) (pss_cons (ps_un (ps_for PassesOwn.never rfl (pi_it (pe_c C_kinds_of hr (Nat.le_refl _) (by rfl) (pa_cons (pv 2) pa_nil))) (pg_tup rfl (pgs_cons (pg_name (i := 3) sc_kinds_in.nd rfl (by first | exact Or.inl rfl | exact Or.inr rfl)) (pgs_cons (pg_name (i := 4) sc_kinds_in.nd rfl (by first | exact Or.inl rfl | exact Or.inr rfl)) pgs_nil))) (pss_one (ps_if (pt_cmpR (op_neA hu) (pe_dsetd (pv 1) (pv 3) (pv 4) ⟨rfl, rfl, rfl, rfl⟩) (pv 4) (nomark _)) (pss_one (ps_ret pe_bl)) pss_nil))))
    (pss_one (ps_if (pt_not (pt_val (pe_callB (cr_all rfl) (by rfl) T.b_all PyProof.Rows.boot_all (pa_cons (pe_un (pe_lc (own := [("part", 5)]) (by rfl) sc_kinds_in.nd (pi_it (pe_c C_blocks_of hr (Nat.le_refl _) (by rfl) (pa_cons (pv 2) pa_nil))) (blkOk_by (own := [("part", 5)]) (N := N_kinds_in) (sc := defScope s_kinds_in) (by decide +kernel)) (fun _ _ _ _ _ => (pg_name (i := 5) sc_kinds_in.nd rfl (by first | exact Or.inl rfl | exact Or.inr rfl))) (fun _ _ _ _ _ => pts_nil) (fun _ _ _ _ _ => (pe_c C_kinds_in hr (Nat.le_refl _) (by rfl) (pa_cons (pv 5) (pa_cons (pv 1) pa_nil)))))) pa_nil)))) (pss_one (ps_ret pe_bl)) pss_nil)))))
    (pss_one (ps_ret pe_bl))),
    (ss_seq (ss_for (ws := [2]) (si_it se_var) (sg_name (by decide)) (ss_fgt (ss_seq (ss_for (ws := [4, 3]) (si_it (se_call (sa_cons se_var sa_nil))) (sg_tup (sgs_cons (sg_name (by decide)) (sgs_cons (sg_name (by decide)) sgs_nil))) (ss_fgt (ss_if (st_test (se_2 u_ne (se_setd se_var se_var se_var) se_var)) (ss_ret (se_c fun _ _ => .bl)) ss_next)))
    (ss_if (st_not (st_b (se_n u_all (sa_cons (se_lc (vs := [5]) (si_it (se_call (sa_cons se_var sa_nil))) (sg_name (by decide)) st_yes (se_call (sa_cons se_var (sa_cons se_var sa_nil)))) sa_nil)))) (ss_ret (se_c fun _ _ => .bl)) ss_next))))
    (ss_ret (se_c fun _ _ => .bl)))⟩
theorem ok_reads {P : Program} {base : Heap} {k : Nat} (T : Top w K mg a_SHAPES a_SETS) {g_kinds_of : Mir} (C_kinds_of : Ok P w K mg base k "kinds_of" [.val] g_kinds_of) : Ok P w K mg base (k + 1) "reads" [.val] (m_reads g_kinds_of) := by
  refine At.ok [.val] T.d_reads sc_reads rfl (by decide) (fun _ _ h => h) (fun fA cdv A outer s H E hr => ?_)
  have hu := room64 hr
  have hu1 := hu_of hr
  have hu0 := hu_lt hr
  exact ⟨_, (pss_cons (ps_un (ps_setLc (i := 1) (own := [("name", 2), ("kind", 3)]) (by rfl) sc_reads.nd rfl rfl (sw_true rfl rfl rfl (by decide +kernel)) (pi_it (pe_c C_kinds_of hr (Nat.le_refl _) (by rfl) (pa_cons (pv 0) pa_nil))) (blkOk_by (own := [("name", 2), ("kind", 3)]) (N := N_reads) (sc := defScope s_reads) (by decide +kernel)) (fun _ _ _ _ _ => (pg_tup rfl (pgs_cons (pg_name (i := 2) sc_reads.nd rfl (by first | exact Or.inl rfl | exact Or.inr rfl)) (pgs_cons (pg_name (i := 3) sc_reads.nd rfl (by first | exact Or.inl rfl | exact Or.inr rfl)) pgs_nil)))) (fun _ _ _ _ _ => pts_nil) (fun _ _ _ _ _ => (pv 2))))
    (pss_cons (ps_if (pt_in hu (tDGet_or (hu := hu1) (pv 0) pe_int (fun _ _ => rfl) (fun _ _ => rfl)) (pe_gv (by rfl) T.c_SETS) (by with_unfolding_all rfl)) (pss_one (ps_ret (pe_slice sl_both (pv 1) (po_some pe_int) po_none))) pss_nil)
    (pss_one (ps_ret (pv 1))))),
    (ss_seq (ss_setU (ss_set (se_lc (vs := [2, 3]) (si_it (se_call (sa_cons se_var sa_nil))) (sg_tup (sgs_cons (sg_name (by decide)) (sgs_cons (sg_name (by decide)) sgs_nil))) st_yes se_var)))
    (ss_seq (ss_if (st_b (se_in (se_ix se_var (se_c fun _ _ => .int)) (se_c T.r_SETS))) (ss_ret (se_sl se_var (so_some (se_c fun _ _ => .int)) so_none)) ss_next)
    (ss_ret se_var)))⟩
theorem ok_sets {P : Program} {base : Heap} {k : Nat} (T : Top w K mg a_SHAPES a_SETS) : Ok P w K mg base (k + 1) "sets" [.val] (m_sets) := by
  refine At.ok [.val] T.d_sets sc_sets rfl (by decide) (fun _ _ h => h) (fun fA cdv A outer s H E hr => ?_)
  have hu := room64 hr
  have hu1 := hu_of hr
  have hu0 := hu_lt hr
  exact ⟨_, (pss_cons (ps_if (pt_in hu (tDGet_or (hu := hu1) (pv 0) pe_int (fun _ _ => rfl) (fun _ _ => rfl)) (pe_gv (by rfl) T.c_SETS) (by with_unfolding_all rfl)) (pss_one (ps_ret (tDGet_or (hu := hu1) (pv 0) pe_int (fun _ _ => rfl) (fun _ _ => rfl)))) pss_nil)
    (pss_one (ps_ret pe_non))),
    (ss_seq (ss_if (st_b (se_in (se_ix se_var (se_c fun _ _ => .int)) (se_c T.r_SETS))) (ss_ret (se_ix se_var (se_c fun _ _ => .int))) ss_next)
    (ss_ret (se_c fun _ _ => .non)))⟩
theorem ok_surely {P : Program} {base : Heap} {k : Nat} (T : Top w K mg a_SHAPES a_SETS) {g_reads : Mir} (C_reads : Ok P w K mg base k "reads" [.val] g_reads) {g_blocks_of : Mir} (C_blocks_of : Ok P w K mg base k "blocks_of" [.val] g_blocks_of) {g_surely : Mir} (C_surely : Ok P w K mg base k "surely" [.val, .bor] g_surely) {g_sets : Mir} (C_sets : Ok P w K mg base k "sets" [.val] g_sets) : Ok P w K mg base (k + 1) "surely" [.val, .bor] (m_surely g_reads g_blocks_of g_surely g_sets) := by
  refine At.ok [.val, .bor] T.d_surely sc_surely rfl (by decide) (fun _ _ h => h) (fun fA cdv A outer s H E hr => ?_)
  have hu := room64 hr
  have hu1 := hu_of hr
  have hu0 := hu_lt hr
  exact ⟨_, (pss_cons (ps_set (i := 1) sc_surely.nd rfl (by first | exact Or.inl rfl | exact Or.inr rfl) (pe_callTy (cr_dictA rfl) (by rfl) T.b_dict PySem.Pv.boot_dict (pa_cons (pv 1) pa_nil)))
    (pss_cons (ps_un (ps_for PassesOwn.never rfl (pi_it (pv 0)) (pg_name (i := 2) sc_surely.nd rfl (by first | exact Or.inl rfl | exact Or.inr rfl)) (pss_cons (ps_if (pt_not (pt_val (pe_callB (cr_all rfl) (by rfl) T.b_all PyProof.Rows.boot_all (pa_cons (pe_un (pe_lc (own := [("name", 4)]) (by rfl) sc_surely.nd (pi_it (pe_c C_reads hr (Nat.le_refl _) (by rfl) (pa_cons (pv 2) pa_nil))) (blkOk_by (own := [("name", 4)]) (N := N_surely) (sc := defScope s_surely) (by decide +kernel)) (fun _ _ _ _ _ => (pg_name (i := 4) sc_surely.nd rfl (by first | exact Or.inl rfl | exact Or.inr rfl))) (fun _ _ _ _ _ => pts_nil) (fun _ _ _ _ _ => (pe_in hu (pv 4) (pv 1) (by with_unfolding_all rfl))))) pa_nil)))) (pss_one (ps_ret pe_non)) pss_nil)
    (pss_cons (ps_un (ps_setLc (i := 3) (own := [("part", 5)]) (by rfl) sc_surely.nd rfl rfl (sw_true rfl rfl rfl (by decide +kernel)) (pi_it (pe_c C_blocks_of hr (Nat.le_refl _) (by rfl) (pa_cons (pv 2) pa_nil))) (blkOk_by (own := [("part", 5)]) (N := N_surely) (sc := defScope s_surely) (by decide +kernel)) (fun _ _ _ _ _ => (pg_name (i := 5) sc_surely.nd rfl (by first | exact Or.inl rfl | exact Or.inr rfl))) (fun _ _ _ _ _ => pts_nil) (fun _ _ _ _ _ => (pe_c C_surely hr (Nat.le_refl _) (by rfl) (pa_cons (pv 5) (pa_cons (pv 1) pa_nil))))))
    (pss_cons (ps_if (pt_in hu pe_non (pv 3) (by with_unfolding_all rfl)) (pss_one (ps_ret pe_non)) pss_nil)
    (pss_cons (ps_if (pt_cmpR (op_eqA hu) (tDGet_or (hu := hu1) (pv 2) pe_int (fun _ _ => rfl) (fun _ _ => rfl)) pe_str (nomark _)) (pss_one (ps_un (ps_for PassesOwn.never rfl (pi_it (tDGet_or (hu := hu1) (pv 3) pe_int (fun _ _ => rfl) (fun _ _ => rfl))) (pg_name (i := 4) sc_surely.nd rfl (by first | exact Or.inl rfl | exact Or.inr rfl)) (pss_one (ps_if (pt_in hu (pv 4) (tDGet_or (hu := hu1) (pv 3) pe_int (fun _ _ => rfl) (fun _ _ => rfl)) (by with_unfolding_all rfl)) (pss_one (ps_dput hu1 (pv 1) (pv 4) pe_bl rfl)) pss_nil))))) pss_nil)
    (pss_one (ps_if (pt_cmpR op_notN (pe_c C_sets hr (Nat.le_refl _) (by rfl) (pa_cons (pv 2) pa_nil)) pe_non (nomark _)) (pss_one (ps_dput hu1 (pv 1) (pe_c C_sets hr (Nat.le_refl _) (by rfl) (pa_cons (pv 2) pa_nil)) pe_bl rfl)) pss_nil))))))))
    (pss_one (ps_ret (pv 1))))),
    (ss_seq (ss_set (se_n u_dict (sa_cons se_var sa_nil)))
    (ss_seq (ss_for (ws := [2]) (si_it se_var) (sg_name (by decide)) (ss_fgt (ss_seq (ss_if (st_not (st_b (se_n u_all (sa_cons (se_lc (vs := [4]) (si_it (se_call (sa_cons se_var sa_nil))) (sg_name (by decide)) st_yes (se_in se_var se_var)) sa_nil)))) (ss_ret (se_c fun _ _ => .non)) ss_next)
    (ss_seq (ss_setU (ss_set (se_lc (vs := [5]) (si_it (se_call (sa_cons se_var sa_nil))) (sg_name (by decide)) st_yes (se_call (sa_cons se_var (sa_cons se_var sa_nil))))))
    (ss_seq (ss_if (st_b (se_in (se_c fun _ _ => .non) se_var)) (ss_ret (se_c fun _ _ => .non)) ss_next)
    (ss_seq (ss_if (st_test (se_2 u_eq (se_ix se_var (se_c fun _ _ => .int)) (se_c fun _ _ => .str))) (ss_for (ws := [4]) (si_it (se_ix se_var (se_c fun _ _ => .int))) (sg_name (by decide)) (ss_fgt (ss_if (st_b (se_in se_var (se_ix se_var (se_c fun _ _ => .int)))) (ss_put se_var se_var (se_c fun _ _ => .bl)) ss_next))) ss_next)
    (ss_if (st_test (se_2 u_notN (se_call (sa_cons se_var sa_nil)) (se_c fun _ _ => .non))) (ss_put se_var (se_call (sa_cons se_var sa_nil)) (se_c fun _ _ => .bl)) ss_next)))))))
    (ss_ret se_var)))⟩
theorem ok_is_program {P : Program} {base : Heap} {k : Nat} (T : Top w K mg a_SHAPES a_SETS) {g_is_word : Mir} (C_is_word : Ok P w K mg base k "is_word" [.val] g_is_word) {g_is_block : Mir} (C_is_block : Ok P w K mg base k "is_block" [.val, .val] g_is_block) {g_count_of : Mir} (C_count_of : Ok P w K mg base k "count_of" [.val] g_count_of) {g_kinds_in : Mir} (C_kinds_in : Ok P w K mg base k "kinds_in" [.val, .io] g_kinds_in) {g_surely : Mir} (C_surely : Ok P w K mg base k "surely" [.val, .bor] g_surely) : Ok P w K mg base (k + 1) "is_program" [.val] (m_is_program g_is_word g_is_block g_count_of g_kinds_in g_surely) := by
  refine At.ok [.val] T.d_is_program sc_is_program rfl (by decide) (fun _ _ h => h) (fun fA cdv A outer s H E hr => ?_)
  have hu := room64 hr
  have hu1 := hu_of hr
  have hu0 := hu_lt hr
  exact ⟨_, (pss_cons (ps_if (pw_or (pt_not (pt_val (pe_callB call_isi (by rfl) T.b_isinstance PyProof.Rows.boot_isinstance (pa_cons (pv 0) (pa_cons (pe_bltn (v := .ty "tuple") (by rfl) T.b_tuple PySem.Pv.boot_tuple rfl) pa_nil))))) (pw_or (pt_cmpR (op_neA hu) (pe_callB cr_lenA (by rfl) T.b_len PySem.boot_len (pa_cons (pv 0) pa_nil)) pe_int (nomark _)) (pw_or (pt_not (pt_val (pe_callB call_isi (by rfl) T.b_isinstance PyProof.Rows.boot_isinstance (pa_cons (tDGet_or (hu := hu1) (pv 0) pe_int (fun _ _ => rfl) (fun _ _ => rfl)) (pa_cons (pe_bltn (v := .ty "tuple") (by rfl) T.b_tuple PySem.Pv.boot_tuple rfl) pa_nil))))) (pw_or1 (pt_cmpR op_gt (pe_callB cr_lenA (by rfl) T.b_len PySem.boot_len (pa_cons (tDGet_or (hu := hu1) (pv 0) pe_int (fun _ _ => rfl) (fun _ _ => rfl)) pa_nil)) (pe_gv (by rfl) T.c_PARAMS) (nomark _)))))).pt (pss_one (ps_ret pe_bl)) pss_nil)
    (pss_cons (ps_if (pw_or (pt_not (pt_val (pe_callB (cr_all rfl) (by rfl) T.b_all PyProof.Rows.boot_all (pa_cons (pe_un (pe_lc (own := [("name", 2)]) (by rfl) sc_is_program.nd (pi_it (tDGet_or (hu := hu1) (pv 0) pe_int (fun _ _ => rfl) (fun _ _ => rfl))) (blkOk_by (own := [("name", 2)]) (N := N_is_program) (sc := defScope s_is_program) (by decide +kernel)) (fun _ _ _ _ _ => (pg_name (i := 2) sc_is_program.nd rfl (by first | exact Or.inl rfl | exact Or.inr rfl))) (fun _ _ _ _ _ => pts_nil) (fun _ _ _ _ _ => (pe_c C_is_word hr (Nat.le_refl _) (by rfl) (pa_cons (pv 2) pa_nil))))) pa_nil)))) (pw_or1 (pt_cmpR (op_neA hu) (pe_lenSetT rfl (by rfl) T.b_len (by rfl) T.b_set (tDGet_or (hu := hu1) (pv 0) pe_int (fun _ _ => rfl) (fun _ _ => rfl))) (pe_callB cr_lenA (by rfl) T.b_len PySem.boot_len (pa_cons (tDGet_or (hu := hu1) (pv 0) pe_int (fun _ _ => rfl) (fun _ _ => rfl)) pa_nil)) (nomark _)))).pt (pss_one (ps_ret pe_bl)) pss_nil)
    (pss_cons (ps_if (pw_or (pt_not (pt_val (pe_c C_is_block hr (Nat.le_refl _) (by rfl) (pa_cons (tDGet_or (hu := hu1) (pv 0) pe_int (fun _ _ => rfl) (fun _ _ => rfl)) (pa_cons pe_int pa_nil))))) (pw_or1 (pt_cmpR op_gt (pe_c C_count_of hr (Nat.le_refl _) (by rfl) (pa_cons (tDGet_or (hu := hu1) (pv 0) pe_int (fun _ _ => rfl) (fun _ _ => rfl)) pa_nil)) (pe_gv (by rfl) T.c_ROWS) (nomark _)))).pt (pss_one (ps_ret pe_bl)) pss_nil)
    (pss_cons (ps_set (i := 1) sc_is_program.nd rfl (by first | exact Or.inl rfl | exact Or.inr rfl) (pe_callTy (cr_dictA rfl) (by rfl) T.b_dict PySem.Pv.boot_dict (pa_cons (pe_un (pe_lc (own := [("name", 2)]) (by rfl) sc_is_program.nd (pi_it (tDGet_or (hu := hu1) (pv 0) pe_int (fun _ _ => rfl) (fun _ _ => rfl))) (blkOk_by (own := [("name", 2)]) (N := N_is_program) (sc := defScope s_is_program) (by decide +kernel)) (fun _ _ _ _ _ => (pg_name (i := 2) sc_is_program.nd rfl (by first | exact Or.inl rfl | exact Or.inr rfl))) (fun _ _ _ _ _ => pts_nil) (fun _ _ _ _ _ => (pe_tup (pa_cons (pv 2) (pa_cons pe_str pa_nil)))))) pa_nil)))
    (pss_cons (ps_if (pt_not (pt_val (pe_c C_kinds_in hr (Nat.le_refl _) (by rfl) (pa_cons (tDGet_or (hu := hu1) (pv 0) pe_int (fun _ _ => rfl) (fun _ _ => rfl)) (pa_cons (pv 1) pa_nil))))) (pss_one (ps_ret pe_bl)) pss_nil)
    (pss_one (ps_ret (pe_cmpR op_notN (pe_c C_surely hr (Nat.le_refl _) (by rfl) (pa_cons (tDGet_or (hu := hu1) (pv 0) pe_int (fun _ _ => rfl) (fun _ _ => rfl)) (pa_cons (pe_callTy (cr_dictA rfl) (by rfl) T.b_dict PySem.Pv.boot_dict (pa_cons (pe_un (pe_lc (own := [("name", 2)]) (by rfl) sc_is_program.nd (pi_it (tDGet_or (hu := hu1) (pv 0) pe_int (fun _ _ => rfl) (fun _ _ => rfl))) (blkOk_by (own := [("name", 2)]) (N := N_is_program) (sc := defScope s_is_program) (by decide +kernel)) (fun _ _ _ _ _ => (pg_name (i := 2) sc_is_program.nd rfl (by first | exact Or.inl rfl | exact Or.inr rfl))) (fun _ _ _ _ _ => pts_nil) (fun _ _ _ _ _ => (pe_tup (pa_cons (pv 2) (pa_cons pe_bl pa_nil)))))) pa_nil)) pa_nil))) pe_non (nomark _))))))))),
    (ss_seq (ss_if (st_or (st_not (st_b (se_isi isi_tuple se_var))) (st_or (st_test (se_2 u_ne (se_n u_len (sa_cons se_var sa_nil)) (se_c fun _ _ => .int))) (st_or (st_not (st_b (se_isi isi_tuple (se_ix se_var (se_c fun _ _ => .int))))) (st_test (se_2 u_cmp (se_n u_len (sa_cons (se_ix se_var (se_c fun _ _ => .int)) sa_nil)) (se_c fun _ _ => .int)))))) (ss_ret (se_c fun _ _ => .bl)) ss_next)
    (ss_seq (ss_if (st_or (st_not (st_b (se_n u_all (sa_cons (se_lc (vs := [2]) (si_it (se_ix se_var (se_c fun _ _ => .int))) (sg_name (by decide)) st_yes (se_call (sa_cons se_var sa_nil))) sa_nil)))) (st_test (se_2 u_ne (se_lenSet (se_ix se_var (se_c fun _ _ => .int))) (se_n u_len (sa_cons (se_ix se_var (se_c fun _ _ => .int)) sa_nil))))) (ss_ret (se_c fun _ _ => .bl)) ss_next)
    (ss_seq (ss_if (st_or (st_not (st_b (se_call (sa_cons (se_ix se_var (se_c fun _ _ => .int)) (sa_cons (se_c fun _ _ => .int) sa_nil))))) (st_test (se_2 u_cmp (se_call (sa_cons (se_ix se_var (se_c fun _ _ => .int)) sa_nil)) (se_c fun _ _ => .int)))) (ss_ret (se_c fun _ _ => .bl)) ss_next)
    (ss_seq (ss_set (se_n u_dict (sa_cons (se_lc (vs := [2]) (si_it (se_ix se_var (se_c fun _ _ => .int))) (sg_name (by decide)) st_yes (se_tup (sa_cons se_var (sa_cons (se_c fun _ _ => .str) sa_nil)))) sa_nil)))
    (ss_seq (ss_if (st_not (st_b (se_call (sa_cons (se_ix se_var (se_c fun _ _ => .int)) (sa_cons se_var sa_nil))))) (ss_ret (se_c fun _ _ => .bl)) ss_next)
    (ss_ret (se_2 u_notN (se_call (sa_cons (se_ix se_var (se_c fun _ _ => .int)) (sa_cons (se_n u_dict (sa_cons (se_lc (vs := [2]) (si_it (se_ix se_var (se_c fun _ _ => .int))) (sg_name (by decide)) st_yes (se_tup (sa_cons se_var (sa_cons (se_c fun _ _ => .bl) sa_nil)))) sa_nil)) sa_nil))) (se_c fun _ _ => .non))))))))⟩
theorem ok_need_program {P : Program} {base : Heap} {k : Nat} (T : Top w K mg a_SHAPES a_SETS) {g_is_program : Mir} (C_is_program : Ok P w K mg base k "is_program" [.val] g_is_program) : Ok P w K mg base (k + 1) "need_program" [.val] (m_need_program g_is_program) := by
  refine At.ok [.val] T.d_need_program sc_need_program rfl (by decide) (fun _ _ h => h) (fun fA cdv A outer s H E hr => ?_)
  have hu := room64 hr
  have hu1 := hu_of hr
  have hu0 := hu_lt hr
  exact ⟨_, (pss_one (ps_if (pt_not (pt_val (pe_c C_is_program hr (Nat.le_refl _) (by rfl) (pa_cons (pv 0) pa_nil)))) (pss_one ps_never) pss_nil)),
    (ss_if (st_not (st_b (se_call (sa_cons se_var sa_nil)))) ss_never ss_next)⟩
theorem ok_rows_in {P : Program} {base : Heap} {k : Nat} (T : Top w K mg a_SHAPES a_SETS) {g_blocks_of : Mir} (C_blocks_of : Ok P w K mg base k "blocks_of" [.val] g_blocks_of) {g_rows_in : Mir} (C_rows_in : Ok P w K mg base k "rows_in" [.val, .val] g_rows_in) : Ok P w K mg base (k + 1) "rows_in" [.val, .val] (m_rows_in g_blocks_of g_rows_in) := by
  refine At.ok [.val, .val] T.d_rows_in sc_rows_in rfl (by decide) (fun _ _ h => h) (fun fA cdv A outer s H E hr => ?_)
  have hu := room64 hr
  have hu1 := hu_of hr
  have hu0 := hu_lt hr
  exact ⟨_, (pss_cons (ps_set (i := 2) sc_rows_in.nd rfl (by first | exact Or.inl rfl | exact Or.inr rfl) (pe_lst pa_nil))
    (pss_cons (ps_un (ps_for PassesOwn.never rfl (pi_enumK (by rfl) T.b_enumerate (pa_cons (pv 0) pa_nil)) (pg_tup rfl (pgs_cons (pg_name (i := 3) sc_rows_in.nd rfl (by first | exact Or.inl rfl | exact Or.inr rfl)) (pgs_cons (pg_name (i := 4) sc_rows_in.nd rfl (by first | exact Or.inl rfl | exact Or.inr rfl)) pgs_nil))) (pss_cons (ps_expr (pe_bm PySem.F.plainAttrs_list PySem.F.slot_list_append PySem.F.type_list_append mt_append (pv 2) (pa_cons (pe_tup (pa_cons (pv 4) (pa_cons (pe_op op_addA (pv 1) (pe_tup (pa_cons (pv 3) pa_nil))) pa_nil))) pa_nil)))
    (pss_one (ps_un (ps_for PassesOwn.never rfl (pi_enumK (by rfl) T.b_enumerate (pa_cons (pe_c C_blocks_of hr (Nat.le_refl _) (by rfl) (pa_cons (pv 4) pa_nil)) pa_nil)) (pg_tup rfl (pgs_cons (pg_name (i := 5) sc_rows_in.nd rfl (by first | exact Or.inl rfl | exact Or.inr rfl)) (pgs_cons (pg_name (i := 6) sc_rows_in.nd rfl (by first | exact Or.inl rfl | exact Or.inr rfl)) pgs_nil))) (pss_one (ps_expr (pe_bm PySem.F.plainAttrs_list PySem.F.slot_list_extend PySem.F.type_list_extend mt_extendA (pv 2) (pa_cons (pe_c C_rows_in hr (Nat.le_refl _) (by rfl) (pa_cons (pv 6) (pa_cons (pe_op op_addA (pv 1) (pe_tup (pa_cons (pv 3) (pa_cons (pv 5) pa_nil)))) pa_nil))) pa_nil))))))))))
    (pss_one (ps_ret (pv 2))))),
    (ss_seq (ss_set (se_lst sa_nil))
    (ss_seq (ss_for (ws := [4, 3]) (si_enum (sa_cons se_var sa_nil)) (sg_tup (sgs_cons (sg_name (by decide)) (sgs_cons (sg_name (by decide)) sgs_nil))) (ss_fgt (ss_seq (ss_expr (se_mu mu_append se_var (sa_cons (se_tup (sa_cons se_var (sa_cons (se_2 u_add se_var (se_tup (sa_cons se_var sa_nil))) sa_nil))) sa_nil)))
    (ss_for (ws := [6, 5]) (si_enum (sa_cons (se_call (sa_cons se_var sa_nil)) sa_nil)) (sg_tup (sgs_cons (sg_name (by decide)) (sgs_cons (sg_name (by decide)) sgs_nil))) (ss_fgt (ss_expr (se_mu mu_extend se_var (sa_cons (se_call (sa_cons se_var (sa_cons (se_2 u_add se_var (se_tup (sa_cons se_var (sa_cons se_var sa_nil)))) sa_nil))) sa_nil))))))))
    (ss_ret se_var)))⟩
theorem ok_holders {P : Program} {base : Heap} {k : Nat} (T : Top w K mg a_SHAPES a_SETS) : Ok P w K mg base (k + 1) "holders" [.val] (m_holders) := by
  refine At.ok [.val] T.d_holders sc_holders rfl (by decide) (fun _ _ h => h) (fun fA cdv A outer s H E hr => ?_)
  have hu := room64 hr
  have hu1 := hu_of hr
  have hu0 := hu_lt hr
  exact ⟨_, (pss_cons (ps_set (i := 1) sc_holders.nd rfl (by first | exact Or.inl rfl | exact Or.inr rfl) pe_dnewK)
    (pss_cons (ps_un (ps_for PassesOwn.never rfl (pi_it (pv 0)) (pg_tup rfl (pgs_cons (pg_name (i := 2) sc_holders.nd rfl (by first | exact Or.inl rfl | exact Or.inr rfl)) (pgs_cons (pg_name (i := 3) sc_holders.nd rfl (by first | exact Or.inl rfl | exact Or.inr rfl)) pgs_nil))) (pss_cons (ps_set (i := 4) sc_holders.nd rfl (by first | exact Or.inl rfl | exact Or.inr rfl) (pe_ifExp (pt_in hu (tDGet_or (hu := hu1) (pv 2) pe_int (fun _ _ => rfl) (fun _ _ => rfl)) (pe_tup (pa_cons pe_str (pa_cons pe_str pa_nil))) (by with_unfolding_all rfl)) (pe_lst (pa_cons (tDGet_or (hu := hu1) (pv 2) pe_int (fun _ _ => rfl) (fun _ _ => rfl)) pa_nil)) (pe_ifExp (pt_cmpR (op_eqA hu) (tDGet_or (hu := hu1) (pv 2) pe_int (fun _ _ => rfl) (fun _ _ => rfl)) pe_str (nomark _)) (pe_callTy (cr_listA rfl) (by rfl) T.b_list PySem.Pv.boot_list (pa_cons (pe_slice sl_both (pv 2) (po_some pe_int) (po_some pe_int)) pa_nil)) (pe_lst pa_nil))))
    (pss_cons (ps_un (ps_for PassesOwn.never rfl (pi_it (pv 4)) (pg_name (i := 5) sc_holders.nd rfl (by first | exact Or.inl rfl | exact Or.inr rfl)) (pss_one (ps_expr (pe_dsetd (pv 1) (pv 5) (pe_lst (pa_cons (pv 5) pa_nil)) ⟨rfl, rfl, rfl, rfl⟩)))))
    (pss_one (ps_if (pw_and (pt_cmpR (op_eqA hu) (tDGet_or (hu := hu1) (pv 2) pe_int (fun _ _ => rfl) (fun _ _ => rfl)) pe_str (nomark _)) (pw_and1 (pt_cmpR (op_neA hu) (tDGet_or (hu := hu1) (pv 1) (tDGet_or (hu := hu1) (pv 2) pe_int (fun _ _ => rfl) (fun _ _ => rfl)) (fun _ _ => rfl) (fun _ _ => rfl)) (tDGet_or (hu := hu1) (pv 1) (tDGet_or (hu := hu1) (pv 2) pe_int (fun _ _ => rfl) (fun _ _ => rfl)) (fun _ _ => rfl) (fun _ _ => rfl)) (nomark _)))).pt (pss_cons (ps_set (i := 6) sc_holders.nd rfl (by first | exact Or.inl rfl | exact Or.inr rfl) (pe_op op_addA (tDGet_or (hu := hu1) (pv 1) (tDGet_or (hu := hu1) (pv 2) pe_int (fun _ _ => rfl) (fun _ _ => rfl)) (fun _ _ => rfl) (fun _ _ => rfl)) (tDGet_or (hu := hu1) (pv 1) (tDGet_or (hu := hu1) (pv 2) pe_int (fun _ _ => rfl) (fun _ _ => rfl)) (fun _ _ => rfl) (fun _ _ => rfl))))
    (pss_one (ps_un (ps_for PassesOwn.never rfl (pi_it (pv 6)) (pg_name (i := 5) sc_holders.nd rfl (by first | exact Or.inl rfl | exact Or.inr rfl)) (pss_one (ps_dput hu1 (pv 1) (pv 5) (pv 6) rfl)))))) pss_nil))))))
    (pss_one (ps_ret (pv 1))))),
    (ss_seq (ss_set se_dct)
    (ss_seq (ss_for (ws := [3, 2]) (si_it se_var) (sg_tup (sgs_cons (sg_name (by decide)) (sgs_cons (sg_name (by decide)) sgs_nil))) (ss_fgt (ss_seq (ss_set (se_if (st_b (se_in (se_ix se_var (se_c fun _ _ => .int)) (se_tup (sa_cons (se_c fun _ _ => .str) (sa_cons (se_c fun _ _ => .str) sa_nil))))) (se_lst (sa_cons (se_ix se_var (se_c fun _ _ => .int)) sa_nil)) (se_if (st_test (se_2 u_eq (se_ix se_var (se_c fun _ _ => .int)) (se_c fun _ _ => .str))) (se_n u_list (sa_cons (se_sl se_var (so_some (se_c fun _ _ => .int)) (so_some (se_c fun _ _ => .int))) sa_nil)) (se_lst sa_nil))))
    (ss_seq (ss_for (ws := [5]) (si_it se_var) (sg_name (by decide)) (ss_fgt (ss_expr (se_setd se_var se_var (se_lst (sa_cons se_var sa_nil))))))
    (ss_if (st_and (st_test (se_2 u_eq (se_ix se_var (se_c fun _ _ => .int)) (se_c fun _ _ => .str))) (st_test (se_2 u_ne (se_ix se_var (se_ix se_var (se_c fun _ _ => .int))) (se_ix se_var (se_ix se_var (se_c fun _ _ => .int)))))) (ss_seq (ss_set (se_2 u_add (se_ix se_var (se_ix se_var (se_c fun _ _ => .int))) (se_ix se_var (se_ix se_var (se_c fun _ _ => .int)))))
    (ss_for (ws := [5]) (si_it se_var) (sg_name (by decide)) (ss_fgt (ss_put se_var se_var se_var)))) ss_next)))))
    (ss_ret se_var)))⟩
theorem ok_may_give {P : Program} {base : Heap} {k : Nat} (T : Top w K mg a_SHAPES a_SETS) {g_need_program : Mir} (C_need_program : Ok P w K mg base k "need_program" [.val] g_need_program) {g_rows_in : Mir} (C_rows_in : Ok P w K mg base k "rows_in" [.val, .val] g_rows_in) {g_holders : Mir} (C_holders : Ok P w K mg base k "holders" [.val] g_holders) : Ok P w K mg base (k + 1) "may_give" [.val] (m_may_give g_need_program g_rows_in g_holders) := by
  refine At.ok [.val] T.d_may_give sc_may_give rfl (by decide) (fun _ _ h => h) (fun fA cdv A outer s H E hr => ?_)
  have hu := room64 hr
  have hu1 := hu_of hr
  have hu0 := hu_lt hr
  exact ⟨_, (pss_cons (ps_expr (pe_c C_need_program hr (Nat.le_refl _) (by rfl) (pa_cons (pv 0) pa_nil)))
    (pss_cons (ps_set (i := 1) sc_may_give.nd rfl (by first | exact Or.inl rfl | exact Or.inr rfl) (pe_c C_rows_in hr (Nat.le_refl _) (by rfl) (pa_cons (tDGet_or (hu := hu1) (pv 0) pe_int (fun _ _ => rfl) (fun _ _ => rfl)) (pa_cons (pe_tup pa_nil) pa_nil))))
    (pss_cons (ps_set (i := 2) sc_may_give.nd rfl (by first | exact Or.inl rfl | exact Or.inr rfl) (pe_c C_holders hr (Nat.le_refl _) (by rfl) (pa_cons (pv 1) pa_nil)))
    (pss_cons (ps_set (i := 3) sc_may_give.nd rfl (by first | exact Or.inl rfl | exact Or.inr rfl) pe_dnewK)
    (pss_cons (ps_un (ps_for PassesOwn.never rfl (pi_it (pv 1)) (pg_tup rfl (pgs_cons (pg_name (i := 4) sc_may_give.nd rfl (by first | exact Or.inl rfl | exact Or.inr rfl)) (pgs_cons (pg_name (i := 5) sc_may_give.nd rfl (by first | exact Or.inl rfl | exact Or.inr rfl)) pgs_nil))) (pss_one (ps_if (pt_cmpR (op_eqA hu) (tDGet_or (hu := hu1) (pv 4) pe_int (fun _ _ => rfl) (fun _ _ => rfl)) pe_str (nomark _)) (pss_one (ps_un (ps_for PassesOwn.never rfl (pi_it (tDGet_or (hu := hu1) (pv 2) (tDGet_or (hu := hu1) (pv 4) pe_int (fun _ _ => rfl) (fun _ _ => rfl)) (fun _ _ => rfl) (fun _ _ => rfl))) (pg_name (i := 6) sc_may_give.nd rfl (by first | exact Or.inl rfl | exact Or.inr rfl)) (pss_one (ps_dput hu1 (pv 3) (pv 6) pe_bl rfl))))) pss_nil))))
    (pss_one (ps_ret (pe_un (pe_lc (own := [("row", 4), ("place", 5)]) (by rfl) sc_may_give.nd (pi_it (pv 1)) (blkOk_by (own := [("row", 4), ("place", 5)]) (N := N_may_give) (sc := defScope s_may_give) (by decide +kernel)) (fun _ _ _ _ _ => (pg_tup rfl (pgs_cons (pg_name (i := 4) sc_may_give.nd rfl (by first | exact Or.inl rfl | exact Or.inr rfl)) (pgs_cons (pg_name (i := 5) sc_may_give.nd rfl (by first | exact Or.inl rfl | exact Or.inr rfl)) pgs_nil)))) (fun _ _ _ _ _ => (pts_one (pw_and (pt_cmpR (op_eqA hu) (tDGet_or (hu := hu1) (pv 4) pe_int (fun _ _ => rfl) (fun _ _ => rfl)) pe_str (nomark _)) (pw_and1 (pt_in hu (tDGet_or (hu := hu1) (pv 4) pe_int (fun _ _ => rfl) (fun _ _ => rfl)) (pv 3) (by with_unfolding_all rfl)))).pt)) (fun _ _ _ _ _ => (pv 5))))))))))),
    (ss_seq (ss_expr (se_call (sa_cons se_var sa_nil)))
    (ss_seq (ss_set (se_call (sa_cons (se_ix se_var (se_c fun _ _ => .int)) (sa_cons (se_tup sa_nil) sa_nil))))
    (ss_seq (ss_set (se_call (sa_cons se_var sa_nil)))
    (ss_seq (ss_set se_dct)
    (ss_seq (ss_for (ws := [5, 4]) (si_it se_var) (sg_tup (sgs_cons (sg_name (by decide)) (sgs_cons (sg_name (by decide)) sgs_nil))) (ss_fgt (ss_if (st_test (se_2 u_eq (se_ix se_var (se_c fun _ _ => .int)) (se_c fun _ _ => .str))) (ss_for (ws := [6]) (si_it (se_ix se_var (se_ix se_var (se_c fun _ _ => .int)))) (sg_name (by decide)) (ss_fgt (ss_put se_var se_var (se_c fun _ _ => .bl)))) ss_next)))
    (ss_ret (se_lc (vs := [4, 5]) (si_it se_var) (sg_tup (sgs_cons (sg_name (by decide)) (sgs_cons (sg_name (by decide)) sgs_nil))) (st_and (st_test (se_2 u_eq (se_ix se_var (se_c fun _ _ => .int)) (se_c fun _ _ => .str))) (st_b (se_in (se_ix se_var (se_c fun _ _ => .int)) se_var))) se_var)))))))⟩
theorem ok_size {P : Program} {base : Heap} {k : Nat} (T : Top w K mg a_SHAPES a_SETS) {g_need_program : Mir} (C_need_program : Ok P w K mg base k "need_program" [.val] g_need_program) {g_rows_in : Mir} (C_rows_in : Ok P w K mg base k "rows_in" [.val, .val] g_rows_in) : Ok P w K mg base (k + 1) "size" [.val] (m_size g_need_program g_rows_in) := by
  refine At.ok [.val] T.d_size sc_size rfl (by decide) (fun _ _ h => h) (fun fA cdv A outer s H E hr => ?_)
  have hu := room64 hr
  have hu1 := hu_of hr
  have hu0 := hu_lt hr
  exact ⟨_, (pss_cons (ps_expr (pe_c C_need_program hr (Nat.le_refl _) (by rfl) (pa_cons (pv 0) pa_nil)))
    (pss_one (ps_ret (pe_callB cr_lenA (by rfl) T.b_len PySem.boot_len (pa_cons (pe_c C_rows_in hr (Nat.le_refl _) (by rfl) (pa_cons (tDGet_or (hu := hu1) (pv 0) pe_int (fun _ _ => rfl) (fun _ _ => rfl)) (pa_cons (pe_tup pa_nil) pa_nil))) pa_nil))))),
    (ss_seq (ss_expr (se_call (sa_cons se_var sa_nil)))
    (ss_ret (se_n u_len (sa_cons (se_call (sa_cons (se_ix se_var (se_c fun _ _ => .int)) (sa_cons (se_tup sa_nil) sa_nil))) sa_nil))))⟩
theorem ok__law_cell_at {P : Program} {base : Heap} {k : Nat} (T : Top w K mg a_SHAPES a_SETS) : Ok P w K mg base (k + 1) "_law_cell_at" [.val, .val] (m__law_cell_at) := by
  refine At.ok [.val, .val] T.d__law_cell_at sc__law_cell_at rfl (by decide) (fun _ _ h => h) (fun fA cdv A outer s H E hr => ?_)
  have hu := room64 hr
  have hu1 := hu_of hr
  have hu0 := hu_lt hr
  exact ⟨_, (pss_cons (ps_if (pt_cmpR op_lt (pv 1) (pe_callB cr_lenA (by rfl) T.b_len PySem.boot_len (pa_cons (pv 0) pa_nil)) (nomark _)) (pss_one (ps_ret (tDGet_or (hu := hu1) (pv 0) (pv 1) (fun _ _ => rfl) (fun _ _ => rfl)))) pss_nil)
    (pss_cons (ps_if (pt_cmpR (op_eqA hu) (pv 0) (pe_lst pa_nil) (nomark _)) (pss_one (ps_ret pe_int)) pss_nil)
    (pss_one (ps_ret (pe_op op_addA (pe_op op_mul (tDGet_or (hu := hu1) (pv 0) (pe_op op_mod (pv 1) (pe_callB cr_lenA (by rfl) T.b_len PySem.boot_len (pa_cons (pv 0) pa_nil))) (fun _ _ => rfl) (fun _ _ => rfl)) pe_int) (pv 1)))))),
    (ss_seq (ss_if (st_test (se_2 u_cmp se_var (se_n u_len (sa_cons se_var sa_nil)))) (ss_ret (se_ix se_var se_var)) ss_next)
    (ss_seq (ss_if (st_test (se_2 u_eq se_var (se_lst sa_nil))) (ss_ret (se_c fun _ _ => .int)) ss_next)
    (ss_ret (se_2 u_add (se_2 u_mul (se_ix se_var (se_2 u_mod se_var (se_n u_len (sa_cons se_var sa_nil)))) (se_c fun _ _ => .int)) se_var))))⟩
theorem ok__law_mixed {P : Program} {base : Heap} {k : Nat} (T : Top w K mg a_SHAPES a_SETS) {g__law_cell_at : Mir} (C__law_cell_at : Ok P w K mg base k "_law_cell_at" [.val, .val] g__law_cell_at) : Ok P w K mg base (k + 1) "_law_mixed" [.val, .val, .val] (m__law_mixed g__law_cell_at) := by
  refine At.ok [.val, .val, .val] T.d__law_mixed sc__law_mixed rfl (by decide) (fun _ _ h => h) (fun fA cdv A outer s H E hr => ?_)
  have hu := room64 hr
  have hu1 := hu_of hr
  have hu0 := hu_lt hr
  exact ⟨_, (pss_cons (ps_set (i := 3) sc__law_mixed.nd rfl (by first | exact Or.inl rfl | exact Or.inr rfl) (pe_op op_mod (pe_op op_mul (pe_op op_addA (pe_op op_addA (pe_c C__law_cell_at hr (Nat.le_refl _) (by rfl) (pa_cons (pv 0) (pa_cons (pv 1) pa_nil))) (pe_op op_mul pe_int (pv 1))) pe_int) pe_int) pe_int))
    (pss_one (ps_ret (pe_op op_mod (pe_op op_mod (pe_op op_addA (pe_op op_addA (pe_op op_mul (pv 3) (pv 3)) (pe_op op_mul pe_int (pv 3))) (pv 1)) pe_int) (pv 2))))),
    (ss_seq (ss_set (se_2 u_mod (se_2 u_mul (se_2 u_add (se_2 u_add (se_call (sa_cons se_var (sa_cons se_var sa_nil))) (se_2 u_mul (se_c fun _ _ => .int) se_var)) (se_c fun _ _ => .int)) (se_c fun _ _ => .int)) (se_c fun _ _ => .int)))
    (ss_ret (se_2 u_mod (se_2 u_mod (se_2 u_add (se_2 u_add (se_2 u_mul se_var se_var) (se_2 u_mul (se_c fun _ _ => .int) se_var)) se_var) (se_c fun _ _ => .int)) se_var)))⟩
theorem ok__law_draw {P : Program} {base : Heap} {k : Nat} (T : Top w K mg a_SHAPES a_SETS) {g__law_mixed : Mir} (C__law_mixed : Ok P w K mg base k "_law_mixed" [.val, .val, .val] g__law_mixed) : Ok P w K mg base (k + 1) "_law_draw" [.val, .io, .val] (m__law_draw g__law_mixed) := by
  refine At.ok [.val, .io, .val] T.d__law_draw sc__law_draw rfl (by decide) (fun _ _ h => h) (fun fA cdv A outer s H E hr => ?_)
  have hu := room64 hr
  have hu1 := hu_of hr
  have hu0 := hu_lt hr
  exact ⟨_, (pss_cons (ps_expr (pe_bm PySem.F.plainAttrs_list PySem.F.slot_list_append PySem.F.type_list_append mt_append (pv 1) (pa_cons pe_int pa_nil)))
    (pss_one (ps_ret (pe_c C__law_mixed hr (Nat.le_refl _) (by rfl) (pa_cons (pv 0) (pa_cons (pe_callB cr_lenA (by rfl) T.b_len PySem.boot_len (pa_cons (pv 1) pa_nil)) (pa_cons (pv 2) pa_nil))))))),
    (ss_seq (ss_expr (se_mu mu_append se_var (sa_cons (se_c fun _ _ => .int) sa_nil)))
    (ss_ret (se_call (sa_cons se_var (sa_cons (se_n u_len (sa_cons se_var sa_nil)) (sa_cons se_var sa_nil))))))⟩
theorem ok__law_pick {P : Program} {base : Heap} {k : Nat} (T : Top w K mg a_SHAPES a_SETS) {g__law_draw : Mir} (C__law_draw : Ok P w K mg base k "_law_draw" [.val, .io, .val] g__law_draw) : Ok P w K mg base (k + 1) "_law_pick" [.val, .io, .bor] (m__law_pick g__law_draw) := by
  refine At.ok [.val, .io, .bor] T.d__law_pick sc__law_pick rfl (by decide) (fun _ _ h => h) (fun fA cdv A outer s H E hr => ?_)
  have hu := room64 hr
  have hu1 := hu_of hr
  have hu0 := hu_lt hr
  exact ⟨_, (pss_one (ps_ret (tDGet_or (hu := hu1) (pv 2) (pe_c C__law_draw hr (Nat.le_refl _) (by rfl) (pa_cons (pv 0) (pa_cons (pv 1) (pa_cons (pe_callB cr_lenA (by rfl) T.b_len PySem.boot_len (pa_cons (pv 2) pa_nil)) pa_nil)))) (fun _ _ => rfl) (fun _ _ => rfl)))),
    (ss_ret (se_ix se_var (se_call (sa_cons se_var (sa_cons se_var (sa_cons (se_n u_len (sa_cons se_var sa_nil)) sa_nil))))))⟩
theorem ok__law_simple {P : Program} {base : Heap} {k : Nat} (T : Top w K mg a_SHAPES a_SETS) {g__law_draw : Mir} (C__law_draw : Ok P w K mg base k "_law_draw" [.val, .io, .val] g__law_draw) {g__law_pick : Mir} (C__law_pick : Ok P w K mg base k "_law_pick" [.val, .io, .bor] g__law_pick) : Ok P w K mg base (k + 1) "_law_simple" [.val, .io, .val, .bor] (m__law_simple g__law_draw g__law_pick) := by
  refine At.ok [.val, .io, .val, .bor] T.d__law_simple sc__law_simple rfl (by decide) (fun _ _ h => h) (fun fA cdv A outer s H E hr => ?_)
  have hu := room64 hr
  have hu1 := hu_of hr
  have hu0 := hu_lt hr
  exact ⟨_, (pss_cons (ps_un (ps_setLc (i := 4) (own := [("_law_name", 13)]) (by rfl) sc__law_simple.nd rfl rfl (sw_true rfl rfl rfl (by decide +kernel)) (pi_it (tDGet_or (hu := hu1) (pv 2) pe_int (fun _ _ => rfl) (fun _ _ => rfl))) (blkOk_by (own := [("_law_name", 13)]) (N := N__law_simple) (sc := defScope s__law_simple) (by decide +kernel)) (fun _ _ _ _ _ => (pg_name (i := 13) sc__law_simple.nd rfl (by first | exact Or.inl rfl | exact Or.inr rfl))) (fun _ _ _ _ _ => (pts_one (pt_in hu (pv 13) (pv 3) (by with_unfolding_all rfl)))) (fun _ _ _ _ _ => (pv 13))))
    (pss_cons (ps_un (ps_setLc (i := 5) (own := [("_law_name", 13)]) (by rfl) sc__law_simple.nd rfl rfl (sw_true rfl rfl rfl (by decide +kernel)) (pi_it (tDGet_or (hu := hu1) (pv 2) pe_int (fun _ _ => rfl) (fun _ _ => rfl))) (blkOk_by (own := [("_law_name", 13)]) (N := N__law_simple) (sc := defScope s__law_simple) (by decide +kernel)) (fun _ _ _ _ _ => (pg_name (i := 13) sc__law_simple.nd rfl (by first | exact Or.inl rfl | exact Or.inr rfl))) (fun _ _ _ _ _ => (pts_one (pt_in hu (pv 13) (pv 3) (by with_unfolding_all rfl)))) (fun _ _ _ _ _ => (pv 13))))
    (pss_cons (ps_set (i := 6) sc__law_simple.nd rfl (by first | exact Or.inl rfl | exact Or.inr rfl) (pe_c C__law_draw hr (Nat.le_refl _) (by rfl) (pa_cons (pv 0) (pa_cons (pv 1) (pa_cons pe_int pa_nil)))))
    (pss_cons (ps_set (i := 7) sc__law_simple.nd rfl (by first | exact Or.inl rfl | exact Or.inr rfl) (pe_c C__law_pick hr (Nat.le_refl _) (by rfl) (pa_cons (pv 0) (pa_cons (pv 1) (pa_cons (tDGet_or (hu := hu1) (pv 2) pe_int (fun _ _ => rfl) (fun _ _ => rfl)) pa_nil)))))
    (pss_cons (ps_if (pw_or (pt_cmpR (op_eqA hu) (pv 4) (pe_lst pa_nil) (nomark _)) (pw_or1 (pt_cmpR op_lt (pv 6) pe_int (nomark _)))).pt (pss_one (ps_ret (pe_tup (pa_cons pe_str (pa_cons (pv 7) (pa_cons (pe_c C__law_pick hr (Nat.le_refl _) (by rfl) (pa_cons (pv 0) (pa_cons (pv 1) (pa_cons (pe_lst (pa_cons pe_int (pa_cons pe_int (pa_cons pe_int (pa_cons pe_int (pa_cons (pe_c C__law_draw hr (Nat.le_refl _) (by rfl) (pa_cons (pv 0) (pa_cons (pv 1) (pa_cons pe_int pa_nil)))) pa_nil)))))) pa_nil)))) pa_nil)))))) pss_nil)
    (pss_cons (ps_set (i := 8) sc__law_simple.nd rfl (by first | exact Or.inl rfl | exact Or.inr rfl) (pe_c C__law_pick hr (Nat.le_refl _) (by rfl) (pa_cons (pv 0) (pa_cons (pv 1) (pa_cons (pv 4) pa_nil)))))
    (pss_cons (ps_set (i := 9) sc__law_simple.nd rfl (by first | exact Or.inl rfl | exact Or.inr rfl) (pe_c C__law_pick hr (Nat.le_refl _) (by rfl) (pa_cons (pv 0) (pa_cons (pv 1) (pa_cons (pv 4) pa_nil)))))
    (pss_cons (ps_if (pt_cmpR op_lt (pv 6) pe_int (nomark _)) (pss_one (ps_ret (pe_c C__law_pick hr (Nat.le_refl _) (by rfl) (pa_cons (pv 0) (pa_cons (pv 1) (pa_cons (pe_lst (pa_cons (pe_tup (pa_cons pe_str (pa_cons (pv 7) (pa_cons (pv 8) pa_nil)))) (pa_cons (pe_tup (pa_cons pe_str (pa_cons (pv 7) (pa_cons (pv 9) pa_nil)))) (pa_cons (pe_tup (pa_cons pe_str (pa_cons (pv 7) (pa_cons (pv 8) (pa_cons (pv 9) pa_nil))))) pa_nil)))) pa_nil)))))) pss_nil)
    (pss_cons (ps_set (i := 10) sc__law_simple.nd rfl (by first | exact Or.inl rfl | exact Or.inr rfl) (pe_c C__law_pick hr (Nat.le_refl _) (by rfl) (pa_cons (pv 0) (pa_cons (pv 1) (pa_cons (tDGet_or (hu := hu1) (pv 2) pe_int (fun _ _ => rfl) (fun _ _ => rfl)) pa_nil)))))
    (pss_cons (ps_if (pw_or (pt_cmpR (op_eqA hu) (pv 5) (pe_lst pa_nil) (nomark _)) (pw_or1 (pt_cmpR op_lt (pv 6) pe_int (nomark _)))).pt (pss_one (ps_ret (pe_tup (pa_cons pe_str (pa_cons (pv 10) (pa_cons (pv 8) (pa_cons (pv 9) pa_nil))))))) pss_nil)
    (pss_cons (ps_set (i := 11) sc__law_simple.nd rfl (by first | exact Or.inl rfl | exact Or.inr rfl) (pe_c C__law_pick hr (Nat.le_refl _) (by rfl) (pa_cons (pv 0) (pa_cons (pv 1) (pa_cons (pv 5) pa_nil)))))
    (pss_cons (ps_if (pt_cmpR op_lt (pv 6) pe_int (nomark _)) (pss_one (ps_ret (pe_tup (pa_cons pe_str (pa_cons (pv 7) (pa_cons (pv 11) (pa_cons (pe_c C__law_draw hr (Nat.le_refl _) (by rfl) (pa_cons (pv 0) (pa_cons (pv 1) (pa_cons pe_int pa_nil)))) pa_nil))))))) pss_nil)
    (pss_cons (ps_if (pt_cmpR op_lt (pv 6) pe_int (nomark _)) (pss_one (ps_ret (pe_tup (pa_cons pe_str (pa_cons (pv 11) (pa_cons (pe_c C__law_draw hr (Nat.le_refl _) (by rfl) (pa_cons (pv 0) (pa_cons (pv 1) (pa_cons pe_int pa_nil)))) (pa_cons (pv 8) pa_nil))))))) pss_nil)
    (pss_cons (ps_if (pt_cmpR op_lt (pv 6) pe_int (nomark _)) (pss_one (ps_ret (pe_tup (pa_cons pe_str (pa_cons (pv 10) (pa_cons (pv 11) pa_nil)))))) pss_nil)
    (pss_cons (ps_if (pt_cmpR op_lt (pv 6) pe_int (nomark _)) (pss_one (ps_ret (pe_tup (pa_cons pe_str (pa_cons (pv 7) (pa_cons (pv 11) (pa_cons (pe_c C__law_pick hr (Nat.le_refl _) (by rfl) (pa_cons (pv 0) (pa_cons (pv 1) (pa_cons (pv 5) pa_nil)))) pa_nil))))))) pss_nil)
    (pss_cons (ps_set (i := 12) sc__law_simple.nd rfl (by first | exact Or.inl rfl | exact Or.inr rfl) (pe_op op_rep (pe_lst (pa_cons (pe_tup (pa_cons pe_str (pa_cons (pv 8) pa_nil))) (pa_cons (pe_tup (pa_cons pe_str (pa_cons (pv 9) pa_nil))) (pa_cons (pe_tup (pa_cons pe_str (pa_cons (pv 11) pa_nil))) (pa_cons (pe_tup (pa_cons pe_str pa_nil)) pa_nil))))) pe_int))
    (pss_one (ps_ret (tDGet_or (hu := hu1) (pv 12) (pe_op op_sub (pv 6) pe_int) (fun _ _ => rfl) (fun _ _ => rfl)))))))))))))))))))),
    (ss_seq (ss_setU (ss_set (se_lc (vs := [13]) (si_it (se_ix se_var (se_c fun _ _ => .int))) (sg_name (by decide)) (st_b (se_in se_var se_var)) se_var)))
    (ss_seq (ss_setU (ss_set (se_lc (vs := [13]) (si_it (se_ix se_var (se_c fun _ _ => .int))) (sg_name (by decide)) (st_b (se_in se_var se_var)) se_var)))
    (ss_seq (ss_set (se_call (sa_cons se_var (sa_cons se_var (sa_cons (se_c fun _ _ => .int) sa_nil)))))
    (ss_seq (ss_set (se_call (sa_cons se_var (sa_cons se_var (sa_cons (se_ix se_var (se_c fun _ _ => .int)) sa_nil)))))
    (ss_seq (ss_if (st_or (st_test (se_2 u_eq se_var (se_lst sa_nil))) (st_test (se_2 u_cmp se_var (se_c fun _ _ => .int)))) (ss_ret (se_tup (sa_cons (se_c fun _ _ => .str) (sa_cons se_var (sa_cons (se_call (sa_cons se_var (sa_cons se_var (sa_cons (se_lst (sa_cons (se_c fun _ _ => .int) (sa_cons (se_c fun _ _ => .int) (sa_cons (se_c fun _ _ => .int) (sa_cons (se_c fun _ _ => .int) (sa_cons (se_call (sa_cons se_var (sa_cons se_var (sa_cons (se_c fun _ _ => .int) sa_nil)))) sa_nil)))))) sa_nil)))) sa_nil))))) ss_next)
    (ss_seq (ss_set (se_call (sa_cons se_var (sa_cons se_var (sa_cons se_var sa_nil)))))
    (ss_seq (ss_set (se_call (sa_cons se_var (sa_cons se_var (sa_cons se_var sa_nil)))))
    (ss_seq (ss_if (st_test (se_2 u_cmp se_var (se_c fun _ _ => .int))) (ss_ret (se_call (sa_cons se_var (sa_cons se_var (sa_cons (se_lst (sa_cons (se_tup (sa_cons (se_c fun _ _ => .str) (sa_cons se_var (sa_cons se_var sa_nil)))) (sa_cons (se_tup (sa_cons (se_c fun _ _ => .str) (sa_cons se_var (sa_cons se_var sa_nil)))) (sa_cons (se_tup (sa_cons (se_c fun _ _ => .str) (sa_cons se_var (sa_cons se_var (sa_cons se_var sa_nil))))) sa_nil)))) sa_nil))))) ss_next)
    (ss_seq (ss_set (se_call (sa_cons se_var (sa_cons se_var (sa_cons (se_ix se_var (se_c fun _ _ => .int)) sa_nil)))))
    (ss_seq (ss_if (st_or (st_test (se_2 u_eq se_var (se_lst sa_nil))) (st_test (se_2 u_cmp se_var (se_c fun _ _ => .int)))) (ss_ret (se_tup (sa_cons (se_c fun _ _ => .str) (sa_cons se_var (sa_cons se_var (sa_cons se_var sa_nil)))))) ss_next)
    (ss_seq (ss_set (se_call (sa_cons se_var (sa_cons se_var (sa_cons se_var sa_nil)))))
    (ss_seq (ss_if (st_test (se_2 u_cmp se_var (se_c fun _ _ => .int))) (ss_ret (se_tup (sa_cons (se_c fun _ _ => .str) (sa_cons se_var (sa_cons se_var (sa_cons (se_call (sa_cons se_var (sa_cons se_var (sa_cons (se_c fun _ _ => .int) sa_nil)))) sa_nil)))))) ss_next)
    (ss_seq (ss_if (st_test (se_2 u_cmp se_var (se_c fun _ _ => .int))) (ss_ret (se_tup (sa_cons (se_c fun _ _ => .str) (sa_cons se_var (sa_cons (se_call (sa_cons se_var (sa_cons se_var (sa_cons (se_c fun _ _ => .int) sa_nil)))) (sa_cons se_var sa_nil)))))) ss_next)
    (ss_seq (ss_if (st_test (se_2 u_cmp se_var (se_c fun _ _ => .int))) (ss_ret (se_tup (sa_cons (se_c fun _ _ => .str) (sa_cons se_var (sa_cons se_var sa_nil))))) ss_next)
    (ss_seq (ss_if (st_test (se_2 u_cmp se_var (se_c fun _ _ => .int))) (ss_ret (se_tup (sa_cons (se_c fun _ _ => .str) (sa_cons se_var (sa_cons se_var (sa_cons (se_call (sa_cons se_var (sa_cons se_var (sa_cons se_var sa_nil)))) sa_nil)))))) ss_next)
    (ss_seq (ss_set (se_mulL (se_lst (sa_cons (se_tup (sa_cons (se_c fun _ _ => .str) (sa_cons se_var sa_nil))) (sa_cons (se_tup (sa_cons (se_c fun _ _ => .str) (sa_cons se_var sa_nil))) (sa_cons (se_tup (sa_cons (se_c fun _ _ => .str) (sa_cons se_var sa_nil))) (sa_cons (se_tup (sa_cons (se_c fun _ _ => .str) sa_nil)) sa_nil)))))))
    (ss_ret (se_ix se_var (se_2 u_sub se_var (se_c fun _ _ => .int))))))))))))))))))))⟩
theorem ok__law_block {P : Program} {base : Heap} {k : Nat} (T : Top w K mg a_SHAPES a_SETS) {g__law_draw : Mir} (C__law_draw : Ok P w K mg base k "_law_draw" [.val, .io, .val] g__law_draw) {g__law_block : Mir} (C__law_block : Ok P w K mg base k "_law_block" [.val, .io, .val, .io, .val, .val] g__law_block) {g__law_pick : Mir} (C__law_pick : Ok P w K mg base k "_law_pick" [.val, .io, .bor] g__law_pick) {g__law_simple : Mir} (C__law_simple : Ok P w K mg base k "_law_simple" [.val, .io, .val, .bor] g__law_simple) : Ok P w K mg base (k + 1) "_law_block" [.val, .io, .val, .io, .val, .val] (m__law_block g__law_draw g__law_block g__law_pick g__law_simple) := by
  refine At.ok [.val, .io, .val, .io, .val, .val] T.d__law_block sc__law_block rfl (by decide) (fun _ _ h => h) (fun fA cdv A outer s H E hr => ?_)
  have hu := room64 hr
  have hu1 := hu_of hr
  have hu0 := hu_lt hr
  exact ⟨_, (pss_cons (ps_set (i := 6) sc__law_block.nd rfl (by first | exact Or.inl rfl | exact Or.inr rfl) (pe_lst pa_nil))
    (pss_cons (ps_un (ps_for PassesOwn.never rfl (pi_range1 (by rfl) T.b_range (pa_cons (pe_c C__law_draw hr (Nat.le_refl _) (by rfl) (pa_cons (pv 0) (pa_cons (pv 1) (pa_cons (pe_op op_addA (pv 4) pe_int) pa_nil)))) pa_nil)) (pg_name (i := 7) sc__law_block.nd rfl (by first | exact Or.inl rfl | exact Or.inr rfl)) (pss_cons (ps_set (i := 8) sc__law_block.nd rfl (by first | exact Or.inl rfl | exact Or.inr rfl) (pe_c C__law_draw hr (Nat.le_refl _) (by rfl) (pa_cons (pv 0) (pa_cons (pv 1) (pa_cons pe_int pa_nil)))))
    (pss_cons (ps_un (ps_setLc (i := 9) (own := [("_law_name", 14)]) (by rfl) sc__law_block.nd rfl rfl (sw_true rfl rfl rfl (by decide +kernel)) (pi_it (tDGet_or (hu := hu1) (pv 2) pe_int (fun _ _ => rfl) (fun _ _ => rfl))) (blkOk_by (own := [("_law_name", 14)]) (N := N__law_block) (sc := defScope s__law_block) (by decide +kernel)) (fun _ _ _ _ _ => (pg_name (i := 14) sc__law_block.nd rfl (by first | exact Or.inl rfl | exact Or.inr rfl))) (fun _ _ _ _ _ => (pts_one (pt_in hu (pv 14) (pv 3) (by with_unfolding_all rfl)))) (fun _ _ _ _ _ => (pv 14))))
    (pss_one (ps_if (pw_and (pt_cmpR op_lt (pv 8) pe_int (nomark _)) (pw_and (pt_cmpR op_gt (pv 5) pe_int (nomark _)) (pw_and1 (pt_cmpR (op_neA hu) (pv 9) (pe_lst pa_nil) (nomark _))))).pt (pss_cons (ps_set (i := 10) sc__law_block.nd rfl (by first | exact Or.inl rfl | exact Or.inr rfl) (pe_callTy (cr_dictA rfl) (by rfl) T.b_dict PySem.Pv.boot_dict (pa_cons (pv 3) pa_nil)))
    (pss_cons (ps_set (i := 11) sc__law_block.nd rfl (by first | exact Or.inl rfl | exact Or.inr rfl) (pe_callTy (cr_dictA rfl) (by rfl) T.b_dict PySem.Pv.boot_dict (pa_cons (pv 3) pa_nil)))
    (pss_cons (ps_set (i := 12) sc__law_block.nd rfl (by first | exact Or.inl rfl | exact Or.inr rfl) (pe_c C__law_block hr (Nat.le_refl _) (by rfl) (pa_cons (pv 0) (pa_cons (pv 1) (pa_cons (pv 2) (pa_cons (pv 10) (pa_cons (pe_op op_addA (pe_op op_fdiv (pv 4) pe_int) pe_int) (pa_cons (pe_op op_sub (pv 5) pe_int) pa_nil))))))))
    (pss_cons (ps_set (i := 13) sc__law_block.nd rfl (by first | exact Or.inl rfl | exact Or.inr rfl) (pe_c C__law_block hr (Nat.le_refl _) (by rfl) (pa_cons (pv 0) (pa_cons (pv 1) (pa_cons (pv 2) (pa_cons (pv 11) (pa_cons (pe_op op_addA (pe_op op_fdiv (pv 4) pe_int) pe_int) (pa_cons (pe_op op_sub (pv 5) pe_int) pa_nil))))))))
    (pss_cons (ps_expr (pe_bm PySem.F.plainAttrs_list PySem.F.slot_list_append PySem.F.type_list_append mt_append (pv 6) (pa_cons (pe_tup (pa_cons pe_str (pa_cons (pe_c C__law_pick hr (Nat.le_refl _) (by rfl) (pa_cons (pv 0) (pa_cons (pv 1) (pa_cons (pv 9) pa_nil)))) (pa_cons (pv 12) (pa_cons (pv 13) pa_nil))))) pa_nil)))
    (pss_one (ps_un (ps_for PassesOwn.never rfl (pi_it (pv 10)) (pg_name (i := 14) sc__law_block.nd rfl (by first | exact Or.inl rfl | exact Or.inr rfl)) (pss_one (ps_if (pt_in hu (pv 14) (pv 11) (by with_unfolding_all rfl)) (pss_one (ps_dput hu1 (pv 3) (pv 14) pe_bl rfl)) pss_nil)))))))))) (pss_one (ps_if (pw_and (pt_cmpR (op_eqA hu) (pv 8) pe_int (nomark _)) (pw_and (pt_cmpR op_gt (pv 5) pe_int (nomark _)) (pw_and1 (pt_cmpR (op_neA hu) (pv 9) (pe_lst pa_nil) (nomark _))))).pt (pss_cons (ps_set (i := 15) sc__law_block.nd rfl (by first | exact Or.inl rfl | exact Or.inr rfl) (tDGet_or (hu := hu1) (pe_lst (pa_cons (pe_op op_sub (pv 5) pe_int) (pa_cons pe_int (pa_cons pe_int (pa_cons pe_int pa_nil))))) (pe_c C__law_draw hr (Nat.le_refl _) (by rfl) (pa_cons (pv 0) (pa_cons (pv 1) (pa_cons pe_int pa_nil)))) (fun _ _ => rfl) (fun _ _ => rfl)))
    (pss_cons (ps_set (i := 16) sc__law_block.nd rfl (by first | exact Or.inl rfl | exact Or.inr rfl) (pe_c C__law_block hr (Nat.le_refl _) (by rfl) (pa_cons (pv 0) (pa_cons (pv 1) (pa_cons (pv 2) (pa_cons (pe_callTy (cr_dictA rfl) (by rfl) T.b_dict PySem.Pv.boot_dict (pa_cons (pv 3) pa_nil)) (pa_cons (pe_op op_addA (pe_op op_fdiv (pv 4) pe_int) pe_int) (pa_cons (pv 15) pa_nil))))))))
    (pss_one (ps_expr (pe_bm PySem.F.plainAttrs_list PySem.F.slot_list_append PySem.F.type_list_append mt_append (pv 6) (pa_cons (pe_tup (pa_cons pe_str (pa_cons (pe_c C__law_pick hr (Nat.le_refl _) (by rfl) (pa_cons (pv 0) (pa_cons (pv 1) (pa_cons (pv 9) pa_nil)))) (pa_cons (pv 16) pa_nil)))) pa_nil)))))) (pss_cons (ps_set (i := 17) sc__law_block.nd rfl (by first | exact Or.inl rfl | exact Or.inr rfl) (pe_c C__law_simple hr (Nat.le_refl _) (by rfl) (pa_cons (pv 0) (pa_cons (pv 1) (pa_cons (pv 2) (pa_cons (pv 3) pa_nil))))))
    (pss_cons (ps_expr (pe_bm PySem.F.plainAttrs_list PySem.F.slot_list_append PySem.F.type_list_append mt_append (pv 6) (pa_cons (pv 17) pa_nil)))
    (pss_one (ps_if (pt_in hu (tDGet_or (hu := hu1) (pv 17) pe_int (fun _ _ => rfl) (fun _ _ => rfl)) (pe_tup (pa_cons pe_str (pa_cons pe_str (pa_cons pe_str (pa_cons pe_str (pa_cons pe_str (pa_cons pe_str (pa_cons pe_str pa_nil)))))))) (by with_unfolding_all rfl)) (pss_one (ps_dput hu1 (pv 3) (tDGet_or (hu := hu1) (pv 17) pe_int (fun _ _ => rfl) (fun _ _ => rfl)) pe_bl rfl)) pss_nil))))))))))))
    (pss_one (ps_ret (pe_callTy call_tuple_of (by rfl) T.b_tuple PySem.Pv.boot_tuple (pa_cons (pv 6) pa_nil)))))),
    (ss_seq (ss_set (se_lst sa_nil))
    (ss_seq (ss_for (ws := [7]) (si_rng1 (sa_cons (se_call (sa_cons se_var (sa_cons se_var (sa_cons (se_2 u_add se_var (se_c fun _ _ => .int)) sa_nil)))) sa_nil)) (sg_name (by decide)) (ss_fgt (ss_seq (ss_set (se_call (sa_cons se_var (sa_cons se_var (sa_cons (se_c fun _ _ => .int) sa_nil)))))
    (ss_seq (ss_setU (ss_set (se_lc (vs := [14]) (si_it (se_ix se_var (se_c fun _ _ => .int))) (sg_name (by decide)) (st_b (se_in se_var se_var)) se_var)))
    (ss_if (st_and (st_test (se_2 u_cmp se_var (se_c fun _ _ => .int))) (st_and (st_test (se_2 u_cmp se_var (se_c fun _ _ => .int))) (st_test (se_2 u_ne se_var (se_lst sa_nil))))) (ss_seq (ss_set (se_n u_dict (sa_cons se_var sa_nil)))
    (ss_seq (ss_set (se_n u_dict (sa_cons se_var sa_nil)))
    (ss_seq (ss_set (se_call (sa_cons se_var (sa_cons se_var (sa_cons se_var (sa_cons se_var (sa_cons (se_2 u_add (se_2 u_fdiv se_var (se_c fun _ _ => .int)) (se_c fun _ _ => .int)) (sa_cons (se_2 u_sub se_var (se_c fun _ _ => .int)) sa_nil))))))))
    (ss_seq (ss_set (se_call (sa_cons se_var (sa_cons se_var (sa_cons se_var (sa_cons se_var (sa_cons (se_2 u_add (se_2 u_fdiv se_var (se_c fun _ _ => .int)) (se_c fun _ _ => .int)) (sa_cons (se_2 u_sub se_var (se_c fun _ _ => .int)) sa_nil))))))))
    (ss_seq (ss_expr (se_mu mu_append se_var (sa_cons (se_tup (sa_cons (se_c fun _ _ => .str) (sa_cons (se_call (sa_cons se_var (sa_cons se_var (sa_cons se_var sa_nil)))) (sa_cons se_var (sa_cons se_var sa_nil))))) sa_nil)))
    (ss_for (ws := [14]) (si_it se_var) (sg_name (by decide)) (ss_fgt (ss_if (st_b (se_in se_var se_var)) (ss_put se_var se_var (se_c fun _ _ => .bl)) ss_next)))))))) (ss_if (st_and (st_test (se_2 u_eq se_var (se_c fun _ _ => .int))) (st_and (st_test (se_2 u_cmp se_var (se_c fun _ _ => .int))) (st_test (se_2 u_ne se_var (se_lst sa_nil))))) (ss_seq (ss_set (se_ix (se_lst (sa_cons (se_2 u_sub se_var (se_c fun _ _ => .int)) (sa_cons (se_c fun _ _ => .int) (sa_cons (se_c fun _ _ => .int) (sa_cons (se_c fun _ _ => .int) sa_nil))))) (se_call (sa_cons se_var (sa_cons se_var (sa_cons (se_c fun _ _ => .int) sa_nil))))))
    (ss_seq (ss_set (se_callN (san_cons se_var (san_cons se_var (san_cons se_var (san_here (se_n u_dict (sa_cons se_var sa_nil)) (sa_cons (se_2 u_add (se_2 u_fdiv se_var (se_c fun _ _ => .int)) (se_c fun _ _ => .int)) (sa_cons se_var sa_nil))))))))
    (ss_expr (se_mu mu_append se_var (sa_cons (se_tup (sa_cons (se_c fun _ _ => .str) (sa_cons (se_call (sa_cons se_var (sa_cons se_var (sa_cons se_var sa_nil)))) (sa_cons se_var sa_nil)))) sa_nil))))) (ss_seq (ss_set (se_call (sa_cons se_var (sa_cons se_var (sa_cons se_var (sa_cons se_var sa_nil))))))
    (ss_seq (ss_expr (se_mu mu_append se_var (sa_cons se_var sa_nil)))
    (ss_if (st_b (se_in (se_ix se_var (se_c fun _ _ => .int)) (se_tup (sa_cons (se_c fun _ _ => .str) (sa_cons (se_c fun _ _ => .str) (sa_cons (se_c fun _ _ => .str) (sa_cons (se_c fun _ _ => .str) (sa_cons (se_c fun _ _ => .str) (sa_cons (se_c fun _ _ => .str) (sa_cons (se_c fun _ _ => .str) sa_nil)))))))))) (ss_put se_var (se_ix se_var (se_c fun _ _ => .int)) (se_c fun _ _ => .bl)) ss_next)))))))))
    (ss_ret (se_n u_tuple (sa_cons se_var sa_nil)))))⟩
theorem ok__law_names {P : Program} {base : Heap} {k : Nat} (T : Top w K mg a_SHAPES a_SETS) {g__law_draw : Mir} (C__law_draw : Ok P w K mg base k "_law_draw" [.val, .io, .val] g__law_draw) {g__law_pick : Mir} (C__law_pick : Ok P w K mg base k "_law_pick" [.val, .io, .bor] g__law_pick) : Ok P w K mg base (k + 1) "_law_names" [.val, .io] (m__law_names g__law_draw g__law_pick) := by
  refine At.ok [.val, .io] T.d__law_names sc__law_names rfl (by decide) (fun _ _ h => h) (fun fA cdv A outer s H E hr => ?_)
  have hu := room64 hr
  have hu1 := hu_of hr
  have hu0 := hu_lt hr
  exact ⟨_, (pss_cons (ps_set (i := 2) sc__law_names.nd rfl (by first | exact Or.inl rfl | exact Or.inr rfl) pe_str)
    (pss_cons (ps_un (ps_for PassesOwn.never rfl (pi_range1 (by rfl) T.b_range (pa_cons (pe_c C__law_draw hr (Nat.le_refl _) (by rfl) (pa_cons (pv 0) (pa_cons (pv 1) (pa_cons pe_int pa_nil)))) pa_nil)) (pg_name (i := 3) sc__law_names.nd rfl (by first | exact Or.inl rfl | exact Or.inr rfl)) (pss_one (ps_set (i := 2) sc__law_names.nd rfl (by first | exact Or.inl rfl | exact Or.inr rfl) (pe_op op_addA (pv 2) (pe_c C__law_pick hr (Nat.le_refl _) (by rfl) (pa_cons (pv 0) (pa_cons (pv 1) (pa_cons pe_str pa_nil)))))))))
    (pss_cons (ps_set (i := 4) sc__law_names.nd rfl (by first | exact Or.inl rfl | exact Or.inr rfl) (pe_c C__law_pick hr (Nat.le_refl _) (by rfl) (pa_cons (pv 0) (pa_cons (pv 1) (pa_cons (pe_lst (pa_cons pe_str (pa_cons pe_str (pa_cons pe_str pa_nil)))) pa_nil)))))
    (pss_one (ps_ret (pe_tup (pa_cons (pe_un (pe_lc (own := [("_law_sign", 5)]) (by rfl) sc__law_names.nd (pi_it (pv 4)) (blkOk_by (own := [("_law_sign", 5)]) (N := N__law_names) (sc := defScope s__law_names) (by decide +kernel)) (fun _ _ _ _ _ => (pg_name (i := 5) sc__law_names.nd rfl (by first | exact Or.inl rfl | exact Or.inr rfl))) (fun _ _ _ _ _ => pts_nil) (fun _ _ _ _ _ => (pe_op op_addA (pv 5) (pv 2))))) (pa_cons (pe_un (pe_lc (own := [("_law_sign", 5)]) (by rfl) sc__law_names.nd (pi_it pe_str) (blkOk_by (own := [("_law_sign", 5)]) (N := N__law_names) (sc := defScope s__law_names) (by decide +kernel)) (fun _ _ _ _ _ => (pg_name (i := 5) sc__law_names.nd rfl (by first | exact Or.inl rfl | exact Or.inr rfl))) (fun _ _ _ _ _ => pts_nil) (fun _ _ _ _ _ => (pe_op op_addA (pv 5) (pv 2))))) pa_nil)))))))),
    (ss_seq (ss_set (se_c fun _ _ => .str))
    (ss_seq (ss_for (ws := [3]) (si_rng1 (sa_cons (se_call (sa_cons se_var (sa_cons se_var (sa_cons (se_c fun _ _ => .int) sa_nil)))) sa_nil)) (sg_name (by decide)) (ss_fgt (ss_set (se_2 u_add se_var (se_call (sa_cons se_var (sa_cons se_var (sa_cons (se_c fun _ _ => .str) sa_nil))))))))
    (ss_seq (ss_set (se_call (sa_cons se_var (sa_cons se_var (sa_cons (se_lst (sa_cons (se_c fun _ _ => .str) (sa_cons (se_c fun _ _ => .str) (sa_cons (se_c fun _ _ => .str) sa_nil)))) sa_nil)))))
    (ss_ret (se_tup (sa_cons (se_lc (vs := [5]) (si_it se_var) (sg_name (by decide)) st_yes (se_2 u_add se_var se_var)) (sa_cons (se_lc (vs := [5]) (si_it (se_c fun _ _ => .str)) (sg_name (by decide)) st_yes (se_2 u_add se_var se_var)) sa_nil)))))))⟩
theorem ok__law_program {P : Program} {base : Heap} {k : Nat} (T : Top w K mg a_SHAPES a_SETS) {g__law_names : Mir} (C__law_names : Ok P w K mg base k "_law_names" [.val, .io] g__law_names) {g__law_draw : Mir} (C__law_draw : Ok P w K mg base k "_law_draw" [.val, .io, .val] g__law_draw) {g__law_block : Mir} (C__law_block : Ok P w K mg base k "_law_block" [.val, .io, .val, .io, .val, .val] g__law_block) : Ok P w K mg base (k + 1) "_law_program" [.val, .io, .val, .val] (m__law_program g__law_names g__law_draw g__law_block) := by
  refine At.ok [.val, .io, .val, .val] T.d__law_program sc__law_program rfl (by decide) (fun _ _ h => h) (fun fA cdv A outer s H E hr => ?_)
  have hu := room64 hr
  have hu1 := hu_of hr
  have hu0 := hu_lt hr
  exact ⟨_, (pss_cons (ps_set (i := 4) sc__law_program.nd rfl (by first | exact Or.inl rfl | exact Or.inr rfl) (pe_c C__law_names hr (Nat.le_refl _) (by rfl) (pa_cons (pv 0) (pa_cons (pv 1) pa_nil))))
    (pss_cons (ps_set (i := 5) sc__law_program.nd rfl (by first | exact Or.inl rfl | exact Or.inr rfl) (pe_callTy call_tuple_of (by rfl) T.b_tuple PySem.Pv.boot_tuple (pa_cons (pe_slice sl_both (tDGet_or (hu := hu1) (pv 4) pe_int (fun _ _ => rfl) (fun _ _ => rfl)) po_none (po_some (pe_c C__law_draw hr (Nat.le_refl _) (by rfl) (pa_cons (pv 0) (pa_cons (pv 1) (pa_cons pe_int pa_nil)))))) pa_nil)))
    (pss_cons (ps_set (i := 6) sc__law_program.nd rfl (by first | exact Or.inl rfl | exact Or.inr rfl) (pe_callTy (cr_dictA rfl) (by rfl) T.b_dict PySem.Pv.boot_dict (pa_cons (pe_un (pe_lc (own := [("_law_name", 7)]) (by rfl) sc__law_program.nd (pi_it (pv 5)) (blkOk_by (own := [("_law_name", 7)]) (N := N__law_program) (sc := defScope s__law_program) (by decide +kernel)) (fun _ _ _ _ _ => (pg_name (i := 7) sc__law_program.nd rfl (by first | exact Or.inl rfl | exact Or.inr rfl))) (fun _ _ _ _ _ => pts_nil) (fun _ _ _ _ _ => (pe_tup (pa_cons (pv 7) (pa_cons pe_bl pa_nil)))))) pa_nil)))
    (pss_one (ps_ret (pe_tup (pa_cons (pv 5) (pa_cons (pe_c C__law_block hr (Nat.le_refl _) (by rfl) (pa_cons (pv 0) (pa_cons (pv 1) (pa_cons (pv 4) (pa_cons (pv 6) (pa_cons (pv 2) (pa_cons (pv 3) pa_nil))))))) pa_nil)))))))),
    (ss_seq (ss_set (se_call (sa_cons se_var (sa_cons se_var sa_nil))))
    (ss_seq (ss_set (se_n u_tuple (sa_cons (se_sl (se_ix se_var (se_c fun _ _ => .int)) so_none (so_some (se_call (sa_cons se_var (sa_cons se_var (sa_cons (se_c fun _ _ => .int) sa_nil)))))) sa_nil)))
    (ss_seq (ss_set (se_n u_dict (sa_cons (se_lc (vs := [7]) (si_it se_var) (sg_name (by decide)) st_yes (se_tup (sa_cons se_var (sa_cons (se_c fun _ _ => .bl) sa_nil)))) sa_nil)))
    (ss_ret (se_tup (sa_cons se_var (sa_cons (se_call (sa_cons se_var (sa_cons se_var (sa_cons se_var (sa_cons se_var (sa_cons se_var (sa_cons se_var sa_nil))))))) sa_nil)))))))⟩
theorem ok__law_all {P : Program} {base : Heap} {k : Nat} (T : Top w K mg a_SHAPES a_SETS) {g__law_all : Mir} (C__law_all : Ok P w K mg base k "_law_all" [.val, .val] g__law_all) : Ok P w K mg base (k + 1) "_law_all" [.val, .val] (m__law_all g__law_all) := by
  refine At.ok [.val, .val] T.d__law_all sc__law_all rfl (by decide) (fun _ _ h => h) (fun fA cdv A outer s H E hr => ?_)
  have hu := room64 hr
  have hu1 := hu_of hr
  have hu0 := hu_lt hr
  exact ⟨_, (pss_cons (ps_set (i := 2) sc__law_all.nd rfl (by first | exact Or.inl rfl | exact Or.inr rfl) (pe_lst pa_nil))
    (pss_cons (ps_un (ps_for PassesOwn.never rfl (pi_enumK (by rfl) T.b_enumerate (pa_cons (pv 0) pa_nil)) (pg_tup rfl (pgs_cons (pg_name (i := 3) sc__law_all.nd rfl (by first | exact Or.inl rfl | exact Or.inr rfl)) (pgs_cons (pg_name (i := 4) sc__law_all.nd rfl (by first | exact Or.inl rfl | exact Or.inr rfl)) pgs_nil))) (pss_cons (ps_set (i := 5) sc__law_all.nd rfl (by first | exact Or.inl rfl | exact Or.inr rfl) (pe_op op_addA (pv 1) (pe_tup (pa_cons (pv 3) pa_nil))))
    (pss_cons (ps_expr (pe_bm PySem.F.plainAttrs_list PySem.F.slot_list_append PySem.F.type_list_append mt_append (pv 2) (pa_cons (pe_tup (pa_cons (pv 4) (pa_cons (pv 5) pa_nil))) pa_nil)))
    (pss_cons (ps_if (pt_cmpR (op_eqA hu) (tDGet_or (hu := hu1) (pv 4) pe_int (fun _ _ => rfl) (fun _ _ => rfl)) pe_str (nomark _)) (pss_one (ps_set (i := 2) sc__law_all.nd rfl (by first | exact Or.inl rfl | exact Or.inr rfl) (pe_op op_addA (pe_op op_addA (pv 2) (pe_c C__law_all hr (Nat.le_refl _) (by rfl) (pa_cons (tDGet_or (hu := hu1) (pv 4) pe_int (fun _ _ => rfl) (fun _ _ => rfl)) (pa_cons (pe_op op_addA (pv 5) (pe_tup (pa_cons pe_int pa_nil))) pa_nil)))) (pe_c C__law_all hr (Nat.le_refl _) (by rfl) (pa_cons (tDGet_or (hu := hu1) (pv 4) pe_int (fun _ _ => rfl) (fun _ _ => rfl)) (pa_cons (pe_op op_addA (pv 5) (pe_tup (pa_cons pe_int pa_nil))) pa_nil)))))) pss_nil)
    (pss_one (ps_if (pt_cmpR (op_eqA hu) (tDGet_or (hu := hu1) (pv 4) pe_int (fun _ _ => rfl) (fun _ _ => rfl)) pe_str (nomark _)) (pss_one (ps_set (i := 2) sc__law_all.nd rfl (by first | exact Or.inl rfl | exact Or.inr rfl) (pe_op op_addA (pv 2) (pe_c C__law_all hr (Nat.le_refl _) (by rfl) (pa_cons (tDGet_or (hu := hu1) (pv 4) pe_int (fun _ _ => rfl) (fun _ _ => rfl)) (pa_cons (pe_op op_addA (pv 5) (pe_tup (pa_cons pe_int pa_nil))) pa_nil)))))) pss_nil)))))))
    (pss_one (ps_ret (pv 2))))),
    (ss_seq (ss_set (se_lst sa_nil))
    (ss_seq (ss_for (ws := [4, 3]) (si_enum (sa_cons se_var sa_nil)) (sg_tup (sgs_cons (sg_name (by decide)) (sgs_cons (sg_name (by decide)) sgs_nil))) (ss_fgt (ss_seq (ss_set (se_2 u_add se_var (se_tup (sa_cons se_var sa_nil))))
    (ss_seq (ss_expr (se_mu mu_append se_var (sa_cons (se_tup (sa_cons se_var (sa_cons se_var sa_nil))) sa_nil)))
    (ss_seq (ss_if (st_test (se_2 u_eq (se_ix se_var (se_c fun _ _ => .int)) (se_c fun _ _ => .str))) (ss_set (se_2 u_add (se_2 u_add se_var (se_call (sa_cons (se_ix se_var (se_c fun _ _ => .int)) (sa_cons (se_2 u_add se_var (se_tup (sa_cons (se_c fun _ _ => .int) sa_nil))) sa_nil)))) (se_call (sa_cons (se_ix se_var (se_c fun _ _ => .int)) (sa_cons (se_2 u_add se_var (se_tup (sa_cons (se_c fun _ _ => .int) sa_nil))) sa_nil))))) ss_next)
    (ss_if (st_test (se_2 u_eq (se_ix se_var (se_c fun _ _ => .int)) (se_c fun _ _ => .str))) (ss_set (se_2 u_add se_var (se_call (sa_cons (se_ix se_var (se_c fun _ _ => .int)) (sa_cons (se_2 u_add se_var (se_tup (sa_cons (se_c fun _ _ => .int) sa_nil))) sa_nil))))) ss_next))))))
    (ss_ret se_var)))⟩
theorem ok_law {P : Program} {base : Heap} {k : Nat} (T : Top w K mg a_SHAPES a_SETS) {g__law_program : Mir} (C__law_program : Ok P w K mg base k "_law_program" [.val, .io, .val, .val] g__law_program) {g__law_all : Mir} (C__law_all : Ok P w K mg base k "_law_all" [.val, .val] g__law_all) {g_may_give : Mir} (C_may_give : Ok P w K mg base k "may_give" [.val] g_may_give) {g_size : Mir} (C_size : Ok P w K mg base k "size" [.val] g_size) : OkL P w K mg base (k + 1) "law" s_law ["_law_script"] [.val] (m_law g__law_program g__law_all g_may_give g_size) := by
  refine At.okL [.val] T.d_law sc_law rfl (by decide) (fun _ _ h => h) (fun fA cdv A outer s H E hr => ?_)
  have hu := room64 hr
  have hu1 := hu_of hr
  have hu0 := hu_lt hr
  exact ⟨_, (pss_cons (ps_set (i := 1) sc_law.nd rfl (by first | exact Or.inl rfl | exact Or.inr rfl) (pe_lst pa_nil))
    (pss_cons (ps_set (i := 2) sc_law.nd rfl (by first | exact Or.inl rfl | exact Or.inr rfl) (pe_c C__law_program hr (Nat.le_refl _) (by rfl) (pa_cons (pv 0) (pa_cons (pv 1) (pa_cons pe_int (pa_cons pe_int pa_nil))))))
    (pss_cons (ps_set (i := 3) sc_law.nd rfl (by first | exact Or.inl rfl | exact Or.inr rfl) (pe_c C__law_all hr (Nat.le_refl _) (by rfl) (pa_cons (tDGet_or (hu := hu1) (pv 2) pe_int (fun _ _ => rfl) (fun _ _ => rfl)) (pa_cons (pe_tup pa_nil) pa_nil))))
    (pss_cons (ps_set (i := 4) sc_law.nd rfl (by first | exact Or.inl rfl | exact Or.inr rfl) (pe_callTy (cr_dictA rfl) (by rfl) T.b_dict PySem.Pv.boot_dict (pa_cons (pe_un (pe_lc (own := [("_law_row", 7), ("_law_place", 8)]) (by rfl) sc_law.nd (pi_it (pv 3)) (blkOk_by (own := [("_law_row", 7), ("_law_place", 8)]) (N := N_law) (sc := defScope s_law) (by decide +kernel)) (fun _ _ _ _ _ => (pg_tup rfl (pgs_cons (pg_name (i := 7) sc_law.nd rfl (by first | exact Or.inl rfl | exact Or.inr rfl)) (pgs_cons (pg_name (i := 8) sc_law.nd rfl (by first | exact Or.inl rfl | exact Or.inr rfl)) pgs_nil)))) (fun _ _ _ _ _ => (pts_one (pt_cmpR (op_eqA hu) (tDGet_or (hu := hu1) (pv 7) pe_int (fun _ _ => rfl) (fun _ _ => rfl)) pe_str (nomark _)))) (fun _ _ _ _ _ => (pe_tup (pa_cons (tDGet_or (hu := hu1) (pv 7) pe_int (fun _ _ => rfl) (fun _ _ => rfl)) (pa_cons pe_bl pa_nil)))))) pa_nil)))
    (pss_cons (ps_set (i := 5) sc_law.nd rfl (by first | exact Or.inl rfl | exact Or.inr rfl) pe_bl)
    (pss_cons (ps_while PassesOwn.never (pt_val (pv 5)) (pss_cons (ps_set (i := 5) sc_law.nd rfl (by first | exact Or.inl rfl | exact Or.inr rfl) pe_bl)
    (pss_one (ps_un (ps_for PassesOwn.never rfl (pi_it (pv 3)) (pg_tup rfl (pgs_cons (pg_name (i := 7) sc_law.nd rfl (by first | exact Or.inl rfl | exact Or.inr rfl)) (pgs_cons (pg_name (i := 8) sc_law.nd rfl (by first | exact Or.inl rfl | exact Or.inr rfl)) pgs_nil))) (pss_one (ps_if (pw_and (pt_cmpR (op_eqA hu) (tDGet_or (hu := hu1) (pv 7) pe_int (fun _ _ => rfl) (fun _ _ => rfl)) pe_str (nomark _)) (pw_and1 (pt_cmpR (op_neA hu) (pe_in hu (tDGet_or (hu := hu1) (pv 7) pe_int (fun _ _ => rfl) (fun _ _ => rfl)) (pv 4) (by with_unfolding_all rfl)) (pe_in hu (tDGet_or (hu := hu1) (pv 7) pe_int (fun _ _ => rfl) (fun _ _ => rfl)) (pv 4) (by with_unfolding_all rfl)) (nomark _)))).pt (pss_cons (ps_dput hu1 (pv 4) (tDGet_or (hu := hu1) (pv 7) pe_int (fun _ _ => rfl) (fun _ _ => rfl)) pe_bl rfl)
    (pss_cons (ps_dput hu1 (pv 4) (tDGet_or (hu := hu1) (pv 7) pe_int (fun _ _ => rfl) (fun _ _ => rfl)) pe_bl rfl)
    (pss_one (ps_set (i := 5) sc_law.nd rfl (by first | exact Or.inl rfl | exact Or.inr rfl) pe_bl)))) pss_nil)))))))
    (pss_cons (ps_un (ps_setLc (i := 6) (own := [("_law_row", 7), ("_law_place", 8)]) (by rfl) sc_law.nd rfl rfl (sw_true rfl rfl rfl (by decide +kernel)) (pi_it (pv 3)) (blkOk_by (own := [("_law_row", 7), ("_law_place", 8)]) (N := N_law) (sc := defScope s_law) (by decide +kernel)) (fun _ _ _ _ _ => (pg_tup rfl (pgs_cons (pg_name (i := 7) sc_law.nd rfl (by first | exact Or.inl rfl | exact Or.inr rfl)) (pgs_cons (pg_name (i := 8) sc_law.nd rfl (by first | exact Or.inl rfl | exact Or.inr rfl)) pgs_nil)))) (fun _ _ _ _ _ => (pts_one (pw_and (pt_cmpR (op_eqA hu) (tDGet_or (hu := hu1) (pv 7) pe_int (fun _ _ => rfl) (fun _ _ => rfl)) pe_str (nomark _)) (pw_and1 (pt_in hu (tDGet_or (hu := hu1) (pv 7) pe_int (fun _ _ => rfl) (fun _ _ => rfl)) (pv 4) (by with_unfolding_all rfl)))).pt)) (fun _ _ _ _ _ => (pv 8))))
    (pss_one (ps_ret (pe_and (pe_cmpR (op_eqA hu) (pe_c C_may_give hr (Nat.le_refl _) (by rfl) (pa_cons (pv 2) pa_nil)) (pv 6) (nomark _)) (pe_one (pe_cmpR (op_eqA hu) (pe_c C_size hr (Nat.le_refl _) (by rfl) (pa_cons (pv 2) pa_nil)) (pe_callB cr_lenA (by rfl) T.b_len PySem.boot_len (pa_cons (pv 3) pa_nil)) (nomark _))))))))))))),
    (ss_seq (ss_set (se_lst sa_nil))
    (ss_seq (ss_set (se_call (sa_cons se_var (sa_cons se_var (sa_cons (se_c fun _ _ => .int) (sa_cons (se_c fun _ _ => .int) sa_nil))))))
    (ss_seq (ss_set (se_call (sa_cons (se_ix se_var (se_c fun _ _ => .int)) (sa_cons (se_tup sa_nil) sa_nil))))
    (ss_seq (ss_set (se_n u_dict (sa_cons (se_lc (vs := [7, 8]) (si_it se_var) (sg_tup (sgs_cons (sg_name (by decide)) (sgs_cons (sg_name (by decide)) sgs_nil))) (st_test (se_2 u_eq (se_ix se_var (se_c fun _ _ => .int)) (se_c fun _ _ => .str))) (se_tup (sa_cons (se_ix se_var (se_c fun _ _ => .int)) (sa_cons (se_c fun _ _ => .bl) sa_nil)))) sa_nil)))
    (ss_seq (ss_set (se_c fun _ _ => .bl))
    (ss_seq (ss_while (st_b se_var) (ss_fgt (ss_seq (ss_set (se_c fun _ _ => .bl))
    (ss_for (ws := [8, 7]) (si_it se_var) (sg_tup (sgs_cons (sg_name (by decide)) (sgs_cons (sg_name (by decide)) sgs_nil))) (ss_fgt (ss_if (st_and (st_test (se_2 u_eq (se_ix se_var (se_c fun _ _ => .int)) (se_c fun _ _ => .str))) (st_test (se_2 u_ne (se_in (se_ix se_var (se_c fun _ _ => .int)) se_var) (se_in (se_ix se_var (se_c fun _ _ => .int)) se_var)))) (ss_seq (ss_put se_var (se_ix se_var (se_c fun _ _ => .int)) (se_c fun _ _ => .bl))
    (ss_seq (ss_put se_var (se_ix se_var (se_c fun _ _ => .int)) (se_c fun _ _ => .bl))
    (ss_set (se_c fun _ _ => .bl)))) ss_next))))))
    (ss_seq (ss_setU (ss_set (se_lc (vs := [7, 8]) (si_it se_var) (sg_tup (sgs_cons (sg_name (by decide)) (sgs_cons (sg_name (by decide)) sgs_nil))) (st_and (st_test (se_2 u_eq (se_ix se_var (se_c fun _ _ => .int)) (se_c fun _ _ => .str))) (st_b (se_in (se_ix se_var (se_c fun _ _ => .int)) se_var))) se_var)))
    (ss_ret (se_and (se_2 u_eq (se_call (sa_cons se_var sa_nil)) se_var) (se_2 u_eq (se_call (sa_cons se_var sa_nil)) (se_n u_len (sa_cons se_var sa_nil))))))))))))⟩
end
end TA
set_option maxRecDepth 100000
set_option maxHeartbeats 8000000
namespace TA
open PySem PySem.Spec L2 DL
def Rlall : Nat → Mir
  | 0 => fun _ => none
  | n + 1 => m__law_all (Rlall n)
theorem lall_turn {n : Nat} {R0 : S} {i : Nat} {r : Row} {pl : List Int} {acc : List (Row × List Int)} (hp : pl.length ≤ 1000) (ha : acc.length + r.cnt ≤ 16000000)
    (ih : ∀ b ∈ r.parts, ∀ pl' : List Int, pl'.length = pl.length + 2 → Rlall n [bD b, plD pl'] = some (.new (.lst ((rowsB 0 b pl').map rpD)), [])) :
    bO (fgTup 2 (fgCons (fgName 3) (fgCons (fgName 4) fgNil)) (.tup [.int (i : Nat), r.toD]) [R0, .val (plD pl), .own false (.lst (acc.map rpD)), .unset, .unset, .unset]) (lb0__law_all (Rlall n)) =
      some (.nx [R0, .val (plD pl), .own false (.lst ((acc ++ ((r, pl ++ [(i : Int)]) :: rowsR r (pl ++ [(i : Int)]))).map rpD)), .unset, .unset, .unset]) := by
  have c1 : 1 ≤ r.cnt := by cases r <;> simp [Row.cnt]
  have s1 : acc.length < 16777216 := by omega
  have s2 : pl.length + 1 ≤ 16777216 := by omega
  have s2' : (pl ++ [(i : Int)]).length + 1 ≤ 16777216 := by simp; omega
  have e1 : ∀ (p : List Int) (k : Int), p.length + 1 ≤ 16777216 → gAdd (plD p) (.tup [.int k]) = some (.val (plD (p ++ [k]))) := fun p k hs => by
    simp only [plD, EVX, EV, EVT, EVC, EVY, LST, ↓reduceIte, Nat.reduceAdd, Nat.reduceSub, Nat.reduceLeDiff, Nat.reduceLT, Nat.reduceEqDiff, Nat.reduceBEq, Int.reduceLT, Int.reduceAdd, Int.reduceBNe, Int.reduceLE, Int.reduceEq, Int.reduceBEq, Bool.false_eq_true, reduceCtorEq, sizeLine_eq, decide_true, decide_false, decide_eq_true_eq, true_and, and_true, and_self, List.length_map, hs, List.map_append]
  have e3 : acc.map rpD ++ [.tup [r.toD, plD (pl ++ [(i : Int)])]] = (acc ++ [(r, pl ++ [(i : Int)])]).map rpD := by rw [List.map_append]; rfl
  have l1 : (pl ++ [(i : Int)]).length = pl.length + 1 := by simp
  cases r with
  | s r =>
    have ho : gIx (Row.s r).toD (.int 0) = some (.val (.str r.op)) := hop (.s r)
    have h1 : (r.op == ("if" : Str)) = false := by cases r <;> simp only [SR.op, EVX, EV, EVT, EVC, EVY, LST, ↓reduceIte, Nat.reduceAdd, Nat.reduceSub, Nat.reduceLeDiff, Nat.reduceLT, Nat.reduceEqDiff, Nat.reduceBEq, Int.reduceLT, Int.reduceAdd, Int.reduceBNe, Int.reduceLE, Int.reduceEq, Int.reduceBEq, Bool.false_eq_true, reduceCtorEq, sizeLine_eq, decide_true, decide_false, decide_eq_true_eq, true_and, and_true, and_self]
    have h2 : (r.op == ("loop" : Str)) = false := by cases r <;> simp only [SR.op, EVX, EV, EVT, EVC, EVY, LST, ↓reduceIte, Nat.reduceAdd, Nat.reduceSub, Nat.reduceLeDiff, Nat.reduceLT, Nat.reduceEqDiff, Nat.reduceBEq, Int.reduceLT, Int.reduceAdd, Int.reduceBNe, Int.reduceLE, Int.reduceEq, Int.reduceBEq, Bool.false_eq_true, reduceCtorEq, sizeLine_eq, decide_true, decide_false, decide_eq_true_eq, true_and, and_true, and_self]
    simp only [lb0__law_all, EVX, EV, EVT, EVC, EVY, LST, ↓reduceIte, Nat.reduceAdd, Nat.reduceSub, Nat.reduceLeDiff, Nat.reduceLT, Nat.reduceEqDiff, Nat.reduceBEq, Int.reduceLT, Int.reduceAdd, Int.reduceBNe, Int.reduceLE, Int.reduceEq, Int.reduceBEq, Bool.false_eq_true, reduceCtorEq, sizeLine_eq, decide_true, decide_false, decide_eq_true_eq, true_and, and_true, and_self, List.length_map, s1, e1 pl i s2, e3, ho, h1, h2, rowsR]
  | ife x a b =>
    have i1 := ih a (by simp [Row.parts]) (pl ++ [(i : Int)] ++ [0]) (by simp)
    have i2 := ih b (by simp [Row.parts]) (pl ++ [(i : Int)] ++ [1]) (by simp)
    simp only [Row.cnt] at ha
    have r1 := rowsB_len a 0 (pl ++ [(i : Int)] ++ [0])
    have r2 := rowsB_len b 0 (pl ++ [(i : Int)] ++ [1])
    have s3 : (acc ++ [(Row.ife x a b, pl ++ [(i : Int)])]).length + (rowsB 0 a (pl ++ [(i : Int)] ++ [0])).length ≤ 16777216 := by simp only [List.length_append, List.length_singleton]; omega
    have s4 : (acc ++ [(Row.ife x a b, pl ++ [(i : Int)])] ++ rowsB 0 a (pl ++ [(i : Int)] ++ [0])).length + (rowsB 0 b (pl ++ [(i : Int)] ++ [1])).length ≤ 16777216 := by simp only [List.length_append, List.length_singleton]; omega
    have g2 : gIx (Row.ife x a b).toD (.int 2) = some (.val (bD a)) := by simp only [Row.toD, EVX, EV, EVT, EVC, EVY, LST, ↓reduceIte, Nat.reduceAdd, Nat.reduceSub, Nat.reduceLeDiff, Nat.reduceLT, Nat.reduceEqDiff, Nat.reduceBEq, Int.reduceLT, Int.reduceAdd, Int.reduceBNe, Int.reduceLE, Int.reduceEq, Int.reduceBEq, Bool.false_eq_true, reduceCtorEq, sizeLine_eq, decide_true, decide_false, decide_eq_true_eq, true_and, and_true, and_self]; rfl
    have g3 : gIx (Row.ife x a b).toD (.int 3) = some (.val (bD b)) := by simp only [Row.toD, EVX, EV, EVT, EVC, EVY, LST, ↓reduceIte, Nat.reduceAdd, Nat.reduceSub, Nat.reduceLeDiff, Nat.reduceLT, Nat.reduceEqDiff, Nat.reduceBEq, Int.reduceLT, Int.reduceAdd, Int.reduceBNe, Int.reduceLE, Int.reduceEq, Int.reduceBEq, Bool.false_eq_true, reduceCtorEq, sizeLine_eq, decide_true, decide_false, decide_eq_true_eq, true_and, and_true, and_self]; rfl
    simp only [lb0__law_all, EVX, EV, EVT, EVC, EVY, LST, ↓reduceIte, Nat.reduceAdd, Nat.reduceSub, Nat.reduceLeDiff, Nat.reduceLT, Nat.reduceEqDiff, Nat.reduceBEq, Int.reduceLT, Int.reduceAdd, Int.reduceBNe, Int.reduceLE, Int.reduceEq, Int.reduceBEq, Bool.false_eq_true, reduceCtorEq, sizeLine_eq, decide_true, decide_false, decide_eq_true_eq, true_and, and_true, and_self, List.length_map, s1, e1 pl i s2, e1 _ 0 s2', e1 _ 1 s2', e3, hop, Row.op, g2, g3, i1, i2, s3, s4, app_rp, rowsR]
    simp only [List.append_assoc, List.singleton_append, List.cons_append, List.nil_append]
  | loop x b =>
    have i1 := ih b (by simp [Row.parts]) (pl ++ [(i : Int)] ++ [0]) (by simp)
    simp only [Row.cnt] at ha
    have r1 := rowsB_len b 0 (pl ++ [(i : Int)] ++ [0])
    have s3 : (acc ++ [(Row.loop x b, pl ++ [(i : Int)])]).length + (rowsB 0 b (pl ++ [(i : Int)] ++ [0])).length ≤ 16777216 := by simp only [List.length_append, List.length_singleton]; omega
    have g2 : gIx (Row.loop x b).toD (.int 2) = some (.val (bD b)) := by simp only [Row.toD, EVX, EV, EVT, EVC, EVY, LST, ↓reduceIte, Nat.reduceAdd, Nat.reduceSub, Nat.reduceLeDiff, Nat.reduceLT, Nat.reduceEqDiff, Nat.reduceBEq, Int.reduceLT, Int.reduceAdd, Int.reduceBNe, Int.reduceLE, Int.reduceEq, Int.reduceBEq, Bool.false_eq_true, reduceCtorEq, sizeLine_eq, decide_true, decide_false, decide_eq_true_eq, true_and, and_true, and_self]; rfl
    simp only [lb0__law_all, EVX, EV, EVT, EVC, EVY, LST, ↓reduceIte, Nat.reduceAdd, Nat.reduceSub, Nat.reduceLeDiff, Nat.reduceLT, Nat.reduceEqDiff, Nat.reduceBEq, Int.reduceLT, Int.reduceAdd, Int.reduceBNe, Int.reduceLE, Int.reduceEq, Int.reduceBEq, Bool.false_eq_true, reduceCtorEq, sizeLine_eq, decide_true, decide_false, decide_eq_true_eq, true_and, and_true, and_self, List.length_map, s1, e1 pl i s2, e1 _ 0 s2', e3, hop, Row.op, g2, i1, s3, app_rp, rowsR]
    simp only [List.append_assoc, List.singleton_append, List.cons_append, List.nil_append]
theorem lall_lp {n : Nat} {R0 : S} {pl : List Int} (hq : pl.length ≤ 1000) : ∀ (b : List Row) (i : Nat) (acc : List (Row × List Int)), acc.length + cnts b ≤ 16000000 →
    (∀ r ∈ b, ∀ p ∈ r.parts, ∀ pl' : List Int, pl'.length = pl.length + 2 → Rlall n [bD p, plD pl'] = some (.new (.lst ((rowsB 0 p pl').map rpD)), [])) →
    forL (fgTup 2 (fgCons (fgName 3) (fgCons (fgName 4) fgNil))) (lb0__law_all (Rlall n)) (enumD i (b.map Row.toD)) [R0, .val (plD pl), .own false (.lst (acc.map rpD)), .unset, .unset, .unset] =
      some (.nx [R0, .val (plD pl), .own false (.lst ((acc ++ rowsB i b pl).map rpD)), .unset, .unset, .unset])
  | [], i, acc, _, _ => by simp only [List.map_nil, enumD, EVX, EV, EVT, EVC, EVY, LST, ↓reduceIte, Nat.reduceAdd, Nat.reduceSub, Nat.reduceLeDiff, Nat.reduceLT, Nat.reduceEqDiff, Nat.reduceBEq, Int.reduceLT, Int.reduceAdd, Int.reduceBNe, Int.reduceLE, Int.reduceEq, Int.reduceBEq, Bool.false_eq_true, reduceCtorEq, sizeLine_eq, decide_true, decide_false, decide_eq_true_eq, true_and, and_true, and_self, rowsB, List.append_nil]
  | r :: b, i, acc, ha, ih => by
    rw [cnts] at ha
    have hl := rowsR_len r (pl ++ [(i : Int)])
    rw [List.map_cons, enumD, forL_c, lall_turn (by omega) (by omega) (ih r List.mem_cons_self), bL_nx, lall_lp hq b (i + 1) _ (by simp only [List.length_append, List.length_cons]; omega) fun r' hr' => ih r' (List.mem_cons_of_mem _ hr')]
    simp only [rowsB, List.append_assoc, List.cons_append]
theorem lall_ok : ∀ (n : Nat) (b : List Row) (pl : List Int), deps b < n → cnts b ≤ 16000000 → pl.length + 2 * deps b ≤ 1000 → Rlall n [bD b, plD pl] = some (.new (.lst ((rowsB 0 b pl).map rpD)), [])
  | 0, _, _, h, _, _ => absurd h (Nat.not_lt_zero _)
  | n + 1, b, pl, h, hc, hp => by
    have L := lall_lp (n := n) (R0 := .val (bD b)) (pl := pl) (by omega) b 0 [] (by simpa using hc) fun r hr p hp' pl' hl' => by
      have := part_dep hp'; have := mem_dep hr
      exact lall_ok n p pl' (by omega) (by omega) (by omega)
    rw [List.map_nil, List.nil_append] at L
    show m__law_all (Rlall n) [bD b, plD pl] = _
    rw [mk__law_all]
    unfold fs__law_all lp0__law_all
    simp only [EVX, EV, EVT, EVC, EVY, LST, ↓reduceIte, Nat.reduceAdd, Nat.reduceSub, Nat.reduceLeDiff, Nat.reduceLT, Nat.reduceEqDiff, Nat.reduceBEq, Int.reduceLT, Int.reduceAdd, Int.reduceBNe, Int.reduceLE, Int.reduceEq, Int.reduceBEq, Bool.false_eq_true, reduceCtorEq, sizeLine_eq, decide_true, decide_false, decide_eq_true_eq, true_and, and_true, and_self, enumK_b, L]
def giveOf (q : Row × List Int) : Option Str := match q.1 with
  | .s (.give t) => some t
  | _ => none
def gives (rows : List (Row × List Int)) : List Str := rows.filterMap giveOf
def mark1 (z : List Str × Bool) (q : Row × List Int) : List Str × Bool := match q.1 with
  | .s (.lets t u) => if (decide (t ∈ z.1) != decide (u ∈ z.1)) = true then (ins (ins z.1 t) u, true) else z
  | _ => z
theorem mark_same {o : List Str} {m : Bool} {t u : Str} {pl : List Int} (h : t ∈ o ↔ u ∈ o) : mark1 (o, m) (.s (.lets t u), pl) = (o, m) := by
  unfold mark1
  have : (decide (t ∈ o) != decide (u ∈ o)) = false := by by_cases h1 : t ∈ o <;> by_cases h2 : u ∈ o <;> simp_all
  dsimp only
  rw [this, if_neg Bool.false_ne_true]
theorem mark_diff {o : List Str} {m : Bool} {t u : Str} {pl : List Int} (h : ¬ (t ∈ o ↔ u ∈ o)) : mark1 (o, m) (.s (.lets t u), pl) = (ins (ins o t) u, true) := by
  unfold mark1
  have : (decide (t ∈ o) != decide (u ∈ o)) = true := by by_cases h1 : t ∈ o <;> by_cases h2 : u ∈ o <;> simp_all
  dsimp only
  rw [this, if_pos rfl]
structure MI (U : List Str) (o : List Str) : Prop where
  nd : o.Nodup
  sub : ∀ x ∈ o, x ∈ U
theorem MI.ins {U o : List Str} (h : MI U o) {x : Str} (hx : x ∈ U) : MI U (ins o x) := ⟨ins_nd h.nd, fun y hy => (ins_mem.mp hy).elim (h.sub y) fun e => e ▸ hx⟩
def law4 (g1 g2 g3 g4 : Mir) : Mir := g1
def lE (s0 s1 s2 : S) (rows : List (Row × List Int)) (o : List Str) (m : Bool) : Env' := [s0, s1, s2, .val (.lst (rows.map rpD)), .own false (.dct (dk o)), .val (.bl m), .unset, .unset, .unset]
theorem mark_turn {U : List Str} (hU : U.length ≤ 1000) {g1 g2 g3 g4 : Mir} {s0 s1 s2 : S} {rows : List (Row × List Int)} {o : List Str} {m : Bool} (h : MI U o) (q : Row × List Int) (k : ∀ x ∈ hn q.1, x ∈ U) :
    bO (fgTup 2 (fgCons (fgName 7) (fgCons (fgName 8) fgNil)) (rpD q) (lE s0 s1 s2 rows o m)) (lb0_law g1 g2 g3 g4) = some (.nx (lE s0 s1 s2 rows (mark1 (o, m) q).1 (mark1 (o, m) q).2)) ∧ MI U (mark1 (o, m) q).1 := by
  obtain ⟨r, pl⟩ := q
  rcases r with r | ⟨x, a, b⟩ | ⟨x, b⟩
  · cases r with
    | lets t u =>
      have l1 := sub_len o U h.nd h.sub
      have l2 := (ins_len o t).1
      have s1 : o.length < 16777216 := by omega
      have s2 : (ins o t).length < 16777216 := by omega
      by_cases h1 : t ∈ o <;> by_cases h2 : u ∈ o
      · rw [mark_same (by simp [h1, h2])]
        exact ⟨by simp only [lb0_law, lE, rpD, Row.toD, SR.toD, EVX, EV, EVT, EVC, EVY, LST, ↓reduceIte, Nat.reduceAdd, Nat.reduceSub, Nat.reduceLeDiff, Nat.reduceLT, Nat.reduceEqDiff, Nat.reduceBEq, Int.reduceLT, Int.reduceAdd, Int.reduceBNe, Int.reduceLE, Int.reduceEq, Int.reduceBEq, Bool.false_eq_true, reduceCtorEq, sizeLine_eq, decide_true, decide_false, decide_eq_true_eq, true_and, and_true, and_self, dk_has, dk_len, dk_put, h1, h2, s1, s2], h⟩
      · rw [mark_diff (by simp [h1, h2])]
        exact ⟨by simp only [lb0_law, lE, rpD, Row.toD, SR.toD, EVX, EV, EVT, EVC, EVY, LST, ↓reduceIte, Nat.reduceAdd, Nat.reduceSub, Nat.reduceLeDiff, Nat.reduceLT, Nat.reduceEqDiff, Nat.reduceBEq, Int.reduceLT, Int.reduceAdd, Int.reduceBNe, Int.reduceLE, Int.reduceEq, Int.reduceBEq, Bool.false_eq_true, reduceCtorEq, sizeLine_eq, decide_true, decide_false, decide_eq_true_eq, true_and, and_true, and_self, dk_has, dk_len, dk_put, h1, h2, s1, s2], (h.ins (k t (by simp [hn]))).ins (k u (by simp [hn]))⟩
      · rw [mark_diff (by simp [h1, h2])]
        exact ⟨by simp only [lb0_law, lE, rpD, Row.toD, SR.toD, EVX, EV, EVT, EVC, EVY, LST, ↓reduceIte, Nat.reduceAdd, Nat.reduceSub, Nat.reduceLeDiff, Nat.reduceLT, Nat.reduceEqDiff, Nat.reduceBEq, Int.reduceLT, Int.reduceAdd, Int.reduceBNe, Int.reduceLE, Int.reduceEq, Int.reduceBEq, Bool.false_eq_true, reduceCtorEq, sizeLine_eq, decide_true, decide_false, decide_eq_true_eq, true_and, and_true, and_self, dk_has, dk_len, dk_put, h1, h2, s1, s2], (h.ins (k t (by simp [hn]))).ins (k u (by simp [hn]))⟩
      · rw [mark_same (by simp [h1, h2])]
        exact ⟨by simp only [lb0_law, lE, rpD, Row.toD, SR.toD, EVX, EV, EVT, EVC, EVY, LST, ↓reduceIte, Nat.reduceAdd, Nat.reduceSub, Nat.reduceLeDiff, Nat.reduceLT, Nat.reduceEqDiff, Nat.reduceBEq, Int.reduceLT, Int.reduceAdd, Int.reduceBNe, Int.reduceLE, Int.reduceEq, Int.reduceBEq, Bool.false_eq_true, reduceCtorEq, sizeLine_eq, decide_true, decide_false, decide_eq_true_eq, true_and, and_true, and_self, dk_has, dk_len, dk_put, h1, h2, s1, s2], h⟩
    | _ =>
      refine ⟨?_, h⟩
      simp only [lb0_law, lE, rpD, Row.toD, SR.toD, EVX, EV, EVT, EVC, EVY, LST, ↓reduceIte, Nat.reduceAdd, Nat.reduceSub, Nat.reduceLeDiff, Nat.reduceLT, Nat.reduceEqDiff, Nat.reduceBEq, Int.reduceLT, Int.reduceAdd, Int.reduceBNe, Int.reduceLE, Int.reduceEq, Int.reduceBEq, Bool.false_eq_true, reduceCtorEq, sizeLine_eq, decide_true, decide_false, decide_eq_true_eq, true_and, and_true, and_self, mark1]
  · refine ⟨?_, h⟩
    simp only [lb0_law, lE, rpD, Row.toD, EVX, EV, EVT, EVC, EVY, LST, ↓reduceIte, Nat.reduceAdd, Nat.reduceSub, Nat.reduceLeDiff, Nat.reduceLT, Nat.reduceEqDiff, Nat.reduceBEq, Int.reduceLT, Int.reduceAdd, Int.reduceBNe, Int.reduceLE, Int.reduceEq, Int.reduceBEq, Bool.false_eq_true, reduceCtorEq, sizeLine_eq, decide_true, decide_false, decide_eq_true_eq, true_and, and_true, and_self, mark1]
  · refine ⟨?_, h⟩
    simp only [lb0_law, lE, rpD, Row.toD, EVX, EV, EVT, EVC, EVY, LST, ↓reduceIte, Nat.reduceAdd, Nat.reduceSub, Nat.reduceLeDiff, Nat.reduceLT, Nat.reduceEqDiff, Nat.reduceBEq, Int.reduceLT, Int.reduceAdd, Int.reduceBNe, Int.reduceLE, Int.reduceEq, Int.reduceBEq, Bool.false_eq_true, reduceCtorEq, sizeLine_eq, decide_true, decide_false, decide_eq_true_eq, true_and, and_true, and_self, mark1]
theorem mark_lp {U : List Str} (hU : U.length ≤ 1000) {g1 g2 g3 g4 : Mir} {s0 s1 s2 : S} {rows : List (Row × List Int)} : ∀ (l : List (Row × List Int)) (o : List Str) (m : Bool), MI U o → (∀ q ∈ l, ∀ x ∈ hn q.1, x ∈ U) →
    forL (fgTup 2 (fgCons (fgName 7) (fgCons (fgName 8) fgNil))) (lb0_law g1 g2 g3 g4) (l.map rpD) (lE s0 s1 s2 rows o m) = some (.nx (lE s0 s1 s2 rows (l.foldl mark1 (o, m)).1 (l.foldl mark1 (o, m)).2)) ∧ MI U (l.foldl mark1 (o, m)).1
  | [], o, m, h, _ => ⟨rfl, h⟩
  | q :: l, o, m, h, k => by
    obtain ⟨a1, a2⟩ := mark_turn (g1 := g1) (g2 := g2) (g3 := g3) (g4 := g4) (s0 := s0) (s1 := s1) (s2 := s2) (rows := rows) (m := m) hU h q (k q List.mem_cons_self)
    rw [List.map_cons, forL_c, a1, bL_nx, List.foldl_cons]
    exact mark_lp hU l _ _ a2 fun p hp => k p (List.mem_cons_of_mem _ hp)
/-- a pass: what is marked grows, stays within closed sets, and is closed where nothing is new -/
theorem mark1_grow (z : List Str × Bool) (q : Row × List Int) : (∀ x ∈ z.1, x ∈ (mark1 z q).1) ∧ z.1.length ≤ (mark1 z q).1.length ∧ ((mark1 z q).2 = true → z.2 = true ∨ z.1.length < (mark1 z q).1.length) ∧ (z.2 = true → (mark1 z q).2 = true) ∧
    ((mark1 z q).2 = false → (mark1 z q).1 = z.1 ∧ ∀ p ∈ edge q.1, p.1 ∈ z.1 ↔ p.2 ∈ z.1) ∧ ∀ S : Str → Prop, (∀ p ∈ edge q.1, S p.1 ↔ S p.2) → (∀ x ∈ z.1, S x) → ∀ x ∈ (mark1 z q).1, S x := by
  obtain ⟨o, m⟩ := z
  obtain ⟨r, pl⟩ := q
  have triv : (∀ x ∈ o, x ∈ o) ∧ o.length ≤ o.length ∧ (m = true → m = true ∨ o.length < o.length) ∧ (m = true → m = true) := ⟨fun _ h => h, Nat.le_refl _, .inl, id⟩
  rcases r with r | ⟨x, a, b⟩ | ⟨x, b⟩
  · cases r with
    | lets t u =>
      have i1 := ins_len o t
      have i2 := ins_len (ins o t) u
      have mem : ∀ y, y ∈ ins (ins o t) u ↔ (y ∈ o ∨ y = t) ∨ y = u := fun y => by rw [ins_mem, ins_mem]
      by_cases hh : t ∈ o ↔ u ∈ o
      · rw [mark_same hh]
        exact ⟨triv.1, triv.2.1, triv.2.2.1, triv.2.2.2, fun _ => ⟨rfl, fun p hp => by simp [edge] at hp; subst hp; exact hh⟩, fun S _ hS => hS⟩
      · rw [mark_diff hh]
        have lt_ : o.length < (ins (ins o t) u).length := by
          by_cases ht : t ∈ o
          · have hu : u ∉ o := fun z => hh ⟨fun _ => z, fun _ => ht⟩
            have e1 : ins o t = o := by unfold ins; rw [if_pos ht]
            rw [e1]
            unfold ins
            rw [if_neg hu, List.length_append, List.length_singleton]; omega
          · have e1 : (ins o t).length = o.length + 1 := by unfold ins; rw [if_neg ht, List.length_append, List.length_singleton]
            omega
        refine ⟨fun x hx => (mem x).mpr (.inl (.inl hx)), by show o.length ≤ (ins (ins o t) u).length; omega, fun _ => .inr lt_, fun _ => rfl, fun z => (nomatch z), fun S hc hS x hx => ?_⟩
        have he := hc (t, u) (by simp [edge])
        have both : S t ∧ S u := by
          by_cases ht : t ∈ o
          · exact ⟨hS t ht, he.mp (hS t ht)⟩
          · have hu : u ∈ o := Classical.byContradiction fun z => hh ⟨fun a => absurd a ht, fun a => absurd a z⟩
            exact ⟨he.mpr (hS u hu), hS u hu⟩
        rcases (mem x).mp hx with (h | rfl) | rfl
        · exact hS x h
        · exact both.1
        · exact both.2
    | _ => exact ⟨triv.1, triv.2.1, triv.2.2.1, triv.2.2.2, fun _ => ⟨rfl, fun p hp => nomatch hp⟩, fun S _ hS => hS⟩
  · exact ⟨triv.1, triv.2.1, triv.2.2.1, triv.2.2.2, fun _ => ⟨rfl, fun p hp => nomatch hp⟩, fun S _ hS => hS⟩
  · exact ⟨triv.1, triv.2.1, triv.2.2.1, triv.2.2.2, fun _ => ⟨rfl, fun p hp => nomatch hp⟩, fun S _ hS => hS⟩
theorem pass_grow : ∀ (l : List (Row × List Int)) (z : List Str × Bool), (∀ x ∈ z.1, x ∈ (l.foldl mark1 z).1) ∧ z.1.length ≤ (l.foldl mark1 z).1.length ∧ ((l.foldl mark1 z).2 = true → z.2 = true ∨ z.1.length < (l.foldl mark1 z).1.length) ∧ (z.2 = true → (l.foldl mark1 z).2 = true) ∧
    ((l.foldl mark1 z).2 = false → (l.foldl mark1 z).1 = z.1 ∧ ∀ p ∈ edges l, p.1 ∈ z.1 ↔ p.2 ∈ z.1) ∧ ∀ S : Str → Prop, Closed (edges l) S → (∀ x ∈ z.1, S x) → ∀ x ∈ (l.foldl mark1 z).1, S x
  | [], z => ⟨fun _ h => h, Nat.le_refl _, .inl, id, fun _ => ⟨rfl, fun p hp => nomatch hp⟩, fun S _ hS => hS⟩
  | q :: l, z => by
    obtain ⟨a1, a2, a3, a4, a5, a6⟩ := mark1_grow z q
    obtain ⟨b1, b2, b3, b4, b5, b6⟩ := pass_grow l (mark1 z q)
    rw [List.foldl_cons]
    have ee : edges (q :: l) = edge q.1 ++ edges l := List.flatMap_cons
    refine ⟨fun x hx => b1 x (a1 x hx), by omega, fun h => ?_, fun h => b4 (a4 h), fun h => ?_, fun S hc hS => ?_⟩
    · rcases b3 h with h | h
      · rcases a3 h with h | h
        · exact .inl h
        · exact .inr (by omega)
      · exact .inr (by omega)
    · obtain ⟨c1, c2⟩ := b5 h
      have hm : (mark1 z q).2 = false := by
        cases e : (mark1 z q).2 with
        | false => rfl
        | true => rw [b4 e] at h; cases h
      obtain ⟨d1, d2⟩ := a5 hm
      refine ⟨c1.trans d1, fun p hp => ?_⟩
      rw [ee] at hp
      rcases List.mem_append.mp hp with hp | hp
      · exact d2 p hp
      · rw [← d1]; exact c2 p hp
    · rw [ee] at hc
      exact b6 S (fun p hp => hc p (List.mem_append_right _ hp)) (a6 S (fun p hp => hc p (List.mem_append_left _ hp)) hS)
theorem marks_while {U : List Str} (hU : U.length ≤ 1000) {g1 g2 g3 g4 : Mir} {s0 s1 s2 : S} {rows : List (Row × List Int)} (k : ∀ q ∈ rows, ∀ x ∈ hn q.1, x ∈ U) : ∀ (n : Nat) (o : List Str), U.length + 1 < n + o.length → MI U o →
    ∃ o', whileL (fB (fVar 5)) (lb1_law g1 g2 g3 g4) n (lE s0 s1 s2 rows o true) = some (.nx (lE s0 s1 s2 rows o' false)) ∧ MI U o' ∧ (∀ x ∈ o, x ∈ o') ∧ Closed (edges rows) (· ∈ o') ∧ ∀ S : Str → Prop, Closed (edges rows) S → (∀ x ∈ o, S x) → ∀ x ∈ o', S x
  | 0, o, h, m => by have := sub_len o U m.nd m.sub; omega
  | n + 1, o, h, m => by
    obtain ⟨L, m2⟩ := mark_lp (g1 := g1) (g2 := g2) (g3 := g3) (g4 := g4) (s0 := s0) (s1 := s1) (s2 := s2) (rows := rows) hU rows o false m k
    obtain ⟨b1, b2, b3, b4, b5, b6⟩ := pass_grow rows (o, false)
    have st : lb1_law g1 g2 g3 g4 (lE s0 s1 s2 rows o true) = some (.nx (lE s0 s1 s2 rows (rows.foldl mark1 (o, false)).1 (rows.foldl mark1 (o, false)).2)) := by
      unfold lE at L ⊢
      simp only [lb1_law, lp0_law, EVX, EV, EVT, EVC, EVY, LST, ↓reduceIte, Nat.reduceAdd, Nat.reduceSub, Nat.reduceLeDiff, Nat.reduceLT, Nat.reduceEqDiff, Nat.reduceBEq, Int.reduceLT, Int.reduceAdd, Int.reduceBNe, Int.reduceLE, Int.reduceEq, Int.reduceBEq, Bool.false_eq_true, reduceCtorEq, sizeLine_eq, decide_true, decide_false, decide_eq_true_eq, true_and, and_true, and_self, L]
    generalize rows.foldl mark1 (o, false) = z at *
    obtain ⟨o1, m1⟩ := z
    have c0 : fB (fVar 5) (lE s0 s1 s2 rows o true) = some (true, lE s0 s1 s2 rows o true) := by unfold lE; simp only [EVX, EV, EVT, EVC, EVY, LST, ↓reduceIte, Nat.reduceAdd, Nat.reduceSub, Nat.reduceLeDiff, Nat.reduceLT, Nat.reduceEqDiff, Nat.reduceBEq, Int.reduceLT, Int.reduceAdd, Int.reduceBNe, Int.reduceLE, Int.reduceEq, Int.reduceBEq, Bool.false_eq_true, reduceCtorEq, sizeLine_eq, decide_true, decide_false, decide_eq_true_eq, true_and, and_true, and_self]
    dsimp only at *
    cases m1 with
    | true =>
      have hlt : o.length < o1.length := (b3 rfl).resolve_left (fun z => nomatch z)
      obtain ⟨o', e1, e2, e3, e4, e5⟩ := marks_while (g1 := g1) (g2 := g2) (g3 := g3) (g4 := g4) (s0 := s0) (s1 := s1) (s2 := s2) hU k n o1 (by omega) m2
      refine ⟨o', ?_, e2, fun x hx => e3 x (b1 x hx), e4, fun S hc hS => e5 S hc (b6 S hc hS)⟩
      unfold whileL
      simp only [c0, st, e1]
    | false =>
      obtain ⟨d1, d2⟩ := b5 rfl
      subst d1
      refine ⟨o1, ?_, m, fun x hx => hx, d2, fun S _ hS => hS⟩
      have c1 : fB (fVar 5) (lE s0 s1 s2 rows o1 false) = some (false, lE s0 s1 s2 rows o1 false) := by unfold lE; simp only [EVX, EV, EVT, EVC, EVY, LST, ↓reduceIte, Nat.reduceAdd, Nat.reduceSub, Nat.reduceLeDiff, Nat.reduceLT, Nat.reduceEqDiff, Nat.reduceBEq, Int.reduceLT, Int.reduceAdd, Int.reduceBNe, Int.reduceLE, Int.reduceEq, Int.reduceBEq, Bool.false_eq_true, reduceCtorEq, sizeLine_eq, decide_true, decide_false, decide_eq_true_eq, true_and, and_true, and_self]
      obtain ⟨n', rfl⟩ : ∃ n', n = n' + 1 := ⟨n - 1, by have := sub_len o1 U m.nd m.sub; omega⟩
      unfold whileL
      simp only [c0, st]
      unfold whileL
      simp only [c1]
end TA
set_option maxRecDepth 100000
set_option maxHeartbeats 4000000
namespace TA
open PySem PySem.Spec L2 DL
def Mlaw : Mir := m_law M__law_program (Rlall 8) M_may_give M_size
theorem okw_is_word {P : Program} {w : World} {K : PySem.W.Frag} {mg : Str → Option Value} {base : Heap} {a_SHAPES a_SETS : Addr} (T : Top w K mg a_SHAPES a_SETS) : Ok P w K mg base 1 "is_word" [.val] M_is_word := ok_is_word (k := 0) T
theorem okw_is_whole {P : Program} {w : World} {K : PySem.W.Frag} {mg : Str → Option Value} {base : Heap} {a_SHAPES a_SETS : Addr} (T : Top w K mg a_SHAPES a_SETS) : Ok P w K mg base 1 "is_whole" [.val, .val, .val] M_is_whole := ok_is_whole (k := 0) T
theorem okw_is_part {P : Program} {w : World} {K : PySem.W.Frag} {mg : Str → Option Value} {base : Heap} {a_SHAPES a_SETS : Addr} (T : Top w K mg a_SHAPES a_SETS) : Ok P w K mg base 2 "is_part" [.val, .val] M_is_part := ok_is_part (k := 1) T ((okw_is_whole T).mono (by omega)) ((okw_is_word T).mono (by omega))
theorem okw_blocks_of {P : Program} {w : World} {K : PySem.W.Frag} {mg : Str → Option Value} {base : Heap} {a_SHAPES a_SETS : Addr} (T : Top w K mg a_SHAPES a_SETS) : Ok P w K mg base 1 "blocks_of" [.val] M_blocks_of := ok_blocks_of (k := 0) T
theorem okr_is_block {P : Program} {w : World} {K : PySem.W.Frag} {mg : Str → Option Value} {base : Heap} {a_SHAPES a_SETS : Addr} (T : Top w K mg a_SHAPES a_SETS) : ∀ n, Ok P w K mg base (2 * n + 3) "is_block" [.val, .val] (Rblk n)
  | 0 => At.zero _ T.d_is_block sc_is_block rfl (by decide)
  | n + 1 => (ok_is_block (k := 2 * n + 3 + 1) T (ok_is_row T ((okw_is_part T).mono (by omega)) ((okw_is_word T).mono (by omega)) (okr_is_block T n))).mono (by omega)
theorem okw_is_block {P : Program} {w : World} {K : PySem.W.Frag} {mg : Str → Option Value} {base : Heap} {a_SHAPES a_SETS : Addr} (T : Top w K mg a_SHAPES a_SETS) : Ok P w K mg base 19 "is_block" [.val, .val] (Rblk 8) := okr_is_block T 8
theorem okr_count_of {P : Program} {w : World} {K : PySem.W.Frag} {mg : Str → Option Value} {base : Heap} {a_SHAPES a_SETS : Addr} (T : Top w K mg a_SHAPES a_SETS) : ∀ n, Ok P w K mg base (1 * n + 2) "count_of" [.val] (Rcount n)
  | 0 => At.zero _ T.d_count_of sc_count_of rfl (by decide)
  | n + 1 => (ok_count_of (k := 1 * n + 2 + 0) T ((okw_blocks_of T).mono (by omega)) (okr_count_of T n)).mono (by omega)
theorem okw_count_of {P : Program} {w : World} {K : PySem.W.Frag} {mg : Str → Option Value} {base : Heap} {a_SHAPES a_SETS : Addr} (T : Top w K mg a_SHAPES a_SETS) : Ok P w K mg base 10 "count_of" [.val] (Rcount 8) := okr_count_of T 8
theorem okw_kinds_of {P : Program} {w : World} {K : PySem.W.Frag} {mg : Str → Option Value} {base : Heap} {a_SHAPES a_SETS : Addr} (T : Top w K mg a_SHAPES a_SETS) : Ok P w K mg base 1 "kinds_of" [.val] M_kinds_of := ok_kinds_of (k := 0) T
theorem okr_kinds_in {P : Program} {w : World} {K : PySem.W.Frag} {mg : Str → Option Value} {base : Heap} {a_SHAPES a_SETS : Addr} (T : Top w K mg a_SHAPES a_SETS) : ∀ n, Ok P w K mg base (1 * n + 2) "kinds_in" [.val, .io] (Rkinds n)
  | 0 => At.zero _ T.d_kinds_in sc_kinds_in rfl (by decide)
  | n + 1 => (ok_kinds_in (k := 1 * n + 2 + 0) T ((okw_kinds_of T).mono (by omega)) ((okw_blocks_of T).mono (by omega)) (okr_kinds_in T n)).mono (by omega)
theorem okw_kinds_in {P : Program} {w : World} {K : PySem.W.Frag} {mg : Str → Option Value} {base : Heap} {a_SHAPES a_SETS : Addr} (T : Top w K mg a_SHAPES a_SETS) : Ok P w K mg base 10 "kinds_in" [.val, .io] (Rkinds 8) := okr_kinds_in T 8
theorem okw_reads {P : Program} {w : World} {K : PySem.W.Frag} {mg : Str → Option Value} {base : Heap} {a_SHAPES a_SETS : Addr} (T : Top w K mg a_SHAPES a_SETS) : Ok P w K mg base 2 "reads" [.val] M_reads := ok_reads (k := 1) T ((okw_kinds_of T).mono (by omega))
theorem okw_sets {P : Program} {w : World} {K : PySem.W.Frag} {mg : Str → Option Value} {base : Heap} {a_SHAPES a_SETS : Addr} (T : Top w K mg a_SHAPES a_SETS) : Ok P w K mg base 1 "sets" [.val] M_sets := ok_sets (k := 0) T
theorem okr_surely {P : Program} {w : World} {K : PySem.W.Frag} {mg : Str → Option Value} {base : Heap} {a_SHAPES a_SETS : Addr} (T : Top w K mg a_SHAPES a_SETS) : ∀ n, Ok P w K mg base (1 * n + 3) "surely" [.val, .bor] (Rsurely n)
  | 0 => At.zero _ T.d_surely sc_surely rfl (by decide)
  | n + 1 => (ok_surely (k := 1 * n + 3 + 0) T ((okw_reads T).mono (by omega)) ((okw_blocks_of T).mono (by omega)) (okr_surely T n) ((okw_sets T).mono (by omega))).mono (by omega)
theorem okw_surely {P : Program} {w : World} {K : PySem.W.Frag} {mg : Str → Option Value} {base : Heap} {a_SHAPES a_SETS : Addr} (T : Top w K mg a_SHAPES a_SETS) : Ok P w K mg base 11 "surely" [.val, .bor] (Rsurely 8) := okr_surely T 8
theorem okw_is_program {P : Program} {w : World} {K : PySem.W.Frag} {mg : Str → Option Value} {base : Heap} {a_SHAPES a_SETS : Addr} (T : Top w K mg a_SHAPES a_SETS) : Ok P w K mg base 20 "is_program" [.val] M_is_program := ok_is_program (k := 19) T ((okw_is_word T).mono (by omega)) ((okw_is_block T).mono (by omega)) ((okw_count_of T).mono (by omega)) ((okw_kinds_in T).mono (by omega)) ((okw_surely T).mono (by omega))
theorem okw_need_program {P : Program} {w : World} {K : PySem.W.Frag} {mg : Str → Option Value} {base : Heap} {a_SHAPES a_SETS : Addr} (T : Top w K mg a_SHAPES a_SETS) : Ok P w K mg base 21 "need_program" [.val] M_need_program := ok_need_program (k := 20) T ((okw_is_program T).mono (by omega))
theorem okr_rows_in {P : Program} {w : World} {K : PySem.W.Frag} {mg : Str → Option Value} {base : Heap} {a_SHAPES a_SETS : Addr} (T : Top w K mg a_SHAPES a_SETS) : ∀ n, Ok P w K mg base (1 * n + 2) "rows_in" [.val, .val] (Rrows n)
  | 0 => At.zero _ T.d_rows_in sc_rows_in rfl (by decide)
  | n + 1 => (ok_rows_in (k := 1 * n + 2 + 0) T ((okw_blocks_of T).mono (by omega)) (okr_rows_in T n)).mono (by omega)
theorem okw_rows_in {P : Program} {w : World} {K : PySem.W.Frag} {mg : Str → Option Value} {base : Heap} {a_SHAPES a_SETS : Addr} (T : Top w K mg a_SHAPES a_SETS) : Ok P w K mg base 10 "rows_in" [.val, .val] (Rrows 8) := okr_rows_in T 8
theorem okw_holders {P : Program} {w : World} {K : PySem.W.Frag} {mg : Str → Option Value} {base : Heap} {a_SHAPES a_SETS : Addr} (T : Top w K mg a_SHAPES a_SETS) : Ok P w K mg base 1 "holders" [.val] M_holders := ok_holders (k := 0) T
theorem okw_may_give {P : Program} {w : World} {K : PySem.W.Frag} {mg : Str → Option Value} {base : Heap} {a_SHAPES a_SETS : Addr} (T : Top w K mg a_SHAPES a_SETS) : Ok P w K mg base 22 "may_give" [.val] M_may_give := ok_may_give (k := 21) T ((okw_need_program T).mono (by omega)) ((okw_rows_in T).mono (by omega)) ((okw_holders T).mono (by omega))
theorem okw_size {P : Program} {w : World} {K : PySem.W.Frag} {mg : Str → Option Value} {base : Heap} {a_SHAPES a_SETS : Addr} (T : Top w K mg a_SHAPES a_SETS) : Ok P w K mg base 22 "size" [.val] M_size := ok_size (k := 21) T ((okw_need_program T).mono (by omega)) ((okw_rows_in T).mono (by omega))
theorem okw__law_cell_at {P : Program} {w : World} {K : PySem.W.Frag} {mg : Str → Option Value} {base : Heap} {a_SHAPES a_SETS : Addr} (T : Top w K mg a_SHAPES a_SETS) : Ok P w K mg base 1 "_law_cell_at" [.val, .val] M__law_cell_at := ok__law_cell_at (k := 0) T
theorem okw__law_mixed {P : Program} {w : World} {K : PySem.W.Frag} {mg : Str → Option Value} {base : Heap} {a_SHAPES a_SETS : Addr} (T : Top w K mg a_SHAPES a_SETS) : Ok P w K mg base 2 "_law_mixed" [.val, .val, .val] M__law_mixed := ok__law_mixed (k := 1) T ((okw__law_cell_at T).mono (by omega))
theorem okw__law_draw {P : Program} {w : World} {K : PySem.W.Frag} {mg : Str → Option Value} {base : Heap} {a_SHAPES a_SETS : Addr} (T : Top w K mg a_SHAPES a_SETS) : Ok P w K mg base 3 "_law_draw" [.val, .io, .val] M__law_draw := ok__law_draw (k := 2) T ((okw__law_mixed T).mono (by omega))
theorem okw__law_pick {P : Program} {w : World} {K : PySem.W.Frag} {mg : Str → Option Value} {base : Heap} {a_SHAPES a_SETS : Addr} (T : Top w K mg a_SHAPES a_SETS) : Ok P w K mg base 4 "_law_pick" [.val, .io, .bor] M__law_pick := ok__law_pick (k := 3) T ((okw__law_draw T).mono (by omega))
theorem okw__law_simple {P : Program} {w : World} {K : PySem.W.Frag} {mg : Str → Option Value} {base : Heap} {a_SHAPES a_SETS : Addr} (T : Top w K mg a_SHAPES a_SETS) : Ok P w K mg base 5 "_law_simple" [.val, .io, .val, .bor] M__law_simple := ok__law_simple (k := 4) T ((okw__law_draw T).mono (by omega)) ((okw__law_pick T).mono (by omega))
theorem okr__law_block {P : Program} {w : World} {K : PySem.W.Frag} {mg : Str → Option Value} {base : Heap} {a_SHAPES a_SETS : Addr} (T : Top w K mg a_SHAPES a_SETS) : ∀ n, Ok P w K mg base (1 * n + 6) "_law_block" [.val, .io, .val, .io, .val, .val] (Rblock n)
  | 0 => At.zero _ T.d__law_block sc__law_block rfl (by decide)
  | n + 1 => (ok__law_block (k := 1 * n + 6 + 0) T ((okw__law_draw T).mono (by omega)) (okr__law_block T n) ((okw__law_pick T).mono (by omega)) ((okw__law_simple T).mono (by omega))).mono (by omega)
theorem okw__law_block {P : Program} {w : World} {K : PySem.W.Frag} {mg : Str → Option Value} {base : Heap} {a_SHAPES a_SETS : Addr} (T : Top w K mg a_SHAPES a_SETS) : Ok P w K mg base 10 "_law_block" [.val, .io, .val, .io, .val, .val] (Rblock 4) := okr__law_block T 4
theorem okw__law_names {P : Program} {w : World} {K : PySem.W.Frag} {mg : Str → Option Value} {base : Heap} {a_SHAPES a_SETS : Addr} (T : Top w K mg a_SHAPES a_SETS) : Ok P w K mg base 5 "_law_names" [.val, .io] M__law_names := ok__law_names (k := 4) T ((okw__law_draw T).mono (by omega)) ((okw__law_pick T).mono (by omega))
theorem okw__law_program {P : Program} {w : World} {K : PySem.W.Frag} {mg : Str → Option Value} {base : Heap} {a_SHAPES a_SETS : Addr} (T : Top w K mg a_SHAPES a_SETS) : Ok P w K mg base 11 "_law_program" [.val, .io, .val, .val] M__law_program := ok__law_program (k := 10) T ((okw__law_names T).mono (by omega)) ((okw__law_draw T).mono (by omega)) ((okw__law_block T).mono (by omega))
theorem okr__law_all {P : Program} {w : World} {K : PySem.W.Frag} {mg : Str → Option Value} {base : Heap} {a_SHAPES a_SETS : Addr} (T : Top w K mg a_SHAPES a_SETS) : ∀ n, Ok P w K mg base (1 * n + 1) "_law_all" [.val, .val] (Rlall n)
  | 0 => At.zero _ T.d__law_all sc__law_all rfl (by decide)
  | n + 1 => (ok__law_all (k := 1 * n + 1 + 0) T (okr__law_all T n)).mono (by omega)
theorem okw__law_all {P : Program} {w : World} {K : PySem.W.Frag} {mg : Str → Option Value} {base : Heap} {a_SHAPES a_SETS : Addr} (T : Top w K mg a_SHAPES a_SETS) : Ok P w K mg base 9 "_law_all" [.val, .val] (Rlall 8) := okr__law_all T 8
theorem okw_law {P : Program} {w : World} {K : PySem.W.Frag} {mg : Str → Option Value} {base : Heap} {a_SHAPES a_SETS : Addr} (T : Top w K mg a_SHAPES a_SETS) : OkL P w K mg base 23 "law" s_law ["_law_script"] [.val] Mlaw := ok_law (k := 22) T ((okw__law_program T).mono (by omega)) ((okw__law_all T).mono (by omega)) ((okw_may_give T).mono (by omega)) ((okw_size T).mono (by omega))
end TA
set_option maxRecDepth 100000
set_option maxHeartbeats 8000000
namespace TA
open PySem PySem.Spec L2 DL
mutual
theorem rowsR_mem {nums things : List Str} : ∀ (r : Row) (pl : List Int), r.okk nums things → ∀ q ∈ rowsR r pl, q.1.okk nums things
  | .s _, _, _ => fun q hq => by simp [rowsR] at hq
  | .ife x a b, pl, h => fun q hq => by
    unfold Row.okk at h
    unfold rowsR at hq
    rcases List.mem_append.mp hq with hq | hq
    · exact rowsB_mem a 0 _ h.2.1 q hq
    · exact rowsB_mem b 0 _ h.2.2 q hq
  | .loop x b, pl, h => fun q hq => by
    unfold Row.okk at h
    unfold rowsR at hq
    exact rowsB_mem b 0 _ h.2 q hq
theorem rowsB_mem {nums things : List Str} : ∀ (b : List Row) (i : Nat) (pl : List Int), okkB nums things b → ∀ q ∈ rowsB i b pl, q.1.okk nums things
  | [], _, _, _ => fun q hq => by simp [rowsB] at hq
  | r :: b, i, pl, h => fun q hq => by
    unfold okkB at h
    unfold rowsB at hq
    rcases List.mem_cons.mp hq with rfl | hq
    · exact h.1
    · rcases List.mem_append.mp hq with hq | hq
      · exact rowsR_mem r _ h.1 q hq
      · exact rowsB_mem b _ _ h.2 q hq
end
theorem hn_things {nums things : List Str} {r : Row} (h : r.okk nums things) : ∀ x ∈ hn r, x ∈ things := by
  intro x hx
  rcases r with r | _ | _
  · unfold Row.okk SR.okk at h
    cases r <;> simp only [hn, List.mem_cons, List.not_mem_nil, or_false] at hx
    · subst hx; exact h.1 (_, true) (by simp [SR.kinds])
    · rcases hx with rfl | rfl <;> exact h.1 (_, true) (by simp [SR.kinds])
    · subst hx; exact h.1 (_, true) (by simp [SR.kinds])
  · simp [hn] at hx
  · simp [hn] at hx
theorem out_mem {G : GD} : ∀ (l : List (Row × List Int)) (o : List Str) (y : Str), y ∈ l.foldl (outRow G) o ↔ y ∈ o ∨ ∃ q ∈ l, ∃ t m, q.1 = .s (.give t) ∧ gget G t = some m ∧ y ∈ m
  | [], o, y => by simp
  | q :: l, o, y => by
    rw [List.foldl_cons, out_mem l]
    have key : y ∈ outRow G o q ↔ y ∈ o ∨ ∃ t m, q.1 = .s (.give t) ∧ gget G t = some m ∧ y ∈ m := by
      unfold outRow
      split
      · rename_i t e
        rw [inss_mem]
        constructor
        · rintro (h | h)
          · exact .inl h
          · cases q1 : gget G t with
            | none => rw [q1] at h; simp at h
            | some m => rw [q1] at h; exact .inr ⟨t, m, e, q1, h⟩
        · rintro (h | ⟨t', m, e', g, h⟩)
          · exact .inl h
          · rw [e] at e'; cases e'; rw [g]; exact .inr h
      · rename_i hne
        constructor
        · exact .inl
        · rintro (h | ⟨t, m, e, _⟩)
          · exact h
          · exact absurd e (hne t)
    rw [key]
    constructor
    · rintro ((h | ⟨t, m, h⟩) | ⟨p, hp, h⟩)
      · exact .inl h
      · exact .inr ⟨q, List.mem_cons_self, t, m, h⟩
      · exact .inr ⟨p, List.mem_cons_of_mem _ hp, h⟩
    · rintro (h | ⟨p, hp, h⟩)
      · exact .inl (.inl h)
      · rcases List.mem_cons.mp hp with rfl | hp
        · exact .inl (.inr h)
        · exact .inr ⟨p, hp, h⟩
theorem dmerge_dk : ∀ (l o : List Str), dmerge (dk o) (l.map fun x => (x, .bl true)) = dk (l.foldl ins o)
  | [], o => rfl
  | x :: l, o => by
    have := dmerge_dk l (ins o x)
    unfold dmerge at *
    rw [List.map_cons, List.foldl_cons, dk_put, this]
    rfl
theorem plD_ok (l : List (List Int)) : okD (.lst (l.map plD)) = true ∧ depD (.lst (l.map plD)) ≤ 64 := by
  have h1 : ∀ x ∈ l, okD (plD x) = true := fun x _ => by
    show okDs (x.map .int) = true
    exact okDs_map _ _ fun _ _ => rfl
  have h2 : ∀ x ∈ l, depD (plD x) ≤ 1 := fun x _ => by
    show depDs (x.map .int) + 1 ≤ 1
    have := depDs_map DL.D.int 0 x fun _ _ => Nat.le_refl _
    omega
  have h3 := depDs_map plD 1 l h2
  refine ⟨okDs_map plD l h1, ?_⟩
  show depDs (l.map plD) + 1 ≤ 64
  omega
theorem pure_law (ns : List Int) (hl : ns.length ≤ 63) : Mlaw [.scr ns] = some (.val (.bl true), []) := by
  have hc : CB 2 6 ≤ 100000 := by decide +kernel
  have hr : RB 2 6 ≤ 400 := by decide +kernel
  have l1 : Mlawprog [.scr ns, .lst [], .int 6, .int 2] = _ := lawprog_ok ns 0 6 2 hl (by omega) (by omega) (by omega)
  obtain ⟨dr, dc⟩ := lawprog_drawn ns 6 2 0 (by omega)
  have g := dr.g
  have w := dr.wf (by omega)
  have hp := dr.prog
  have ok := dr.ok
  generalize (lawprogT ns 6 2 0).1 = p at *
  generalize (lawprogT ns 6 2 0).2 = n at *
  generalize (namesT ns 0).1.1 = nums at *
  generalize (namesT ns 0).1.2 = things at *
  have hU : things.length ≤ 1000 := by rw [g.th]; decide
  have hs : ∀ x ∈ things, PyData.strOk x = true := fun x hx => lets_ok (g.w x (.inr hx)).1
  have k : ∀ q ∈ rowsB 0 p.b [], ∀ x ∈ hn q.1, x ∈ things := fun q hq => hn_things (rowsB_mem p.b 0 [] ok q hq)
  have r1 : Rlall 8 [bD p.b, .tup []] = _ := lall_ok 8 p.b [] (by have := w.dep; omega) (by have := w.cnt; omega) (by have := w.dep; simp; omega)
  have m1 := give_ok hU hs w hp k
  have m2 := size_ok w hp
  have hlen := rowsB_len p.b 0 []
  have hcnt := w.cnt
  unfold giveT at m1
  unfold outT at m1
  generalize rowsB 0 p.b [] = rows at *
  have hG : HI things ([] ++ edges rows) (groupsT rows) := HI.all rows [] [] HI.nil k
  rw [List.nil_append] at hG
  have hg : ∀ q ∈ rows, ∀ x ∈ hn q.1, gget (groupsT rows) x ≠ none := fun q hq x hx => groups_has rows [] x (.inl ⟨q, hq, hx⟩)
  have om := out_mem (G := groupsT rows) rows []
  generalize rows.foldl (outRow (groupsT rows)) [] = O at *
  -- the marks
  have gi : ∀ x ∈ gives rows, x ∈ things := fun x hx => by
    obtain ⟨q, hq, e⟩ := List.mem_filterMap.mp hx
    have : x ∈ hn q.1 := by
      unfold giveOf at e
      split at e
      · rename_i t e2; cases e; rw [e2]; simp [hn]
      · cases e
    exact k q hq x this
  have mi : MI things ((gives rows).foldl ins []) := ⟨inss_nd List.nodup_nil, fun x hx => (inss_mem.mp hx).elim (fun z => nomatch z) (gi x)⟩
  obtain ⟨M, e1, e2, e3, e4, e5⟩ := marks_while (g1 := Mlawprog) (g2 := Rlall 8) (g3 := M_may_give) (g4 := M_size) (s0 := .val (.scr ns)) (s1 := .own false (.lst (zs n))) (s2 := .val p.toD) hU k 1000000 ((gives rows).foldl ins []) (by omega) mi
  -- both say the same
  have same : ∀ q ∈ rows, makeIn O q = makeIn M q := fun q hq => by
    have hk := hg q hq
    unfold makeIn
    split
    · rename_i t x y e
      have ht := hk t (by rw [e]; simp [hn])
      have key : t ∈ O ↔ t ∈ M := by
        rw [om]
        constructor
        · rintro (h | ⟨q', hq', t', m, e', g', h⟩)
          · cases h
          · have c := (hG.conn g' t).mp h
            refine c (· ∈ M) e4 (e3 t' ?_)
            exact inss_mem.mpr (.inr (List.mem_filterMap.mpr ⟨q', hq', by unfold giveOf; rw [e']⟩))
        · intro h
          right
          have := e5 (fun z => ∃ t' ∈ gives rows, Conn (edges rows) t' z) (fun p hp => ⟨fun ⟨t', h1, h2⟩ => ⟨t', h1, h2.trans (.edge hp)⟩, fun ⟨t', h1, h2⟩ => ⟨t', h1, h2.trans (Conn.edge hp).symm⟩⟩) (fun z hz => ⟨z, (inss_mem.mp hz).elim (fun z => nomatch z) id, .refl⟩) t h
          obtain ⟨t', h1, h2⟩ := this
          obtain ⟨q', hq', e'⟩ := List.mem_filterMap.mp h1
          have e'' : q'.1 = .s (.give t') := by
            unfold giveOf at e'
            split at e'
            · rename_i t2 e3; cases e'; exact e3
            · cases e'
          have hk' := hg q' hq' t' (by rw [e'']; simp [hn])
          cases q1 : gget (groupsT rows) t' with
          | none => exact absurd q1 hk'
          | some m => exact ⟨q', hq', t', m, e'', q1, (hG.conn q1 t).mpr h2⟩
      by_cases h1 : t ∈ O
      · simp [h1, key.mp h1]
      · have h2 : t ∉ M := fun z => h1 (key.mpr z)
        simp [h1, h2]
    · rfl
  rw [List.filter_congr same] at m1
  -- the lists
  have C0 : ∀ (s3 : S), lcK (fgTup 2 (fgCons (fgName 7) (fgCons (fgName 8) fgNil))) (fB (f2 gEq (f2 gIx (fVar 7) (fC (.int 0))) (fC (.str "give")))) (fTup (fCons (f2 gIx (fVar 7) (fC (.int 1))) (fCons (fC (.bl true)) fNil))) [7, 8] (rows.map rpD) [.val (.scr ns), .own false (.lst (zs n)), .val p.toD, .val (.lst (rows.map rpD)), .unset, .unset, .unset, .unset, .unset] =
      some (.new (.lst ((gives rows).map fun x => .tup [.str x, .bl true])), [.val (.scr ns), .own false (.lst (zs n)), .val p.toD, .val (.lst (rows.map rpD)), .unset, .unset, .unset, .unset, .unset]) := fun s3 => by
    have ge : (gives rows).map (fun x => DL.D.tup [.str x, .bl true]) = rows.filterMap fun q => (giveOf q).map fun x => DL.D.tup [.str x, .bl true] := by
      unfold gives; rw [List.map_filterMap]
    rw [ge]
    refine lcK_pure (fun q : Row × List Int => (giveOf q).map fun x => DL.D.tup [.str x, .bl true]) rpD rows _ rfl (by omega) fun q _ => ?_
    obtain ⟨r, pl⟩ := q
    rcases r with r | ⟨x, a, b⟩ | ⟨x, b⟩
    · cases r <;> simp only [rpD, Row.toD, SR.toD, EVX, EV, EVT, EVC, EVY, LST, ↓reduceIte, Nat.reduceAdd, Nat.reduceSub, Nat.reduceLeDiff, Nat.reduceLT, Nat.reduceEqDiff, Nat.reduceBEq, Int.reduceLT, Int.reduceAdd, Int.reduceBNe, Int.reduceLE, Int.reduceEq, Int.reduceBEq, Bool.false_eq_true, reduceCtorEq, sizeLine_eq, decide_true, decide_false, decide_eq_true_eq, true_and, and_true, and_self, giveOf, Option.map_some, Option.map_none]
    · simp only [rpD, Row.toD, EVX, EV, EVT, EVC, EVY, LST, ↓reduceIte, Nat.reduceAdd, Nat.reduceSub, Nat.reduceLeDiff, Nat.reduceLT, Nat.reduceEqDiff, Nat.reduceBEq, Int.reduceLT, Int.reduceAdd, Int.reduceBNe, Int.reduceLE, Int.reduceEq, Int.reduceBEq, Bool.false_eq_true, reduceCtorEq, sizeLine_eq, decide_true, decide_false, decide_eq_true_eq, true_and, and_true, and_self, giveOf, Option.map_none]
    · simp only [rpD, Row.toD, EVX, EV, EVT, EVC, EVY, LST, ↓reduceIte, Nat.reduceAdd, Nat.reduceSub, Nat.reduceLeDiff, Nat.reduceLT, Nat.reduceEqDiff, Nat.reduceBEq, Int.reduceLT, Int.reduceAdd, Int.reduceBNe, Int.reduceLE, Int.reduceEq, Int.reduceBEq, Bool.false_eq_true, reduceCtorEq, sizeLine_eq, decide_true, decide_false, decide_eq_true_eq, true_and, and_true, and_self, giveOf, Option.map_none]
  have C1 : lcK (fgTup 2 (fgCons (fgName 7) (fgCons (fgName 8) fgNil))) (fAndT (fB (f2 gEq (f2 gIx (fVar 7) (fC (.int 0))) (fC (.str "make")))) (fB (f2 gIn (f2 gIx (fVar 7) (fC (.int 1))) (fVar 4)))) (fVar 8) [7, 8] (rows.map rpD) [.val (.scr ns), .own false (.lst (zs n)), .val p.toD, .val (.lst (rows.map rpD)), .own false (.dct (dk M)), .val (.bl false), .unset, .unset, .unset] =
      some (.new (.lst (((rows.filter (makeIn M)).map (·.2)).map plD)), [.val (.scr ns), .own false (.lst (zs n)), .val p.toD, .val (.lst (rows.map rpD)), .own false (.dct (dk M)), .val (.bl false), .unset, .unset, .unset]) := by
    rw [List.map_map, show (plD ∘ fun q : Row × List Int => q.2) = fun q => plD q.2 from rfl, ← filter_fm]
    refine lcK_pure (fun q : Row × List Int => if makeIn M q = true then some (plD q.2) else none) rpD rows _ rfl (by omega) fun q _ => ?_
    obtain ⟨r, pl⟩ := q
    rcases r with r | ⟨x, a, b⟩ | ⟨x, b⟩
    · cases r with
      | make t x y => by_cases ht : t ∈ M <;> simp only [rpD, Row.toD, SR.toD, EVX, EV, EVT, EVC, EVY, LST, ↓reduceIte, Nat.reduceAdd, Nat.reduceSub, Nat.reduceLeDiff, Nat.reduceLT, Nat.reduceEqDiff, Nat.reduceBEq, Int.reduceLT, Int.reduceAdd, Int.reduceBNe, Int.reduceLE, Int.reduceEq, Int.reduceBEq, Bool.false_eq_true, reduceCtorEq, sizeLine_eq, decide_true, decide_false, decide_eq_true_eq, true_and, and_true, and_self, dk_has, ht, makeIn]
      | _ => simp only [rpD, Row.toD, SR.toD, EVX, EV, EVT, EVC, EVY, LST, ↓reduceIte, Nat.reduceAdd, Nat.reduceSub, Nat.reduceLeDiff, Nat.reduceLT, Nat.reduceEqDiff, Nat.reduceBEq, Int.reduceLT, Int.reduceAdd, Int.reduceBNe, Int.reduceLE, Int.reduceEq, Int.reduceBEq, Bool.false_eq_true, reduceCtorEq, sizeLine_eq, decide_true, decide_false, decide_eq_true_eq, true_and, and_true, and_self, makeIn]
    · simp only [rpD, Row.toD, EVX, EV, EVT, EVC, EVY, LST, ↓reduceIte, Nat.reduceAdd, Nat.reduceSub, Nat.reduceLeDiff, Nat.reduceLT, Nat.reduceEqDiff, Nat.reduceBEq, Int.reduceLT, Int.reduceAdd, Int.reduceBNe, Int.reduceLE, Int.reduceEq, Int.reduceBEq, Bool.false_eq_true, reduceCtorEq, sizeLine_eq, decide_true, decide_false, decide_eq_true_eq, true_and, and_true, and_self, makeIn]
    · simp only [rpD, Row.toD, EVX, EV, EVT, EVC, EVY, LST, ↓reduceIte, Nat.reduceAdd, Nat.reduceSub, Nat.reduceLeDiff, Nat.reduceLT, Nat.reduceEqDiff, Nat.reduceBEq, Int.reduceLT, Int.reduceAdd, Int.reduceBNe, Int.reduceLE, Int.reduceEq, Int.reduceBEq, Bool.false_eq_true, reduceCtorEq, sizeLine_eq, decide_true, decide_false, decide_eq_true_eq, true_and, and_true, and_self, makeIn]
  have dm := dmerge_dk (gives rows) []
  have d0 : dk [] = [] := rfl
  rw [d0] at dm
  have po := plD_ok ((rows.filter (makeIn M)).map (·.2))
  have q1 := eq_self id po.1 po.2
  have g1 : gIx p.toD (.int 1) = some (.val (bD p.b)) := by simp only [Prog.toD, EVX, EV, EVT, EVC, EVY, LST, ↓reduceIte, Nat.reduceAdd, Nat.reduceSub, Nat.reduceLeDiff, Nat.reduceLT, Nat.reduceEqDiff, Nat.reduceBEq, Int.reduceLT, Int.reduceAdd, Int.reduceBNe, Int.reduceLE, Int.reduceEq, Int.reduceBEq, Bool.false_eq_true, reduceCtorEq, sizeLine_eq, decide_true, decide_false, decide_eq_true_eq, true_and, and_true, and_self]
  unfold lE at e1
  unfold Mlaw
  rw [mk_law]
  unfold fs_law
  simp only [EVX, EV, EVT, EVC, EVY, LST, ↓reduceIte, Nat.reduceAdd, Nat.reduceSub, Nat.reduceLeDiff, Nat.reduceLT, Nat.reduceEqDiff, Nat.reduceBEq, Int.reduceLT, Int.reduceAdd, Int.reduceBNe, Int.reduceLE, Int.reduceEq, Int.reduceBEq, Bool.false_eq_true, reduceCtorEq, sizeLine_eq, decide_true, decide_false, decide_eq_true_eq, true_and, and_true, and_self, l1, g1, r1, lc0_law, C0 .unset, pairs_map, dm, lp1_law, e1, lc1_law, C1, m1, m2, q1, List.length_map, hlen]
end TA
set_option maxRecDepth 100000
set_option maxHeartbeats 4000000
namespace TA
open PySem PySem.Spec L2 DL
theorem top_mk {w : World} {K : PySem.W.Frag} {h : Heap} {mg : Str → Option Value} {a_SHAPES a_SETS : Addr} (X : K.In h) (G : h.Ns mainGlobals mg)
    (g_SETS : PySem.W.nsIn K mainGlobals "SETS" = some (some (.ref a_SETS)))
    (g_SHAPES : PySem.W.nsIn K mainGlobals "SHAPES" = some (some (.ref a_SHAPES)))
    (z_isinstance : PySem.W.nsIn K mainGlobals "isinstance" = some none)
    (z_str : PySem.W.nsIn K mainGlobals "str" = some none)
    (z_len : PySem.W.nsIn K mainGlobals "len" = some none)
    (z_int : PySem.W.nsIn K mainGlobals "int" = some none)
    (z_bool : PySem.W.nsIn K mainGlobals "bool" = some none)
    (z_tuple : PySem.W.nsIn K mainGlobals "tuple" = some none)
    (z_zip : PySem.W.nsIn K mainGlobals "zip" = some none)
    (z_all : PySem.W.nsIn K mainGlobals "all" = some none)
    (z_sum : PySem.W.nsIn K mainGlobals "sum" = some none)
    (z_dict : PySem.W.nsIn K mainGlobals "dict" = some none)
    (z_set : PySem.W.nsIn K mainGlobals "set" = some none)
    (z_enumerate : PySem.W.nsIn K mainGlobals "enumerate" = some none)
    (z_list : PySem.W.nsIn K mainGlobals "list" = some none)
    (z_range : PySem.W.nsIn K mainGlobals "range" = some none)
    {t_LONGEST : Tok} (g_LONGEST : PySem.W.nsIn K mainGlobals "LONGEST" = some (some (.int 6 t_LONGEST)))
    {t_LETTERS : Tok} (g_LETTERS : PySem.W.nsIn K mainGlobals "LETTERS" = some (some (.str "abcdefghijklmnopqrstuvwxyz" t_LETTERS)))
    {t_GREATEST : Tok} (g_GREATEST : PySem.W.nsIn K mainGlobals "GREATEST" = some (some (.int 999 t_GREATEST)))
    {t_DEEP : Tok} (g_DEEP : PySem.W.nsIn K mainGlobals "DEEP" = some (some (.int 6 t_DEEP)))
    {t_ROWS : Tok} (g_ROWS : PySem.W.nsIn K mainGlobals "ROWS" = some (some (.int 400 t_ROWS)))
    {t_PARAMS : Tok} (g_PARAMS : PySem.W.nsIn K mainGlobals "PARAMS" = some (some (.int 3 t_PARAMS)))
    {f_is_word : Addr} {od_is_word an_is_word : Option Addr} {sl_is_word : Array (Option Value)} {oc_is_word kV_is_word dc_is_word pm_is_word cd_is_word ct_is_word : Value} (a1_is_word : PySem.W.nsIn K mainGlobals "is_word" = some (some (.ref f_is_word))) (l1_is_word : K.lookup f_is_word = some ⟨oc_is_word, od_is_word, .func (PySem.W.fnOf "is_word" "is_word" (defArgs s_is_word) (defBody s_is_word) (defScope s_is_word) .none kV_is_word dc_is_word pm_is_word an_is_word cd_is_word ct_is_word), sl_is_word⟩) (c1_is_word : PySem.W.codeIn K cd_is_word "is_word" = true) (k1_is_word : PySem.W.keepIn K (.ref f_is_word) = true)
    {f_is_whole : Addr} {od_is_whole an_is_whole : Option Addr} {sl_is_whole : Array (Option Value)} {oc_is_whole kV_is_whole dc_is_whole pm_is_whole cd_is_whole ct_is_whole : Value} (a1_is_whole : PySem.W.nsIn K mainGlobals "is_whole" = some (some (.ref f_is_whole))) (l1_is_whole : K.lookup f_is_whole = some ⟨oc_is_whole, od_is_whole, .func (PySem.W.fnOf "is_whole" "is_whole" (defArgs s_is_whole) (defBody s_is_whole) (defScope s_is_whole) .none kV_is_whole dc_is_whole pm_is_whole an_is_whole cd_is_whole ct_is_whole), sl_is_whole⟩) (c1_is_whole : PySem.W.codeIn K cd_is_whole "is_whole" = true) (k1_is_whole : PySem.W.keepIn K (.ref f_is_whole) = true)
    {f_is_part : Addr} {od_is_part an_is_part : Option Addr} {sl_is_part : Array (Option Value)} {oc_is_part kV_is_part dc_is_part pm_is_part cd_is_part ct_is_part : Value} (a1_is_part : PySem.W.nsIn K mainGlobals "is_part" = some (some (.ref f_is_part))) (l1_is_part : K.lookup f_is_part = some ⟨oc_is_part, od_is_part, .func (PySem.W.fnOf "is_part" "is_part" (defArgs s_is_part) (defBody s_is_part) (defScope s_is_part) .none kV_is_part dc_is_part pm_is_part an_is_part cd_is_part ct_is_part), sl_is_part⟩) (c1_is_part : PySem.W.codeIn K cd_is_part "is_part" = true) (k1_is_part : PySem.W.keepIn K (.ref f_is_part) = true)
    {f_blocks_of : Addr} {od_blocks_of an_blocks_of : Option Addr} {sl_blocks_of : Array (Option Value)} {oc_blocks_of kV_blocks_of dc_blocks_of pm_blocks_of cd_blocks_of ct_blocks_of : Value} (a1_blocks_of : PySem.W.nsIn K mainGlobals "blocks_of" = some (some (.ref f_blocks_of))) (l1_blocks_of : K.lookup f_blocks_of = some ⟨oc_blocks_of, od_blocks_of, .func (PySem.W.fnOf "blocks_of" "blocks_of" (defArgs s_blocks_of) (defBody s_blocks_of) (defScope s_blocks_of) .none kV_blocks_of dc_blocks_of pm_blocks_of an_blocks_of cd_blocks_of ct_blocks_of), sl_blocks_of⟩) (c1_blocks_of : PySem.W.codeIn K cd_blocks_of "blocks_of" = true) (k1_blocks_of : PySem.W.keepIn K (.ref f_blocks_of) = true)
    {f_is_row : Addr} {od_is_row an_is_row : Option Addr} {sl_is_row : Array (Option Value)} {oc_is_row kV_is_row dc_is_row pm_is_row cd_is_row ct_is_row : Value} (a1_is_row : PySem.W.nsIn K mainGlobals "is_row" = some (some (.ref f_is_row))) (l1_is_row : K.lookup f_is_row = some ⟨oc_is_row, od_is_row, .func (PySem.W.fnOf "is_row" "is_row" (defArgs s_is_row) (defBody s_is_row) (defScope s_is_row) .none kV_is_row dc_is_row pm_is_row an_is_row cd_is_row ct_is_row), sl_is_row⟩) (c1_is_row : PySem.W.codeIn K cd_is_row "is_row" = true) (k1_is_row : PySem.W.keepIn K (.ref f_is_row) = true)
    {f_is_block : Addr} {od_is_block an_is_block : Option Addr} {sl_is_block : Array (Option Value)} {oc_is_block kV_is_block dc_is_block pm_is_block cd_is_block ct_is_block : Value} (a1_is_block : PySem.W.nsIn K mainGlobals "is_block" = some (some (.ref f_is_block))) (l1_is_block : K.lookup f_is_block = some ⟨oc_is_block, od_is_block, .func (PySem.W.fnOf "is_block" "is_block" (defArgs s_is_block) (defBody s_is_block) (defScope s_is_block) .none kV_is_block dc_is_block pm_is_block an_is_block cd_is_block ct_is_block), sl_is_block⟩) (c1_is_block : PySem.W.codeIn K cd_is_block "is_block" = true) (k1_is_block : PySem.W.keepIn K (.ref f_is_block) = true)
    {f_count_of : Addr} {od_count_of an_count_of : Option Addr} {sl_count_of : Array (Option Value)} {oc_count_of kV_count_of dc_count_of pm_count_of cd_count_of ct_count_of : Value} (a1_count_of : PySem.W.nsIn K mainGlobals "count_of" = some (some (.ref f_count_of))) (l1_count_of : K.lookup f_count_of = some ⟨oc_count_of, od_count_of, .func (PySem.W.fnOf "count_of" "count_of" (defArgs s_count_of) (defBody s_count_of) (defScope s_count_of) .none kV_count_of dc_count_of pm_count_of an_count_of cd_count_of ct_count_of), sl_count_of⟩) (c1_count_of : PySem.W.codeIn K cd_count_of "count_of" = true) (k1_count_of : PySem.W.keepIn K (.ref f_count_of) = true)
    {f_kinds_of : Addr} {od_kinds_of an_kinds_of : Option Addr} {sl_kinds_of : Array (Option Value)} {oc_kinds_of kV_kinds_of dc_kinds_of pm_kinds_of cd_kinds_of ct_kinds_of : Value} (a1_kinds_of : PySem.W.nsIn K mainGlobals "kinds_of" = some (some (.ref f_kinds_of))) (l1_kinds_of : K.lookup f_kinds_of = some ⟨oc_kinds_of, od_kinds_of, .func (PySem.W.fnOf "kinds_of" "kinds_of" (defArgs s_kinds_of) (defBody s_kinds_of) (defScope s_kinds_of) .none kV_kinds_of dc_kinds_of pm_kinds_of an_kinds_of cd_kinds_of ct_kinds_of), sl_kinds_of⟩) (c1_kinds_of : PySem.W.codeIn K cd_kinds_of "kinds_of" = true) (k1_kinds_of : PySem.W.keepIn K (.ref f_kinds_of) = true)
    {f_kinds_in : Addr} {od_kinds_in an_kinds_in : Option Addr} {sl_kinds_in : Array (Option Value)} {oc_kinds_in kV_kinds_in dc_kinds_in pm_kinds_in cd_kinds_in ct_kinds_in : Value} (a1_kinds_in : PySem.W.nsIn K mainGlobals "kinds_in" = some (some (.ref f_kinds_in))) (l1_kinds_in : K.lookup f_kinds_in = some ⟨oc_kinds_in, od_kinds_in, .func (PySem.W.fnOf "kinds_in" "kinds_in" (defArgs s_kinds_in) (defBody s_kinds_in) (defScope s_kinds_in) .none kV_kinds_in dc_kinds_in pm_kinds_in an_kinds_in cd_kinds_in ct_kinds_in), sl_kinds_in⟩) (c1_kinds_in : PySem.W.codeIn K cd_kinds_in "kinds_in" = true) (k1_kinds_in : PySem.W.keepIn K (.ref f_kinds_in) = true)
    {f_reads : Addr} {od_reads an_reads : Option Addr} {sl_reads : Array (Option Value)} {oc_reads kV_reads dc_reads pm_reads cd_reads ct_reads : Value} (a1_reads : PySem.W.nsIn K mainGlobals "reads" = some (some (.ref f_reads))) (l1_reads : K.lookup f_reads = some ⟨oc_reads, od_reads, .func (PySem.W.fnOf "reads" "reads" (defArgs s_reads) (defBody s_reads) (defScope s_reads) .none kV_reads dc_reads pm_reads an_reads cd_reads ct_reads), sl_reads⟩) (c1_reads : PySem.W.codeIn K cd_reads "reads" = true) (k1_reads : PySem.W.keepIn K (.ref f_reads) = true)
    {f_sets : Addr} {od_sets an_sets : Option Addr} {sl_sets : Array (Option Value)} {oc_sets kV_sets dc_sets pm_sets cd_sets ct_sets : Value} (a1_sets : PySem.W.nsIn K mainGlobals "sets" = some (some (.ref f_sets))) (l1_sets : K.lookup f_sets = some ⟨oc_sets, od_sets, .func (PySem.W.fnOf "sets" "sets" (defArgs s_sets) (defBody s_sets) (defScope s_sets) .none kV_sets dc_sets pm_sets an_sets cd_sets ct_sets), sl_sets⟩) (c1_sets : PySem.W.codeIn K cd_sets "sets" = true) (k1_sets : PySem.W.keepIn K (.ref f_sets) = true)
    {f_surely : Addr} {od_surely an_surely : Option Addr} {sl_surely : Array (Option Value)} {oc_surely kV_surely dc_surely pm_surely cd_surely ct_surely : Value} (a1_surely : PySem.W.nsIn K mainGlobals "surely" = some (some (.ref f_surely))) (l1_surely : K.lookup f_surely = some ⟨oc_surely, od_surely, .func (PySem.W.fnOf "surely" "surely" (defArgs s_surely) (defBody s_surely) (defScope s_surely) .none kV_surely dc_surely pm_surely an_surely cd_surely ct_surely), sl_surely⟩) (c1_surely : PySem.W.codeIn K cd_surely "surely" = true) (k1_surely : PySem.W.keepIn K (.ref f_surely) = true)
    {f_is_program : Addr} {od_is_program an_is_program : Option Addr} {sl_is_program : Array (Option Value)} {oc_is_program kV_is_program dc_is_program pm_is_program cd_is_program ct_is_program : Value} (a1_is_program : PySem.W.nsIn K mainGlobals "is_program" = some (some (.ref f_is_program))) (l1_is_program : K.lookup f_is_program = some ⟨oc_is_program, od_is_program, .func (PySem.W.fnOf "is_program" "is_program" (defArgs s_is_program) (defBody s_is_program) (defScope s_is_program) .none kV_is_program dc_is_program pm_is_program an_is_program cd_is_program ct_is_program), sl_is_program⟩) (c1_is_program : PySem.W.codeIn K cd_is_program "is_program" = true) (k1_is_program : PySem.W.keepIn K (.ref f_is_program) = true)
    {f_need_program : Addr} {od_need_program an_need_program : Option Addr} {sl_need_program : Array (Option Value)} {oc_need_program kV_need_program dc_need_program pm_need_program cd_need_program ct_need_program : Value} (a1_need_program : PySem.W.nsIn K mainGlobals "need_program" = some (some (.ref f_need_program))) (l1_need_program : K.lookup f_need_program = some ⟨oc_need_program, od_need_program, .func (PySem.W.fnOf "need_program" "need_program" (defArgs s_need_program) (defBody s_need_program) (defScope s_need_program) .none kV_need_program dc_need_program pm_need_program an_need_program cd_need_program ct_need_program), sl_need_program⟩) (c1_need_program : PySem.W.codeIn K cd_need_program "need_program" = true) (k1_need_program : PySem.W.keepIn K (.ref f_need_program) = true)
    {f_rows_in : Addr} {od_rows_in an_rows_in : Option Addr} {sl_rows_in : Array (Option Value)} {oc_rows_in kV_rows_in dc_rows_in pm_rows_in cd_rows_in ct_rows_in : Value} (a1_rows_in : PySem.W.nsIn K mainGlobals "rows_in" = some (some (.ref f_rows_in))) (l1_rows_in : K.lookup f_rows_in = some ⟨oc_rows_in, od_rows_in, .func (PySem.W.fnOf "rows_in" "rows_in" (defArgs s_rows_in) (defBody s_rows_in) (defScope s_rows_in) .none kV_rows_in dc_rows_in pm_rows_in an_rows_in cd_rows_in ct_rows_in), sl_rows_in⟩) (c1_rows_in : PySem.W.codeIn K cd_rows_in "rows_in" = true) (k1_rows_in : PySem.W.keepIn K (.ref f_rows_in) = true)
    {f_holders : Addr} {od_holders an_holders : Option Addr} {sl_holders : Array (Option Value)} {oc_holders kV_holders dc_holders pm_holders cd_holders ct_holders : Value} (a1_holders : PySem.W.nsIn K mainGlobals "holders" = some (some (.ref f_holders))) (l1_holders : K.lookup f_holders = some ⟨oc_holders, od_holders, .func (PySem.W.fnOf "holders" "holders" (defArgs s_holders) (defBody s_holders) (defScope s_holders) .none kV_holders dc_holders pm_holders an_holders cd_holders ct_holders), sl_holders⟩) (c1_holders : PySem.W.codeIn K cd_holders "holders" = true) (k1_holders : PySem.W.keepIn K (.ref f_holders) = true)
    {f_may_give : Addr} {od_may_give an_may_give : Option Addr} {sl_may_give : Array (Option Value)} {oc_may_give kV_may_give dc_may_give pm_may_give cd_may_give ct_may_give : Value} (a1_may_give : PySem.W.nsIn K mainGlobals "may_give" = some (some (.ref f_may_give))) (l1_may_give : K.lookup f_may_give = some ⟨oc_may_give, od_may_give, .func (PySem.W.fnOf "may_give" "may_give" (defArgs s_may_give) (defBody s_may_give) (defScope s_may_give) .none kV_may_give dc_may_give pm_may_give an_may_give cd_may_give ct_may_give), sl_may_give⟩) (c1_may_give : PySem.W.codeIn K cd_may_give "may_give" = true) (k1_may_give : PySem.W.keepIn K (.ref f_may_give) = true)
    {f_size : Addr} {od_size an_size : Option Addr} {sl_size : Array (Option Value)} {oc_size kV_size dc_size pm_size cd_size ct_size : Value} (a1_size : PySem.W.nsIn K mainGlobals "size" = some (some (.ref f_size))) (l1_size : K.lookup f_size = some ⟨oc_size, od_size, .func (PySem.W.fnOf "size" "size" (defArgs s_size) (defBody s_size) (defScope s_size) .none kV_size dc_size pm_size an_size cd_size ct_size), sl_size⟩) (c1_size : PySem.W.codeIn K cd_size "size" = true) (k1_size : PySem.W.keepIn K (.ref f_size) = true)
    {f__law_cell_at : Addr} {od__law_cell_at an__law_cell_at : Option Addr} {sl__law_cell_at : Array (Option Value)} {oc__law_cell_at kV__law_cell_at dc__law_cell_at pm__law_cell_at cd__law_cell_at ct__law_cell_at : Value} (a1__law_cell_at : PySem.W.nsIn K mainGlobals "_law_cell_at" = some (some (.ref f__law_cell_at))) (l1__law_cell_at : K.lookup f__law_cell_at = some ⟨oc__law_cell_at, od__law_cell_at, .func (PySem.W.fnOf "_law_cell_at" "_law_cell_at" (defArgs s__law_cell_at) (defBody s__law_cell_at) (defScope s__law_cell_at) .none kV__law_cell_at dc__law_cell_at pm__law_cell_at an__law_cell_at cd__law_cell_at ct__law_cell_at), sl__law_cell_at⟩) (c1__law_cell_at : PySem.W.codeIn K cd__law_cell_at "_law_cell_at" = true) (k1__law_cell_at : PySem.W.keepIn K (.ref f__law_cell_at) = true)
    {f__law_mixed : Addr} {od__law_mixed an__law_mixed : Option Addr} {sl__law_mixed : Array (Option Value)} {oc__law_mixed kV__law_mixed dc__law_mixed pm__law_mixed cd__law_mixed ct__law_mixed : Value} (a1__law_mixed : PySem.W.nsIn K mainGlobals "_law_mixed" = some (some (.ref f__law_mixed))) (l1__law_mixed : K.lookup f__law_mixed = some ⟨oc__law_mixed, od__law_mixed, .func (PySem.W.fnOf "_law_mixed" "_law_mixed" (defArgs s__law_mixed) (defBody s__law_mixed) (defScope s__law_mixed) .none kV__law_mixed dc__law_mixed pm__law_mixed an__law_mixed cd__law_mixed ct__law_mixed), sl__law_mixed⟩) (c1__law_mixed : PySem.W.codeIn K cd__law_mixed "_law_mixed" = true) (k1__law_mixed : PySem.W.keepIn K (.ref f__law_mixed) = true)
    {f__law_draw : Addr} {od__law_draw an__law_draw : Option Addr} {sl__law_draw : Array (Option Value)} {oc__law_draw kV__law_draw dc__law_draw pm__law_draw cd__law_draw ct__law_draw : Value} (a1__law_draw : PySem.W.nsIn K mainGlobals "_law_draw" = some (some (.ref f__law_draw))) (l1__law_draw : K.lookup f__law_draw = some ⟨oc__law_draw, od__law_draw, .func (PySem.W.fnOf "_law_draw" "_law_draw" (defArgs s__law_draw) (defBody s__law_draw) (defScope s__law_draw) .none kV__law_draw dc__law_draw pm__law_draw an__law_draw cd__law_draw ct__law_draw), sl__law_draw⟩) (c1__law_draw : PySem.W.codeIn K cd__law_draw "_law_draw" = true) (k1__law_draw : PySem.W.keepIn K (.ref f__law_draw) = true)
    {f__law_pick : Addr} {od__law_pick an__law_pick : Option Addr} {sl__law_pick : Array (Option Value)} {oc__law_pick kV__law_pick dc__law_pick pm__law_pick cd__law_pick ct__law_pick : Value} (a1__law_pick : PySem.W.nsIn K mainGlobals "_law_pick" = some (some (.ref f__law_pick))) (l1__law_pick : K.lookup f__law_pick = some ⟨oc__law_pick, od__law_pick, .func (PySem.W.fnOf "_law_pick" "_law_pick" (defArgs s__law_pick) (defBody s__law_pick) (defScope s__law_pick) .none kV__law_pick dc__law_pick pm__law_pick an__law_pick cd__law_pick ct__law_pick), sl__law_pick⟩) (c1__law_pick : PySem.W.codeIn K cd__law_pick "_law_pick" = true) (k1__law_pick : PySem.W.keepIn K (.ref f__law_pick) = true)
    {f__law_simple : Addr} {od__law_simple an__law_simple : Option Addr} {sl__law_simple : Array (Option Value)} {oc__law_simple kV__law_simple dc__law_simple pm__law_simple cd__law_simple ct__law_simple : Value} (a1__law_simple : PySem.W.nsIn K mainGlobals "_law_simple" = some (some (.ref f__law_simple))) (l1__law_simple : K.lookup f__law_simple = some ⟨oc__law_simple, od__law_simple, .func (PySem.W.fnOf "_law_simple" "_law_simple" (defArgs s__law_simple) (defBody s__law_simple) (defScope s__law_simple) .none kV__law_simple dc__law_simple pm__law_simple an__law_simple cd__law_simple ct__law_simple), sl__law_simple⟩) (c1__law_simple : PySem.W.codeIn K cd__law_simple "_law_simple" = true) (k1__law_simple : PySem.W.keepIn K (.ref f__law_simple) = true)
    {f__law_block : Addr} {od__law_block an__law_block : Option Addr} {sl__law_block : Array (Option Value)} {oc__law_block kV__law_block dc__law_block pm__law_block cd__law_block ct__law_block : Value} (a1__law_block : PySem.W.nsIn K mainGlobals "_law_block" = some (some (.ref f__law_block))) (l1__law_block : K.lookup f__law_block = some ⟨oc__law_block, od__law_block, .func (PySem.W.fnOf "_law_block" "_law_block" (defArgs s__law_block) (defBody s__law_block) (defScope s__law_block) .none kV__law_block dc__law_block pm__law_block an__law_block cd__law_block ct__law_block), sl__law_block⟩) (c1__law_block : PySem.W.codeIn K cd__law_block "_law_block" = true) (k1__law_block : PySem.W.keepIn K (.ref f__law_block) = true)
    {f__law_names : Addr} {od__law_names an__law_names : Option Addr} {sl__law_names : Array (Option Value)} {oc__law_names kV__law_names dc__law_names pm__law_names cd__law_names ct__law_names : Value} (a1__law_names : PySem.W.nsIn K mainGlobals "_law_names" = some (some (.ref f__law_names))) (l1__law_names : K.lookup f__law_names = some ⟨oc__law_names, od__law_names, .func (PySem.W.fnOf "_law_names" "_law_names" (defArgs s__law_names) (defBody s__law_names) (defScope s__law_names) .none kV__law_names dc__law_names pm__law_names an__law_names cd__law_names ct__law_names), sl__law_names⟩) (c1__law_names : PySem.W.codeIn K cd__law_names "_law_names" = true) (k1__law_names : PySem.W.keepIn K (.ref f__law_names) = true)
    {f__law_program : Addr} {od__law_program an__law_program : Option Addr} {sl__law_program : Array (Option Value)} {oc__law_program kV__law_program dc__law_program pm__law_program cd__law_program ct__law_program : Value} (a1__law_program : PySem.W.nsIn K mainGlobals "_law_program" = some (some (.ref f__law_program))) (l1__law_program : K.lookup f__law_program = some ⟨oc__law_program, od__law_program, .func (PySem.W.fnOf "_law_program" "_law_program" (defArgs s__law_program) (defBody s__law_program) (defScope s__law_program) .none kV__law_program dc__law_program pm__law_program an__law_program cd__law_program ct__law_program), sl__law_program⟩) (c1__law_program : PySem.W.codeIn K cd__law_program "_law_program" = true) (k1__law_program : PySem.W.keepIn K (.ref f__law_program) = true)
    {f__law_all : Addr} {od__law_all an__law_all : Option Addr} {sl__law_all : Array (Option Value)} {oc__law_all kV__law_all dc__law_all pm__law_all cd__law_all ct__law_all : Value} (a1__law_all : PySem.W.nsIn K mainGlobals "_law_all" = some (some (.ref f__law_all))) (l1__law_all : K.lookup f__law_all = some ⟨oc__law_all, od__law_all, .func (PySem.W.fnOf "_law_all" "_law_all" (defArgs s__law_all) (defBody s__law_all) (defScope s__law_all) .none kV__law_all dc__law_all pm__law_all an__law_all cd__law_all ct__law_all), sl__law_all⟩) (c1__law_all : PySem.W.codeIn K cd__law_all "_law_all" = true) (k1__law_all : PySem.W.keepIn K (.ref f__law_all) = true)
    {f_law : Addr} {od_law an_law : Option Addr} {sl_law : Array (Option Value)} {oc_law kV_law dc_law pm_law cd_law ct_law : Value} (a1_law : PySem.W.nsIn K mainGlobals "law" = some (some (.ref f_law))) (l1_law : K.lookup f_law = some ⟨oc_law, od_law, .func (PySem.W.fnOf "law" "law" (defArgs s_law) (defBody s_law) (defScope s_law) .none kV_law dc_law pm_law an_law cd_law ct_law), sl_law⟩) (c1_law : PySem.W.codeIn K cd_law "law" = true) (k1_law : PySem.W.keepIn K (.ref f_law) = true)
    {es_SHAPES : Array DictEntry} {n_SHAPES : Nat} (l_SHAPES : K.lookup a_SHAPES = some ⟨.type "dict", none, .dict es_SHAPES n_SHAPES, #[]⟩) (e_SHAPES : TabE w.params es_SHAPES.toList d_SHAPES) (s_SHAPES : (a_SHAPES == sysModules) = false)
    {o_SETS : Obj} {i_SETS : Array Value} {n_SETS : Nat} (l_SETS : K.lookup a_SETS = some o_SETS) (e_SETS : o_SETS.cls = .type "tuple" ∧ o_SETS.data = .seq i_SETS n_SETS) (v_SETS : TupE i_SETS.toList d_SETS) (y_SETS : i_SETS.size ≤ sizeLine)
    : Top w K mg a_SHAPES a_SETS := by
  have t_SHAPES := tab_mk (w := w) l_SHAPES e_SHAPES s_SHAPES
  have r_SETS := tup_mk (K := K) l_SETS e_SETS v_SETS y_SETS
  exact {
    b_isinstance := (PySem.W.mg_none_of X G z_isinstance),
    b_str := (PySem.W.mg_none_of X G z_str),
    b_len := (PySem.W.mg_none_of X G z_len),
    b_int := (PySem.W.mg_none_of X G z_int),
    b_bool := (PySem.W.mg_none_of X G z_bool),
    b_tuple := (PySem.W.mg_none_of X G z_tuple),
    b_zip := (PySem.W.mg_none_of X G z_zip),
    b_all := (PySem.W.mg_none_of X G z_all),
    b_sum := (PySem.W.mg_none_of X G z_sum),
    b_dict := (PySem.W.mg_none_of X G z_dict),
    b_set := (PySem.W.mg_none_of X G z_set),
    b_enumerate := (PySem.W.mg_none_of X G z_enumerate),
    b_list := (PySem.W.mg_none_of X G z_list),
    b_range := (PySem.W.mg_none_of X G z_range),
    c_LONGEST := (⟨_, PySem.W.mg_of X G g_LONGEST, _, rfl⟩),
    c_LETTERS := (⟨_, PySem.W.mg_of X G g_LETTERS, _, rfl⟩),
    c_GREATEST := (⟨_, PySem.W.mg_of X G g_GREATEST, _, rfl⟩),
    t_SHAPES := (t_SHAPES),
    c_DEEP := (⟨_, PySem.W.mg_of X G g_DEEP, _, rfl⟩),
    c_ROWS := (⟨_, PySem.W.mg_of X G g_ROWS, _, rfl⟩),
    r_SETS := (r_SETS),
    c_PARAMS := (⟨_, PySem.W.mg_of X G g_PARAMS, _, rfl⟩),
    d_is_word := (at_mk X G a1_is_word l1_is_word c1_is_word k1_is_word fun _ _ _ _ _ _ us hl => match us, hl with | [_], _ => rfl),
    d_is_whole := (at_mk X G a1_is_whole l1_is_whole c1_is_whole k1_is_whole fun _ _ _ _ _ _ us hl => match us, hl with | [_, _, _], _ => rfl),
    d_is_part := (at_mk X G a1_is_part l1_is_part c1_is_part k1_is_part fun _ _ _ _ _ _ us hl => match us, hl with | [_, _], _ => rfl),
    d_blocks_of := (at_mk X G a1_blocks_of l1_blocks_of c1_blocks_of k1_blocks_of fun _ _ _ _ _ _ us hl => match us, hl with | [_], _ => rfl),
    d_is_row := (at_mk X G a1_is_row l1_is_row c1_is_row k1_is_row fun _ _ _ _ _ _ us hl => match us, hl with | [_, _], _ => rfl),
    d_is_block := (at_mk X G a1_is_block l1_is_block c1_is_block k1_is_block fun _ _ _ _ _ _ us hl => match us, hl with | [_, _], _ => rfl),
    d_count_of := (at_mk X G a1_count_of l1_count_of c1_count_of k1_count_of fun _ _ _ _ _ _ us hl => match us, hl with | [_], _ => rfl),
    d_kinds_of := (at_mk X G a1_kinds_of l1_kinds_of c1_kinds_of k1_kinds_of fun _ _ _ _ _ _ us hl => match us, hl with | [_], _ => rfl),
    d_kinds_in := (at_mk X G a1_kinds_in l1_kinds_in c1_kinds_in k1_kinds_in fun _ _ _ _ _ _ us hl => match us, hl with | [_, _], _ => rfl),
    d_reads := (at_mk X G a1_reads l1_reads c1_reads k1_reads fun _ _ _ _ _ _ us hl => match us, hl with | [_], _ => rfl),
    d_sets := (at_mk X G a1_sets l1_sets c1_sets k1_sets fun _ _ _ _ _ _ us hl => match us, hl with | [_], _ => rfl),
    d_surely := (at_mk X G a1_surely l1_surely c1_surely k1_surely fun _ _ _ _ _ _ us hl => match us, hl with | [_, _], _ => rfl),
    d_is_program := (at_mk X G a1_is_program l1_is_program c1_is_program k1_is_program fun _ _ _ _ _ _ us hl => match us, hl with | [_], _ => rfl),
    d_need_program := (at_mk X G a1_need_program l1_need_program c1_need_program k1_need_program fun _ _ _ _ _ _ us hl => match us, hl with | [_], _ => rfl),
    d_rows_in := (at_mk X G a1_rows_in l1_rows_in c1_rows_in k1_rows_in fun _ _ _ _ _ _ us hl => match us, hl with | [_, _], _ => rfl),
    d_holders := (at_mk X G a1_holders l1_holders c1_holders k1_holders fun _ _ _ _ _ _ us hl => match us, hl with | [_], _ => rfl),
    d_may_give := (at_mk X G a1_may_give l1_may_give c1_may_give k1_may_give fun _ _ _ _ _ _ us hl => match us, hl with | [_], _ => rfl),
    d_size := (at_mk X G a1_size l1_size c1_size k1_size fun _ _ _ _ _ _ us hl => match us, hl with | [_], _ => rfl),
    d__law_cell_at := (at_mk X G a1__law_cell_at l1__law_cell_at c1__law_cell_at k1__law_cell_at fun _ _ _ _ _ _ us hl => match us, hl with | [_, _], _ => rfl),
    d__law_mixed := (at_mk X G a1__law_mixed l1__law_mixed c1__law_mixed k1__law_mixed fun _ _ _ _ _ _ us hl => match us, hl with | [_, _, _], _ => rfl),
    d__law_draw := (at_mk X G a1__law_draw l1__law_draw c1__law_draw k1__law_draw fun _ _ _ _ _ _ us hl => match us, hl with | [_, _, _], _ => rfl),
    d__law_pick := (at_mk X G a1__law_pick l1__law_pick c1__law_pick k1__law_pick fun _ _ _ _ _ _ us hl => match us, hl with | [_, _, _], _ => rfl),
    d__law_simple := (at_mk X G a1__law_simple l1__law_simple c1__law_simple k1__law_simple fun _ _ _ _ _ _ us hl => match us, hl with | [_, _, _, _], _ => rfl),
    d__law_block := (at_mk X G a1__law_block l1__law_block c1__law_block k1__law_block fun _ _ _ _ _ _ us hl => match us, hl with | [_, _, _, _, _, _], _ => rfl),
    d__law_names := (at_mk X G a1__law_names l1__law_names c1__law_names k1__law_names fun _ _ _ _ _ _ us hl => match us, hl with | [_, _], _ => rfl),
    d__law_program := (at_mk X G a1__law_program l1__law_program c1__law_program k1__law_program fun _ _ _ _ _ _ us hl => match us, hl with | [_, _, _, _], _ => rfl),
    d__law_all := (at_mk X G a1__law_all l1__law_all c1__law_all k1__law_all fun _ _ _ _ _ _ us hl => match us, hl with | [_, _], _ => rfl),
    d_law := (at_mk X G a1_law l1_law c1_law k1_law fun _ _ _ _ _ _ us hl => match us, hl with | [_], _ => rfl),
    c_SHAPES := (⟨_, PySem.W.mg_of X G g_SHAPES, rfl⟩),
    c_SETS := (⟨_, PySem.W.mg_of X G g_SETS, rfl⟩) }
theorem end_mk {P : Program} {w : World} {K : PySem.W.Frag} {h : Heap} {mg : Str → Option Value} {fa a_SHAPES a_SETS : Addr} (X : K.In h) (G : h.Ns mainGlobals mg) (hmg : mg "law" = some (.ref fa))
    (g_SETS : PySem.W.nsIn K mainGlobals "SETS" = some (some (.ref a_SETS)))
    (g_SHAPES : PySem.W.nsIn K mainGlobals "SHAPES" = some (some (.ref a_SHAPES)))
    (z_isinstance : PySem.W.nsIn K mainGlobals "isinstance" = some none)
    (z_str : PySem.W.nsIn K mainGlobals "str" = some none)
    (z_len : PySem.W.nsIn K mainGlobals "len" = some none)
    (z_int : PySem.W.nsIn K mainGlobals "int" = some none)
    (z_bool : PySem.W.nsIn K mainGlobals "bool" = some none)
    (z_tuple : PySem.W.nsIn K mainGlobals "tuple" = some none)
    (z_zip : PySem.W.nsIn K mainGlobals "zip" = some none)
    (z_all : PySem.W.nsIn K mainGlobals "all" = some none)
    (z_sum : PySem.W.nsIn K mainGlobals "sum" = some none)
    (z_dict : PySem.W.nsIn K mainGlobals "dict" = some none)
    (z_set : PySem.W.nsIn K mainGlobals "set" = some none)
    (z_enumerate : PySem.W.nsIn K mainGlobals "enumerate" = some none)
    (z_list : PySem.W.nsIn K mainGlobals "list" = some none)
    (z_range : PySem.W.nsIn K mainGlobals "range" = some none)
    {t_LONGEST : Tok} (g_LONGEST : PySem.W.nsIn K mainGlobals "LONGEST" = some (some (.int 6 t_LONGEST)))
    {t_LETTERS : Tok} (g_LETTERS : PySem.W.nsIn K mainGlobals "LETTERS" = some (some (.str "abcdefghijklmnopqrstuvwxyz" t_LETTERS)))
    {t_GREATEST : Tok} (g_GREATEST : PySem.W.nsIn K mainGlobals "GREATEST" = some (some (.int 999 t_GREATEST)))
    {t_DEEP : Tok} (g_DEEP : PySem.W.nsIn K mainGlobals "DEEP" = some (some (.int 6 t_DEEP)))
    {t_ROWS : Tok} (g_ROWS : PySem.W.nsIn K mainGlobals "ROWS" = some (some (.int 400 t_ROWS)))
    {t_PARAMS : Tok} (g_PARAMS : PySem.W.nsIn K mainGlobals "PARAMS" = some (some (.int 3 t_PARAMS)))
    {f_is_word : Addr} {od_is_word an_is_word : Option Addr} {sl_is_word : Array (Option Value)} {oc_is_word kV_is_word dc_is_word pm_is_word cd_is_word ct_is_word : Value} (a1_is_word : PySem.W.nsIn K mainGlobals "is_word" = some (some (.ref f_is_word))) (l1_is_word : K.lookup f_is_word = some ⟨oc_is_word, od_is_word, .func (PySem.W.fnOf "is_word" "is_word" (defArgs s_is_word) (defBody s_is_word) (defScope s_is_word) .none kV_is_word dc_is_word pm_is_word an_is_word cd_is_word ct_is_word), sl_is_word⟩) (c1_is_word : PySem.W.codeIn K cd_is_word "is_word" = true) (k1_is_word : PySem.W.keepIn K (.ref f_is_word) = true)
    {f_is_whole : Addr} {od_is_whole an_is_whole : Option Addr} {sl_is_whole : Array (Option Value)} {oc_is_whole kV_is_whole dc_is_whole pm_is_whole cd_is_whole ct_is_whole : Value} (a1_is_whole : PySem.W.nsIn K mainGlobals "is_whole" = some (some (.ref f_is_whole))) (l1_is_whole : K.lookup f_is_whole = some ⟨oc_is_whole, od_is_whole, .func (PySem.W.fnOf "is_whole" "is_whole" (defArgs s_is_whole) (defBody s_is_whole) (defScope s_is_whole) .none kV_is_whole dc_is_whole pm_is_whole an_is_whole cd_is_whole ct_is_whole), sl_is_whole⟩) (c1_is_whole : PySem.W.codeIn K cd_is_whole "is_whole" = true) (k1_is_whole : PySem.W.keepIn K (.ref f_is_whole) = true)
    {f_is_part : Addr} {od_is_part an_is_part : Option Addr} {sl_is_part : Array (Option Value)} {oc_is_part kV_is_part dc_is_part pm_is_part cd_is_part ct_is_part : Value} (a1_is_part : PySem.W.nsIn K mainGlobals "is_part" = some (some (.ref f_is_part))) (l1_is_part : K.lookup f_is_part = some ⟨oc_is_part, od_is_part, .func (PySem.W.fnOf "is_part" "is_part" (defArgs s_is_part) (defBody s_is_part) (defScope s_is_part) .none kV_is_part dc_is_part pm_is_part an_is_part cd_is_part ct_is_part), sl_is_part⟩) (c1_is_part : PySem.W.codeIn K cd_is_part "is_part" = true) (k1_is_part : PySem.W.keepIn K (.ref f_is_part) = true)
    {f_blocks_of : Addr} {od_blocks_of an_blocks_of : Option Addr} {sl_blocks_of : Array (Option Value)} {oc_blocks_of kV_blocks_of dc_blocks_of pm_blocks_of cd_blocks_of ct_blocks_of : Value} (a1_blocks_of : PySem.W.nsIn K mainGlobals "blocks_of" = some (some (.ref f_blocks_of))) (l1_blocks_of : K.lookup f_blocks_of = some ⟨oc_blocks_of, od_blocks_of, .func (PySem.W.fnOf "blocks_of" "blocks_of" (defArgs s_blocks_of) (defBody s_blocks_of) (defScope s_blocks_of) .none kV_blocks_of dc_blocks_of pm_blocks_of an_blocks_of cd_blocks_of ct_blocks_of), sl_blocks_of⟩) (c1_blocks_of : PySem.W.codeIn K cd_blocks_of "blocks_of" = true) (k1_blocks_of : PySem.W.keepIn K (.ref f_blocks_of) = true)
    {f_is_row : Addr} {od_is_row an_is_row : Option Addr} {sl_is_row : Array (Option Value)} {oc_is_row kV_is_row dc_is_row pm_is_row cd_is_row ct_is_row : Value} (a1_is_row : PySem.W.nsIn K mainGlobals "is_row" = some (some (.ref f_is_row))) (l1_is_row : K.lookup f_is_row = some ⟨oc_is_row, od_is_row, .func (PySem.W.fnOf "is_row" "is_row" (defArgs s_is_row) (defBody s_is_row) (defScope s_is_row) .none kV_is_row dc_is_row pm_is_row an_is_row cd_is_row ct_is_row), sl_is_row⟩) (c1_is_row : PySem.W.codeIn K cd_is_row "is_row" = true) (k1_is_row : PySem.W.keepIn K (.ref f_is_row) = true)
    {f_is_block : Addr} {od_is_block an_is_block : Option Addr} {sl_is_block : Array (Option Value)} {oc_is_block kV_is_block dc_is_block pm_is_block cd_is_block ct_is_block : Value} (a1_is_block : PySem.W.nsIn K mainGlobals "is_block" = some (some (.ref f_is_block))) (l1_is_block : K.lookup f_is_block = some ⟨oc_is_block, od_is_block, .func (PySem.W.fnOf "is_block" "is_block" (defArgs s_is_block) (defBody s_is_block) (defScope s_is_block) .none kV_is_block dc_is_block pm_is_block an_is_block cd_is_block ct_is_block), sl_is_block⟩) (c1_is_block : PySem.W.codeIn K cd_is_block "is_block" = true) (k1_is_block : PySem.W.keepIn K (.ref f_is_block) = true)
    {f_count_of : Addr} {od_count_of an_count_of : Option Addr} {sl_count_of : Array (Option Value)} {oc_count_of kV_count_of dc_count_of pm_count_of cd_count_of ct_count_of : Value} (a1_count_of : PySem.W.nsIn K mainGlobals "count_of" = some (some (.ref f_count_of))) (l1_count_of : K.lookup f_count_of = some ⟨oc_count_of, od_count_of, .func (PySem.W.fnOf "count_of" "count_of" (defArgs s_count_of) (defBody s_count_of) (defScope s_count_of) .none kV_count_of dc_count_of pm_count_of an_count_of cd_count_of ct_count_of), sl_count_of⟩) (c1_count_of : PySem.W.codeIn K cd_count_of "count_of" = true) (k1_count_of : PySem.W.keepIn K (.ref f_count_of) = true)
    {f_kinds_of : Addr} {od_kinds_of an_kinds_of : Option Addr} {sl_kinds_of : Array (Option Value)} {oc_kinds_of kV_kinds_of dc_kinds_of pm_kinds_of cd_kinds_of ct_kinds_of : Value} (a1_kinds_of : PySem.W.nsIn K mainGlobals "kinds_of" = some (some (.ref f_kinds_of))) (l1_kinds_of : K.lookup f_kinds_of = some ⟨oc_kinds_of, od_kinds_of, .func (PySem.W.fnOf "kinds_of" "kinds_of" (defArgs s_kinds_of) (defBody s_kinds_of) (defScope s_kinds_of) .none kV_kinds_of dc_kinds_of pm_kinds_of an_kinds_of cd_kinds_of ct_kinds_of), sl_kinds_of⟩) (c1_kinds_of : PySem.W.codeIn K cd_kinds_of "kinds_of" = true) (k1_kinds_of : PySem.W.keepIn K (.ref f_kinds_of) = true)
    {f_kinds_in : Addr} {od_kinds_in an_kinds_in : Option Addr} {sl_kinds_in : Array (Option Value)} {oc_kinds_in kV_kinds_in dc_kinds_in pm_kinds_in cd_kinds_in ct_kinds_in : Value} (a1_kinds_in : PySem.W.nsIn K mainGlobals "kinds_in" = some (some (.ref f_kinds_in))) (l1_kinds_in : K.lookup f_kinds_in = some ⟨oc_kinds_in, od_kinds_in, .func (PySem.W.fnOf "kinds_in" "kinds_in" (defArgs s_kinds_in) (defBody s_kinds_in) (defScope s_kinds_in) .none kV_kinds_in dc_kinds_in pm_kinds_in an_kinds_in cd_kinds_in ct_kinds_in), sl_kinds_in⟩) (c1_kinds_in : PySem.W.codeIn K cd_kinds_in "kinds_in" = true) (k1_kinds_in : PySem.W.keepIn K (.ref f_kinds_in) = true)
    {f_reads : Addr} {od_reads an_reads : Option Addr} {sl_reads : Array (Option Value)} {oc_reads kV_reads dc_reads pm_reads cd_reads ct_reads : Value} (a1_reads : PySem.W.nsIn K mainGlobals "reads" = some (some (.ref f_reads))) (l1_reads : K.lookup f_reads = some ⟨oc_reads, od_reads, .func (PySem.W.fnOf "reads" "reads" (defArgs s_reads) (defBody s_reads) (defScope s_reads) .none kV_reads dc_reads pm_reads an_reads cd_reads ct_reads), sl_reads⟩) (c1_reads : PySem.W.codeIn K cd_reads "reads" = true) (k1_reads : PySem.W.keepIn K (.ref f_reads) = true)
    {f_sets : Addr} {od_sets an_sets : Option Addr} {sl_sets : Array (Option Value)} {oc_sets kV_sets dc_sets pm_sets cd_sets ct_sets : Value} (a1_sets : PySem.W.nsIn K mainGlobals "sets" = some (some (.ref f_sets))) (l1_sets : K.lookup f_sets = some ⟨oc_sets, od_sets, .func (PySem.W.fnOf "sets" "sets" (defArgs s_sets) (defBody s_sets) (defScope s_sets) .none kV_sets dc_sets pm_sets an_sets cd_sets ct_sets), sl_sets⟩) (c1_sets : PySem.W.codeIn K cd_sets "sets" = true) (k1_sets : PySem.W.keepIn K (.ref f_sets) = true)
    {f_surely : Addr} {od_surely an_surely : Option Addr} {sl_surely : Array (Option Value)} {oc_surely kV_surely dc_surely pm_surely cd_surely ct_surely : Value} (a1_surely : PySem.W.nsIn K mainGlobals "surely" = some (some (.ref f_surely))) (l1_surely : K.lookup f_surely = some ⟨oc_surely, od_surely, .func (PySem.W.fnOf "surely" "surely" (defArgs s_surely) (defBody s_surely) (defScope s_surely) .none kV_surely dc_surely pm_surely an_surely cd_surely ct_surely), sl_surely⟩) (c1_surely : PySem.W.codeIn K cd_surely "surely" = true) (k1_surely : PySem.W.keepIn K (.ref f_surely) = true)
    {f_is_program : Addr} {od_is_program an_is_program : Option Addr} {sl_is_program : Array (Option Value)} {oc_is_program kV_is_program dc_is_program pm_is_program cd_is_program ct_is_program : Value} (a1_is_program : PySem.W.nsIn K mainGlobals "is_program" = some (some (.ref f_is_program))) (l1_is_program : K.lookup f_is_program = some ⟨oc_is_program, od_is_program, .func (PySem.W.fnOf "is_program" "is_program" (defArgs s_is_program) (defBody s_is_program) (defScope s_is_program) .none kV_is_program dc_is_program pm_is_program an_is_program cd_is_program ct_is_program), sl_is_program⟩) (c1_is_program : PySem.W.codeIn K cd_is_program "is_program" = true) (k1_is_program : PySem.W.keepIn K (.ref f_is_program) = true)
    {f_need_program : Addr} {od_need_program an_need_program : Option Addr} {sl_need_program : Array (Option Value)} {oc_need_program kV_need_program dc_need_program pm_need_program cd_need_program ct_need_program : Value} (a1_need_program : PySem.W.nsIn K mainGlobals "need_program" = some (some (.ref f_need_program))) (l1_need_program : K.lookup f_need_program = some ⟨oc_need_program, od_need_program, .func (PySem.W.fnOf "need_program" "need_program" (defArgs s_need_program) (defBody s_need_program) (defScope s_need_program) .none kV_need_program dc_need_program pm_need_program an_need_program cd_need_program ct_need_program), sl_need_program⟩) (c1_need_program : PySem.W.codeIn K cd_need_program "need_program" = true) (k1_need_program : PySem.W.keepIn K (.ref f_need_program) = true)
    {f_rows_in : Addr} {od_rows_in an_rows_in : Option Addr} {sl_rows_in : Array (Option Value)} {oc_rows_in kV_rows_in dc_rows_in pm_rows_in cd_rows_in ct_rows_in : Value} (a1_rows_in : PySem.W.nsIn K mainGlobals "rows_in" = some (some (.ref f_rows_in))) (l1_rows_in : K.lookup f_rows_in = some ⟨oc_rows_in, od_rows_in, .func (PySem.W.fnOf "rows_in" "rows_in" (defArgs s_rows_in) (defBody s_rows_in) (defScope s_rows_in) .none kV_rows_in dc_rows_in pm_rows_in an_rows_in cd_rows_in ct_rows_in), sl_rows_in⟩) (c1_rows_in : PySem.W.codeIn K cd_rows_in "rows_in" = true) (k1_rows_in : PySem.W.keepIn K (.ref f_rows_in) = true)
    {f_holders : Addr} {od_holders an_holders : Option Addr} {sl_holders : Array (Option Value)} {oc_holders kV_holders dc_holders pm_holders cd_holders ct_holders : Value} (a1_holders : PySem.W.nsIn K mainGlobals "holders" = some (some (.ref f_holders))) (l1_holders : K.lookup f_holders = some ⟨oc_holders, od_holders, .func (PySem.W.fnOf "holders" "holders" (defArgs s_holders) (defBody s_holders) (defScope s_holders) .none kV_holders dc_holders pm_holders an_holders cd_holders ct_holders), sl_holders⟩) (c1_holders : PySem.W.codeIn K cd_holders "holders" = true) (k1_holders : PySem.W.keepIn K (.ref f_holders) = true)
    {f_may_give : Addr} {od_may_give an_may_give : Option Addr} {sl_may_give : Array (Option Value)} {oc_may_give kV_may_give dc_may_give pm_may_give cd_may_give ct_may_give : Value} (a1_may_give : PySem.W.nsIn K mainGlobals "may_give" = some (some (.ref f_may_give))) (l1_may_give : K.lookup f_may_give = some ⟨oc_may_give, od_may_give, .func (PySem.W.fnOf "may_give" "may_give" (defArgs s_may_give) (defBody s_may_give) (defScope s_may_give) .none kV_may_give dc_may_give pm_may_give an_may_give cd_may_give ct_may_give), sl_may_give⟩) (c1_may_give : PySem.W.codeIn K cd_may_give "may_give" = true) (k1_may_give : PySem.W.keepIn K (.ref f_may_give) = true)
    {f_size : Addr} {od_size an_size : Option Addr} {sl_size : Array (Option Value)} {oc_size kV_size dc_size pm_size cd_size ct_size : Value} (a1_size : PySem.W.nsIn K mainGlobals "size" = some (some (.ref f_size))) (l1_size : K.lookup f_size = some ⟨oc_size, od_size, .func (PySem.W.fnOf "size" "size" (defArgs s_size) (defBody s_size) (defScope s_size) .none kV_size dc_size pm_size an_size cd_size ct_size), sl_size⟩) (c1_size : PySem.W.codeIn K cd_size "size" = true) (k1_size : PySem.W.keepIn K (.ref f_size) = true)
    {f__law_cell_at : Addr} {od__law_cell_at an__law_cell_at : Option Addr} {sl__law_cell_at : Array (Option Value)} {oc__law_cell_at kV__law_cell_at dc__law_cell_at pm__law_cell_at cd__law_cell_at ct__law_cell_at : Value} (a1__law_cell_at : PySem.W.nsIn K mainGlobals "_law_cell_at" = some (some (.ref f__law_cell_at))) (l1__law_cell_at : K.lookup f__law_cell_at = some ⟨oc__law_cell_at, od__law_cell_at, .func (PySem.W.fnOf "_law_cell_at" "_law_cell_at" (defArgs s__law_cell_at) (defBody s__law_cell_at) (defScope s__law_cell_at) .none kV__law_cell_at dc__law_cell_at pm__law_cell_at an__law_cell_at cd__law_cell_at ct__law_cell_at), sl__law_cell_at⟩) (c1__law_cell_at : PySem.W.codeIn K cd__law_cell_at "_law_cell_at" = true) (k1__law_cell_at : PySem.W.keepIn K (.ref f__law_cell_at) = true)
    {f__law_mixed : Addr} {od__law_mixed an__law_mixed : Option Addr} {sl__law_mixed : Array (Option Value)} {oc__law_mixed kV__law_mixed dc__law_mixed pm__law_mixed cd__law_mixed ct__law_mixed : Value} (a1__law_mixed : PySem.W.nsIn K mainGlobals "_law_mixed" = some (some (.ref f__law_mixed))) (l1__law_mixed : K.lookup f__law_mixed = some ⟨oc__law_mixed, od__law_mixed, .func (PySem.W.fnOf "_law_mixed" "_law_mixed" (defArgs s__law_mixed) (defBody s__law_mixed) (defScope s__law_mixed) .none kV__law_mixed dc__law_mixed pm__law_mixed an__law_mixed cd__law_mixed ct__law_mixed), sl__law_mixed⟩) (c1__law_mixed : PySem.W.codeIn K cd__law_mixed "_law_mixed" = true) (k1__law_mixed : PySem.W.keepIn K (.ref f__law_mixed) = true)
    {f__law_draw : Addr} {od__law_draw an__law_draw : Option Addr} {sl__law_draw : Array (Option Value)} {oc__law_draw kV__law_draw dc__law_draw pm__law_draw cd__law_draw ct__law_draw : Value} (a1__law_draw : PySem.W.nsIn K mainGlobals "_law_draw" = some (some (.ref f__law_draw))) (l1__law_draw : K.lookup f__law_draw = some ⟨oc__law_draw, od__law_draw, .func (PySem.W.fnOf "_law_draw" "_law_draw" (defArgs s__law_draw) (defBody s__law_draw) (defScope s__law_draw) .none kV__law_draw dc__law_draw pm__law_draw an__law_draw cd__law_draw ct__law_draw), sl__law_draw⟩) (c1__law_draw : PySem.W.codeIn K cd__law_draw "_law_draw" = true) (k1__law_draw : PySem.W.keepIn K (.ref f__law_draw) = true)
    {f__law_pick : Addr} {od__law_pick an__law_pick : Option Addr} {sl__law_pick : Array (Option Value)} {oc__law_pick kV__law_pick dc__law_pick pm__law_pick cd__law_pick ct__law_pick : Value} (a1__law_pick : PySem.W.nsIn K mainGlobals "_law_pick" = some (some (.ref f__law_pick))) (l1__law_pick : K.lookup f__law_pick = some ⟨oc__law_pick, od__law_pick, .func (PySem.W.fnOf "_law_pick" "_law_pick" (defArgs s__law_pick) (defBody s__law_pick) (defScope s__law_pick) .none kV__law_pick dc__law_pick pm__law_pick an__law_pick cd__law_pick ct__law_pick), sl__law_pick⟩) (c1__law_pick : PySem.W.codeIn K cd__law_pick "_law_pick" = true) (k1__law_pick : PySem.W.keepIn K (.ref f__law_pick) = true)
    {f__law_simple : Addr} {od__law_simple an__law_simple : Option Addr} {sl__law_simple : Array (Option Value)} {oc__law_simple kV__law_simple dc__law_simple pm__law_simple cd__law_simple ct__law_simple : Value} (a1__law_simple : PySem.W.nsIn K mainGlobals "_law_simple" = some (some (.ref f__law_simple))) (l1__law_simple : K.lookup f__law_simple = some ⟨oc__law_simple, od__law_simple, .func (PySem.W.fnOf "_law_simple" "_law_simple" (defArgs s__law_simple) (defBody s__law_simple) (defScope s__law_simple) .none kV__law_simple dc__law_simple pm__law_simple an__law_simple cd__law_simple ct__law_simple), sl__law_simple⟩) (c1__law_simple : PySem.W.codeIn K cd__law_simple "_law_simple" = true) (k1__law_simple : PySem.W.keepIn K (.ref f__law_simple) = true)
    {f__law_block : Addr} {od__law_block an__law_block : Option Addr} {sl__law_block : Array (Option Value)} {oc__law_block kV__law_block dc__law_block pm__law_block cd__law_block ct__law_block : Value} (a1__law_block : PySem.W.nsIn K mainGlobals "_law_block" = some (some (.ref f__law_block))) (l1__law_block : K.lookup f__law_block = some ⟨oc__law_block, od__law_block, .func (PySem.W.fnOf "_law_block" "_law_block" (defArgs s__law_block) (defBody s__law_block) (defScope s__law_block) .none kV__law_block dc__law_block pm__law_block an__law_block cd__law_block ct__law_block), sl__law_block⟩) (c1__law_block : PySem.W.codeIn K cd__law_block "_law_block" = true) (k1__law_block : PySem.W.keepIn K (.ref f__law_block) = true)
    {f__law_names : Addr} {od__law_names an__law_names : Option Addr} {sl__law_names : Array (Option Value)} {oc__law_names kV__law_names dc__law_names pm__law_names cd__law_names ct__law_names : Value} (a1__law_names : PySem.W.nsIn K mainGlobals "_law_names" = some (some (.ref f__law_names))) (l1__law_names : K.lookup f__law_names = some ⟨oc__law_names, od__law_names, .func (PySem.W.fnOf "_law_names" "_law_names" (defArgs s__law_names) (defBody s__law_names) (defScope s__law_names) .none kV__law_names dc__law_names pm__law_names an__law_names cd__law_names ct__law_names), sl__law_names⟩) (c1__law_names : PySem.W.codeIn K cd__law_names "_law_names" = true) (k1__law_names : PySem.W.keepIn K (.ref f__law_names) = true)
    {f__law_program : Addr} {od__law_program an__law_program : Option Addr} {sl__law_program : Array (Option Value)} {oc__law_program kV__law_program dc__law_program pm__law_program cd__law_program ct__law_program : Value} (a1__law_program : PySem.W.nsIn K mainGlobals "_law_program" = some (some (.ref f__law_program))) (l1__law_program : K.lookup f__law_program = some ⟨oc__law_program, od__law_program, .func (PySem.W.fnOf "_law_program" "_law_program" (defArgs s__law_program) (defBody s__law_program) (defScope s__law_program) .none kV__law_program dc__law_program pm__law_program an__law_program cd__law_program ct__law_program), sl__law_program⟩) (c1__law_program : PySem.W.codeIn K cd__law_program "_law_program" = true) (k1__law_program : PySem.W.keepIn K (.ref f__law_program) = true)
    {f__law_all : Addr} {od__law_all an__law_all : Option Addr} {sl__law_all : Array (Option Value)} {oc__law_all kV__law_all dc__law_all pm__law_all cd__law_all ct__law_all : Value} (a1__law_all : PySem.W.nsIn K mainGlobals "_law_all" = some (some (.ref f__law_all))) (l1__law_all : K.lookup f__law_all = some ⟨oc__law_all, od__law_all, .func (PySem.W.fnOf "_law_all" "_law_all" (defArgs s__law_all) (defBody s__law_all) (defScope s__law_all) .none kV__law_all dc__law_all pm__law_all an__law_all cd__law_all ct__law_all), sl__law_all⟩) (c1__law_all : PySem.W.codeIn K cd__law_all "_law_all" = true) (k1__law_all : PySem.W.keepIn K (.ref f__law_all) = true)
    {f_law : Addr} {od_law an_law : Option Addr} {sl_law : Array (Option Value)} {oc_law kV_law dc_law pm_law cd_law ct_law : Value} (a1_law : PySem.W.nsIn K mainGlobals "law" = some (some (.ref f_law))) (l1_law : K.lookup f_law = some ⟨oc_law, od_law, .func (PySem.W.fnOf "law" "law" (defArgs s_law) (defBody s_law) (defScope s_law) .none kV_law dc_law pm_law an_law cd_law ct_law), sl_law⟩) (c1_law : PySem.W.codeIn K cd_law "law" = true) (k1_law : PySem.W.keepIn K (.ref f_law) = true)
    {es_SHAPES : Array DictEntry} {n_SHAPES : Nat} (l_SHAPES : K.lookup a_SHAPES = some ⟨.type "dict", none, .dict es_SHAPES n_SHAPES, #[]⟩) (e_SHAPES : TabE w.params es_SHAPES.toList d_SHAPES) (s_SHAPES : (a_SHAPES == sysModules) = false)
    {o_SETS : Obj} {i_SETS : Array Value} {n_SETS : Nat} (l_SETS : K.lookup a_SETS = some o_SETS) (e_SETS : o_SETS.cls = .type "tuple" ∧ o_SETS.data = .seq i_SETS n_SETS) (v_SETS : TupE i_SETS.toList d_SETS) (y_SETS : i_SETS.size ≤ sizeLine)
    : ∃ fd : FuncData, (∀ (s : Shared) (u : Value), BindsTo s fd ⟨[u], []⟩ [("_law_script", u)]) ∧ ∀ base : Heap, K.In base → base.Ns mainGlobals mg → FnOk P w K mg base CX0 23 fa fd ["_law_script"] (spTrue K) := by
  have T : Top w K mg a_SHAPES a_SETS := top_mk X G g_SETS g_SHAPES z_isinstance z_str z_len z_int z_bool z_tuple z_zip z_all z_sum z_dict z_set z_enumerate z_list z_range g_LONGEST g_LETTERS g_GREATEST g_DEEP g_ROWS g_PARAMS a1_is_word l1_is_word c1_is_word k1_is_word a1_is_whole l1_is_whole c1_is_whole k1_is_whole a1_is_part l1_is_part c1_is_part k1_is_part a1_blocks_of l1_blocks_of c1_blocks_of k1_blocks_of a1_is_row l1_is_row c1_is_row k1_is_row a1_is_block l1_is_block c1_is_block k1_is_block a1_count_of l1_count_of c1_count_of k1_count_of a1_kinds_of l1_kinds_of c1_kinds_of k1_kinds_of a1_kinds_in l1_kinds_in c1_kinds_in k1_kinds_in a1_reads l1_reads c1_reads k1_reads a1_sets l1_sets c1_sets k1_sets a1_surely l1_surely c1_surely k1_surely a1_is_program l1_is_program c1_is_program k1_is_program a1_need_program l1_need_program c1_need_program k1_need_program a1_rows_in l1_rows_in c1_rows_in k1_rows_in a1_holders l1_holders c1_holders k1_holders a1_may_give l1_may_give c1_may_give k1_may_give a1_size l1_size c1_size k1_size a1__law_cell_at l1__law_cell_at c1__law_cell_at k1__law_cell_at a1__law_mixed l1__law_mixed c1__law_mixed k1__law_mixed a1__law_draw l1__law_draw c1__law_draw k1__law_draw a1__law_pick l1__law_pick c1__law_pick k1__law_pick a1__law_simple l1__law_simple c1__law_simple k1__law_simple a1__law_block l1__law_block c1__law_block k1__law_block a1__law_names l1__law_names c1__law_names k1__law_names a1__law_program l1__law_program c1__law_program k1__law_program a1__law_all l1__law_all c1__law_all k1__law_all a1_law l1_law c1_law k1_law l_SHAPES e_SHAPES s_SHAPES l_SETS e_SETS v_SETS y_SETS
  have F1 := fun_mk (st := s_law) l1_law c1_law k1_law
  have e := hmg.symm.trans (PySem.W.mg_of X G a1_law)
  cases e
  refine ⟨_, fun s v => (?_ : BindsTo s (PySem.W.fnOf "law" "law" (defArgs s_law) (defBody s_law) (defScope s_law) .none kV_law dc_law pm_law an_law cd_law ct_law) ⟨[v], []⟩ [("_law_script", v)]), fun base _ _ => ?_⟩
  · exact .of_eq rfl
  · obtain ⟨fd, F0, F⟩ := law_of (okw_law (P := P) (base := base) T) hmg pure_law
    obtain ⟨oc, od, kV, doc, pm, an, cdv, ct, osl, rfl, lk, hcd⟩ := F0.ex
    rw [l1_law] at lk
    cases lk
    exact F
end TA
open PySem PySem.W PyProof.Rows
set_option maxHeartbeats 0 in
theorem PySem.Challenge.cw_takeapart_k14_may_give_holds : PySem.Challenge.rw_takeapart_k14_may_give.Holds := by
  w_on; o_law; k_head; (case hw => w_witness2)
  k_fill
  refine L2.walk_of (l := PySem.Challenge.rw_takeapart_k14_may_give) (n := 63) (k := 23) (x := "_law_script") (CX := fun _ => L2.CX0) (sp := fun w => DL.spTrue _) rfl (by decide) rfl ⟨rfl, by decide, by decide⟩ (fun w h Y => PySem.W.kIn_of Y) ?F (fun _ _ a ns hl _ hS => ⟨a, ns, rfl, hS, hl, fun _ => rfl⟩) (fun _ _ _ _ _ h => h)
  case F =>
    intro w mg fa h KX G hmg
    refine' TA.end_mk KX G hmg ?g_SETS ?g_SHAPES ?z_isinstance ?z_str ?z_len ?z_int ?z_bool ?z_tuple ?z_zip ?z_all ?z_sum ?z_dict ?z_set ?z_enumerate ?z_list ?z_range ?g_LONGEST ?g_LETTERS ?g_GREATEST ?g_DEEP ?g_ROWS ?g_PARAMS ?a1_is_word ?l1_is_word ?c1_is_word ?k1_is_word ?a1_is_whole ?l1_is_whole ?c1_is_whole ?k1_is_whole ?a1_is_part ?l1_is_part ?c1_is_part ?k1_is_part ?a1_blocks_of ?l1_blocks_of ?c1_blocks_of ?k1_blocks_of ?a1_is_row ?l1_is_row ?c1_is_row ?k1_is_row ?a1_is_block ?l1_is_block ?c1_is_block ?k1_is_block ?a1_count_of ?l1_count_of ?c1_count_of ?k1_count_of ?a1_kinds_of ?l1_kinds_of ?c1_kinds_of ?k1_kinds_of ?a1_kinds_in ?l1_kinds_in ?c1_kinds_in ?k1_kinds_in ?a1_reads ?l1_reads ?c1_reads ?k1_reads ?a1_sets ?l1_sets ?c1_sets ?k1_sets ?a1_surely ?l1_surely ?c1_surely ?k1_surely ?a1_is_program ?l1_is_program ?c1_is_program ?k1_is_program ?a1_need_program ?l1_need_program ?c1_need_program ?k1_need_program ?a1_rows_in ?l1_rows_in ?c1_rows_in ?k1_rows_in ?a1_holders ?l1_holders ?c1_holders ?k1_holders ?a1_may_give ?l1_may_give ?c1_may_give ?k1_may_give ?a1_size ?l1_size ?c1_size ?k1_size ?a1__law_cell_at ?l1__law_cell_at ?c1__law_cell_at ?k1__law_cell_at ?a1__law_mixed ?l1__law_mixed ?c1__law_mixed ?k1__law_mixed ?a1__law_draw ?l1__law_draw ?c1__law_draw ?k1__law_draw ?a1__law_pick ?l1__law_pick ?c1__law_pick ?k1__law_pick ?a1__law_simple ?l1__law_simple ?c1__law_simple ?k1__law_simple ?a1__law_block ?l1__law_block ?c1__law_block ?k1__law_block ?a1__law_names ?l1__law_names ?c1__law_names ?k1__law_names ?a1__law_program ?l1__law_program ?c1__law_program ?k1__law_program ?a1__law_all ?l1__law_all ?c1__law_all ?k1__law_all ?a1_law ?l1_law ?c1_law ?k1_law ?l_SHAPES ?e_SHAPES ?s_SHAPES ?l_SETS ?e_SETS ?v_SETS ?y_SETS
    (case g_SETS => k_is)
    (case g_SHAPES => k_is)
    (case z_isinstance => k_is)
    (case z_str => k_is)
    (case z_len => k_is)
    (case z_int => k_is)
    (case z_bool => k_is)
    (case z_tuple => k_is)
    (case z_zip => k_is)
    (case z_all => k_is)
    (case z_sum => k_is)
    (case z_dict => k_is)
    (case z_set => k_is)
    (case z_enumerate => k_is)
    (case z_list => k_is)
    (case z_range => k_is)
    (case g_LONGEST => k_is)
    (case g_LETTERS => k_is)
    (case g_GREATEST => k_is)
    (case g_DEEP => k_is)
    (case g_ROWS => k_is)
    (case g_PARAMS => k_is)
    (case a1_is_word => k_is)
    (case l1_is_word => k_is)
    (case c1_is_word => k_is)
    (case k1_is_word => k_is)
    (case a1_is_whole => k_is)
    (case l1_is_whole => k_is)
    (case c1_is_whole => k_is)
    (case k1_is_whole => k_is)
    (case a1_is_part => k_is)
    (case l1_is_part => k_is)
    (case c1_is_part => k_is)
    (case k1_is_part => k_is)
    (case a1_blocks_of => k_is)
    (case l1_blocks_of => k_is)
    (case c1_blocks_of => k_is)
    (case k1_blocks_of => k_is)
    (case a1_is_row => k_is)
    (case l1_is_row => k_is)
    (case c1_is_row => k_is)
    (case k1_is_row => k_is)
    (case a1_is_block => k_is)
    (case l1_is_block => k_is)
    (case c1_is_block => k_is)
    (case k1_is_block => k_is)
    (case a1_count_of => k_is)
    (case l1_count_of => k_is)
    (case c1_count_of => k_is)
    (case k1_count_of => k_is)
    (case a1_kinds_of => k_is)
    (case l1_kinds_of => k_is)
    (case c1_kinds_of => k_is)
    (case k1_kinds_of => k_is)
    (case a1_kinds_in => k_is)
    (case l1_kinds_in => k_is)
    (case c1_kinds_in => k_is)
    (case k1_kinds_in => k_is)
    (case a1_reads => k_is)
    (case l1_reads => k_is)
    (case c1_reads => k_is)
    (case k1_reads => k_is)
    (case a1_sets => k_is)
    (case l1_sets => k_is)
    (case c1_sets => k_is)
    (case k1_sets => k_is)
    (case a1_surely => k_is)
    (case l1_surely => k_is)
    (case c1_surely => k_is)
    (case k1_surely => k_is)
    (case a1_is_program => k_is)
    (case l1_is_program => k_is)
    (case c1_is_program => k_is)
    (case k1_is_program => k_is)
    (case a1_need_program => k_is)
    (case l1_need_program => k_is)
    (case c1_need_program => k_is)
    (case k1_need_program => k_is)
    (case a1_rows_in => k_is)
    (case l1_rows_in => k_is)
    (case c1_rows_in => k_is)
    (case k1_rows_in => k_is)
    (case a1_holders => k_is)
    (case l1_holders => k_is)
    (case c1_holders => k_is)
    (case k1_holders => k_is)
    (case a1_may_give => k_is)
    (case l1_may_give => k_is)
    (case c1_may_give => k_is)
    (case k1_may_give => k_is)
    (case a1_size => k_is)
    (case l1_size => k_is)
    (case c1_size => k_is)
    (case k1_size => k_is)
    (case a1__law_cell_at => k_is)
    (case l1__law_cell_at => k_is)
    (case c1__law_cell_at => k_is)
    (case k1__law_cell_at => k_is)
    (case a1__law_mixed => k_is)
    (case l1__law_mixed => k_is)
    (case c1__law_mixed => k_is)
    (case k1__law_mixed => k_is)
    (case a1__law_draw => k_is)
    (case l1__law_draw => k_is)
    (case c1__law_draw => k_is)
    (case k1__law_draw => k_is)
    (case a1__law_pick => k_is)
    (case l1__law_pick => k_is)
    (case c1__law_pick => k_is)
    (case k1__law_pick => k_is)
    (case a1__law_simple => k_is)
    (case l1__law_simple => k_is)
    (case c1__law_simple => k_is)
    (case k1__law_simple => k_is)
    (case a1__law_block => k_is)
    (case l1__law_block => k_is)
    (case c1__law_block => k_is)
    (case k1__law_block => k_is)
    (case a1__law_names => k_is)
    (case l1__law_names => k_is)
    (case c1__law_names => k_is)
    (case k1__law_names => k_is)
    (case a1__law_program => k_is)
    (case l1__law_program => k_is)
    (case c1__law_program => k_is)
    (case k1__law_program => k_is)
    (case a1__law_all => k_is)
    (case l1__law_all => k_is)
    (case c1__law_all => k_is)
    (case k1__law_all => k_is)
    (case a1_law => k_is)
    (case l1_law => k_is)
    (case c1_law => k_is)
    (case k1_law => k_is)
    (case l_SHAPES => k_is)
    (case e_SHAPES => (repeat (refine ⟨⟨_, rfl⟩, rfl, ⟨_, rfl⟩, ?_⟩)); trivial)
    (case s_SHAPES => rfl)
    (case l_SETS => k_is)
    (case e_SETS => exact ⟨rfl, rfl⟩)
    (case v_SETS => (repeat (refine ⟨⟨_, rfl⟩, ?_⟩)); trivial)
    (case y_SETS => decide)
