import PyProof.Rows.All
import Wide.All
import OpenK.AllK
import Wide.FinOn
import HandS.ForMost
import HandS.IsInst
import HandS.Deep
import HandS.Defaults
import HandS.CallLocal
import HandS.Zip
import HandS.Style
import HandS.Text
import HandS.TupAny
import HandS.Wide
import HandS.WideBits
import HandS.More
import KE.KDictPairs
import KE.SortData
import HandS.WordsDict
import HandS.DictTup
import HandS.SetKeys
import HandS.ListItems
import HandS.Star
import PyProof.ReprRoads
import HandS.DictComp
import PyProof.EqKinds
import PyProof.NeKinds
import HandS.Ends
import HandS.EndBits
import HandS.HeadEnd
import HandS.Head0
import HandS.Head1
import HandS.Head2
import HandS.HeadHook1
import HandS.HeadHook2
import PyProof.StrLawsRepr
import PyProof.Rows.RegStrFacts
import PySem.Challenge.RW_comestoend_k57_whole_bounds_reckoned
section
set_option Elab.async false
set_option linter.all false
set_option maxRecDepth 100000
/-! PD: values as plain data. -/
namespace PD
open PySem L2 PyProof.Rows

inductive DK where | K | T
  deriving DecidableEq

/-- what is known of a tuple: nothing more; a plain object; the very entry -/
inductive TK where | any | pl | ex
  deriving DecidableEq
def TupAt (K : PySem.W.Frag) (F : Hp) : TK → Addr → List V → Prop
  | .any, a, vs => SqT K F a vs
  | .pl, a, vs => ∃ o, F a = some (.frz o (.tup vs)) ∧ o.dict = none
  | .ex, a, vs => F a = some (.tup vs)
theorem TupAt.sq {K : PySem.W.Frag} {F : Hp} {k : TK} {a : Addr} {vs : List V} (h : TupAt K F k a vs) : SqT K F a vs := by
  cases k with
  | any => exact h
  | pl => obtain ⟨o, e, _⟩ := h; exact .inl (.inr ⟨o, e⟩)
  | ex => exact .inl (.inl h)
/-- plain data -/
inductive D where
  | non | bl (b : Bool) | int (i : Int) | str (x : Str)
  | tup (t : TK) (xs : List D) | lst (xs : List D) | rlst (xs : List D)
  | dct (k : DK) (kvs : List (D × D))
  | fn (x : Str) | ty (n : String) | cell (i : Nat)
  /-- the text that repr gives of such data -/
  | rep (p : PyData)

/-- data with an owned crown -/
inductive T where
  | sh (d : D) | lst (xs : List T) | dct (k : DK) (kvs : List (D × T))

mutual
def T.toD : T → D
  | .sh d => d
  | .lst xs => .lst (T.toDs xs)
  | .dct k kvs => .dct k (T.toKs kvs)
def T.toDs : List T → List D
  | [] => []
  | t :: ts => t.toD :: T.toDs ts
def T.toKs : List (D × T) → List (D × D)
  | [] => []
  | (k, t) :: r => (k, t.toD) :: T.toKs r
end
mutual
def D.flat : D → Bool
  | .lst _ => false
  | .rlst _ => false
  | .dct _ _ => false
  | .tup _ xs => D.flats xs
  | _ => true
def D.flats : List D → Bool
  | [] => true
  | d :: ds => d.flat && D.flats ds
end
def T.flat : T → Bool
  | .sh d => d.flat
  | _ => false
def kD : Key → D
  | .inl i => .int i
  | .inr x => .str x
def tD (k : List Key) : D := .tup .ex (k.map kD)

section
variable (K : PySem.W.Frag) (mg : Str → Option Value) (ca : List Addr) (F : Hp)
mutual
inductive RepD : V → D → Prop
  | non : RepD .non .non
  | bl (b : Bool) : RepD (.bl b) (.bl b)
  | int (i : Int) : RepD (.int i) (.int i)
  | str (x : Str) : x.length ≤ sizeLine → PyData.strOk x = true → RepD (.str x) (.str x)
  | rep (p : PyData) : RepD (.str p.shown) (.rep p)
  | tup {t : TK} {a : Addr} {vs : List V} {ds : List D} : TupAt K F t a vs → vs.length ≤ sizeLine → RepDs vs ds → RepD (.ref a) (.tup t ds)
  | lst {a : Addr} {vs : List V} {ds : List D} : F a = some (.lst vs) → vs.length ≤ sizeLine → RepDs vs ds → RepD (.ref a) (.lst ds)
  | rlst {a : Addr} {vs : List V} {ds : List D} : SqL K F a vs → vs.length ≤ sizeLine → RepDs vs ds → RepD (.ref a) (.rlst ds)
  | dK {a : Addr} {kvs : List (Key × V)} {ds : List (D × D)} : Rd F a (.dK kvs) → kvs.length ≤ sizeLine → RepKs kvs ds → RepD (.ref a) (.dct .K ds)
  | dT {a : Addr} {kvs : List (List Key × V)} {ds : List (D × D)} : Rd F a (.dT kvs) → kvs.length ≤ sizeLine → RepQs kvs ds → RepD (.ref a) (.dct .T ds)
  | fn {x : Str} {a : Addr} : mg x = some (.ref a) → RepD (.ref a) (.fn x)
  | ty (n : String) : RepD (.ty n) (.ty n)
  | cell {i : Nat} {a : Addr} : ca[i]? = some a → RepD (.ref a) (.cell i)
inductive RepDs : List V → List D → Prop
  | nil : RepDs [] []
  | cons {v : V} {vs : List V} {d : D} {ds : List D} : RepD v d → RepDs vs ds → RepDs (v :: vs) (d :: ds)
inductive RepKs : List (Key × V) → List (D × D) → Prop
  | nil : RepKs [] []
  | cons {k : Key} {v : V} {vs : List (Key × V)} {d : D} {ds : List (D × D)} : RepD v d → RepKs vs ds → RepKs ((k, v) :: vs) ((kD k, d) :: ds)
inductive RepQs : List (List Key × V) → List (D × D) → Prop
  | nil : RepQs [] []
  | cons {k : List Key} {v : V} {vs : List (List Key × V)} {d : D} {ds : List (D × D)} : RepD v d → RepQs vs ds → RepQs ((k, v) :: vs) ((tD k, d) :: ds)
end
variable (H : Hp)
mutual
inductive RepT : V → T → List Addr → Prop
  | sh {v : V} {d : D} : RepD K mg ca F v d → RepT v (.sh d) []
  | lst {a : Addr} {vs : List V} {ts : List T} {w : List Addr} : H a = some (.lst vs) → F a = none → vs.length ≤ sizeLine → RepTs vs ts w → RepT (.ref a) (.lst ts) (a :: w)
  | dK {a : Addr} {kvs : List (Key × V)} {ts : List (D × T)} {w : List Addr} : H a = some (.dK kvs) → F a = none → kvs.length ≤ sizeLine → RepTk kvs ts w → RepT (.ref a) (.dct .K ts) (a :: w)
  | dT {a : Addr} {kvs : List (List Key × V)} {ts : List (D × T)} {w : List Addr} : H a = some (.dT kvs) → F a = none → kvs.length ≤ sizeLine → RepTq kvs ts w → RepT (.ref a) (.dct .T ts) (a :: w)
inductive RepTs : List V → List T → List Addr → Prop
  | nil : RepTs [] [] []
  | cons {v : V} {vs : List V} {t : T} {ts : List T} {w w' : List Addr} : RepT v t w → RepTs vs ts w' → RepTs (v :: vs) (t :: ts) (w ++ w')
inductive RepTk : List (Key × V) → List (D × T) → List Addr → Prop
  | nil : RepTk [] [] []
  | cons {k : Key} {v : V} {vs : List (Key × V)} {t : T} {ts : List (D × T)} {w w' : List Addr} : RepT v t w → RepTk vs ts w' → RepTk ((k, v) :: vs) ((kD k, t) :: ts) (w ++ w')
inductive RepTq : List (List Key × V) → List (D × T) → List Addr → Prop
  | nil : RepTq [] [] []
  | cons {k : List Key} {v : V} {vs : List (List Key × V)} {t : T} {ts : List (D × T)} {w w' : List Addr} : RepT v t w → RepTq vs ts w' → RepTq ((k, v) :: vs) ((tD k, t) :: ts) (w ++ w')
end
end

/-- one abstract heap within another -/
def Sub (F F' : Hp) : Prop := ∀ a o, F a = some o → F' a = some o
theorem Sub.refl {F : Hp} : Sub F F := fun _ _ h => h
theorem Sub.trans {F G I : Hp} (h : Sub F G) (h' : Sub G I) : Sub F I := fun a o e => h' a o (h a o e)
theorem Sub.none {F F' : Hp} (h : Sub F F') {a : Addr} (e : F' a = none) : F a = none := by
  cases q : F a with
  | none => rfl
  | some o => rw [h a o q] at e; cases e
def Pre (ca ca' : List Addr) : Prop := ∃ more, ca' = ca ++ more
theorem Pre.refl {ca : List Addr} : Pre ca ca := ⟨[], by simp⟩
theorem Pre.trans {a b c : List Addr} (h : Pre a b) (h' : Pre b c) : Pre a c := by
  obtain ⟨m, rfl⟩ := h
  obtain ⟨n, rfl⟩ := h'
  exact ⟨m ++ n, by simp⟩
theorem Pre.get {ca ca' : List Addr} (h : Pre ca ca') {i : Nat} {a : Addr} (e : ca[i]? = some a) : ca'[i]? = some a := by
  obtain ⟨m, rfl⟩ := h
  obtain ⟨hi, _⟩ := List.getElem?_eq_some_iff.mp e
  rw [List.getElem?_append_left hi]
  exact e
theorem Rd.mono {F F' : Hp} (h : Sub F F') {a : Addr} {u : HO} (r : Rd F a u) : Rd F' a u := by
  rcases r with r | ⟨o, r⟩
  · exact .inl (h _ _ r)
  · exact .inr ⟨o, h _ _ r⟩
theorem SqL.mono {K : PySem.W.Frag} {F F' : Hp} (h : Sub F F') {a : Addr} {xs : List V} (r : SqL K F a xs) : SqL K F' a xs := by
  rcases r with r | r
  · exact .inl (Rd.mono h r)
  · exact .inr r
theorem SqT.mono {K : PySem.W.Frag} {F F' : Hp} (h : Sub F F') {a : Addr} {xs : List V} (r : SqT K F a xs) : SqT K F' a xs := by
  rcases r with r | r
  · exact .inl (Rd.mono h r)
  · exact .inr r

theorem TupAt.mono {K : PySem.W.Frag} {F F' : Hp} (h : Sub F F') {t : TK} {a : Addr} {xs : List V} (r : TupAt K F t a xs) : TupAt K F' t a xs := by
  cases t with
  | any => exact SqT.mono h r
  | pl => obtain ⟨o, e, q⟩ := r; exact ⟨o, h _ _ e, q⟩
  | ex => exact h _ _ r
/-- what no root owns -/
def notOwn : HO → Bool
  | .lst _ => false
  | .dK _ => false
  | .dT _ => false
  | _ => true
theorem TupAt.less {K : PySem.W.Frag} {F G : Hp} (hG : ∀ a o, notOwn o = true → F a = some o → G a = some o) {t : TK} {a : Addr} {xs : List V} (r : TupAt K F t a xs) : TupAt K G t a xs := by
  cases t with
  | any =>
    rcases r with (r | ⟨o, r⟩) | r
    · exact .inl (.inl (hG _ _ rfl r))
    · exact .inl (.inr ⟨o, hG _ _ rfl r⟩)
    · exact .inr r
  | pl => obtain ⟨o, e, q⟩ := r; exact ⟨o, hG _ _ rfl e, q⟩
  | ex => exact hG _ _ rfl r
section
variable {K : PySem.W.Frag} {mg : Str → Option Value} {ca ca' : List Addr} {F F' H H' : Hp}
mutual
theorem RepD.mono (hs : Sub F F') (hc : Pre ca ca') : ∀ (d : D) (v : V), RepD K mg ca F v d → RepD K mg ca' F' v d
  | .non, _, h => by cases h; exact .non
  | .bl b, _, h => by cases h; exact .bl b
  | .int b, _, h => by cases h; exact .int b
  | .str b, _, h => by cases h with | str _ l o => exact .str b l o
  | .tup _ xs, _, h => by cases h with | tup a l r => exact .tup (TupAt.mono hs a) l (RepDs.mono hs hc xs _ r)
  | .lst xs, _, h => by cases h with | lst a l r => exact .lst (hs _ _ a) l (RepDs.mono hs hc xs _ r)
  | .rlst xs, _, h => by cases h with | rlst a l r => exact .rlst (SqL.mono hs a) l (RepDs.mono hs hc xs _ r)
  | .dct .K kvs, _, h => by cases h with | dK a l r => exact .dK (Rd.mono hs a) l (RepKs.mono hs hc kvs _ r)
  | .dct .T kvs, _, h => by cases h with | dT a l r => exact .dT (Rd.mono hs a) l (RepQs.mono hs hc kvs _ r)
  | .fn x, _, h => by cases h with | fn e => exact .fn e
  | .ty n, _, h => by cases h; exact .ty n
  | .cell i, _, h => by cases h with | cell e => exact .cell (hc.get e)
  | .rep p, _, h => by cases h; exact .rep p
theorem RepDs.mono (hs : Sub F F') (hc : Pre ca ca') : ∀ (ds : List D) (vs : List V), RepDs K mg ca F vs ds → RepDs K mg ca' F' vs ds
  | [], _, h => by cases h; exact .nil
  | d :: ds, _, h => by cases h with | cons h1 h2 => exact .cons (RepD.mono hs hc d _ h1) (RepDs.mono hs hc ds _ h2)
theorem RepKs.mono (hs : Sub F F') (hc : Pre ca ca') : ∀ (ds : List (D × D)) (vs : List (Key × V)), RepKs K mg ca F vs ds → RepKs K mg ca' F' vs ds
  | [], _, h => by cases h; exact .nil
  | (k, d) :: ds, _, h => by cases h with | cons h1 h2 => exact .cons (RepD.mono hs hc d _ h1) (RepKs.mono hs hc ds _ h2)
theorem RepQs.mono (hs : Sub F F') (hc : Pre ca ca') : ∀ (ds : List (D × D)) (vs : List (List Key × V)), RepQs K mg ca F vs ds → RepQs K mg ca' F' vs ds
  | [], _, h => by cases h; exact .nil
  | (k, d) :: ds, _, h => by cases h with | cons h1 h2 => exact .cons (RepD.mono hs hc d _ h1) (RepQs.mono hs hc ds _ h2)
end
mutual
theorem RepT.keep (hs : Sub F F') (hc : Pre ca ca') : ∀ (t : T) (v : V) (w : List Addr), RepT K mg ca F H v t w → (∀ a ∈ w, F' a = none) → (∀ a ∈ w, ∀ o, H a = some o → H' a = some o) → RepT K mg ca' F' H' v t w
  | .sh d, _, _, h, _, _ => by cases h with | sh h => exact .sh (RepD.mono hs hc d _ h)
  | .lst xs, _, _, h, hf, hh => by
    cases h with
    | lst a f l r => exact .lst (hh _ List.mem_cons_self _ a) (hf _ List.mem_cons_self) l (RepTs.keep hs hc xs _ _ r (fun a z => hf a (List.mem_cons_of_mem _ z)) fun a z => hh a (List.mem_cons_of_mem _ z))
  | .dct .K xs, _, _, h, hf, hh => by
    cases h with
    | dK a f l r => exact .dK (hh _ List.mem_cons_self _ a) (hf _ List.mem_cons_self) l (RepTk.keep hs hc xs _ _ r (fun a z => hf a (List.mem_cons_of_mem _ z)) fun a z => hh a (List.mem_cons_of_mem _ z))
  | .dct .T xs, _, _, h, hf, hh => by
    cases h with
    | dT a f l r => exact .dT (hh _ List.mem_cons_self _ a) (hf _ List.mem_cons_self) l (RepTq.keep hs hc xs _ _ r (fun a z => hf a (List.mem_cons_of_mem _ z)) fun a z => hh a (List.mem_cons_of_mem _ z))
theorem RepTs.keep (hs : Sub F F') (hc : Pre ca ca') : ∀ (ts : List T) (vs : List V) (w : List Addr), RepTs K mg ca F H vs ts w → (∀ a ∈ w, F' a = none) → (∀ a ∈ w, ∀ o, H a = some o → H' a = some o) → RepTs K mg ca' F' H' vs ts w
  | [], _, _, h, _, _ => by cases h; exact .nil
  | t :: ts, _, _, h, hf, hh => by
    cases h with
    | cons h1 h2 => exact .cons (RepT.keep hs hc t _ _ h1 (fun a z => hf a (List.mem_append_left _ z)) fun a z => hh a (List.mem_append_left _ z)) (RepTs.keep hs hc ts _ _ h2 (fun a z => hf a (List.mem_append_right _ z)) fun a z => hh a (List.mem_append_right _ z))
theorem RepTk.keep (hs : Sub F F') (hc : Pre ca ca') : ∀ (ts : List (D × T)) (vs : List (Key × V)) (w : List Addr), RepTk K mg ca F H vs ts w → (∀ a ∈ w, F' a = none) → (∀ a ∈ w, ∀ o, H a = some o → H' a = some o) → RepTk K mg ca' F' H' vs ts w
  | [], _, _, h, _, _ => by cases h; exact .nil
  | (k, t) :: ts, _, _, h, hf, hh => by
    cases h with
    | cons h1 h2 => exact .cons (RepT.keep hs hc t _ _ h1 (fun a z => hf a (List.mem_append_left _ z)) fun a z => hh a (List.mem_append_left _ z)) (RepTk.keep hs hc ts _ _ h2 (fun a z => hf a (List.mem_append_right _ z)) fun a z => hh a (List.mem_append_right _ z))
theorem RepTq.keep (hs : Sub F F') (hc : Pre ca ca') : ∀ (ts : List (D × T)) (vs : List (List Key × V)) (w : List Addr), RepTq K mg ca F H vs ts w → (∀ a ∈ w, F' a = none) → (∀ a ∈ w, ∀ o, H a = some o → H' a = some o) → RepTq K mg ca' F' H' vs ts w
  | [], _, _, h, _, _ => by cases h; exact .nil
  | (k, t) :: ts, _, _, h, hf, hh => by
    cases h with
    | cons h1 h2 => exact .cons (RepT.keep hs hc t _ _ h1 (fun a z => hf a (List.mem_append_left _ z)) fun a z => hh a (List.mem_append_left _ z)) (RepTq.keep hs hc ts _ _ h2 (fun a z => hf a (List.mem_append_right _ z)) fun a z => hh a (List.mem_append_right _ z))
end
mutual
theorem RepT.own : ∀ (t : T) (v : V) (w : List Addr), RepT K mg ca F H v t w → ∀ a ∈ w, F a = none ∧ ∃ o, H a = some o
  | .sh d, _, _, h, a, ha => by cases h; cases ha
  | .lst xs, _, _, h, a, ha => by
    cases h with
    | lst e f l r => rcases List.mem_cons.mp ha with rfl | ha
                     · exact ⟨f, _, e⟩
                     · exact RepTs.own xs _ _ r a ha
  | .dct .K xs, _, _, h, a, ha => by
    cases h with
    | dK e f l r => rcases List.mem_cons.mp ha with rfl | ha
                    · exact ⟨f, _, e⟩
                    · exact RepTk.own xs _ _ r a ha
  | .dct .T xs, _, _, h, a, ha => by
    cases h with
    | dT e f l r => rcases List.mem_cons.mp ha with rfl | ha
                    · exact ⟨f, _, e⟩
                    · exact RepTq.own xs _ _ r a ha
theorem RepTs.own : ∀ (t : List T) (v : List V) (w : List Addr), RepTs K mg ca F H v t w → ∀ a ∈ w, F a = none ∧ ∃ o, H a = some o
  | [], _, _, h, a, ha => by cases h; cases ha
  | t :: ts, _, _, h, a, ha => by
    cases h with
    | cons h1 h2 => rcases List.mem_append.mp ha with ha | ha
                    · exact RepT.own t _ _ h1 a ha
                    · exact RepTs.own ts _ _ h2 a ha
theorem RepTk.own : ∀ (t : List (D × T)) (v : List (Key × V)) (w : List Addr), RepTk K mg ca F H v t w → ∀ a ∈ w, F a = none ∧ ∃ o, H a = some o
  | [], _, _, h, a, ha => by cases h; cases ha
  | (k, t) :: ts, _, _, h, a, ha => by
    cases h with
    | cons h1 h2 => rcases List.mem_append.mp ha with ha | ha
                    · exact RepT.own t _ _ h1 a ha
                    · exact RepTk.own ts _ _ h2 a ha
theorem RepTq.own : ∀ (t : List (D × T)) (v : List (List Key × V)) (w : List Addr), RepTq K mg ca F H v t w → ∀ a ∈ w, F a = none ∧ ∃ o, H a = some o
  | [], _, _, h, a, ha => by cases h; cases ha
  | (k, t) :: ts, _, _, h, a, ha => by
    cases h with
    | cons h1 h2 => rcases List.mem_append.mp ha with ha | ha
                    · exact RepT.own t _ _ h1 a ha
                    · exact RepTq.own ts _ _ h2 a ha
end
mutual
/-- what is owned, frozen -/
theorem RepT.share (hs : Sub F F') : ∀ (t : T) (v : V) (w : List Addr), RepT K mg ca F H v t w → (∀ a ∈ w, ∀ o, H a = some o → F' a = some o) → RepD K mg ca F' v t.toD
  | .sh d, _, _, h, _ => by cases h with | sh h => exact RepD.mono hs .refl d _ h
  | .lst xs, _, _, h, hh => by
    cases h with
    | lst a f l r => exact .lst (hh _ List.mem_cons_self _ a) l (RepTs.share hs xs _ _ r fun a z => hh a (List.mem_cons_of_mem _ z))
  | .dct .K xs, _, _, h, hh => by
    cases h with
    | dK a f l r => exact .dK (.inl (hh _ List.mem_cons_self _ a)) l (RepTk.share hs xs _ _ r fun a z => hh a (List.mem_cons_of_mem _ z))
  | .dct .T xs, _, _, h, hh => by
    cases h with
    | dT a f l r => exact .dT (.inl (hh _ List.mem_cons_self _ a)) l (RepTq.share hs xs _ _ r fun a z => hh a (List.mem_cons_of_mem _ z))
theorem RepTs.share (hs : Sub F F') : ∀ (ts : List T) (vs : List V) (w : List Addr), RepTs K mg ca F H vs ts w → (∀ a ∈ w, ∀ o, H a = some o → F' a = some o) → RepDs K mg ca F' vs (T.toDs ts)
  | [], _, _, h, _ => by cases h; exact .nil
  | t :: ts, _, _, h, hh => by
    cases h with
    | cons h1 h2 => exact .cons (RepT.share hs t _ _ h1 fun a z => hh a (List.mem_append_left _ z)) (RepTs.share hs ts _ _ h2 fun a z => hh a (List.mem_append_right _ z))
theorem RepTk.share (hs : Sub F F') : ∀ (ts : List (D × T)) (vs : List (Key × V)) (w : List Addr), RepTk K mg ca F H vs ts w → (∀ a ∈ w, ∀ o, H a = some o → F' a = some o) → RepKs K mg ca F' vs (T.toKs ts)
  | [], _, _, h, _ => by cases h; exact .nil
  | (k, t) :: ts, _, _, h, hh => by
    cases h with
    | cons h1 h2 => exact .cons (RepT.share hs t _ _ h1 fun a z => hh a (List.mem_append_left _ z)) (RepTk.share hs ts _ _ h2 fun a z => hh a (List.mem_append_right _ z))
theorem RepTq.share (hs : Sub F F') : ∀ (ts : List (D × T)) (vs : List (List Key × V)) (w : List Addr), RepTq K mg ca F H vs ts w → (∀ a ∈ w, ∀ o, H a = some o → F' a = some o) → RepQs K mg ca F' vs (T.toKs ts)
  | [], _, _, h, _ => by cases h; exact .nil
  | (k, t) :: ts, _, _, h, hh => by
    cases h with
    | cons h1 h2 => exact .cons (RepT.share hs t _ _ h1 fun a z => hh a (List.mem_append_left _ z)) (RepTq.share hs ts _ _ h2 fun a z => hh a (List.mem_append_right _ z))
end
/-- F less W -/
def less (F : Hp) (W : Addr → Prop) [DecidablePred W] : Hp := fun a => if W a then none else F a
mutual
/-- flat data leans on tuples alone -/
theorem RepD.less {G : Hp} (hG : ∀ a o, notOwn o = true → F a = some o → G a = some o) : ∀ (d : D) (v : V), d.flat = true → RepD K mg ca F v d → RepD K mg ca G v d
  | .non, _, _, h => by cases h; exact .non
  | .bl b, _, _, h => by cases h; exact .bl b
  | .int b, _, _, h => by cases h; exact .int b
  | .str b, _, _, h => by cases h with | str _ l o => exact .str b l o
  | .tup _ xs, _, f, h => by
    cases h with
    | tup a l r => exact .tup (TupAt.less hG a) l (RepDs.less hG xs _ (by simpa [D.flat] using f) r)
  | .lst xs, _, f, h => by simp [D.flat] at f
  | .rlst xs, _, f, h => by simp [D.flat] at f
  | .dct _ kvs, _, f, h => by simp [D.flat] at f
  | .fn x, _, _, h => by cases h with | fn e => exact .fn e
  | .ty n, _, _, h => by cases h; exact .ty n
  | .cell i, _, _, h => by cases h with | cell e => exact .cell e
  | .rep p, _, _, h => by cases h; exact .rep p
theorem RepDs.less {G : Hp} (hG : ∀ a o, notOwn o = true → F a = some o → G a = some o) : ∀ (ds : List D) (vs : List V), D.flats ds = true → RepDs K mg ca F vs ds → RepDs K mg ca G vs ds
  | [], _, _, h => by cases h; exact .nil
  | d :: ds, _, f, h => by
    cases h with
    | cons h1 h2 =>
      simp only [D.flats, Bool.and_eq_true] at f
      exact .cons (RepD.less hG d _ f.1 h1) (RepDs.less hG ds _ f.2 h2)
end
theorem RepDs.length : ∀ {ds : List D} {vs : List V}, RepDs K mg ca F vs ds → vs.length = ds.length
  | [], _, h => by cases h; rfl
  | d :: ds, _, h => by cases h with | cons h1 h2 => simp [RepDs.length h2]
theorem RepDs.get : ∀ {ds : List D} {vs : List V} {i : Nat} {d : D}, RepDs K mg ca F vs ds → ds[i]? = some d → ∃ v, vs[i]? = some v ∧ RepD K mg ca F v d
  | [], _, _, _, h, e => by simp at e
  | d :: ds, _, 0, _, h, e => by
    cases h with
    | cons h1 h2 => simp at e; subst e; exact ⟨_, rfl, h1⟩
  | d :: ds, _, i + 1, _, h, e => by
    cases h with
    | cons h1 h2 =>
      obtain ⟨v, e1, r⟩ := RepDs.get (i := i) h2 (by simpa using e)
      exact ⟨v, by simpa using e1, r⟩
theorem RepDs.getV : ∀ {ds : List D} {vs : List V} {i : Nat} {v : V}, RepDs K mg ca F vs ds → vs[i]? = some v → ∃ d, ds[i]? = some d ∧ RepD K mg ca F v d
  | [], _, _, _, h, e => by cases h; simp at e
  | d :: ds, _, 0, _, h, e => by
    cases h with
    | cons h1 h2 => simp at e; subst e; exact ⟨_, rfl, h1⟩
  | d :: ds, _, i + 1, _, h, e => by
    cases h with
    | cons h1 h2 =>
      obtain ⟨v, e1, r⟩ := RepDs.getV (i := i) h2 (by simpa using e)
      exact ⟨v, by simpa using e1, r⟩
theorem RepDs.append : ∀ {ds es : List D} {vs us : List V}, RepDs K mg ca F vs ds → RepDs K mg ca F us es → RepDs K mg ca F (vs ++ us) (ds ++ es)
  | [], _, _, _, h, h' => by cases h; exact h'
  | d :: ds, _, _, _, h, h' => by cases h with | cons h1 h2 => exact .cons h1 (RepDs.append h2 h')
theorem RepDs.take : ∀ {ds : List D} {vs : List V} (n : Nat), RepDs K mg ca F vs ds → RepDs K mg ca F (vs.take n) (ds.take n)
  | _, _, 0, h => by simp; exact .nil
  | [], _, n + 1, h => by cases h; exact .nil
  | d :: ds, _, n + 1, h => by cases h with | cons h1 h2 => exact .cons h1 (RepDs.take n h2)
theorem RepDs.drop : ∀ {ds : List D} {vs : List V} (n : Nat), RepDs K mg ca F vs ds → RepDs K mg ca F (vs.drop n) (ds.drop n)
  | _, _, 0, h => h
  | [], _, n + 1, h => by cases h; exact .nil
  | d :: ds, _, n + 1, h => by cases h with | cons h1 h2 => exact RepDs.drop n h2
theorem RepTs.length : ∀ {ts : List T} {vs : List V} {w : List Addr}, RepTs K mg ca F H vs ts w → vs.length = ts.length
  | [], _, _, h => by cases h; rfl
  | d :: ds, _, _, h => by cases h with | cons h1 h2 => simp [RepTs.length h2]
theorem RepTs.sh : ∀ {ds : List D} {vs : List V}, RepDs K mg ca F vs ds → RepTs K mg ca F H vs (ds.map T.sh) []
  | [], _, h => by cases h; exact .nil
  | d :: ds, _, h => by cases h with | cons h1 h2 => exact RepTs.cons (w := []) (.sh h1) (RepTs.sh h2)
end
theorem toDs_map (ds : List D) : T.toDs (ds.map T.sh) = ds := by
  induction ds with
  | nil => rfl
  | cons d ds ih => simp [T.toDs, T.toD, ih]
theorem toDs_eq (ts : List T) : T.toDs ts = ts.map T.toD := by
  induction ts with
  | nil => rfl
  | cons d ds ih => simp [T.toDs, ih]
end PD
end
section
set_option Elab.async false
set_option linter.all false
set_option maxRecDepth 100000
namespace PD
open PySem L2 PyProof.Rows
set_option autoImplicit false
abbrev St := L2.St

inductive Root where | slot (i : Nat) | cell (i : Nat)
  deriving DecidableEq
abbrev Fp := Root → List Addr
abbrev Env := List (Option T)
abbrev CS := List T
def isOwn : HO → Bool
  | .lst _ => true
  | .dK _ => true
  | .dT _ => true
  | _ => false

section
variable {K : PySem.W.Frag} {mg : Str → Option Value} {ca ca' : List Addr} {F F' H H' : Hp}
mutual
theorem RepT.owns : ∀ (t : T) (v : V) (w : List Addr), RepT K mg ca F H v t w → ∀ a ∈ w, F a = none ∧ ∃ o, H a = some o ∧ isOwn o = true
  | .sh d, _, _, h, a, ha => by cases h; cases ha
  | .lst xs, _, _, h, a, ha => by
    cases h with
    | lst e f l r => rcases List.mem_cons.mp ha with rfl | ha
                     · exact ⟨f, _, e, rfl⟩
                     · exact RepTs.owns xs _ _ r a ha
  | .dct .K xs, _, _, h, a, ha => by
    cases h with
    | dK e f l r => rcases List.mem_cons.mp ha with rfl | ha
                    · exact ⟨f, _, e, rfl⟩
                    · exact RepTk.owns xs _ _ r a ha
  | .dct .T xs, _, _, h, a, ha => by
    cases h with
    | dT e f l r => rcases List.mem_cons.mp ha with rfl | ha
                    · exact ⟨f, _, e, rfl⟩
                    · exact RepTq.owns xs _ _ r a ha
theorem RepTs.owns : ∀ (t : List T) (v : List V) (w : List Addr), RepTs K mg ca F H v t w → ∀ a ∈ w, F a = none ∧ ∃ o, H a = some o ∧ isOwn o = true
  | [], _, _, h, a, ha => by cases h; cases ha
  | t :: ts, _, _, h, a, ha => by
    cases h with
    | cons h1 h2 => rcases List.mem_append.mp ha with ha | ha
                    · exact RepT.owns t _ _ h1 a ha
                    · exact RepTs.owns ts _ _ h2 a ha
theorem RepTk.owns : ∀ (t : List (D × T)) (v : List (Key × V)) (w : List Addr), RepTk K mg ca F H v t w → ∀ a ∈ w, F a = none ∧ ∃ o, H a = some o ∧ isOwn o = true
  | [], _, _, h, a, ha => by cases h; cases ha
  | (k, t) :: ts, _, _, h, a, ha => by
    cases h with
    | cons h1 h2 => rcases List.mem_append.mp ha with ha | ha
                    · exact RepT.owns t _ _ h1 a ha
                    · exact RepTk.owns ts _ _ h2 a ha
theorem RepTq.owns : ∀ (t : List (D × T)) (v : List (List Key × V)) (w : List Addr), RepTq K mg ca F H v t w → ∀ a ∈ w, F a = none ∧ ∃ o, H a = some o ∧ isOwn o = true
  | [], _, _, h, a, ha => by cases h; cases ha
  | (k, t) :: ts, _, _, h, a, ha => by
    cases h with
    | cons h1 h2 => rcases List.mem_append.mp ha with ha | ha
                    · exact RepT.owns t _ _ h1 a ha
                    · exact RepTq.owns ts _ _ h2 a ha
end
end

/-- the evaluator's state stands for the real one -/
structure Sim (K : PySem.W.Frag) (mg : Str → Option Value) (ca : List Addr) (F H : Hp) (σ : St) (env : Env) (cs : CS) (fp : Fp) : Prop where
  sub : Sub F H
  le : env.length ≤ σ.length
  slot : ∀ i t, env[i]? = some (some t) → ∃ v, σ[i]? = some (some v) ∧ RepT K mg ca F H v t (fp (.slot i))
  len : ca.length = cs.length
  cell : ∀ i t, cs[i]? = some t → ∃ a, ca[i]? = some a ∧ RepT K mg ca F H (.ref a) t (fp (.cell i)) ∧ ∀ d, t ≠ .sh d
  nd : ∀ r, (fp r).Nodup
  dj : ∀ r r', r ≠ r' → ∀ a ∈ fp r, a ∉ fp r'
  own : ∀ r, ∀ a ∈ fp r, F a = none ∧ ∃ o, H a = some o ∧ isOwn o = true

structure Step (M : Root → Prop) (ca : List Addr) (F H : Hp) (fp : Fp) (ca' : List Addr) (F' H' : Hp) (fp' : Fp) : Prop where
  pre : Pre ca ca'
  ff : Sub F F'
  nf : ∀ a o, F' a = some o → F a = some o ∨ H a = none ∨ ∃ r, a ∈ fp r
  ext : ∀ a o, H a = some o → (∀ r, M r → a ∉ fp r) → H' a = some o
  sub : ∀ r a, a ∈ fp' r → a ∈ fp r ∨ H a = none
  alive : ∀ a o, H a = some o → ∃ o', H' a = some o'
def MC : Root → Prop
  | .cell _ => True
  | .slot _ => False
def MA : Root → Prop := fun _ => True

section
variable {K : PySem.W.Frag} {mg : Str → Option Value} {M : Root → Prop} {ca ca' ca'' : List Addr} {F F' F'' H H' H'' : Hp} {fp fp' fp'' : Fp} {σ σ' : St} {env env' : Env} {cs cs' : CS}
theorem Step.refl : Step M ca F H fp ca F H fp := ⟨.refl, .refl, fun _ _ h => .inl h, fun _ _ h _ => h, fun _ _ h => .inl h, fun _ o h => ⟨o, h⟩⟩
theorem Step.trans (s : Step M ca F H fp ca' F' H' fp') (t : Step M ca' F' H' fp' ca'' F'' H'' fp'') : Step M ca F H fp ca'' F'' H'' fp'' where
  pre := s.pre.trans t.pre
  ff := s.ff.trans t.ff
  nf := fun a o h => by
    have hn : H' a = none → H a = none := fun e => by
      cases q : H a with
      | none => rfl
      | some o => obtain ⟨o', e'⟩ := s.alive a o q; rw [e] at e'; cases e'
    rcases t.nf a o h with h | h | ⟨r, h⟩
    · exact s.nf a o h
    · exact .inr (.inl (hn h))
    · rcases s.sub r a h with h | h
      · exact .inr (.inr ⟨r, h⟩)
      · exact .inr (.inl h)
  ext := fun a o h hm => t.ext a o (s.ext a o h hm) fun r hr z => by
    rcases s.sub r a z with z | z
    · exact hm r hr z
    · rw [h] at z; cases z
  sub := fun r a h => by
    rcases t.sub r a h with h | h
    · exact s.sub r a h
    · right
      cases q : H a with
      | none => rfl
      | some o => obtain ⟨o', e'⟩ := s.alive a o q; rw [h] at e'; cases e'
  alive := fun a o h => by
    obtain ⟨o', h'⟩ := s.alive a o h
    exact t.alive a o' h'
theorem Step.all (s : Step MC ca F H fp ca' F' H' fp') : Step MA ca F H fp ca' F' H' fp' :=
  ⟨s.pre, s.ff, s.nf, fun a o h hm => s.ext a o h fun r _ => hm r trivial, s.sub, s.alive⟩
theorem Step.noneOf (s : Step M ca F H fp ca' F' H' fp') {a : Addr} (h : H' a = none) : H a = none := by
  cases q : H a with
  | none => rfl
  | some o => obtain ⟨o', e'⟩ := s.alive a o q; rw [h] at e'; cases e'

/-- a fresh thing, still fresh behind a step -/
theorem Step.temp (s : Step M ca F H fp ca' F' H' fp') {v : V} {t : T} {w : List Addr} (r : RepT K mg ca F H v t w) (hw : ∀ r, ∀ a ∈ w, a ∉ fp r) :
    RepT K mg ca' F' H' v t w ∧ ∀ r, ∀ a ∈ w, a ∉ fp' r := by
  have ow := RepT.own t v w r
  refine ⟨RepT.keep s.ff s.pre t v w r (fun a ha => ?_) fun a ha o e => s.ext a o e fun r _ => hw r a ha, fun r a ha z => ?_⟩
  · cases q : F' a with
    | none => rfl
    | some o =>
      rcases s.nf a o q with h | h | ⟨r, h⟩
      · rw [(ow a ha).1] at h; cases h
      · obtain ⟨_, o, e⟩ := ow a ha; rw [h] at e; cases e
      · exact absurd h (hw r a ha)
  · rcases s.sub r a z with z | z
    · exact hw r a ha z
    · obtain ⟨_, o, e⟩ := ow a ha; rw [z] at e; cases e
theorem Step.temps (s : Step M ca F H fp ca' F' H' fp') {v : List V} {t : List T} {w : List Addr} (r : RepTs K mg ca F H v t w) (hw : ∀ r, ∀ a ∈ w, a ∉ fp r) :
    RepTs K mg ca' F' H' v t w ∧ ∀ r, ∀ a ∈ w, a ∉ fp' r := by
  have ow := RepTs.own t v w r
  refine ⟨RepTs.keep s.ff s.pre t v w r (fun a ha => ?_) fun a ha o e => s.ext a o e fun r _ => hw r a ha, fun r a ha z => ?_⟩
  · cases q : F' a with
    | none => rfl
    | some o =>
      rcases s.nf a o q with h | h | ⟨r, h⟩
      · rw [(ow a ha).1] at h; cases h
      · obtain ⟨_, o, e⟩ := ow a ha; rw [h] at e; cases e
      · exact absurd h (hw r a ha)
  · rcases s.sub r a z with z | z
    · exact hw r a ha z
    · obtain ⟨_, o, e⟩ := ow a ha; rw [z] at e; cases e

/-- F with w frozen as it stands in H -/
def freeze (F H : Hp) (w : List Addr) : Hp := fun a => if a ∈ w then H a else F a
theorem freeze_sub {w : List Addr} (h : ∀ a ∈ w, F a = none) : Sub F (freeze F H w) := fun a o e => by
  unfold freeze
  rw [if_neg]
  · exact e
  · intro z; rw [h a z] at e; cases e
theorem freeze_in {w : List Addr} {a : Addr} (h : a ∈ w) : freeze F H w a = H a := if_pos h
theorem freeze_out {w : List Addr} {a : Addr} (h : a ∉ w) : freeze F H w a = F a := if_neg h
theorem freeze_le {w : List Addr} (h : Sub F H) : Sub (freeze F H w) H := fun a o e => by
  unfold freeze at e
  split at e
  · exact e
  · exact h a o e
theorem Sim.freeze {w : List Addr} (S : Sim K mg ca F H σ env cs fp) (hw : ∀ r, ∀ a ∈ w, a ∉ fp r) (hF : ∀ a ∈ w, F a = none) : Sim K mg ca (freeze F H w) H σ env cs fp where
  sub := freeze_le S.sub
  le := S.le
  slot := fun i t e => by
    obtain ⟨v, e1, r⟩ := S.slot i t e
    exact ⟨v, e1, RepT.keep (freeze_sub hF) .refl t v _ r (fun a ha => by rw [freeze_out fun z => hw _ a z ha]; exact (S.own _ a ha).1) fun _ _ _ h => h⟩
  len := S.len
  cell := fun i t e => by
    obtain ⟨a, e1, r, n⟩ := S.cell i t e
    exact ⟨a, e1, RepT.keep (freeze_sub hF) .refl t _ _ r (fun a ha => by rw [freeze_out fun z => hw _ a z ha]; exact (S.own _ a ha).1) fun _ _ _ h => h, n⟩
  nd := S.nd
  dj := S.dj
  own := fun r a ha => ⟨by rw [freeze_out fun z => hw _ a z ha]; exact (S.own _ a ha).1, (S.own _ a ha).2⟩
theorem Step.freezes {w : List Addr} (s : Step M ca F H fp ca' F' H' fp') (hw : ∀ a ∈ w, H a = none) (hF : ∀ a ∈ w, F' a = none) : Step M ca F H fp ca' (PD.freeze F' H' w) H' fp' where
  pre := s.pre
  ff := s.ff.trans (freeze_sub hF)
  nf := fun a o e => by
    by_cases ha : a ∈ w
    · exact .inr (.inl (hw a ha))
    · rw [freeze_out ha] at e; exact s.nf a o e
  ext := s.ext
  sub := s.sub
  alive := s.alive
end

/-! ### what the evaluator's pieces are -/
abbrev Ev := Env → CS → Option (T × Env × CS)
abbrev Tv := Env → CS → Option (Bool × Env × CS)
abbrev Av := Env → CS → Option (List T × Env × CS)
abbrev Iv := Env → CS → Option (List D × Env × CS)
inductive Out where | nx | rt (t : T) | bk | ct
abbrev Sv := Env → CS → Option (Out × Env × CS)
abbrev Fn := List D → CS → Option (T × CS)

section
variable (K : PySem.W.Frag) (mg : Str → Option Value)
def Kont (ca : List Addr) (F H : Hp) (fp : Fp) (σ : St) (t : T) (env' : Env) (cs' : CS) (Q : VK) : Prop :=
  ∀ (v : V) (ca' : List Addr) (F' H' : Hp) (fp' : Fp) (w : List Addr), Step MC ca F H fp ca' F' H' fp' → Sim K mg ca' F' H' σ env' cs' fp' → RepT K mg ca' F' H' v t w → w.Nodup →
    (∀ a ∈ w, H a = none) → (∀ r, ∀ a ∈ w, a ∉ fp' r) → Q v H'
def KontD (ca : List Addr) (F H : Hp) (fp : Fp) (σ : St) (d : D) (env' : Env) (cs' : CS) (Q : VK) : Prop :=
  ∀ (v : V) (ca' : List Addr) (F' H' : Hp) (fp' : Fp), Step MC ca F H fp ca' F' H' fp' → Sim K mg ca' F' H' σ env' cs' fp' → RepD K mg ca' F' v d → Q v H'
def KontA (ca : List Addr) (F H : Hp) (fp : Fp) (σ : St) (ts : List T) (env' : Env) (cs' : CS) (Q : List V → Hp → Prop) : Prop :=
  ∀ (vs : List V) (ca' : List Addr) (F' H' : Hp) (fp' : Fp) (w : List Addr), Step MC ca F H fp ca' F' H' fp' → Sim K mg ca' F' H' σ env' cs' fp' → RepTs K mg ca' F' H' vs ts w → w.Nodup →
    (∀ a ∈ w, H a = none) → (∀ r, ∀ a ∈ w, a ∉ fp' r) → Q vs H'
def KontB (ca : List Addr) (F H : Hp) (fp : Fp) (σ : St) (b : Bool) (env' : Env) (cs' : CS) (Q : Bool → Hp → Prop) : Prop :=
  ∀ (ca' : List Addr) (F' H' : Hp) (fp' : Fp), Step MC ca F H fp ca' F' H' fp' → Sim K mg ca' F' H' σ env' cs' fp' → Q b H'
def SndE (te : TE) (ev : Ev) : Prop :=
  ∀ ca F H σ env cs fp t env' cs' Q, Sim K mg ca F H σ env cs fp → ev env cs = some (t, env', cs') → Kont K mg ca F H fp σ t env' cs' Q → te σ H Q
def SndT (tt : TT) (tv : Tv) : Prop :=
  ∀ ca F H σ env cs fp b env' cs' Q, Sim K mg ca F H σ env cs fp → tv env cs = some (b, env', cs') → KontB K mg ca F H fp σ b env' cs' Q → tt σ H Q
def SndA (ta : TA) (av : Av) : Prop :=
  ∀ ca F H σ env cs fp ts env' cs' Q, Sim K mg ca F H σ env cs fp → av env cs = some (ts, env', cs') → KontA K mg ca F H fp σ ts env' cs' Q → ta σ H Q
/-- what an iterator yields is what is told -/
def ItY (ca : List Addr) (F G : Hp) (d : D) (x : V) (G' : Hp) : Prop :=
  (G' = G ∧ RepD K mg ca F x d) ∨ ∃ p vs, G p = none ∧ G' = upd G p (.tup vs) ∧ RepD K mg ca (upd F p (.tup vs)) x d
def ItOk (ca : List Addr) (F : Hp) (J : It) (ds : List D) : Prop :=
  ∀ (i : Nat) (G : Hp), Sub F G → (∀ d, ds[i]? = some d → J.go i G ∧ ∀ x G', J.yld i G x G' → ItY K mg ca F G d x G') ∧ (ds.length ≤ i → J.stop i G)
def SndI (wi : TI) (iv : Iv) : Prop :=
  ∀ ca F H σ env cs fp ds env' cs' R, Sim K mg ca F H σ env cs fp → iv env cs = some (ds, env', cs') →
    (∀ (ca' : List Addr) (F' H' : Hp) (fp' : Fp) (J : It), Step MC ca F H fp ca' F' H' fp' → Sim K mg ca' F' H' σ env' cs' fp' → ItOk K mg ca' F' J ds → ds.length ≤ sizeLine → R J H') → wi σ H R
/-- a target: vs the slots that it may store -/
def SndG (g : TG) (vs : List Nat) (tg : T → Env → Option Env) : Prop :=
  ∀ ca F H σ env cs fp v t w env' Q, Sim K mg ca F H σ env cs fp → RepT K mg ca F H v t w → w.Nodup → (∀ r, ∀ a ∈ w, a ∉ fp r) → tg t env = some env' →
    (∀ (σ' : St) (fp' : Fp), Sim K mg ca F H σ' env' cs fp' → (∀ r a, a ∈ fp' r → a ∈ fp r ∨ a ∈ w) → σ'.length = σ.length → (∀ i, i ∉ vs → σ'[i]? = σ[i]?) → Q σ' H) → g v σ H Q
def KS (ca : List Addr) (F H : Hp) (fp : Fp) (o : Out) (env' : Env) (cs' : CS) (D : Ends) : Prop :=
  match o with
  | .nx => ∀ (σ' : St) (ca' : List Addr) (F' H' : Hp) (fp' : Fp), Step MA ca F H fp ca' F' H' fp' → Sim K mg ca' F' H' σ' env' cs' fp' → D.nx σ' H'
  | .bk => ∀ (σ' : St) (ca' : List Addr) (F' H' : Hp) (fp' : Fp), Step MA ca F H fp ca' F' H' fp' → Sim K mg ca' F' H' σ' env' cs' fp' → D.bk σ' H'
  | .ct => ∀ (σ' : St) (ca' : List Addr) (F' H' : Hp) (fp' : Fp), Step MA ca F H fp ca' F' H' fp' → Sim K mg ca' F' H' σ' env' cs' fp' → D.ct σ' H'
  | .rt t => ∀ (v : V) (σ' : St) (ca' : List Addr) (F' H' : Hp) (fp' : Fp) (w : List Addr), Step MA ca F H fp ca' F' H' fp' → Sim K mg ca' F' H' σ' env' cs' fp' → RepT K mg ca' F' H' v t w → w.Nodup →
      (∀ a ∈ w, H a = none ∨ ∃ i, a ∈ fp (.slot i)) → (∀ r, ∀ a ∈ w, a ∉ fp' r) → D.rt v H'
def SndS (ts : TS) (sv : Sv) : Prop :=
  ∀ ca F H σ env cs fp o env' cs' D, Sim K mg ca F H σ env cs fp → sv env cs = some (o, env', cs') → KS K mg ca F H fp o env' cs' D → ts D σ H
end
structure EE (X : Cx) (e : Expr) (te : TE) (ev : Ev) : Prop where
  pe : PE X e te
  snd : SndE X.K X.mg te ev
structure ET (X : Cx) (e : Expr) (tt : TT) (tv : Tv) : Prop where
  pt : PT X e tt
  snd : SndT X.K X.mg tt tv
structure EA (X : Cx) (es : List Expr) (ta : TA) (av : Av) : Prop where
  pa : PA X es ta
  snd : SndA X.K X.mg ta av
  len : ∀ env cs ts env' cs', av env cs = some (ts, env', cs') → ts.length = es.length
structure EI (X : Cx) (tg iter : Expr) (wi : TI) (iv : Iv) : Prop where
  pi : PI X tg iter wi
  snd : SndI X.K X.mg wi iv
structure EG (X : Cx) (target : Expr) (g : TG) (vs : List Nat) (tg : T → Env → Option Env) : Prop where
  pg : PG X target g
  snd : SndG X.K X.mg g vs tg
structure ES (X : Cx) (st : Stmt) (ts : TS) (sv : Sv) : Prop where
  ps : PS X st ts
  snd : SndS X.K X.mg ts sv
structure ESs (X : Cx) (st : List Stmt) (ts : TS) (sv : Sv) : Prop where
  ps : PSs X st ts
  snd : SndS X.K X.mg ts sv

section
variable {K : PySem.W.Frag} {mg : Str → Option Value} {M : Root → Prop} {ca ca' ca'' : List Addr} {F F' F'' H H' H'' : Hp} {fp fp' fp'' : Fp} {σ σ' : St} {env env' : Env} {cs cs' : CS} {t : T}
theorem SndE.data {te : TE} {ev : Ev} (s : SndE K mg te ev) (S : Sim K mg ca F H σ env cs fp) (h : ev env cs = some (t, env', cs')) {Q : VK} (k : KontD K mg ca F H fp σ t.toD env' cs' Q) : te σ H Q :=
  s _ _ _ _ _ _ _ _ _ _ _ S h fun v ca' F' H' fp' w st S' r nd fr dj => by
    have ow := RepT.own t v w r
    exact k v ca' (freeze F' H' w) H' fp' (st.freezes fr fun a ha => (ow a ha).1) (S'.freeze dj fun a ha => (ow a ha).1)
      (RepT.share (freeze_sub fun a ha => (ow a ha).1) t v w r fun a ha o e => by rw [freeze_in ha]; exact e)
theorem SndA.data {ts : List T} {ta : TA} {av : Av} (s : SndA K mg ta av) (S : Sim K mg ca F H σ env cs fp) (h : av env cs = some (ts, env', cs')) {Q : List V → Hp → Prop}
    (k : ∀ (vs : List V) (ca' : List Addr) (F' H' : Hp) (fp' : Fp), Step MC ca F H fp ca' F' H' fp' → Sim K mg ca' F' H' σ env' cs' fp' → RepDs K mg ca' F' vs (T.toDs ts) → Q vs H') : ta σ H Q :=
  s _ _ _ _ _ _ _ _ _ _ _ S h fun v ca' F' H' fp' w st S' r nd fr dj => by
    have ow := RepTs.own ts v w r
    exact k v ca' (freeze F' H' w) H' fp' (st.freezes fr fun a ha => (ow a ha).1) (S'.freeze dj fun a ha => (ow a ha).1)
      (RepTs.share (freeze_sub fun a ha => (ow a ha).1) ts v w r fun a ha o e => by rw [freeze_in ha]; exact e)

/-! ### the heap grows -/
structure Grow (F H F' H' : Hp) : Prop where
  ff : Sub F F'
  hh : Sub H H'
  fh : Sub F' H'
  nf : ∀ a o, F' a = some o → F a = some o ∨ H a = none
theorem Grow.refl (h : Sub F H) : Grow F H F H := ⟨.refl, .refl, h, fun _ _ e => .inl e⟩
theorem Grow.step (g : Grow F H F' H') : Step M ca F H fp ca F' H' fp :=
  ⟨.refl, g.ff, fun a o e => (g.nf a o e).elim .inl fun z => .inr (.inl z), fun a o e _ => g.hh a o e, fun _ _ z => .inl z, fun a o e => ⟨o, g.hh a o e⟩⟩
theorem Sim.grow (S : Sim K mg ca F H σ env cs fp) (g : Grow F H F' H') : Sim K mg ca F' H' σ env cs fp := by
  have no : ∀ r, ∀ a ∈ fp r, F' a = none := fun r a ha => by
    obtain ⟨f, o, e, _⟩ := S.own r a ha
    cases q : F' a with
    | none => rfl
    | some o =>
      rcases g.nf a o q with z | z
      · rw [f] at z; cases z
      · rw [e] at z; cases z
  refine ⟨g.fh, S.le, fun i t e => ?_, S.len, fun i t e => ?_, S.nd, S.dj, fun r a ha => ?_⟩
  · obtain ⟨v, e1, r⟩ := S.slot i t e
    exact ⟨v, e1, RepT.keep g.ff .refl t v _ r (no _) fun a _ o e => g.hh a o e⟩
  · obtain ⟨a, e1, r, n⟩ := S.cell i t e
    exact ⟨a, e1, RepT.keep g.ff .refl t _ _ r (no _) fun a _ o e => g.hh a o e, n⟩
  · obtain ⟨f, o, e, p⟩ := S.own r a ha
    exact ⟨no r a ha, o, g.hh a o e, p⟩
/-- an owned new object -/
theorem Grow.laid {p : Addr} {o : HO} (h : Sub F H) (hp : H p = none) : Grow F H F (upd H p o) := by
  have hh : Sub H (upd H p o) := fun a u e => by rw [upd_ne (ne_of_none e hp)]; exact e
  exact ⟨.refl, hh, h.trans hh, fun _ _ e => .inl e⟩
/-- a frozen new object -/
theorem Grow.tup {p : Addr} {o : HO} (h : Sub F H) (hp : H p = none) : Grow F H (upd F p o) (upd H p o) := by
  have hh : Sub H (upd H p o) := fun a u e => by rw [upd_ne (ne_of_none e hp)]; exact e
  have fp' : F p = none := h.none hp
  have ff : Sub F (upd F p o) := fun a u e => by rw [upd_ne (ne_of_none e fp')]; exact e
  refine ⟨ff, hh, fun a u e => ?_, fun a u e => ?_⟩
  · by_cases ha : a = p
    · subst ha; rw [upd_same] at e ⊢; exact e
    · rw [upd_ne ha] at e ⊢; exact h a u e
  · by_cases ha : a = p
    · subst ha; exact .inr hp
    · rw [upd_ne ha] at e; exact .inl e
/-- what follows an operation -/
def OpK (K : PySem.W.Frag) (mg : Str → Option Value) (ca : List Addr) (F H : Hp) (t : T) (Q : VK) : Prop :=
  ∀ (v : V) (F' H' : Hp) (w : List Addr), Grow F H F' H' → RepT K mg ca F' H' v t w → w.Nodup → (∀ a ∈ w, H a = none) → Q v H'
theorem OpK.of {Q : VK} {ca0 : List Addr} {F0 H0 : Hp} {fp0 : Fp} (S : Sim K mg ca F H σ env cs fp) (st : Step MC ca0 F0 H0 fp0 ca F H fp) (k : Kont K mg ca0 F0 H0 fp0 σ t env cs Q) : OpK K mg ca F H t Q := fun v F' H' w g r nd fr =>
  k v ca F' H' fp w (st.trans g.step) (S.grow g) r nd (fun a ha => st.noneOf (fr a ha)) fun r a ha z => by
    obtain ⟨_, o, e, _⟩ := S.own r a z
    rw [fr a ha] at e; cases e
theorem OpK.same {d : D} {v : V} {Q : VK} (h : Sub F H) (k : OpK K mg ca F H (.sh d) Q) (r : RepD K mg ca F v d) : Q v H := k v F H [] (.refl h) (.sh r) List.nodup_nil fun _ z => nomatch z
theorem OpK.newL {ds : List D} {vs : List V} {p : Addr} {Q : VK} (h : Sub F H) (k : OpK K mg ca F H (.lst (ds.map T.sh)) Q) (hp : H p = none) (r : RepDs K mg ca F vs ds) (l : vs.length ≤ sizeLine) : Q (.ref p) (upd H p (.lst vs)) :=
  k (.ref p) F (upd H p (.lst vs)) [p] (.laid h hp) (.lst upd_same (h.none hp) l (RepTs.sh r)) (by simp) fun a ha => by rw [List.mem_singleton.mp ha]; exact hp
theorem OpK.newT {ds : List D} {vs : List V} {p : Addr} {Q : VK} (h : Sub F H) (k : OpK K mg ca F H (.sh (.tup .ex ds)) Q) (hp : H p = none) (r : RepDs K mg ca F vs ds) (l : vs.length ≤ sizeLine) : Q (.ref p) (upd H p (.tup vs)) :=
  k (.ref p) (upd F p (.tup vs)) (upd H p (.tup vs)) [] (.tup h hp) (.sh (.tup (t := .ex) (show TupAt _ _ .ex _ _ from upd_same) l (RepDs.mono (Grow.tup h hp).ff .refl ds vs r))) List.nodup_nil fun _ z => nomatch z
end

/-! ### giving back what was lent -/
def T.cellFlat : T → Bool
  | .lst ts => ts.all T.flat
  | .dct _ kvs => kvs.all fun p => p.2.flat
  | .sh _ => false
def keep (env env' : Env) (t : T) (cs : CS) : Env := if t.flat && cs.all T.cellFlat then env else env'
theorem keep_same (env : Env) (t : T) (cs : CS) : keep env env t cs = env := by unfold keep; split <;> rfl
section
variable {K : PySem.W.Frag} {mg : Str → Option Value} {ca : List Addr} {F G H : Hp}
theorem RepT.lessF (hG : ∀ a o, notOwn o = true → F a = some o → G a = some o) {t : T} {v : V} {w : List Addr} (f : t.flat = true) (h : RepT K mg ca F H v t w) : RepT K mg ca G H v t w := by
  cases t with
  | sh d => cases h with | sh h => exact .sh (RepD.less hG d v f h)
  | lst _ => cases f
  | dct _ _ => cases f
theorem RepTs.lessF (hG : ∀ a o, notOwn o = true → F a = some o → G a = some o) : ∀ {t : List T} {v : List V} {w : List Addr}, t.all T.flat = true → RepTs K mg ca F H v t w → RepTs K mg ca G H v t w
  | [], _, _, _, h => by cases h; exact .nil
  | t :: ts, _, _, f, h => by
    cases h with
    | cons h1 h2 =>
      simp only [List.all_cons, Bool.and_eq_true] at f
      exact .cons (RepT.lessF hG f.1 h1) (RepTs.lessF hG f.2 h2)
theorem RepTk.lessF (hG : ∀ a o, notOwn o = true → F a = some o → G a = some o) : ∀ {t : List (D × T)} {v : List (Key × V)} {w : List Addr}, (t.all fun p => p.2.flat) = true → RepTk K mg ca F H v t w → RepTk K mg ca G H v t w
  | [], _, _, _, h => by cases h; exact .nil
  | (k, t) :: ts, _, _, f, h => by
    cases h with
    | cons h1 h2 =>
      simp only [List.all_cons, Bool.and_eq_true] at f
      exact .cons (RepT.lessF hG f.1 h1) (RepTk.lessF hG f.2 h2)
theorem RepTq.lessF (hG : ∀ a o, notOwn o = true → F a = some o → G a = some o) : ∀ {t : List (D × T)} {v : List (List Key × V)} {w : List Addr}, (t.all fun p => p.2.flat) = true → RepTq K mg ca F H v t w → RepTq K mg ca G H v t w
  | [], _, _, _, h => by cases h; exact .nil
  | (k, t) :: ts, _, _, f, h => by
    cases h with
    | cons h1 h2 =>
      simp only [List.all_cons, Bool.and_eq_true] at f
      exact .cons (RepT.lessF hG f.1 h1) (RepTq.lessF hG f.2 h2)
theorem RepT.lessC (hG : ∀ a o, notOwn o = true → F a = some o → G a = some o) (hn : ∀ a, F a = none → G a = none) {t : T} {v : V} {w : List Addr} (f : t.cellFlat = true) (h : RepT K mg ca F H v t w) : RepT K mg ca G H v t w := by
  cases t with
  | sh d => cases f
  | lst ts => cases h with | lst a b l r => exact .lst a (hn _ b) l (RepTs.lessF hG f r)
  | dct k ts =>
    cases k with
    | K => cases h with | dK a b l r => exact .dK a (hn _ b) l (RepTk.lessF hG f r)
    | T => cases h with | dT a b l r => exact .dT a (hn _ b) l (RepTq.lessF hG f r)
end
section
variable {K : PySem.W.Frag} {mg : Str → Option Value} {M : Root → Prop} {ca ca' : List Addr} {F F' H H' : Hp} {fp fp' : Fp} {σ σ' : St} {env env' : Env} {cs cs' : CS} {t : T}
open Classical in
/-- the slots' own are taken out of what is frozen -/
noncomputable def unlend (fp : Fp) (F' : Hp) : Hp := fun a => if ∃ i, a ∈ fp (.slot i) then none else F' a
def fpBack (fp fp' : Fp) : Fp
  | .slot i => fp (.slot i)
  | .cell i => fp' (.cell i)
theorem unlend_in {a : Addr} {i : Nat} (h : a ∈ fp (.slot i)) : unlend fp F' a = none := if_pos ⟨i, h⟩
theorem unlend_out {a : Addr} (h : ∀ i, a ∉ fp (.slot i)) : unlend fp F' a = F' a := if_neg fun ⟨i, z⟩ => h i z
theorem unlend_le : Sub (unlend fp F') F' := fun a o e => by
  unfold unlend at e
  split at e
  · cases e
  · exact e
theorem Sim.restore (S : Sim K mg ca F H σ env cs fp) (st : Step MC ca F H fp ca' F' H' fp') (S' : Sim K mg ca' F' H' σ' env' cs' fp') (hc : cs'.all T.cellFlat = true) :
    Step MC ca F H fp ca' (unlend fp F') H' (fpBack fp fp') ∧ Sim K mg ca' (unlend fp F') H' σ env cs' (fpBack fp fp') ∧ ∀ a o, notOwn o = true → F' a = some o → unlend fp F' a = some o := by
  have stay : ∀ i, ∀ a ∈ fp (.slot i), ∀ o, H a = some o → H' a = some o := fun i a ha o e => st.ext a o e fun r hr z => by
    cases r with
    | slot j => exact hr
    | cell j => exact S.dj (.slot i) (.cell j) (by simp) a ha z
  have ff : Sub F (unlend fp F') := fun a o e => by
    rw [unlend_out]
    · exact st.ff a o e
    · intro i z
      rw [(S.own _ a z).1] at e; cases e
  have noO : ∀ a o, F' a = some o → isOwn o = false → ∀ i, a ∉ fp (.slot i) := fun a o e ho i z => by
    obtain ⟨_, o', e', p⟩ := S.own _ a z
    have q := stay i a z o' e'
    have q' := S'.sub a o e
    rw [q] at q'; cases q'
    rw [p] at ho; cases ho
  have tups : ∀ a o, notOwn o = true → F' a = some o → unlend fp F' a = some o := fun a o ho r => by
    rw [unlend_out (noO a o r (by cases o <;> first | rfl | cases ho))]
    exact r
  have hn : ∀ a, F' a = none → unlend fp F' a = none := fun a e => unlend_le.none e
  have cellsA : ∀ i, ∀ a ∈ fp' (.cell i), ∀ j, a ∉ fp (.slot j) := fun i a ha j z => by
    rcases st.sub _ a ha with q | q
    · exact S.dj (.cell i) (.slot j) (by simp) a q z
    · obtain ⟨_, o, e, _⟩ := S.own _ a z
      rw [q] at e; cases e
  refine ⟨⟨st.pre, ff, fun a o e => st.nf a o (unlend_le a o e), st.ext, fun r a ha => ?_, st.alive⟩, ⟨unlend_le.trans S'.sub, S.le, fun i t e => ?_, S'.len, fun i t e => ?_, fun r => ?_, fun r r' hr a ha z => ?_, fun r a ha => ?_⟩, tups⟩
  · cases r with
    | slot i => exact .inl ha
    | cell i => exact st.sub _ a ha
  · obtain ⟨v, e1, r⟩ := S.slot i t e
    exact ⟨v, e1, RepT.keep ff st.pre t v _ r (fun a ha => unlend_in ha) (stay i)⟩
  · obtain ⟨a, e1, r, n⟩ := S'.cell i t e
    exact ⟨a, e1, RepT.lessC tups hn (List.all_eq_true.mp hc t (List.mem_of_getElem? e)) r, n⟩
  · cases r with
    | slot i => exact S.nd _
    | cell i => exact S'.nd _
  · cases r with
    | slot i =>
      cases r' with
      | slot j => exact S.dj _ _ hr a ha z
      | cell j => exact cellsA j a z i ha
    | cell i =>
      cases r' with
      | slot j => exact cellsA i a ha j z
      | cell j => exact S'.dj _ _ hr a ha z
  · cases r with
    | slot i =>
      obtain ⟨_, o, e, p⟩ := S.own _ a ha
      exact ⟨unlend_in ha, o, stay i a ha o e, p⟩
    | cell i =>
      obtain ⟨f, q⟩ := S'.own _ a ha
      exact ⟨hn a f, q⟩
/-- the evaluation gives back what it was lent, if nothing of it is left -/
theorem Kont.keep {Q : VK} (S : Sim K mg ca F H σ env cs fp) (k : Kont K mg ca F H fp σ t (PD.keep env env' t cs') cs' Q) : Kont K mg ca F H fp σ t env' cs' Q := fun v ca' F' H' fp' w st S' r nd fr dj => by
  unfold PD.keep at k
  cases hb : (t.flat && cs'.all T.cellFlat) with
  | false => rw [hb] at k; exact k v ca' F' H' fp' w st S' r nd fr dj
  | true =>
    rw [hb] at k
    simp only [Bool.and_eq_true] at hb
    obtain ⟨st2, S2, tups⟩ := S.restore st S' hb.2
    have hw : w = [] := by
      cases t with
      | sh d => cases r; rfl
      | lst _ => cases hb.1
      | dct _ _ => cases hb.1
    subst hw
    exact k v ca' _ H' _ [] st2 S2 (RepT.lessF tups hb.1 r) nd fr fun _ _ z => nomatch z
theorem KontB.keep {b : Bool} {Q : Bool → Hp → Prop} (S : Sim K mg ca F H σ env cs fp) (k : KontB K mg ca F H fp σ b (PD.keep env env' (.sh (.bl b)) cs') cs' Q) : KontB K mg ca F H fp σ b env' cs' Q := fun ca' F' H' fp' st S' => by
  unfold PD.keep at k
  cases hb : ((T.sh (.bl b)).flat && cs'.all T.cellFlat) with
  | false => rw [hb] at k; exact k ca' F' H' fp' st S'
  | true =>
    rw [hb] at k
    simp only [Bool.and_eq_true] at hb
    obtain ⟨st2, S2, tups⟩ := S.restore st S' hb.2
    exact k ca' _ H' _ st2 S2
end
end PD
end
section
set_option Elab.async false
set_option linter.all false
set_option maxRecDepth 100000
set_option autoImplicit false
namespace PD
open PySem L2 PyProof.Rows

/-! ### the evaluator's expressions -/
def eVar (i : Nat) : Ev := fun env cs => match env[i]? with
  | some (some (.sh d)) => some (.sh d, env, cs)
  | some (some t) => some (.sh t.toD, env.set i (some (.sh t.toD)), cs)
  | _ => none
/-- the value itself, the name let go -/
def eMov (i : Nat) : Ev := fun env cs => match env[i]? with
  | some (some (.sh d)) => some (.sh d, env, cs)
  | some (some t) => some (t, env.set i none, cs)
  | _ => none
def eC (d : D) : Ev := fun env cs => some (.sh d, env, cs)
def e1 (f : D → Option T) (a : Ev) : Ev := fun env cs => match a env cs with
  | none => none
  | some (t1, env1, cs1) => match f t1.toD with
    | none => none
    | some r => some (r, keep env env1 r cs1, cs1)
def e2 (f : D → D → Option T) (a b : Ev) : Ev := fun env cs => match a env cs with
  | none => none
  | some (t1, env1, cs1) => match b env1 cs1 with
    | none => none
    | some (t2, env2, cs2) => match f t1.toD t2.toD with
      | none => none
      | some r => some (r, keep env env2 r cs2, cs2)
/-- a comparison as a test -/
def t2 (f : D → D → Option T) (a b : Ev) : Tv := fun env cs => match e2 f a b env cs with
  | some (.sh (.bl c), env1, cs1) => some (c, env1, cs1)
  | _ => none
/-- a value that is a truth, as a test -/
def tV (a : Ev) : Tv := fun env cs => match a env cs with
  | some (.sh (.bl c), env1, cs1) => some (c, keep env env1 (.sh (.bl c)) cs1, cs1)
  | _ => none
def tNt (a : Tv) : Tv := fun env cs => match a env cs with
  | none => none
  | some (c, env1, cs1) => some (!c, env1, cs1)
def tAn (a b : Tv) : Tv := fun env cs => match a env cs with
  | none => none
  | some (c, env1, cs1) => if c = true then b env1 cs1 else some (false, env1, cs1)
def tOo (a b : Tv) : Tv := fun env cs => match a env cs with
  | none => none
  | some (c, env1, cs1) => if c = true then some (true, env1, cs1) else b env1 cs1
def eAn (a b : Ev) : Ev := fun env cs => match a env cs with
  | some (.sh (.bl c), env1, cs1) => if c = true then b (keep env env1 (.sh (.bl c)) cs1) cs1 else some (.sh (.bl false), keep env env1 (.sh (.bl c)) cs1, cs1)
  | _ => none
def eOo (a b : Ev) : Ev := fun env cs => match a env cs with
  | some (.sh (.bl c), env1, cs1) => if c = true then some (.sh (.bl true), keep env env1 (.sh (.bl c)) cs1, cs1) else b (keep env env1 (.sh (.bl c)) cs1) cs1
  | _ => none
def eNt (a : Ev) : Ev := fun env cs => match a env cs with
  | some (.sh (.bl c), env1, cs1) => some (.sh (.bl (!c)), keep env env1 (.sh (.bl c)) cs1, cs1)
  | _ => none
def eIf (c : Tv) (a b : Ev) : Ev := fun env cs => match c env cs with
  | none => none
  | some (k, env1, cs1) => if k = true then a env1 cs1 else b env1 cs1
def aNil : Av := fun env cs => some ([], env, cs)
def aCons (a : Ev) (r : Av) : Av := fun env cs => match a env cs with
  | none => none
  | some (t, env1, cs1) => match r env1 cs1 with
    | none => none
    | some (ts, env2, cs2) => some (t :: ts, env2, cs2)
def eTup (a : Av) : Ev := fun env cs => match a env cs with
  | none => none
  | some (ts, env1, cs1) => some (.sh (.tup .ex (T.toDs ts)), keep env env1 (.sh (.tup .ex (T.toDs ts))) cs1, cs1)
def eLst (a : Av) : Ev := fun env cs => match a env cs with
  | none => none
  | some (ts, env1, cs1) => some (.lst ts, env1, cs1)
/-- a call of a built-in by the values -/
def eN (f : List D → Option T) (a : Av) : Ev := fun env cs => match a env cs with
  | none => none
  | some (ts, env1, cs1) => match f (T.toDs ts) with
    | none => none
    | some r => some (r, keep env env1 r cs1, cs1)
/-- a method of a built-in type by the values -/
def eM (f : D → List D → Option T) (o : Ev) (a : Av) : Ev := fun env cs => match o env cs with
  | none => none
  | some (t, env1, cs1) => match a env1 cs1 with
    | none => none
    | some (ts, env2, cs2) => match f t.toD (T.toDs ts) with
      | none => none
      | some r => some (r, keep env env2 r cs2, cs2)
/-- a call of a def of the text: m what it does, dds its defaults -/
def eCall (m : Fn) (dds : List D) (a : Av) : Ev := fun env cs => match a env cs with
  | none => none
  | some (ts, env1, cs1) => match m (T.toDs ts ++ dds) cs1 with
    | none => none
    | some (r, cs2) => some (r, keep env env1 r cs2, cs2)
/-- a new list that is a cell -/
def eCell (a : Av) : Ev := fun env cs => match a env cs with
  | none => none
  | some (ts, env1, cs1) => some (.sh (.cell cs1.length), env1, cs1 ++ [.lst ts])
def eNever : Ev := fun _ _ => none

section
variable {X : Cx} {K : PySem.W.Frag} {mg : Str → Option Value}
variable {a b c e : Expr} {es : List Expr} {pos : Pos} {ta tb tc te : TE} {tas : TA} {uA uB : TT} {ea eb ec ev : Ev} {av : Av} {va vb : Tv}

theorem RepT.shD {ca : List Addr} {F H : Hp} {v : V} {d : D} {w : List Addr} (h : RepT K mg ca F H v (.sh d) w) : RepD K mg ca F v d := by cases h; assumption
theorem snd_var (i : Nat) : SndE K mg (tVar i) (eVar i) := by
  intro ca F H σ env cs fp t env' cs' Q S h k
  unfold eVar at h
  split at h
  · rename_i d e
    cases h
    obtain ⟨v, e1, r⟩ := S.slot i _ e
    exact ⟨v, e1, k v ca F H fp [] .refl S (.sh r.shD) List.nodup_nil (fun _ z => nomatch z) fun _ _ z => nomatch z⟩
  · rename_i t0 _ e
    cases h
    obtain ⟨v, e1, r⟩ := S.slot i _ e
    have hi : i < env.length := (List.getElem?_eq_some_iff.mp e).1
    have dj : ∀ r, r ≠ .slot i → ∀ a ∈ fp (.slot i), a ∉ fp r := fun r hr a ha => S.dj _ _ (Ne.symm hr) a ha
    have own := S.own (.slot i)
    have hf : ∀ a ∈ fp (.slot i), F a = none := fun a ha => (own a ha).1
    refine ⟨v, e1, k v ca (freeze F H (fp (.slot i))) H (fun r => if r = .slot i then [] else fp r) [] ⟨.refl, freeze_sub hf, fun a o e => ?_, fun _ _ h _ => h, fun r a ha => ?_, fun _ o h => ⟨o, h⟩⟩
      ⟨freeze_le S.sub, by rw [List.length_set]; exact S.le, fun j t e => ?_, S.len, fun j t e => ?_, fun r => ?_, fun r r' hr a ha => ?_, fun r a ha => ?_⟩ (.sh (RepT.share (freeze_sub hf) _ _ _ r fun a ha o e => by rw [freeze_in ha]; exact e)) List.nodup_nil (fun _ z => nomatch z) fun _ _ z => nomatch z⟩
    · by_cases ha : a ∈ fp (.slot i)
      · exact .inr (.inr ⟨_, ha⟩)
      · rw [freeze_out ha] at e; exact .inl e
    · by_cases hr : r = .slot i
      · subst hr; simp at ha
      · rw [if_neg hr] at ha; exact .inl ha
    · by_cases hj : j = i
      · subst hj
        rw [List.getElem?_set_self hi] at e
        cases e
        refine ⟨v, e1, ?_⟩
        rw [if_pos rfl]
        exact .sh (RepT.share (freeze_sub hf) _ _ _ r fun a ha o e => by rw [freeze_in ha]; exact e)
      · rw [List.getElem?_set_ne (Ne.symm hj)] at e
        obtain ⟨u, e2, q⟩ := S.slot j t e
        have hne : Root.slot j ≠ Root.slot i := by simp [hj]
        refine ⟨u, e2, ?_⟩
        rw [if_neg hne]
        exact RepT.keep (freeze_sub hf) .refl _ _ _ q (fun a ha => by rw [freeze_out fun z => dj _ hne a z ha]; exact (S.own _ a ha).1) fun _ _ _ h => h
    · obtain ⟨a, e2, q, n⟩ := S.cell j t e
      have hne : Root.cell j ≠ Root.slot i := by simp
      refine ⟨a, e2, ?_, n⟩
      rw [if_neg hne]
      exact RepT.keep (freeze_sub hf) .refl _ _ _ q (fun a ha => by rw [freeze_out fun z => dj _ hne a z ha]; exact (S.own _ a ha).1) fun _ _ _ h => h
    · split
      · exact List.nodup_nil
      · exact S.nd r
    · by_cases h1 : r = .slot i
      · rw [if_pos h1] at ha; cases ha
      · rw [if_neg h1] at ha
        by_cases h2 : r' = .slot i
        · rw [if_pos h2]; exact fun z => nomatch z
        · rw [if_neg h2]; exact S.dj r r' hr a ha
    · by_cases h1 : r = .slot i
      · rw [if_pos h1] at ha; cases ha
      · rw [if_neg h1] at ha
        exact ⟨by rw [freeze_out fun z => dj _ h1 a z ha]; exact (S.own _ a ha).1, (S.own _ a ha).2⟩
  · cases h
theorem ee_var {i : Nat} {x : Str} (hN : X.N[i]? = some x := by rfl) (hv : Vis X.env.scope x := by first | exact .inl rfl | exact .inr (.inl rfl) | exact .inr (.inr rfl)) (hd : (x == ("__debug__" : Str)) = false := by decide) (hcd : (x == ("__classdict__" : Str)) = false := by decide) : EE X (.Name x pos) (tVar i) (eVar i) :=
  ⟨pe_var hN hv hd hcd, snd_var i⟩
theorem snd_C {v : V} {d : D} (h : ∀ ca F, RepD K mg ca F v d) : SndE K mg (tC v) (eC d) := by
  intro ca F H σ env cs fp t env' cs' Q S e k
  cases e
  exact k v ca F H fp [] .refl S (.sh (h ca F)) List.nodup_nil (fun _ z => nomatch z) fun _ _ z => nomatch z
theorem ee_int {i j} : EE X (.Constant (.int i) j pos) (tC (.int i)) (eC (.int i)) := ⟨pe_int, snd_C fun _ _ => .int i⟩
theorem ee_bl {i j} : EE X (.Constant (.bool i) j pos) (tC (.bl i)) (eC (.bl i)) := ⟨pe_bl, snd_C fun _ _ => .bl i⟩
theorem ee_non {j} : EE X (.Constant .none j pos) (tC .non) (eC .non) := ⟨pe_non, snd_C fun _ _ => .non⟩
theorem ee_str {i j} (h : i.length ≤ sizeLine := by decide +kernel) (ho : PyData.strOk i = true := by decide +kernel) : EE X (.Constant (.str i) j pos) (tC (.str i)) (eC (.str i)) := ⟨pe_str, snd_C fun _ _ => .str i h ho⟩
theorem ee_fn {x : Str} {f : Addr} (hm : X.mg x = some (.ref f)) (hg : Gl X x := by rfl) (hd : (x == ("__debug__" : Str)) = false := by decide) : EE X (.Name x pos) (tC (.ref f)) (eC (.fn x)) :=
  ⟨pe_glob hg hm rfl hd, snd_C fun _ _ => .fn hm⟩
theorem ee_ty {x : Str} {n : String} (hm : X.mg x = none) (hv : bootBuiltins x = some (.type n) := by decide +kernel) (hg : Gl X x := by rfl) (hn : x ≠ "__name__" := by decide) (hd : (x == ("__debug__" : Str)) = false := by decide) : EE X (.Name x pos) (tC (.ty n)) (eC (.ty n)) :=
  ⟨pe_bltn hg hm hv rfl hn hd, snd_C fun _ _ => .ty n⟩

/-! operations by values -/
def Op1S (K : PySem.W.Frag) (mg : Str → Option Value) (r : V → Hp → VK → Prop) (f : D → Option T) : Prop := ∀ ca F H x d t Q, Sub F H → RepD K mg ca F x d → f d = some t → OpK K mg ca F H t Q → r x H Q
def Op2S (K : PySem.W.Frag) (mg : Str → Option Value) (r : R2) (f : D → D → Option T) : Prop := ∀ ca F H x y d e t Q, Sub F H → RepD K mg ca F x d → RepD K mg ca F y e → f d e = some t → OpK K mg ca F H t Q → r x y H Q
def OpNS (K : PySem.W.Frag) (mg : Str → Option Value) (r : List V → Hp → VK → Prop) (f : List D → Option T) : Prop := ∀ ca F H xs ds t Q, Sub F H → RepDs K mg ca F xs ds → f ds = some t → OpK K mg ca F H t Q → r xs H Q
def OpMS (K : PySem.W.Frag) (mg : Str → Option Value) (r : V → List V → Hp → VK → Prop) (f : D → List D → Option T) : Prop := ∀ ca F H x xs d ds t Q, Sub F H → RepD K mg ca F x d → RepDs K mg ca F xs ds → f d ds = some t → OpK K mg ca F H t Q → r x xs H Q

theorem snd_e1 {r : V → Hp → VK → Prop} {f : D → Option T} (ho : Op1S K mg r f) (ha : SndE K mg ta ea) : SndE K mg (tUn r ta) (e1 f ea) := by
  intro ca F H σ env cs fp t env' cs' Q S h k
  unfold e1 at h
  split at h
  · cases h
  · rename_i t1 env1 cs1 h1
    split at h
    · cases h
    · rename_i r0 hf
      cases h
      refine ha.data S h1 fun x ca1 F1 H1 fp1 st1 S1 r1 => ?_
      exact ho ca1 F1 H1 x _ _ Q S1.sub r1 hf (OpK.of S1 st1 (Kont.keep S k))
theorem snd_e2 {r : R2} {f : D → D → Option T} (ho : Op2S K mg r f) (ha : SndE K mg ta ea) (hb : SndE K mg tb eb) : SndE K mg (tOp r ta tb) (e2 f ea eb) := by
  intro ca F H σ env cs fp t env' cs' Q S h k
  unfold e2 at h
  split at h
  · cases h
  · rename_i t1 env1 cs1 h1
    split at h
    · cases h
    · rename_i t2 env2 cs2 h2
      split at h
      · cases h
      · rename_i r0 hf
        cases h
        refine ha.data S h1 fun x ca1 F1 H1 fp1 st1 S1 r1 => ?_
        refine hb.data S1 h2 fun y ca2 F2 H2 fp2 st2 S2 r2 => ?_
        exact ho ca2 F2 H2 x y _ _ _ Q S2.sub (RepD.mono st2.ff st2.pre _ _ r1) r2 hf (OpK.of S2 (st1.trans st2) (Kont.keep S k))
theorem ee_un {op : UnaryOp} {r : V → Hp → VK → Prop} {f : D → Option T} (ho : UnR X (unaryOp op) r) (hs : Op1S X.K X.mg r f) (ha : EE X a ta ea) : EE X (.UnaryOp op a pos) (tUn r ta) (e1 f ea) := ⟨pe_un ho ha.pe, snd_e1 hs ha.snd⟩
theorem ee_op {op : Operator} {r : R2} {f : D → D → Option T} (ho : OpR X (binaryOp op) r) (hs : Op2S X.K X.mg r f) (ha : EE X a ta ea) (hb : EE X b tb eb) : EE X (.BinOp a op b pos) (tOp r ta tb) (e2 f ea eb) := ⟨pe_op ho ha.pe hb.pe, snd_e2 hs ha.snd hb.snd⟩
theorem ee_cmp {op : CmpOp} {r : R2} {f : D → D → Option T} (ho : OpR X (compareOp op) r) (hs : Op2S X.K X.mg r f) (ha : EE X a ta ea) (hb : EE X b tb eb) (hm : behindInMarks op b = false := by first | exact nomark _ | rfl) : EE X (.Compare a [op] [b] pos) (tOp r ta tb) (e2 f ea eb) :=
  ⟨pe_cmpR ho ha.pe hb.pe hm, snd_e2 hs ha.snd hb.snd⟩
theorem bl_of {F : Hp} {ca : List Addr} {v : V} {c : Bool} (h : RepD K mg ca F v (.bl c)) : v = .bl c := by cases h; rfl
theorem et_cmp {op : CmpOp} {r : R2} {f : D → D → Option T} (ho : OpR X (compareOp op) r) (hs : Op2S X.K X.mg r f) (ha : EE X a ta ea) (hb : EE X b tb eb) (hm : behindInMarks op b = false := by first | exact nomark _ | rfl) : ET X (.Compare a [op] [b] pos) (tTest (tOp r ta tb)) (t2 f ea eb) := by
  refine ⟨pt_cmpR ho ha.pe hb.pe hm, ?_⟩
  intro ca F H σ env cs fp bb env' cs' Q S h k
  unfold t2 at h
  split at h
  · rename_i c env1 cs1 h1
    cases h
    refine snd_e2 hs ha.snd hb.snd ca F H σ env cs fp _ _ _ _ S h1 fun v ca' F' H' fp' w st S' r _ _ _ => ?_
    cases r with
    | sh r => exact ⟨_, bl_of r, k ca' F' H' fp' st S'⟩
  · cases h
theorem SndE.test (ha : SndE K mg ta ea) : SndT K mg (tTest ta) (tV ea) := by
  intro ca F H σ env cs fp bb env' cs' Q S h k
  unfold tV at h
  split at h
  · rename_i c env1 cs1 h1
    cases h
    have k := KontB.keep S k
    refine ha ca F H σ env cs fp _ _ _ _ S h1 fun v ca' F' H' fp' w st S' r _ _ _ => ?_
    cases r with
    | sh r => exact ⟨_, bl_of r, k ca' F' H' fp' st S'⟩
  · cases h
theorem et_val (ha : EE X a ta ea) (he : ∀ whole, isTrue a X.env whole = (do let v ← whole; standAt a.pos; holding [v] (truthy v)) := by intro _; rfl) : ET X a (tB ta) (tV ea) := ⟨pt_val ha.pe he, SndE.test ha.snd⟩
theorem et_not (ha : ET X a uA va) : ET X (.UnaryOp .Not a pos) (tNot uA) (tNt va) := by
  refine ⟨pt_not ha.pt, ?_⟩
  intro ca F H σ env cs fp bb env' cs' Q S h k
  unfold tNt at h
  split at h
  · cases h
  · rename_i c env1 cs1 h1
    cases h
    exact ha.snd ca F H σ env cs fp _ _ _ _ S h1 fun ca' F' H' fp' st S' => k ca' F' H' fp' st S'
/-- and, or as tests -/
structure EW (X : Cx) (e : Expr) (tt : TT) (tv : Tv) : Prop where
  pw : PW X e tt
  snd : SndT X.K X.mg tt tv
theorem EW.et {e : Expr} {tt : TT} {tv : Tv} (h : EW X e tt tv) : ET X e tt tv := ⟨h.pw.pt, h.snd⟩
variable {rest : List Expr}
theorem ew_and1 (ha : ET X a uA va) : EW X (.BoolOp .And [a] pos) uA va := ⟨pw_and1 ha.pt, ha.snd⟩
theorem ew_or1 (ha : ET X a uA va) : EW X (.BoolOp .Or [a] pos) uA va := ⟨pw_or1 ha.pt, ha.snd⟩
theorem ew_and (ha : ET X a uA va) (hb : EW X (.BoolOp .And (b :: rest) pos) uB vb) : EW X (.BoolOp .And (a :: b :: rest) pos) (tAnd uA uB) (tAn va vb) := by
  refine ⟨pw_and ha.pt hb.pw, ?_⟩
  intro ca F H σ env cs fp bb env' cs' Q S h k
  unfold tAn at h
  split at h
  · cases h
  · rename_i c env1 cs1 h1
    refine ha.snd ca F H σ env cs fp _ _ _ _ S h1 fun ca' F' H' fp' st S' => ?_
    cases c with
    | true => exact hb.snd ca' F' H' σ env1 cs1 fp' _ _ _ _ S' h fun ca2 F2 H2 fp2 st2 S2 => k ca2 F2 H2 fp2 (st.trans st2) S2
    | false => cases h; exact k ca' F' H' fp' st S'
theorem ew_or (ha : ET X a uA va) (hb : EW X (.BoolOp .Or (b :: rest) pos) uB vb) : EW X (.BoolOp .Or (a :: b :: rest) pos) (tOr uA uB) (tOo va vb) := by
  refine ⟨pw_or ha.pt hb.pw, ?_⟩
  intro ca F H σ env cs fp bb env' cs' Q S h k
  unfold tOo at h
  split at h
  · cases h
  · rename_i c env1 cs1 h1
    refine ha.snd ca F H σ env cs fp _ _ _ _ S h1 fun ca' F' H' fp' st S' => ?_
    cases c with
    | false => exact hb.snd ca' F' H' σ env1 cs1 fp' _ _ _ _ S' h fun ca2 F2 H2 fp2 st2 S2 => k ca2 F2 H2 fp2 (st.trans st2) S2
    | true => cases h; exact k ca' F' H' fp' st S'
theorem Kont.ofB {ca : List Addr} {F H : Hp} {fp : Fp} {σ : St} {c : Bool} {env' : Env} {cs' : CS} {Q : VK} (k : Kont K mg ca F H fp σ (.sh (.bl c)) env' cs' Q) : KontB K mg ca F H fp σ c env' cs' (fun b H' => Q (.bl b) H') := fun ca' F' H' fp' st S' =>
  k (.bl c) ca' F' H' fp' [] st S' (.sh (.bl c)) List.nodup_nil (fun _ z => nomatch z) fun _ _ z => nomatch z
theorem ee_one {op} (ha : EE X a ta ea) : EE X (.BoolOp op [a] pos) ta ea := ⟨pe_one ha.pe, ha.snd⟩
theorem ee_and (ha : EE X a ta ea) (hb : EE X (.BoolOp .And (b :: rest) pos) tb eb) : EE X (.BoolOp .And (a :: b :: rest) pos) (tAndV ta tb) (eAn ea eb) := by
  refine ⟨pe_and ha.pe hb.pe, ?_⟩
  intro ca F H σ env cs fp t env' cs' Q S h k
  unfold eAn at h
  split at h
  · rename_i c env1 cs1 h1
    have h1 : tV ea env cs = some (c, keep env env1 (.sh (.bl c)) cs1, cs1) := by unfold tV; rw [h1]
    refine SndE.test ha.snd ca F H σ env cs fp _ _ _ _ S h1 fun ca' F' H' fp' st S' => ?_
    cases c with
    | true => exact hb.snd ca' F' H' σ _ cs1 fp' _ _ _ _ S' h fun v ca2 F2 H2 fp2 w st2 S2 r nd fr dj => k v ca2 F2 H2 fp2 w (st.trans st2) S2 r nd (fun a ha => st.noneOf (fr a ha)) dj
    | false => cases h; exact Kont.ofB k ca' F' H' fp' st S'
  · cases h
theorem ee_or (ha : EE X a ta ea) (hb : EE X (.BoolOp .Or (b :: rest) pos) tb eb) : EE X (.BoolOp .Or (a :: b :: rest) pos) (tOrV ta tb) (eOo ea eb) := by
  refine ⟨pe_or ha.pe hb.pe, ?_⟩
  intro ca F H σ env cs fp t env' cs' Q S h k
  unfold eOo at h
  split at h
  · rename_i c env1 cs1 h1
    have h1 : tV ea env cs = some (c, keep env env1 (.sh (.bl c)) cs1, cs1) := by unfold tV; rw [h1]
    refine SndE.test ha.snd ca F H σ env cs fp _ _ _ _ S h1 fun ca' F' H' fp' st S' => ?_
    cases c with
    | false => exact hb.snd ca' F' H' σ _ cs1 fp' _ _ _ _ S' h fun v ca2 F2 H2 fp2 w st2 S2 r nd fr dj => k v ca2 F2 H2 fp2 w (st.trans st2) S2 r nd (fun a ha => st.noneOf (fr a ha)) dj
    | true => cases h; exact Kont.ofB k ca' F' H' fp' st S'
  · cases h
theorem ee_not (ha : EE X a ta ea) : EE X (.UnaryOp .Not a pos) (tNotV ta) (eNt ea) := by
  refine ⟨pe_not ha.pe, ?_⟩
  intro ca F H σ env cs fp t env' cs' Q S h k
  unfold eNt at h
  split at h
  · rename_i c env1 cs1 h1
    have h1 : tV ea env cs = some (c, keep env env1 (.sh (.bl c)) cs1, cs1) := by unfold tV; rw [h1]
    cases h
    exact SndE.test ha.snd ca F H σ env cs fp _ _ _ _ S h1 fun ca' F' H' fp' st S' => Kont.ofB k ca' F' H' fp' st S'
  · cases h
theorem ee_ife (hc : ET X c uA va) (ha : EE X a ta ea) (hb : EE X b tb eb) : EE X (.IfExp c a b pos) (tIf uA ta tb) (eIf va ea eb) := by
  refine ⟨pe_ifExp hc.pt ha.pe hb.pe, ?_⟩
  intro ca F H σ env cs fp t env' cs' Q S h k
  unfold eIf at h
  split at h
  · cases h
  · rename_i kk env1 cs1 h1
    refine hc.snd ca F H σ env cs fp _ _ _ _ S h1 fun ca' F' H' fp' st S' => ?_
    cases kk with
    | true => exact ha.snd ca' F' H' σ env1 cs1 fp' _ _ _ _ S' h fun v ca2 F2 H2 fp2 w st2 S2 r nd fr dj => k v ca2 F2 H2 fp2 w (st.trans st2) S2 r nd (fun a ha => st.noneOf (fr a ha)) dj
    | false => exact hb.snd ca' F' H' σ env1 cs1 fp' _ _ _ _ S' h fun v ca2 F2 H2 fp2 w st2 S2 r nd fr dj => k v ca2 F2 H2 fp2 w (st.trans st2) S2 r nd (fun a ha => st.noneOf (fr a ha)) dj

/-! chains a < b < c -/
def eCh (f g : D → D → Option T) (a b c : Ev) : Ev := fun env cs => match a env cs with
  | none => none
  | some (t1, env1, cs1) => match b env1 cs1 with
    | none => none
    | some (t2, env2, cs2) => match f t1.toD t2.toD with
      | some (.sh (.bl false)) => some (.sh (.bl false), keep env env2 (.sh (.bl false)) cs2, cs2)
      | some (.sh (.bl true)) => (match c env2 cs2 with
        | none => none
        | some (t3, env3, cs3) => match g t2.toD t3.toD with
          | none => none
          | some r => some (r, keep env env3 r cs3, cs3))
      | _ => none
def tCh (f g : D → D → Option T) (a b c : Ev) : Tv := fun env cs => match eCh f g a b c env cs with
  | some (.sh (.bl c), env1, cs1) => some (c, env1, cs1)
  | _ => none
theorem OpK.ofB {ca0 : List Addr} {F0 H0 : Hp} {fp0 : Fp} {ca : List Addr} {F H : Hp} {fp : Fp} {σ : St} {c : Bool} {env : Env} {cs : CS} {Q : VK} (S : Sim K mg ca F H σ env cs fp) (st : Step MC ca0 F0 H0 fp0 ca F H fp) (k : Kont K mg ca0 F0 H0 fp0 σ (.sh (.bl c)) env cs Q) : Q (.bl c) H := Kont.ofB k ca F H fp st S
theorem snd_ch {r r' : R2} {f g : D → D → Option T} (hf : Op2S K mg r f) (hg : Op2S K mg r' g) (ha : SndE K mg ta ea) (hb : SndE K mg tb eb) (hc : SndE K mg tc ec) : SndE K mg (tChain r r' ta tb tc) (eCh f g ea eb ec) := by
  intro ca F H σ env cs fp t env' cs' Q S h k
  unfold eCh at h
  split at h
  · cases h
  · rename_i t1 env1 cs1 h1
    split at h
    · cases h
    · rename_i t2 env2 cs2 h2
      refine ha.data S h1 fun x ca1 F1 H1 fp1 st1 S1 r1 => ?_
      refine hb.data S1 h2 fun y ca2 F2 H2 fp2 st2 S2 r2 => ?_
      have r1' := RepD.mono st2.ff st2.pre _ _ r1
      split at h
      · rename_i hq
        cases h
        refine hf ca2 F2 H2 x y _ _ _ _ S2.sub r1' r2 hq fun v F3 H3 w g3 q nd fr => ?_
        cases q with
        | sh q =>
          refine ⟨false, bl_of q, ?_⟩
          exact OpK.of S2 (st1.trans st2) (Kont.keep S k) (.bl false) F3 H3 [] g3 (.sh (.bl false)) List.nodup_nil fun _ z => nomatch z
      · rename_i hq
        split at h
        · cases h
        · rename_i t3 env3 cs3 h3
          split at h
          · cases h
          · rename_i r0 hr
            cases h
            refine hf ca2 F2 H2 x y _ _ _ _ S2.sub r1' r2 hq fun v F3 H3 w g3 q nd fr => ?_
            cases q with
            | sh q =>
              refine ⟨true, bl_of q, ?_⟩
              rw [if_pos rfl]
              have S3 := S2.grow g3
              have st3 : Step MC ca F H fp ca2 F3 H3 fp2 := (st1.trans st2).trans g3.step
              refine hc.data S3 h3 fun z ca4 F4 H4 fp4 st4 S4 r4 => ?_
              exact hg ca4 F4 H4 y z _ _ _ Q S4.sub (RepD.mono (g3.ff.trans st4.ff) st4.pre _ _ r2) r4 hr (OpK.of S4 (st3.trans st4) (Kont.keep S k))
      · cases h
theorem ee_ch {op op' : CmpOp} {r r' : R2} {f g : D → D → Option T} (ho : OpR X (compareOp op) r) (ho' : OpR X (compareOp op') r') (hf : Op2S X.K X.mg r f) (hg : Op2S X.K X.mg r' g) (ha : EE X a ta ea) (hb : EE X b tb eb) (hc : EE X c tc ec)
    (hm : lastMarks [op, op'] [b, c] = false := by with_unfolding_all rfl) : EE X (.Compare a [op, op'] [b, c] pos) (tChain r r' ta tb tc) (eCh f g ea eb ec) := ⟨pe_chain ho ho' ha.pe hb.pe hc.pe hm, snd_ch hf hg ha.snd hb.snd hc.snd⟩
theorem et_ch {op op' : CmpOp} {r r' : R2} {f g : D → D → Option T} (ho : OpR X (compareOp op) r) (ho' : OpR X (compareOp op') r') (hf : Op2S X.K X.mg r f) (hg : Op2S X.K X.mg r' g) (ha : EE X a ta ea) (hb : EE X b tb eb) (hc : EE X c tc ec)
    (hm : lastMarks [op, op'] [b, c] = false := by with_unfolding_all rfl) : ET X (.Compare a [op, op'] [b, c] pos) (tTest (tChain r r' ta tb tc)) (tCh f g ea eb ec) := by
  refine ⟨pt_chain ho ho' ha.pe hb.pe hc.pe hm, ?_⟩
  intro ca F H σ env cs fp bb env' cs' Q S h k
  unfold tCh at h
  split at h
  · rename_i c env1 cs1 h1
    cases h
    refine snd_ch hf hg ha.snd hb.snd hc.snd ca F H σ env cs fp _ _ _ _ S h1 fun v ca' F' H' fp' w st S' r _ _ _ => ?_
    cases r with
    | sh r => exact ⟨_, bl_of r, k ca' F' H' fp' st S'⟩
  · cases h

/-! argument lists, displays -/
theorem snd_nil : SndA K mg tNil aNil := fun ca F H σ env cs fp ts env' cs' Q S h k => by
  cases h
  exact k [] ca F H fp [] .refl S .nil List.nodup_nil (fun _ z => nomatch z) fun _ _ z => nomatch z
theorem ea_nil : EA X [] tNil aNil := ⟨pa_nil, snd_nil, fun _ _ _ _ _ h => by cases h; rfl⟩
theorem snd_cons (ha : SndE K mg te ev) (hr : SndA K mg tas av) : SndA K mg (tCons te tas) (aCons ev av) := by
  intro ca F H σ env cs fp ts env' cs' Q S h k
  unfold aCons at h
  split at h
  · cases h
  · rename_i t env1 cs1 h1
    split at h
    · cases h
    · rename_i ts2 env2 cs2 h2
      cases h
      refine ha ca F H σ env cs fp _ _ _ _ S h1 fun v ca1 F1 H1 fp1 w st1 S1 r1 nd1 fr1 dj1 => ?_
      refine hr ca1 F1 H1 σ env1 cs1 fp1 _ _ _ _ S1 h2 fun vs ca2 F2 H2 fp2 w2 st2 S2 r2 nd2 fr2 dj2 => ?_
      obtain ⟨r1', dj1'⟩ := st2.temp r1 dj1
      refine k (v :: vs) ca2 F2 H2 fp2 (w ++ w2) (st1.trans st2) S2 (.cons r1' r2) ?_ (fun a ha => ?_) fun r a ha => ?_
      · refine List.nodup_append.mpr ⟨nd1, nd2, fun a ha b hb e => ?_⟩
        subst e
        obtain ⟨_, o, q⟩ := RepT.own _ _ _ r1 a ha
        rw [fr2 a hb] at q; cases q
      · rcases List.mem_append.mp ha with ha | ha
        · exact fr1 a ha
        · exact st1.noneOf (fr2 a ha)
      · rcases List.mem_append.mp ha with ha | ha
        · exact dj1' r a ha
        · exact dj2 r a ha
theorem ea_cons (ha : EE X e te ev) (hr : EA X es tas av) (hs : starEach (e :: es) X.env = (false, eval e X.env) :: starEach es X.env := by rfl) : EA X (e :: es) (tCons te tas) (aCons ev av) := ⟨pa_cons ha.pe hr.pa hs, snd_cons ha.snd hr.snd, fun env cs ts env' cs' h => by
  unfold aCons at h
  split at h
  · cases h
  · split at h
    · cases h
    · rename_i h2
      cases h
      simp [hr.len _ _ _ _ _ h2]⟩
theorem toDs_len (ts : List T) : (T.toDs ts).length = ts.length := by rw [toDs_eq, List.length_map]
theorem ee_tup {x1} (h : EA X es tas av) (hl : es.length ≤ sizeLine := by decide) : EE X (.Tuple es x1 pos) (tTup tas) (eTup av) := by
  refine ⟨pe_tup h.pa, ?_⟩
  intro ca F H σ env cs fp t env' cs' Q S hh k
  unfold eTup at hh
  split at hh
  · cases hh
  · rename_i ts env1 cs1 h1
    cases hh
    refine h.snd.data S h1 fun vs ca1 F1 H1 fp1 st1 S1 r1 => ?_
    have hz : vs.length ≤ sizeLine := by rw [RepDs.length r1, toDs_len, h.len _ _ _ _ _ h1]; exact hl
    refine ⟨hz, fun p hp => OpK.newT S1.sub (OpK.of S1 st1 (Kont.keep S k)) hp r1 hz⟩
theorem ee_lst (h : EA X es tas av) (hl : es.length ≤ sizeLine := by decide) : EE X (.List es pos) (tLst tas) (eLst av) := by
  refine ⟨pe_lst h.pa, ?_⟩
  intro ca F H σ env cs fp t env' cs' Q S hh k
  unfold eLst at hh
  split at hh
  · cases hh
  · rename_i ts env1 cs1 h1
    · cases hh
      refine h.snd ca F H σ env cs fp _ _ _ _ S h1 fun vs ca1 F1 H1 fp1 w st1 S1 r1 nd fr dj => ?_
      have hz : vs.length ≤ sizeLine := by rw [RepTs.length r1, h.len _ _ _ _ _ h1]; exact hl
      refine ⟨hz, fun p hp => ?_⟩
      have g : Grow F1 H1 F1 (upd H1 p (.lst vs)) := Grow.laid S1.sub hp
      have hpw : p ∉ w := fun z => by obtain ⟨_, o, q⟩ := RepTs.own _ _ _ r1 p z; rw [hp] at q; cases q
      refine k (.ref p) ca1 F1 (upd H1 p (.lst vs)) fp1 (p :: w) (st1.trans g.step) (S1.grow g) (.lst upd_same (S1.sub.none hp) hz (RepTs.keep .refl .refl _ _ _ r1 (fun a ha => (RepTs.own _ _ _ r1 a ha).1) fun a ha o e => by rw [upd_ne (fun z => hpw (by rw [← z]; exact ha))]; exact e)) (List.nodup_cons.mpr ⟨hpw, nd⟩) (fun a ha => ?_) fun r a ha => ?_
      · rcases List.mem_cons.mp ha with rfl | ha
        · exact st1.noneOf hp
        · exact fr a ha
      · rcases List.mem_cons.mp ha with rfl | ha
        · intro z
          obtain ⟨_, o, q, _⟩ := S1.own r a z
          rw [hp] at q; cases q
        · exact dj r a ha
/-- a new cell -/
theorem ee_cell (h : EA X es tas av) (hl : es.length ≤ sizeLine := by decide) : EE X (.List es pos) (tLst tas) (eCell av) := by
  refine ⟨pe_lst h.pa, ?_⟩
  intro ca F H σ env cs fp t env' cs' Q S hh k
  unfold eCell at hh
  split at hh
  · cases hh
  · rename_i ts env1 cs1 h1
    · cases hh
      refine h.snd ca F H σ env cs fp _ _ _ _ S h1 fun vs ca1 F1 H1 fp1 w st1 S1 r1 nd fr dj => ?_
      have hz : vs.length ≤ sizeLine := by rw [RepTs.length r1, h.len _ _ _ _ _ h1]; exact hl
      refine ⟨hz, fun p hp => ?_⟩
      have g : Grow F1 H1 F1 (upd H1 p (.lst vs)) := Grow.laid S1.sub hp
      have hpw : p ∉ w := fun z => by obtain ⟨_, o, q⟩ := RepTs.own _ _ _ r1 p z; rw [hp] at q; cases q
      have S2 := S1.grow g
      have rc : RepT X.K X.mg ca1 F1 (upd H1 p (.lst vs)) (.ref p) (.lst ts) (p :: w) := .lst upd_same (S1.sub.none hp) hz (RepTs.keep .refl .refl _ _ _ r1 (fun a ha => (RepTs.own _ _ _ r1 a ha).1) fun a ha o e => by rw [upd_ne (fun z => hpw (by rw [← z]; exact ha))]; exact e)
      have hpf : ∀ r, p ∉ fp1 r := fun r z => by obtain ⟨_, o, q, _⟩ := S1.own r p z; rw [hp] at q; cases q
      have hin : ∀ r a, a ∈ p :: w → a ∉ fp1 r := fun r a ha => by
        rcases List.mem_cons.mp ha with rfl | ha
        · exact hpf r
        · exact dj r a ha
      have hlen := S1.len
      have pre : Pre ca1 (ca1 ++ [p]) := ⟨[p], rfl⟩
      have at' : (ca1 ++ [p])[cs1.length]? = some p := by rw [← hlen]; simp
      refine k (.ref p) (ca1 ++ [p]) F1 (upd H1 p (.lst vs)) (fun r => if r = .cell cs1.length then p :: w else fp1 r) [] ⟨st1.pre.trans pre, st1.ff, st1.nf, fun a o e hm => g.hh a o (st1.ext a o e hm), fun r a ha => ?_, fun a o e => ?_⟩
        ⟨S2.sub, S2.le, fun i t e => ?_, by simp [hlen], fun i t e => ?_, fun r => ?_, fun r r' hr a ha => ?_, fun r a ha => ?_⟩ (.sh (.cell at')) List.nodup_nil (fun _ z => nomatch z) fun _ _ z => nomatch z
      · by_cases hr : r = .cell cs1.length
        · rw [if_pos hr] at ha
          rcases List.mem_cons.mp ha with rfl | ha
          · exact .inr (st1.noneOf hp)
          · exact .inr (fr a ha)
        · rw [if_neg hr] at ha; exact st1.sub r a ha
      · obtain ⟨o', q⟩ := st1.alive a o e
        exact ⟨o', g.hh a o' q⟩
      · obtain ⟨v, e1, r⟩ := S2.slot i t e
        refine ⟨v, e1, ?_⟩
        rw [if_neg (by simp)]
        exact RepT.keep .refl pre _ _ _ r (fun a ha => (S2.own _ a ha).1) fun _ _ _ h => h
      · by_cases hi : i = cs1.length
        · subst hi
          rw [List.getElem?_append_right (Nat.le_refl _)] at e
          simp at e
          subst e
          refine ⟨p, at', ?_, fun d z => nomatch z⟩
          rw [if_pos rfl]
          exact RepT.keep .refl pre _ _ _ rc (fun a ha => (RepT.own _ _ _ rc a ha).1) fun _ _ _ h => h
        · have hi2 : i < cs1.length := by
            have q := (List.getElem?_eq_some_iff.mp e).1
            rw [List.length_append, List.length_singleton] at q
            omega
          rw [List.getElem?_append_left hi2] at e
          obtain ⟨a, e1, r, n⟩ := S2.cell i t e
          refine ⟨a, pre.get e1, ?_, n⟩
          rw [if_neg (by simp [hi])]
          exact RepT.keep .refl pre _ _ _ r (fun a ha => (S2.own _ a ha).1) fun _ _ _ h => h
      · split
        · exact List.nodup_cons.mpr ⟨hpw, nd⟩
        · exact S2.nd r
      · by_cases h1 : r = .cell cs1.length
        · rw [if_pos h1] at ha
          rw [if_neg (fun z => hr (h1.trans z.symm))]
          exact hin r' a ha
        · rw [if_neg h1] at ha
          by_cases h2 : r' = .cell cs1.length
          · rw [if_pos h2]
            exact fun z => hin r a z ha
          · rw [if_neg h2]; exact S2.dj r r' hr a ha
      · by_cases h1 : r = .cell cs1.length
        · rw [if_pos h1] at ha
          exact RepT.owns _ _ _ rc a ha
        · rw [if_neg h1] at ha
          exact S2.own r a ha
end
end PD
end
section
set_option Elab.async false
set_option linter.all false
set_option maxRecDepth 100000
set_option maxHeartbeats 2000000
set_option autoImplicit false
namespace PD
open PySem PySem.Spec PyProof.Rows L2
/-! ### defs entered where no repr is under way -/
/-- room, and no repr under way -/
structure RoomG (k : Nat) (A : Around) : Prop where
  rm : Room k A
  gd : A.guards = some []
theorem RoomG.mono {j k : Nat} {A : Around} (r : RoomG k A) (h : j ≤ k) : RoomG j A := ⟨r.rm.mono h, r.gd⟩
theorem RoomG.deeper {k : Nat} {A : Around} (r : RoomG (k + 1) A) (env : PySem.Env) : RoomG k (A.deeper env) := ⟨r.rm.deeper env, r.gd⟩
theorem RoomG.units65 {k : Nat} {A : Around} (r : RoomG k A) : A.units + 65 < cLine := by have := r.rm.un; omega
/-- a def's promise, kept where no repr is under way -/
structure FnG (P : Program) (w : World) (K : PySem.W.Frag) (mg : Str → Option Value) (base : Heap) (CX : CXT) (k : Nat) (f : Addr) (fd : FuncData) (ps : List Str) (sp : Sp) : Prop where
  len : ∀ vs H Q E, sp vs H Q E → vs.length = ps.length
  run : ∀ (A : Around) (outer : List PySem.Env) (s : Shared) (H : Hp) (args : Args) (us : List Value) (vs : List V) (Q : VK) (E : XK), RoomG k A → Env0 P w K mg base A outer s H → BindsTo s fd args (ps.zip us) → Vals vs us → sp vs H Q E →
    codeAny (model P w) A (.call (.ref f) args) (CR CX outer P w H s Q E) s
section
variable {P : Program} {w : World} {K : PySem.W.Frag} {mg : Str → Option Value} {base : Heap} {CX : CXT} {f : Addr} {fd : FuncData} {ps : List Str} {sp : Sp}
theorem FnG.mono {j k : Nat} (F : FnG P w K mg base CX j f fd ps sp) (h : j ≤ k) : FnG P w K mg base CX k f fd ps sp :=
  ⟨F.len, fun A outer s H args us vs Q E hr => F.run A outer s H args us vs Q E (hr.mono h)⟩
/-- by its body -/
theorem fnG_of {k : Nat} {name qual : Str} {params : Arguments} {body : List Stmt} {scope : Scope} {dV kV doc pm cdv ct oc : Value} {an od : Option Addr} {osl : Array (Option Value)} {N : List Str}
    (lk : K.lookup f = some ⟨oc, od, .func (PySem.W.fnOf name qual params body scope dV kV doc pm an cdv ct), osl⟩) (hcd : PySem.W.codeIn K cdv qual = true) (S : FnScope N ps scope) (len : ∀ vs H Q E, sp vs H Q E → vs.length = ps.length)
    (hbody : ∀ (A : Around) (outer : List PySem.Env) (s : Shared) (H : Hp) (vs : List V) (Q : VK) (E : XK), RoomG k (A.deeper (envOfC qual scope s.heap.objs.size f cdv)) → sp vs H Q E →
      ∃ t, PSs (cxOf CX P w K mg base N qual scope f cdv A outer s H E) body t ∧ t { nx := fun _ H' => Q .non H', rt := Q } (start N vs) H) :
    FnG P w K mg base CX (k + 1) f (PySem.W.fnOf name qual params body scope dV kV doc pm an cdv ct) ps sp := by
  refine ⟨len, fun A outer s H args us vs Q E hr e0 hb r hsp => ?_⟩
  have inside : K.In s.heap := e0.mod.kin.keeps fun b o e => (e0.bs b o e).1
  have kinds : ∀ y ∈ ps.zip us, scope.names.lookup y.1 = some .local ∨ (scope.names.lookup y.1 = some .cell ∧ ((cellsFrom (s.heap.objs.size + 1) scope.names []).lookup y.1).isSome = true) := fun y hy =>
    (S.par y.1 (List.of_mem_zip hy).1).imp id fun q => ⟨q, PySem.W.cellsFrom_some _ _ _ (.inl q)⟩
  refine codeAny_call_function hr.rm.depth (inside _ _ lk) rfl S.co S.gen rfl (PySem.W.codeRec_of inside hcd) (hb _ _ _ _ (wpAny_newFunctionEnv_cells S.kind kinds fun env he s1 x => ?_))
  subst he
  obtain ⟨t, ht, hq⟩ := hbody A outer s H vs Q E (hr.deeper _) hsp
  refine ⟨(e0.mod.nolimit.keeps fun b o e => (e0.bs b o e).1).keeps x.toInCall.keep, codeAny_func ?_⟩
  refine wpAny_mono (ht.run [] s1 (start N vs) H _ (inv_start S hr.rm.hd e0 (len _ _ _ _ hsp) r x) hq) (fun fl s' hs => ?_) fun e s' hs => hs
  cases fl with
  | ret u => obtain ⟨v, σ', H', J, rv, q⟩ := hs; exact ⟨v, H', J.os, J.bare, J.base, J.hok, rv, q⟩
  | next => obtain ⟨σ', H', J, q⟩ := hs; exact ⟨.non, H', J.os, J.bare, J.base, J.hok, rfl, q⟩
  | brk => obtain ⟨σ', H', J, q⟩ := hs; exact absurd q id
  | cont => obtain ⟨σ', H', J, q⟩ := hs; exact absurd q id
end
section
variable {X : Cx} {CX : CXT} {k : Nat} {f : Addr} {fd : FuncData} {ps : List Str} {sp : Sp} {dvs : List V} {ds : List Value} {E : XK} {x : Str} {p pos : Pos} {e : Expr} {es : List Expr} {t tk : TA}
theorem runG {pins : List (Addr × Obj)} {σ : St} {H : Hp} {s : Shared} {Q : VK} {us : List Value} {vs : List V} (F : FnG X.prog X.w X.K X.mg X.base CX k f fd ps sp) (hr : RoomG k X.A) (hb : Binds X.K fd ps ds) (hd : Vals dvs ds) (hx : Passes CX X E)
    (I : Inv X pins σ H s) (r : Vals vs us) (h : sp (vs ++ dvs) H Q E) : wpAny (model X.prog X.w) X.A (call (.ref f) us) (EP X pins σ Q) X.xe s := by
  have r2 := r.append hd
  refine wpAny_call (codeAny_mono (F.run X.A X.stack s H ⟨us, []⟩ (us ++ ds) (vs ++ dvs) Q E hr I.env0 (hb s us I.kIn (by rw [← r2.length]; exact F.len _ _ _ _ h)) r2 h) fun r s' hq => ?_)
  cases r with
  | error e => exact hx pins σ H s e s' I hq
  | ok fl =>
    cases fl with
    | ret u => exact I.after hq
    | next => exact False.elim hq
    | brk => exact False.elim hq
    | cont => exact False.elim hq
theorem runGN {pins : List (Addr × Obj)} {σ : St} {H : Hp} {s : Shared} {Q : VK} {us ws : List Value} {vs zs : List V} {n : Nat} {ks : List Str} {g : List Value → List Value → List Value} {gV : List V → List V → List V} (F : FnG X.prog X.w X.K X.mg X.base CX k f fd ps sp) (hr : RoomG k X.A) (hb : KBn X.K fd ps n ks g gV) (hx : Passes CX X E)
    (I : Inv X pins σ H s) (r : Vals vs us) (rz : Vals zs ws) (l1 : vs.length = n) (l2 : zs.length = ks.length) (h : sp (gV vs zs) H Q E) : wpAny (model X.prog X.w) X.A (call (.ref f) us (ks.zip ws)) (EP X pins σ Q) X.xe s := by
  refine wpAny_call (codeAny_mono (F.run X.A X.stack s H ⟨us, ks.zip ws⟩ (g us ws) (gV vs zs) Q E hr I.env0 (hb.to s us ws I.kIn (r.length.symm.trans l1) (rz.length.symm.trans l2)) (hb.rel r rz) h) fun r s' hq => ?_)
  cases r with
  | error e => exact hx pins σ H s e s' I hq
  | ok fl =>
    cases fl with
    | ret u => exact I.after hq
    | next => exact False.elim hq
    | brk => exact False.elim hq
    | cont => exact False.elim hq
theorem peG (F : FnG X.prog X.w X.K X.mg X.base CX k f fd ps sp) (hr : RoomG k X.A) (hg : Gl X x) (hm : X.mg x = some (.ref f)) (hk : PySem.W.keepIn X.K (.ref f) = true) (hb : Binds X.K fd ps ds) (hd : Vals dvs ds) (hx : Passes CX X E)
    (ha : PA X (e :: es) t) (hdb : (x == ("__debug__" : Str)) = false := by decide) (he : starEach (e :: es) X.env = (false, eval e X.env) :: starEach es X.env := by rfl) (hpl : (backTo pos (starEach es X.env)).any (·.1) = false := by rfl) :
    PE X (.Call (.Name x p) (e :: es) [] pos) (tCall sp dvs E t) :=
  ⟨fun pins s σ H Q I h => wpAny_Call_Name_kw (ld_glob I hg hm (PySem.W.callWith_K (h₀ := X.base) I.ok.mod.kin hk (thn (ha.run pos pins s σ H _ I h) fun us s1 ⟨vs, H1, I1, r, q⟩ => ⟨I1.kIn, runG F hr hb hd hx I1 r q⟩) he hpl) hdb)⟩
theorem peG0 (F : FnG X.prog X.w X.K X.mg X.base CX k f fd ps sp) (hr : RoomG k X.A) (hg : Gl X x) (hm : X.mg x = some (.ref f)) (hk : PySem.W.keepIn X.K (.ref f) = true) (hb : Binds X.K fd ps ds) (hd : Vals dvs ds) (hx : Passes CX X E)
    (hdb : (x == ("__debug__" : Str)) = false := by decide) : PE X (.Call (.Name x p) [] [] pos) (tCall sp dvs E tNil) :=
  ⟨fun pins s σ H Q I h => wpAny_Call_Name_kw (ld_glob I hg hm (PySem.W.callWith_K0 I.kIn hk (runG (us := []) F hr hb hd hx I .nil h)) hdb)⟩
theorem peGL {i : Nat} (F : FnG X.prog X.w X.K X.mg X.base CX k f fd ps sp) (hr : RoomG k X.A) (hN : X.N[i]? = some x) (hv : Vis X.env.scope x) (hk : PySem.W.keepIn X.K (.ref f) = true) (hb : Binds X.K fd ps ds) (hd : Vals dvs ds) (hx : Passes CX X E) (ha : PA X (e :: es) t)
    (hdb : (x == ("__debug__" : Str)) = false := by decide) (hcd : (x == ("__classdict__" : Str)) = false := by decide)
    (he : starEach (e :: es) X.env = (false, eval e X.env) :: starEach es X.env := by rfl) (hpl : (backTo pos (starEach es X.env)).any (·.1) = false := by rfl) : PE X (.Call (.Name x p) (e :: es) [] pos) (tCallL i f sp dvs E t) := by
  refine ⟨fun pins s σ H Q I h => wpAny_Call_Name_kw (thn ((pe_var (pos := p) hN hv hdb hcd).run pins s σ H (fun v H1 => v = .ref f ∧ H1 = H) I ⟨.ref f, h.1, rfl, rfl⟩) fun u s1 ⟨v, H1, I1, r1, q1⟩ => ?_)⟩
  obtain ⟨rfl, rfl⟩ := q1
  cases r1
  exact PySem.W.callWith_K (h₀ := X.base) I.ok.mod.kin hk (thn (ha.run pos pins s1 σ _ _ I1 h.2) fun us s2 ⟨vs, H2, I2, r, q⟩ => ⟨I2.kIn, runG F hr hb hd hx I2 r q⟩) he hpl
theorem peGN {n : Nat} {ks : List Str} {kws : List Keyword} {g : List Value → List Value → List Value} {gV : List V → List V → List V} (F : FnG X.prog X.w X.K X.mg X.base CX k f fd ps sp) (hr : RoomG k X.A) (hg : Gl X x) (hm : X.mg x = some (.ref f)) (hk : PySem.W.keepIn X.K (.ref f) = true) (hb : KBn X.K fd ps n ks g gV) (hx : Passes CX X E)
    (ha : PA X (e :: es) t) (hkw : PK X kws tk) (hall : (backToKw pos (keywordEach kws X.env)).all (·.1.isSome) = true := by rfl) (hks : (backToKw pos (keywordEach kws X.env)).filterMap (·.1) = ks := by rfl)
    (hdb : (x == ("__debug__" : Str)) = false := by decide) (he : starEach (e :: es) X.env = (false, eval e X.env) :: starEach es X.env := by rfl)
    (hpl : ((backTo pos (starEach (e :: es) X.env)).any (·.1) || (backToKw pos (keywordEach kws X.env)).any (·.1.isNone)) = false := by rfl) :
    PE X (.Call (.Name x p) (e :: es) kws pos) (tCallN n ks.length sp gV E t tk) := by
  refine ⟨fun pins s σ H Q I h => wpAny_Call_Name_kw (ld_glob I hg hm ?_ hdb)⟩
  refine PySem.W.callWith_KW (h₀ := X.base) I.ok.mod.kin hk hall (thn (ha.run pos pins s σ H _ I h) fun us s1 ⟨vs, H1, I1, r, q⟩ => ?_) hpl he
  refine thn (hkw.run pos pins s1 σ H1 _ I1 q) fun ws s2 ⟨zs, H2, I2, rz, l1, l2, q2⟩ => ⟨I2.kIn, ?_⟩
  rw [hks]
  exact runGN F hr hb hx I2 r rz l1 l2 q2
theorem peGN0 {ks : List Str} {kws : List Keyword} {g : List Value → List Value → List Value} {gV : List V → List V → List V} (F : FnG X.prog X.w X.K X.mg X.base CX k f fd ps sp) (hr : RoomG k X.A) (hg : Gl X x) (hm : X.mg x = some (.ref f)) (hk : PySem.W.keepIn X.K (.ref f) = true) (hb : KBn X.K fd ps 0 ks g gV) (hx : Passes CX X E)
    (hkw : PK X kws tk) (hall : (backToKw pos (keywordEach kws X.env)).all (·.1.isSome) = true := by rfl) (hks : (backToKw pos (keywordEach kws X.env)).filterMap (·.1) = ks := by rfl)
    (hdb : (x == ("__debug__" : Str)) = false := by decide) (hpl : ((backTo pos (starEach [] X.env)).any (·.1) || (backToKw pos (keywordEach kws X.env)).any (·.1.isNone)) = false := by rfl) :
    PE X (.Call (.Name x p) [] kws pos) (tCallN 0 ks.length sp gV E tNil tk) := by
  refine ⟨fun pins s σ H Q I h => wpAny_Call_Name_kw (ld_glob I hg hm ?_ hdb)⟩
  refine PySem.W.callWith_KW0 (h₀ := X.base) I.ok.mod.kin hk hall ?_ hpl
  refine thn (hkw.run pos pins s σ H _ I h) fun ws s2 ⟨zs, H2, I2, rz, l1, l2, q2⟩ => ⟨I2.kIn, ?_⟩
  rw [hks]
  exact runGN F hr hb hx I2 .nil rz rfl l2 q2
end
end PD
end
section
set_option Elab.async false
set_option linter.all false
set_option maxRecDepth 100000
set_option autoImplicit false
namespace PD
open PySem L2 PyProof.Rows

section
variable {K : PySem.W.Frag} {mg : Str → Option Value} {M : Root → Prop} {ca ca' ca'' : List Addr} {F F' F'' H H' H'' : Hp} {fp fp' fp'' : Fp} {σ σ' : St} {env env' : Env} {cs cs' : CS} {t : T}
/-! ### calls of defs -/
def fpC (fp : Fp) : Fp
  | .slot _ => []
  | .cell i => fp (.cell i)
theorem Sim.cells (S : Sim K mg ca F H σ env cs fp) : Sim K mg ca F H [] [] cs (fpC fp) where
  sub := S.sub
  le := Nat.le_refl _
  slot := fun i t e => by simp at e
  len := S.len
  cell := S.cell
  nd := fun r => by cases r with
    | slot i => exact List.nodup_nil
    | cell i => exact S.nd _
  dj := fun r r' hr a ha => by
    cases r with
    | slot i => cases ha
    | cell i =>
      cases r' with
      | slot j => exact fun z => nomatch z
      | cell j => exact S.dj _ _ hr a ha
  own := fun r a ha => by
    cases r with
    | slot i => cases ha
    | cell i => exact S.own _ a ha
theorem Sim.call (S : Sim K mg ca F H σ env cs fp) (st : Step MC ca F H (fpC fp) ca' F' H' fp') (S' : Sim K mg ca' F' H' [] [] cs' fp') :
    Step MC ca F H fp ca' F' H' (fpBack fp fp') ∧ Sim K mg ca' F' H' σ env cs' (fpBack fp fp') := by
  have inC : ∀ r a, a ∈ fpC fp r → a ∈ fp r := fun r a ha => by
    cases r with
    | slot i => cases ha
    | cell i => exact ha
  have notC : ∀ i, ∀ a ∈ fp (.slot i), ∀ r, a ∉ fpC fp r := fun i a ha r z => by
    cases r with
    | slot j => cases z
    | cell j => exact S.dj _ _ (by simp) a ha z
  have stay : ∀ i, ∀ a ∈ fp (.slot i), ∀ o, H a = some o → H' a = some o := fun i a ha o e => st.ext a o e fun r _ z => notC i a ha r z
  have noF : ∀ i, ∀ a ∈ fp (.slot i), F' a = none := fun i a ha => by
    obtain ⟨f, o, e, _⟩ := S.own _ a ha
    cases q : F' a with
    | none => rfl
    | some u =>
      rcases st.nf a u q with z | z | ⟨r, z⟩
      · rw [f] at z; cases z
      · rw [e] at z; cases z
      · exact absurd z (notC i a ha r)
  have cellsA : ∀ i, ∀ a ∈ fp' (.cell i), ∀ j, a ∉ fp (.slot j) := fun i a ha j z => by
    rcases st.sub _ a ha with q | q
    · exact notC j a z _ q
    · obtain ⟨_, o, e, _⟩ := S.own _ a z
      rw [q] at e; cases e
  refine ⟨⟨st.pre, st.ff, fun a o e => ?_, fun a o e hm => st.ext a o e fun r hr z => hm r hr (inC r a z), fun r a ha => ?_, st.alive⟩, ⟨S'.sub, S.le, fun i t e => ?_, S'.len, S'.cell, fun r => ?_, fun r r' hr a ha z => ?_, fun r a ha => ?_⟩⟩
  · rcases st.nf a o e with z | z | ⟨r, z⟩
    · exact .inl z
    · exact .inr (.inl z)
    · exact .inr (.inr ⟨r, inC r a z⟩)
  · cases r with
    | slot i => exact .inl ha
    | cell i => exact st.sub (.cell i) a ha
  · obtain ⟨v, e1, r⟩ := S.slot i t e
    exact ⟨v, e1, RepT.keep st.ff st.pre t v _ r (noF i) (stay i)⟩
  · cases r with
    | slot i => exact S.nd _
    | cell i => exact S'.nd _
  · cases r with
    | slot i =>
      cases r' with
      | slot j => exact S.dj _ _ hr a ha z
      | cell j => exact cellsA j a z i ha
    | cell i =>
      cases r' with
      | slot j => exact cellsA i a ha j z
      | cell j => exact S'.dj _ _ hr a ha z
  · cases r with
    | slot i =>
      obtain ⟨_, o, e, p⟩ := S.own _ a ha
      exact ⟨noF i a ha, o, stay i a ha o e, p⟩
    | cell i => exact S'.own _ a ha
end
/-- what a def promises: it does what m tells -/
def spM (K : PySem.W.Frag) (mg : Str → Option Value) (n : Nat) (m : Fn) : Sp := fun vs H Q _ => vs.length = n ∧ ∃ ca F cs fp ds t cs', Sim K mg ca F H [] [] cs fp ∧ (∀ i, fp (.slot i) = []) ∧ RepDs K mg ca F vs ds ∧ m ds cs = some (t, cs') ∧
  ∀ (v : V) (ca' : List Addr) (F' H' : Hp) (fp' : Fp) (w : List Addr), Step MC ca F H fp ca' F' H' fp' → Sim K mg ca' F' H' [] [] cs' fp' → RepT K mg ca' F' H' v t w → w.Nodup →
    (∀ a ∈ w, H a = none) → (∀ r, ∀ a ∈ w, a ∉ fp' r) → Q v H'
section
variable {X : Cx} {K : PySem.W.Frag} {mg : Str → Option Value}
theorem snd_call {ta : TA} {av : Av} {m : Fn} {n : Nat} {dvs : List V} {dds : List D} {E : XK} (ha : SndA K mg ta av) (hn : ∀ env cs ts env' cs', av env cs = some (ts, env', cs') → ts.length + dvs.length = n) (hd : ∀ ca F, RepDs K mg ca F dvs dds) :
    SndE K mg (tCall (spM K mg n m) dvs E ta) (eCall m dds av) := by
  intro ca F H σ env cs fp t env' cs' Q S h k
  unfold eCall at h
  split at h
  · cases h
  · rename_i ts env1 cs1 h1
    split at h
    · cases h
    · rename_i r cs2 h2
      cases h
      refine ha.data S h1 fun vs ca1 F1 H1 fp1 st1 S1 r1 => ?_
      refine ⟨?_, ca1, F1, cs1, fpC fp1, _, _, _, S1.cells, fun _ => rfl, RepDs.append r1 (hd ca1 F1), h2, fun v ca' F' H' fp' w st S' r nd fr dj => ?_⟩
      · rw [List.length_append, RepDs.length r1, toDs_len]; exact hn _ _ _ _ _ h1
      · obtain ⟨st2, S2⟩ := S1.call st S'
        refine Kont.keep S k v ca' F' H' _ w (st1.trans st2) S2 r nd (fun a ha => st1.noneOf (fr a ha)) fun r a ha z => ?_
        cases r with
        | slot i =>
          obtain ⟨_, o, e, _⟩ := S1.own _ a z
          rw [fr a ha] at e; cases e
        | cell i => exact dj _ a ha z
theorem ee_call {k : Nat} {f : Addr} {fd : FuncData} {ps : List Str} {x : Str} {p pos : Pos} {e : Expr} {es : List Expr} {ta : TA} {av : Av} {m : Fn} {dvs : List V} {ds : List Value} {dds : List D}
    (G : FnG X.prog X.w X.K X.mg X.base CX0 k f fd ps (spM X.K X.mg ps.length m)) (hr : RoomG k X.A) (hm : X.mg x = some (.ref f)) (hk : PySem.W.keepIn X.K (.ref f) = true) (hb : Binds X.K fd ps ds) (hd : Vals dvs ds) (hdd : ∀ ca F, RepDs X.K X.mg ca F dvs dds)
    (ha : EA X (e :: es) ta av) (hn : (e :: es).length + dvs.length = ps.length := by rfl) (hx : Passes CX0 X E0 := by exact pass0) (hg : Gl X x := by rfl) (hdb : (x == ("__debug__" : Str)) = false := by decide) (he : starEach (e :: es) X.env = (false, eval e X.env) :: starEach es X.env := by rfl)
    (hpl : (backTo pos (starEach es X.env)).any (·.1) = false := by rfl) : EE X (.Call (.Name x p) (e :: es) [] pos) (tCall (spM X.K X.mg ps.length m) dvs E0 ta) (eCall m dds av) :=
  ⟨peG G hr hg hm hk hb hd hx ha.pa hdb he hpl, snd_call ha.snd (fun env cs ts env' cs' h => by rw [ha.len _ _ _ _ _ h]; exact hn) hdd⟩
theorem ee_call0 {k : Nat} {f : Addr} {fd : FuncData} {ps : List Str} {x : Str} {p pos : Pos} {m : Fn} {dvs : List V} {ds : List Value} {dds : List D}
    (G : FnG X.prog X.w X.K X.mg X.base CX0 k f fd ps (spM X.K X.mg ps.length m)) (hr : RoomG k X.A) (hm : X.mg x = some (.ref f)) (hk : PySem.W.keepIn X.K (.ref f) = true) (hb : Binds X.K fd ps ds) (hd : Vals dvs ds) (hdd : ∀ ca F, RepDs X.K X.mg ca F dvs dds)
    (hn : dvs.length = ps.length := by rfl) (hx : Passes CX0 X E0 := by exact pass0) (hg : Gl X x := by rfl) (hdb : (x == ("__debug__" : Str)) = false := by decide) : EE X (.Call (.Name x p) [] [] pos) (tCall (spM X.K X.mg ps.length m) dvs E0 tNil) (eCall m dds aNil) :=
  ⟨peG0 G hr hg hm hk hb hd hx hdb, snd_call ea_nil.snd (fun env cs ts env' cs' h => by cases h; simpa using hn) hdd⟩
end

/-! ### iterators -/
section
variable {X : Cx} {K : PySem.W.Frag} {mg : Str → Option Value}
/-- signs of a text -/
def signs (x : Str) : List D := x.cps.toList.map fun c => D.str ⟨#[c]⟩
def itemsOf : D → Option (List D)
  | .lst xs => some xs
  | .rlst xs => some xs
  | .tup _ xs => some xs
  | .str x => some (signs x)
  | _ => none
def iSeq (a : Ev) : Iv := fun env cs => match a env cs with
  | some (t, env1, cs1) => (match itemsOf t.toD with
    | some xs => some (xs, env1, cs1)
    | none => none)
  | none => none
/-- a list, a tuple, a text walked -/
def wSeq (K : PySem.W.Frag) (tl : TE) : TI := fun σ H R => tl σ H fun x H1 => (∃ a, x = .ref a ∧ (∃ xs, SqL K H1 a xs) ∧ R (Itl K a) H1) ∨ (∃ a, x = .ref a ∧ (∃ xs, SqT K H1 a xs) ∧ R (Itt K a) H1) ∨ ∃ y, x = .str y ∧ R (Its y) H1
theorem pi_seq {tg l : Expr} {tl : TE} (hl : PE X l tl) : PI X tg l (wSeq X.K tl) := by
  refine ⟨fun pins s σ H R I h => ?_⟩
  refine thn (hl.run pins s σ H _ I h) fun v s1 ⟨x, H1, I1, r1, q1⟩ => ?_
  rcases q1 with ⟨a, e, ⟨xs, hq⟩, q⟩ | ⟨a, e, ⟨xs, hq⟩, q⟩ | ⟨y, e, q⟩
  · subst e
    cases r1
    obtain ⟨its, rv, p, hz⟩ := I1.list hq
    refine wpAny_pyIter_list p.isList ?_
    refine ⟨s1.heap.objs.size, [s1.heap.objs.size], _, _, H1, rfl, I1.kept (t' := s1.toks) fun b o e => Heap.get?_push_of_some _ e, turn_list a _, ⟨_, Heap.get?_push_size _ rfl, rfl, rfl⟩, fun b hb => ?_, q⟩
    have e : b = s1.heap.objs.size := by simpa using hb
    subst e
    exact I1.fpOk (Nat.le_refl _) (I1.hok.fresh (Nat.le_refl _))
  · subst e
    cases r1
    obtain ⟨its, rv, p, hz⟩ := I1.tuple hq
    refine wpAny_pyIter_tuple (show s1.heap.IsTuple a its.toArray from p) ?_
    refine ⟨s1.heap.objs.size, [s1.heap.objs.size], _, _, H1, rfl, I1.kept (t' := s1.toks) fun b o e => Heap.get?_push_of_some _ e, turn_tuple a _, ⟨_, Heap.get?_push_size _ rfl, rfl, rfl⟩, fun b hb => ?_, q⟩
    have e : b = s1.heap.objs.size := by simpa using hb
    subst e
    exact I1.fpOk (Nat.le_refl _) (I1.hok.fresh (Nat.le_refl _))
  · subst e
    obtain ⟨t, rfl⟩ := r1
    cases ha : y.cps.all (· < 128)
    · exact wpAny_pyIter_wide ha (pi_one (tk := s1.toks) I1 _ (turn_str _ y t "str_iterator" (.inr rfl)) ⟨_, Heap.get?_push_size _ rfl, rfl, rfl⟩ q)
    · exact wpAny_pyIter_ascii ha (pi_one (tk := s1.toks) I1 _ (turn_str _ y t "str_ascii_iterator" (.inl rfl)) ⟨_, Heap.get?_push_size _ rfl, rfl, rfl⟩ q)
theorem itOk_list {ca : List Addr} {F : Hp} {a : Addr} {vs : List V} {ds : List D} (hq : SqL K F a vs) (r : RepDs K mg ca F vs ds) : ItOk K mg ca F (Itl K a) ds := fun i G hG => by
  have hl := RepDs.length r
  refine ⟨fun d hd => ?_, fun hi => ⟨vs, SqL.mono hG hq, by omega⟩⟩
  obtain ⟨v, e, rd⟩ := RepDs.get r hd
  refine ⟨⟨vs, v, SqL.mono hG hq, e⟩, fun x G' y => ?_⟩
  obtain ⟨rfl, y⟩ := y
  have q := y vs (SqL.mono hG hq)
  rw [e] at q
  cases q
  exact .inl ⟨rfl, rd⟩
theorem itOk_tup {ca : List Addr} {F : Hp} {a : Addr} {vs : List V} {ds : List D} (hq : SqT K F a vs) (r : RepDs K mg ca F vs ds) : ItOk K mg ca F (Itt K a) ds := fun i G hG => by
  have hl := RepDs.length r
  refine ⟨fun d hd => ?_, fun hi => ⟨vs, SqT.mono hG hq, by omega⟩⟩
  obtain ⟨v, e, rd⟩ := RepDs.get r hd
  refine ⟨⟨vs, v, SqT.mono hG hq, e⟩, fun x G' y => ?_⟩
  obtain ⟨rfl, y⟩ := y
  have q := y vs (SqT.mono hG hq)
  rw [e] at q
  cases q
  exact .inl ⟨rfl, rd⟩
theorem sign_ok {x : Str} (ho : PyData.strOk x = true) {c : Nat} {i : Nat} (h : x.cps[i]? = some c) : PyData.strOk (⟨#[c]⟩ : Str) = true := by
  unfold PyData.strOk at ho ⊢
  rw [Array.all_eq_true] at ho
  obtain ⟨hi, e⟩ := Array.getElem?_eq_some_iff.mp h
  have q := ho i hi
  rw [e] at q
  simpa using q
theorem itOk_str {ca : List Addr} {F : Hp} {x : Str} (ho : PyData.strOk x = true) : ItOk K mg ca F (Its x) (signs x) := fun i G hG => by
  unfold signs
  refine ⟨fun d hd => ?_, fun hi => ?_⟩
  · rw [List.getElem?_map] at hd
    cases e : x.cps.toList[i]? with
    | none => rw [e] at hd; cases hd
    | some c =>
      rw [e] at hd
      cases hd
      have e2 : x.cps[i]? = some c := by rw [← Array.getElem?_toList]; exact e
      refine ⟨(Array.getElem?_eq_some_iff.mp e2).1, fun v G' y => ?_⟩
      obtain ⟨rfl, c', e3, rfl⟩ := y
      rw [e2] at e3
      cases e3
      exact .inl ⟨rfl, .str _ (by show 1 ≤ sizeLine; decide) (sign_ok ho e2)⟩
  · rw [List.length_map, Array.length_toList] at hi
    exact hi
theorem snd_seq {ta : TE} {ea : Ev} (ha : SndE K mg ta ea) : SndI K mg (wSeq K ta) (iSeq ea) := by
  intro ca F H σ env cs fp ds env' cs' R S h k
  unfold iSeq at h
  split at h
  · rename_i t env1 cs1 h1
    split at h
    · rename_i xs e
      cases h
      refine ha.data S h1 fun x ca1 F1 H1 fp1 st1 S1 r1 => ?_
      cases q : t.toD with
      | lst ys =>
        rw [q] at e r1; cases e
        cases r1 with
        | lst a l r => exact .inl ⟨_, rfl, ⟨_, .inl (.inl (S1.sub _ _ a))⟩, k ca1 F1 H1 fp1 _ st1 S1 (itOk_list (.inl (.inl a)) r) (by rw [← RepDs.length r]; exact l)⟩
      | rlst ys =>
        rw [q] at e r1; cases e
        cases r1 with
        | rlst a l r => exact .inl ⟨_, rfl, ⟨_, SqL.mono S1.sub a⟩, k ca1 F1 H1 fp1 _ st1 S1 (itOk_list a r) (by rw [← RepDs.length r]; exact l)⟩
      | tup _ ys =>
        rw [q] at e r1; cases e
        cases r1 with
        | tup a l r => exact .inr (.inl ⟨_, rfl, ⟨_, SqT.mono S1.sub a.sq⟩, k ca1 F1 H1 fp1 _ st1 S1 (itOk_tup a.sq r) (by rw [← RepDs.length r]; exact l)⟩)
      | str x =>
        rw [q] at e r1; cases e
        cases r1 with
        | str _ l o => exact .inr (.inr ⟨_, rfl, k ca1 F1 H1 fp1 _ st1 S1 (itOk_str o) (by unfold signs; rw [List.length_map, Array.length_toList]; exact l)⟩)
      | _ => rw [q] at e; cases e
    · cases h
  · cases h
theorem ei_seq {tg l : Expr} {tl : TE} {el : Ev} (hl : EE X l tl el) : EI X tg l (wSeq X.K tl) (iSeq el) := ⟨pi_seq hl.pe, snd_seq hl.snd⟩
/-! range -/
def intsD (lo : Int) (n : Nat) : List D := (List.range n).map fun i => D.int (lo + (i : Nat))
theorem intsD_length (lo : Int) (n : Nat) : (intsD lo n).length = n := by unfold intsD; simp
def iRg1 (a : Av) : Iv := fun env cs => match a env cs with
  | some ([t], env1, cs1) => (match t.toD with
    | .int j => if j ≤ 16777216 ∧ -(2 ^ 62) ≤ j then some (intsD 0 j.toNat, keep env env1 (.sh .non) cs1, cs1) else none
    | _ => none)
  | _ => none
def iRg2 (a : Av) : Iv := fun env cs => match a env cs with
  | some ([t, u], env1, cs1) => (match t.toD, u.toD with
    | .int i, .int j => if j - i ≤ 16777216 ∧ -(2 ^ 61) ≤ i ∧ i < 2 ^ 61 ∧ -(2 ^ 61) ≤ j then some (intsD i (j - i).toNat, keep env env1 (.sh .non) cs1, cs1) else none
    | _, _ => none)
  | _ => none
theorem itOk_range {ca : List Addr} {F : Hp} (lo : Int) (n : Nat) : ItOk K mg ca F (Itr lo n) (intsD lo n) := fun i G hG => by
  refine ⟨fun d hd => ?_, fun hi => by rw [intsD_length] at hi; exact hi⟩
  unfold intsD at hd
  rw [List.getElem?_map] at hd
  by_cases h : i < n
  · rw [List.getElem?_range h] at hd
    cases hd
    refine ⟨h, fun x G' y => ?_⟩
    obtain ⟨rfl, rfl⟩ := y
    exact .inl ⟨rfl, .int _⟩
  · rw [List.getElem?_eq_none (by simpa using h)] at hd
    cases hd
/-- giving back, where nothing is handed on -/
theorem keepI {ca ca' : List Addr} {F F' H H' : Hp} {fp fp' : Fp} {σ : St} {env env' : Env} {cs cs' : CS} (S : Sim K mg ca F H σ env cs fp) (st : Step MC ca F H fp ca' F' H' fp') (S' : Sim K mg ca' F' H' σ env' cs' fp') :
    ∃ F2 fp2, Step MC ca F H fp ca' F2 H' fp2 ∧ Sim K mg ca' F2 H' σ (keep env env' (.sh .non) cs') cs' fp2 := by
  unfold keep
  cases hb : ((T.sh .non).flat && cs'.all T.cellFlat) with
  | false => exact ⟨F', fp', st, S'⟩
  | true =>
    simp only [Bool.and_eq_true] at hb
    obtain ⟨st2, S2, _⟩ := S.restore st S' hb.2
    exact ⟨_, _, st2, S2⟩
theorem toDs1 {t : T} : T.toDs [t] = [t.toD] := by simp [T.toDs]
theorem int_of {ca : List Addr} {F : Hp} {v : V} {i : Int} (h : RepD K mg ca F v (.int i)) : v = .int i := by cases h; rfl
theorem snd_rg1 {ta : TA} {av : Av} (ha : SndA K mg ta av) : SndI K mg (iRng1 ta) (iRg1 av) := by
  intro ca F H σ env cs fp ds env' cs' R S h k
  unfold iRg1 at h
  split at h
  · rename_i t env1 cs1 h1
    split at h
    · rename_i j e
      split at h
      · rename_i hj
        cases h
        refine ha.data S h1 fun vs ca1 F1 H1 fp1 st1 S1 r1 => ?_
        rw [toDs1, e] at r1
        cases r1 with
        | cons h1 h2 =>
          cases h2
          obtain ⟨F2, fp2, st2, S2⟩ := keepI S st1 S1
          refine ⟨j, by rw [int_of h1], hj.2, by have := hj.1; omega, k ca1 F2 H1 fp2 _ st2 S2 (itOk_range 0 _) ?_⟩
          rw [intsD_length, sizeLine_eq]
          have := hj.1
          omega
      · cases h
    · cases h
  · cases h
theorem ei_rg1 {tg a : Expr} {ta : TA} {av : Av} {p pos : Pos} (hm : X.mg "range" = none) (ha : EA X [a] ta av) (hg : Gl X "range" := by rfl) (hs : starEach [a] X.env = [(false, eval a X.env)] := by rfl) : EI X tg (.Call (.Name "range" p) [a] [] pos) (iRng1 ta) (iRg1 av) := ⟨pi_range1 hg hm ha.pa hs, snd_rg1 ha.snd⟩
theorem snd_rg2 {ta : TA} {av : Av} (ha : SndA K mg ta av) : SndI K mg (iRng2 ta) (iRg2 av) := by
  intro ca F H σ env cs fp ds env' cs' R S h k
  unfold iRg2 at h
  split at h
  · rename_i t u env1 cs1 h1
    split at h
    · rename_i i j e1 e2
      split at h
      · rename_i hj
        cases h
        refine ha.data S h1 fun vs ca1 F1 H1 fp1 st1 S1 r1 => ?_
        have e : T.toDs [t, u] = [D.int i, D.int j] := by simp [T.toDs, e1, e2]
        rw [e] at r1
        cases r1 with
        | cons h1 h2 =>
          cases h2 with
          | cons h2 h3 =>
            cases h3
            obtain ⟨F2, fp2, st2, S2⟩ := keepI S st1 S1
            refine ⟨i, j, by rw [int_of h1, int_of h2], by omega, k ca1 F2 H1 fp2 _ st2 S2 (itOk_range i _) ?_⟩
            rw [intsD_length, sizeLine_eq]
            omega
      · cases h
    · cases h
  · cases h
theorem ei_rg2 {tg a b : Expr} {ta : TA} {av : Av} {p pos : Pos} (hm : X.mg "range" = none) (ha : EA X [a, b] ta av) (hg : Gl X "range" := by rfl) (hs : starEach [a, b] X.env = [(false, eval a X.env), (false, eval b X.env)] := by rfl) (hs2 : starEach [b] X.env = [(false, eval b X.env)] := by rfl) :
    EI X tg (.Call (.Name "range" p) [a, b] [] pos) (iRng2 ta) (iRg2 av) := ⟨pi_range2 hg hm ha.pa hs hs2, snd_rg2 ha.snd⟩
/-! zip -/
def pairsD : List D → List D → List D
  | a :: as, b :: bs => .tup .ex [a, b] :: pairsD as bs
  | _, _ => []
theorem pairsD_len : ∀ as bs : List D, (pairsD as bs).length = min as.length bs.length
  | [], bs => by cases bs <;> simp [pairsD]
  | a :: as, [] => by simp [pairsD]
  | a :: as, b :: bs => by simp [pairsD, pairsD_len as bs, Nat.succ_min_succ]
theorem pairsD_get : ∀ (as bs : List D) (i : Nat) (d : D), (pairsD as bs)[i]? = some d → ∃ a b, as[i]? = some a ∧ bs[i]? = some b ∧ d = .tup .ex [a, b]
  | [], bs, i, d, h => by cases bs <;> simp [pairsD] at h
  | a :: as, [], i, d, h => by simp [pairsD] at h
  | a :: as, b :: bs, 0, d, h => by simp [pairsD] at h; exact ⟨a, b, rfl, rfl, h.symm⟩
  | a :: as, b :: bs, i + 1, d, h => by
    obtain ⟨x, y, e1, e2, e3⟩ := pairsD_get as bs i d (by simpa [pairsD] using h)
    exact ⟨x, y, by simpa using e1, by simpa using e2, e3⟩
def iZp (a : Av) : Iv := fun env cs => match a env cs with
  | some ([t, u], env1, cs1) => (match t.toD, u.toD with
    | .lst xs, .lst ys => some (pairsD xs ys, env1, cs1)
    | .rlst xs, .lst ys => some (pairsD xs ys, env1, cs1)
    | .lst xs, .rlst ys => some (pairsD xs ys, env1, cs1)
    | .rlst xs, .rlst ys => some (pairsD xs ys, env1, cs1)
    | .tup _ xs, .tup _ ys => some (pairsD xs ys, env1, cs1)
    | _, _ => none)
  | _ => none
theorem itY_pair {ca : List Addr} {F G : Hp} {p : Addr} {x y : V} {a b : D} (hG : Sub F G) (hp : G p = none) (r1 : RepD K mg ca F x a) (r2 : RepD K mg ca F y b) : ItY K mg ca F G (.tup .ex [a, b]) (.ref p) (upd G p (.tup [x, y])) := by
  have fp' : F p = none := hG.none hp
  have ff : Sub F (upd F p (.tup [x, y])) := fun a u e => by rw [upd_ne (ne_of_none e fp')]; exact e
  exact .inr ⟨p, [x, y], hp, rfl, .tup (t := .ex) (show TupAt _ _ .ex _ _ from upd_same) (by show 2 ≤ sizeLine; decide) (.cons (RepD.mono ff .refl _ _ r1) (.cons (RepD.mono ff .refl _ _ r2) .nil))⟩
theorem itOk_zipL {ca : List Addr} {F : Hp} {a b : Addr} {vs us : List V} {ds es : List D} (hq : SqL K F a vs) (r : RepDs K mg ca F vs ds) (hq' : SqL K F b us) (r' : RepDs K mg ca F us es) : ItOk K mg ca F (Itz K a b) (pairsD ds es) := fun i G hG => by
  have hl := RepDs.length r
  have hl' := RepDs.length r'
  refine ⟨fun d hd => ?_, fun hi => ⟨vs, us, SqL.mono hG hq, SqL.mono hG hq', by rw [pairsD_len] at hi; omega⟩⟩
  obtain ⟨x, y, e1, e2, rfl⟩ := pairsD_get ds es i d hd
  obtain ⟨v, e3, rd⟩ := RepDs.get r e1
  obtain ⟨u, e4, rd'⟩ := RepDs.get r' e2
  refine ⟨⟨vs, us, v, u, SqL.mono hG hq, SqL.mono hG hq', e3, e4⟩, fun z G' w => ?_⟩
  obtain ⟨p, x', y', rfl, hp, rfl, q1, q2⟩ := w
  have q1 := q1 vs (SqL.mono hG hq)
  have q2 := q2 us (SqL.mono hG hq')
  rw [e3] at q1
  rw [e4] at q2
  cases q1
  cases q2
  exact itY_pair hG hp rd rd'
theorem itOk_zipT {ca : List Addr} {F : Hp} {a b : Addr} {vs us : List V} {ds es : List D} (hq : SqT K F a vs) (r : RepDs K mg ca F vs ds) (hq' : SqT K F b us) (r' : RepDs K mg ca F us es) : ItOk K mg ca F (RZ.ItzT K a b) (pairsD ds es) := fun i G hG => by
  have hl := RepDs.length r
  have hl' := RepDs.length r'
  refine ⟨fun d hd => ?_, fun hi => ⟨vs, us, SqT.mono hG hq, SqT.mono hG hq', by rw [pairsD_len] at hi; omega⟩⟩
  obtain ⟨x, y, e1, e2, rfl⟩ := pairsD_get ds es i d hd
  obtain ⟨v, e3, rd⟩ := RepDs.get r e1
  obtain ⟨u, e4, rd'⟩ := RepDs.get r' e2
  refine ⟨⟨vs, us, v, u, SqT.mono hG hq, SqT.mono hG hq', e3, e4⟩, fun z G' w => ?_⟩
  obtain ⟨p, x', y', rfl, hp, rfl, q1, q2⟩ := w
  have q1 := q1 vs (SqT.mono hG hq)
  have q2 := q2 us (SqT.mono hG hq')
  rw [e3] at q1
  rw [e4] at q2
  cases q1
  cases q2
  exact itY_pair hG hp rd rd'
theorem RepD.seqL {ca : List Addr} {F : Hp} {v : V} {d : D} {xs : List D} (h : RepD K mg ca F v d) (e : d = .lst xs ∨ d = .rlst xs) : ∃ a vs, v = .ref a ∧ SqL K F a vs ∧ RepDs K mg ca F vs xs ∧ vs.length ≤ sizeLine := by
  rcases e with rfl | rfl
  · cases h with | lst a l r => exact ⟨_, _, rfl, .inl (.inl a), r, l⟩
  · cases h with | rlst a l r => exact ⟨_, _, rfl, a, r, l⟩
theorem snd_zip {ta : TA} {av : Av} (ha : SndA K mg ta av) : SndI K mg (RZ.iZipA K ta) (iZp av) := by
  intro ca F H σ env cs fp ds env' cs' R S h k
  unfold iZp at h
  split at h
  · rename_i t u env1 cs1 h1
    have main : ∀ xs ys, (t.toD = .lst xs ∨ t.toD = .rlst xs) → (u.toD = .lst ys ∨ u.toD = .rlst ys) → ds = pairsD xs ys → env' = env1 → cs' = cs1 → RZ.iZipA K ta σ H R := fun xs ys e1 e2 e3 e4 e5 => by
      subst e3 e4 e5
      refine ha.data S h1 fun vs ca1 F1 H1 fp1 st1 S1 r1 => ?_
      have e : T.toDs [t, u] = [t.toD, u.toD] := by simp [T.toDs]
      rw [e] at r1
      cases r1 with
      | cons h1 h2 =>
        cases h2 with
        | cons h2 h3 =>
          cases h3
          obtain ⟨a, vs, rfl, q1, r1, l1⟩ := RepD.seqL h1 e1
          obtain ⟨b, us, rfl, q2, r2, l2⟩ := RepD.seqL h2 e2
          refine ⟨a, b, vs, us, rfl, .inl ⟨SqL.mono S1.sub q1, SqL.mono S1.sub q2, k ca1 F1 H1 fp1 _ st1 S1 (itOk_zipL q1 r1 q2 r2) ?_⟩⟩
          rw [pairsD_len, ← RepDs.length r1]
          omega
    split at h
    · rename_i e1 e2; cases h; exact main _ _ (.inl e1) (.inl e2) rfl rfl rfl
    · rename_i e1 e2; cases h; exact main _ _ (.inr e1) (.inl e2) rfl rfl rfl
    · rename_i e1 e2; cases h; exact main _ _ (.inl e1) (.inr e2) rfl rfl rfl
    · rename_i e1 e2; cases h; exact main _ _ (.inr e1) (.inr e2) rfl rfl rfl
    · rename_i t1 xs t2 ys e1 e2
      cases h
      refine ha.data S h1 fun vs ca1 F1 H1 fp1 st1 S1 r1 => ?_
      have e : T.toDs [t, u] = [.tup t1 xs, .tup t2 ys] := by simp [T.toDs, e1, e2]
      rw [e] at r1
      cases r1 with
      | cons h1 h2 =>
        cases h2 with
        | cons h2 h3 =>
          cases h3
          cases h1 with
          | tup q1 l1 r1 =>
            cases h2 with
            | tup q2 l2 r2 =>
              refine ⟨_, _, _, _, rfl, .inr ⟨SqT.mono S1.sub q1.sq, SqT.mono S1.sub q2.sq, k ca1 F1 H1 fp1 _ st1 S1 (itOk_zipT q1.sq r1 q2.sq r2) ?_⟩⟩
              rw [pairsD_len, ← RepDs.length r1]
              omega
    · cases h
  · cases h
theorem ei_zip {e e2 : Expr} {ta : TA} {av : Av} {p pos tpos : Pos} {elts : List Expr} {kk : Nat} (hm : X.mg "zip" = none) (ha : EA X [e, e2] ta av) (hg : Gl X "zip" := by rfl)
    (hs : starEach [e, e2] X.env = (false, eval e X.env) :: starEach [e2] X.env := by rfl) (hpl : (backTo pos (starEach [e2] X.env)).any (·.1) = false := by rfl) :
    EI X (.Tuple elts kk tpos) (.Call (.Name "zip" p) [e, e2] [] pos) (RZ.iZipA X.K ta) (iZp av) := ⟨RZ.pi_zipA hg hm ha.pa hs hpl, snd_zip ha.snd⟩
/-! enumerate -/
def enumD : Nat → List D → List D
  | _, [] => []
  | n, d :: ds => .tup .ex [.int (n : Nat), d] :: enumD (n + 1) ds
theorem enumD_len : ∀ (n : Nat) (ds : List D), (enumD n ds).length = ds.length
  | _, [] => rfl
  | n, d :: ds => by simp [enumD, enumD_len]
theorem enumD_get : ∀ (n : Nat) (ds : List D) (i : Nat) (d : D), (enumD n ds)[i]? = some d → ∃ a, ds[i]? = some a ∧ d = .tup .ex [.int ((n + i : Nat) : Int), a]
  | n, [], i, d, h => by simp [enumD] at h
  | n, a :: as, 0, d, h => by simp [enumD] at h; exact ⟨a, rfl, by rw [← h]; rfl⟩
  | n, a :: as, i + 1, d, h => by
    obtain ⟨x, e1, e3⟩ := enumD_get (n + 1) as i d (by simpa [enumD] using h)
    exact ⟨x, by simpa using e1, by rw [e3]; congr 3; simp; omega⟩
def iEn (a : Av) : Iv := fun env cs => match a env cs with
  | some ([t], env1, cs1) => (match t.toD with
    | .lst xs => some (enumD 0 xs, env1, cs1)
    | .rlst xs => some (enumD 0 xs, env1, cs1)
    | _ => none)
  | _ => none
end
end PD
end
section
set_option Elab.async false
set_option linter.all false
set_option maxRecDepth 100000
set_option autoImplicit false
namespace PD
open PySem L2 PyProof.Rows

section
variable {X : Cx} {K : PySem.W.Frag} {mg : Str → Option Value} {M : Root → Prop} {ca ca' ca'' : List Addr} {F F' F'' H H' H'' : Hp} {fp fp' fp'' : Fp} {σ σ' : St} {env env' : Env} {cs cs' : CS} {t : T}
/-! ### targets -/
def fpSet (fp : Fp) (i : Nat) (w : List Addr) : Fp := fun r => if r = .slot i then w else fp r
/-- a slot is stored -/
theorem Sim.set {i : Nat} {v : V} {w : List Addr} (S : Sim K mg ca F H σ env cs fp) (r : RepT K mg ca F H v t w) (nd : w.Nodup) (dj : ∀ r, ∀ a ∈ w, a ∉ fp r) : Sim K mg ca F H (σ.set i (some v)) (env.set i (some t)) cs (fpSet fp i w) where
  sub := S.sub
  le := by rw [List.length_set, List.length_set]; exact S.le
  slot := fun j u e => by
    by_cases hj : j = i
    · subst hj
      have hi : j < env.length := by
        have := (List.getElem?_eq_some_iff.mp e).1
        simpa using this
      rw [List.getElem?_set_self hi] at e
      cases e
      refine ⟨v, List.getElem?_set_self (Nat.lt_of_lt_of_le hi S.le), ?_⟩
      unfold fpSet
      rw [if_pos rfl]
      exact r
    · rw [List.getElem?_set_ne (Ne.symm hj)] at e
      obtain ⟨u', e1, q⟩ := S.slot j u e
      refine ⟨u', by rw [List.getElem?_set_ne (Ne.symm hj)]; exact e1, ?_⟩
      unfold fpSet
      rw [if_neg (by simp [hj])]
      exact q
  len := S.len
  cell := fun j u e => by
    obtain ⟨a, e1, q, n⟩ := S.cell j u e
    refine ⟨a, e1, ?_, n⟩
    unfold fpSet
    rw [if_neg (by simp)]
    exact q
  nd := fun r => by
    unfold fpSet
    split
    · exact nd
    · exact S.nd r
  dj := fun r r' hr a ha z => by
    unfold fpSet at ha z
    by_cases h1 : r = .slot i
    · rw [if_pos h1] at ha
      rw [if_neg (fun q => hr (h1.trans q.symm))] at z
      exact dj r' a ha z
    · rw [if_neg h1] at ha
      by_cases h2 : r' = .slot i
      · rw [if_pos h2] at z
        exact dj r a z ha
      · rw [if_neg h2] at z
        exact S.dj r r' hr a ha z
  own := fun r a ha => by
    unfold fpSet at ha
    by_cases h1 : r = .slot i
    · rw [if_pos h1] at ha
      exact RepT.owns _ _ _ ‹_› a ha
    · rw [if_neg h1] at ha
      exact S.own r a ha
theorem fpSet_sub {i : Nat} {w : List Addr} {r : Root} {a : Addr} (h : a ∈ fpSet fp i w r) : a ∈ fp r ∨ a ∈ w := by
  unfold fpSet at h
  split at h
  · exact .inr h
  · exact .inl h
def gN (i : Nat) : T → Env → Option Env := fun t env => some (env.set i (some t))
theorem snd_gN (i : Nat) : SndG K mg (gName i) [i] (gN i) := by
  intro ca F H σ env cs fp v t w env' Q S r nd dj e k
  cases e
  exact k _ _ (S.set r nd dj) (fun r a h => fpSet_sub h) (by simp) fun j hj => List.getElem?_set_ne (by intro z; apply hj; simp [z])
theorem eg_name {i : Nat} {x : Str} {pos : Pos} (hN : X.N.Nodup) (hi : X.N[i]? = some x := by rfl) (hx : Loc X.env.scope x := by first | exact .inl rfl | exact .inr rfl) (hf : X.fn x = true ∨ X.env.scope.names.lookup x = some .local := by first | exact .inl rfl | exact .inr rfl) :
    EG X (.Name x pos) (gName i) [i] (gN i) := ⟨pg_name hN hi hx hf, snd_gN i⟩
/-- several targets, of shared things -/
def SndGs (K : PySem.W.Frag) (mg : Str → Option Value) (g : TGs) (vs : List Nat) (tg : List D → Env → Option Env) : Prop :=
  ∀ ca F H σ env cs fp us ds env' Q, Sim K mg ca F H σ env cs fp → RepDs K mg ca F us ds → tg ds env = some env' →
    (∀ (σ' : St) (fp' : Fp), Sim K mg ca F H σ' env' cs fp' → (∀ r a, a ∈ fp' r → a ∈ fp r) → σ'.length = σ.length → (∀ i, i ∉ vs → σ'[i]? = σ[i]?) → Q σ' H) → g us σ H Q
structure EGs (X : Cx) (ts : List Expr) (g : TGs) (vs : List Nat) (tg : List D → Env → Option Env) : Prop where
  pg : PGs X ts g
  snd : SndGs X.K X.mg g vs tg
def gNilD : List D → Env → Option Env := fun ds env => match ds with
  | [] => some env
  | _ :: _ => none
def gConsD (a : T → Env → Option Env) (r : List D → Env → Option Env) : List D → Env → Option Env := fun ds env => match ds with
  | [] => none
  | d :: ds => match a (.sh d) env with
    | none => none
    | some env1 => r ds env1
theorem egs_nil : EGs X [] gNil [] gNilD := ⟨pgs_nil, fun ca F H σ env cs fp us ds env' Q S r e k => by
  cases r with
  | nil => cases e; exact ⟨rfl, k σ fp S (fun _ _ h => h) rfl fun _ _ => rfl⟩
  | cons _ _ => cases e⟩
theorem egs_cons {e : Expr} {es : List Expr} {g : TG} {gs : TGs} {vs us : List Nat} {tg : T → Env → Option Env} {tgs : List D → Env → Option Env} (h1 : EG X e g vs tg) (h2 : EGs X es gs us tgs)
    (hs : (assignEach (e :: es) X.env).map (·.2) = assign e X.env :: (assignEach es X.env).map (·.2) := by rfl) : EGs X (e :: es) (gCons g gs) (vs ++ us) (gConsD tg tgs) := by
  refine ⟨pgs_cons h1.pg h2.pg hs, ?_⟩
  intro ca F H σ env cs fp ws ds env' Q S r h k
  cases r with
  | nil => cases h
  | @cons v ws d ds r1 r2 =>
    unfold gConsD at h
    simp only at h
    split at h
    · cases h
    · rename_i env1 e1
      refine ⟨v, ws, rfl, h1.snd ca F H σ env cs fp v (.sh d) [] env1 _ S (.sh r1) List.nodup_nil (fun _ _ z => nomatch z) e1 fun σ1 fp1 S1 sub1 l1 o1 => ?_⟩
      refine h2.snd ca F H σ1 env1 cs fp1 ws ds env' Q S1 r2 h fun σ2 fp2 S2 sub2 l2 o2 => ?_
      refine k σ2 fp2 S2 (fun r a ha => ?_) (l2.trans l1) fun i hi => ?_
      · rcases sub1 r a (sub2 r a ha) with z | z
        · exact z
        · cases z
      · rw [List.mem_append, not_or] at hi
        exact (o2 i hi.2).trans (o1 i hi.1)
def gTpD (tgs : List D → Env → Option Env) : T → Env → Option Env := fun t env => match t.toD with
  | .tup _ ds => tgs ds env
  | _ => none
theorem eg_tup {es : List Expr} {kk : Nat} {pos : Pos} {gs : TGs} {us : List Nat} {tgs : List D → Env → Option Env} {n : Nat} (hc : X.calm = true) (h : EGs X es gs us tgs) (hl : ∀ ds env env', tgs ds env = some env' → ds.length = n)
    (hn : (assignEach es X.env).length = n := by rfl) (hst : (assignEach es X.env).findIdx? (·.1) = none := by rfl) : EG X (.Tuple es kk pos) (gTup X.K n gs) us (gTpD tgs) := by
  refine ⟨pg_tup hc h.pg hn hst, ?_⟩
  intro ca F H σ env cs fp v t w env' Q S r nd dj e k
  unfold gTpD at e
  cases t with
  | sh d =>
    cases d with
    | tup _ ds =>
      cases r with
      | sh r =>
        cases r with
        | tup q l r =>
          refine ⟨_, _, rfl, SqT.mono S.sub q.sq, by rw [RepDs.length r]; exact hl _ _ _ e, ?_⟩
          exact h.snd ca F H σ env cs fp _ _ _ Q S r e fun σ' fp' S' sub l o => k σ' fp' S' (fun r a ha => .inl (sub r a ha)) l o
    | _ => cases e
  | lst ts => cases e
  | dct k ts => cases e
theorem gConsD_len {n : Nat} {a : T → Env → Option Env} {r : List D → Env → Option Env} (h : ∀ ds env env', r ds env = some env' → ds.length = n) : ∀ ds env env', gConsD a r ds env = some env' → ds.length = n + 1 := fun ds env env' e => by
  cases ds with
  | nil => cases e
  | cons d ds =>
    unfold gConsD at e
    simp only at e
    split at e
    · cases e
    · rw [List.length_cons, h _ _ _ e]
theorem gNilD_len : ∀ ds env env', gNilD ds env = some env' → ds.length = 0 := fun ds env env' e => by
  cases ds with
  | nil => rfl
  | cons d ds => cases e

/-! ### comprehensions -/
def wipeE (env : Env) : List Nat → Env
  | [] => env
  | v :: vs => (wipeE env vs).set v none
def ownOk (own : List Nat) (env : Env) : Bool := own.all fun i => match env[i]? with
  | some (some (.sh _)) => true
  | some (some _) => false
  | _ => true
/-- the block's own names as they stood ahead, the others as the block left them -/
def backE (own : List Nat) (env env' : Env) : Env := (List.range env'.length).map fun i => if i ∈ own then (env[i]?).join else (env'[i]?).join
def compL (own : List Nat) (tg : T → Env → Option Env) (tt : Tv) (el : Ev) : List D → Env → CS → Option (List T × Env × CS)
  | [], env, cs => some ([], env, cs)
  | d :: ds, env, cs => match tg (.sh d) env with
    | none => none
    | some env1 => match tt env1 cs with
      | none => none
      | some (b, env2, cs2) => if b = true then (match el env2 cs2 with
          | none => none
          | some (t, env3, cs3) => match compL own tg tt el ds (wipeE env3 own) cs3 with
            | none => none
            | some (ts, env4, cs4) => some (t :: ts, env4, cs4))
        else compL own tg tt el ds (wipeE env2 own) cs2
def eComp (own : List Nat) (it : Iv) (tg : T → Env → Option Env) (tt : Tv) (el : Ev) : Ev := fun env cs => match it env cs with
  | none => none
  | some (ds, env1, cs1) => if ownOk own env1 = true then (match compL own tg tt el ds (wipeE env1 own) cs1 with
      | none => none
      | some (ts, env2, cs2) => some (.lst ts, backE own env1 env2, cs2))
    else none
theorem wipeE_length (env : Env) : ∀ vs : List Nat, (wipeE env vs).length = env.length
  | [] => rfl
  | v :: vs => by unfold wipeE; rw [List.length_set, wipeE_length env vs]
theorem wipeE_in {i : Nat} {t : T} : ∀ {vs : List Nat}, i ∈ vs → (wipeE env vs)[i]? ≠ some (some t)
  | v :: vs, h => by
    unfold wipeE
    by_cases hv : v = i
    · subst hv
      by_cases hl : v < (wipeE env vs).length
      · rw [List.getElem?_set_self hl]; exact fun z => nomatch z
      · rw [List.getElem?_eq_none (by simpa using hl)]; exact fun z => nomatch z
    · rw [List.getElem?_set_ne hv]
      exact wipeE_in (by
        rcases List.mem_cons.mp h with z | z
        · exact absurd z.symm hv
        · exact z)
theorem wipeE_out {i : Nat} : ∀ {vs : List Nat}, i ∉ vs → (wipeE env vs)[i]? = env[i]?
  | [], _ => rfl
  | v :: vs, h => by
    rw [List.mem_cons, not_or] at h
    unfold wipeE
    rw [List.getElem?_set_ne (Ne.symm h.1)]
    exact wipeE_out h.2
theorem wipe_congr {τ : St} {own : List Nat} (hl : τ.length = σ.length) (h : ∀ i, i ∉ own → τ[i]? = σ[i]?) : wipe τ own = wipe σ own := by
  apply List.ext_getElem?
  intro i
  by_cases hi : i ∈ own
  · have key : ∀ ρ : St, (wipe ρ own)[i]? = if i < ρ.length then some none else none := fun ρ => by
      cases q : (wipe ρ own)[i]? with
      | none =>
        have := List.getElem?_eq_none_iff.mp q
        rw [wipe_length] at this
        rw [if_neg (by omega)]
      | some o =>
        have := (List.getElem?_eq_some_iff.mp q).1
        rw [wipe_length] at this
        rw [if_pos this]
        cases o with
        | none => rfl
        | some x => exact absurd hi (wipe_some q).2
    rw [key, key, hl]
  · rw [wipe_out hi, wipe_out hi, h i hi]
def fpWipe (own : List Nat) (fp : Fp) : Fp
  | .slot i => if i ∈ own then [] else fp (.slot i)
  | .cell i => fp (.cell i)
theorem fpWipe_in {own : List Nat} {i : Nat} (h : i ∈ own) : fpWipe own fp (.slot i) = [] := by
  show (if i ∈ own then [] else fp (.slot i)) = []
  rw [if_pos h]
theorem fpWipe_out {own : List Nat} {i : Nat} (h : i ∉ own) : fpWipe own fp (.slot i) = fp (.slot i) := by
  show (if i ∈ own then [] else fp (.slot i)) = _
  rw [if_neg h]
theorem fpWipe_sub {own : List Nat} {r : Root} {a : Addr} (h : a ∈ fpWipe own fp r) : a ∈ fp r := by
  cases r with
  | slot i =>
    by_cases hi : i ∈ own
    · rw [fpWipe_in hi] at h; cases h
    · rw [fpWipe_out hi] at h; exact h
  | cell i => exact h
theorem fpWipe_nd {own : List Nat} (h : ∀ r, (fp r).Nodup) (r : Root) : (fpWipe own fp r).Nodup := by
  cases r with
  | slot i =>
    by_cases hi : i ∈ own
    · rw [fpWipe_in hi]; exact List.nodup_nil
    · rw [fpWipe_out hi]; exact h _
  | cell i => exact h _
theorem Sim.fpLess (S : Sim K mg ca F H σ env cs fp) (hs : ∀ r a, a ∈ fp' r → a ∈ fp r) (hn : ∀ r, (fp' r).Nodup) {τ : St} {env2 : Env} (le : env2.length ≤ τ.length)
    (slot : ∀ i t, env2[i]? = some (some t) → ∃ v, τ[i]? = some (some v) ∧ RepT K mg ca F H v t (fp' (.slot i))) (hc : ∀ i, fp' (.cell i) = fp (.cell i)) : Sim K mg ca F H τ env2 cs fp' where
  sub := S.sub
  le := le
  slot := slot
  len := S.len
  cell := fun i t e => by rw [hc]; exact S.cell i t e
  nd := hn
  dj := fun r r' hr a ha z => S.dj r r' hr a (hs r a ha) (hs r' a z)
  own := fun r a ha => S.own r a (hs r a ha)
theorem Sim.wipe (S : Sim K mg ca F H σ env cs fp) (own : List Nat) : Sim K mg ca F H (L2.wipe σ own) (wipeE env own) cs (fpWipe own fp) := by
  refine S.fpLess (fun r a h => fpWipe_sub h) (fpWipe_nd S.nd) (by rw [wipeE_length, wipe_length]; exact S.le) (fun i t e => ?_) fun i => rfl
  · by_cases hi : i ∈ own
    · exact absurd e (wipeE_in hi)
    · rw [wipeE_out hi] at e
      obtain ⟨v, e1, r⟩ := S.slot i t e
      refine ⟨v, by rw [wipe_out hi]; exact e1, ?_⟩
      rw [fpWipe_out hi]
      exact r
/-- a step whose footprints shrink -/
theorem Step.less {fp2 : Fp} (st : Step M ca F H fp ca' F' H' fp') (h : ∀ r a, a ∈ fp2 r → a ∈ fp' r) : Step M ca F H fp ca' F' H' fp2 := ⟨st.pre, st.ff, st.nf, st.ext, fun r a ha => st.sub r a (h r a ha), st.alive⟩
/-- a place that no root owns is written -/
theorem Step.poke {p : Addr} {o : HO} (st : Step M ca F H fp ca' F' H' fp') (hp : H p = none) : Step M ca F H fp ca' F' (upd H' p o) fp' :=
  ⟨st.pre, st.ff, st.nf, fun a u e hm => by rw [upd_ne (ne_of_none e hp)]; exact st.ext a u e hm, st.sub, fun a u e => by
    obtain ⟨u', e'⟩ := st.alive a u e
    exact ⟨u', by rw [upd_ne (ne_of_none e hp)]; exact e'⟩⟩
theorem Sim.poke {p : Addr} {o : HO} (S : Sim K mg ca F H σ env cs fp) (hF : F p = none) (hp : ∀ r, p ∉ fp r) : Sim K mg ca F (upd H p o) σ env cs fp where
  sub := fun a u e => by rw [upd_ne (ne_of_none e hF)]; exact S.sub a u e
  le := S.le
  slot := fun i t e => by
    obtain ⟨v, e1, r⟩ := S.slot i t e
    exact ⟨v, e1, RepT.keep .refl .refl t v _ r (fun a ha => (S.own _ a ha).1) fun a ha u e => by rw [upd_ne (fun z => hp _ (by rw [← z]; exact ha))]; exact e⟩
  len := S.len
  cell := fun i t e => by
    obtain ⟨a, e1, r, n⟩ := S.cell i t e
    exact ⟨a, e1, RepT.keep .refl .refl t _ _ r (fun a ha => (S.own _ a ha).1) fun a ha u e => by rw [upd_ne (fun z => hp _ (by rw [← z]; exact ha))]; exact e, n⟩
  nd := S.nd
  dj := S.dj
  own := fun r a ha => by
    obtain ⟨f, u, e, q⟩ := S.own r a ha
    exact ⟨f, u, by rw [upd_ne (fun z => hp _ (by rw [← z]; exact ha))]; exact e, q⟩
theorem RepTs.snoc : ∀ {vs : List V} {ts : List T} {w w' : List Addr} {v : V} {t : T}, RepTs K mg ca F H vs ts w → RepT K mg ca F H v t w' → RepTs K mg ca F H (vs ++ [v]) (ts ++ [t]) (w ++ w')
  | _, _, _, w', _, _, .nil, r => by
    have q := RepTs.cons r .nil
    rw [List.append_nil] at q
    exact q
  | _, _, _, w', _, _, .cons h1 h2, r => by
    rw [List.append_assoc]
    exact .cons h1 (RepTs.snoc h2 r)
/-- what a turn begins with: the item has come -/
theorem ItY.sim {d : D} {x : V} {G G' : Hp} (y : ItY K mg ca F G d x G') (S : Sim K mg ca F G σ env cs fp) : ∃ F', Grow F G F' G' ∧ RepD K mg ca F' x d := by
  rcases y with ⟨rfl, r⟩ | ⟨p, vs, hp, rfl, r⟩
  · exact ⟨F, .refl S.sub, r⟩
  · exact ⟨_, Grow.tup S.sub hp, r⟩
theorem ItOk.mono {J : It} {ds : List D} (h : ItOk K mg ca F J ds) (hs : Sub F F') (hc : Pre ca ca') : ItOk K mg ca' F' J ds := fun i G hG => by
  obtain ⟨h1, h2⟩ := h i G (hs.trans hG)
  refine ⟨fun d hd => ⟨(h1 d hd).1, fun x G' y => ?_⟩, h2⟩
  rcases (h1 d hd).2 x G' y with ⟨e, r⟩ | ⟨p, vs, hp, e, r⟩
  · exact .inl ⟨e, RepD.mono hs hc _ _ r⟩
  · refine .inr ⟨p, vs, hp, e, RepD.mono (fun a o q => ?_) hc _ _ r⟩
    by_cases ha : a = p
    · subst ha; rw [upd_same] at q ⊢; exact q
    · rw [upd_ne ha] at q ⊢; exact hs a o q
theorem snd_comp {wi : TI} {it : Iv} {g : TG} {vs own : List Nat} {tg : T → Env → Option Env} {tt : TT} {tv : Tv} {te : TE} {el : Ev} (hi : SndI K mg wi it) (hg : SndG K mg g vs tg) (hv : ∀ i ∈ vs, i ∈ own) (ht : SndT K mg tt tv) (he : SndE K mg te el) :
    SndE K mg (tLc wi g tt te own) (eComp own it tg tv el) := by
  intro ca F H σ env cs fp t env' cs' Q S h k
  unfold eComp at h
  split at h
  · cases h
  · rename_i ds env1 cs1 h1
    split at h
    · rename_i hown
      split at h
      · cases h
      · rename_i ts env2 cs2 h2
        cases h
        refine hi ca F H σ env cs fp ds env1 cs1 _ S h1 fun ca1 F1 H1 fp1 J st1 S1 ok hlen => ?_
        intro D hD
        -- the invariant: what is still to come leads to the whole
        refine ⟨fun i m G => m = ds.length - i ∧ i ≤ ds.length ∧ ∃ (ca2 : List Addr) (F2 : Hp) (fp2 : Fp) (envi : Env) (csi : CS) (acc : List V) (done rest : List T) (w : List Addr), Step MC ca F H fp ca2 F2 G fp2 ∧
          Sim K mg ca2 F2 G (L2.wipe σ own) envi csi fp2 ∧ Pre ca1 ca2 ∧ Sub F1 F2 ∧ RepT K mg ca2 F2 G (.ref D) (.lst done) (D :: w) ∧ (D :: w).Nodup ∧ G D = some (.lst acc) ∧ acc.length ≤ i ∧ (∀ a ∈ D :: w, H a = none) ∧ (∀ r, ∀ a ∈ D :: w, a ∉ fp2 r) ∧
          (∀ a ∈ D :: w, F2 a = none) ∧ compL own tg tv el (ds.drop i) envi csi = some (rest, env2, cs') ∧ ts = done ++ rest, ⟨ds.length, rfl, Nat.zero_le _, ca1, F1, fpWipe own fp1, wipeE env1 own, cs1, [], [], ts, [], ?_⟩, ?_⟩
        · have S2 := (S1.wipe own).grow (Grow.laid (o := .lst []) S1.sub hD)
          have hp : ∀ r, D ∉ fp1 r := fun r z => by obtain ⟨_, o, e, _⟩ := S1.own r D z; rw [hD] at e; cases e
          refine ⟨((st1.less fun r a h => fpWipe_sub h).poke (st1.noneOf hD)), S2, .refl, .refl, .lst upd_same (S1.sub.none hD) (Nat.zero_le _) .nil, by simp, upd_same, Nat.le_refl _, fun a ha => ?_, fun r a ha z => ?_, fun a ha => ?_, by simpa using h2, rfl⟩
          · rw [List.mem_singleton.mp ha]; exact st1.noneOf hD
          · rw [List.mem_singleton.mp ha] at z; exact hp r (fpWipe_sub z)
          · rw [List.mem_singleton.mp ha]; exact S1.sub.none hD
        · rintro i m G ⟨rfl, hi', ca2, F2, fp2, envi, csi, acc, done, rest, w, st2, S2, pre2, sub2, rD, ndD, eD, lD, frD, djD, nfD, hc, hts⟩
          have ok2 := ok.mono sub2 pre2
          by_cases hlt : i < ds.length
          · -- a turn
            have hd : ds[i]? = some ds[i] := List.getElem?_eq_getElem hlt
            have hdrop : ds.drop i = ds[i] :: ds.drop (i + 1) := List.drop_eq_getElem_cons hlt
            obtain ⟨go, yl⟩ := (ok2 i G S2.sub).1 _ hd
            refine .inr ⟨go, fun G' => ∃ (ca2 : List Addr) (F2 : Hp) (fp2 : Fp) (envi : Env) (csi : CS) (acc : List V) (done rest : List T) (w : List Addr), Step MC ca F H fp ca2 F2 G' fp2 ∧
              Sim K mg ca2 F2 G' (L2.wipe σ own) envi csi fp2 ∧ Pre ca1 ca2 ∧ Sub F1 F2 ∧ RepT K mg ca2 F2 G' (.ref D) (.lst done) (D :: w) ∧ (D :: w).Nodup ∧ G' D = some (.lst acc) ∧ acc.length ≤ i + 1 ∧ (∀ a ∈ D :: w, H a = none) ∧ (∀ r, ∀ a ∈ D :: w, a ∉ fp2 r) ∧
              (∀ a ∈ D :: w, F2 a = none) ∧ compL own tg tv el (ds.drop (i + 1)) envi csi = some (rest, env2, cs') ∧ ts = done ++ rest, fun G' q => ⟨ds.length - (i + 1), by omega, rfl, hlt, q⟩, fun x G' y => ?_⟩
            obtain ⟨F3, g3, rx⟩ := ItY.sim (yl x G' y) S2
            have S3 := S2.grow g3
            have st3 := st2.trans (g3.step (M := MC) (ca := ca2) (fp := fp2))
            rw [hdrop] at hc
            unfold compL at hc
            split at hc
            · cases hc
            · rename_i enva ea1
              refine hg ca2 F3 G' _ envi csi fp2 x (.sh ds[i]) [] enva _ S3 (.sh rx) List.nodup_nil (fun _ _ z => nomatch z) ea1 fun σ4 fp4 S4 sub4 l4 o4 => ?_
              have hw : L2.wipe σ4 own = L2.wipe σ own := by
                have e1 : L2.wipe σ4 own = L2.wipe (L2.wipe σ own) own := wipe_congr l4 fun j hj => o4 j fun z => hj (hv j z)
                have e2 : L2.wipe (L2.wipe σ own) own = L2.wipe σ own := wipe_congr (wipe_length _ _) fun j hj => wipe_out hj
                exact e1.trans e2
              refine ⟨hw, ?_⟩
              have st4 : Step MC ca F H fp ca2 F3 G' fp4 := st3.less fun r a ha => by
                rcases sub4 r a ha with z | z
                · exact z
                · cases z
              have dj4 : ∀ r, ∀ a ∈ D :: w, a ∉ fp4 r := fun r a ha z => by
                rcases sub4 r a z with q | q
                · exact djD r a ha q
                · cases q
              obtain ⟨rD3, _⟩ := (g3.step (M := MC) (ca := ca2) (fp := fp2)).temp rD djD
              split at hc
              · cases hc
              · rename_i b envb csb eb
                refine ht ca2 F3 G' σ4 enva csi fp4 b envb csb _ S4 eb fun ca5 F5 H5 fp5 st5 S5 => ?_
                obtain ⟨rD5, dj5⟩ := st5.temp rD3 dj4
                have st5' := st4.trans st5
                cases b with
                | true =>
                  rw [if_pos rfl] at hc ⊢
                  split at hc
                  · cases hc
                  · rename_i tc envc csc ec
                    split at hc
                    · cases hc
                    · rename_i ts3 env4 cs4 e4
                      cases hc
                      refine he ca5 F5 H5 σ4 envb csb fp5 tc envc csc _ S5 ec fun v ca6 F6 H6 fp6 w6 st6 S6 r6 nd6 fr6 dj6 => ?_
                      obtain ⟨rD6, dj6'⟩ := st6.temp rD5 dj5
                      have own6 := RepT.own _ _ _ rD6
                      have hH6 : ∃ acc6, H6 D = some (.lst acc6) ∧ RepTs K mg ca6 F6 H6 acc6 done w ∧ acc6.length ≤ i := by
                        have len6 : ∀ acc6, RepTs K mg ca6 F6 H6 acc6 done w → acc6.length ≤ i := fun acc6 q => by
                          rw [RepTs.length q]
                          cases rD with
                          | lst e _ _ q0 => rw [eD] at e; cases e; rw [← RepTs.length q0]; exact lD
                        cases rD6 with
                        | lst e _ _ q => exact ⟨_, e, q, len6 _ q⟩
                      obtain ⟨acc6, eD6, rd6, la6⟩ := hH6
                      have hfD6 : F6 D = none := (own6 D List.mem_cons_self).1
                      have nin : ∀ a ∈ w6, a ∉ D :: w := fun a ha z => by
                        obtain ⟨_, o, q⟩ := RepT.own _ _ _ rD5 a z
                        rw [fr6 a ha] at q; cases q
                      have hD6 : ∀ r, D ∉ fp6 r := fun r => dj6' r D List.mem_cons_self
                      have S7 := (S6.poke (p := D) (o := .lst (acc6 ++ [v])) hfD6 hD6).wipe own
                      rw [hw] at S7
                      have st7 : Step MC ca F H fp ca6 F6 (upd H6 D (.lst (acc6 ++ [v]))) (fpWipe own fp6) := ((st5'.trans st6).less fun r a h => fpWipe_sub h).poke (frD D List.mem_cons_self)
                      have lenT : (acc6 ++ [v]).length ≤ sizeLine := by
                        rw [List.length_append, List.length_singleton]
                        exact Nat.le_trans (by omega : acc6.length + 1 ≤ ds.length) hlen
                      have hwD : ∀ a ∈ w, a ≠ D := fun a ha z => (List.nodup_cons.mp ndD).1 (by rw [← z]; exact ha)
                      refine ⟨acc6, eD6, Nat.lt_of_lt_of_le (by omega : acc6.length < ds.length) hlen, ca6, F6, fpWipe own fp6, wipeE envc own, csc, acc6 ++ [v], done ++ [tc], ts3, w ++ w6, st7, S7, pre2.trans (st5.pre.trans st6.pre), sub2.trans (g3.ff.trans (st5.ff.trans st6.ff)), ?_, ?_, upd_same, ?_, ?_, ?_, ?_, e4, ?_⟩
                      · refine .lst upd_same hfD6 lenT (RepTs.snoc (RepTs.keep .refl .refl _ _ _ rd6 (fun a ha => (RepTs.own _ _ _ rd6 a ha).1) fun a ha o e => by rw [upd_ne (hwD a ha)]; exact e) (RepT.keep .refl .refl _ _ _ r6 (fun a ha => (RepT.own _ _ _ r6 a ha).1) fun a ha o e => by
                          rw [upd_ne (fun z => nin a ha (by rw [z]; exact List.mem_cons_self))]; exact e))
                      · rw [← List.cons_append]
                        exact List.nodup_append.mpr ⟨ndD, nd6, fun a ha b hb z => nin b hb (by rw [← z]; exact ha)⟩
                      · rw [List.length_append, List.length_singleton]; omega
                      · intro a ha
                        rw [← List.cons_append] at ha
                        rcases List.mem_append.mp ha with ha | ha
                        · exact frD a ha
                        · exact st5'.noneOf (fr6 a ha)
                      · intro r a ha z
                        rw [← List.cons_append] at ha
                        rcases List.mem_append.mp ha with ha | ha
                        · exact dj6' r a ha (fpWipe_sub z)
                        · exact dj6 r a ha (fpWipe_sub z)
                      · intro a ha
                        rw [← List.cons_append] at ha
                        rcases List.mem_append.mp ha with ha | ha
                        · exact (own6 a ha).1
                        · exact (RepT.own _ _ _ r6 a ha).1
                      · rw [hts, List.append_assoc]; rfl
                | false =>
                  rw [if_neg Bool.false_ne_true] at hc ⊢
                  have S7 := S5.wipe own
                  rw [hw] at S7
                  have own5 := RepT.own _ _ _ rD5
                  cases rD5 with
                  | lst e5 f5 l5 q5 =>
                    refine ⟨ca5, F5, fpWipe own fp5, wipeE envb own, csb, _, done, rest, w, st5'.less fun r a h => fpWipe_sub h, S7, pre2.trans st5.pre, sub2.trans (g3.ff.trans st5.ff), .lst e5 f5 l5 q5, ndD, e5, ?_, frD, fun r a ha z => dj5 r a ha (fpWipe_sub z), fun a ha => (own5 a ha).1, hc, hts⟩
                    rw [RepTs.length q5]
                    cases rD with
                    | lst e _ _ q0 => rw [eD] at e; cases e; rw [← RepTs.length q0]; omega
          · -- the end
            have hi2 : i = ds.length := by omega
            subst hi2
            rw [List.drop_length] at hc
            unfold compL at hc
            cases hc
            rw [List.append_nil] at hts
            subst hts
            refine .inl ⟨(ok2 _ G S2.sub).2 (Nat.le_refl _), ?_⟩
            have S9 : Sim K mg ca2 F2 G σ (backE own env1 env2) cs' (fpWipe own fp2) := by
              refine S2.fpLess (fun r a h => fpWipe_sub h) (fpWipe_nd S2.nd) ?_ (fun j u e => ?_) fun i => rfl
              · unfold backE
                rw [List.length_map, List.length_range]
                have := S2.le
                rw [wipe_length] at this
                exact this
              · unfold backE at e
                rw [List.getElem?_map] at e
                by_cases hj : j < env2.length
                · rw [List.getElem?_range hj] at e
                  simp only [Option.map_some, Option.some.injEq] at e
                  by_cases ho : j ∈ own
                  · rw [if_pos ho] at e
                    have e1 : env1[j]? = some (some u) := by
                      cases q : env1[j]? with
                      | none => rw [q] at e; cases e
                      | some o => rw [q] at e; simpa using e
                    have hsh : ∃ d, u = .sh d := by
                      have q := List.all_eq_true.mp hown j ho
                      rw [e1] at q
                      cases u with
                      | sh d => exact ⟨d, rfl⟩
                      | lst _ => cases q
                      | dct _ _ => cases q
                    obtain ⟨d, rfl⟩ := hsh
                    obtain ⟨v, e2, r⟩ := S1.slot j _ e1
                    refine ⟨v, e2, ?_⟩
                    rw [fpWipe_in ho]
                    exact .sh (RepD.mono sub2 pre2 _ _ (RepT.shD r))
                  · rw [if_neg ho] at e
                    have e1 : env2[j]? = some (some u) := by
                      cases q : env2[j]? with
                      | none => rw [q] at e; cases e
                      | some o => rw [q] at e; simpa using e
                    obtain ⟨v, e2, r⟩ := S2.slot j u e1
                    rw [wipe_out ho] at e2
                    refine ⟨v, e2, ?_⟩
                    rw [fpWipe_out ho]
                    exact r
                · rw [List.getElem?_eq_none (by simpa using hj)] at e
                  cases e
            exact k (.ref D) ca2 F2 G (fpWipe own fp2) (D :: w) (st2.less fun r a h => fpWipe_sub h) S9 rD ndD frD fun r a ha z => djD r a ha (fpWipe_sub z)
    · cases h
end
end PD
end
section
set_option Elab.async false
set_option linter.all false
set_option maxRecDepth 100000
set_option autoImplicit false
namespace PD
open PySem L2 PyProof.Rows

/-! ### tests of a comprehension, the comprehension -/
structure ETs (X : Cx) (ifs : List Expr) (tt : TT) (tv : Tv) : Prop where
  pt : PTs X ifs tt
  snd : SndT X.K X.mg tt tv
def tTrue : Tv := fun env cs => some (true, env, cs)
section
variable {X : Cx} {K : PySem.W.Frag} {mg : Str → Option Value} {M : Root → Prop} {ca ca' ca'' : List Addr} {F F' F'' H H' H'' : Hp} {fp fp' fp'' : Fp} {σ σ' : St} {env env' : Env} {cs cs' : CS} {t : T}
theorem ets_nil : ETs X [] tYes tTrue := ⟨pts_nil, fun ca F H σ env cs fp b env' cs' Q S h k => by cases h; exact k ca F H fp .refl S⟩
theorem ets_one {c : Expr} {tt : TT} {tv : Tv} (h : ET X c tt tv) : ETs X [c] tt tv := ⟨pts_one h.pt, h.snd⟩
/-- what goes round in a block, whatever the block's frame is -/
abbrev Blk (α : Type) : Type := Shared → Hp → Addr → List (Str × Addr) → List Addr → α
def teA (te : Blk TE) : TE := fun σ H Q => ∀ s H0 C cl fp, te s H0 C cl fp σ H Q
def ttA (te : Blk TT) : TT := fun σ H Q => ∀ s H0 C cl fp, te s H0 C cl fp σ H Q
def tgA (te : Blk TG) : TG := fun v σ H Q => ∀ s H0 C cl fp, te s H0 C cl fp v σ H Q
def tiA (te : Blk TI) : TI := fun σ H Q => ∀ s H0 C cl fp, te s H0 C cl fp σ H Q
section
variable {scope : Scope} {env : PySem.Env} {e tg iter : Expr} {ifs : List Expr} {vs : List Nat} {tgf : T → Env → Option Env} {tv : Tv} {el : Ev} {it : Iv}
theorem teA_snd {te : Blk TE} (h : ∀ s H C cl fp, SndE K mg (te s H C cl fp) el) : SndE K mg (teA te) el := fun ca F H σ env cs fp t env' cs' Q S hh k s H0 C cl fp2 => h s H0 C cl fp2 ca F H σ env cs fp t env' cs' Q S hh k
theorem ttA_snd {te : Blk TT} (h : ∀ s H C cl fp, SndT K mg (te s H C cl fp) tv) : SndT K mg (ttA te) tv := fun ca F H σ env cs fp t env' cs' Q S hh k s H0 C cl fp2 => h s H0 C cl fp2 ca F H σ env cs fp t env' cs' Q S hh k
theorem tiA_snd {te : Blk TI} (h : ∀ s H C cl fp, SndI K mg (te s H C cl fp) it) : SndI K mg (tiA te) it := fun ca F H σ env cs fp t env' cs' Q S hh k s H0 C cl fp2 => h s H0 C cl fp2 ca F H σ env cs fp t env' cs' Q S hh k
theorem tgA_snd {te : Blk TG} (h : ∀ s H C cl fp, SndG K mg (te s H C cl fp) vs tgf) : SndG K mg (tgA te) vs tgf := fun ca F H σ env cs fp v t w env' Q S r nd dj hh k s H0 C cl fp2 => h s H0 C cl fp2 ca F H σ env cs fp v t w env' Q S r nd dj hh k
variable {Z : Blk Cx}
theorem teA_pe {te : Blk TE} (h : ∀ s H C cl fp, PE (Z s H C cl fp) e (te s H C cl fp)) : ∀ s H C cl fp, PE (Z s H C cl fp) e (teA te) := fun s0 H0 C cl fp => ⟨fun pins s σ H Q I q => (h s0 H0 C cl fp).run pins s σ H Q I (q s0 H0 C cl fp)⟩
theorem ttA_pt {te : Blk TT} (h : ∀ s H C cl fp, PTs (Z s H C cl fp) ifs (te s H C cl fp)) : ∀ s H C cl fp, PTs (Z s H C cl fp) ifs (ttA te) := fun s0 H0 C cl fp => ⟨fun pins s σ H Q I q => (h s0 H0 C cl fp).run pins s σ H Q I (q s0 H0 C cl fp)⟩
theorem tgA_pg {te : Blk TG} (h : ∀ s H C cl fp, PG (Z s H C cl fp) tg (te s H C cl fp)) : ∀ s H C cl fp, PG (Z s H C cl fp) tg (tgA te) := fun s0 H0 C cl fp => ⟨fun pins s σ H v u Q I r q => (h s0 H0 C cl fp).run pins s σ H v u Q I r (q s0 H0 C cl fp)⟩
theorem tiA_pi {te : Blk TI} (h : ∀ s H C cl fp, PI (Z s H C cl fp) tg iter (te s H C cl fp)) : ∀ s H C cl fp, PI (Z s H C cl fp) tg iter (tiA te) := fun s0 H0 C cl fp => ⟨fun pins s σ H Q I q => (h s0 H0 C cl fp).run pins s σ H Q I (q s0 H0 C cl fp)⟩
end
theorem ee_comp {elt tg iter : Expr} {ifs : List Expr} {scope : Scope} {own : List (Str × Nat)} {pos : Pos} {wi : TI} {it : Iv} {g : Blk TG} {vs : List Nat} {tgf : T → Env → Option Env} {tt : Blk TT} {tv : Tv} {te : Blk TE} {el : Ev} (hc : X.calm = true) (hN : X.N.Nodup) (hi : EI X tg iter wi it) (ok : BlkOk X.N X.env.scope scope own)
    (hg : ∀ (s : Shared) (H : Hp) (C : Addr) (cl : List (Str × Addr)) (fp : List Addr), EG (X.blk s H scope (compEnvC scope cl C X.env) fp) tg (g s H C cl fp) vs tgf) (ht : ∀ (s : Shared) (H : Hp) (C : Addr) (cl : List (Str × Addr)) (fp : List Addr), ETs (X.blk s H scope (compEnvC scope cl C X.env) fp) ifs (tt s H C cl fp) tv)
    (he : ∀ (s : Shared) (H : Hp) (C : Addr) (cl : List (Str × Addr)) (fp : List Addr), EE (X.blk s H scope (compEnvC scope cl C X.env) fp) elt (te s H C cl fp) el) (hv : ∀ i ∈ vs, i ∈ own.map (·.2) := by decide) (hs : ∀ x, foldedSetIterable iter X.env x = pure x := by intro _; rfl) :
    EE X (.ListComp elt [⟨tg, iter, ifs, 0⟩] scope pos) (tLc wi (tgA g) (ttA tt) (teA te) (own.map (·.2))) (eComp (own.map (·.2)) it tgf tv el) :=
  ⟨pe_lc hc hN hi.pi ok (tgA_pg (Z := fun s H C cl fp => X.blk s H scope (compEnvC scope cl C X.env) fp) fun s H C cl fp => (hg s H C cl fp).pg) (ttA_pt (Z := fun s H C cl fp => X.blk s H scope (compEnvC scope cl C X.env) fp) fun s H C cl fp => (ht s H C cl fp).pt) (teA_pe (Z := fun s H C cl fp => X.blk s H scope (compEnvC scope cl C X.env) fp) fun s H C cl fp => (he s H C cl fp).pe) hs,
    snd_comp hi.snd (tgA_snd fun s H C cl fp => (hg s H C cl fp).snd) hv (ttA_snd fun s H C cl fp => (ht s H C cl fp).snd) (teA_snd fun s H C cl fp => (he s H C cl fp).snd)⟩

/-! ### statements -/
def sAsg (e : Ev) (tg : T → Env → Option Env) : Sv := fun env cs => match e env cs with
  | none => none
  | some (t, env1, cs1) => match tg t env1 with
    | none => none
    | some env2 => some (.nx, env2, cs1)
def sDrop (e : Ev) : Sv := fun env cs => match e env cs with
  | none => none
  | some (_, env1, cs1) => some (.nx, env1, cs1)
def sRet (e : Ev) : Sv := fun env cs => match e env cs with
  | none => none
  | some (t, env1, cs1) => some (.rt t, env1, cs1)
/-- return x: the value itself -/
def sRetV (i : Nat) : Sv := fun env cs => match env[i]? with
  | some (some t) => some (.rt t, env.set i none, cs)
  | _ => none
def sRetN : Sv := fun env cs => some (.rt (.sh .non), env, cs)
def sNext : Sv := fun env cs => some (.nx, env, cs)
def sBrk : Sv := fun env cs => some (.bk, env, cs)
def sCnt : Sv := fun env cs => some (.ct, env, cs)
def sSeq (a b : Sv) : Sv := fun env cs => match a env cs with
  | none => none
  | some (.nx, env1, cs1) => b env1 cs1
  | some (o, env1, cs1) => some (o, env1, cs1)
def sIf (c : Tv) (a b : Sv) : Sv := fun env cs => match c env cs with
  | none => none
  | some (k, env1, cs1) => if k = true then a env1 cs1 else b env1 cs1
def sNever : Sv := fun _ _ => none
def forL (tg : T → Env → Option Env) (b : Sv) : List D → Env → CS → Option (Out × Env × CS)
  | [], env, cs => some (.nx, env, cs)
  | d :: ds, env, cs => match tg (.sh d) env with
    | none => none
    | some env1 => match b env1 cs with
      | none => none
      | some (.nx, env2, cs2) => forL tg b ds env2 cs2
      | some (.ct, env2, cs2) => forL tg b ds env2 cs2
      | some (.bk, env2, cs2) => some (.nx, env2, cs2)
      | some (.rt t, env2, cs2) => some (.rt t, env2, cs2)
def sFor (it : Iv) (tg : T → Env → Option Env) (b : Sv) : Sv := fun env cs => match it env cs with
  | none => none
  | some (ds, env1, cs1) => forL tg b ds env1 cs1
def whileL (c : Tv) (b : Sv) : Nat → Env → CS → Option (Out × Env × CS)
  | 0, _, _ => none
  | n + 1, env, cs => match c env cs with
    | none => none
    | some (k, env1, cs1) => if k = true then (match b env1 cs1 with
        | none => none
        | some (.nx, env2, cs2) => whileL c b n env2 cs2
        | some (.ct, env2, cs2) => whileL c b n env2 cs2
        | some (.bk, env2, cs2) => some (.nx, env2, cs2)
        | some (.rt t, env2, cs2) => some (.rt t, env2, cs2))
      else some (.nx, env1, cs1)
/-- while, so many turns at most -/
def sWhile (n : Nat) (c : Tv) (b : Sv) : Sv := fun env cs => whileL c b n env cs
def sPar (i j : Nat) (a : Av) : Sv := fun env cs => match a env cs with
  | some ([t, u], env1, cs1) => some (.nx, (env1.set i (some t)).set j (some u), cs1)
  | _ => none
def sPar3 (i j l : Nat) (a : Av) : Sv := fun env cs => match a env cs with
  | some ([t, u, v], env1, cs1) => some (.nx, ((env1.set i (some t)).set j (some u)).set l (some v), cs1)
  | _ => none
def sApp (i : Nat) (e : Ev) : Sv := fun env cs => match env[i]? with
  | some (some (.lst _)) => (match e env cs with
    | none => none
    | some (t, env1, cs1) => match env1[i]? with
      | some (some (.lst ts)) => if ts.length < sizeLine then some (.nx, env1.set i (some (.lst (ts ++ [t]))), cs1) else none
      | _ => none)
  | _ => none
/-- x[k] = e, x an owned list's name or a cell's -/
def sIx (i : Nat) (e k : Ev) : Sv := fun env cs => match e env cs with
  | none => none
  | some (t, env1, cs1) => match env1[i]? with
    | some (some _) => (match k env1 cs1 with
      | some (.sh (.int n), env2, cs2) => (match env2[i]? with
        | some (some (.lst ts)) => (match ixN ts.length n with
          | some j => some (.nx, env2.set i (some (.lst (ts.set j (.sh t.toD)))), cs2)
          | none => none)
        | some (some (.sh (.cell c))) => (match cs2[c]? with
          | some (.lst ts) => (match ixN ts.length n with
            | some j => some (.nx, env2, cs2.set c (.lst (ts.set j (.sh t.toD))))
            | none => none)
          | _ => none)
        | _ => none)
      | _ => none)
    | _ => none

theorem KS.trans {o : Out} {D : Ends} (k : KS K mg ca F H fp o env cs D) (st : Step MA ca F H fp ca' F' H' fp') : KS K mg ca' F' H' fp' o env cs D := by
  cases o with
  | nx => exact fun σ' ca2 F2 H2 fp2 st2 S2 => k σ' ca2 F2 H2 fp2 (st.trans st2) S2
  | bk => exact fun σ' ca2 F2 H2 fp2 st2 S2 => k σ' ca2 F2 H2 fp2 (st.trans st2) S2
  | ct => exact fun σ' ca2 F2 H2 fp2 st2 S2 => k σ' ca2 F2 H2 fp2 (st.trans st2) S2
  | rt t => exact fun v σ' ca2 F2 H2 fp2 w st2 S2 r nd fr dj => k v σ' ca2 F2 H2 fp2 w (st.trans st2) S2 r nd (fun a ha => by
      rcases fr a ha with z | ⟨i, z⟩
      · exact .inl (st.noneOf z)
      · rcases st.sub _ a z with q | q
        · exact .inr ⟨i, q⟩
        · exact .inl q) dj
theorem KS.nx_of {D D' : Ends} {o : Out} (k : KS K mg ca F H fp o env cs D) (ho : o ≠ .nx) (hr : D'.rt = D.rt) (hb : D'.bk = D.bk) (hc : D'.ct = D.ct) : KS K mg ca F H fp o env cs D' := by
  cases o with
  | nx => exact absurd rfl ho
  | bk => unfold KS; rw [hb]; exact k
  | ct => unfold KS; rw [hc]; exact k
  | rt t => unfold KS; rw [hr]; exact k
theorem Step.noneA (st : Step MA ca F H fp ca' F' H' fp') {a : Addr} (h : H' a = none) : H a = none := st.noneOf h

variable {te : TE} {ev : Ev} {e : Expr} {pos : Pos} {st : Stmt} {sts : List Stmt} {ts us : TS} {sv uv : Sv} {tt : TT} {tv : Tv}
theorem snd_asg {g : TG} {vs : List Nat} {tg : T → Env → Option Env} (he : SndE K mg te ev) (hg : SndG K mg g vs tg) : SndS K mg (tAsg te g) (sAsg ev tg) := by
  intro ca F H σ env cs fp o env' cs' D S h k
  unfold sAsg at h
  split at h
  · cases h
  · rename_i t env1 cs1 h1
    split at h
    · cases h
    · rename_i env2 h2
      cases h
      refine he ca F H σ env cs fp t env1 _ _ S h1 fun v ca1 F1 H1 fp1 w st1 S1 r nd fr dj => ?_
      exact hg ca1 F1 H1 σ env1 _ fp1 v t w _ _ S1 r nd dj h2 fun σ' fp' S' sub _ _ => k σ' ca1 F1 H1 fp' ⟨st1.pre, st1.ff, st1.nf, st1.all.ext, fun r a ha => by
        rcases sub r a ha with z | z
        · exact st1.sub r a z
        · exact .inr (fr a z), st1.alive⟩ S'
theorem es_set {i : Nat} {x : Str} {pos' : Pos} (hN : X.N.Nodup) (he : EE X e te ev) (hi : X.N[i]? = some x := by rfl) (hx : Loc X.env.scope x := by first | exact .inl rfl | exact .inr rfl) (hs : swapsWith e (some (.Name x pos')) pos.line X.env = pure false := by rfl) (hf : X.fn x = true ∨ X.env.scope.names.lookup x = some .local := by first | exact .inl rfl | exact .inr rfl) :
    ES X (.Assign [.Name x pos'] e pos) (tAsg te (gName i)) (sAsg ev (gN i)) := ⟨ps_set hN hi hx he.pe hs hf, snd_asg he.snd (snd_gN i)⟩
theorem es_asg {tg : Expr} {g : TG} {vs : List Nat} {tgf : T → Env → Option Env} (he : EE X e te ev) (hg : EG X tg g vs tgf) (hs : swapsWithSole [tg] e pos.line X.env = pure false := by rfl) (hw : swappedStores [tg] e X.env = pure none := by rfl)
    (h1 : (assignEach [tg] X.env).map (·.2) = [assign tg X.env] := by rfl) : ES X (.Assign [tg] e pos) (tAsg te g) (sAsg ev tgf) := ⟨ps_asg he.pe hg.pg hs hw h1, snd_asg he.snd hg.snd⟩
/-- name = [..] on one line, the name a local -/
theorem es_setComp {i : Nat} {y : Str} {py spos : Pos} {elt tg iter : Expr} {ifs : List Expr} {scope : Scope} {own : List (Str × Nat)} {wi : TI} {it : Iv} {g : Blk TG} {vs : List Nat} {tgf : T → Env → Option Env} {tt : Blk TT} {tv : Tv} {tel : Blk TE} {el : Ev} (hc : X.calm = true) (hN : X.N.Nodup) (hi : EI X tg iter wi it) (ok : BlkOk X.N X.env.scope scope own)
    (hg : ∀ (s : Shared) (H : Hp) (C : Addr) (cl : List (Str × Addr)) (fp : List Addr), EG (X.blk s H scope (compEnvC scope cl C X.env) fp) tg (g s H C cl fp) vs tgf) (ht : ∀ (s : Shared) (H : Hp) (C : Addr) (cl : List (Str × Addr)) (fp : List Addr), ETs (X.blk s H scope (compEnvC scope cl C X.env) fp) ifs (tt s H C cl fp) tv)
    (he : ∀ (s : Shared) (H : Hp) (C : Addr) (cl : List (Str × Addr)) (fp : List Addr), EE (X.blk s H scope (compEnvC scope cl C X.env) fp) elt (tel s H C cl fp) el) (hy : X.N[i]? = some y := by rfl) (hyl : X.env.scope.names.lookup y = some .local := by rfl)
    (hsw : swapsWith (.ListComp elt [⟨tg, iter, ifs, 0⟩] scope pos) (some (.Name y py)) spos.line X.env = pure true := by exact sw_true rfl rfl rfl (by decide +kernel)) (hv : ∀ i ∈ vs, i ∈ own.map (·.2) := by decide) (hs : ∀ x, foldedSetIterable iter X.env x = pure x := by intro _; rfl) :
    ES X (.Assign [.Name y py] (.ListComp elt [⟨tg, iter, ifs, 0⟩] scope pos) spos) (tAsg (tLc wi (tgA g) (ttA tt) (teA tel) (own.map (·.2))) (gName i)) (sAsg (eComp (own.map (·.2)) it tgf tv el) (gN i)) :=
  ⟨ps_setLc hc hN hy hyl hsw hi.pi ok (tgA_pg (Z := fun s H C cl fp => X.blk s H scope (compEnvC scope cl C X.env) fp) fun s H C cl fp => (hg s H C cl fp).pg) (ttA_pt (Z := fun s H C cl fp => X.blk s H scope (compEnvC scope cl C X.env) fp) fun s H C cl fp => (ht s H C cl fp).pt) (teA_pe (Z := fun s H C cl fp => X.blk s H scope (compEnvC scope cl C X.env) fp) fun s H C cl fp => (he s H C cl fp).pe) hs,
    snd_asg (snd_comp hi.snd (tgA_snd fun s H C cl fp => (hg s H C cl fp).snd) hv (ttA_snd fun s H C cl fp => (ht s H C cl fp).snd) (teA_snd fun s H C cl fp => (he s H C cl fp).snd)) (snd_gN i)⟩
theorem snd_drop (he : SndE K mg te ev) : SndS K mg (tDrop te) (sDrop ev) := by
  intro ca F H σ env cs fp o env' cs' D S h k
  unfold sDrop at h
  split at h
  · cases h
  · rename_i h1
    cases h
    exact he ca F H σ env cs fp _ _ _ _ S h1 fun v ca1 F1 H1 fp1 w st1 S1 r nd fr dj => k σ ca1 F1 H1 fp1 st1.all S1
theorem es_expr (he : EE X e te ev) (hs : swapsWith e none pos.line X.env = pure false := by rfl) : ES X (.Expr e pos) (tDrop te) (sDrop ev) := ⟨ps_expr he.pe hs, snd_drop he.snd⟩
theorem snd_ret (he : SndE K mg te ev) : SndS K mg (tRet te) (sRet ev) := by
  intro ca F H σ env cs fp o env' cs' D S h k
  unfold sRet at h
  split at h
  · cases h
  · rename_i h1
    cases h
    exact he ca F H σ env cs fp _ _ _ _ S h1 fun v ca1 F1 H1 fp1 w st1 S1 r nd fr dj => k v σ ca1 F1 H1 fp1 w st1.all S1 r nd (fun a ha => .inl (fr a ha)) dj
theorem es_ret (he : EE X e te ev) : ES X (.Return (some e) pos) (tRet te) (sRet ev) := ⟨ps_ret he.pe, snd_ret he.snd⟩
theorem es_retN : ES X (.Return none pos) tRetN sRetN := ⟨ps_retN, fun ca F H σ env cs fp o env' cs' D S h k => by
  cases h
  exact k .non σ ca F H fp [] .refl S (.sh .non) List.nodup_nil (fun _ z => nomatch z) fun _ _ z => nomatch z⟩
theorem Sim.drop (S : Sim K mg ca F H σ env cs fp) (i : Nat) : Sim K mg ca F H σ (env.set i none) cs (fpSet fp i []) := by
  refine S.fpLess (fun r a h => ?_) (fun r => ?_) (by rw [List.length_set]; exact S.le) (fun j u e => ?_) fun j => ?_
  · rcases fpSet_sub h with z | z
    · exact z
    · cases z
  · unfold fpSet
    split
    · exact List.nodup_nil
    · exact S.nd r
  · by_cases hj : j = i
    · subst hj
      by_cases hl : j < env.length
      · rw [List.getElem?_set_self hl] at e; cases e
      · rw [List.getElem?_eq_none (by simpa using hl)] at e; cases e
    · rw [List.getElem?_set_ne (Ne.symm hj)] at e
      obtain ⟨v, e1, r⟩ := S.slot j u e
      refine ⟨v, e1, ?_⟩
      unfold fpSet
      rw [if_neg (by simp [hj])]
      exact r
  · unfold fpSet
    rw [if_neg (by simp)]
theorem snd_retV (i : Nat) : SndS K mg (tRet (tVar i)) (sRetV i) := by
  intro ca F H σ env cs fp o env' cs' D S h k
  unfold sRetV at h
  split at h
  · rename_i t e
    cases h
    obtain ⟨v, e1, r⟩ := S.slot i t e
    refine ⟨v, e1, k v σ ca F H (fpSet fp i []) (fp (.slot i)) (Step.less .refl fun r a ha => ?_) (S.drop i) r (S.nd _) (fun a ha => .inr ⟨i, ha⟩) fun r a ha z => ?_⟩
    · rcases fpSet_sub ha with z | z
      · exact z
      · cases z
    · unfold fpSet at z
      split at z
      · cases z
      · rename_i hr
        exact S.dj _ _ (Ne.symm hr) a ha z
  · cases h
theorem es_retV {i : Nat} {x : Str} {p : Pos} (hN : X.N[i]? = some x := by rfl) (hv : Vis X.env.scope x := by first | exact .inl rfl | exact .inr (.inl rfl) | exact .inr (.inr rfl)) (hd : (x == ("__debug__" : Str)) = false := by decide) (hcd : (x == ("__classdict__" : Str)) = false := by decide) : ES X (.Return (some (.Name x p)) pos) (tRet (tVar i)) (sRetV i) :=
  ⟨ps_ret (pe_var hN hv hd hcd), snd_retV i⟩
theorem snd_if (hc : SndT K mg tt tv) (ha : SndS K mg ts sv) (hb : SndS K mg us uv) : SndS K mg (tIfS tt ts us) (sIf tv sv uv) := by
  intro ca F H σ env cs fp o env' cs' D S h k
  unfold sIf at h
  split at h
  · cases h
  · rename_i b env1 cs1 h1
    refine hc ca F H σ env cs fp b env1 cs1 _ S h1 fun ca1 F1 H1 fp1 st1 S1 => ?_
    have k1 := KS.trans k st1.all
    cases b with
    | true => exact ha ca1 F1 H1 σ env1 cs1 fp1 o env' cs' D S1 h k1
    | false => exact hb ca1 F1 H1 σ env1 cs1 fp1 o env' cs' D S1 h k1
theorem es_if {c : Expr} {a b : List Stmt} (hc : ET X c tt tv) (ha : ESs X a ts sv) (hb : ESs X b us uv) : ES X (.If c a b pos) (tIfS tt ts us) (sIf tv sv uv) := ⟨ps_if hc.pt ha.ps hb.ps, snd_if hc.snd ha.snd hb.snd⟩
theorem snd_next : SndS K mg tNext sNext := fun ca F H σ env cs fp o env' cs' D S h k => by
  cases h
  exact k σ ca F H fp .refl S
theorem ess_nil : ESs X [] tNext sNext := ⟨pss_nil, snd_next⟩
theorem es_pass : ES X (.Pass pos) tNext sNext := ⟨ps_pass, snd_next⟩
theorem es_doc {x j pos'} : ES X (.Expr (.Constant (.str x) j pos) pos') tNext sNext := ⟨ps_doc, snd_next⟩
theorem es_break : ES X (.Break pos) tBreak sBrk := ⟨ps_break, fun ca F H σ env cs fp o env' cs' D S h k => by cases h; exact k σ ca F H fp .refl S⟩
theorem es_continue : ES X (.Continue pos) tCont sCnt := ⟨ps_continue, fun ca F H σ env cs fp o env' cs' D S h k => by cases h; exact k σ ca F H fp .refl S⟩
theorem es_never : ES X st tNever sNever := ⟨ps_never, fun ca F H σ env cs fp o env' cs' D S h k => nomatch h⟩
theorem ess_never : ESs X sts tNever sNever := ⟨pss_never, fun ca F H σ env cs fp o env' cs' D S h k => nomatch h⟩
theorem ess_one (h : ES X st ts sv) : ESs X [st] ts sv := ⟨pss_one h.ps, h.snd⟩
theorem ess_cons (h1 : ES X st ts sv) (h2 : ESs X sts us uv) : ESs X (st :: sts) (tSeq ts us) (sSeq sv uv) := by
  refine ⟨pss_cons h1.ps h2.ps, ?_⟩
  intro ca F H σ env cs fp o env' cs' D S h k
  unfold sSeq at h
  split at h
  · cases h
  · rename_i env1 cs1 e1
    refine h1.snd ca F H σ env cs fp .nx env1 cs1 _ S e1 ?_
    intro σ1 ca1 F1 H1 fp1 st1 S1
    exact h2.snd ca1 F1 H1 σ1 env1 cs1 fp1 o env' cs' D S1 h (KS.trans k st1)
  · rename_i o1 env1 cs1 hn e1
    cases h
    refine h1.snd ca F H σ env cs fp o env' cs' _ S e1 (KS.nx_of k ?_ rfl rfl rfl)
    exact fun z => by first | exact hn z | exact hn _ _ z | exact hn _ _ (by rw [z])
theorem snd_for {wi : TI} {it : Iv} {g : TG} {vs : List Nat} {tg : T → Env → Option Env} (hi : SndI K mg wi it) (hg : SndG K mg g vs tg) (hb : SndS K mg ts sv) : SndS K mg (tFor wi g ts) (sFor it tg sv) := by
  intro ca F H σ env cs fp o env' cs' D S h k
  unfold sFor at h
  split at h
  · cases h
  · rename_i ds env1 cs1 h1
    refine hi ca F H σ env cs fp ds env1 cs1 _ S h1 fun ca1 F1 H1 fp1 J st1 S1 ok hlen => ?_
    let W : Nat → St → Hp → Prop := fun i τ G => ∃ (ca2 : List Addr) (F2 : Hp) (fp2 : Fp) (envi : Env) (csi : CS), Step MA ca F H fp ca2 F2 G fp2 ∧ Sim K mg ca2 F2 G τ envi csi fp2 ∧ Pre ca1 ca2 ∧ Sub F1 F2 ∧ forL tg sv (ds.drop i) envi csi = some (o, env', cs')
    refine ⟨fun i m τ G => m = ds.length - i ∧ i ≤ ds.length ∧ W i τ G, ⟨ds.length, rfl, Nat.zero_le _, ca1, F1, fp1, env1, cs1, st1.all, S1, .refl, .refl, h⟩, ?_⟩
    rintro i m τ G ⟨rfl, hi', ca2, F2, fp2, envi, csi, st2, S2, pre2, sub2, hf⟩
    have ok2 := ok.mono sub2 pre2
    by_cases hlt : i < ds.length
    · have hd : ds[i]? = some ds[i] := List.getElem?_eq_getElem hlt
      have hdrop : ds.drop i = ds[i] :: ds.drop (i + 1) := List.drop_eq_getElem_cons hlt
      obtain ⟨go, yl⟩ := (ok2 i G S2.sub).1 _ hd
      refine .inr ⟨go, W (i + 1), fun τ' G' q => ⟨ds.length - (i + 1), by omega, rfl, hlt, q⟩, fun x G' y => ?_⟩
      obtain ⟨F3, g3, rx⟩ := ItY.sim (yl x G' y) S2
      have S3 := S2.grow g3
      have st3 := st2.trans (g3.step (M := MA) (ca := ca2) (fp := fp2))
      rw [hdrop] at hf
      unfold forL at hf
      split at hf
      · cases hf
      · rename_i enva ea
        refine hg ca2 F3 G' τ envi csi fp2 x (.sh ds[i]) [] enva _ S3 (.sh rx) List.nodup_nil (fun _ _ z => nomatch z) ea fun σ4 fp4 S4 sub4 l4 o4 => ?_
        have st4 : Step MA ca F H fp ca2 F3 G' fp4 := st3.less fun r a ha => by
          rcases sub4 r a ha with z | z
          · exact z
          · cases z
        have next : ∀ envb csb, sv enva csi = some (.nx, envb, csb) ∨ sv enva csi = some (.ct, envb, csb) → forL tg sv (ds.drop (i + 1)) envb csb = some (o, env', cs') → ∀ (σ' : St) (ca' : List Addr) (F' H' : Hp) (fp' : Fp), Step MA ca2 F3 G' fp4 ca' F' H' fp' → Sim K mg ca' F' H' σ' envb csb fp' → W (i + 1) σ' H' :=
          fun envb csb _ hr σ' ca' F' H' fp' st5 S5 => ⟨ca', F', fp', envb, csb, st4.trans st5, S5, pre2.trans st5.pre, sub2.trans (g3.ff.trans st5.ff), hr⟩
        split at hf
        · cases hf
        · rename_i envb csb eb
          exact hb ca2 F3 G' σ4 enva csi fp4 .nx envb csb _ S4 eb (next envb csb (.inl eb) hf)
        · rename_i envb csb eb
          exact hb ca2 F3 G' σ4 enva csi fp4 .ct envb csb _ S4 eb (next envb csb (.inr eb) hf)
        · rename_i envb csb eb
          cases hf
          exact hb ca2 F3 G' σ4 enva csi fp4 .bk env' cs' _ S4 eb (KS.trans (o := .nx) k st4)
        · rename_i t envb csb eb
          cases hf
          exact hb ca2 F3 G' σ4 enva csi fp4 (.rt t) env' cs' _ S4 eb (KS.trans (o := .rt t) k st4)
    · have hi2 : i = ds.length := by omega
      subst hi2
      rw [List.drop_length] at hf
      unfold forL at hf
      cases hf
      exact .inl ⟨(ok2 _ G S2.sub).2 (Nat.le_refl _), k τ ca2 F2 G fp2 st2 S2⟩
theorem es_for {iter tg : Expr} {body : List Stmt} {wi : TI} {it : Iv} {g : TG} {vs : List Nat} {tgf : T → Env → Option Env} (hc : X.calm = true) (hp : PassesOwn (model X.prog X.w) X.A X.env X.xe) (hi : EI X tg iter wi it) (hg : EG X tg g vs tgf) (hb : ESs X body ts sv)
    (hs : ∀ x, foldedSetIterable iter X.env x = pure x := by intro _; rfl) : ES X (.For tg iter body [] pos) (tFor wi g ts) (sFor it tgf sv) := ⟨ps_for hp hc hi.pi hg.pg hb.ps hs, snd_for hi.snd hg.snd hb.snd⟩
theorem snd_while {n : Nat} (hc : SndT K mg tt tv) (hb : SndS K mg ts sv) : SndS K mg (tWhile tt ts) (sWhile n tv sv) := by
  intro ca F H σ env cs fp o env' cs' D S h k
  unfold sWhile at h
  let W : Nat → St → Hp → Prop := fun m τ G => ∃ (ca2 : List Addr) (F2 : Hp) (fp2 : Fp) (envi : Env) (csi : CS), Step MA ca F H fp ca2 F2 G fp2 ∧ Sim K mg ca2 F2 G τ envi csi fp2 ∧ whileL tv sv m envi csi = some (o, env', cs')
  refine ⟨W, ⟨n, ca, F, fp, env, cs, .refl, S, h⟩, ?_⟩
  rintro m τ G ⟨ca2, F2, fp2, envi, csi, st2, S2, hf⟩
  cases m with
  | zero => cases hf
  | succ m =>
    unfold whileL at hf
    split at hf
    · cases hf
    · rename_i b envc csc ec
      refine hc ca2 F2 G τ envi csi fp2 b envc csc _ S2 ec fun ca3 F3 H3 fp3 st3 S3 => ?_
      have st3' := st2.trans st3.all
      cases b with
      | true =>
        rw [if_pos rfl] at hf ⊢
        refine ⟨W m, fun σ' H' q => ⟨m, Nat.lt_succ_self _, q⟩, ?_⟩
        have next : ∀ envb csb, whileL tv sv m envb csb = some (o, env', cs') → ∀ (σ' : St) (ca' : List Addr) (F' H' : Hp) (fp' : Fp), Step MA ca3 F3 H3 fp3 ca' F' H' fp' → Sim K mg ca' F' H' σ' envb csb fp' → W m σ' H' :=
          fun envb csb hr σ' ca' F' H' fp' st5 S5 => ⟨ca', F', fp', envb, csb, st3'.trans st5, S5, hr⟩
        split at hf
        · cases hf
        · rename_i envb csb eb
          exact hb ca3 F3 H3 τ envc csc fp3 .nx envb csb _ S3 eb (next envb csb hf)
        · rename_i envb csb eb
          exact hb ca3 F3 H3 τ envc csc fp3 .ct envb csb _ S3 eb (next envb csb hf)
        · rename_i envb csb eb
          cases hf
          exact hb ca3 F3 H3 τ envc csc fp3 .bk env' cs' _ S3 eb (KS.trans (o := .nx) k st3')
        · rename_i t envb csb eb
          cases hf
          exact hb ca3 F3 H3 τ envc csc fp3 (.rt t) env' cs' _ S3 eb (KS.trans (o := .rt t) k st3')
      | false =>
        rw [if_neg Bool.false_ne_true] at hf ⊢
        cases hf
        exact k τ ca3 F3 H3 fp3 st3' S3
theorem es_while {c : Expr} {body : List Stmt} (n : Nat) (hp : PassesOwn (model X.prog X.w) X.A X.env X.xe) (hc : ET X c tt tv) (hb : ESs X body ts sv) : ES X (.While c body [] pos) (tWhile tt ts) (sWhile n tv sv) := ⟨ps_while hp hc.pt hb.ps, snd_while hc.snd hb.snd⟩
theorem fpSet2_sub {i j : Nat} {w w' : List Addr} {r : Root} {a : Addr} (h : a ∈ fpSet (fpSet fp i w) j w' r) : a ∈ fp r ∨ a ∈ w ∨ a ∈ w' := by
  rcases fpSet_sub h with z | z
  · rcases fpSet_sub z with z | z
    · exact .inl z
    · exact .inr (.inl z)
  · exact .inr (.inr z)
theorem snd_par {i j : Nat} {ta : TA} {av : Av} (ha : SndA K mg ta av) : SndS K mg (tPar i j ta) (sPar i j av) := by
  intro ca F H σ env cs fp o env' cs' D S h k
  unfold sPar at h
  split at h
  · rename_i t u env1 cs1 h1
    cases h
    refine ha ca F H σ env cs fp [t, u] env1 cs' _ S h1 fun vs ca1 F1 H1 fp1 w st1 S1 r nd fr dj => ?_
    cases r with
    | @cons v vs _ _ w1 w2 r1 r2 =>
      cases r2 with
      | @cons v2 vs2 _ _ w3 w4 r3 r4 =>
        cases r4
        rw [List.append_nil] at nd fr dj
        obtain ⟨nd1, nd2, nd3⟩ := List.nodup_append.mp nd
        refine ⟨v, v2, rfl, k _ ca1 F1 H1 (fpSet (fpSet fp1 i w1) j w3) ⟨st1.pre, st1.ff, st1.nf, st1.all.ext, fun r a ha => ?_, st1.alive⟩ ((S1.set r1 nd1 fun r a ha => dj r a (List.mem_append_left _ ha)).set r3 nd2 fun r a ha z => ?_)⟩
        · rcases fpSet2_sub ha with z | z | z
          · exact st1.sub r a z
          · exact .inr (fr a (List.mem_append_left _ z))
          · exact .inr (fr a (List.mem_append_right _ z))
        · rcases fpSet_sub z with z | z
          · exact dj r a (List.mem_append_right _ ha) z
          · exact nd3 a z a ha rfl
  · cases h
theorem es_par {i j : Nat} {x y : Str} {a b : Expr} {ta : TA} {av : Av} {px py pt : Pos} {kt k2 pt2} (hc : X.calm = true) (hN : X.N.Nodup) (ha : EA X [a, b] ta av) (hij : i ≠ j := by decide) (hi : X.N[i]? = some x := by rfl) (hj : X.N[j]? = some y := by rfl)
    (hx : X.env.scope.names.lookup x = some .local := by rfl) (hy : X.env.scope.names.lookup y = some .local := by rfl)
    (hw : swappedStores [.Tuple [.Name x px, .Name y py] kt pt] (.Tuple [a, b] k2 pt2) X.env = pure (some [x, y]) := by rfl)
    (hs : swapsWithSole [.Tuple [.Name x px, .Name y py] kt pt] (.Tuple [a, b] k2 pt2) pos.line X.env = pure false := by rfl) :
    ES X (.Assign [.Tuple [.Name x px, .Name y py] kt pt] (.Tuple [a, b] k2 pt2) pos) (tPar i j ta) (sPar i j av) := ⟨ps_par hc hN hi hj hij hx hy ha.pa hw hs, snd_par ha.snd⟩
theorem snd_par3 {i j l : Nat} {ta : TA} {av : Av} (ha : SndA K mg ta av) : SndS K mg (tPar3 i j l ta) (sPar3 i j l av) := by
  intro ca F H σ env cs fp o env' cs' D S h k
  unfold sPar3 at h
  split at h
  · rename_i t u v env1 cs1 h1
    cases h
    refine ha ca F H σ env cs fp [t, u, v] env1 cs' _ S h1 fun vs ca1 F1 H1 fp1 w st1 S1 r nd fr dj => ?_
    cases r with
    | @cons v vs _ _ w1 w2 r1 r2 =>
      cases r2 with
      | @cons v2 vs2 _ _ w3 w4 r3 r4 =>
        cases r4 with
        | @cons v3 vs3 _ _ w5 w6 r5 r6 =>
          cases r6
          rw [List.append_nil] at nd fr dj
          obtain ⟨nd1, nd2, nd3⟩ := List.nodup_append.mp nd
          obtain ⟨nd4, nd5, nd6⟩ := List.nodup_append.mp nd2
          refine ⟨v, v2, v3, rfl, k _ ca1 F1 H1 (fpSet (fpSet (fpSet fp1 i w1) j w3) l w5) ⟨st1.pre, st1.ff, st1.nf, st1.all.ext, fun r a ha => ?_, st1.alive⟩ (((S1.set r1 nd1 fun r a ha => dj r a (List.mem_append_left _ ha)).set r3 nd4 fun r a ha z => ?_).set r5 nd5 fun r a ha z => ?_)⟩
          · rcases fpSet_sub ha with z | z
            · rcases fpSet2_sub z with z | z | z
              · exact st1.sub r a z
              · exact .inr (fr a (List.mem_append_left _ z))
              · exact .inr (fr a (List.mem_append_right _ (List.mem_append_left _ z)))
            · exact .inr (fr a (List.mem_append_right _ (List.mem_append_right _ z)))
          · rcases fpSet_sub z with z | z
            · exact dj r a (List.mem_append_right _ (List.mem_append_left _ ha)) z
            · exact nd3 a z a (List.mem_append_left _ ha) rfl
          · rcases fpSet2_sub z with z | z | z
            · exact dj r a (List.mem_append_right _ (List.mem_append_right _ ha)) z
            · exact nd3 a z a (List.mem_append_right _ ha) rfl
            · exact nd6 a z a ha rfl
  · cases h
theorem es_par3 {i j l : Nat} {x y z : Str} {a b c : Expr} {ta : TA} {av : Av} {px py pz pt : Pos} {kt k2 pt2} (hc : X.calm = true) (hN : X.N.Nodup) (ha : EA X [a, b, c] ta av) (hij : i ≠ j := by decide) (hil : i ≠ l := by decide) (hjl : j ≠ l := by decide) (hi : X.N[i]? = some x := by rfl) (hj : X.N[j]? = some y := by rfl) (hl : X.N[l]? = some z := by rfl)
    (hx : X.env.scope.names.lookup x = some .local := by rfl) (hy : X.env.scope.names.lookup y = some .local := by rfl) (hz : X.env.scope.names.lookup z = some .local := by rfl)
    (hw : swappedStores [.Tuple [.Name x px, .Name y py, .Name z pz] kt pt] (.Tuple [a, b, c] k2 pt2) X.env = pure (some [x, y, z]) := by rfl)
    (hs : swapsWithSole [.Tuple [.Name x px, .Name y py, .Name z pz] kt pt] (.Tuple [a, b, c] k2 pt2) pos.line X.env = pure false := by rfl) :
    ES X (.Assign [.Tuple [.Name x px, .Name y py, .Name z pz] kt pt] (.Tuple [a, b, c] k2 pt2) pos) (tPar3 i j l ta) (sPar3 i j l av) := ⟨ps_par3 hc hN hi hj hl hij hil hjl hx hy hz ha.pa hw hs, snd_par3 ha.snd⟩

/-! ### stores -/
/-- what a root owns is changed at one place -/
structure Wr (K : PySem.W.Frag) (mg : Str → Option Value) (ca : List Addr) (F H : Hp) (fp : Fp) (r0 : Root) (p : Addr) (o : HO) (v : V) (t' : T) (w' : List Addr) : Prop where
  own : p ∈ fp r0
  rep : RepT K mg ca F (upd H p o) v t' w'
  nd : w'.Nodup
  sub : ∀ a ∈ w', a ∈ fp r0 ∨ ∀ r, a ∉ fp r
def fpR (fp : Fp) (r0 : Root) (w' : List Addr) : Fp := fun r => if r = r0 then w' else fp r
theorem fpR_sub {r0 r : Root} {w' : List Addr} {a : Addr} (h : a ∈ fpR fp r0 w' r) : (r = r0 ∧ a ∈ w') ∨ (r ≠ r0 ∧ a ∈ fp r) := by
  unfold fpR at h
  by_cases hr : r = r0
  · rw [if_pos hr] at h; exact .inl ⟨hr, h⟩
  · rw [if_neg hr] at h; exact .inr ⟨hr, h⟩
section
variable {r0 : Root} {p : Addr} {o : HO} {v : V} {t' : T} {w' : List Addr}
theorem Wr.other (S : Sim K mg ca F H σ env cs fp) (w : Wr K mg ca F H fp r0 p o v t' w') {r : Root} (hr : r ≠ r0) : p ∉ fp r := S.dj r0 r (Ne.symm hr) p w.own
theorem Wr.free (S : Sim K mg ca F H σ env cs fp) (w : Wr K mg ca F H fp r0 p o v t' w') : F p = none := (S.own r0 p w.own).1
theorem Wr.sim (S : Sim K mg ca F H σ env cs fp) (w : Wr K mg ca F H fp r0 p o v t' w') {env2 : Env} {cs2 : CS} (le : env2.length ≤ σ.length)
    (slot : ∀ i t, env2[i]? = some (some t) → (r0 = .slot i ∧ t = t' ∧ σ[i]? = some (some v)) ∨ (r0 ≠ .slot i ∧ env[i]? = some (some t)))
    (hl : cs2.length = cs.length) (cell : ∀ i t, cs2[i]? = some t → (r0 = .cell i ∧ t = t' ∧ (∀ d, t ≠ .sh d) ∧ ∃ a, ca[i]? = some a ∧ v = .ref a) ∨ (r0 ≠ .cell i ∧ cs[i]? = some t)) :
    Sim K mg ca F (upd H p o) σ env2 cs2 (fpR fp r0 w') := by
  have hF := w.free S
  have keep : ∀ {r : Root} {u : V} {t : T}, r ≠ r0 → RepT K mg ca F H u t (fp r) → RepT K mg ca F (upd H p o) u t (fp r) := fun {r u t} hr q =>
    RepT.keep .refl .refl t u _ q (fun a ha => (S.own _ a ha).1) fun a ha x e => by rw [upd_ne (fun z => w.other S hr (by rw [← z]; exact ha))]; exact e
  have in1 : fpR fp r0 w' r0 = w' := if_pos rfl
  have in2 : ∀ {r}, r ≠ r0 → fpR fp r0 w' r = fp r := fun h => if_neg h
  refine ⟨fun a x e => by rw [upd_ne (ne_of_none e hF)]; exact S.sub a x e, le, fun i t e => ?_, S.len.trans hl.symm, fun i t e => ?_, fun r => ?_, fun r r' hr a ha z => ?_, fun r a ha => ?_⟩
  · rcases slot i t e with ⟨rfl, rfl, e1⟩ | ⟨hr, e1⟩
    · exact ⟨v, e1, by rw [in1]; exact w.rep⟩
    · obtain ⟨u, e2, q⟩ := S.slot i t e1
      exact ⟨u, e2, by rw [in2 (Ne.symm hr)]; exact keep (Ne.symm hr) q⟩
  · rcases cell i t e with ⟨rfl, rfl, n, a, e1, rfl⟩ | ⟨hr, e1⟩
    · exact ⟨a, e1, by rw [in1]; exact w.rep, n⟩
    · obtain ⟨a, e2, q, n⟩ := S.cell i t e1
      exact ⟨a, e2, by rw [in2 (Ne.symm hr)]; exact keep (Ne.symm hr) q, n⟩
  · by_cases hr : r = r0
    · rw [hr, in1]; exact w.nd
    · rw [in2 hr]; exact S.nd r
  · rcases fpR_sub ha with ⟨rfl, h1⟩ | ⟨h1, h2⟩
    · rw [in2 (Ne.symm hr)] at z
      rcases w.sub a h1 with q | q
      · exact S.dj _ _ hr a q z
      · exact q r' z
    · rcases fpR_sub z with ⟨rfl, h3⟩ | ⟨h3, h4⟩
      · rcases w.sub a h3 with q | q
        · exact S.dj _ _ hr a h2 q
        · exact q r h2
      · exact S.dj _ _ hr a h2 h4
  · rcases fpR_sub ha with ⟨rfl, h1⟩ | ⟨h1, h2⟩
    · exact RepT.owns _ _ _ w.rep a h1
    · obtain ⟨f, x, e, q⟩ := S.own r a h2
      exact ⟨f, x, by rw [upd_ne (fun z => w.other S h1 (by rw [← z]; exact h2))]; exact e, q⟩
theorem Wr.step (S : Sim K mg ca F H σ env cs fp) (w : Wr K mg ca F H fp r0 p o v t' w') {ca0 : List Addr} {F0 H0 : Hp} {fp0 : Fp} (st : Step MA ca0 F0 H0 fp0 ca F H fp) (hw : ∀ a ∈ w', a ∈ fp r0 ∨ H0 a = none) : Step MA ca0 F0 H0 fp0 ca F (upd H p o) (fpR fp r0 w') where
  pre := st.pre
  ff := st.ff
  nf := st.nf
  ext := fun a x e hm => by
    have hne : a ≠ p := fun z => by
      rcases st.sub r0 p w.own with q | q
      · exact hm r0 trivial (by rw [z]; exact q)
      · rw [← z, e] at q; cases q
    rw [upd_ne hne]
    exact st.ext a x e hm
  sub := fun r a ha => by
    rcases fpR_sub ha with ⟨rfl, h1⟩ | ⟨h1, h2⟩
    · rcases hw a h1 with z | z
      · exact st.sub _ a z
      · exact .inr z
    · exact st.sub r a h2
  alive := fun a x e => by
    obtain ⟨x', e'⟩ := st.alive a x e
    by_cases ha : a = p
    · subst ha; exact ⟨o, upd_same⟩
    · exact ⟨x', by rw [upd_ne ha]; exact e'⟩
end
theorem snd_app {i : Nat} (he : SndE K mg te ev) : SndS K mg (tDrop (tBM K "list" rAppend (tVar i) (tCons te tNil))) (sApp i ev) := by
  intro ca F H σ env cs fp o env' cs' D S h k
  unfold sApp at h
  split at h
  · rename_i ts0 e0
    split at h
    · cases h
    · rename_i t env1 cs1 h1
      split at h
      · rename_i ts e1
        split at h
        · rename_i hlen
          cases h
          obtain ⟨v0, ev0, rv0⟩ := S.slot i _ e0
          refine ⟨v0, ev0, ?_⟩
          generalize hwi : fp (.slot i) = wi at rv0
          cases rv0 with
          | @lst p vs0 _ w0 a0 f0 l0 r0 =>
            refine ⟨.inl ⟨rfl, _, SqL.of a0⟩, ?_⟩
            refine he ca F H σ env cs fp t env1 _ _ S h1 fun v ca1 F1 H1 fp1 w st1 S1 r nd fr dj => ?_
            obtain ⟨v1, ev1, rv1⟩ := S1.slot i _ e1
            rw [ev0] at ev1
            cases ev1
            have nd1 := S1.nd (.slot i)
            have sub1 := fun a ha => st1.sub (.slot i) a ha
            generalize hwj : fp1 (.slot i) = wj at rv1 nd1 sub1
            cases rv1 with
            | @lst _ vs1 _ w1 a1 f1 l1 r1 =>
              have hl1 : vs1.length < sizeLine := by rw [RepTs.length r1]; exact hlen
              refine ⟨p, vs1, v, rfl, rfl, a1, hl1, ?_⟩
              have npw : p ∉ w := fun z => by
                have q := dj (.slot i) p z
                rw [hwj] at q
                exact q List.mem_cons_self
              have npw1 : p ∉ w1 := (List.nodup_cons.mp nd1).1
              have W : Wr K mg ca1 F1 H1 fp1 (.slot i) p (.lst (vs1 ++ [v])) (.ref p) (.lst (ts ++ [t])) (p :: (w1 ++ w)) := by
                refine ⟨by rw [hwj]; exact List.mem_cons_self, .lst upd_same f1 (by rw [List.length_append, List.length_singleton]; exact hl1) (RepTs.snoc (RepTs.keep .refl .refl _ _ _ r1 (fun a ha => (RepTs.own _ _ _ r1 a ha).1) fun a ha x e => by rw [upd_ne (fun z => npw1 (by rw [← z]; exact ha))]; exact e) (RepT.keep .refl .refl _ _ _ r (fun a ha => (RepT.own _ _ _ r a ha).1) fun a ha x e => by rw [upd_ne (fun z => npw (by rw [← z]; exact ha))]; exact e)), ?_, fun a ha => ?_⟩
                · rw [← List.cons_append]
                  refine List.nodup_append.mpr ⟨nd1, nd, fun a ha b hb z => ?_⟩
                  have q := dj (.slot i) b hb
                  rw [hwj, ← z] at q
                  exact q ha
                · rw [← List.cons_append] at ha
                  rcases List.mem_append.mp ha with ha | ha
                  · exact .inl (by rw [hwj]; exact ha)
                  · exact .inr fun r => dj r a ha
              have hi : i < env1.length := (List.getElem?_eq_some_iff.mp e1).1
              refine k σ ca1 F1 _ _ (W.step S1 st1.all fun a ha => ?_) (W.sim S1 (by rw [List.length_set]; exact S1.le) (fun j u e => ?_) rfl fun j u e => .inr ⟨by simp, e⟩)
              · rw [← List.cons_append] at ha
                rcases List.mem_append.mp ha with ha | ha
                · exact .inl (by rw [hwj]; exact ha)
                · exact .inr (fr a ha)
              · by_cases hj : j = i
                · subst hj
                  rw [List.getElem?_set_self hi] at e
                  cases e
                  exact .inl ⟨rfl, rfl, ev0⟩
                · rw [List.getElem?_set_ne (Ne.symm hj)] at e
                  exact .inr ⟨by simp [Ne.symm hj], e⟩
        · cases h
      · cases h
  · cases h
/-- a name's method append -/
theorem es_app {i : Nat} {x : Str} {px apos cpos : Pos} {e : Expr} (he : EE X e te ev) (hN : X.N[i]? = some x := by rfl) (hv : Vis X.env.scope x := by first | exact .inl rfl | exact .inr (.inl rfl) | exact .inr (.inr rfl)) (hd : (x == ("__debug__" : Str)) = false := by decide) (hcd : (x == ("__classdict__" : Str)) = false := by decide)
    (hp : PE X (.Call (.Attribute (.Name x px) "append" apos) [e] [] cpos) (tBM X.K "list" rAppend (tVar i) (tCons te tNil))) (hs : swapsWith (.Call (.Attribute (.Name x px) "append" apos) [e] [] cpos) none pos.line X.env = pure false := by rfl) :
    ES X (.Expr (.Call (.Attribute (.Name x px) "append" apos) [e] [] cpos) pos) (tDrop (tBM X.K "list" rAppend (tVar i) (tCons te tNil))) (sApp i ev) := ⟨ps_expr hp hs, snd_app he.snd⟩
theorem RepTs.setSh : ∀ {vs : List V} {ts : List T} {w : List Addr} (j : Nat) {v : V} {d : D}, RepTs K mg ca F H vs ts w → RepD K mg ca F v d → ∃ w', RepTs K mg ca F H (vs.set j v) (ts.set j (.sh d)) w' ∧ List.Sublist w' w
  | _, _, _, _, _, _, .nil, _ => ⟨[], .nil, List.Sublist.refl _⟩
  | _, _, _, 0, _, _, .cons (w := w) (w' := w') h1 h2, r => ⟨w', by
      have q := RepTs.cons (.sh (H := H) r) h2
      exact q, List.sublist_append_right w w'⟩
  | _, _, _, j + 1, _, _, .cons (w := w) h1 h2, r => by
    obtain ⟨w2, q, s⟩ := RepTs.setSh j h2 r
    exact ⟨w ++ w2, .cons h1 q, s.append_left w⟩
theorem snd_ix {i : Nat} {tk : TE} {ek : Ev} (he : SndE K mg te ev) (hk : SndE K mg tk ek) : SndS K mg (tAsg te (gSub (tVar i) tk rSetL)) (sIx i ev ek) := by
  intro ca F H σ env cs fp o env' cs' D S h k
  unfold sIx at h
  split at h
  · cases h
  · rename_i t env1 cs1 h1
    split at h
    · rename_i t0 e0
      split at h
      · rename_i n env2 cs2 h2
        refine he.data S h1 fun v ca1 F1 H1 fp1 st1 S1 rv => ?_
        obtain ⟨v0, ev0, _⟩ := S1.slot i _ e0
        refine ⟨v0, ev0, ?_⟩
        refine hk.data S1 h2 fun z ca2 F2 H2 fp2 st2 S2 rz => ?_
        have ez : z = .int n := int_of rz
        subst ez
        have rv2 := RepD.mono st2.ff st2.pre _ _ rv
        have st12 := st1.trans st2
        have fin : ∀ (r0 : Root) (p : Addr) (vs : List V) (ts : List T) (w : List Addr) (j : Nat), fp2 r0 = p :: w → H2 p = some (.lst vs) → F2 p = none → vs.length ≤ sizeLine → RepTs K mg ca2 F2 H2 vs ts w →
            ∃ w', Wr K mg ca2 F2 H2 fp2 r0 p (.lst (vs.set j v)) (.ref p) (.lst (ts.set j (.sh t.toD))) (p :: w') ∧ Step MA ca F H fp ca2 F2 (upd H2 p (.lst (vs.set j v))) (fpR fp2 r0 (p :: w')) := fun r0 p vs ts w j hr0 a2 f2 l2 r2 => by
          obtain ⟨w', q, sl⟩ := RepTs.setSh j r2 rv2
          have nd2 := S2.nd r0
          rw [hr0] at nd2
          have np : p ∉ w' := fun z => (List.nodup_cons.mp nd2).1 (sl.subset z)
          have W : Wr K mg ca2 F2 H2 fp2 r0 p (.lst (vs.set j v)) (.ref p) (.lst (ts.set j (.sh t.toD))) (p :: w') := by
            refine ⟨by rw [hr0]; exact List.mem_cons_self, .lst upd_same f2 (by rw [List.length_set]; exact l2) (RepTs.keep .refl .refl _ _ _ q (fun a ha => (RepTs.own _ _ _ q a ha).1) fun a ha x e => by rw [upd_ne (fun z => np (by rw [← z]; exact ha))]; exact e), nd2.sublist (sl.cons_cons p), fun a ha => .inl ?_⟩
            rw [hr0]
            exact (sl.cons_cons p).subset ha
          exact ⟨w', W, W.step S2 st12.all fun a ha => .inl (by rw [hr0]; exact (sl.cons_cons p).subset ha)⟩
        split at h
        · rename_i ts e2
          split at h
          · rename_i j hj
            cases h
            obtain ⟨v1, ev1, rv1⟩ := S2.slot i _ e2
            rw [ev0] at ev1
            cases ev1
            generalize hwj : fp2 (.slot i) = wj at rv1
            cases rv1 with
            | @lst p vs _ w a1 f1 l1 r1 =>
              obtain ⟨w', W, stW⟩ := fin (.slot i) p vs ts w j hwj a1 f1 l1 r1
              have hi : i < env2.length := (List.getElem?_eq_some_iff.mp e2).1
              refine ⟨p, vs, n, j, rfl, rfl, a1, by rw [RepTs.length r1]; exact hj, k σ ca2 F2 _ _ stW (W.sim S2 (by rw [List.length_set]; exact S2.le) (fun l u e => ?_) rfl fun l u e => .inr ⟨by simp, e⟩)⟩
              by_cases hl : l = i
              · subst hl
                rw [List.getElem?_set_self hi] at e
                cases e
                exact .inl ⟨rfl, rfl, ev0⟩
              · rw [List.getElem?_set_ne (Ne.symm hl)] at e
                exact .inr ⟨by simp [Ne.symm hl], e⟩
          · cases h
        · rename_i c e2
          split at h
          · rename_i ts e3
            split at h
            · rename_i j hj
              cases h
              obtain ⟨v1, ev1, rv1⟩ := S2.slot i _ e2
              rw [ev0] at ev1
              cases ev1
              have rc := RepT.shD rv1
              cases rc with
              | @cell _ p ec =>
                obtain ⟨p', ep, rp, hn⟩ := S2.cell c _ e3
                rw [ec] at ep
                cases ep
                generalize hwj : fp2 (.cell c) = wj at rp
                cases rp with
                | @lst p vs _ w a1 f1 l1 r1 =>
                  obtain ⟨w', W, stW⟩ := fin (.cell c) p vs ts w j hwj a1 f1 l1 r1
                  have hi : c < cs2.length := (List.getElem?_eq_some_iff.mp e3).1
                  refine ⟨p, vs, n, j, rfl, rfl, a1, by rw [RepTs.length r1]; exact hj, k σ ca2 F2 _ _ stW (W.sim S2 S2.le (fun l u e => .inr ⟨by simp, e⟩) (by rw [List.length_set]) fun l u e => ?_)⟩
                  by_cases hl : l = c
                  · subst hl
                    rw [List.getElem?_set_self hi] at e
                    cases e
                    exact .inl ⟨rfl, rfl, (fun d z => by cases z), p, ec, rfl⟩
                  · rw [List.getElem?_set_ne (Ne.symm hl)] at e
                    exact .inr ⟨by simp [Ne.symm hl], e⟩
            · cases h
          · cases h
        · cases h
      · cases h
    · cases h
/-- x[k] = e -/
theorem es_ix {i : Nat} {x : Str} {e kk : Expr} {tk : TE} {ek : Ev} {px tpos : Pos} (he : EE X e te ev) (hk : EE X kk tk ek) (hN : X.N[i]? = some x := by rfl) (hv : Vis X.env.scope x := by first | exact .inl rfl | exact .inr (.inl rfl) | exact .inr (.inr rfl)) (hd : (x == ("__debug__" : Str)) = false := by decide) (hcd : (x == ("__classdict__" : Str)) = false := by decide)
    (ha : ∀ v, assign (.Subscript (.Name x px) kk tpos) X.env v = (do
      let ov ← holding [v] (eval (.Name x px) X.env)
      let iv ← holding [v, ov] (eval kk X.env)
      standAt tpos
      holding [v, ov, iv] (setItem ov iv v)
      release [v, ov, iv] []) := by intro _; rfl) (hs : swapsWithSole [.Subscript (.Name x px) kk tpos] e pos.line X.env = pure false := by rfl) (hw : swappedStores [.Subscript (.Name x px) kk tpos] e X.env = pure none := by rfl)
    (h1 : (assignEach [.Subscript (.Name x px) kk tpos] X.env).map (·.2) = [assign (.Subscript (.Name x px) kk tpos) X.env] := by rfl) :
    ES X (.Assign [.Subscript (.Name x px) kk tpos] e pos) (tAsg te (gSub (tVar i) tk rSetL)) (sIx i ev ek) := ⟨ps_asg he.pe (pg_sub (pe_var hN hv hd hcd) hk.pe set_list ha) hs hw h1, snd_ix he.snd hk.snd⟩
end
end PD
end
section
set_option Elab.async false
set_option linter.all false
set_option maxRecDepth 100000
set_option autoImplicit false
namespace PD
open PySem L2 PyProof.Rows

section
variable {K : PySem.W.Frag} {mg : Str → Option Value} {ca : List Addr} {F H : Hp} {v : V} {d : D}
/-! ### readings -/
theorem RepD.int' {i : Int} (h : RepD K mg ca F v (.int i)) : v = .int i := by cases h; rfl
theorem RepD.bl' {i : Bool} (h : RepD K mg ca F v (.bl i)) : v = .bl i := by cases h; rfl
theorem RepD.non' (h : RepD K mg ca F v .non) : v = .non := by cases h; rfl
theorem RepD.ty' {n : String} (h : RepD K mg ca F v (.ty n)) : v = .ty n := by cases h; rfl
theorem RepD.str' {x : Str} (h : RepD K mg ca F v (.str x)) : v = .str x ∧ x.length ≤ sizeLine ∧ PyData.strOk x = true := by cases h; exact ⟨rfl, ‹_›, ‹_›⟩
theorem RepD.rep' {p : PyData} (h : RepD K mg ca F v (.rep p)) : v = .str p.shown := by cases h; rfl
theorem RepD.tup' {t : TK} {ds : List D} (h : RepD K mg ca F v (.tup t ds)) : ∃ a vs, v = .ref a ∧ SqT K F a vs ∧ vs.length ≤ sizeLine ∧ RepDs K mg ca F vs ds := by cases h with | tup a l r => exact ⟨_, _, rfl, a.sq, l, r⟩
theorem RepD.tupA {t : TK} {ds : List D} (h : RepD K mg ca F v (.tup t ds)) : ∃ a vs, v = .ref a ∧ TupAt K F t a vs ∧ vs.length ≤ sizeLine ∧ RepDs K mg ca F vs ds := by cases h with | tup a l r => exact ⟨_, _, rfl, a, l, r⟩
theorem RepD.lst' {ds : List D} (h : RepD K mg ca F v (.lst ds)) : ∃ a vs, v = .ref a ∧ F a = some (.lst vs) ∧ vs.length ≤ sizeLine ∧ RepDs K mg ca F vs ds := by cases h; exact ⟨_, _, rfl, ‹_›, ‹_›, ‹_›⟩
theorem RepD.rlst' {ds : List D} (h : RepD K mg ca F v (.rlst ds)) : ∃ a vs, v = .ref a ∧ SqL K F a vs ∧ vs.length ≤ sizeLine ∧ RepDs K mg ca F vs ds := by cases h; exact ⟨_, _, rfl, ‹_›, ‹_›, ‹_›⟩
theorem RepD.dK' {ds : List (D × D)} (h : RepD K mg ca F v (.dct .K ds)) : ∃ a kvs, v = .ref a ∧ Rd F a (.dK kvs) ∧ kvs.length ≤ sizeLine ∧ RepKs K mg ca F kvs ds := by cases h; exact ⟨_, _, rfl, ‹_›, ‹_›, ‹_›⟩
theorem RepD.cell' {i : Nat} (h : RepD K mg ca F v (.cell i)) : ∃ a, v = .ref a ∧ ca[i]? = some a := by cases h; exact ⟨_, rfl, ‹_›⟩
theorem RepD.fn' {x : Str} (h : RepD K mg ca F v (.fn x)) : ∃ a, v = .ref a ∧ mg x = some (.ref a) := by cases h; exact ⟨_, rfl, ‹_›⟩
/-- the items of a sequence that is walked, measured -/
def D.seq : D → Option (List D)
  | .lst xs => some xs
  | .rlst xs => some xs
  | .tup _ xs => some xs
  | _ => none
theorem RepD.seq' {ds : List D} (h : RepD K mg ca F v d) (e : d.seq = some ds) : ∃ a vs, v = .ref a ∧ (SqL K F a vs ∨ SqT K F a vs) ∧ vs.length ≤ sizeLine ∧ RepDs K mg ca F vs ds := by
  cases d with
  | lst xs => cases e; obtain ⟨a, vs, rfl, q, l, r⟩ := h.lst'; exact ⟨a, vs, rfl, .inl (.inl (.inl q)), l, r⟩
  | rlst xs => cases e; obtain ⟨a, vs, rfl, q, l, r⟩ := h.rlst'; exact ⟨a, vs, rfl, .inl q, l, r⟩
  | tup _ xs => cases e; obtain ⟨a, vs, rfl, q, l, r⟩ := h.tup'; exact ⟨a, vs, rfl, .inr q, l, r⟩
  | _ => cases e
def D.seqL : D → Option (List D)
  | .lst xs => some xs
  | .rlst xs => some xs
  | _ => none
theorem RepD.lists {ds : List D} (h : RepD K mg ca F v d) (e : d.seqL = some ds) : ∃ a vs, v = .ref a ∧ SqL K F a vs ∧ vs.length ≤ sizeLine ∧ RepDs K mg ca F vs ds := by
  cases d with
  | lst xs => cases e; obtain ⟨a, vs, rfl, q, l, r⟩ := h.lst'; exact ⟨a, vs, rfl, .inl (.inl q), l, r⟩
  | rlst xs => cases e; obtain ⟨a, vs, rfl, q, l, r⟩ := h.rlst'; exact ⟨a, vs, rfl, q, l, r⟩
  | _ => cases e

theorem RepD.anyT {t : TK} {ds : List D} (h : RepD K mg ca F v (.tup t ds)) : RepD K mg ca F v (.tup .any ds) := by
  cases h with | tup a l r => exact .tup (t := .any) a.sq l r
theorem OpK.anyT {ds : List D} {Q : VK} (k : OpK K mg ca F H (.sh (.tup .any ds)) Q) : OpK K mg ca F H (.sh (.tup .ex ds)) Q := fun v F' H' w g r nd fr => by
  cases r with
  | sh r => exact k v F' H' [] g (.sh r.anyT) nd fr
/-! ### + -/
def dAdd : D → D → Option T
  | .int i, .int j => some (.sh (.int (i + j)))
  | .str x, .str y => if x.length + y.length ≤ sizeLine then some (.sh (.str (x ++ y))) else none
  | .lst xs, .lst ys => if xs.length + ys.length ≤ sizeLine then some (.lst ((xs ++ ys).map T.sh)) else none
  | .tup t xs, .tup u ys => if xs.length + ys.length ≤ sizeLine then some (.sh (.tup .any (xs ++ ys))) else none
  | _, _ => none
def rAddS : R2 := fun x y H Q => ∃ i j, x = .str i ∧ y = .str j ∧ i.length + j.length ≤ sizeLine ∧ Q (.str (i ++ j)) H
def rAdd (K : PySem.W.Frag) : R2 := fun x y H Q => ((rI0 fun i j => .int (i + j)) x y H Q ∨ rAddS x y H Q) ∨ (rCat x y H Q ∨ rCatA K x y H Q)
theorem op_addAny {X : Cx} : OpR X (binaryOp .Add) (rAdd X.K) := OpR.or (OpR.or op_add op_add_str) (OpR.or op_cat op_catA)
theorem strOk_append {x y : Str} (hx : PyData.strOk x = true) (hy : PyData.strOk y = true) : PyData.strOk (x ++ y) = true := by
  unfold PyData.strOk at hx hy ⊢
  show (x.cps ++ y.cps).all _ = true
  rw [Array.all_append, hx, hy]
  rfl
theorem length_append (x y : Str) : (x ++ y).length = x.length + y.length := by
  show (x.cps ++ y.cps).size = _
  rw [Array.size_append]
  rfl
theorem o_add : Op2S K mg (rAdd K) dAdd := by
  intro ca F H x y d e t Q hs rx ry h k
  unfold dAdd at h
  split at h
  · cases h
    rw [rx.int', ry.int']
    exact .inl (.inl ⟨_, _, rfl, rfl, OpK.same hs k (.int _)⟩)
  · split at h
    · rename_i hl
      cases h
      obtain ⟨rfl, l1, o1⟩ := rx.str'
      obtain ⟨rfl, l2, o2⟩ := ry.str'
      exact .inl (.inr ⟨_, _, rfl, rfl, hl, OpK.same hs k (.str _ (by rw [length_append]; exact hl) (strOk_append o1 o2))⟩)
    · cases h
  · split at h
    · rename_i hl
      cases h
      obtain ⟨a, vs, rfl, q1, l1, r1⟩ := rx.lst'
      obtain ⟨b, us, rfl, q2, l2, r2⟩ := ry.lst'
      have hz : vs.length + us.length ≤ sizeLine := by rw [RepDs.length r1, RepDs.length r2]; exact hl
      exact .inr (.inl ⟨a, b, vs, us, rfl, rfl, hs _ _ q1, hs _ _ q2, hz, fun p hp => OpK.newL hs k hp (RepDs.append r1 r2) (by rw [List.length_append]; exact hz)⟩)
    · cases h
  · split at h
    · rename_i hl
      cases h
      obtain ⟨a, vs, rfl, q1, l1, r1⟩ := rx.tup'
      obtain ⟨b, us, rfl, q2, l2, r2⟩ := ry.tup'
      have hz : vs.length + us.length ≤ sizeLine := by rw [RepDs.length r1, RepDs.length r2]; exact hl
      refine .inr (.inr ⟨a, b, vs, us, rfl, rfl, SqT.mono hs q1, SqT.mono hs q2, hz, fun e => ?_, fun _ e => ?_, fun _ _ p hp => OpK.newT hs (OpK.anyT k) hp (RepDs.append r1 r2) (by rw [List.length_append]; exact hz)⟩)
      · subst e
        cases r1
        exact OpK.same hs k (RepD.anyT ry)
      · subst e
        cases r2
        rw [List.append_nil] at k
        exact OpK.same hs k (RepD.anyT rx)
    · cases h
  · cases h

/-! ### other arithmetic -/
def dSub : D → D → Option T
  | .int i, .int j => some (.sh (.int (i - j)))
  | _, _ => none
theorem o_sub : Op2S K mg (rI0 fun i j => .int (i - j)) dSub := by
  intro ca F H x y d e t Q hs rx ry h k
  unfold dSub at h
  split at h
  · cases h
    rw [rx.int', ry.int']
    exact ⟨_, _, rfl, rfl, OpK.same hs k (.int _)⟩
  · cases h
instance (i j : Int) : Decidable (CMulW i j) := inferInstanceAs (Decidable (_ < _))
instance (i j : Int) : Decidable (CDivW i j) := inferInstanceAs (Decidable (_ ∧ _))
instance (i j : Int) : Decidable (CDivN i j) := inferInstanceAs (Decidable (_ ∧ _))
def repD (k : Nat) (xs : List D) : List D := (List.replicate k xs).flatten
def dMul : D → D → Option T
  | .int i, .int j => if CMulW i j then some (.sh (.int (i * j))) else none
  | .lst xs, .int k => if -(2 ^ 63) ≤ k ∧ k < 2 ^ 63 ∧ xs.length * k.toNat ≤ sizeLine then some (.lst ((repD k.toNat xs).map T.sh)) else none
  | _, _ => none
def rMul : R2 := fun x y H Q => (rI CMulW fun i j => .int (i * j)) x y H Q ∨ rRep x y H Q
theorem op_mulAny {X : Cx} : OpR X (binaryOp .Mult) rMul := OpR.or op_mulW op_rep
theorem RepDs.rep {vs : List V} {ds : List D} (r : RepDs K mg ca F vs ds) : ∀ k : Nat, RepDs K mg ca F (List.replicate k vs).flatten (repD k ds)
  | 0 => .nil
  | k + 1 => by
    unfold repD
    rw [List.replicate_succ, List.replicate_succ, List.flatten_cons, List.flatten_cons]
    exact RepDs.append r (RepDs.rep r k)
theorem len_repD (k : Nat) (xs : List D) : (repD k xs).length = xs.length * k := by
  unfold repD
  induction k with
  | zero => simp
  | succ k ih => rw [List.replicate_succ, List.flatten_cons, List.length_append, ih, Nat.mul_succ]; omega
theorem o_mul : Op2S K mg rMul dMul := by
  intro ca F H x y d e t Q hs rx ry h k
  unfold dMul at h
  split at h
  · split at h
    · rename_i hc
      cases h
      rw [rx.int', ry.int']
      exact .inl ⟨_, _, rfl, rfl, hc, OpK.same hs k (.int _)⟩
    · cases h
  · split at h
    · rename_i hc
      cases h
      obtain ⟨a, vs, rfl, q1, l1, r1⟩ := rx.lst'
      rw [ry.int']
      have hz := hc.2.2
      rw [← RepDs.length r1] at hz
      exact .inr ⟨a, _, vs, rfl, rfl, hs _ _ q1, hc.1, hc.2.1, hz, fun p hp => OpK.newL hs k hp (RepDs.rep r1 _) (by rw [RepDs.length (RepDs.rep r1 _), len_repD]; exact hc.2.2)⟩
    · cases h
  · cases h
def dFdiv : D → D → Option T
  | .int i, .int j => if CDivW i j then some (.sh (.int (i / j))) else if CDivN i j then some (.sh (.int (i.fdiv j))) else none
  | _, _ => none
def rFdiv : R2 := fun x y H Q => (rI CDivW fun i j => .int (i / j)) x y H Q ∨ (rI CDivN fun i j => .int (i.fdiv j)) x y H Q
theorem op_fdivAny {X : Cx} : OpR X (binaryOp .FloorDiv) rFdiv := OpR.or op_fdivW op_fdivN
theorem o_fdiv : Op2S K mg rFdiv dFdiv := by
  intro ca F H x y d e t Q hs rx ry h k
  unfold dFdiv at h
  split at h
  · rw [rx.int', ry.int']
    split at h
    · rename_i hc
      cases h
      exact .inl ⟨_, _, rfl, rfl, hc, OpK.same hs k (.int _)⟩
    · split at h
      · rename_i hc
        cases h
        exact .inr ⟨_, _, rfl, rfl, hc, OpK.same hs k (.int _)⟩
      · cases h
  · cases h
def dMod : D → D → Option T
  | .int i, .int j => if 0 < j then some (.sh (.int (i % j))) else if j ≠ 0 then some (.sh (.int (i.fmod j))) else none
  | _, _ => none
def rMod : R2 := fun x y H Q => (rI (fun _ j => 0 < j) fun i j => .int (i % j)) x y H Q ∨ (rI (fun _ j => j ≠ 0) fun i j => .int (i.fmod j)) x y H Q
theorem op_modAny {X : Cx} : OpR X (binaryOp .Mod) rMod := OpR.or op_mod op_modN
theorem o_mod : Op2S K mg rMod dMod := by
  intro ca F H x y d e t Q hs rx ry h k
  unfold dMod at h
  split at h
  · rw [rx.int', ry.int']
    split at h
    · rename_i hc
      cases h
      exact .inl ⟨_, _, rfl, rfl, hc, OpK.same hs k (.int _)⟩
    · split at h
      · rename_i hc
        cases h
        exact .inr ⟨_, _, rfl, rfl, hc, OpK.same hs k (.int _)⟩
      · cases h
  · cases h
def CPowW (i j : Int) : Prop := 0 ≤ j ∧ (Builtin.Int.intBits i : Int) * j ≤ 2 ^ 27
instance (i j : Int) : Decidable (CPowW i j) := inferInstanceAs (Decidable (_ ∧ _))
def dPow : D → D → Option T
  | .int i, .int j => if CPowW i j then some (.sh (.int (i ^ j.toNat))) else none
  | _, _ => none
theorem op_powW {X : Cx} : OpR X (binaryOp .Pow) (rI CPowW fun i j => .int (i ^ j.toNat)) := opI fun _ _ _ _ _ _ _ hc q => pow_int hc.1 hc.2 q
theorem o_pow : Op2S K mg (rI CPowW fun i j => .int (i ^ j.toNat)) dPow := by
  intro ca F H x y d e t Q hs rx ry h k
  unfold dPow at h
  split at h
  · split at h
    · rename_i hc
      cases h
      rw [rx.int', ry.int']
      exact ⟨_, _, rfl, rfl, hc, OpK.same hs k (.int _)⟩
    · cases h
  · cases h
def dNeg : D → Option T
  | .int i => some (.sh (.int (-i)))
  | _ => none
theorem o_neg : Op1S K mg (rU fun i => .int (-i)) dNeg := by
  intro ca F H x d t Q hs rx h k
  unfold dNeg at h
  split at h
  · cases h
    rw [rx.int']
    exact ⟨_, rfl, OpK.same hs k (.int _)⟩
  · cases h

/-! ### order -/
def ltS (x y : Str) : Bool := decide (x.cps.toList < y.cps.toList)
def dLt : D → D → Option T
  | .int i, .int j => some (.sh (.bl (decide (i < j))))
  | .str x, .str y => some (.sh (.bl (ltS x y)))
  | _, _ => none
def dLe : D → D → Option T
  | .int i, .int j => some (.sh (.bl (decide (i ≤ j))))
  | .str x, .str y => some (.sh (.bl (!ltS y x)))
  | _, _ => none
def dGt : D → D → Option T
  | .int i, .int j => some (.sh (.bl (decide (j < i))))
  | .str x, .str y => some (.sh (.bl (ltS y x)))
  | _, _ => none
def dGe : D → D → Option T
  | .int i, .int j => some (.sh (.bl (decide (j ≤ i))))
  | .str x, .str y => some (.sh (.bl (!ltS x y)))
  | _, _ => none
def rSS (g : Str → Str → Bool) : R2 := fun x y H Q => ∃ i j, x = .str i ∧ y = .str j ∧ Q (.bl (g i j)) H
def rOr (r r' : R2) : R2 := fun x y H Q => r x y H Q ∨ r' x y H Q
theorem op_ltAny {X : Cx} : OpR X (compareOp .Lt) (rOr (rI0 fun i j => .bl (decide (i < j))) (rSS ltS)) := OpR.or op_lt op_lt_str
theorem op_leAny {X : Cx} : OpR X (compareOp .LtE) (rOr (rI0 fun i j => .bl (decide (i ≤ j))) (rSS fun x y => !ltS y x)) := OpR.or op_le op_le_str
theorem op_gtAny {X : Cx} : OpR X (compareOp .Gt) (rOr (rI0 fun i j => .bl (decide (j < i))) (rSS fun x y => ltS y x)) := OpR.or op_gt op_gt_str
theorem op_geAny {X : Cx} : OpR X (compareOp .GtE) (rOr (rI0 fun i j => .bl (decide (j ≤ i))) (rSS fun x y => !ltS x y)) := OpR.or op_ge op_ge_str
theorem o_ord {f : D → D → Option T} {g : Int → Int → Bool} {g' : Str → Str → Bool} (hi : ∀ i j, f (.int i) (.int j) = some (.sh (.bl (g i j)))) (hs : ∀ i j, f (.str i) (.str j) = some (.sh (.bl (g' i j))))
    (hn : ∀ d e t, f d e = some t → (∃ i j, d = .int i ∧ e = .int j) ∨ ∃ i j, d = .str i ∧ e = .str j) : Op2S K mg (rOr (rI0 fun i j => .bl (g i j)) (rSS g')) f := by
  intro ca F H x y d e t Q hs' rx ry h k
  rcases hn d e t h with ⟨i, j, rfl, rfl⟩ | ⟨i, j, rfl, rfl⟩
  · rw [hi] at h
    cases h
    rw [rx.int', ry.int']
    exact .inl ⟨_, _, rfl, rfl, OpK.same hs' k (.bl _)⟩
  · rw [hs] at h
    cases h
    obtain ⟨rfl, _, _⟩ := rx.str'
    obtain ⟨rfl, _, _⟩ := ry.str'
    exact .inr ⟨_, _, rfl, rfl, OpK.same hs' k (.bl _)⟩
theorem o_lt : Op2S K mg (rOr (rI0 fun i j => .bl (decide (i < j))) (rSS ltS)) dLt := o_ord (fun _ _ => rfl) (fun _ _ => rfl) fun d e t h => by
  unfold dLt at h
  split at h
  · exact .inl ⟨_, _, rfl, rfl⟩
  · exact .inr ⟨_, _, rfl, rfl⟩
  · cases h
theorem o_le : Op2S K mg (rOr (rI0 fun i j => .bl (decide (i ≤ j))) (rSS fun x y => !ltS y x)) dLe := o_ord (fun _ _ => rfl) (fun _ _ => rfl) fun d e t h => by
  unfold dLe at h
  split at h
  · exact .inl ⟨_, _, rfl, rfl⟩
  · exact .inr ⟨_, _, rfl, rfl⟩
  · cases h
theorem o_gt : Op2S K mg (rOr (rI0 fun i j => .bl (decide (j < i))) (rSS fun x y => ltS y x)) dGt := o_ord (fun _ _ => rfl) (fun _ _ => rfl) fun d e t h => by
  unfold dGt at h
  split at h
  · exact .inl ⟨_, _, rfl, rfl⟩
  · exact .inr ⟨_, _, rfl, rfl⟩
  · cases h
theorem o_ge : Op2S K mg (rOr (rI0 fun i j => .bl (decide (j ≤ i))) (rSS fun x y => !ltS x y)) dGe := o_ord (fun _ _ => rfl) (fun _ _ => rfl) fun d e t h => by
  unfold dGe at h
  split at h
  · exact .inl ⟨_, _, rfl, rfl⟩
  · exact .inr ⟨_, _, rfl, rfl⟩
  · cases h

/-! ### ==, != -/
mutual
def D.py : D → PyData
  | .non => .none
  | .bl b => .bool b
  | .int i => .int i
  | .str x => .str x
  | .tup _ xs => .tuple (D.pys xs)
  | .lst xs => .list (D.pys xs)
  | .rlst xs => .list (D.pys xs)
  | _ => .none
def D.pys : List D → List PyData
  | [] => []
  | d :: ds => d.py :: D.pys ds
end
mutual
/-- plain data, at most so deep -/
def D.isPy : D → Nat → Bool
  | .non, _ => true
  | .bl _, _ => true
  | .int _, _ => true
  | .str _, _ => true
  | .tup _ xs, n + 1 => D.isPys xs n
  | .lst xs, n + 1 => D.isPys xs n
  | .rlst xs, n + 1 => D.isPys xs n
  | _, _ => false
def D.isPys : List D → Nat → Bool
  | [], _ => true
  | d :: ds, n => d.isPy n && D.isPys ds n
end
mutual
theorem RepD.dp : ∀ (d : D) (v : V) (n : Nat), RepD K mg ca F v d → d.isPy n = true → Dp K F v d.py ∧ d.py.canLay0 = true ∧ d.py.depth ≤ n
  | .non, _, _, h, _ => by cases h; exact ⟨.non, rfl, Nat.zero_le _⟩
  | .bl b, _, _, h, _ => by cases h; exact ⟨.bl b, rfl, Nat.zero_le _⟩
  | .int b, _, _, h, _ => by cases h; exact ⟨.int b, rfl, Nat.zero_le _⟩
  | .str b, _, _, h, _ => by obtain ⟨rfl, l, o⟩ := h.str'; exact ⟨.str b, by simpa [D.py, PyData.canLay0] using o, Nat.zero_le _⟩
  | .tup _ xs, _, 0, h, p => by simp [D.isPy] at p
  | .lst xs, _, 0, h, p => by simp [D.isPy] at p
  | .rlst xs, _, 0, h, p => by simp [D.isPy] at p
  | .tup _ xs, _, n + 1, h, p => by
    obtain ⟨a, vs, rfl, q, l, r⟩ := h.tup'
    obtain ⟨h1, h2, h3⟩ := RepDs.dp xs vs n r (by simpa [D.isPy] using p)
    exact ⟨.tup q h1, by simpa [D.py, PyData.canLay0] using h2, by simp [D.py, PyData.depth]; exact h3⟩
  | .lst xs, _, n + 1, h, p => by
    obtain ⟨a, vs, rfl, q, l, r⟩ := h.lst'
    obtain ⟨h1, h2, h3⟩ := RepDs.dp xs vs n r (by simpa [D.isPy] using p)
    exact ⟨.lst (.inl (.inl q)) h1, by simpa [D.py, PyData.canLay0] using h2, by simp [D.py, PyData.depth]; exact h3⟩
  | .rlst xs, _, n + 1, h, p => by
    obtain ⟨a, vs, rfl, q, l, r⟩ := h.rlst'
    obtain ⟨h1, h2, h3⟩ := RepDs.dp xs vs n r (by simpa [D.isPy] using p)
    exact ⟨.lst q h1, by simpa [D.py, PyData.canLay0] using h2, by simp [D.py, PyData.depth]; exact h3⟩
  | .dct _ _, _, _, _, p => by simp [D.isPy] at p
  | .fn _, _, _, _, p => by simp [D.isPy] at p
  | .ty _, _, _, _, p => by simp [D.isPy] at p
  | .cell _, _, _, _, p => by simp [D.isPy] at p
  | .rep _, _, _, _, p => by simp [D.isPy] at p
theorem RepDs.dp : ∀ (ds : List D) (vs : List V) (n : Nat), RepDs K mg ca F vs ds → D.isPys ds n = true → DpAll K F vs (D.pys ds) ∧ PyData.canLayAll0 (D.pys ds) = true ∧ PyData.depthAll (D.pys ds) ≤ n
  | [], _, _, h, _ => by cases h; exact ⟨.nil, rfl, Nat.zero_le _⟩
  | d :: ds, _, n, h, p => by
    cases h with
    | cons h1 h2 =>
      simp only [D.isPys, Bool.and_eq_true] at p
      obtain ⟨a1, a2, a3⟩ := RepD.dp d _ n h1 p.1
      obtain ⟨b1, b2, b3⟩ := RepDs.dp ds _ n h2 p.2
      exact ⟨.cons a1 b1, by simp [D.pys, PyData.canLayAll0, a2, b2], by simp only [D.pys, PyData.depthAll]; exact Nat.max_le.mpr ⟨a3, b3⟩⟩
end
mutual
theorem Dp.mono {F' : Hp} (hs : Sub F F') : ∀ (p : PyData) (v : V), Dp K F v p → Dp K F' v p
  | .none, _, h => by cases h; exact .non
  | .bool b, _, h => by cases h; exact .bl b
  | .int b, _, h => by cases h; exact .int b
  | .str b, _, h => by cases h; exact .str b
  | .list xs, _, h => by cases h with | lst q r => exact .lst (SqL.mono hs q) (DpAll.mono hs xs _ r)
  | .tuple xs, _, h => by cases h with | tup q r => exact .tup (SqT.mono hs q) (DpAll.mono hs xs _ r)
  | .dict _, _, h => by cases h
theorem DpAll.mono {F' : Hp} (hs : Sub F F') : ∀ (p : List PyData) (v : List V), DpAll K F v p → DpAll K F' v p
  | [], _, h => by cases h; exact .nil
  | p :: ps, _, h => by cases h with | cons h1 h2 => exact .cons (Dp.mono hs p _ h1) (DpAll.mono hs ps _ h2)
end
def dEqv (d e : D) : Option Bool := match d, e with
  | .rep p, .rep q => some (decide (p.shown = q.shown))
  | d, e => if (d.isPy 60 && e.isPy 60) = true then some (PyData.eqv d.py e.py) else none
def dEq (d e : D) : Option T := match dEqv d e with
  | some b => some (.sh (.bl b))
  | none => none
def dNe (d e : D) : Option T := match dEqv d e with
  | some b => some (.sh (.bl (!b)))
  | none => none
theorem eqv_cases {d e : D} {b : Bool} (h : dEqv d e = some b) : (∃ p q, d = .rep p ∧ e = .rep q ∧ b = decide (p.shown = q.shown)) ∨ (d.isPy 60 = true ∧ e.isPy 60 = true ∧ b = PyData.eqv d.py e.py) := by
  unfold dEqv at h
  split at h
  · cases h; exact .inl ⟨_, _, rfl, rfl, rfl⟩
  · split at h
    · rename_i hb
      cases h
      rw [Bool.and_eq_true] at hb
      exact .inr ⟨hb.1, hb.2, rfl⟩
    · cases h
theorem op_eqAny {X : Cx} (hu : X.A.units + 64 < cLine) : OpR X (compareOp .Eq) (rOr rEq (rEqD X.K)) := OpR.or op_eq (op_eqD hu)
theorem op_neAny {X : Cx} (hu : X.A.units + 64 < cLine) : OpR X (compareOp .NotEq) (rOr rNe (rNeD X.K)) := OpR.or op_ne (op_neD hu)
theorem shaped_of {p : PyData} (h1 : p.canLay0 = true) (h2 : p.depth ≤ 60) : SeqAt.shaped p = true := by
  unfold SeqAt.shaped
  rw [h1, Bool.true_and]
  exact decide_eq_true (by omega)
theorem o_eq : Op2S K mg (rOr rEq (rEqD K)) dEq := by
  intro ca F H x y d e t Q hs rx ry h k
  unfold dEq at h
  split at h
  · rename_i b hb
    cases h
    rcases eqv_cases hb with ⟨p, q, rfl, rfl, rfl⟩ | ⟨h1, h2, rfl⟩
    · rw [rx.rep', ry.rep']
      refine .inl ⟨rfl, ?_⟩
      have e : decide (V.str p.shown = V.str q.shown) = decide (p.shown = q.shown) := by simp
      rw [e]
      exact OpK.same hs k (.bl _)
    · obtain ⟨a1, a2, a3⟩ := RepD.dp d x 60 rx h1
      obtain ⟨b1, b2, b3⟩ := RepD.dp e y 60 ry h2
      exact .inr ⟨_, _, Dp.mono hs _ _ a1, Dp.mono hs _ _ b1, shaped_of a2 a3, shaped_of b2 b3, OpK.same hs k (.bl _)⟩
  · cases h
theorem o_ne : Op2S K mg (rOr rNe (rNeD K)) dNe := by
  intro ca F H x y d e t Q hs rx ry h k
  unfold dNe at h
  split at h
  · rename_i b hb
    cases h
    rcases eqv_cases hb with ⟨p, q, rfl, rfl, rfl⟩ | ⟨h1, h2, rfl⟩
    · rw [rx.rep', ry.rep']
      refine .inl ⟨rfl, ?_⟩
      have e : decide (V.str p.shown = V.str q.shown) = decide (p.shown = q.shown) := by simp
      rw [e]
      exact OpK.same hs k (.bl _)
    · obtain ⟨a1, a2, a3⟩ := RepD.dp d x 60 rx h1
      obtain ⟨b1, b2, b3⟩ := RepD.dp e y 60 ry h2
      exact .inr ⟨_, _, Dp.mono hs _ _ a1, Dp.mono hs _ _ b1, shaped_of a2 a3, shaped_of b2 b3, OpK.same hs k (.bl _)⟩
  · cases h

/-! ### is -/
def D.isNon : D → Bool
  | .non => true
  | _ => false
def dIs (d e : D) : Option T := match e with
  | .non => some (.sh (.bl d.isNon))
  | .bl b => (match d with
    | .bl c => some (.sh (.bl (c == b)))
    | .non => some (.sh (.bl false))
    | _ => none)
  | _ => none
def dIsNot (d e : D) : Option T := match e with
  | .non => some (.sh (.bl (!d.isNon)))
  | .bl b => (match d with
    | .bl c => some (.sh (.bl (!(c == b))))
    | .non => some (.sh (.bl true))
    | _ => none)
  | _ => none
def rIsN : R2 := fun x y H Q => y = .non ∧ Q (.bl (decide (x = .non))) H
def rNotN : R2 := fun x y H Q => y = .non ∧ Q (.bl (!decide (x = .non))) H
def rIsB : R2 := fun x y H Q => ∃ b, y = .bl b ∧ ((∃ c, x = .bl c ∧ Q (.bl (c == b)) H) ∨ (x = .non ∧ Q (.bl false) H))
def rNotB : R2 := fun x y H Q => ∃ b, y = .bl b ∧ ((∃ c, x = .bl c ∧ Q (.bl (!(c == b))) H) ∨ (x = .non ∧ Q (.bl true) H))
theorem op_isB {X : Cx} : OpR X (compareOp .Is) rIsB := by
  intro pins s σ H x y v u Q I rx ry h
  obtain ⟨b, rfl, h⟩ := h
  cases ry
  rcases h with ⟨c, rfl, q⟩ | ⟨rfl, q⟩
  · cases rx
    exact wpAny_is_plain rfl ⟨.bl (c == b), H, I, by cases c <;> cases b <;> rfl, q⟩
  · cases rx
    exact wpAny_is_plain rfl ⟨.bl false, H, I, by cases b <;> rfl, q⟩
theorem op_isNotB {X : Cx} : OpR X (compareOp .IsNot) rNotB := by
  intro pins s σ H x y v u Q I rx ry h
  obtain ⟨b, rfl, h⟩ := h
  cases ry
  rcases h with ⟨c, rfl, q⟩ | ⟨rfl, q⟩
  · cases rx
    exact wpAny_isNot_plain rfl ⟨.bl (!(c == b)), H, I, by cases c <;> cases b <;> rfl, q⟩
  · cases rx
    exact wpAny_isNot_plain rfl ⟨.bl true, H, I, by cases b <;> rfl, q⟩
theorem op_isAny {X : Cx} : OpR X (compareOp .Is) (rOr rIsN rIsB) := OpR.or op_isN op_isB
theorem op_isNotAny {X : Cx} : OpR X (compareOp .IsNot) (rOr rNotN rNotB) := OpR.or op_notN op_isNotB
theorem non_iff (r : RepD K mg ca F v d) : decide (v = V.non) = d.isNon := by
  cases r <;> simp [D.isNon]
theorem o_is : Op2S K mg (rOr rIsN rIsB) dIs := by
  intro ca F H x y d e t Q hs rx ry h k
  unfold dIs at h
  split at h
  · cases h
    rw [ry.non']
    refine .inl ⟨rfl, ?_⟩
    rw [non_iff rx]
    exact OpK.same hs k (.bl _)
  · rw [ry.bl']
    split at h
    · cases h
      exact .inr ⟨_, rfl, .inl ⟨_, rx.bl', OpK.same hs k (.bl _)⟩⟩
    · cases h
      exact .inr ⟨_, rfl, .inr ⟨rx.non', OpK.same hs k (.bl _)⟩⟩
    · cases h
  · cases h
theorem o_isNot : Op2S K mg (rOr rNotN rNotB) dIsNot := by
  intro ca F H x y d e t Q hs rx ry h k
  unfold dIsNot at h
  split at h
  · cases h
    rw [ry.non']
    refine .inl ⟨rfl, ?_⟩
    rw [non_iff rx]
    exact OpK.same hs k (.bl _)
  · rw [ry.bl']
    split at h
    · cases h
      exact .inr ⟨_, rfl, .inl ⟨_, rx.bl', OpK.same hs k (.bl _)⟩⟩
    · cases h
      exact .inr ⟨_, rfl, .inr ⟨rx.non', OpK.same hs k (.bl _)⟩⟩
    · cases h
  · cases h
end
end PD
end
section
set_option Elab.async false
set_option linter.all false
set_option maxRecDepth 100000
set_option autoImplicit false
namespace PD
open PySem L2 PyProof.Rows

/-! ### keys -/
def D.key? : D → Option Key
  | .int i => some (.inl i)
  | .str x => some (.inr x)
  | _ => none
def isKey (k : Key) : D → Bool
  | .int i => decide (k = .inl i)
  | .str x => decide (k = .inr x)
  | _ => false
def look {α : Type} (k : Key) (kvs : List (D × α)) : Option α := (kvs.find? fun p => isKey k p.1).map (·.2)
theorem isKey_kD (k j : Key) : isKey k (kD j) = decide (j = k) := by
  cases j with
  | inl i => show decide (k = Sum.inl i) = _; rw [decide_eq_decide]; exact ⟨fun h => h.symm, fun h => h.symm⟩
  | inr i => show decide (k = Sum.inr i) = _; rw [decide_eq_decide]; exact ⟨fun h => h.symm, fun h => h.symm⟩
section
variable {K : PySem.W.Frag} {mg : Str → Option Value} {ca : List Addr} {F H : Hp} {v : V} {d : D}
theorem RepD.key' {k : Key} (h : RepD K mg ca F v d) (e : d.key? = some k) : v = kV k ∧ d = kD k := by
  cases d with
  | int i => cases e; exact ⟨h.int', rfl⟩
  | str x => cases e; exact ⟨h.str'.1, rfl⟩
  | _ => cases e
theorem RepKs.length : ∀ {ds : List (D × D)} {vs : List (Key × V)}, RepKs K mg ca F vs ds → vs.length = ds.length
  | [], _, h => by cases h; rfl
  | d :: ds, _, h => by cases h with | cons h1 h2 => simp [RepKs.length h2]
theorem RepKs.look (k : Key) : ∀ {ds : List (D × D)} {vs : List (Key × V)}, RepKs K mg ca F vs ds → (look k ds = none ∧ valV vs k = none) ∨ ∃ d v, PD.look k ds = some d ∧ valV vs k = some v ∧ RepD K mg ca F v d
  | [], _, h => by cases h; exact .inl ⟨rfl, rfl⟩
  | _ :: ds, _, h => by
    cases h with
    | @cons j v vs d ds h1 h2 =>
      by_cases e : j = k
      · subst e
        refine .inr ⟨d, v, ?_, valV_pos rfl, h1⟩
        unfold PD.look
        rw [List.find?_cons, isKey_kD, decide_eq_true rfl]
        rfl
      · have e1 : PD.look k ((kD j, d) :: ds) = PD.look k ds := by
          unfold PD.look
          rw [List.find?_cons, isKey_kD, decide_eq_false e]
        rw [e1, valV_neg e]
        exact RepKs.look k h2

/-! ### in -/
def inS (x y : Str) : Bool := match x.cps.toList with
  | [c] => decide (c ∈ y.cps.toList)
  | _ => !(Builtin.Str.occurrences y x 0 y.length 1).isEmpty
def D.isScal : D → Bool
  | .non => true
  | .bl _ => true
  | .int _ => true
  | .str _ => true
  | _ => false
def inL (d : D) (xs : List D) : Bool := xs.any fun x => PyData.eqv x.py d.py
def dInB (d e : D) : Option Bool := match e with
  | .lst xs => if d.isPy 60 = true ∧ D.isPys xs 60 = true then some (inL d xs) else none
  | .rlst xs => if d.isPy 60 = true ∧ D.isPys xs 60 = true then some (inL d xs) else none
  | .tup _ xs => if d.isScal = true ∧ xs.all D.isScal = true then some (inL d xs) else none
  | .str y => (match d with
    | .str x => some (inS x y)
    | _ => none)
  | .dct .K kvs => (match d.key? with
    | some k => some (look k kvs).isSome
    | none => none)
  | _ => none
def dIn (d e : D) : Option T := match dInB d e with
  | some b => some (.sh (.bl b))
  | none => none
def dNotIn (d e : D) : Option T := match dInB d e with
  | some b => some (.sh (.bl (!b)))
  | none => none
def rDIn : R2 := fun y x H Q => ∃ a o, x = .ref a ∧ DGet H a y o ∧ Q (.bl o.isSome) H
def rDNotIn : R2 := fun y x H Q => ∃ a o, x = .ref a ∧ DGet H a y o ∧ Q (.bl (!o.isSome)) H
theorem op_inDct {X : Cx} (hu : X.A.units + 1 < cLine) : OpR X (compareOp .In) rDIn := by
  intro pins s σ H y x v u Q I ry rx h
  obtain ⟨a, o, rfl, g, q⟩ := h
  obtain rfl : u = Value.ref a := rx
  exact d_in hu I g ry fun s3 I3 => ⟨.bl o.isSome, H, I3, rfl, q⟩
theorem op_notInDct {X : Cx} (hu : X.A.units + 1 < cLine) : OpR X (compareOp .NotIn) rDNotIn := by
  intro pins s σ H y x v u Q I ry rx h
  obtain ⟨a, o, rfl, g, q⟩ := h
  obtain rfl : u = Value.ref a := rx
  exact d_notIn hu I g ry fun s3 I3 => ⟨.bl (!o.isSome), H, I3, rfl, q⟩
def rInSg : R2 := fun x y H Q => ∃ (c : Nat) (z : Str), x = .str ⟨#[c]⟩ ∧ y = .str z ∧ Q (.bl (decide (c ∈ z.cps.toList))) H
def rInSt : R2 := fun x y H Q => ∃ i j, x = .str i ∧ y = .str j ∧ Q (.bl (!(Builtin.Str.occurrences j i 0 j.length 1).isEmpty)) H
def rNinSg : R2 := fun x y H Q => ∃ (c : Nat) (z : Str), x = .str ⟨#[c]⟩ ∧ y = .str z ∧ Q (.bl (!decide (c ∈ z.cps.toList))) H
def rNinSt : R2 := fun x y H Q => ∃ i j, x = .str i ∧ y = .str j ∧ Q (.bl (!(!(Builtin.Str.occurrences j i 0 j.length 1).isEmpty))) H
def rInAll (K : PySem.W.Frag) : R2 := rOr (rOr (rIn K false) (rInD K)) (rOr (rOr rInSg rInSt) rDIn)
def rNinAll (K : PySem.W.Frag) : R2 := rOr (rOr (rIn K true) (rNotInD K)) (rOr (rOr rNinSg rNinSt) rDNotIn)
theorem op_inAll {X : Cx} (hu : X.A.units + 65 < cLine) : OpR X (compareOp .In) (rInAll X.K) := OpR.or (OpR.or op_in_seq (op_inD hu)) (OpR.or (OpR.or op_in_sign op_in_str) (op_inDct (by omega)))
theorem op_notInAll {X : Cx} (hu : X.A.units + 65 < cLine) : OpR X (compareOp .NotIn) (rNinAll X.K) := OpR.or (OpR.or op_notIn_seq (op_notInD hu)) (OpR.or (OpR.or op_notIn_sign op_notIn_str) (op_notInDct (by omega)))
theorem scal_flat (h : RepD K mg ca F v d) (e : d.isScal = true) : flatV v = true ∧ d.isPy 60 = true := by
  cases h <;> first | exact ⟨rfl, rfl⟩ | cases e
theorem scal_eq {u : V} {e : D} (h : RepD K mg ca F v d) (hd : d.isScal = true) (h' : RepD K mg ca F u e) (he : e.isScal = true) : eqV v u = PyData.eqv d.py e.py := by
  cases h <;> cases h' <;> first | exact absurd (show false = true from hd) Bool.false_ne_true | exact absurd (show false = true from he) Bool.false_ne_true | rfl | simp [eqV, D.py, PyData.eqv]
theorem scals_flat : ∀ {ds : List D} {vs : List V}, RepDs K mg ca F vs ds → ds.all D.isScal = true → vs.all flatV = true
  | [], _, h, _ => by cases h; rfl
  | d :: ds, _, h, e => by
    cases h with
    | cons h1 h2 =>
      simp only [List.all_cons, Bool.and_eq_true] at e ⊢
      exact ⟨(scal_flat h1 e.1).1, scals_flat h2 e.2⟩
theorem inV_eq {e : D} (h' : RepD K mg ca F v e) (he : e.isScal = true) : ∀ {ds : List D} {vs : List V}, RepDs K mg ca F vs ds → ds.all D.isScal = true → inV v vs = inL e ds
  | [], _, h, _ => by cases h; rfl
  | d :: ds, _, h, q => by
    cases h with
    | cons h1 h2 =>
      simp only [List.all_cons, Bool.and_eq_true] at q
      have ih := inV_eq h' he h2 q.2
      unfold inV inL at ih ⊢
      rw [List.any_cons, List.any_cons, ih, scal_eq h1 q.1 h' he]
theorem inL_pys (p : PyData) : ∀ ds : List D, ((D.pys ds).any fun z => PyData.eqv z p) = ds.any fun x => PyData.eqv x.py p
  | [] => rfl
  | d :: ds => by rw [D.pys, List.any_cons, List.any_cons, inL_pys p ds]
theorem inAll_of {x y : V} {d e : D} {b : Bool} (hs : Sub F H) (rx : RepD K mg ca F x d) (ry : RepD K mg ca F y e) (h : dInB d e = some b) :
    (∀ Q : VK, Q (.bl b) H → rInAll K x y H Q) ∧ (∀ Q : VK, Q (.bl (!b)) H → rNinAll K x y H Q) := by
  have deep : ∀ xs, e.seqL = some xs → d.isPy 60 = true ∧ D.isPys xs 60 = true → b = inL d xs → (∀ Q : VK, Q (.bl b) H → rInAll K x y H Q) ∧ (∀ Q : VK, Q (.bl (!b)) H → rNinAll K x y H Q) := by
    intro xs hxs hp hb
    subst hb
    obtain ⟨a, vs, rfl, q, l, r⟩ := ry.lists hxs
    obtain ⟨a1, a2, a3⟩ := RepD.dp d x 60 rx hp.1
    obtain ⟨b1, b2, b3⟩ := RepDs.dp xs vs 60 r hp.2
    have hl : Dp K H (.ref a) (.list (D.pys xs)) := .lst (SqL.mono hs q) (DpAll.mono hs _ _ b1)
    have hsh : SeqAt.shaped (.list (D.pys xs)) = true := by
      unfold SeqAt.shaped
      rw [Bool.and_eq_true]
      exact ⟨by simpa [PyData.canLay0] using b2, decide_eq_true (by simp only [PyData.depth]; omega)⟩
    have key := inL_pys d.py xs
    refine ⟨fun Q k => .inl (.inr ⟨_, _, Dp.mono hs _ _ a1, hl, shaped_of a2 a3, hsh, ?_⟩), fun Q k => .inl (.inr ⟨_, _, Dp.mono hs _ _ a1, hl, shaped_of a2 a3, hsh, ?_⟩)⟩
    · rw [key]; exact k
    · rw [key]; exact k
  unfold dInB at h
  split at h
  · split at h
    · rename_i xs hp
      cases h
      exact deep xs rfl hp rfl
    · cases h
  · split at h
    · rename_i xs hp
      cases h
      exact deep xs rfl hp rfl
    · cases h
  · split at h
    · rename_i xs hp
      cases h
      obtain ⟨a, vs, rfl, q, l, r⟩ := ry.tup'
      have e1 := inV_eq rx hp.1 r hp.2
      refine ⟨fun Q k => .inl (.inl ⟨a, vs, rfl, .inr (SqT.mono hs q), (scal_flat rx hp.1).1, scals_flat r hp.2, ?_⟩), fun Q k => .inl (.inl ⟨a, vs, rfl, .inr (SqT.mono hs q), (scal_flat rx hp.1).1, scals_flat r hp.2, ?_⟩)⟩
      · rw [if_neg Bool.false_ne_true, e1]; exact k
      · rw [if_pos rfl, e1]; exact k
    · cases h
  · rename_i yy
    split at h
    · rename_i xx
      cases h
      obtain ⟨rfl, l1, o1⟩ := rx.str'
      obtain ⟨rfl, l2, o2⟩ := ry.str'
      unfold inS
      split
      · rename_i c hc
        have ex : xx = ⟨#[c]⟩ := by
          cases xx with
          | mk cps => congr 1; exact Array.toList_inj.mp hc
        subst ex
        exact ⟨fun Q k => .inr (.inl (.inl ⟨c, _, rfl, rfl, k⟩)), fun Q k => .inr (.inl (.inl ⟨c, _, rfl, rfl, k⟩))⟩
      · exact ⟨fun Q k => .inr (.inl (.inr ⟨_, _, rfl, rfl, k⟩)), fun Q k => .inr (.inl (.inr ⟨_, _, rfl, rfl, k⟩))⟩
    · cases h
  · rename_i kvs
    split at h
    · rename_i key hk
      cases h
      obtain ⟨rfl, rfl⟩ := rx.key' hk
      obtain ⟨a, vs, rfl, q, l, r⟩ := ry.dK'
      have hsome : (look key kvs).isSome = (valV vs key).isSome := by
        rcases RepKs.look key r with ⟨h1, h2⟩ | ⟨_, _, h1, h2, _⟩
        · rw [h1, h2]; rfl
        · rw [h1, h2]; rfl
      have g : DGet H a (kV key) (valV vs key) := .inl ⟨vs, key, Rd.mono hs q, rfl, rfl⟩
      refine ⟨fun Q k => .inr (.inr ⟨a, _, rfl, g, ?_⟩), fun Q k => .inr (.inr ⟨a, _, rfl, g, ?_⟩)⟩
      · rw [← hsome]; exact k
      · rw [← hsome]; exact k
    · cases h
  · cases h
theorem o_in : Op2S K mg (rInAll K) dIn := by
  intro ca F H x y d e t Q hs rx ry h k
  unfold dIn at h
  split at h
  · rename_i b hb
    cases h
    exact (inAll_of hs rx ry hb).1 Q (OpK.same hs k (.bl _))
  · cases h
theorem o_notIn : Op2S K mg (rNinAll K) dNotIn := by
  intro ca F H x y d e t Q hs rx ry h k
  unfold dNotIn at h
  split at h
  · rename_i b hb
    cases h
    exact (inAll_of hs rx ry hb).2 Q (OpK.same hs k (.bl _))
  · cases h

/-! ### subscripts -/
def dIx (d e : D) : Option T := match d, e with
  | .lst xs, .int i => (atI xs i).map T.sh
  | .rlst xs, .int i => (atI xs i).map T.sh
  | .tup _ xs, .int i => (atI xs i).map T.sh
  | .str z, .int i => (atI z.cps.toList i).map fun c => .sh (.str ⟨#[c]⟩)
  | .dct .K kvs, k => (match k.key? with
    | some k => (look k kvs).map T.sh
    | none => none)
  | _, _ => none
def rDIx : R2 := fun x y H Q => ∃ a v, x = .ref a ∧ DGet H a y (some v) ∧ Q v H
theorem ix_dct {X : Cx} (hu : X.A.units + 1 < cLine) : IxR X rDIx := by
  intro value slice pins s σ H x y v u Q I rx ry h hs
  obtain ⟨a, w, rfl, g, q⟩ := h
  obtain rfl : v = Value.ref a := rx
  exact tail_any (ops := [.ref a, u]) (dict_typeIs I g) PySem.F.slot_dict_getitem.lookup (d_getItem hu I g ry fun w' s3 I3 rw' => ⟨w, H, I3, rw', q⟩) hs
def rIxAll (K : PySem.W.Frag) : R2 := fun x y H Q => (rIxL K x y H Q ∨ rIxT K x y H Q) ∨ (rIxS x y H Q ∨ rDIx x y H Q)
theorem ix_all {X : Cx} (hu : X.A.units + 1 < cLine) : IxR X (rIxAll X.K) := IxR.or (IxR.or ix_list ix_tup) (IxR.or ix_str (ix_dct hu))
theorem RepDs.atI {vs : List V} {ds : List D} {i : Int} {d : D} (r : RepDs K mg ca F vs ds) (h : L2.atI ds i = some d) : ∃ v, L2.atI vs i = some v ∧ RepD K mg ca F v d := by
  unfold L2.atI at h ⊢
  rw [RepDs.length r]
  cases e : ixN ds.length i with
  | none => rw [e] at h; cases h
  | some j =>
    rw [e] at h
    obtain ⟨v, e1, r1⟩ := RepDs.get r h
    exact ⟨v, e1, r1⟩
theorem o_ix : Op2S K mg (rIxAll K) dIx := by
  intro ca F H x y d e t Q hs rx ry h k
  unfold dIx at h
  split at h
  · rename_i xs i
    obtain ⟨d, hd, rfl⟩ := Option.map_eq_some_iff.mp h
    obtain ⟨a, vs, rfl, q, l, r⟩ := rx.lst'
    obtain ⟨v, hv, rv⟩ := RepDs.atI r hd
    rw [ry.int']
    exact .inl (.inl ⟨a, vs, i, v, rfl, rfl, .inl (.inl (hs _ _ q)), hv, OpK.same hs k rv⟩)
  · rename_i xs i
    obtain ⟨d, hd, rfl⟩ := Option.map_eq_some_iff.mp h
    obtain ⟨a, vs, rfl, q, l, r⟩ := rx.rlst'
    obtain ⟨v, hv, rv⟩ := RepDs.atI r hd
    rw [ry.int']
    exact .inl (.inl ⟨a, vs, i, v, rfl, rfl, SqL.mono hs q, hv, OpK.same hs k rv⟩)
  · rename_i xs i
    obtain ⟨d, hd, rfl⟩ := Option.map_eq_some_iff.mp h
    obtain ⟨a, vs, rfl, q, l, r⟩ := rx.tup'
    obtain ⟨v, hv, rv⟩ := RepDs.atI r hd
    rw [ry.int']
    exact .inl (.inr ⟨a, vs, i, v, rfl, rfl, SqT.mono hs q, hv, OpK.same hs k rv⟩)
  · rename_i z i
    obtain ⟨c, hc, rfl⟩ := Option.map_eq_some_iff.mp h
    obtain ⟨rfl, l, o⟩ := rx.str'
    rw [ry.int']
    refine .inr (.inl ⟨z, i, c, rfl, rfl, l, hc, OpK.same hs k (.str _ (by show 1 ≤ sizeLine; decide) ?_)⟩)
    obtain ⟨j, _, hj, _⟩ := atI_get hc
    exact sign_ok (i := j) o (by rw [← Array.getElem?_toList]; exact hj)
  · split at h
    · rename_i key hk
      obtain ⟨dd, hd, rfl⟩ := Option.map_eq_some_iff.mp h
      obtain ⟨rfl, rfl⟩ := ry.key' hk
      obtain ⟨a, vs, rfl, q, l, r⟩ := rx.dK'
      rcases RepKs.look key r with ⟨h1, h2⟩ | ⟨d1, v1, h1, h2, rv⟩
      · rw [h1] at hd; cases hd
      · rw [h1] at hd
        cases hd
        exact .inr (.inr ⟨a, v1, rfl, .inl ⟨vs, key, Rd.mono hs q, rfl, h2.symm⟩, OpK.same hs k rv⟩)
    · cases h
  · cases h
/-- a[b], a a cell too -/
def eIx (a b : Ev) : Ev := fun env cs => match a env cs with
  | none => none
  | some (t1, env1, cs1) => match b env1 cs1 with
    | none => none
    | some (t2, env2, cs2) => match t1.toD with
      | .cell i => (match cs2[i]?, t2.toD with
        | some (.lst ts), .int j => (match atI ts j with
          | some (.sh d) => some (.sh d, keep env env2 (.sh d) cs2, cs2)
          | _ => none)
        | _, _ => none)
      | d => match dIx d t2.toD with
        | none => none
        | some r => some (r, keep env env2 r cs2, cs2)
theorem RepTs.get : ∀ {ts : List T} {vs : List V} {w : List Addr} {i : Nat} {d : D}, RepTs K mg ca F H vs ts w → ts[i]? = some (.sh d) → ∃ v, vs[i]? = some v ∧ RepD K mg ca F v d
  | [], _, _, _, _, h, e => by simp at e
  | t :: ts, _, _, 0, _, h, e => by
    cases h with
    | cons h1 h2 =>
      simp at e
      subst e
      exact ⟨_, rfl, RepT.shD h1⟩
  | t :: ts, _, _, i + 1, _, h, e => by
    cases h with
    | cons h1 h2 =>
      obtain ⟨v, e1, r⟩ := RepTs.get (i := i) h2 (by simpa using e)
      exact ⟨v, by simpa using e1, r⟩
theorem ee_ix {X : Cx} {a b : Expr} {ta tb : TE} {ea eb : Ev} {pos : Pos} (hu : X.A.units + 65 < cLine) (ha : EE X a ta ea) (hb : EE X b tb eb) (hp : PlainIx b := by exact fun _ _ => rfl) : EE X (.Subscript a b pos) (tOp (rIxAll X.K) ta tb) (eIx ea eb) := by
  refine ⟨pe_ix (ix_all (by omega)) ha.pe hb.pe hp, ?_⟩
  intro ca F H σ env cs fp t env' cs' Q S h k
  unfold eIx at h
  split at h
  · cases h
  · rename_i t1 env1 cs1 h1
    split at h
    · cases h
    · rename_i t2 env2 cs2 h2
      refine ha.snd.data S h1 fun x ca1 F1 H1 fp1 st1 S1 r1 => ?_
      refine hb.snd.data S1 h2 fun y ca2 F2 H2 fp2 st2 S2 r2 => ?_
      have r1' := RepD.mono st2.ff st2.pre _ _ r1
      have st12 := st1.trans st2
      split at h
      · rename_i i hi
        split at h
        · rename_i ts j hc hj
          split at h
          · rename_i d hd
            cases h
            rw [hi] at r1'
            rw [hj] at r2
            obtain ⟨p, rfl, hp⟩ := r1'.cell'
            obtain ⟨p', hp', rp, _⟩ := S2.cell i _ hc
            rw [hp] at hp'
            cases hp'
            rw [r2.int']
            generalize fp2 (.cell i) = w at rp
            cases rp with
            | @lst _ vs _ w f hv l r =>
              obtain ⟨jn, hq, hg, _⟩ := atI_get hd
              obtain ⟨v, ev, rv⟩ := RepTs.get r hg
              refine .inl (.inl ⟨p, vs, j, v, rfl, rfl, .inl (.inl f), ?_, OpK.same S2.sub (OpK.of S2 st12 (Kont.keep S k)) rv⟩)
              unfold L2.atI at hd ⊢
              rw [RepTs.length r]
              cases e : ixN ts.length j with
              | none => rw [e] at hd; cases hd
              | some m =>
                obtain ⟨e1, _⟩ := ixN_seq e
                rw [e1] at hq
                cases hq
                exact ev
          · cases h
        · cases h
      · split at h
        · cases h
        · rename_i r0 hr
          cases h
          exact o_ix ca2 F2 H2 x y _ _ _ Q S2.sub r1' r2 hr (OpK.of S2 st12 (Kont.keep S k))
end
end PD
end
section
set_option Elab.async false
set_option linter.all false
set_option maxRecDepth 100000
set_option autoImplicit false
namespace PD
open PySem L2 PyProof.Rows

/-! ### plain tuples -/
/-- a new tuple that is a plain object -/
def tTupP (t : TA) : TE := fun σ H Q => t σ H fun xs H1 => xs.length ≤ sizeLine ∧ ∀ p o, H1 p = none → o.dict = none → Q (.ref p) (upd H1 p (.frz o (.tup xs)))
section
variable {X : Cx} {es : List Expr} {pos : Pos} {t : TA}
theorem frzTup_ok {P : Program} {w : World} {H : Hp} {h : Heap} {a : Addr} {xs : List V} {its : List Value} (hz : xs.length ≤ sizeLine) (r : Vals xs its) (e : h.get? a = some { cls := .type "tuple", data := .seq its.toArray }) :
    ObjOk P w H h a (.frz { cls := .type "tuple", data := .seq its.toArray } (.tup xs)) := ⟨e, hz, its, r, _, e, rfl, _, rfl⟩
theorem pe_tupP {x1} (h : PA X es t) : PE X (.Tuple es x1 pos) (tTupP t) := by
  refine ⟨fun pins s σ H Q I hq => ?_⟩
  refine wpAny_Tuple_spliced (thn (h.run pos pins s σ H _ I hq) fun us s1 ⟨xs, H1, I1, r, z, q⟩ => ⟨by rw [← r.length]; exact z, ?_⟩)
  have hf : H1 s1.heap.objs.size = none := I1.hok.fresh (Nat.le_refl _)
  exact ⟨.ref s1.heap.objs.size, _, I1.laid (t' := s1.toks) (fun b u e => Heap.get?_push_of_some _ e) (Nat.le_refl _) (frzTup_ok z r (Heap.get?_push_size _ rfl)), rfl, q _ { cls := .type "tuple", data := .seq us.toArray } hf rfl⟩
def rTupOf (K : PySem.W.Frag) : List V → Hp → VK → Prop := fun xs H Q => ∃ p ys, xs = [.ref p] ∧ ((SqL K H p ys ∧ ∀ l o, H l = none → o.dict = none → Q (.ref l) (upd H l (.frz o (.tup ys)))) ∨ (SqT K H p ys ∧ Q (.ref p) H))
theorem call_tuple_ofP : CallR X (.type "tuple") (rTupOf X.K) := by
  intro pins s σ H xs us Q I r h
  obtain ⟨p, ys, rfl, h⟩ := h
  obtain ⟨u, rfl, rx⟩ := vals1 r
  cases rx
  rcases h with ⟨hq, q⟩ | ⟨hq, q⟩
  · obtain ⟨its, r', pl, hz⟩ := I.list hq
    have hlen := r'.length
    refine call_tuple_list pl.isList (fun h' kp => ?_) (by simp only [List.size_toArray] <;> omega)
    have I1 : Inv X pins σ H { s with heap := h' } := I.kept (t' := s.toks) kp
    exact ⟨.ref h'.objs.size, _, I1.laid (t' := s.toks) (fun b o e => Heap.get?_push_of_some _ e) (Nat.le_refl _) (frzTup_ok hz r' (Heap.get?_push_size _ rfl)), rfl, q _ { cls := .type "tuple", data := .seq its.toArray } (I1.hok.fresh (Nat.le_refl _)) rfl⟩
  · obtain ⟨its, r', pl, hz⟩ := I.tuple hq
    exact call_tuple_same pl ⟨.ref p, H, I, rfl, q⟩
end
def eTupP (a : Av) : Ev := fun env cs => match a env cs with
  | none => none
  | some (ts, env1, cs1) => some (.sh (.tup .pl (T.toDs ts)), keep env env1 (.sh (.tup .pl (T.toDs ts))) cs1, cs1)
section
variable {K : PySem.W.Frag} {mg : Str → Option Value} {ca : List Addr} {F H : Hp} {v : V} {d : D}
theorem OpK.newP {ds : List D} {vs : List V} {p : Addr} {o : Obj} {Q : VK} (h : Sub F H) (k : OpK K mg ca F H (.sh (.tup .pl ds)) Q) (hp : H p = none) (ho : o.dict = none) (r : RepDs K mg ca F vs ds) (l : vs.length ≤ sizeLine) : Q (.ref p) (upd H p (.frz o (.tup vs))) :=
  k (.ref p) (upd F p (.frz o (.tup vs))) (upd H p (.frz o (.tup vs))) [] (.tup h hp) (.sh (.tup (t := .pl) (show TupAt _ _ .pl _ _ from ⟨o, upd_same, ho⟩) l (RepDs.mono (Grow.tup h hp).ff .refl ds vs r))) List.nodup_nil fun _ z => nomatch z
theorem ee_tupP {X : Cx} {es : List Expr} {pos : Pos} {tas : TA} {av : Av} {x1} (h : EA X es tas av) (hl : es.length ≤ sizeLine := by decide) : EE X (.Tuple es x1 pos) (tTupP tas) (eTupP av) := by
  refine ⟨pe_tupP h.pa, ?_⟩
  intro ca F H σ env cs fp t env' cs' Q S hh k
  unfold eTupP at hh
  split at hh
  · cases hh
  · rename_i ts env1 cs1 h1
    cases hh
    refine h.snd.data S h1 fun vs ca1 F1 H1 fp1 st1 S1 r1 => ?_
    have hz : vs.length ≤ sizeLine := by rw [RepDs.length r1, toDs_len, h.len _ _ _ _ _ h1]; exact hl
    exact ⟨hz, fun p o hp ho => OpK.newP S1.sub (OpK.of S1 st1 (Kont.keep S k)) hp ho r1 hz⟩

/-! ### slices -/
abbrev Ov := Env → CS → Option (Option Int × Env × CS)
def oNo : Ov := fun env cs => some (none, env, cs)
def oAt (e : Ev) : Ov := fun env cs => match e env cs with
  | some (.sh (.int i), env1, cs1) => some (some i, env1, cs1)
  | _ => none
def SndO (K : PySem.W.Frag) (mg : Str → Option Value) (to : TO) (ov : Ov) : Prop :=
  ∀ ca F H σ env cs fp o env' cs' Q, Sim K mg ca F H σ env cs fp → ov env cs = some (o, env', cs') →
    (∀ (ca' : List Addr) (F' H' : Hp) (fp' : Fp), Step MC ca F H fp ca' F' H' fp' → Sim K mg ca' F' H' σ env' cs' fp' → Q o H') → to σ H Q
structure EO (X : Cx) (e : Option Expr) (to : TO) (ov : Ov) : Prop where
  po : PO X e to
  snd : SndO X.K X.mg to ov
theorem eo_no {X : Cx} : EO X none tNoPart oNo := ⟨po_none, fun ca F H σ env cs fp o env' cs' Q S h k => by cases h; exact k ca F H fp .refl S⟩
theorem eo_at {X : Cx} {e : Expr} {te : TE} {ev : Ev} (he : EE X e te ev) : EO X (some e) (tPart te) (oAt ev) := ⟨po_some he.pe, fun ca F H σ env cs fp o env' cs' Q S h k => by
  unfold oAt at h
  split at h
  · rename_i i env1 cs1 h1
    cases h
    refine he.snd ca F H σ env cs fp _ _ _ _ S h1 fun v ca1 F1 H1 fp1 w st1 S1 r nd fr dj => ?_
    exact ⟨i, (RepT.shD r).int', k ca1 F1 H1 fp1 st1 S1⟩
  · cases h⟩
def cutD {α : Type} (xs : List α) (lo hi : Option Int) : List α := (xs.drop (HT.sIx xs.length 0 lo)).take (HT.sIx xs.length xs.length hi - HT.sIx xs.length 0 lo)
def dSl (d : D) (lo hi : Option Int) : Option T := match d with
  | .lst xs => some (.lst ((cutD xs lo hi).map T.sh))
  | .rlst xs => some (.lst ((cutD xs lo hi).map T.sh))
  | .tup _ xs => some (.sh (.tup .any (cutD xs lo hi)))
  | .str z => some (.sh (.str (cutS z lo hi)))
  | _ => none
def eSl (a : Ev) (lo hi : Ov) : Ev := fun env cs => match a env cs with
  | none => none
  | some (t, env1, cs1) => match lo env1 cs1 with
    | none => none
    | some (l, env2, cs2) => match hi env2 cs2 with
      | none => none
      | some (u, env3, cs3) => match dSl t.toD l u with
        | none => none
        | some r => some (r, keep env env3 r cs3, cs3)
def rSlAll (K : PySem.W.Frag) : V → Option Int → Option Int → Hp → VK → Prop := fun x lo hi H Q => (rSlL K x lo hi H Q ∨ rSlA K x lo hi H Q) ∨ rSlS x lo hi H Q
theorem sl_all {X : Cx} : SlR X (rSlAll X.K) := SlR.or (SlR.or sl_list sl_tupA) sl_str
theorem RepDs.cut {vs : List V} {ds : List D} (r : RepDs K mg ca F vs ds) (lo hi : Option Int) : RepDs K mg ca F (cutV vs lo hi) (cutD ds lo hi) := by
  unfold cutV cutD
  rw [RepDs.length r]
  exact RepDs.take _ (RepDs.drop _ r)
theorem strOk_cut {z : Str} (h : PyData.strOk z = true) (lo hi : Option Int) : PyData.strOk (cutS z lo hi) = true := by
  unfold PyData.strOk at h ⊢
  rw [Array.all_eq_true_iff_forall_mem] at h ⊢
  intro c hc
  refine h c ?_
  unfold cutS at hc
  have hc' : c ∈ (z.cps.toList.drop (HT.sIx z.length 0 lo)).take (HT.sIx z.length z.length hi - HT.sIx z.length 0 lo) := by simpa using hc
  exact Array.mem_toList_iff.mp (List.mem_of_mem_drop (List.mem_of_mem_take hc'))
theorem o_sl {x : V} {d : D} {lo hi : Option Int} {t : T} {Q : VK} (hs : Sub F H) (rx : RepD K mg ca F x d) (h : dSl d lo hi = some t) (k : OpK K mg ca F H t Q) : rSlAll K x lo hi H Q := by
  have ll : ∀ ds, d.seqL = some ds → t = .lst ((cutD ds lo hi).map T.sh) → rSlAll K x lo hi H Q := fun ds e et => by
    subst et
    obtain ⟨a, vs, rfl, q, l, r⟩ := rx.lists e
    exact .inl (.inl ⟨a, vs, rfl, SqL.mono hs q, fun p hp => OpK.newL hs k hp (RepDs.cut r lo hi) (Nat.le_trans (cutV_length vs lo hi) l)⟩)
  unfold dSl at h
  split at h
  · cases h; exact ll _ rfl rfl
  · cases h; exact ll _ rfl rfl
  · rename_i tk ds
    cases h
    obtain ⟨a, vs, rfl, q, l, r⟩ := rx.tup'
    refine .inl (.inr ⟨a, vs, rfl, SqT.mono hs q, fun hw => ?_, fun _ p hp => OpK.newT hs (OpK.anyT k) hp (RepDs.cut r lo hi) (Nat.le_trans (cutV_length vs lo hi) l)⟩)
    have e : cutD ds lo hi = ds := by
      unfold cutD
      rw [← RepDs.length r, hw.1, hw.2, List.drop_zero, Nat.sub_zero, List.take_of_length_le (by rw [RepDs.length r]; exact Nat.le_refl _)]
    rw [e] at k
    exact OpK.same hs k rx.anyT
  · cases h
    obtain ⟨rfl, l, o⟩ := rx.str'
    exact .inr ⟨_, rfl, l, OpK.same hs k (.str _ (Nat.le_trans (cutS_length _ lo hi) l) (strOk_cut o lo hi))⟩
  · cases h
theorem ee_sl {X : Cx} {e : Expr} {lo hi : Option Expr} {te : TE} {tl th : TO} {ea : Ev} {ol oh : Ov} {pos p2 : Pos} (ha : EE X e te ea) (hl : EO X lo tl ol) (hh : EO X hi th oh) : EE X (.Subscript e (.Slice lo hi none p2) pos) (tSl (rSlAll X.K) te tl th) (eSl ea ol oh) := by
  refine ⟨pe_slice sl_all ha.pe hl.po hh.po, ?_⟩
  intro ca F H σ env cs fp t env' cs' Q S h k
  unfold eSl at h
  split at h
  · cases h
  · rename_i t1 env1 cs1 h1
    split at h
    · cases h
    · rename_i l env2 cs2 h2
      split at h
      · cases h
      · rename_i u env3 cs3 h3
        split at h
        · cases h
        · rename_i r0 hr
          cases h
          refine ha.snd.data S h1 fun x ca1 F1 H1 fp1 st1 S1 r1 => ?_
          refine hl.snd ca1 F1 H1 σ env1 cs1 fp1 l env2 cs2 _ S1 h2 fun ca2 F2 H2 fp2 st2 S2 => ?_
          refine hh.snd ca2 F2 H2 σ env2 cs2 fp2 u env3 _ _ S2 h3 fun ca3 F3 H3 fp3 st3 S3 => ?_
          exact o_sl S3.sub (RepD.mono (st2.ff.trans st3.ff) (st2.pre.trans st3.pre) _ _ r1) hr (OpK.of S3 ((st1.trans st2).trans st3) (Kont.keep S k))

/-! ### built-in functions -/
section
variable {X : Cx} {e : Expr} {es : List Expr} {ta : TA} {av : Av} {x : Str} {p pos : Pos} {r : List V → Hp → VK → Prop} {f : List D → Option T}
theorem snd_N (hs : OpNS K mg r f) (ha : SndA K mg ta av) : SndE K mg (tCB r ta) (eN f av) := by
  intro ca F H σ env cs fp t env' cs' Q S h k
  unfold eN at h
  split at h
  · cases h
  · rename_i ts env1 cs1 h1
    split at h
    · cases h
    · rename_i r0 hf
      cases h
      refine ha.data S h1 fun vs ca1 F1 H1 fp1 st1 S1 r1 => ?_
      exact hs ca1 F1 H1 vs _ _ Q S1.sub r1 hf (OpK.of S1 st1 (Kont.keep S k))
theorem ee_fun {id : String} (hc : CallR X (.builtin id) r) (hs : OpNS X.K X.mg r f) (hm : X.mg x = none) (ha : EA X (e :: es) ta av) (hv : bootBuiltins x = some (.builtin id) := by decide +kernel) (hg : Gl X x := by rfl) (hn : x ≠ "__name__" := by decide) (hdb : (x == ("__debug__" : Str)) = false := by decide)
    (he : starEach (e :: es) X.env = (false, eval e X.env) :: starEach es X.env := by rfl) (hpl : (backTo pos (starEach es X.env)).any (·.1) = false := by rfl) : EE X (.Call (.Name x p) (e :: es) [] pos) (tCB r ta) (eN f av) :=
  ⟨pe_callB hc hg hm hv ha.pa hn hdb he hpl, snd_N hs ha.snd⟩
theorem ee_typ {id : String} (hc : CallR X (.type id) r) (hs : OpNS X.K X.mg r f) (hm : X.mg x = none) (ha : EA X (e :: es) ta av) (hv : bootBuiltins x = some (.type id) := by decide +kernel) (hg : Gl X x := by rfl) (hn : x ≠ "__name__" := by decide) (hdb : (x == ("__debug__" : Str)) = false := by decide)
    (he : starEach (e :: es) X.env = (false, eval e X.env) :: starEach es X.env := by rfl) (hpl : (backTo pos (starEach es X.env)).any (·.1) = false := by rfl) : EE X (.Call (.Name x p) (e :: es) [] pos) (tCB r ta) (eN f av) :=
  ⟨pe_callTy hc hg hm hv ha.pa hn hdb he hpl, snd_N hs ha.snd⟩
end
def lenD : D → Option Nat
  | .str x => some x.length
  | .lst xs => some xs.length
  | .rlst xs => some xs.length
  | .tup _ xs => some xs.length
  | .dct .K xs => some xs.length
  | _ => none
def dLen : List D → Option T
  | [d] => (match lenD d with
    | some n => some (.sh (.int (n : Int)))
    | none => none)
  | _ => none
def rLen (K : PySem.W.Frag) : List V → Hp → VK → Prop := fun xs H Q => (∃ x n, xs = [x] ∧ LenV K x H n ∧ Q (.int n) H) ∨ ∃ a kvs, xs = [.ref a] ∧ Rd H a (.dK kvs) ∧ Q (.int (kvs.length : Nat)) H
theorem call_lenDR {X : Cx} : CallR X (.builtin "len") (fun xs H Q => ∃ a kvs, xs = [.ref a] ∧ Rd H a (.dK kvs) ∧ Q (.int (kvs.length : Nat)) H) := by
  intro pins s σ H xs us Q I r h
  obtain ⟨a, kvs, rfl, hd, q⟩ := h
  obtain ⟨u, rfl, rx⟩ := vals1 r
  cases rx
  exact d_len I hd fun t s' I' => ⟨.int (kvs.length : Nat), H, I', ⟨t, rfl⟩, q⟩
theorem cr_len {X : Cx} : CallR X (.builtin "len") (rLen X.K) := CallR.or call_len call_lenDR
theorem RepDs.one {vs : List V} {d : D} (h : RepDs K mg ca F vs [d]) : ∃ v, vs = [v] ∧ RepD K mg ca F v d := by
  cases h with
  | cons h1 h2 => cases h2; exact ⟨_, rfl, h1⟩
theorem RepDs.two {vs : List V} {d e : D} (h : RepDs K mg ca F vs [d, e]) : ∃ v u, vs = [v, u] ∧ RepD K mg ca F v d ∧ RepD K mg ca F u e := by
  cases h with
  | cons h1 h2 => obtain ⟨u, rfl, h3⟩ := RepDs.one h2; exact ⟨_, _, rfl, h1, h3⟩
theorem n_len : OpNS K mg (rLen K) dLen := by
  intro ca F H xs ds t Q hs r h k
  unfold dLen at h
  split at h
  · rename_i d
    obtain ⟨v, rfl, rv⟩ := r.one
    split at h
    · rename_i n hn
      cases h
      have sq : ∀ ds, d.seq = some ds → n = ds.length → rLen K [v] H Q := fun ds e en => by
        obtain ⟨a, vs, rfl, q, l, r⟩ := rv.seq' e
        refine .inl ⟨_, n, rfl, ?_, OpK.same hs k (.int _)⟩
        rcases q with q | q
        · exact .inl ⟨vs, SqL.mono hs q, by rw [en, RepDs.length r]⟩
        · exact .inr ⟨vs, SqT.mono hs q, by rw [en, RepDs.length r]⟩
      cases d with
      | str x => cases hn; obtain ⟨rfl, l, _⟩ := rv.str'; exact .inl ⟨_, _, rfl, ⟨l, rfl⟩, OpK.same hs k (.int _)⟩
      | lst xs => cases hn; exact sq _ rfl rfl
      | rlst xs => cases hn; exact sq _ rfl rfl
      | tup _ xs => cases hn; exact sq _ rfl rfl
      | dct kk xs =>
        cases kk with
        | K =>
          cases hn
          obtain ⟨a, kvs, rfl, q, l, r⟩ := rv.dK'
          refine .inr ⟨a, kvs, rfl, Rd.mono hs q, ?_⟩
          rw [RepKs.length r]
          exact OpK.same hs k (.int _)
        | T => cases hn
      | _ => cases hn
    · cases h
  · cases h
/-- lists of ints, of truths, of texts -/
def intsOf : List D → Option (List Int)
  | [] => some []
  | .int i :: ds => (intsOf ds).map (i :: ·)
  | _ => none
def blsOf : List D → Option (List Bool)
  | [] => some []
  | .bl i :: ds => (blsOf ds).map (i :: ·)
  | _ => none
def strsOf : List D → Option (List Str)
  | [] => some []
  | .str i :: ds => (strsOf ds).map (i :: ·)
  | _ => none
theorem intsOf_of : ∀ {ds : List D} {vs : List V} {ns : List Int}, RepDs K mg ca F vs ds → intsOf ds = some ns → vs = ns.map V.int
  | [], _, _, h, e => by cases h; cases e; rfl
  | d :: ds, _, _, h, e => by
    cases h with
    | cons h1 h2 =>
      cases d with
      | int i =>
        unfold intsOf at e
        obtain ⟨ns, e1, rfl⟩ := Option.map_eq_some_iff.mp e
        rw [h1.int', intsOf_of h2 e1]
        rfl
      | _ => cases e
theorem blsOf_of : ∀ {ds : List D} {vs : List V} {ns : List Bool}, RepDs K mg ca F vs ds → blsOf ds = some ns → vs = ns.map V.bl
  | [], _, _, h, e => by cases h; cases e; rfl
  | d :: ds, _, _, h, e => by
    cases h with
    | cons h1 h2 =>
      cases d with
      | bl i =>
        unfold blsOf at e
        obtain ⟨ns, e1, rfl⟩ := Option.map_eq_some_iff.mp e
        rw [h1.bl', blsOf_of h2 e1]
        rfl
      | _ => cases e
theorem strsOf_of : ∀ {ds : List D} {vs : List V} {ns : List Str}, RepDs K mg ca F vs ds → strsOf ds = some ns → vs = ns.map V.str ∧ ∀ x ∈ ns, x.length ≤ sizeLine ∧ PyData.strOk x = true
  | [], _, _, h, e => by cases h; cases e; exact ⟨rfl, fun _ z => nomatch z⟩
  | d :: ds, _, _, h, e => by
    cases h with
    | cons h1 h2 =>
      cases d with
      | str i =>
        unfold strsOf at e
        obtain ⟨ns, e1, rfl⟩ := Option.map_eq_some_iff.mp e
        obtain ⟨a, b⟩ := strsOf_of h2 e1
        obtain ⟨rfl, l, o⟩ := h1.str'
        rw [a]
        refine ⟨rfl, fun x hx => ?_⟩
        rcases List.mem_cons.mp hx with rfl | hx
        · exact ⟨l, o⟩
        · exact b x hx
      | _ => cases e
def on1L {α : Type} (rd : List D → Option α) (g : α → Option T) : List D → Option T
  | [d] => (match d.seqL with
    | some ds => (match rd ds with
      | some a => g a
      | none => none)
    | none => none)
  | _ => none
theorem on1L_of {α : Type} {rd : List D → Option α} {g : α → Option T} {ds : List D} {t : T} (h : on1L rd g ds = some t) : ∃ d es a, ds = [d] ∧ d.seqL = some es ∧ rd es = some a ∧ g a = some t := by
  unfold on1L at h
  split at h
  · split at h
    · split at h
      · exact ⟨_, _, _, rfl, by assumption, by assumption, h⟩
      · cases h
    · cases h
  · cases h
def dSum : List D → Option T := on1L intsOf fun ns => some (.sh (.int ns.sum))
def dAll : List D → Option T := on1L blsOf fun bs => some (.sh (.bl (bs.all id)))
def dAny : List D → Option T := on1L blsOf fun bs => some (.sh (.bl (bs.any id)))
theorem n_sum : OpNS K mg (rSum K) dSum := by
  intro ca F H xs ds t Q hs r h k
  obtain ⟨d, es, ns, rfl, h1, h2, h3⟩ := on1L_of h
  cases h3
  obtain ⟨v, rfl, rv⟩ := r.one
  obtain ⟨a, vs, rfl, q, l, r⟩ := rv.lists h1
  rw [intsOf_of r h2] at q
  exact ⟨a, ns, rfl, SqL.mono hs q, OpK.same hs k (.int _)⟩
theorem n_all : OpNS K mg (rAll K) dAll := by
  intro ca F H xs ds t Q hs r h k
  obtain ⟨d, es, ns, rfl, h1, h2, h3⟩ := on1L_of h
  cases h3
  obtain ⟨v, rfl, rv⟩ := r.one
  obtain ⟨a, vs, rfl, q, l, r⟩ := rv.lists h1
  rw [blsOf_of r h2] at q
  exact ⟨a, ns, rfl, SqL.mono hs q, OpK.same hs k (.bl _)⟩
theorem n_any : OpNS K mg (rAny K) dAny := by
  intro ca F H xs ds t Q hs r h k
  obtain ⟨d, es, ns, rfl, h1, h2, h3⟩ := on1L_of h
  cases h3
  obtain ⟨v, rfl, rv⟩ := r.one
  obtain ⟨a, vs, rfl, q, l, r⟩ := rv.lists h1
  rw [blsOf_of r h2] at q
  exact ⟨a, ns, rfl, SqL.mono hs q, OpK.same hs k (.bl _)⟩
def dMax2 : List D → Option T
  | [.int i, .int j] => some (.sh (.int (if j > i then j else i)))
  | _ => none
def dMin2 : List D → Option T
  | [.int i, .int j] => some (.sh (.int (if j < i then j else i)))
  | _ => none
def rMm (g : Int → Int → Int) : List V → Hp → VK → Prop := fun xs H Q => ∃ i j, xs = [.int i, .int j] ∧ Q (.int (g i j)) H
theorem n_max2 : OpNS K mg (rMm fun i j => if j > i then j else i) dMax2 := by
  intro ca F H xs ds t Q hs r h k
  unfold dMax2 at h
  split at h
  · cases h
    obtain ⟨v, u, rfl, r1, r2⟩ := r.two
    rw [r1.int', r2.int']
    exact ⟨_, _, rfl, OpK.same hs k (.int _)⟩
  · cases h
theorem n_min2 : OpNS K mg (rMm fun i j => if j < i then j else i) dMin2 := by
  intro ca F H xs ds t Q hs r h k
  unfold dMin2 at h
  split at h
  · cases h
    obtain ⟨v, u, rfl, r1, r2⟩ := r.two
    rw [r1.int', r2.int']
    exact ⟨_, _, rfl, OpK.same hs k (.int _)⟩
  · cases h
def dInt : List D → Option T
  | [.int i] => some (.sh (.int i))
  | [.bl i] => some (.sh (.int (if i then 1 else 0)))
  | _ => none
def rInt1 : List V → Hp → VK → Prop := fun xs H Q => (∃ i, xs = [.int i] ∧ Q (.int i) H) ∨ ∃ k, xs = [.bl k] ∧ Q (.int (if k then 1 else 0)) H
theorem n_int : OpNS K mg rInt1 dInt := by
  intro ca F H xs ds t Q hs r h k
  unfold dInt at h
  split at h
  · cases h
    obtain ⟨v, rfl, rv⟩ := r.one
    rw [rv.int']
    exact .inl ⟨_, rfl, OpK.same hs k (.int _)⟩
  · cases h
    obtain ⟨v, rfl, rv⟩ := r.one
    rw [rv.bl']
    exact .inr ⟨_, rfl, OpK.same hs k (.int _)⟩
  · cases h
def dAbs : List D → Option T
  | [.int i] => some (.sh (.int (if i < 0 then -i else i)))
  | _ => none
theorem n_abs : OpNS K mg (fun xs H Q => ∃ i, xs = [.int i] ∧ Q (.int (if i < 0 then -i else i)) H) dAbs := by
  intro ca F H xs ds t Q hs r h k
  unfold dAbs at h
  split at h
  · cases h
    obtain ⟨v, rfl, rv⟩ := r.one
    rw [rv.int']
    exact ⟨_, rfl, OpK.same hs k (.int _)⟩
  · cases h

/-! ### isinstance -/
def D.tyName : D → Option String
  | .non => some "NoneType"
  | .bl _ => some "bool"
  | .int _ => some "int"
  | .str _ => some "str"
  | .rep _ => some "str"
  | .tup _ _ => some "tuple"
  | .lst _ => some "list"
  | .rlst _ => some "list"
  | .dct _ _ => some "dict"
  | _ => none
/-- which of the plain types is a kind of which -/
def isKind (a n : String) : Option Bool :=
  if n ∈ (["int", "bool", "str", "tuple", "list", "dict"] : List String) then
    if a = n then some true else if a = "bool" ∧ n = "int" then some true else if a ∈ (["NoneType", "bool", "int", "str", "tuple", "list", "dict"] : List String) then some false else none
  else none
theorem isKind_all : ∀ a ∈ (["NoneType", "bool", "int", "str", "tuple", "list", "dict"] : List String), ∀ n ∈ (["int", "bool", "str", "tuple", "list", "dict"] : List String), kitB a n = isKind a n := by decide +kernel
theorem isKind_kit {a n : String} {b : Bool} (ha : a ∈ (["NoneType", "bool", "int", "str", "tuple", "list", "dict"] : List String)) (h : isKind a n = some b) : kitB a n = some b := by
  have hn : n ∈ (["int", "bool", "str", "tuple", "list", "dict"] : List String) := by
    unfold isKind at h
    split at h
    · assumption
    · cases h
  rw [isKind_all a ha n hn]
  exact h
theorem tyName_mem {n : String} (h : d.tyName = some n) : n ∈ (["NoneType", "bool", "int", "str", "tuple", "list", "dict"] : List String) := by
  cases d <;> first | (cases h; decide) | cases h
theorem sqT_ty {a : Addr} {vs : List V} (h : SqT K F a vs) : TyX K F (.ref a) (.type "tuple") := by
  rcases h with (h | ⟨o, h⟩) | ⟨o, its, n, h, c, _⟩
  · exact .base (.tup h)
  · exact .fTuple h
  · exact .kTuple h c
theorem sqL_ty {a : Addr} {vs : List V} (h : SqL K F a vs) : TyX K F (.ref a) (.type "list") := by
  rcases h with (h | ⟨o, h⟩) | ⟨o, its, n, h, c, _⟩
  · exact .base (.lst h)
  · exact .base (.frz h)
  · exact .kList h c
/-- a dict of tuples' keys that is tracked itself -/
theorem ty_of {n : String} (hs : Sub F H) (r : RepD K mg ca F v d) (h : d.tyName = some n) (hT : ∀ kvs, d ≠ .dct .T kvs) : TyX K H v (.type n) := by
  cases d with
  | non => cases h; rw [r.non']; exact .base .non
  | bl b => cases h; rw [r.bl']; exact .base (.bl _)
  | int b => cases h; rw [r.int']; exact .base (.int _)
  | str b => cases h; rw [r.str'.1]; exact .base (.str _)
  | rep b => cases h; rw [r.rep']; exact .base (.str _)
  | tup t b => cases h; obtain ⟨a, vs, rfl, q, l, _⟩ := r.tup'; exact sqT_ty (SqT.mono hs q)
  | lst b => cases h; obtain ⟨a, vs, rfl, q, l, _⟩ := r.lst'; exact .base (.lst (hs _ _ q))
  | rlst b => cases h; obtain ⟨a, vs, rfl, q, l, _⟩ := r.rlst'; exact sqL_ty (SqL.mono hs q)
  | dct kk b =>
    cases kk with
    | K =>
      cases h
      obtain ⟨a, kvs, rfl, q, l, _⟩ := r.dK'
      rcases Rd.mono hs q with q | ⟨o, q⟩
      · exact .base (.dK q)
      · exact .fDict q
    | T => exact absurd rfl (hT b)
  | _ => cases h
def D.isT : D → Bool
  | .dct .T _ => true
  | _ => false
def isAnyKind (a : String) : List D → Option Bool
  | [] => some false
  | .ty n :: r => (match isKind a n, isAnyKind a r with
    | some b, some c => some (b || c)
    | _, _ => none)
  | _ => none
def dIsi : List D → Option T
  | [d, .ty n] => if d.isT then none else (match d.tyName with
    | some a => (match isKind a n with
      | some b => some (.sh (.bl b))
      | none => none)
    | none => none)
  | [d, .tup .ex ns] => if d.isT then none else (match d.tyName with
    | some a => (match isAnyKind a ns with
      | some b => some (.sh (.bl b))
      | none => none)
    | none => none)
  | _ => none
theorem notT (h : ¬ d.isT = true) : ∀ kvs, d ≠ .dct .T kvs := fun kvs e => by subst e; exact h rfl
theorem anyKind_kit {a : String} (ha : a ∈ (["NoneType", "bool", "int", "str", "tuple", "list", "dict"] : List String)) : ∀ {ns : List D} {vs : List V} {b : Bool}, RepDs K mg ca F vs ns → isAnyKind a ns = some b → ∃ us, Paired ClsV vs us ∧ PySem.W.kitAny K (.type a) us = some b
  | [], _, _, h, e => by cases h; cases e; exact ⟨[], .nil, rfl⟩
  | d :: ds, _, _, h, e => by
    cases h with
    | cons h1 h2 =>
      cases d with
      | ty n =>
        rw [h1.ty']
        unfold isAnyKind at e
        split at e
        · rename_i b c hk hr
          cases e
          obtain ⟨us, hp, hu⟩ := anyKind_kit ha h2 hr
          refine ⟨.type n :: us, .cons (.ty n) hp, ?_⟩
          unfold PySem.W.kitAny
          rw [kit_ty (K := K) (isKind_kit ha hk)]
          cases b with
          | true => rfl
          | false => exact hu
        · cases e
      | _ => cases e
def rIsiAll (K : PySem.W.Frag) : List V → Hp → VK → Prop := fun xs H Q => rIsi K xs H Q ∨ rIsiT K xs H Q
theorem cr_isi {X : Cx} : CallR X (.builtin "isinstance") (rIsiAll X.K) := CallR.or call_isi call_isiT
theorem n_isi : OpNS K mg (rIsiAll K) dIsi := by
  intro ca F H xs ds t Q hs r h k
  unfold dIsi at h
  split at h
  · split at h
    · cases h
    · rename_i d n hT
      split at h
      · rename_i a ha
        split at h
        · rename_i b hb
          cases h
          obtain ⟨v, u, rfl, r1, r2⟩ := r.two
          rw [r2.ty']
          exact .inl ⟨v, _, _, _, b, rfl, .ty n, ty_of hs r1 ha (notT hT), kit_ty (isKind_kit (tyName_mem ha) hb), OpK.same hs k (.bl _)⟩
        · cases h
      · cases h
  · split at h
    · cases h
    · rename_i d ns hT
      split at h
      · rename_i a ha
        split at h
        · rename_i b hb
          cases h
          obtain ⟨v, u, rfl, r1, r2⟩ := r.two
          obtain ⟨tp, cs, rfl, q, l, rc⟩ := r2.tupA
          obtain ⟨us, hp, hu⟩ := anyKind_kit (tyName_mem ha) rc hb
          exact .inr ⟨v, tp, cs, _, us, b, rfl, hs _ _ q, hp, ty_of hs r1 ha (notT hT), hu, OpK.same hs k (.bl _)⟩
        · cases h
      · cases h
  · cases h
end
end PD
end
section
set_option Elab.async false
set_option linter.all false
set_option maxRecDepth 100000
set_option autoImplicit false
namespace PD
open PySem L2 PyProof.Rows

section
variable {K : PySem.W.Frag} {mg : Str → Option Value} {ca : List Addr} {F H : Hp} {v : V} {d : D}
/-! ### tuple(x), list(x) -/
def dTuple : List D → Option T
  | [.tup t xs] => some (.sh (.tup t xs))
  | [d] => (match d.seqL with
    | some xs => some (.sh (.tup .pl xs))
    | none => none)
  | _ => none
theorem n_tuple : OpNS K mg (rTupOf K) dTuple := by
  intro ca F H xs ds t Q hs r h k
  unfold dTuple at h
  split at h
  · cases h
    obtain ⟨v, rfl, rv⟩ := r.one
    obtain ⟨a, vs, rfl, q, l, _⟩ := rv.tup'
    exact ⟨a, vs, rfl, .inr ⟨SqT.mono hs q, OpK.same hs k rv⟩⟩
  · obtain ⟨v, rfl, rv⟩ := r.one
    split at h
    · rename_i ys e
      cases h
      obtain ⟨a, vs, rfl, q, l, r⟩ := rv.lists e
      exact ⟨a, vs, rfl, .inl ⟨SqL.mono hs q, fun p o hp ho => OpK.newP hs k hp ho r l⟩⟩
    · cases h
  · cases h
/-- keys are fit texts or ints -/
def keyFit : D → Bool
  | .str x => decide (x.length ≤ sizeLine) && PyData.strOk x
  | _ => true
def keysD (kvs : List (D × D)) : List D := kvs.map (·.1)
def dList : List D → Option T
  | [.dct .K kvs] => if (kvs.all fun p => keyFit p.1) = true then some (.lst ((keysD kvs).map T.sh)) else none
  | [d] => (match d.seq with
    | some xs => some (.lst (xs.map T.sh))
    | none => none)
  | _ => none
def rListOf (K : PySem.W.Frag) : List V → Hp → VK → Prop := fun xs H Q => (∃ p ys, xs = [.ref p] ∧ (SqL K H p ys ∨ SqT K H p ys) ∧ ∀ l, H l = none → Q (.ref l) (upd H l (.lst ys))) ∨
  ∃ (a : Addr) (kvs : List (Key × V)), xs = [.ref a] ∧ Rd H a (.dK kvs) ∧ ∀ p, H p = none → Q (.ref p) (upd H p (.lst (kvs.map fun kv => kV kv.1)))
theorem cr_list {X : Cx} (hc : X.calm = true) : CallR X (.type "list") (rListOf X.K) := CallR.or call_list_of (call_listD hc)
theorem RepKs.keys : ∀ {ds : List (D × D)} {vs : List (Key × V)}, RepKs K mg ca F vs ds → (ds.all fun p => keyFit p.1) = true → RepDs K mg ca F (vs.map fun kv => kV kv.1) (keysD ds)
  | [], _, h, _ => by cases h; exact .nil
  | _ :: ds, _, h, e => by
    cases h with
    | @cons j v vs d ds h1 h2 =>
      simp only [List.all_cons, Bool.and_eq_true] at e
      refine .cons ?_ (RepKs.keys h2 e.2)
      cases j with
      | inl i => exact .int i
      | inr x =>
        have q := e.1
        simp only [kD, keyFit, Bool.and_eq_true, decide_eq_true_eq] at q
        exact .str x q.1 q.2
theorem n_list : OpNS K mg (rListOf K) dList := by
  intro ca F H xs ds t Q hs r h k
  unfold dList at h
  split at h
  · split at h
    · rename_i hf
      cases h
      obtain ⟨v, rfl, rv⟩ := r.one
      obtain ⟨a, vs, rfl, q, l, r⟩ := rv.dK'
      exact .inr ⟨a, vs, rfl, Rd.mono hs q, fun p hp => OpK.newL hs k hp (RepKs.keys r hf) (by rw [List.length_map]; exact l)⟩
    · cases h
  · obtain ⟨v, rfl, rv⟩ := r.one
    split at h
    · rename_i ys e
      cases h
      obtain ⟨a, vs, rfl, q, l, r⟩ := rv.seq' e
      exact .inl ⟨a, vs, rfl, q.elim (fun z => .inl (SqL.mono hs z)) fun z => .inr (SqT.mono hs z), fun p hp => OpK.newL hs k hp r l⟩
    · cases h
  · cases h

/-! ### dicts as values -/
section
variable {α : Type}
def putD (kvs : List (D × α)) (k : Key) (v : α) : List (D × α) :=
  if (kvs.any fun p => isKey k p.1) = true then kvs.map (fun p => if isKey k p.1 = true then (p.1, v) else p) else kvs ++ [(kD k, v)]
end
theorem RepKs.any (k : Key) : ∀ {ds : List (D × D)} {vs : List (Key × V)}, RepKs K mg ca F vs ds → (vs.any fun kv => decide (kv.1 = k)) = ds.any fun p => isKey k p.1
  | [], _, h => by cases h; rfl
  | _ :: ds, _, h => by
    cases h with
    | @cons j v vs d ds h1 h2 => rw [List.any_cons, List.any_cons, RepKs.any k h2, isKey_kD]
theorem RepKs.repl (k : Key) {u : V} {e : D} (r : RepD K mg ca F u e) : ∀ {ds : List (D × D)} {vs : List (Key × V)}, RepKs K mg ca F vs ds → RepKs K mg ca F (vs.map fun kv => if kv.1 = k then (kv.1, u) else kv) (ds.map fun p => if isKey k p.1 = true then (p.1, e) else p)
  | [], _, h => by cases h; exact .nil
  | _ :: ds, _, h => by
    cases h with
    | @cons j v vs d ds h1 h2 =>
      rw [List.map_cons, List.map_cons, isKey_kD]
      by_cases q : j = k
      · rw [if_pos q, if_pos (decide_eq_true q)]
        exact .cons r (RepKs.repl k r h2)
      · rw [if_neg q, if_neg (by simpa using q)]
        exact .cons h1 (RepKs.repl k r h2)
theorem RepKs.snoc {k : Key} {u : V} {e : D} (r : RepD K mg ca F u e) : ∀ {ds : List (D × D)} {vs : List (Key × V)}, RepKs K mg ca F vs ds → RepKs K mg ca F (vs ++ [(k, u)]) (ds ++ [(kD k, e)])
  | [], _, h => by cases h; exact .cons r .nil
  | _ :: ds, _, h => by cases h with | cons h1 h2 => exact .cons h1 (RepKs.snoc r h2)
theorem RepKs.put {k : Key} {u : V} {e : D} {ds : List (D × D)} {vs : List (Key × V)} (h : RepKs K mg ca F vs ds) (r : RepD K mg ca F u e) : RepKs K mg ca F (putK vs k u) (putD ds k e) := by
  unfold putK putD
  rw [RepKs.any k h]
  split
  · exact RepKs.repl k r h
  · exact RepKs.snoc r h
theorem RepTk.shs : ∀ {ds : List (D × D)} {vs : List (Key × V)}, RepKs K mg ca F vs ds → RepTk K mg ca F H vs (ds.map fun p => (p.1, T.sh p.2)) []
  | [], _, h => by cases h; exact .nil
  | _ :: ds, _, h => by cases h with | cons h1 h2 => exact RepTk.cons (w := []) (.sh h1) (RepTk.shs h2)
theorem OpK.newK {ds : List (D × D)} {vs : List (Key × V)} {p : Addr} {Q : VK} (h : Sub F H) (k : OpK K mg ca F H (.dct .K (ds.map fun p => (p.1, T.sh p.2))) Q) (hp : H p = none) (r : RepKs K mg ca F vs ds) (l : vs.length ≤ sizeLine) : Q (.ref p) (upd H p (.dK vs)) :=
  k (.ref p) F (upd H p (.dK vs)) [p] (.laid h hp) (.dK upd_same (h.none hp) l (RepTk.shs r)) (by simp) fun a ha => by rw [List.mem_singleton.mp ha]; exact hp
/-- pairs of a key and a value -/
def pairsOf : List D → Option (List (Key × D))
  | [] => some []
  | .tup _ [k, v] :: ds => (match k.key?, pairsOf ds with
    | some k, some r => some ((k, v) :: r)
    | _, _ => none)
  | _ => none
def mergeD (kvs : List (D × D)) (more : List (Key × D)) : List (D × D) := more.foldl (fun acc kv => putD acc kv.1 kv.2) kvs
theorem pairsOf_at (hs : Sub F H) : ∀ {ds : List D} {vs : List V} {ps : List (Key × D)}, RepDs K mg ca F vs ds → pairsOf ds = some ps → ∃ (as : List Addr) (kvs : List (Key × V)), vs = as.map V.ref ∧ Paired (fun p kv => SqT K H p [kV kv.1, kv.2]) as kvs ∧ Paired (fun (kv : Key × V) (q : Key × D) => kv.1 = q.1 ∧ RepD K mg ca F kv.2 q.2) kvs ps
  | [], _, _, h, e => by cases h; cases e; exact ⟨[], [], rfl, .nil, .nil⟩
  | d :: ds, _, _, h, e => by
    cases h with
    | @cons v vs _ _ h1 h2 =>
      unfold pairsOf at e
      split at e
      · rename_i he
        cases he
      · rename_i t k0 v0 ds' he
        cases he
        split at e
        · rename_i k r hk hr
          cases e
          obtain ⟨as, kvs, rfl, p1, p2⟩ := pairsOf_at hs h2 hr
          obtain ⟨a, us, rfl, q, l, rr⟩ := h1.tup'
          obtain ⟨x, y, rfl, r1, r2⟩ := rr.two
          obtain ⟨rfl, _⟩ := r1.key' hk
          exact ⟨a :: as, (k, y) :: kvs, rfl, .cons (SqT.mono hs q) p1, .cons ⟨rfl, r2⟩ p2⟩
        · cases e
      · cases e
theorem merge_rep : ∀ {kvs : List (Key × V)} {ps : List (Key × D)} {vs : List (Key × V)} {ds : List (D × D)}, Paired (fun (kv : Key × V) (q : Key × D) => kv.1 = q.1 ∧ RepD K mg ca F kv.2 q.2) kvs ps → RepKs K mg ca F vs ds → RepKs K mg ca F (mergeK vs kvs) (mergeD ds ps)
  | _, _, _, _, .nil, r => r
  | _, _, vs, ds, .cons (a := a) (b := b) h t, r => by
    obtain ⟨h1, h2⟩ := h
    have e : RepKs K mg ca F (putK vs a.1 a.2) (putD ds b.1 b.2) := by
      rw [h1]
      exact RepKs.put r h2
    exact merge_rep (vs := putK vs a.1 a.2) (ds := putD ds b.1 b.2) t e
def shK (ds : List (D × D)) : List (D × T) := ds.map fun p => (p.1, T.sh p.2)
def dDict : List D → Option T
  | [.dct .K kvs] => some (.dct .K (shK kvs))
  | [.tup .pl xs] => (match pairsOf xs with
    | some ps => some (.dct .K (shK (mergeD [] ps)))
    | none => none)
  | [d] => (match d.seqL with
    | some xs => (match pairsOf xs with
      | some ps => some (.dct .K (shK (mergeD [] ps)))
      | none => none)
    | none => none)
  | _ => none
def rDictL (K : PySem.W.Frag) : List V → Hp → VK → Prop := fun xs H Q => ∃ (a : Addr) (ps : List Addr) (kvs : List (Key × V)), xs = [.ref a] ∧ SqL K H a (ps.map V.ref) ∧ Paired (fun p kv => SqT K H p [kV kv.1, kv.2]) ps kvs ∧ ∀ p, H p = none → Q (.ref p) (upd H p (.dK (mergeK [] kvs)))
def rDictT (K : PySem.W.Frag) : List V → Hp → VK → Prop := fun xs H Q => ∃ (a : Addr) (o : Obj) (ps : List Addr) (kvs : List (Key × V)), xs = [.ref a] ∧ H a = some (.frz o (.tup (ps.map V.ref))) ∧ o.dict = none ∧ Paired (fun p kv => SqT K H p [kV kv.1, kv.2]) ps kvs ∧ ∀ p, H p = none → Q (.ref p) (upd H p (.dK (mergeK [] kvs)))
def rDictD : List V → Hp → VK → Prop := fun xs H Q => ∃ (a : Addr) (kvs : List (Key × V)), xs = [.ref a] ∧ Rd H a (.dK kvs) ∧ ∀ p, H p = none → Q (.ref p) (upd H p (.dK kvs))
def rDict (K : PySem.W.Frag) : List V → Hp → VK → Prop := fun xs H Q => (rDictL K xs H Q ∨ rDictT K xs H Q) ∨ rDictD xs H Q
/-- dict(t), t a plain tuple of pairs -/
theorem call_dictT {X : Cx} (hcalm : X.calm = true) : CallR X (.type "dict") (rDictT X.K) := by
  intro pins s σ H xs us Q I r q
  obtain ⟨a, o, ps, kvs, ex, hq, ho, hp, q⟩ := q
  subst ex
  obtain ⟨u, eu, rx⟩ := vals1 r
  subst eu
  cases rx
  obtain ⟨e1, z, its, rv, o', e2, hc, n, hd⟩ := (show ObjOk X.prog X.w H s.heap a (.frz o (.tup (ps.map V.ref))) from I.hok a _ hq)
  rw [e1] at e2
  cases e2
  have ei := refs_at rv
  subst ei
  rw [List.length_map] at z
  obtain ⟨prs, rel, hl, hpr⟩ := pairs_of I hp
  -- the pairs as raw values
  let us : List Value := prs.zipIdx.map fun q => (s.heap.get? (ps.getD q.2 0)).elim .none fun o => match o.data with
    | .seq xs _ => xs.getD 0 .none
    | _ => .none
  have usl : us.length = prs.length := by simp [us]
  have usAt : ∀ (j : Nat) (q : Key × Value), prs[j]? = some q → ∃ (b : Addr) (u : Value), ps[j]? = some b ∧ IsTup s.heap b #[u, q.2] ∧ keyIs q.1 u = true ∧ us[j]? = some u := fun j q e => by
    obtain ⟨b, u, h1, h2, h3⟩ := hpr j q e
    refine ⟨b, u, h1, h2, h3, ?_⟩
    obtain ⟨ob, g1, g2, m, g3⟩ := h2
    have hj : prs.zipIdx[j]? = some (q, j) := by rw [List.getElem?_zipIdx, e]; simp
    have hb : ps.getD j 0 = b := by rw [List.getD_eq_getElem?_getD, h1]; rfl
    show (prs.zipIdx.map _)[j]? = some u
    rw [List.getElem?_map, hj]
    simp only [Option.map_some, hb, g1, Option.elim, g3]
    rfl
  have P := PySem.PairArg.tuple (prog := X.prog) (w := X.w) a (ps.map Value.ref).toArray (fun j => ps.getD j 0) (us.zip (prs.map (·.2)))
  have zl : (us.zip (prs.map (·.2))).length = prs.length := by simp [usl]
  have zAt : ∀ (j : Nat) (k v : Value), (us.zip (prs.map (·.2)))[j]? = some (k, v) → ∃ q, prs[j]? = some q ∧ v = q.2 ∧ us[j]? = some k := fun j k v e => by
    rw [List.getElem?_zip_eq_some] at e
    obtain ⟨e1, e2⟩ := e
    rw [List.getElem?_map] at e2
    obtain ⟨q, hq, rfl⟩ := Option.map_eq_some_iff.mp e2
    exact ⟨q, hq, rfl, e1⟩
  refine PySem.call_dict_pairs (knd := mixKind X.prog X.w) (kvs := prs) P (I.ok.hd hcalm) ⟨⟨o, n, e1, hc, ho, hd⟩, ?_⟩ ?_ (by rw [zl, hl]; exact z) fun h' tk hd' k => ?_
  · refine ⟨by simp [zl, hl], fun j k v e => ?_⟩
    obtain ⟨q', h1, h2, h3⟩ := zAt j k v e
    obtain ⟨b, u, g1, g2, g3, g4⟩ := usAt j q' h1
    rw [h3] at g4
    cases g4
    subst h2
    have hb : ps.getD j 0 = b := by rw [List.getD_eq_getElem?_getD, g1]; rfl
    refine ⟨by simp [g1, hb], .inl ?_⟩
    show s.heap.IsTuple (ps.getD j 0) _
    rw [hb]
    exact g2
  · refine ⟨by rw [zl], fun j key v e => ?_⟩
    obtain ⟨q', h1, h2, h3⟩ := zAt j key v e
    obtain ⟨b, u, g1, g2, g3, g4⟩ := usAt j q' h1
    rw [h3] at g4
    cases g4
    subst h2
    exact ⟨q'.1, h1, g3⟩
  · have hm : (s.heap.objs.size == sysModules) = false := beq_eq_false_iff_ne.mpr (Nat.ne_of_gt I.big)
    have hlen : (mergeK [] kvs).length ≤ sizeLine := by
      refine Nat.le_trans (length_mergeK kvs []) ?_
      rw [List.length_nil, Nat.zero_add, rel.length, hl]
      exact z
    exact ⟨.ref s.heap.objs.size, upd H s.heap.objs.size (.dK (mergeK [] kvs)), I.laid (t' := tk) (fun b o e => k b o (fun z => nomatch z) e) (Nat.le_refl _) (show ObjOk X.prog X.w _ _ _ (.dK (mergeK [] kvs)) from ⟨hlen, hm, merged [] prs, KV.merge rel .nil, hd'⟩), rfl, q _ (I.hok.fresh (Nat.le_refl _))⟩
theorem cr_dict {X : Cx} (hc : X.calm = true) : CallR X (.type "dict") (rDict X.K) := CallR.or (CallR.or (call_dictP hc) (call_dictT hc)) call_dictD
theorem paired_len {α β : Type} {f : α → β → Prop} : ∀ {as : List α} {bs : List β}, Paired f as bs → as.length = bs.length
  | _, _, .nil => rfl
  | _, _, .cons _ t => by rw [List.length_cons, List.length_cons, paired_len t]
theorem n_dict : OpNS K mg (rDict K) dDict := by
  intro ca F H xs ds t Q hs r h k
  have fin : ∀ {vs : List V} {xs : List D} {ps : List (Key × D)}, RepDs K mg ca F vs xs → pairsOf xs = some ps → t = .dct .K (shK (mergeD [] ps)) → vs.length ≤ sizeLine →
      ∃ (as : List Addr) (kvs : List (Key × V)), vs = as.map V.ref ∧ Paired (fun p kv => SqT K H p [kV kv.1, kv.2]) as kvs ∧ ∀ p, H p = none → Q (.ref p) (upd H p (.dK (mergeK [] kvs))) := fun {vs xs ps} r e et l => by
    subst et
    obtain ⟨as, kvs, e1, p1, p2⟩ := pairsOf_at hs r e
    refine ⟨as, kvs, e1, p1, fun p hp => OpK.newK hs k hp (merge_rep p2 .nil) ?_⟩
    refine Nat.le_trans (length_mergeK kvs []) ?_
    rw [List.length_nil, Nat.zero_add, ← paired_len p1, ← List.length_map (f := V.ref), ← e1]
    exact l
  unfold dDict at h
  split at h
  · cases h
    obtain ⟨v, rfl, rv⟩ := r.one
    obtain ⟨a, vs, rfl, q, l, r⟩ := rv.dK'
    exact .inr ⟨a, vs, rfl, Rd.mono hs q, fun p hp => OpK.newK hs k hp r l⟩
  · obtain ⟨v, rfl, rv⟩ := r.one
    split at h
    · rename_i ps e
      cases h
      obtain ⟨a, vs, rfl, ⟨o, q, ho⟩, l, r⟩ := rv.tupA
      obtain ⟨as, kvs, rfl, p1, q1⟩ := fin r e rfl l
      exact .inl (.inr ⟨a, o, as, kvs, rfl, hs _ _ q, ho, p1, q1⟩)
    · cases h
  · obtain ⟨v, rfl, rv⟩ := r.one
    split at h
    · rename_i ys e
      split at h
      · rename_i ps e2
        cases h
        obtain ⟨a, vs, rfl, q, l, r⟩ := rv.lists e
        obtain ⟨as, kvs, rfl, p1, q1⟩ := fin r e2 rfl l
        exact .inl (.inl ⟨a, as, kvs, rfl, SqL.mono hs q, p1, q1⟩)
      · cases h
    · cases h
  · cases h

/-! ### sorted -/
/-- all of one kind, told by the first -/
def alikeL (ds : List D) : Bool := ds.all fun d => ds.all fun e => PySem.W.alike d.py e.py
def sortable (ds : List D) : Bool := (ds.all fun d => match d with | .tup _ (_ :: _) => true | _ => false) || ds.all fun d => match d with | .int _ => true | .str _ => true | .bl _ => true | _ => false
def leD (a b : D) : Bool := PySem.W.dataLe false D.py a b
def dSorted : List D → Option T
  | [.dct .K kvs] => if (kvs.all fun p => keyFit p.1) = true ∧ alikeL (keysD kvs) = true then some (.lst (((keysD kvs).mergeSort leD).map T.sh)) else none
  | [d] => (match d.seqL with
    | some xs => if alikeL xs = true ∧ sortable xs = true ∧ D.isPys xs 60 = true then some (.lst ((xs.mergeSort leD).map T.sh)) else none
    | none => none)
  | _ => none
end
end PD
end
section
set_option Elab.async false
set_option linter.all false
set_option maxRecDepth 100000
set_option autoImplicit false
namespace PD
open PySem L2 PyProof.Rows

/-! ### the sorts, by values -/
abbrev leP : V × PyData → V × PyData → Bool := PySem.W.dataLe false (·.2)
def sortPs (bs : List (V × PyData)) : List V := (bs.mergeSort leP).map (·.1)
structure SortOk (K : PySem.W.Frag) (H : Hp) (bs : List (V × PyData)) : Prop where
  dp : ∀ b ∈ bs, Dp K H b.1 b.2
  al : PySem.W.AllAlike (bs.map (·.2))
  so : PySem.W.Sortable (bs.map (·.2))
  de : ∀ b ∈ bs, b.2.depth ≤ 60
def rSortA (K : PySem.W.Frag) : List V → Hp → VK → Prop := fun xs H Q => ∃ (a : Addr) (bs : List (V × PyData)), xs = [.ref a] ∧ SqL K H a (bs.map (·.1)) ∧ SortOk K H bs ∧ ∀ p, H p = none → Q (.ref p) (upd H p (.lst (sortPs bs)))
theorem each_rel {R : Value → V × PyData → Prop} : ∀ {bs : List (V × PyData)} {us : List Value}, Vals (bs.map (·.1)) us → (∀ b ∈ bs, ∀ u, RelV b.1 u → R u b) → PySem.W.EachIs R us bs
  | [], _, r, _ => by cases r; exact .nil
  | b :: bs, _, r, h => by
    cases r with
    | cons r1 r2 => exact .cons (h b List.mem_cons_self _ r1) (each_rel r2 fun b hb => h b (List.mem_cons_of_mem _ hb))
theorem rel_each : ∀ {bs : List (V × PyData)} {us : List Value}, PySem.W.EachIs (fun u b => RelV b.1 u) us bs → Vals (bs.map (·.1)) us
  | _, _, .nil => .nil
  | _, _, .cons h t => .cons h (rel_each t)
theorem sortPs_length (bs : List (V × PyData)) : (sortPs bs).length = bs.length := by unfold sortPs; rw [List.length_map, List.length_mergeSort]
theorem cr_sortA {X : Cx} (hu : X.A.units + 65 < cLine) : CallR X (.builtin "sorted") (rSortA X.K) := by
  intro pins s σ H vs us Q I r h
  obtain ⟨a, bs, rfl, hs, ok, q⟩ := h
  obtain ⟨its, rv, hl, hz⟩ := I.list hs
  rw [List.length_map] at hz
  rw [Vals.ref1 r]
  refine PySem.W.sorted_data (R := fun u b => RelV b.1 u) (enc := (·.2)) (bs := bs) hl.isList (each_rel rv fun b _ u e => e) (each_rel rv fun b hb u e => Dp.reads I b.2 b.1 u (ok.dp b hb) e) ok.al ok.so hz
    (fun b hb => by have := ok.de b hb; omega) fun out h1 h2 => ?_
  obtain ⟨ep, he'⟩ := PyProof.Rows.sortedAll_at s.heap its out.toArray
  have hv : Vals (sortPs bs) out := rel_each h2
  refine ⟨.ref _, upd H (s.heap.objs.size + 1) (.lst (sortPs bs)), I.laid (t' := s.toks) (fun _ _ => PyProof.Rows.sortedAll_old) (Nat.le_succ _) ⟨by rw [sortPs_length]; exact hz, out, ep, hv, he'⟩, rfl, q _ (I.hok.fresh (Nat.le_succ _))⟩

/-- sorted(d), d a dict -/
def keyP : Key → PyData
  | .inl i => .int i
  | .inr x => .str x
def keysP (kvs : List (Key × V)) : List (V × PyData) := kvs.map fun kv => (kV kv.1, keyP kv.1)
def rSortK : List V → Hp → VK → Prop := fun xs H Q => ∃ (a : Addr) (kvs : List (Key × V)), xs = [.ref a] ∧ Rd H a (.dK kvs) ∧ PySem.W.AllAlike (kvs.map fun kv => keyP kv.1) ∧ (kvs.all fun kv => match kv.1 with | .inl _ => true | .inr x => PyData.strOk x) = true ∧
  ∀ p, H p = none → Q (.ref p) (upd H p (.lst (sortPs (keysP kvs))))
theorem keyP_so (kvs : List (Key × V)) : PySem.W.Sortable (kvs.map fun kv => keyP kv.1) := .inr fun d hd => by
  obtain ⟨kv, _, rfl⟩ := List.mem_map.mp hd
  cases kv.1 with
  | inl i => exact ⟨(fun z => nomatch z), (fun xs z => nomatch z)⟩
  | inr i => exact ⟨(fun z => nomatch z), (fun xs z => nomatch z)⟩
theorem cr_sortK {X : Cx} (hcalm : X.calm = true) (hu : X.A.units + 65 < cLine) : CallR X (.builtin "sorted") rSortK := by
  intro pins s σ H xs us Q I r q
  obtain ⟨a, kvs, ex, hd, hal, hok, q⟩ := q
  subst ex
  obtain ⟨u, eu, rx⟩ := vals1 r
  subst eu
  cases rx
  obtain ⟨z, lo, vs, rel, dd⟩ := dk_rd I.hok hd
  obtain ⟨ep, hat⟩ := dd.dictAt
  have h16 : vs.length ≤ sizeLine := by rw [← rel.length]; exact z
  refine Calls.call_function_entry PyProof.Rows.kind_sorted PyProof.Rows.plain_sorted PyProof.Rows.entry_sorted (PyProof.Rows.args_sorted1 _) ?_
  unfold Builtin.«sorted»
  refine wpAny_bind (m := checkCount "sorted" 1 1 _) (wpAny_pure ?_)
  refine wpAny_bind (PySem.W.kdu_collect (A := X.A.in1) (PySem.W.kdl_dict (knd := mixKind X.prog X.w) (kvs := vs) (ep := ep) lo) (I.ok.hd hcalm) hat h16 fun h' tk acc hk hacc => ?_)
  have hv : Vals (vs.map fun p => kV p.1) acc.toList := keys_at (by rw [Array.length_toList]; exact hacc.1) fun j v e => hacc.2 j v (by rw [← Array.getElem?_toList]; exact e)
  have ek : (kvs.map fun kv => kV kv.1) = vs.map fun p => kV p.1 := by
    have e := congrArg (List.map kV) rel.keys
    rw [List.map_map, List.map_map] at e
    exact e
  rw [← ek] at hv
  have hlen : acc.toList.length = kvs.length := by rw [hv.length.symm, List.length_map]
  have hb : (keysP kvs).map (·.1) = kvs.map fun kv => kV kv.1 := by unfold keysP; rw [List.map_map]; rfl
  have hb2 : (keysP kvs).map (·.2) = kvs.map fun kv => keyP kv.1 := by unfold keysP; rw [List.map_map]; rfl
  have hbl : (keysP kvs).length = kvs.length := by unfold keysP; rw [List.length_map]
  rw [← hb] at hv
  have I1 : Inv X pins σ H { s with heap := h', toks := tk } := I.kept hk
  refine wpAny_bind (wpAny_newList ?_ (by rw [hlen]; exact z))
  have hoL : (h'.push (seqObj "list" acc.toList.toArray 0)).get? h'.objs.size = some (seqObj "list" acc.toList.toArray 0) := Heap.get?_push_size _ rfl
  show wpAny _ _ _ _ _ { s with heap := h'.push (seqObj "list" acc.toList.toArray 0), toks := tk }
  have rd : ∀ b ∈ keysP kvs, ∀ u, RelV b.1 u → ∃ as, Reads (h'.push (seqObj "list" acc.toList.toArray 0)) u b.2 as ∧ h'.objs.size ∉ as := fun b hb u e => by
    unfold keysP at hb
    obtain ⟨kv, _, rfl⟩ := List.mem_map.mp hb
    cases hk1 : kv.1 with
    | inl i =>
      simp only [hk1] at e ⊢
      obtain ⟨t, rfl⟩ := e
      exact ⟨_, Reads.int i t, by simp⟩
    | inr x =>
      simp only [hk1] at e ⊢
      obtain ⟨t, rfl⟩ := e
      exact ⟨_, Reads.str x t, by simp⟩
  refine wpAny_bind (wpAny_holding (PySem.W.list_sort_data (s := { s with heap := h'.push (seqObj "list" acc.toList.toArray 0), toks := tk }) (R := fun u b => RelV b.1 u) (enc := (·.2)) (bs := keysP kvs) hoL (each_rel hv fun b _ u e => e) (each_rel hv rd) (by rw [hb2]; exact hal) (by rw [hb2]; exact keyP_so kvs) (by rw [hbl]; exact z)
    (fun b hb => ?_) fun out h1 h2 => ?_))
  · unfold keysP at hb
    obtain ⟨kv, _, rfl⟩ := List.mem_map.mp hb
    have : (keyP kv.1).depth = 0 := by cases kv.1 <;> rfl
    show X.A.in1.units + 1 + (keyP kv.1).depth < cLine
    rw [this]
    show X.A.units + 1 + 1 + 0 < cLine
    omega
  · obtain ⟨e', he'⟩ := PyProof.Rows.sortedHeap_at (vs := acc.toList) (out := out.toArray) hoL
    have hvo : Vals (sortPs (keysP kvs)) out := rel_each h2
    refine wpAny_pure ⟨_, rfl, .ref h'.objs.size, upd H h'.objs.size (.lst (sortPs (keysP kvs))), I1.laid (t' := tk) (fun b u e => ?_) (Nat.le_refl _)
      (show ObjOk X.prog X.w _ _ _ (.lst (sortPs (keysP kvs))) from ⟨by rw [sortPs_length, hbl]; exact z, out, e', hvo, he'⟩), rfl, q _ (I1.hok.fresh (Nat.le_refl _))⟩
    have hb : b < h'.objs.size := Heap.lt_size e
    rw [PyProof.Rows.sortedHeap_old (Nat.ne_of_lt hb) (by rw [size_push']; exact Nat.lt_succ_of_lt hb)]
    exact Heap.get?_push_of_some _ e

section
variable {K : PySem.W.Frag} {mg : Str → Option Value} {ca : List Addr} {F H : Hp} {v : V} {d : D}
theorem RepDs.zip : ∀ {ds : List D} {vs : List V}, RepDs K mg ca F vs ds → ∀ z ∈ vs.zip ds, RepD K mg ca F z.1 z.2
  | [], _, h, z, hz => by simp at hz
  | d :: ds, _, h, z, hz => by
    cases h with
    | cons h1 h2 =>
      rw [List.zip_cons_cons] at hz
      rcases List.mem_cons.mp hz with rfl | hz
      · exact h1
      · exact RepDs.zip h2 z hz
theorem RepDs.ofZip : ∀ {zs : List (V × D)}, (∀ z ∈ zs, RepD K mg ca F z.1 z.2) → RepDs K mg ca F (zs.map (·.1)) (zs.map (·.2))
  | [], _ => .nil
  | z :: zs, h => .cons (h z List.mem_cons_self) (RepDs.ofZip fun y hy => h y (List.mem_cons_of_mem _ hy))
theorem sort_rep {ds : List D} {vs : List V} (r : RepDs K mg ca F vs ds) : ∃ bs : List (V × PyData), bs.map (·.1) = vs ∧ bs.map (·.2) = ds.map D.py ∧ (∀ b ∈ bs, ∃ e ∈ ds, b.2 = e.py ∧ RepD K mg ca F b.1 e) ∧ RepDs K mg ca F (sortPs bs) (ds.mergeSort leD) := by
  have hl := RepDs.length r
  have e1 : (vs.zip ds).map (·.1) = vs := by rw [← List.unzip_fst, List.unzip_zip_left (by omega)]
  have e2 : (vs.zip ds).map (·.2) = ds := by rw [← List.unzip_snd, List.unzip_zip_right (by omega)]
  let f : V × D → V × PyData := fun z => (z.1, z.2.py)
  refine ⟨(vs.zip ds).map f, by rw [List.map_map]; exact e1, ?_, fun b hb => ?_, ?_⟩
  · rw [List.map_map, ← e2, List.map_map]
    rw [e2]
    rfl
  · obtain ⟨z, hz, rfl⟩ := List.mem_map.mp hb
    exact ⟨z.2, (List.of_mem_zip hz).2, rfl, RepDs.zip r z hz⟩
  · let r' : V × D → V × D → Bool := fun a b => leD a.2 b.2
    have s1 : ((vs.zip ds).mergeSort r').map f = ((vs.zip ds).map f).mergeSort leP := List.map_mergeSort fun a _ b _ => rfl
    have s2 : ((vs.zip ds).mergeSort r').map (·.2) = ((vs.zip ds).map (·.2)).mergeSort leD := List.map_mergeSort fun a _ b _ => rfl
    have q := RepDs.ofZip (K := K) (mg := mg) (ca := ca) (F := F) (zs := (vs.zip ds).mergeSort r') fun z hz => RepDs.zip r z (List.mem_mergeSort.mp hz)
    rw [s2, e2] at q
    have e3 : sortPs ((vs.zip ds).map f) = ((vs.zip ds).mergeSort r').map (·.1) := by
      unfold sortPs
      rw [← s1, List.map_map]
      rfl
    rw [e3]
    exact q
theorem alike_of {ds : List D} (h : alikeL ds = true) : PySem.W.AllAlike (ds.map D.py) := fun p hp q hq => by
  obtain ⟨d, hd, rfl⟩ := List.mem_map.mp hp
  obtain ⟨e, he, rfl⟩ := List.mem_map.mp hq
  unfold alikeL at h
  exact List.all_eq_true.mp (List.all_eq_true.mp h d hd) e he
theorem sortable_of {ds : List D} (h : sortable ds = true) : PySem.W.Sortable (ds.map D.py) := by
  unfold sortable at h
  rw [Bool.or_eq_true] at h
  rcases h with h | h
  · refine .inl fun p hp => ?_
    obtain ⟨d, hd, rfl⟩ := List.mem_map.mp hp
    have q := List.all_eq_true.mp h d hd
    split at q
    · rename_i t x r
      exact ⟨x.py, D.pys r, by simp [D.py, D.pys]⟩
    · cases q
  · refine .inr fun p hp => ?_
    obtain ⟨d, hd, rfl⟩ := List.mem_map.mp hp
    have q := List.all_eq_true.mp h d hd
    split at q
    · exact ⟨by simp [D.py], by simp [D.py]⟩
    · exact ⟨by simp [D.py], by simp [D.py]⟩
    · exact ⟨by simp [D.py], by simp [D.py]⟩
    · cases q
theorem isPys_mem : ∀ {ds : List D} {n : Nat}, D.isPys ds n = true → ∀ d ∈ ds, d.isPy n = true
  | [], _, _, d, h => by cases h
  | e :: ds, n, p, d, h => by
    simp only [D.isPys, Bool.and_eq_true] at p
    rcases List.mem_cons.mp h with rfl | h
    · exact p.1
    · exact isPys_mem p.2 d h
def rSortAll (K : PySem.W.Frag) : List V → Hp → VK → Prop := fun xs H Q => rSortA K xs H Q ∨ rSortK xs H Q
theorem cr_sortAll {X : Cx} (hc : X.calm = true) (hu : X.A.units + 65 < cLine) : CallR X (.builtin "sorted") (rSortAll X.K) := CallR.or (cr_sortA hu) (cr_sortK hc hu)
theorem RepKs.keysP_rep : ∀ {ds : List (D × D)} {vs : List (Key × V)}, RepKs K mg ca F vs ds → (keysD ds).map D.py = vs.map fun kv => keyP kv.1
  | [], _, h => by cases h; rfl
  | _ :: ds, _, h => by
    cases h with
    | @cons j v vs d ds h1 h2 =>
      have ih := RepKs.keysP_rep h2
      unfold keysD at ih ⊢
      rw [List.map_cons, List.map_cons, List.map_cons, ih]
      cases j <;> rfl
theorem RepKs.keyOk : ∀ {ds : List (D × D)} {vs : List (Key × V)}, RepKs K mg ca F vs ds → (ds.all fun p => keyFit p.1) = true → (vs.all fun kv => match kv.1 with | .inl _ => true | .inr x => PyData.strOk x) = true
  | [], _, h, _ => by cases h; rfl
  | _ :: ds, _, h, e => by
    cases h with
    | @cons j v vs d ds h1 h2 =>
      simp only [List.all_cons, Bool.and_eq_true] at e ⊢
      refine ⟨?_, RepKs.keyOk h2 e.2⟩
      cases j with
      | inl i => rfl
      | inr x =>
        have q := e.1
        simp only [kD, keyFit, Bool.and_eq_true] at q
        exact q.2
theorem n_sorted : OpNS K mg (rSortAll K) dSorted := by
  intro ca F H xs ds t Q hs r h k
  unfold dSorted at h
  split at h
  · rename_i kvs
    split at h
    · rename_i hf
      cases h
      obtain ⟨v, rfl, rv⟩ := r.one
      obtain ⟨a, vs, rfl, q, l, r⟩ := rv.dK'
      obtain ⟨bs, b1, b2, b3, b4⟩ := sort_rep (RepKs.keys r hf.1)
      refine .inr ⟨a, vs, rfl, Rd.mono hs q, ?_, RepKs.keyOk r hf.1, fun p hp => ?_⟩
      · rw [← RepKs.keysP_rep r]
        exact alike_of hf.2
      · have e : keysP vs = bs := by
          apply List.ext_getElem?
          intro i
          have g1 := congrArg (·[i]?) b1
          have g2 := congrArg (·[i]?) (b2.trans (RepKs.keysP_rep r))
          simp only [List.getElem?_map] at g1 g2
          unfold keysP
          rw [List.getElem?_map]
          cases hb : bs[i]? with
          | none =>
            rw [hb] at g1
            cases hv : vs[i]? with
            | none => rfl
            | some kv => rw [hv] at g1; cases g1
          | some b =>
            rw [hb] at g1 g2
            cases hv : vs[i]? with
            | none => rw [hv] at g1; cases g1
            | some kv =>
              rw [hv] at g1 g2
              simp only [Option.map_some, Option.some.injEq] at g1 g2 ⊢
              rw [← g1, ← g2]
        rw [e]
        exact OpK.newL hs k hp b4 (by rw [RepDs.length b4, List.length_mergeSort]; unfold keysD; rw [List.length_map, ← RepKs.length r]; exact l)
    · cases h
  · obtain ⟨v, rfl, rv⟩ := r.one
    split at h
    · rename_i ys e
      split at h
      · rename_i hf
        cases h
        obtain ⟨a, vs, rfl, q, l, r⟩ := rv.lists e
        obtain ⟨bs, b1, b2, b3, b4⟩ := sort_rep r
        refine .inl ⟨a, bs, rfl, by rw [b1]; exact SqL.mono hs q, ⟨fun b hb => ?_, by rw [b2]; exact alike_of hf.1, by rw [b2]; exact sortable_of hf.2.1, fun b hb => ?_⟩, fun p hp => OpK.newL hs k hp b4 (by rw [RepDs.length b4, List.length_mergeSort, ← RepDs.length r]; exact l)⟩
        · obtain ⟨e, he, h1, h2⟩ := b3 b hb
          rw [h1]
          exact Dp.mono hs _ _ (RepD.dp e _ 60 h2 (isPys_mem hf.2.2 e he)).1
        · obtain ⟨e, he, h1, h2⟩ := b3 b hb
          rw [h1]
          exact (RepD.dp e _ 60 h2 (isPys_mem hf.2.2 e he)).2.2
      · cases h
    · cases h
  · cases h
end
end PD
end
section
set_option Elab.async false
set_option linter.all false
set_option maxRecDepth 100000
set_option autoImplicit false
namespace PD
open PySem L2 PyProof.Rows

section
variable {X : Cx} {K : PySem.W.Frag} {mg : Str → Option Value} {ca ca' : List Addr} {F F' H H' : Hp} {v : V} {d : D} {σ : St} {env env' : Env} {cs cs' : CS} {fp fp' : Fp}
/-! ### globals that are texts, ints -/
theorem ee_gstr {x : Str} {y : Str} {t : Tok} {pos : Pos} (hm : X.mg x = some (.str y t)) (hg : Gl X x := by rfl) (h : y.length ≤ sizeLine := by decide +kernel) (ho : PyData.strOk y = true := by decide +kernel) (hd : (x == ("__debug__" : Str)) = false := by decide) : EE X (.Name x pos) (tC (.str y)) (eC (.str y)) :=
  ⟨pe_glob (v := .str y) hg hm ⟨t, rfl⟩ hd, snd_C fun _ _ => .str y h ho⟩

/-! ### + that hands owned lists on -/
def catT : T → Option (List T)
  | .lst ts => some ts
  | .sh (.lst ds) => some (ds.map T.sh)
  | _ => none
def eAdd (a b : Ev) : Ev := fun env cs => match a env cs with
  | none => none
  | some (t1, env1, cs1) => match b env1 cs1 with
    | none => none
    | some (t2, env2, cs2) => match catT t1, catT t2 with
      | some xs, some ys => if xs.length + ys.length ≤ sizeLine then some (.lst (xs ++ ys), env2, cs2) else none
      | _, _ => match dAdd t1.toD t2.toD with
        | none => none
        | some r => some (r, keep env env2 r cs2, cs2)
theorem RepTs.append : ∀ {vs us : List V} {ts rs : List T} {w w' : List Addr}, RepTs K mg ca F H vs ts w → RepTs K mg ca F H us rs w' → RepTs K mg ca F H (vs ++ us) (ts ++ rs) (w ++ w')
  | _, _, _, _, _, _, .nil, r => r
  | _, _, _, _, _, _, .cons h1 h2, r => by
    rw [List.append_assoc]
    exact .cons h1 (RepTs.append h2 r)
theorem RepT.cat {t : T} {w : List Addr} {ts : List T} (hs : Sub F H) (r : RepT K mg ca F H v t w) (h : catT t = some ts) (nd : w.Nodup) : ∃ a vs w', v = .ref a ∧ H a = some (.lst vs) ∧ vs.length ≤ sizeLine ∧ RepTs K mg ca F H vs ts w' ∧ w'.Nodup ∧ ∀ x ∈ w', x ∈ w := by
  cases t with
  | lst us =>
    cases h
    cases r with
    | lst a f l r => exact ⟨_, _, _, rfl, a, l, r, (List.nodup_cons.mp nd).2, fun x hx => List.mem_cons_of_mem _ hx⟩
  | sh d =>
    cases d with
    | lst ds =>
      cases h
      obtain ⟨a, vs, rfl, q, l, r⟩ := (RepT.shD r).lst'
      exact ⟨a, vs, [], rfl, hs _ _ q, l, RepTs.sh r, List.nodup_nil, fun x hx => nomatch hx⟩
    | _ => cases h
  | dct _ _ => cases h
theorem snd_add {ta tb : TE} {ea eb : Ev} (ha : SndE K mg ta ea) (hb : SndE K mg tb eb) : SndE K mg (tOp (rAdd K) ta tb) (eAdd ea eb) := by
  intro ca F H σ env cs fp t env' cs' Q S h k
  unfold eAdd at h
  split at h
  · cases h
  · rename_i t1 env1 cs1 h1
    split at h
    · cases h
    · rename_i t2 env2 cs2 h2
      split at h
      · rename_i xs ys hx hy
        split at h
        · rename_i hl
          cases h
          refine ha ca F H σ env cs fp t1 env1 cs1 _ S h1 fun v1 ca1 F1 H1 fp1 w1 st1 S1 r1 nd1 fr1 dj1 => ?_
          refine hb ca1 F1 H1 σ env1 cs1 fp1 t2 _ _ _ S1 h2 fun v2 ca2 F2 H2 fp2 w2 st2 S2 r2 nd2 fr2 dj2 => ?_
          obtain ⟨r1', dj1'⟩ := st2.temp r1 dj1
          have own1 := RepT.own _ _ _ r1
          obtain ⟨a, vs, u1, rfl, e1, l1, q1, n1, s1⟩ := RepT.cat S2.sub r1' hx nd1
          obtain ⟨b, us, u2, rfl, e2, l2, q2, n2, s2⟩ := RepT.cat S2.sub r2 hy nd2
          have hz : vs.length + us.length ≤ sizeLine := by rw [RepTs.length q1, RepTs.length q2]; exact hl
          refine .inr (.inl ⟨a, b, vs, us, rfl, rfl, e1, e2, hz, fun p hp => ?_⟩)
          have g : Grow F2 H2 F2 (upd H2 p (.lst (vs ++ us))) := Grow.laid S2.sub hp
          have q := RepTs.append q1 q2
          have hpw : p ∉ u1 ++ u2 := fun z => by obtain ⟨_, o, e⟩ := RepTs.own _ _ _ q p z; rw [hp] at e; cases e
          have st := st1.trans st2
          refine k (.ref p) ca2 F2 (upd H2 p (.lst (vs ++ us))) fp2 (p :: (u1 ++ u2)) (st.trans g.step) (S2.grow g) (.lst upd_same (S2.sub.none hp) (by rw [List.length_append]; exact hz) (RepTs.keep .refl .refl _ _ _ q (fun a ha => (RepTs.own _ _ _ q a ha).1) fun a ha o e => by rw [upd_ne (fun z => hpw (by rw [← z]; exact ha))]; exact e)) (List.nodup_cons.mpr ⟨hpw, List.nodup_append.mpr ⟨n1, n2, fun a ha b hb z => ?_⟩⟩) (fun a ha => ?_) fun r a ha => ?_
          · subst z
            obtain ⟨_, o, e⟩ := own1 a (s1 a ha)
            rw [fr2 a (s2 a hb)] at e; cases e
          · rcases List.mem_cons.mp ha with rfl | ha
            · exact st.noneOf hp
            · rcases List.mem_append.mp ha with ha | ha
              · exact fr1 a (s1 a ha)
              · exact st1.noneOf (fr2 a (s2 a ha))
          · rcases List.mem_cons.mp ha with rfl | ha
            · intro z
              obtain ⟨_, o, e, _⟩ := S2.own r a z
              rw [hp] at e; cases e
            · rcases List.mem_append.mp ha with ha | ha
              · exact dj1' r a (s1 a ha)
              · exact dj2 r a (s2 a ha)
        · cases h
      · split at h
        · cases h
        · rename_i r0 hf
          cases h
          refine ha.data S h1 fun x ca1 F1 H1 fp1 st1 S1 r1 => ?_
          refine hb.data S1 h2 fun y ca2 F2 H2 fp2 st2 S2 r2 => ?_
          exact o_add ca2 F2 H2 x y _ _ _ Q S2.sub (RepD.mono st2.ff st2.pre _ _ r1) r2 hf (OpK.of S2 (st1.trans st2) (Kont.keep S k))
theorem ee_add {a b : Expr} {ta tb : TE} {ea eb : Ev} {pos : Pos} (ha : EE X a ta ea) (hb : EE X b tb eb) : EE X (.BinOp a .Add b pos) (tOp (rAdd X.K) ta tb) (eAdd ea eb) := ⟨pe_op op_addAny ha.pe hb.pe, snd_add ha.snd hb.snd⟩

/-! ### bit_length -/
def dBits : D → Option T
  | .int i => some (.sh (.int (Builtin.Int.intBits i : Nat)))
  | _ => none
theorem ee_bits {o : Expr} {to : TE} {eo : Ev} {apos pos : Pos} (ho : EE X o to eo) (hbase : attributeBase o "bit_length" X.env (eval o X.env) = eval o X.env := by rfl) (hline : (apos.endLine == pos.line) = true := by rfl) : EE X (.Call (.Attribute o "bit_length" apos) [] [] pos) (tBits to) (e1 dBits eo) := by
  refine ⟨pe_bits ho.pe hbase hline, ?_⟩
  intro ca F H σ env cs fp t env' cs' Q S h k
  unfold e1 at h
  split at h
  · cases h
  · rename_i t1 env1 cs1 h1
    split at h
    · cases h
    · rename_i r0 hf
      cases h
      refine ho.snd.data S h1 fun x ca1 F1 H1 fp1 st1 S1 r1 => ?_
      unfold dBits at hf
      split at hf
      · rename_i i hi
        cases hf
        rw [hi] at r1
        exact ⟨i, r1.int', OpK.same S1.sub (OpK.of S1 st1 (Kont.keep S k)) (.int _)⟩
      · cases hf

/-! ### dicts -/
def eNewK : Ev := fun env cs => some (.dct .K [], env, cs)
theorem ee_newK {pos : Pos} : EE X (.Dict [] [] pos) tDNewK eNewK := ⟨pe_dnewK, fun ca F H σ env cs fp t env' cs' Q S h k => by
  cases h
  exact fun p hp => OpK.newK (ds := []) S.sub (OpK.of S .refl k) hp .nil (Nat.zero_le _)⟩
def dGet2 (d k z : D) : Option D := match d with
  | .dct .K kvs => (match k.key? with
    | some k => some ((look k kvs).getD z)
    | none => none)
  | _ => none
def eGet2 (a b c : Ev) : Ev := fun env cs => match a env cs with
  | none => none
  | some (t1, env1, cs1) => match b env1 cs1 with
    | none => none
    | some (t2, env2, cs2) => match c env2 cs2 with
      | none => none
      | some (t3, env3, cs3) => match dGet2 t1.toD t2.toD t3.toD with
        | none => none
        | some r => some (.sh r, keep env env3 (.sh r) cs3, cs3)
theorem ee_get2 {o e f : Expr} {td ty tx : TE} {ed ey ex : Ev} {apos cpos : Pos} (hu : X.A.units + 65 < cLine) (ho : EE X o td ed) (he : EE X e ty ey) (hf : EE X f tx ex) (m : M2 X o "get" apos e f cpos := by exact ⟨rfl, rfl, rfl, rfl⟩) : EE X (.Call (.Attribute o "get" apos) [e, f] [] cpos) (tDGet2 td ty tx) (eGet2 ed ey ex) := by
  refine ⟨pe_dget2 (by omega) ho.pe he.pe hf.pe m, ?_⟩
  intro ca F H σ env cs fp t env' cs' Q S h k
  unfold eGet2 at h
  split at h
  · cases h
  · rename_i t1 env1 cs1 h1
    split at h
    · cases h
    · rename_i t2 env2 cs2 h2
      split at h
      · cases h
      · rename_i t3 env3 cs3 h3
        split at h
        · cases h
        · rename_i r0 hr
          cases h
          refine ho.snd.data S h1 fun x ca1 F1 H1 fp1 st1 S1 r1 => ?_
          unfold dGet2 at hr
          split at hr
          · rename_i kvs hkvs
            split at hr
            · rename_i key hkey
              cases hr
              rw [hkvs] at r1
              obtain ⟨a, vs, rfl, q, l, r⟩ := r1.dK'
              refine ⟨a, rfl, .inl ⟨vs, Rd.mono S1.sub q⟩, ?_⟩
              refine he.snd.data S1 h2 fun y ca2 F2 H2 fp2 st2 S2 r2 => ?_
              refine hf.snd.data S2 h3 fun z ca3 F3 H3 fp3 st3 S3 r3 => ?_
              obtain ⟨rfl, _⟩ := r2.key' hkey
              have ff := st2.ff.trans st3.ff
              refine ⟨valV vs key, .inl ⟨vs, key, Rd.mono (ff.trans S3.sub) q, rfl, rfl⟩, ?_⟩
              have K1 := OpK.of S3 ((st1.trans st2).trans st3) (Kont.keep S k)
              rcases RepKs.look key r with ⟨g1, g2⟩ | ⟨d1, v1, g1, g2, rv⟩
              · rw [g1] at K1
                rw [g2]
                exact OpK.same S3.sub K1 r3
              · rw [g1] at K1
                rw [g2]
                exact OpK.same S3.sub K1 (RepD.mono ff (st2.pre.trans st3.pre) _ _ rv)
            · cases hr
          · cases hr
/-- {k: v, ..} -/
def dispL : List (Ev × Ev) → Env → CS → Option (List (D × D) × Env × CS)
  | [], env, cs => some ([], env, cs)
  | (a, b) :: r, env, cs => match a env cs with
    | none => none
    | some (t1, env1, cs1) => match b env1 cs1 with
      | none => none
      | some (t2, env2, cs2) => match dispL r env2 cs2 with
        | none => none
        | some (ps, env3, cs3) => some ((t1.toD, t2.toD) :: ps, env3, cs3)
def keysOfD : List (D × D) → Option (List (Key × D))
  | [] => some []
  | (k, v) :: r => (match k.key?, keysOfD r with
    | some k, some ps => some ((k, v) :: ps)
    | _, _ => none)
def eDisp (l : List (Ev × Ev)) : Ev := fun env cs => match dispL l env cs with
  | none => none
  | some (ps, env1, cs1) => match keysOfD ps with
    | some ks => if ks.length ≤ 15 then some (.dct .K (shK (mergeD [] ks)), env1, cs1) else none
    | none => none
/-- pairs of expressions -/
inductive EPs (X : Cx) (pos : Pos) : List (Option Expr) → List Expr → List (TE × TE) → List (Ev × Ev) → Prop where
  | nil : EPs X pos [] [] [] []
  | cons {k v : Expr} {ks : List (Option Expr)} {vs : List Expr} {tk tv : TE} {ek ev : Ev} {trs : List (TE × TE)} {l : List (Ev × Ev)} : EE X k tk ek → EE X v tv ev → EPs X pos ks vs trs l → EPs X pos (some k :: ks) (v :: vs) ((tk, tv) :: trs) ((ek, ev) :: l)
theorem EPs.pps {pos : Pos} : ∀ {ks : List (Option Expr)} {vs : List Expr} {trs : List (TE × TE)} {l : List (Ev × Ev)}, EPs X pos ks vs trs l → PPs X pos ks vs trs
  | _, _, _, _, .nil => pps_nil
  | _, _, _, _, .cons h1 h2 h3 => pps_cons h1.pe h2.pe h3.pps
theorem EPs.snd {pos : Pos} : ∀ {ks : List (Option Expr)} {vs : List Expr} {trs : List (TE × TE)} {l : List (Ev × Ev)}, EPs X pos ks vs trs l → ∀ ca F H σ env cs fp ps env' cs' (Q : List (V × V) → Hp → Prop), Sim X.K X.mg ca F H σ env cs fp → dispL l env cs = some (ps, env', cs') →
    (∀ (vs : List (V × V)) (ca' : List Addr) (F' H' : Hp) (fp' : Fp), Step MC ca F H fp ca' F' H' fp' → Sim X.K X.mg ca' F' H' σ env' cs' fp' → Paired (fun p q => RepD X.K X.mg ca' F' p.1 q.1 ∧ RepD X.K X.mg ca' F' p.2 q.2) vs ps → Q vs H') → tPairs trs σ H Q
  | _, _, _, _, .nil, ca, F, H, σ, env, cs, fp, ps, env', cs', Q, S, h, k => by
    cases h
    exact k [] ca F H fp .refl S .nil
  | _, _, _, _, .cons h1 h2 h3, ca, F, H, σ, env, cs, fp, ps, env', cs', Q, S, h, k => by
    unfold dispL at h
    split at h
    · cases h
    · rename_i t1 env1 cs1 e1
      split at h
      · cases h
      · rename_i t2 env2 cs2 e2
        split at h
        · cases h
        · rename_i ps2 env3 cs3 e3
          cases h
          refine h1.snd.data S e1 fun x ca1 F1 H1 fp1 st1 S1 r1 => ?_
          refine h2.snd.data S1 e2 fun y ca2 F2 H2 fp2 st2 S2 r2 => ?_
          refine EPs.snd h3 ca2 F2 H2 σ env2 cs2 fp2 ps2 _ _ _ S2 e3 fun vs ca3 F3 H3 fp3 st3 S3 r3 => ?_
          exact k ((x, y) :: vs) ca3 F3 H3 fp3 ((st1.trans st2).trans st3) S3 (.cons ⟨RepD.mono (st2.ff.trans st3.ff) (st2.pre.trans st3.pre) _ _ r1, RepD.mono st3.ff st3.pre _ _ r2⟩ r3)
theorem keysOfD_at : ∀ {vs : List (V × V)} {ps : List (D × D)} {ks : List (Key × D)}, Paired (fun p q => RepD K mg ca F p.1 q.1 ∧ RepD K mg ca F p.2 q.2) vs ps → keysOfD ps = some ks →
    ∃ kvs : List (Key × V), vs = kvs.map (fun kv => (kV kv.1, kv.2)) ∧ Paired (fun (kv : Key × V) (q : Key × D) => kv.1 = q.1 ∧ RepD K mg ca F kv.2 q.2) kvs ks
  | _, _, _, .nil, e => by cases e; exact ⟨[], rfl, .nil⟩
  | _, _, _, .cons (a := a) (b := b) h t, e => by
    obtain ⟨bk, bv⟩ := b
    obtain ⟨ak, av⟩ := a
    unfold keysOfD at e
    split at e
    · rename_i k ps hk hp
      cases e
      obtain ⟨kvs, rfl, p⟩ := keysOfD_at t hp
      obtain ⟨h1, _⟩ := h.1.key' hk
      simp only at h1
      subst h1
      exact ⟨(k, av) :: kvs, rfl, .cons ⟨rfl, h.2⟩ p⟩
    · cases e
theorem ee_disp {keys : List (Option Expr)} {values : List Expr} {trs : List (TE × TE)} {l : List (Ev × Ev)} {pos : Pos} (h : EPs X pos keys values trs l) (hall : keys.all (·.isSome) = true := by rfl) (hl : keys.length = values.length := by rfl) (h0 : keys ≠ [] := by exact fun z => nomatch z) (h15 : keys.length ≤ 15 := by decide) :
    EE X (.Dict keys values pos) (tDisp trs) (eDisp l) := by
  refine ⟨pe_disp h.pps hall hl h0 h15, ?_⟩
  intro ca F H σ env cs fp t env' cs' Q S hh k
  unfold eDisp at hh
  split at hh
  · cases hh
  · rename_i ps env1 cs1 e1
    split at hh
    · rename_i ks hks
      split at hh
      · rename_i h15'
        cases hh
        intro p hp
        have g : Grow F H F (upd H p (.dK [])) := Grow.laid S.sub hp
        have rp : RepT X.K X.mg ca F (upd H p (.dK [])) (.ref p) (.dct .K []) [p] := .dK upd_same (S.sub.none hp) (Nat.zero_le _) .nil
        have hpf : ∀ r, ∀ a ∈ [p], a ∉ fp r := fun r a ha z => by
          rw [List.mem_singleton.mp ha] at z
          obtain ⟨_, o, e, _⟩ := S.own r p z
          rw [hp] at e; cases e
        refine h.snd ca F (upd H p (.dK [])) σ env cs fp ps _ _ _ (S.grow g) e1 fun vs ca1 F1 H1 fp1 st1 S1 r1 => ?_
        obtain ⟨rp1, dj1⟩ := st1.temp rp hpf
        obtain ⟨kvs, rfl, pr⟩ := keysOfD_at r1 hks
        cases rp1 with
        | @dK _ kv0 _ w0 a1 f1 l1 rr =>
          cases rr
          refine ⟨a1, kvs, rfl, by rw [paired_len pr]; exact h15', ?_⟩
          have W : RepT X.K X.mg ca1 F1 (upd H1 p (.dK (mergeK [] kvs))) (.ref p) (.dct .K (shK (mergeD [] ks))) [p] := by
            refine .dK upd_same f1 ?_ (RepTk.shs (merge_rep pr .nil))
            refine Nat.le_trans (length_mergeK kvs []) ?_
            rw [List.length_nil, Nat.zero_add, paired_len pr, sizeLine_eq]
            omega
          have st : Step MC ca F H fp ca1 F1 (upd H1 p (.dK (mergeK [] kvs))) fp1 := (g.step.trans st1).poke hp
          exact k (.ref p) ca1 F1 _ fp1 [p] st (S1.poke f1 fun r z => dj1 r p (by simp) z) W (by simp) (fun a ha => by rw [List.mem_singleton.mp ha]; exact hp) dj1
      · cases hh
    · cases hh

/-- x[k] = e, x an owned dict's name -/
def sPut (i : Nat) (e k : Ev) : Sv := fun env cs => match e env cs with
  | none => none
  | some (t, env1, cs1) => match env1[i]? with
    | some (some _) => (match k env1 cs1 with
      | some (t2, env2, cs2) => (match env2[i]?, t2.toD.key? with
        | some (some (.dct .K kvs)), some key => if kvs.length < sizeLine then some (.nx, env2.set i (some (.dct .K (putD kvs key (.sh t.toD)))), cs2) else none
        | _, _ => none)
      | none => none)
    | _ => none
theorem RepTk.any (k : Key) : ∀ {ts : List (D × T)} {vs : List (Key × V)} {w : List Addr}, RepTk K mg ca F H vs ts w → (vs.any fun kv => decide (kv.1 = k)) = ts.any fun p => isKey k p.1
  | _, _, _, .nil => rfl
  | _, _, _, .cons (k := j) h1 h2 => by rw [List.any_cons, List.any_cons, RepTk.any k h2, isKey_kD]
theorem RepTk.repl (k : Key) {u : V} {e : D} (r : RepD K mg ca F u e) : ∀ {ts : List (D × T)} {vs : List (Key × V)} {w : List Addr}, RepTk K mg ca F H vs ts w → ∃ w', RepTk K mg ca F H (vs.map fun kv => if kv.1 = k then (kv.1, u) else kv) (ts.map fun p => if isKey k p.1 = true then (p.1, T.sh e) else p) w' ∧ List.Sublist w' w
  | _, _, _, .nil => ⟨[], .nil, List.Sublist.refl _⟩
  | _, _, _, .cons (k := j) (w := w) (w' := w1) h1 h2 => by
    obtain ⟨w2, q, s⟩ := RepTk.repl k r h2
    rw [List.map_cons, List.map_cons, isKey_kD]
    by_cases e : j = k
    · rw [if_pos e, if_pos (decide_eq_true e)]
      exact ⟨w2, RepTk.cons (w := []) (.sh r) q, s.trans (List.sublist_append_right w w1)⟩
    · rw [if_neg e, if_neg (by simpa using e)]
      exact ⟨w ++ w2, .cons h1 q, s.append_left w⟩
theorem RepTk.snoc {k : Key} {u : V} {e : D} (r : RepD K mg ca F u e) : ∀ {ts : List (D × T)} {vs : List (Key × V)} {w : List Addr}, RepTk K mg ca F H vs ts w → RepTk K mg ca F H (vs ++ [(k, u)]) (ts ++ [(kD k, T.sh e)]) w
  | _, _, _, .nil => RepTk.cons (w := []) (.sh r) .nil
  | _, _, _, .cons h1 h2 => .cons h1 (RepTk.snoc r h2)
theorem RepTk.put {k : Key} {u : V} {e : D} {ts : List (D × T)} {vs : List (Key × V)} {w : List Addr} (h : RepTk K mg ca F H vs ts w) (r : RepD K mg ca F u e) : ∃ w', RepTk K mg ca F H (putK vs k u) (putD ts k (T.sh e)) w' ∧ List.Sublist w' w := by
  unfold putK putD
  rw [RepTk.any k h]
  split
  · exact RepTk.repl k r h
  · exact ⟨w, RepTk.snoc r h, List.Sublist.refl _⟩
theorem RepTk.length : ∀ {ts : List (D × T)} {vs : List (Key × V)} {w : List Addr}, RepTk K mg ca F H vs ts w → vs.length = ts.length
  | _, _, _, .nil => rfl
  | _, _, _, .cons h1 h2 => by rw [List.length_cons, List.length_cons, RepTk.length h2]
theorem es_put {i : Nat} {x : Str} {e kk : Expr} {te tk : TE} {ev ek : Ev} {px tpos pos : Pos} (hu : X.A.units + 65 < cLine) (he : EE X e te ev) (hk : EE X kk tk ek) (hN : X.N[i]? = some x := by rfl) (hv : Vis X.env.scope x := by first | exact .inl rfl | exact .inr (.inl rfl) | exact .inr (.inr rfl)) (hd : (x == ("__debug__" : Str)) = false := by decide) (hcd : (x == ("__classdict__" : Str)) = false := by decide)
    (hs : swapsWith e (some (.Subscript (.Name x px) kk tpos)) pos.line X.env = pure false := by rfl) : ES X (.Assign [.Subscript (.Name x px) kk tpos] e pos) (sDPut (tVar i) tk te) (sPut i ev ek) := by
  refine ⟨ps_dput (by omega) (pe_var hN hv hd hcd) hk.pe he.pe hs, ?_⟩
  intro ca F H σ env cs fp o env' cs' D S h k
  unfold sPut at h
  split at h
  · cases h
  · rename_i t env1 cs1 h1
    split at h
    · rename_i t0 e0
      split at h
      · rename_i t2 env2 cs2 h2
        split at h
        · rename_i kvs key e2 hkey
          split at h
          · rename_i hlen
            cases h
            refine he.snd.data S h1 fun v ca1 F1 H1 fp1 st1 S1 rv => ?_
            obtain ⟨v0, ev0, _⟩ := S1.slot i _ e0
            refine ⟨v0, ev0, ?_⟩
            refine hk.snd.data S1 h2 fun z ca2 F2 H2 fp2 st2 S2 rz => ?_
            obtain ⟨rfl, _⟩ := rz.key' hkey
            have rv2 := RepD.mono st2.ff st2.pre _ _ rv
            obtain ⟨v1, ev1, rv1⟩ := S2.slot i _ e2
            rw [ev0] at ev1
            cases ev1
            have nd2 := S2.nd (.slot i)
            generalize hwi : fp2 (.slot i) = wi at rv1 nd2
            cases rv1 with
            | @dK p vs _ w a1 f1 l1 r1 =>
              obtain ⟨w', q, sl⟩ := RepTk.put (k := key) r1 rv2
              have np : p ∉ w' := fun z => (List.nodup_cons.mp nd2).1 (sl.subset z)
              have hl1 : vs.length < sizeLine := by rw [RepTk.length r1]; exact hlen
              have W : Wr X.K X.mg ca2 F2 H2 fp2 (.slot i) p (.dK (putK vs key v)) (.ref p) (.dct .K (putD kvs key (.sh t.toD))) (p :: w') := by
                refine ⟨by rw [hwi]; exact List.mem_cons_self, .dK upd_same f1 ?_ (RepTk.keep .refl .refl _ _ _ q (fun a ha => (RepTk.own _ _ _ q a ha).1) fun a ha x e => by rw [upd_ne (fun z => np (by rw [← z]; exact ha))]; exact e), nd2.sublist (sl.cons_cons p), fun a ha => .inl ?_⟩
                · have := length_putK vs key v
                  omega
                · rw [hwi]
                  exact (sl.cons_cons p).subset ha
              have hi : i < env2.length := (List.getElem?_eq_some_iff.mp e2).1
              refine ⟨p, _, rfl, .inl ⟨vs, key, a1, rfl, hl1, rfl⟩, k σ ca2 F2 _ _ (W.step S2 (st1.trans st2).all fun a ha => .inl (by rw [hwi]; exact (sl.cons_cons p).subset ha)) (W.sim S2 (by rw [List.length_set]; exact S2.le) (fun l u e => ?_) rfl fun l u e => .inr ⟨by simp, e⟩)⟩
              by_cases hl : l = i
              · subst hl
                rw [List.getElem?_set_self hi] at e
                cases e
                exact .inl ⟨rfl, rfl, ev0⟩
              · rw [List.getElem?_set_ne (Ne.symm hl)] at e
                exact .inr ⟨by simp [Ne.symm hl], e⟩
          · cases h
        · cases h
      · cases h
    · cases h
end
end PD
end
section
set_option Elab.async false
set_option linter.all false
set_option maxRecDepth 100000
set_option autoImplicit false
namespace PD
open PySem L2 PyProof.Rows

/-! ### defs and what they do -/
abbrev FnP (K : PySem.W.Frag) (x : Str) (st : Stmt) (f : Addr) (fd : FuncData) (dv : List V := []) : Prop := FunD K x x (defArgs st) (defBody st) (defScope st) dv [] f fd
/-- the def named x does what m tells, k calls deep -/
structure Cal (P : Program) (w : World) (K : PySem.W.Frag) (mg : Str → Option Value) (base : Heap) (x : Str) (st : Stmt) (ps : List Str) (k : Nat) (m : Fn) (dv : List V := []) : Prop where
  ex : ∃ f fd, mg x = some (.ref f) ∧ FnP K x st f fd dv ∧ FnG P w K mg base CX0 k f fd ps (spM K mg ps.length m)
theorem Cal.mono {P : Program} {w : World} {K : PySem.W.Frag} {mg : Str → Option Value} {base : Heap} {x : Str} {st : Stmt} {ps : List Str} {j k : Nat} {m : Fn} {dv : List V} (c : Cal P w K mg base x st ps j m dv) (h : j ≤ k) : Cal P w K mg base x st ps k m dv := by
  obtain ⟨f, fd, h1, h2, h3⟩ := c.ex
  exact ⟨f, fd, h1, h2, h3.mono h⟩
/-- arguments by place -/
def Bd (x : Str) (st : Stmt) (ps : List Str) : Prop := ∀ (kV doc pm : Value) (an : Option Addr) (cdv ct : Value) (us : List Value), us.length = ps.length → bindArgs (PySem.W.fnOf x x (defArgs st) (defBody st) (defScope st) .none kV doc pm an cdv ct) ⟨us, []⟩ = pure (ps.zip us)
/-- n arguments by place, those named ks by name -/
def Kw (x : Str) (st : Stmt) (ps : List Str) (n : Nat) (ks : List Str) (g : List Value → List Value → List Value) : Prop := ∀ (kV doc pm : Value) (an : Option Addr) (cdv ct : Value) (us ws : List Value), us.length = n → ws.length = ks.length →
  bindArgs (PySem.W.fnOf x x (defArgs st) (defBody st) (defScope st) .none kV doc pm an cdv ct) ⟨us, ks.zip ws⟩ = pure (ps.zip (g us ws))
/-- arguments put in an order -/
def ordL {α : Type} (p : List Nat) (us zs : List α) : List α := p.filterMap fun i => (us ++ zs)[i]?
theorem Vals.getO : ∀ {vs : List V} {us : List Value}, Vals vs us → ∀ i : Nat, (vs[i]? = none ∧ us[i]? = none) ∨ ∃ v u, vs[i]? = some v ∧ us[i]? = some u ∧ RelV v u
  | _, _, .nil, i => .inl ⟨rfl, rfl⟩
  | _, _, .cons h t, 0 => .inr ⟨_, _, rfl, rfl, h⟩
  | _, _, .cons h t, i + 1 => by
    rcases Vals.getO t i with ⟨a, b⟩ | ⟨v, u, a, b, c⟩
    · exact .inl ⟨by simpa using a, by simpa using b⟩
    · exact .inr ⟨v, u, by simpa using a, by simpa using b, c⟩
theorem ord_rel {vs zs : List V} {us ws : List Value} (r : Vals vs us) (q : Vals zs ws) : ∀ p : List Nat, Vals (ordL p vs zs) (ordL p us ws)
  | [] => .nil
  | i :: p => by
    have ih := ord_rel r q p
    unfold ordL at ih ⊢
    rw [List.filterMap_cons, List.filterMap_cons]
    rcases Vals.getO (r.append q) i with ⟨a, b⟩ | ⟨v, u, a, b, c⟩
    · rw [a, b]; exact ih
    · rw [a, b]; exact .cons c ih
theorem ord_rep {K : PySem.W.Frag} {mg : Str → Option Value} {ca : List Addr} {F : Hp} {vs zs : List V} {ds es : List D} (r : RepDs K mg ca F vs ds) (q : RepDs K mg ca F zs es) : ∀ p : List Nat, RepDs K mg ca F (ordL p vs zs) (ordL p ds es)
  | [] => .nil
  | i :: p => by
    have ih := ord_rep r q p
    unfold ordL at ih ⊢
    rw [List.filterMap_cons, List.filterMap_cons]
    have a := RepDs.append r q
    cases e : (ds ++ es)[i]? with
    | none =>
      have e2 : (vs ++ zs)[i]? = none := by
        rw [List.getElem?_eq_none_iff] at e ⊢
        rw [RepDs.length a]
        exact e
      rw [e2]
      exact ih
    | some d =>
      obtain ⟨v, e2, rv⟩ := RepDs.get a e
      rw [e2]
      exact .cons rv ih
theorem ord_len {α : Type} {us zs : List α} {n m : Nat} (h1 : us.length = n) (h2 : zs.length = m) : ∀ p : List Nat, (p.all fun i => decide (i < n + m)) = true → (ordL p us zs).length = p.length
  | [], _ => rfl
  | i :: p, h => by
    simp only [List.all_cons, Bool.and_eq_true, decide_eq_true_eq] at h
    have ih := ord_len h1 h2 p h.2
    unfold ordL at ih ⊢
    have hi : i < (us ++ zs).length := by rw [List.length_append]; omega
    have e : (us ++ zs)[i]? = some ((us ++ zs)[i]'hi) := List.getElem?_eq_getElem hi
    rw [List.filterMap_cons, e, List.length_cons, List.length_cons, ih]
def eCallK (m : Fn) (p : List Nat) (a b : Av) : Ev := fun env cs => match a env cs with
  | none => none
  | some (ts, env1, cs1) => match b env1 cs1 with
    | none => none
    | some (us, env2, cs2) => match m (ordL p (T.toDs ts) (T.toDs us)) cs2 with
      | none => none
      | some (r, cs3) => some (r, keep env env2 r cs3, cs3)
section
variable {X : Cx} {K : PySem.W.Frag} {mg : Str → Option Value}
/-- keyword values -/
structure EK (X : Cx) (kws : List Keyword) (ta : TA) (av : Av) (n : Nat) : Prop where
  pk : PK X kws ta
  snd : SndA X.K X.mg ta av
  len : ∀ env cs ts env' cs', av env cs = some (ts, env', cs') → ts.length = n
theorem ek_nil : EK X [] tNil aNil 0 := ⟨pk_nil, snd_nil, fun _ _ _ _ _ h => by cases h; rfl⟩
theorem ek_cons {e : Expr} {te : TE} {ev : Ev} {kws : List Keyword} {ta : TA} {av : Av} {nm : Option Str} {kpos : Pos} {n : Nat} (he : EE X e te ev) (hr : EK X kws ta av n) : EK X (⟨nm, e, kpos⟩ :: kws) (tCons te ta) (aCons ev av) (n + 1) :=
  ⟨pk_cons he.pe hr.pk, snd_cons he.snd hr.snd, fun env cs ts env' cs' h => by
    unfold aCons at h
    split at h
    · cases h
    · split at h
      · cases h
      · rename_i h2
        cases h
        simp [hr.len _ _ _ _ _ h2]⟩
variable {x : Str} {st : Stmt} {ps : List Str} {k : Nat} {m : Fn} {p pos : Pos} {e : Expr} {es : List Expr} {ta tk : TA} {av kv : Av}
theorem ee_cal (c : Cal X.prog X.w X.K X.mg X.base x st ps k m) (hb : Bd x st ps) (hr : RoomG k X.A) (ha : EA X (e :: es) ta av) (hn : (e :: es).length = ps.length := by rfl) (hx : Passes CX0 X E0 := by exact pass0) (hg : Gl X x := by rfl) (hdb : (x == ("__debug__" : Str)) = false := by decide)
    (he : starEach (e :: es) X.env = (false, eval e X.env) :: starEach es X.env := by rfl) (hpl : (backTo pos (starEach es X.env)).any (·.1) = false := by rfl) : EE X (.Call (.Name x p) (e :: es) [] pos) (tCall (spM X.K X.mg ps.length m) [] E0 ta) (eCall m [] av) := by
  obtain ⟨f, fd, hm, F, G⟩ := c.ex
  exact ee_call G hr hm F.kp (F.bindsN hb) .nil (fun _ _ => .nil) ha (by rw [hn]; rfl) hx hg hdb he hpl
theorem ee_cal0 (c : Cal X.prog X.w X.K X.mg X.base x st ps k m) (hb : Bd x st ps) (hr : RoomG k X.A) (hn : 0 = ps.length := by rfl) (hx : Passes CX0 X E0 := by exact pass0) (hg : Gl X x := by rfl) (hdb : (x == ("__debug__" : Str)) = false := by decide) : EE X (.Call (.Name x p) [] [] pos) (tCall (spM X.K X.mg ps.length m) [] E0 tNil) (eCall m [] aNil) := by
  obtain ⟨f, fd, hm, F, G⟩ := c.ex
  exact ee_call0 G hr hm F.kp (F.bindsN hb) .nil (fun _ _ => .nil) hn hx hg hdb
theorem FunD.kbN {f : Addr} {fd : FuncData} {n : Nat} {ks : List Str} {q : List Nat} (F : FnP K x st f fd) (h : Kw x st ps n ks (ordL q)) : KBn K fd ps n ks (ordL q) (ordL q) := by
  obtain ⟨oc, od, dV, kV, doc, pm, an, cdv, ct, osl, rfl, lk, hcd, hD, hK⟩ := F.ex
  rcases hD with ⟨_, rfl⟩ | ⟨e, _⟩
  · exact ⟨fun s us ws X l1 l2 => .of_eq (h kV doc pm an cdv ct us ws l1 l2), fun r1 r2 => ord_rel r1 r2 q⟩
  · exact absurd rfl e
theorem snd_callK {n ml : Nat} {q : List Nat} (hq : (q.all fun i => decide (i < n + ml)) = true) (ha : SndA K mg ta av) (hn : ∀ env cs ts env' cs', av env cs = some (ts, env', cs') → ts.length = n) (hk : SndA K mg tk kv) (hm : ∀ env cs ts env' cs', kv env cs = some (ts, env', cs') → ts.length = ml) :
    SndE K mg (tCallN n ml (spM K mg q.length m) (ordL q) E0 ta tk) (eCallK m q av kv) := by
  intro ca F H σ env cs fp t env' cs' Q S h kk
  unfold eCallK at h
  split at h
  · cases h
  · rename_i ts env1 cs1 h1
    split at h
    · cases h
    · rename_i us env2 cs2 h2
      split at h
      · cases h
      · rename_i r cs3 h3
        cases h
        refine ha.data S h1 fun vs ca1 F1 H1 fp1 st1 S1 r1 => ?_
        refine hk.data S1 h2 fun zs ca2 F2 H2 fp2 st2 S2 r2 => ?_
        have l1 : (T.toDs ts).length = n := by rw [toDs_len]; exact hn _ _ _ _ _ h1
        have l2 : (T.toDs us).length = ml := by rw [toDs_len]; exact hm _ _ _ _ _ h2
        have rr := ord_rep (RepDs.mono st2.ff st2.pre _ _ r1) r2 q
        refine ⟨by rw [RepDs.length r1, l1], by rw [RepDs.length r2, l2], ?_⟩
        refine ⟨by rw [RepDs.length rr]; exact ord_len l1 l2 q hq, ca2, F2, cs2, fpC fp2, _, _, _, S2.cells, fun _ => rfl, rr, h3, fun v ca' F' H' fp' w st S' r nd fr dj => ?_⟩
        have st12 := st1.trans st2
        obtain ⟨st3, S3⟩ := S2.call st S'
        refine Kont.keep S kk v ca' F' H' _ w (st12.trans st3) S3 r nd (fun a ha => st12.noneOf (fr a ha)) fun r a ha z => ?_
        cases r with
        | slot i =>
          obtain ⟨_, o, e, _⟩ := S2.own _ a z
          rw [fr a ha] at e; cases e
        | cell i => exact dj _ a ha z
theorem ee_calK {ks : List Str} {kws : List Keyword} {q : List Nat} {n : Nat} (c : Cal X.prog X.w X.K X.mg X.base x st ps k m) (hw : Kw x st ps n ks (ordL q)) (hr : RoomG k X.A) (ha : EA X (e :: es) ta av) (hk : EK X kws tk kv ks.length) (hn : (e :: es).length = n := by rfl) (hq : (q.all fun i => decide (i < n + ks.length)) = true := by rfl) (hql : q.length = ps.length := by rfl) (hx : Passes CX0 X E0 := by exact pass0) (hg : Gl X x := by rfl) (hdb : (x == ("__debug__" : Str)) = false := by decide)
    (hall : (backToKw pos (keywordEach kws X.env)).all (·.1.isSome) = true := by rfl) (hks : (backToKw pos (keywordEach kws X.env)).filterMap (·.1) = ks := by rfl) (he : starEach (e :: es) X.env = (false, eval e X.env) :: starEach es X.env := by rfl)
    (hpl : ((backTo pos (starEach (e :: es) X.env)).any (·.1) || (backToKw pos (keywordEach kws X.env)).any (·.1.isNone)) = false := by rfl) : EE X (.Call (.Name x p) (e :: es) kws pos) (tCallN n ks.length (spM X.K X.mg q.length m) (ordL q) E0 ta tk) (eCallK m q av kv) := by
  obtain ⟨f, fd, hm, F, G⟩ := c.ex
  rw [← hql] at G
  exact ⟨peGN G hr hg hm F.kp (FunD.kbN F hw) hx ha.pa hk.pk hall hks hdb he hpl, snd_callK hq ha.snd (fun env cs ts env' cs' h => by rw [ha.len _ _ _ _ _ h]; exact hn) hk.snd hk.len⟩
theorem ee_calK0 {ks : List Str} {kws : List Keyword} {q : List Nat} (c : Cal X.prog X.w X.K X.mg X.base x st ps k m) (hw : Kw x st ps 0 ks (ordL q)) (hr : RoomG k X.A) (hk : EK X kws tk kv ks.length) (hq : (q.all fun i => decide (i < 0 + ks.length)) = true := by rfl) (hql : q.length = ps.length := by rfl) (hx : Passes CX0 X E0 := by exact pass0) (hg : Gl X x := by rfl) (hdb : (x == ("__debug__" : Str)) = false := by decide)
    (hall : (backToKw pos (keywordEach kws X.env)).all (·.1.isSome) = true := by rfl) (hks : (backToKw pos (keywordEach kws X.env)).filterMap (·.1) = ks := by rfl)
    (hpl : ((backTo pos (starEach [] X.env)).any (·.1) || (backToKw pos (keywordEach kws X.env)).any (·.1.isNone)) = false := by rfl) : EE X (.Call (.Name x p) [] kws pos) (tCallN 0 ks.length (spM X.K X.mg q.length m) (ordL q) E0 tNil tk) (eCallK m q aNil kv) := by
  obtain ⟨f, fd, hm, F, G⟩ := c.ex
  rw [← hql] at G
  exact ⟨peGN0 G hr hg hm F.kp (FunD.kbN F hw) hx hk.pk hall hks hdb hpl, snd_callK hq ea_nil.snd (fun env cs ts env' cs' h => by cases h; rfl) hk.snd hk.len⟩

/-! ### a call of a name that holds a def -/
def eCallV (tb : Str → Option Fn) (i : Nat) (a : Av) : Ev := fun env cs => match env[i]? with
  | some (some (.sh (.fn x))) => (match tb x with
    | some m => eCall m [] a env cs
    | none => none)
  | _ => none
def tCallX (P : Program) (w : World) (K : PySem.W.Frag) (mg : Str → Option Value) (base : Heap) (k n i : Nat) (t : TA) : TE := fun σ H Q => ∃ x st ps m f, Cal P w K mg base x st ps k m ∧ Bd x st ps ∧ ps.length = n ∧ mg x = some (.ref f) ∧ σ[i]? = some (some (.ref f)) ∧ tCall (spM K mg n m) [] E0 t σ H Q
theorem ee_calV {tb : Str → Option Fn} {i n : Nat} (hc : ∀ y m, tb y = some m → ∃ st ps, Cal X.prog X.w X.K X.mg X.base y st ps k m ∧ Bd y st ps ∧ ps.length = n) (hr : RoomG k X.A) (ha : EA X (e :: es) ta av) (hn : (e :: es).length = n := by rfl) (hN : X.N[i]? = some x := by rfl) (hv : Vis X.env.scope x := by first | exact .inl rfl | exact .inr (.inl rfl) | exact .inr (.inr rfl)) (hx : Passes CX0 X E0 := by exact pass0)
    (hdb : (x == ("__debug__" : Str)) = false := by decide) (hcd : (x == ("__classdict__" : Str)) = false := by decide) (he : starEach (e :: es) X.env = (false, eval e X.env) :: starEach es X.env := by rfl) (hpl : (backTo pos (starEach es X.env)).any (·.1) = false := by rfl) :
    EE X (.Call (.Name x p) (e :: es) [] pos) (tCallX X.prog X.w X.K X.mg X.base k n i ta) (eCallV tb i av) := by
  refine ⟨⟨fun pins s σ H Q I h => ?_⟩, ?_⟩
  · obtain ⟨y, st, ps, m, f, c, hb, hl, hf, hs, q⟩ := h
    obtain ⟨f', fd, hm, F, G⟩ := c.ex
    rw [hf] at hm
    cases hm
    subst hl
    exact (peGL G hr hN hv F.kp (F.bindsN hb) .nil hx ha.pa hdb hcd he hpl).run pins s σ H Q I ⟨hs, q⟩
  · intro ca F H σ env cs fp t env' cs' Q S h kk
    unfold eCallV at h
    split at h
    · rename_i y e0
      split at h
      · rename_i m hm
        obtain ⟨st, ps, c, hb, hl⟩ := hc y m hm
        obtain ⟨v, ev, rv⟩ := S.slot i _ e0
        obtain ⟨f, rfl, hf⟩ := (RepT.shD rv).fn'
        exact ⟨y, st, ps, m, f, c, hb, hl, hf, ev, snd_call ha.snd (fun env cs ts env' cs' h => by rw [ha.len _ _ _ _ _ h]; exact hn) (fun _ _ => .nil) ca F H σ env cs fp t env' cs' Q S h kk⟩
      · cases h
    · cases h
end
end PD
end
section
set_option Elab.async false
set_option linter.all false
set_option maxRecDepth 100000
set_option autoImplicit false
namespace PD
open PySem L2 PyProof.Rows

/-! ### a def's body -/
def env0 (n : Nat) (ds : List D) : Env := ds.map (fun d => some (.sh d)) ++ List.replicate (n - ds.length) none
def runBody (n : Nat) (sv : Sv) : Fn := fun ds cs => match sv (env0 n ds) cs with
  | some (.rt t, _, cs1) => some (t, cs1)
  | some (.nx, _, cs1) => some (.sh .non, cs1)
  | _ => none
section
variable {K : PySem.W.Frag} {mg : Str → Option Value} {ca ca' : List Addr} {F F' H H' : Hp} {v : V} {d : D} {σ σ' : St} {env env' : Env} {cs cs' : CS} {fp fp' : Fp}
theorem RepDs.getE : ∀ {ds : List D} {vs : List V} {i : Nat} {t : T}, RepDs K mg ca F vs ds → (ds.map fun d => some (T.sh d))[i]? = some (some t) → ∃ v, (vs.map some)[i]? = some (some v) ∧ RepT K mg ca F H v t [] := fun {ds vs i t} r e => by
  rw [List.getElem?_map] at e
  obtain ⟨d, hd, q⟩ := Option.map_eq_some_iff.mp e
  cases q
  obtain ⟨v, hv, rv⟩ := RepDs.get r hd
  exact ⟨v, by rw [List.getElem?_map, hv]; rfl, .sh rv⟩
theorem Sim.begin {N : List Str} {vs : List V} {ds : List D} (S : Sim K mg ca F H [] [] cs fp) (h0 : ∀ i, fp (.slot i) = []) (r : RepDs K mg ca F vs ds) : Sim K mg ca F H (start N vs) (env0 N.length ds) cs fp where
  sub := S.sub
  le := by unfold env0 L2.start; rw [List.length_append, List.length_append, List.length_map, List.length_map, List.length_replicate, List.length_replicate, RepDs.length r]; exact Nat.le_refl _
  slot := fun i t e => by
    unfold env0 at e
    unfold L2.start
    by_cases hi : i < ds.length
    · rw [List.getElem?_append_left (by rw [List.length_map]; exact hi)] at e
      obtain ⟨v, ev, rv⟩ := RepDs.getE (H := H) r e
      refine ⟨v, ?_, by rw [h0]; exact rv⟩
      rw [List.getElem?_append_left (by rw [List.length_map, RepDs.length r]; exact hi)]
      exact ev
    · rw [List.getElem?_append_right (by rw [List.length_map]; omega)] at e
      rw [List.getElem?_replicate] at e
      split at e <;> cases e
  len := S.len
  cell := S.cell
  nd := S.nd
  dj := S.dj
  own := S.own
theorem Sim.leave (h0 : ∀ i, fp (.slot i) = []) (st : Step MA ca F H fp ca' F' H' fp') (S' : Sim K mg ca' F' H' σ' env' cs' fp') : Step MC ca F H fp ca' F' H' (fpC fp') ∧ Sim K mg ca' F' H' [] [] cs' (fpC fp') := by
  refine ⟨⟨st.pre, st.ff, st.nf, fun a o e hm => st.ext a o e fun r _ => ?_, fun r a ha => ?_, st.alive⟩, S'.cells⟩
  · cases r with
    | slot i => rw [h0]; exact fun z => nomatch z
    | cell i => exact hm (.cell i) trivial
  · cases r with
    | slot i => cases ha
    | cell i => exact st.sub (.cell i) a ha
theorem run_body {sv : Sv} {t : TS} {n : Nat} {N : List Str} {vs : List V} {Q : VK} {E : XK} (hs : SndS K mg t sv) (h : spM K mg n (runBody N.length sv) vs H Q E) : t { nx := fun _ H' => Q .non H', rt := Q } (start N vs) H := by
  obtain ⟨hl, ca, F, cs, fp, ds, t0, cs', S, h0, r, hm, k⟩ := h
  unfold runBody at hm
  have S1 := S.begin (N := N) h0 r
  split at hm
  · rename_i e0
    cases hm
    refine hs ca F H _ _ cs fp _ _ _ _ S1 e0 ?_
    intro v σ' ca' F' H' fp' w st S' rv nd fr dj
    obtain ⟨st2, S2⟩ := Sim.leave h0 st S'
    refine k v ca' F' H' (fpC fp') w st2 S2 rv nd (fun a ha => ?_) fun r a ha z => ?_
    · rcases fr a ha with z | ⟨i, z⟩
      · exact z
      · rw [h0] at z; cases z
    · cases r with
      | slot i => cases z
      | cell i => exact dj (.cell i) a ha z
  · rename_i e0
    cases hm
    refine hs ca F H _ _ cs fp _ _ _ _ S1 e0 ?_
    intro σ' ca' F' H' fp' st S'
    obtain ⟨st2, S2⟩ := Sim.leave h0 st S'
    exact k .non ca' F' H' (fpC fp') [] st2 S2 (.sh .non) List.nodup_nil (fun _ z => nomatch z) fun _ _ z => nomatch z
  · cases hm
end
/-- THE RULE for a def: its body does what sv tells -/
theorem fn_ok {P : Program} {w : World} {K : PySem.W.Frag} {mg : Str → Option Value} {base : Heap} {x : Str} {st : Stmt} {f : Addr} {fd : FuncData} {N ps : List Str} {k : Nat} {sv : Sv} {dv : List V} (F : FnP K x st f fd dv) (sc : FnScope N ps (defScope st))
    (hb : ∀ (cdv : Value) (A : Around) (outer : List PySem.Env) (s : Shared) (H : Hp) (E : XK), RoomG k (A.deeper (envOfC x (defScope st) s.heap.objs.size f cdv)) → ∃ t, ESs (cxOf CX0 P w K mg base N x (defScope st) f cdv A outer s H E).nox (defBody st) t sv) :
    FnG P w K mg base CX0 (k + 1) f fd ps (spM K mg ps.length (runBody N.length sv)) := by
  obtain ⟨oc, od, dV, kV, doc, pm, an, cdv, ct, osl, rfl, lk, hcd, _, _⟩ := F.ex
  exact fnG_of lk hcd sc (fun vs H Q E h => h.1) fun A outer s H vs Q E hr h => let ⟨t, ht⟩ := hb cdv A outer s H E hr; ⟨t, PSs.nox ht.ps, run_body ht.snd h⟩
theorem fn_none {P : Program} {w : World} {K : PySem.W.Frag} {mg : Str → Option Value} {base : Heap} {f : Addr} {fd : FuncData} {ps : List Str} {k : Nat} : FnG P w K mg base CX0 k f fd ps (spM K mg ps.length fun _ _ => none) :=
  ⟨fun vs H Q E h => h.1, fun A outer s H args us vs Q E hr e0 hb r h => by obtain ⟨_, _, _, _, _, _, _, _, _, _, _, h, _⟩ := h; cases h⟩

section
variable {X : Cx} {K : PySem.W.Frag} {mg : Str → Option Value} {ca ca' : List Addr} {F F' H H' : Hp} {v : V} {d : D} {σ σ' : St} {env env' : Env} {cs cs' : CS} {fp fp' : Fp}
/-! ### x[i][j].append(e) -/
def tPth (K : PySem.W.Frag) (t : TE) : List Int → TE
  | [] => t
  | j :: p => tPth K (tOp (rIxAll K) t (tC (.int j))) p
def appAt : List Int → T → D → Option T
  | [], .lst ts, d => if ts.length < sizeLine then some (.lst (ts ++ [.sh d])) else none
  | j :: p, .lst ts, d => (match ixN ts.length j with
    | some n => (match ts[n]? with
      | some u => (match appAt p u d with
        | some u' => some (.lst (ts.set n u'))
        | none => none)
      | none => none)
    | none => none)
  | _, _, _ => none
/-- what stands at the path is a list that is owned -/
def lstAt : List Int → T → Bool
  | [], .lst _ => true
  | j :: p, .lst ts => (match ixN ts.length j with
    | some n => (match ts[n]? with
      | some u => lstAt p u
      | none => false)
    | none => false)
  | _, _ => false
theorem RepTs.pick : ∀ {vs : List V} {ts : List T} {w : List Addr} {n : Nat} {u : T}, RepTs K mg ca F H vs ts w → ts[n]? = some u → w.Nodup → ∃ v w1 , vs[n]? = some v ∧ RepT K mg ca F H v u w1 ∧ w1.Nodup ∧ (∀ a ∈ w1, a ∈ w) ∧
    ∀ (p : Addr) (o : HO) (u' : T), p ∈ w1 → RepT K mg ca F (upd H p o) v u' w1 → RepTs K mg ca F (upd H p o) vs (ts.set n u') w
  | _, _, _, n, u, .nil, e, _ => by simp at e
  | _, _, _, 0, u, .cons (v := v) (w := w) (w' := w2) h1 h2, e, nd => by
    simp at e
    subst e
    obtain ⟨n1, n2, n3⟩ := List.nodup_append.mp nd
    refine ⟨v, w, rfl, h1, n1, fun a ha => List.mem_append_left _ ha, fun p o u' hp r => ?_⟩
    exact .cons r (RepTs.keep .refl .refl _ _ _ h2 (fun a ha => (RepTs.own _ _ _ h2 a ha).1) fun a ha x e => by rw [upd_ne (fun z => n3 p hp a ha z.symm)]; exact e)
  | _, _, _, n + 1, u, .cons (v := v) (w := w) (w' := w2) h1 h2, e, nd => by
    obtain ⟨n1, n2, n3⟩ := List.nodup_append.mp nd
    obtain ⟨y, w1, e1, r1, d1, s1, q1⟩ := RepTs.pick h2 (by simpa using e) n2
    refine ⟨y, w1, by simpa using e1, r1, d1, fun a ha => List.mem_append_right _ (s1 a ha), fun p o u' hp r => ?_⟩
    exact .cons (RepT.keep .refl .refl _ _ _ h1 (fun a ha => (RepT.own _ _ _ h1 a ha).1) fun a ha x e => by rw [upd_ne (fun z => n3 a ha p (s1 p hp) z)]; exact e) (q1 p o u' hp r)
/-- the way to the list, and the list grown -/
theorem path_at (hs : Sub F H) : ∀ (p : List Int) (t : TE) (v : V) (u : T) (w : List Addr), RepT K mg ca F H v u w → w.Nodup → lstAt p u = true → (∀ Q : VK, Q v H → t σ H Q) →
    ∃ a vs, a ∈ w ∧ H a = some (.lst vs) ∧ (∀ Q : VK, Q (.ref a) H → tPth K t p σ H Q) ∧ ∀ (y : V) (d : D) (u' : T), RepD K mg ca F y d → appAt p u d = some u' → vs.length < sizeLine ∧ RepT K mg ca F (upd H a (.lst (vs ++ [y]))) v u' w
  | [], t, v, u, w, r, nd, hl, ht => by
    cases u with
    | lst ts =>
      cases r with
      | @lst a vs _ w1 e f l r =>
        refine ⟨a, vs, List.mem_cons_self, e, ht, fun y d u' ry hu => ?_⟩
        unfold appAt at hu
        split at hu
        · rename_i hz
          cases hu
          have hz' : vs.length < sizeLine := by rw [RepTs.length r]; exact hz
          refine ⟨hz', ?_⟩
          have np : a ∉ w1 := (List.nodup_cons.mp nd).1
          have q : RepTs K mg ca F (upd H a (.lst (vs ++ [y]))) vs ts w1 := RepTs.keep .refl .refl _ _ _ r (fun b hb => (RepTs.own _ _ _ r b hb).1) fun b hb x e => by rw [upd_ne (fun z => np (by rw [← z]; exact hb))]; exact e
          have q2 := RepTs.snoc q (RepT.sh (H := upd H a (.lst (vs ++ [y]))) ry)
          rw [List.append_nil] at q2
          exact .lst upd_same f (by rw [List.length_append, List.length_singleton]; exact hz') q2
        · cases hu
    | _ => cases hl
  | j :: p, t, v, u, w, r, nd, hl, ht => by
    cases u with
    | lst ts =>
      cases r with
      | @lst a vs _ w1 e f l r =>
        obtain ⟨np, nd1⟩ := List.nodup_cons.mp nd
        unfold lstAt at hl
        split at hl
        · rename_i n hn
          split at hl
          · rename_i u1 hu1
            obtain ⟨v1, w2, ev, rv, ndv, sv, put⟩ := RepTs.pick r hu1 nd1
            have hat : atI vs j = some v1 := by
              unfold atI
              rw [RepTs.length r, hn]
              exact ev
            obtain ⟨b, us, hb, eb, tb, gr⟩ := path_at hs p (tOp (rIxAll K) t (tC (.int j))) v1 u1 w2 rv ndv hl fun Q q => ht _ (.inl (.inl ⟨a, vs, j, v1, rfl, rfl, .inl (.inl e), hat, q⟩))
            refine ⟨b, us, List.mem_cons_of_mem _ (sv b hb), eb, tb, fun y d u' ry hu => ?_⟩
            unfold appAt at hu
            rw [hn] at hu
            simp only at hu
            rw [hu1] at hu
            simp only at hu
            split at hu
            · rename_i u2 hu2
              cases hu
              obtain ⟨g1, g2⟩ := gr y d u2 ry hu2
              refine ⟨g1, .lst ?_ f l (put b _ u2 hb g2)⟩
              rw [upd_ne]
              · exact e
              · exact fun z => np (by rw [z]; exact sv b hb)
            · cases hu
          · cases hl
        · cases hl
    | _ => cases hl
def sAppP (i : Nat) (p : List Int) (d : D) : Sv := fun env cs => match env[i]? with
  | some (some t0) => if lstAt p t0 = true then (match appAt p t0 d with
      | some t2 => some (.nx, env.set i (some t2), cs)
      | none => none) else none
  | _ => none
theorem snd_appP {i : Nat} {p : List Int} {v : V} {d : D} (hd : ∀ ca F, RepD K mg ca F v d) : SndS K mg (tDrop (tBM K "list" rAppend (tPth K (tVar i) p) (tCons (tC v) tNil))) (sAppP i p d) := by
  intro ca F H σ env cs fp o env' cs' D S h k
  unfold sAppP at h
  split at h
  · rename_i t0 e0
    split at h
    · rename_i hl
      split at h
      · rename_i t2 h2
        cases h
        obtain ⟨v0, ev0, rv0⟩ := S.slot i _ e0
        have nd := S.nd (.slot i)
        generalize hwi : fp (.slot i) = wi at rv0 nd
        obtain ⟨a, vs, ha, ea, ta, gr⟩ := path_at S.sub p (tVar i) v0 t0 wi rv0 nd hl fun Q q => ⟨v0, ev0, q⟩
        obtain ⟨g1, g2⟩ := gr v d t2 (hd ca F) h2
        have W : Wr K mg ca F H fp (.slot i) a (.lst (vs ++ [v])) v0 t2 wi := ⟨by rw [hwi]; exact ha, g2, nd, fun b hb => .inl (by rw [hwi]; exact hb)⟩
        have hi : i < env.length := (List.getElem?_eq_some_iff.mp e0).1
        have fin := W.sim S (env2 := env.set i (some t2)) (cs2 := cs) (by rw [List.length_set]; exact S.le) (fun j u e => by
          by_cases hj : j = i
          · subst hj
            rw [List.getElem?_set_self hi] at e
            cases e
            exact .inl ⟨rfl, rfl, ev0⟩
          · rw [List.getElem?_set_ne (Ne.symm hj)] at e
            exact .inr ⟨by simp [Ne.symm hj], e⟩) rfl fun j u e => .inr ⟨by simp, e⟩
        refine ta _ ⟨.inl ⟨rfl, vs, SqL.of ea⟩, ?_⟩
        exact ⟨a, vs, v, rfl, rfl, ea, g1, k σ ca F _ _ (W.step S (Step.refl (M := MA)) fun b hb => .inl (by rw [hwi]; exact hb)) fin⟩
      · cases h
    · cases h
  · cases h
theorem es_appP {i : Nat} {p : List Int} {x : Str} {o : Expr} {apos cpos pos q : Pos} (ho : PE X o (tPth X.K (tVar i) p)) (hl : x.length ≤ sizeLine := by decide +kernel) (hok : PyData.strOk x = true := by decide +kernel)
    (hp : PE X (.Call (.Attribute o "append" apos) [.Constant (.str x) 0 q] [] cpos) (tBM X.K "list" rAppend (tPth X.K (tVar i) p) (tCons (tC (.str x)) tNil))) (hs : swapsWith (.Call (.Attribute o "append" apos) [.Constant (.str x) 0 q] [] cpos) none pos.line X.env = pure false := by rfl) :
    ES X (.Expr (.Call (.Attribute o "append" apos) [.Constant (.str x) 0 q] [] cpos) pos) (tDrop (tBM X.K "list" rAppend (tPth X.K (tVar i) p) (tCons (tC (.str x)) tNil))) (sAppP i p (.str x)) := ⟨ps_expr hp hs, snd_appP fun _ _ => .str x hl hok⟩

/-! ### what a return hands on -/
def KontR (K : PySem.W.Frag) (mg : Str → Option Value) (ca : List Addr) (F H : Hp) (fp : Fp) (σ : St) (t : T) (env' : Env) (cs' : CS) (Q : VK) : Prop :=
  ∀ (v : V) (ca' : List Addr) (F' H' : Hp) (fp' : Fp) (w : List Addr), Step MC ca F H fp ca' F' H' fp' → Sim K mg ca' F' H' σ env' cs' fp' → RepT K mg ca' F' H' v t w → w.Nodup →
    (∀ a ∈ w, H a = none ∨ ∃ i, a ∈ fp (.slot i)) → (∀ r, ∀ a ∈ w, a ∉ fp' r) → Q v H'
def SndR (K : PySem.W.Frag) (mg : Str → Option Value) (te : TE) (ev : Ev) : Prop :=
  ∀ ca F H σ env cs fp t env' cs' Q, Sim K mg ca F H σ env cs fp → ev env cs = some (t, env', cs') → KontR K mg ca F H fp σ t env' cs' Q → te σ H Q
def SndRA (K : PySem.W.Frag) (mg : Str → Option Value) (ta : TA) (av : Av) : Prop :=
  ∀ ca F H σ env cs fp ts env' cs' (Q : List V → Hp → Prop), Sim K mg ca F H σ env cs fp → av env cs = some (ts, env', cs') →
    (∀ (vs : List V) (ca' : List Addr) (F' H' : Hp) (fp' : Fp) (w : List Addr), Step MC ca F H fp ca' F' H' fp' → Sim K mg ca' F' H' σ env' cs' fp' → RepTs K mg ca' F' H' vs ts w → w.Nodup →
    (∀ a ∈ w, H a = none ∨ ∃ i, a ∈ fp (.slot i)) → (∀ r, ∀ a ∈ w, a ∉ fp' r) → Q vs H') → ta σ H Q
structure ER (X : Cx) (e : Expr) (te : TE) (ev : Ev) : Prop where
  pe : PE X e te
  snd : SndR X.K X.mg te ev
structure ERA (X : Cx) (es : List Expr) (ta : TA) (av : Av) : Prop where
  pa : PA X es ta
  snd : SndRA X.K X.mg ta av
  len : ∀ env cs ts env' cs', av env cs = some (ts, env', cs') → ts.length = es.length
theorem EE.er {e : Expr} {te : TE} {ev : Ev} (h : EE X e te ev) : ER X e te ev := ⟨h.pe, fun ca F H σ env cs fp t env' cs' Q S hh k => h.snd ca F H σ env cs fp t env' cs' Q S hh fun v ca' F' H' fp' w st S' r nd fr dj => k v ca' F' H' fp' w st S' r nd (fun a ha => .inl (fr a ha)) dj⟩
theorem KontR.step {t : T} {Q : VK} (k : KontR K mg ca F H fp σ t env cs Q) (st : Step MC ca F H fp ca' F' H' fp') : KontR K mg ca' F' H' fp' σ t env cs Q := fun v ca2 F2 H2 fp2 w st2 S2 r nd fr dj => k v ca2 F2 H2 fp2 w (st.trans st2) S2 r nd (fun a ha => by
  rcases fr a ha with z | ⟨i, z⟩
  · exact .inl (st.noneOf z)
  · rcases st.sub _ a z with q | q
    · exact .inr ⟨i, q⟩
    · exact .inl q) dj
theorem er_mov {i : Nat} {x : Str} {pos : Pos} (hN : X.N[i]? = some x := by rfl) (hv : Vis X.env.scope x := by first | exact .inl rfl | exact .inr (.inl rfl) | exact .inr (.inr rfl)) (hd : (x == ("__debug__" : Str)) = false := by decide) (hcd : (x == ("__classdict__" : Str)) = false := by decide) : ER X (.Name x pos) (tVar i) (eMov i) := by
  refine ⟨pe_var hN hv hd hcd, ?_⟩
  intro ca F H σ env cs fp t env' cs' Q S h k
  unfold eMov at h
  split at h
  · rename_i d e
    cases h
    obtain ⟨v, e1, r⟩ := S.slot i _ e
    exact ⟨v, e1, k v ca F H fp [] .refl S (.sh r.shD) List.nodup_nil (fun _ z => nomatch z) fun _ _ z => nomatch z⟩
  · rename_i t0 _ e
    cases h
    obtain ⟨v, e1, r⟩ := S.slot i _ e
    refine ⟨v, e1, k v ca F H (fpSet fp i []) (fp (.slot i)) (Step.less .refl fun r a ha => ?_) (S.drop i) r (S.nd _) (fun a ha => .inr ⟨i, ha⟩) fun r a ha z => ?_⟩
    · rcases fpSet_sub ha with z | z
      · exact z
      · cases z
    · unfold fpSet at z
      split at z
      · cases z
      · rename_i hr
        exact S.dj _ _ (Ne.symm hr) a ha z
  · cases h
theorem era_nil : ERA X [] tNil aNil := ⟨pa_nil, fun ca F H σ env cs fp ts env' cs' Q S h k => by
  cases h
  exact k [] ca F H fp [] .refl S .nil List.nodup_nil (fun _ z => nomatch z) (fun _ _ z => nomatch z), fun _ _ _ _ _ h => by cases h; rfl⟩
theorem era_cons {e : Expr} {es : List Expr} {te : TE} {ev : Ev} {tas : TA} {av : Av} (ha : ER X e te ev) (hr : ERA X es tas av) (hs : starEach (e :: es) X.env = (false, eval e X.env) :: starEach es X.env := by rfl) : ERA X (e :: es) (tCons te tas) (aCons ev av) := by
  refine ⟨pa_cons ha.pe hr.pa hs, ?_, fun env cs ts env' cs' h => ?_⟩
  · intro ca F H σ env cs fp ts env' cs' Q S h k
    unfold aCons at h
    split at h
    · cases h
    · rename_i t env1 cs1 h1
      split at h
      · cases h
      · rename_i ts2 env2 cs2 h2
        cases h
        refine ha.snd ca F H σ env cs fp _ _ _ _ S h1 fun v ca1 F1 H1 fp1 w st1 S1 r1 nd1 fr1 dj1 => ?_
        refine hr.snd ca1 F1 H1 σ env1 cs1 fp1 _ _ _ _ S1 h2 fun vs ca2 F2 H2 fp2 w2 st2 S2 r2 nd2 fr2 dj2 => ?_
        obtain ⟨r1', dj1'⟩ := st2.temp r1 dj1
        refine k (v :: vs) ca2 F2 H2 fp2 (w ++ w2) (st1.trans st2) S2 (.cons r1' r2) ?_ (fun a ha => ?_) fun r a ha => ?_
        · refine List.nodup_append.mpr ⟨nd1, nd2, fun a ha b hb e => ?_⟩
          subst e
          obtain ⟨_, o, q⟩ := RepT.own _ _ _ r1 a ha
          rcases fr2 a hb with z | ⟨i, z⟩
          · rw [z] at q; cases q
          · exact dj1 _ a ha z
        · rcases List.mem_append.mp ha with ha | ha
          · exact fr1 a ha
          · rcases fr2 a ha with z | ⟨i, z⟩
            · exact .inl (st1.noneOf z)
            · rcases st1.sub _ a z with q | q
              · exact .inr ⟨i, q⟩
              · exact .inl q
        · rcases List.mem_append.mp ha with ha | ha
          · exact dj1' r a ha
          · exact dj2 r a ha
  · unfold aCons at h
    split at h
    · cases h
    · split at h
      · cases h
      · rename_i h2
        cases h
        simp [hr.len _ _ _ _ _ h2]
theorem er_lst {es : List Expr} {tas : TA} {av : Av} {pos : Pos} (h : ERA X es tas av) (hl : es.length ≤ sizeLine := by decide) : ER X (.List es pos) (tLst tas) (eLst av) := by
  refine ⟨pe_lst h.pa, ?_⟩
  intro ca F H σ env cs fp t env' cs' Q S hh k
  unfold eLst at hh
  split at hh
  · cases hh
  · rename_i ts env1 cs1 h1
    · cases hh
      refine h.snd ca F H σ env cs fp _ _ _ _ S h1 fun vs ca1 F1 H1 fp1 w st1 S1 r1 nd fr dj => ?_
      have hz : vs.length ≤ sizeLine := by rw [RepTs.length r1, h.len _ _ _ _ _ h1]; exact hl
      refine ⟨hz, fun p hp => ?_⟩
      have g : Grow F1 H1 F1 (upd H1 p (.lst vs)) := Grow.laid S1.sub hp
      have hpw : p ∉ w := fun z => by obtain ⟨_, o, q⟩ := RepTs.own _ _ _ r1 p z; rw [hp] at q; cases q
      refine k (.ref p) ca1 F1 (upd H1 p (.lst vs)) fp1 (p :: w) (st1.trans g.step) (S1.grow g) (.lst upd_same (S1.sub.none hp) hz (RepTs.keep .refl .refl _ _ _ r1 (fun a ha => (RepTs.own _ _ _ r1 a ha).1) fun a ha o e => by rw [upd_ne (fun z => hpw (by rw [← z]; exact ha))]; exact e)) (List.nodup_cons.mpr ⟨hpw, nd⟩) (fun a ha => ?_) fun r a ha => ?_
      · rcases List.mem_cons.mp ha with rfl | ha
        · exact .inl (st1.noneOf hp)
        · exact fr a ha
      · rcases List.mem_cons.mp ha with rfl | ha
        · intro z
          obtain ⟨_, o, q, _⟩ := S1.own r a z
          rw [hp] at q; cases q
        · exact dj r a ha
theorem er_ife {a b c : Expr} {ta tb : TE} {ea eb : Ev} {uA : TT} {va : Tv} {pos : Pos} (hc : ET X c uA va) (ha : ER X a ta ea) (hb : ER X b tb eb) : ER X (.IfExp c a b pos) (tIf uA ta tb) (eIf va ea eb) := by
  refine ⟨pe_ifExp hc.pt ha.pe hb.pe, ?_⟩
  intro ca F H σ env cs fp t env' cs' Q S h k
  unfold eIf at h
  split at h
  · cases h
  · rename_i kk env1 cs1 h1
    refine hc.snd ca F H σ env cs fp _ _ _ _ S h1 fun ca' F' H' fp' st S' => ?_
    cases kk with
    | true => exact ha.snd ca' F' H' σ env1 cs1 fp' _ _ _ _ S' h (k.step st)
    | false => exact hb.snd ca' F' H' σ env1 cs1 fp' _ _ _ _ S' h (k.step st)
theorem es_retR {e : Expr} {te : TE} {ev : Ev} {pos : Pos} (he : ER X e te ev) : ES X (.Return (some e) pos) (tRet te) (sRet ev) := ⟨ps_ret he.pe, fun ca F H σ env cs fp o env' cs' D S h k => by
  unfold sRet at h
  split at h
  · cases h
  · rename_i h1
    cases h
    exact he.snd ca F H σ env cs fp _ _ _ _ S h1 fun v ca1 F1 H1 fp1 w st1 S1 r nd fr dj => k v σ ca1 F1 H1 fp1 w st1.all S1 r nd fr dj⟩
end
end PD
end
section
set_option Elab.async false
set_option linter.all false
set_option maxRecDepth 100000
set_option autoImplicit false
namespace PD
open PySem L2 PyProof.Rows

/-! ### comprehensions of two loops -/
def compL2 (own vs1 : List Nat) (tg : T → Env → Option Env) (tt : Tv) (it1 : Iv) (tg1 : T → Env → Option Env) (tt1 : Tv) (el : Ev) : List D → Env → CS → Option (List T × Env × CS)
  | [], env, cs => some ([], env, cs)
  | d :: ds, env, cs => match tg (.sh d) env with
    | none => none
    | some env1 => match tt env1 cs with
      | none => none
      | some (b, env2, cs2) => if b = true then (match it1 env2 cs2 with
          | none => none
          | some (es, env3, cs3) => match compL vs1 tg1 tt1 el es (wipeE env3 vs1) cs3 with
            | none => none
            | some (ts, env4, cs4) => match compL2 own vs1 tg tt it1 tg1 tt1 el ds (wipeE env4 own) cs4 with
              | none => none
              | some (us, env5, cs5) => some (ts ++ us, env5, cs5))
        else compL2 own vs1 tg tt it1 tg1 tt1 el ds (wipeE env2 own) cs2
def eComp2 (own vs1 : List Nat) (it : Iv) (tg : T → Env → Option Env) (tt : Tv) (it1 : Iv) (tg1 : T → Env → Option Env) (tt1 : Tv) (el : Ev) : Ev := fun env cs => match it env cs with
  | none => none
  | some (ds, env1, cs1) => if ownOk own env1 = true then (match compL2 own vs1 tg tt it1 tg1 tt1 el ds (wipeE env1 own) cs1 with
      | none => none
      | some (ts, env2, cs2) => if ts.length ≤ sizeLine then some (.lst ts, backE own env1 env2, cs2) else none)
    else none
section
variable {X : Cx} {K : PySem.W.Frag} {mg : Str → Option Value} {ca ca' : List Addr} {F F' H H' : Hp} {v : V} {d : D} {σ σ' : St} {env env' : Env} {cs cs' : CS} {fp fp' : Fp}
/-- the list that grows -/
structure Acc (K : PySem.W.Frag) (mg : Str → Option Value) (ca : List Addr) (F H : Hp) (fp : Fp) (ca1 : List Addr) (F1 : Hp) (D : Addr) (τ : St) (G : Hp) (envi : Env) (csi : CS) (done : List T) (ca2 : List Addr) (F2 : Hp) (fp2 : Fp) (w : List Addr) : Prop where
  st : Step MC ca F H fp ca2 F2 G fp2
  S : Sim K mg ca2 F2 G τ envi csi fp2
  pre : Pre ca1 ca2
  sub : Sub F1 F2
  r : RepT K mg ca2 F2 G (.ref D) (.lst done) (D :: w)
  nd : (D :: w).Nodup
  fr : ∀ a ∈ D :: w, H a = none
  dj : ∀ r, ∀ a ∈ D :: w, a ∉ fp2 r
variable {ca1 ca2 ca3 : List Addr} {F1 F2 F3 G G' : Hp} {fp2 fp3 : Fp} {D : Addr} {τ τ' : St} {done : List T} {w : List Addr} {envi env3 : Env} {csi cs3 : CS}
theorem Acc.step (A : Acc K mg ca F H fp ca1 F1 D τ G envi csi done ca2 F2 fp2 w) (st : Step MC ca2 F2 G fp2 ca3 F3 G' fp3) (S : Sim K mg ca3 F3 G' τ' env3 cs3 fp3) : Acc K mg ca F H fp ca1 F1 D τ' G' env3 cs3 done ca3 F3 fp3 w :=
  let ⟨r, dj⟩ := st.temp A.r A.dj
  ⟨A.st.trans st, S, A.pre.trans st.pre, A.sub.trans st.ff, r, A.nd, A.fr, dj⟩
theorem Acc.less (A : Acc K mg ca F H fp ca1 F1 D τ G envi csi done ca2 F2 fp2 w) (h : ∀ r a, a ∈ fp3 r → a ∈ fp2 r) (S : Sim K mg ca2 F2 G τ' env3 cs3 fp3) : Acc K mg ca F H fp ca1 F1 D τ' G env3 cs3 done ca2 F2 fp3 w :=
  ⟨A.st.less h, S, A.pre, A.sub, A.r, A.nd, A.fr, fun r a ha z => A.dj r a ha (h r a z)⟩
theorem Acc.wipe (A : Acc K mg ca F H fp ca1 F1 D τ G envi csi done ca2 F2 fp2 w) (own : List Nat) : Acc K mg ca F H fp ca1 F1 D (L2.wipe τ own) G (wipeE envi own) csi done ca2 F2 (fpWipe own fp2) w := A.less (fun r a h => fpWipe_sub h) (A.S.wipe own)
/-- an item is added -/
theorem Acc.app (A : Acc K mg ca F H fp ca1 F1 D τ G envi csi done ca2 F2 fp2 w) {v : V} {t : T} {w6 : List Addr} (st : Step MC ca2 F2 G fp2 ca3 F3 G' fp3) (S : Sim K mg ca3 F3 G' τ' env3 cs3 fp3) (r6 : RepT K mg ca3 F3 G' v t w6) (nd6 : w6.Nodup) (fr6 : ∀ a ∈ w6, G a = none) (dj6 : ∀ r, ∀ a ∈ w6, a ∉ fp3 r) (hl : done.length < sizeLine) :
    ∃ acc, G' D = some (.lst acc) ∧ acc.length < sizeLine ∧ Acc K mg ca F H fp ca1 F1 D τ' (upd G' D (.lst (acc ++ [v]))) env3 cs3 (done ++ [t]) ca3 F3 fp3 (w ++ w6) := by
  have A3 := A.step st S
  have own6 := RepT.own _ _ _ A3.r
  have nin : ∀ a ∈ w6, a ∉ D :: w := fun a ha z => by
    obtain ⟨_, o, q⟩ := RepT.own _ _ _ A.r a z
    rw [fr6 a ha] at q; cases q
  have A3r := A3.r
  cases A3r with
  | @lst _ acc _ _ e f l r =>
    have hwD : ∀ a ∈ w, a ≠ D := fun a ha z => (List.nodup_cons.mp A.nd).1 (by rw [← z]; exact ha)
    have hacc : acc.length < sizeLine := by rw [RepTs.length r]; exact hl
    refine ⟨acc, e, hacc, A3.st.poke (A.fr D List.mem_cons_self), A3.S.poke f fun r z => A3.dj r D List.mem_cons_self z, A3.pre, A3.sub, ?_, ?_, fun a ha => ?_, fun r a ha z => ?_⟩
    · exact .lst upd_same f (by rw [List.length_append, List.length_singleton]; exact hacc) (RepTs.snoc (RepTs.keep .refl .refl _ _ _ r (fun a ha => (RepTs.own _ _ _ r a ha).1) fun a ha o e => by rw [upd_ne (hwD a ha)]; exact e) (RepT.keep .refl .refl _ _ _ r6 (fun a ha => (RepT.own _ _ _ r6 a ha).1) fun a ha o e => by
        rw [upd_ne (fun z => nin a ha (by rw [z]; exact List.mem_cons_self))]; exact e))
    · rw [← List.cons_append]
      exact List.nodup_append.mpr ⟨A.nd, nd6, fun a ha b hb z => nin b hb (by rw [← z]; exact ha)⟩
    · rw [← List.cons_append] at ha
      rcases List.mem_append.mp ha with ha | ha
      · exact A.fr a ha
      · exact A.st.noneOf (fr6 a ha)
    · rw [← List.cons_append] at ha
      rcases List.mem_append.mp ha with ha | ha
      · exact A3.dj r a ha z
      · exact dj6 r a ha z
theorem snd_comp2 {wi wi1 : TI} {it it1 : Iv} {g g1 : TG} {vs ws vs1 own : List Nat} {tg tg1 : T → Env → Option Env} {tt tt1 : TT} {tv tv1 : Tv} {te : TE} {el : Ev} (hi : SndI K mg wi it) (hg : SndG K mg g vs tg) (hv : ∀ i ∈ vs, i ∈ own) (ht : SndT K mg tt tv)
    (hi1 : SndI K mg wi1 it1) (hg1 : SndG K mg g1 ws tg1) (hw1 : ∀ i ∈ ws, i ∈ vs1) (hv1 : ∀ i ∈ vs1, i ∈ own) (ht1 : SndT K mg tt1 tv1) (he : SndE K mg te el) : SndE K mg (tLc2 wi g tt wi1 g1 tt1 te own vs1) (eComp2 own vs1 it tg tv it1 tg1 tv1 el) := by
  intro ca F H σ env cs fp t env' cs' Q S h k
  unfold eComp2 at h
  split at h
  · cases h
  · rename_i ds env1 cs1 h1
    split at h
    · rename_i hown
      split at h
      · cases h
      · rename_i ts env2 cs2 h2
        split at h
        · rename_i hsz
          cases h
          refine hi ca F H σ env cs fp ds env1 cs1 _ S h1 fun ca1 F1 H1 fp1 J st1 S1 ok hlen => ?_
          intro D hD
          let W : Nat → Hp → Prop := fun i G => ∃ (ca2 : List Addr) (F2 : Hp) (fp2 : Fp) (envi : Env) (csi : CS) (done rest : List T) (w : List Addr), Acc K mg ca F H fp ca1 F1 D (L2.wipe σ own) G envi csi done ca2 F2 fp2 w ∧
            compL2 own vs1 tg tv it1 tg1 tv1 el (ds.drop i) envi csi = some (rest, env2, cs') ∧ ts = done ++ rest
          refine ⟨fun i m G => m = ds.length - i ∧ i ≤ ds.length ∧ W i G, ⟨ds.length, rfl, Nat.zero_le _, ca1, F1, fpWipe own fp1, wipeE env1 own, cs1, [], ts, [], ?_, by simpa using h2, rfl⟩, ?_⟩
          · have S2 := (S1.wipe own).grow (Grow.laid (o := .lst []) S1.sub hD)
            have hp : ∀ r, D ∉ fp1 r := fun r z => by obtain ⟨_, o, e, _⟩ := S1.own r D z; rw [hD] at e; cases e
            refine ⟨((st1.less fun r a h => fpWipe_sub h).poke (st1.noneOf hD)), S2, .refl, .refl, .lst upd_same (S1.sub.none hD) (Nat.zero_le _) .nil, by simp, fun a ha => ?_, fun r a ha z => ?_⟩
            · rw [List.mem_singleton.mp ha]; exact st1.noneOf hD
            · rw [List.mem_singleton.mp ha] at z; exact hp r (fpWipe_sub z)
          · rintro i m G ⟨rfl, hi', ca2, F2, fp2, envi, csi, done, rest, w, A, hc, hts⟩
            have ok2 := ok.mono A.sub A.pre
            by_cases hlt : i < ds.length
            · have hd : ds[i]? = some ds[i] := List.getElem?_eq_getElem hlt
              have hdrop : ds.drop i = ds[i] :: ds.drop (i + 1) := List.drop_eq_getElem_cons hlt
              obtain ⟨go, yl⟩ := (ok2 i G A.S.sub).1 _ hd
              refine .inr ⟨go, W (i + 1), fun G' q => ⟨ds.length - (i + 1), by omega, rfl, hlt, q⟩, fun x G' y => ?_⟩
              obtain ⟨F3, g3, rx⟩ := ItY.sim (yl x G' y) A.S
              have S3 := A.S.grow g3
              have A3 := A.step (g3.step (M := MC) (ca := ca2) (fp := fp2)) S3
              rw [hdrop] at hc
              unfold compL2 at hc
              split at hc
              · cases hc
              · rename_i enva ea1
                refine hg ca2 F3 G' _ envi csi fp2 x (.sh ds[i]) [] enva _ S3 (.sh rx) List.nodup_nil (fun _ _ z => nomatch z) ea1 fun σ4 fp4 S4 sub4 l4 o4 => ?_
                have hw : L2.wipe σ4 own = L2.wipe σ own := by
                  have e1 : L2.wipe σ4 own = L2.wipe (L2.wipe σ own) own := wipe_congr l4 fun j hj => o4 j fun z => hj (hv j z)
                  have e2 : L2.wipe (L2.wipe σ own) own = L2.wipe σ own := wipe_congr (wipe_length _ _) fun j hj => wipe_out hj
                  exact e1.trans e2
                refine ⟨hw, ?_⟩
                have A4 := A3.less (fun r a ha => by
                  rcases sub4 r a ha with z | z
                  · exact z
                  · cases z) S4
                split at hc
                · cases hc
                · rename_i b envb csb eb
                  refine ht ca2 F3 G' σ4 enva csi fp4 b envb csb _ S4 eb fun ca5 F5 H5 fp5 st5 S5 => ?_
                  have A5 := A4.step st5 S5
                  cases b with
                  | false =>
                    rw [if_neg Bool.false_ne_true] at hc ⊢
                    have A6 := A5.wipe own
                    rw [hw] at A6
                    exact ⟨ca5, F5, _, _, _, done, rest, w, A6, hc, hts⟩
                  | true =>
                    rw [if_pos rfl] at hc ⊢
                    split at hc
                    · cases hc
                    · rename_i es envc csc ec
                      split at hc
                      · cases hc
                      · rename_i ts1 envd csd ed
                        split at hc
                        · cases hc
                        · rename_i us1 enve cse ee
                          cases hc
                          refine hi1 ca5 F5 H5 σ4 envb csb fp5 es envc csc _ S5 ec fun ca6 F6 H6 fp6 J1 st6 S6 ok1 hlen1 => ?_
                          have A6 := A5.step st6 S6
                          have ww : L2.wipe (L2.wipe σ4 vs1) own = L2.wipe σ own := by
                            have e1 : L2.wipe (L2.wipe σ4 vs1) own = L2.wipe σ4 own := wipe_congr (wipe_length _ _) fun j hj => wipe_out fun z => hj (hv1 j z)
                            exact e1.trans hw
                          -- the inner loop
                          let W1 : Nat → Hp → Prop := fun j G => ∃ (ca7 : List Addr) (F7 : Hp) (fp7 : Fp) (envj : Env) (csj : CS) (done1 rest1 : List T) (w1 : List Addr), Acc K mg ca F H fp ca1 F1 D (L2.wipe σ4 vs1) G envj csj (done ++ done1) ca7 F7 fp7 w1 ∧
                            Pre ca6 ca7 ∧ Sub F6 F7 ∧ compL vs1 tg1 tv1 el (es.drop j) envj csj = some (rest1, envd, csd) ∧ ts1 = done1 ++ rest1
                          refine ⟨fun j m G => m = es.length - j ∧ j ≤ es.length ∧ W1 j G, ⟨es.length, rfl, Nat.zero_le _, ca6, F6, fpWipe vs1 fp6, wipeE envc vs1, csc, [], ts1, w, by rw [List.append_nil]; exact A6.wipe vs1, .refl, .refl, by simpa using ed, rfl⟩, ?_⟩
                          rintro j m2 G2 ⟨rfl, hj', ca7, F7, fp7, envj, csj, done1, rest1, w1, B, preB, subB, hcB, htB⟩
                          have okB := ok1.mono subB preB
                          by_cases hltB : j < es.length
                          · have hdB : es[j]? = some es[j] := List.getElem?_eq_getElem hltB
                            have hdropB : es.drop j = es[j] :: es.drop (j + 1) := List.drop_eq_getElem_cons hltB
                            obtain ⟨goB, ylB⟩ := (okB j G2 B.S.sub).1 _ hdB
                            refine .inr ⟨goB, W1 (j + 1), fun G' q => ⟨es.length - (j + 1), by omega, rfl, hltB, q⟩, fun xB GB yB => ?_⟩
                            obtain ⟨FB, gB, rxB⟩ := ItY.sim (ylB xB GB yB) B.S
                            have SB := B.S.grow gB
                            have B1 := B.step (gB.step (M := MC) (ca := ca7) (fp := fp7)) SB
                            rw [hdropB] at hcB
                            unfold compL at hcB
                            split at hcB
                            · cases hcB
                            · rename_i envB eB1
                              refine hg1 ca7 FB GB _ envj csj fp7 xB (.sh es[j]) [] envB _ SB (.sh rxB) List.nodup_nil (fun _ _ z => nomatch z) eB1 fun σ8 fp8 S8 sub8 l8 o8 => ?_
                              have hwB : L2.wipe σ8 vs1 = L2.wipe σ4 vs1 := by
                                have e1 : L2.wipe σ8 vs1 = L2.wipe (L2.wipe σ4 vs1) vs1 := wipe_congr l8 fun j hj => o8 j fun z => hj (hw1 j z)
                                have e2 : L2.wipe (L2.wipe σ4 vs1) vs1 = L2.wipe σ4 vs1 := wipe_congr (wipe_length _ _) fun j hj => wipe_out hj
                                exact e1.trans e2
                              refine ⟨hwB, ?_⟩
                              have B2 := B1.less (fun r a ha => by
                                rcases sub8 r a ha with z | z
                                · exact z
                                · cases z) S8
                              split at hcB
                              · cases hcB
                              · rename_i b8 env8 cs8 e8
                                refine ht1 ca7 FB GB σ8 envB csj fp8 b8 env8 cs8 _ S8 e8 fun ca9 F9 H9 fp9 st9 S9 => ?_
                                have B3 := B2.step st9 S9
                                have pre9 := preB.trans st9.pre
                                have sub9 := subB.trans (gB.ff.trans st9.ff)
                                cases b8 with
                                | false =>
                                  rw [if_neg Bool.false_ne_true] at hcB ⊢
                                  have B4 := B3.wipe vs1
                                  rw [hwB] at B4
                                  exact ⟨ca9, F9, _, _, _, done1, rest1, w1, B4, pre9, sub9, hcB, htB⟩
                                | true =>
                                  rw [if_pos rfl] at hcB ⊢
                                  split at hcB
                                  · cases hcB
                                  · rename_i tc envq csq eq
                                    split at hcB
                                    · cases hcB
                                    · rename_i ts3 env9 cs9 e9
                                      cases hcB
                                      refine he ca9 F9 H9 σ8 env8 cs8 fp9 tc envq csq _ S9 eq fun v ca10 F10 H10 fp10 w10 st10 S10 r10 nd10 fr10 dj10 => ?_
                                      have hz : (done ++ done1).length < sizeLine := by
                                        have e := congrArg List.length hts
                                        rw [htB] at e
                                        simp only [List.length_append, List.length_cons] at e ⊢
                                        omega
                                      obtain ⟨acc, ea, la, B5⟩ := B3.app st10 S10 r10 nd10 fr10 dj10 hz
                                      have B6 := B5.wipe vs1
                                      rw [hwB, List.append_assoc] at B6
                                      refine ⟨acc, ea, la, ca10, F10, _, _, _, done1 ++ [tc], ts3, _, B6, pre9.trans st10.pre, sub9.trans st10.ff, e9, ?_⟩
                                      rw [htB, List.append_assoc]
                                      rfl
                          · have hi2 : j = es.length := by omega
                            subst hi2
                            rw [List.drop_length] at hcB
                            unfold compL at hcB
                            cases hcB
                            rw [List.append_nil] at htB
                            subst htB
                            refine .inl ⟨(okB _ G2 B.S.sub).2 (Nat.le_refl _), ?_⟩
                            have B1 := B.wipe own
                            rw [ww] at B1
                            exact ⟨ca7, F7, _, _, _, done ++ ts1, us1, w1, B1, ee, by rw [hts, List.append_assoc]⟩
            · have hi2 : i = ds.length := by omega
              subst hi2
              rw [List.drop_length] at hc
              unfold compL2 at hc
              cases hc
              rw [List.append_nil] at hts
              subst hts
              refine .inl ⟨(ok2 _ G A.S.sub).2 (Nat.le_refl _), ?_⟩
              have S9 : Sim K mg ca2 F2 G σ (backE own env1 env2) cs' (fpWipe own fp2) := by
                refine A.S.fpLess (fun r a h => fpWipe_sub h) (fpWipe_nd A.S.nd) ?_ (fun j u e => ?_) fun i => rfl
                · unfold backE
                  rw [List.length_map, List.length_range]
                  have := A.S.le
                  rw [wipe_length] at this
                  exact this
                · unfold backE at e
                  rw [List.getElem?_map] at e
                  by_cases hj : j < env2.length
                  · rw [List.getElem?_range hj] at e
                    simp only [Option.map_some, Option.some.injEq] at e
                    by_cases ho : j ∈ own
                    · rw [if_pos ho] at e
                      have e1 : env1[j]? = some (some u) := by
                        cases q : env1[j]? with
                        | none => rw [q] at e; cases e
                        | some o => rw [q] at e; simpa using e
                      have hsh : ∃ d, u = .sh d := by
                        have q := List.all_eq_true.mp hown j ho
                        rw [e1] at q
                        cases u with
                        | sh d => exact ⟨d, rfl⟩
                        | lst _ => cases q
                        | dct _ _ => cases q
                      obtain ⟨d, rfl⟩ := hsh
                      obtain ⟨v, e2, r⟩ := S1.slot j _ e1
                      refine ⟨v, e2, ?_⟩
                      rw [fpWipe_in ho]
                      exact .sh (RepD.mono A.sub A.pre _ _ (RepT.shD r))
                    · rw [if_neg ho] at e
                      have e1 : env2[j]? = some (some u) := by
                        cases q : env2[j]? with
                        | none => rw [q] at e; cases e
                        | some o => rw [q] at e; simpa using e
                      obtain ⟨v, e2, r⟩ := A.S.slot j u e1
                      rw [wipe_out ho] at e2
                      refine ⟨v, e2, ?_⟩
                      rw [fpWipe_out ho]
                      exact r
                  · rw [List.getElem?_eq_none (by simpa using hj)] at e
                    cases e
              exact k (.ref D) ca2 F2 G (fpWipe own fp2) (D :: w) (A.st.less fun r a h => fpWipe_sub h) S9 A.r A.nd A.fr fun r a ha z => A.dj r a ha (fpWipe_sub z)
        · cases h
    · cases h
theorem ee_comp2 {elt tg iter tg1 iter1 : Expr} {ifs ifs1 : List Expr} {scope : Scope} {own : List (Str × Nat)} {vs1 : List Nat} {pos : Pos} {wi : TI} {wi1 : Blk TI} {it it1 : Iv} {g g1 : Blk TG} {vs ws : List Nat} {tgf tgf1 : T → Env → Option Env} {tt tt1 : Blk TT} {tv tv1 : Tv} {te : Blk TE} {el : Ev} (hc : X.calm = true) (hN : X.N.Nodup) (hi : EI X tg iter wi it) (ok : BlkOk X.N X.env.scope scope own) (hv1 : ∀ i ∈ vs1, i ∈ own.map (·.2))
    (hg : ∀ (s : Shared) (H : Hp) (C : Addr) (cl : List (Str × Addr)) (fp : List Addr), EG (X.blk s H scope (compEnvC scope cl C X.env) fp) tg (g s H C cl fp) vs tgf) (ht : ∀ (s : Shared) (H : Hp) (C : Addr) (cl : List (Str × Addr)) (fp : List Addr), ETs (X.blk s H scope (compEnvC scope cl C X.env) fp) ifs (tt s H C cl fp) tv)
    (hi1 : ∀ (s : Shared) (H : Hp) (C : Addr) (cl : List (Str × Addr)) (fp : List Addr), EI (X.blk s H scope (compEnvC scope cl C X.env) fp) tg1 iter1 (wi1 s H C cl fp) it1)
    (hg1 : ∀ (s : Shared) (H : Hp) (C : Addr) (cl : List (Str × Addr)) (fp : List Addr), EG (X.blk s H scope (compEnvC scope cl C X.env) fp) tg1 (g1 s H C cl fp) ws tgf1) (ht1 : ∀ (s : Shared) (H : Hp) (C : Addr) (cl : List (Str × Addr)) (fp : List Addr), ETs (X.blk s H scope (compEnvC scope cl C X.env) fp) ifs1 (tt1 s H C cl fp) tv1)
    (he : ∀ (s : Shared) (H : Hp) (C : Addr) (cl : List (Str × Addr)) (fp : List Addr), EE (X.blk s H scope (compEnvC scope cl C X.env) fp) elt (te s H C cl fp) el) (hv : ∀ i ∈ vs, i ∈ own.map (·.2) := by decide) (hw : ∀ i ∈ ws, i ∈ vs1 := by decide) (hs : ∀ x, foldedSetIterable iter X.env x = pure x := by intro _; rfl) (hs1 : ∀ env x, foldedSetIterable iter1 env x = pure x := by intro _ _; rfl) :
    EE X (.ListComp elt [⟨tg, iter, ifs, 0⟩, ⟨tg1, iter1, ifs1, 0⟩] scope pos) (tLc2 wi (tgA g) (ttA tt) (tiA wi1) (tgA g1) (ttA tt1) (teA te) (own.map (·.2)) vs1) (eComp2 (own.map (·.2)) vs1 it tgf tv it1 tgf1 tv1 el) :=
  ⟨pe_lc2 hc hN hi.pi ok hv1 (tgA_pg (Z := fun s H C cl fp => X.blk s H scope (compEnvC scope cl C X.env) fp) fun s H C cl fp => (hg s H C cl fp).pg) (ttA_pt (Z := fun s H C cl fp => X.blk s H scope (compEnvC scope cl C X.env) fp) fun s H C cl fp => (ht s H C cl fp).pt) (tiA_pi (Z := fun s H C cl fp => X.blk s H scope (compEnvC scope cl C X.env) fp) fun s H C cl fp => (hi1 s H C cl fp).pi) (tgA_pg (Z := fun s H C cl fp => X.blk s H scope (compEnvC scope cl C X.env) fp) fun s H C cl fp => (hg1 s H C cl fp).pg) (ttA_pt (Z := fun s H C cl fp => X.blk s H scope (compEnvC scope cl C X.env) fp) fun s H C cl fp => (ht1 s H C cl fp).pt) (teA_pe (Z := fun s H C cl fp => X.blk s H scope (compEnvC scope cl C X.env) fp) fun s H C cl fp => (he s H C cl fp).pe) hs hs1,
    snd_comp2 hi.snd (tgA_snd fun s H C cl fp => (hg s H C cl fp).snd) hv (ttA_snd fun s H C cl fp => (ht s H C cl fp).snd) (tiA_snd fun s H C cl fp => (hi1 s H C cl fp).snd) (tgA_snd fun s H C cl fp => (hg1 s H C cl fp).snd) hw hv1 (ttA_snd fun s H C cl fp => (ht1 s H C cl fp).snd) (teA_snd fun s H C cl fp => (he s H C cl fp).snd)⟩
end
end PD
end
section
set_option Elab.async false
set_option linter.all false
set_option maxRecDepth 100000
set_option autoImplicit false
namespace PD
open PySem L2 PyProof.Rows

mutual
theorem reads_there {h : Heap} : ∀ (d : PyData) (v : Value) (as : List Addr), Reads h v d as → ∀ a ∈ as, ∃ o, h.get? a = some o
  | .none, _, _, r, a, ha => by cases r; cases ha
  | .bool _, _, _, r, a, ha => by cases r; cases ha
  | .int _, _, _, r, a, ha => by cases r; cases ha
  | .str _, _, _, r, a, ha => by cases r; cases ha
  | .list xs, _, _, r, a, ha => by
    cases r with
    | list e _ _ r =>
      rcases List.mem_cons.mp ha with rfl | ha
      · exact ⟨_, e⟩
      · exact readsAll_there xs _ _ r a ha
  | .tuple xs, _, _, r, a, ha => by cases r with | tuple _ _ _ r => exact readsAll_there xs _ _ r a ha
  | .dict kvs, _, _, r, a, ha => by
    cases r with
    | dict e _ _ r1 r2 =>
      rcases List.mem_cons.mp ha with rfl | ha
      · exact ⟨_, e⟩
      · rcases List.mem_append.mp ha with ha | ha
        · exact readsKeys_there kvs _ _ r1 a ha
        · exact readsVals_there kvs _ _ r2 a ha
theorem readsAll_there {h : Heap} : ∀ (ds : List PyData) (vs : List Value) (as : List Addr), ReadsAll h vs ds as → ∀ a ∈ as, ∃ o, h.get? a = some o
  | [], _, _, r, a, ha => by cases r; cases ha
  | d :: ds, _, _, r, a, ha => by
    cases r with
    | cons r1 r2 =>
      rcases List.mem_append.mp ha with ha | ha
      · exact reads_there d _ _ r1 a ha
      · exact readsAll_there ds _ _ r2 a ha
theorem readsKeys_there {h : Heap} : ∀ (ds : List (PyData × PyData)) (vs : List Value) (as : List Addr), ReadsAll h vs (ds.map (·.1)) as → ∀ a ∈ as, ∃ o, h.get? a = some o
  | [], _, _, r, a, ha => by cases r; cases ha
  | (d, _) :: ds, _, _, r, a, ha => by
    cases r with
    | cons r1 r2 =>
      rcases List.mem_append.mp ha with ha | ha
      · exact reads_there d _ _ r1 a ha
      · exact readsKeys_there ds _ _ r2 a ha
theorem readsVals_there {h : Heap} : ∀ (ds : List (PyData × PyData)) (vs : List Value) (as : List Addr), ReadsAll h vs (ds.map (·.2)) as → ∀ a ∈ as, ∃ o, h.get? a = some o
  | [], _, _, r, a, ha => by cases r; cases ha
  | (_, d) :: ds, _, _, r, a, ha => by
    cases r with
    | cons r1 r2 =>
      rcases List.mem_append.mp ha with ha | ha
      · exact reads_there d _ _ r1 a ha
      · exact readsVals_there ds _ _ r2 a ha
end

/-! ### sorted(d.items()) -/
/-- an item, read -/
def itemP (b : (Key × V) × PyData) : PyData := .tuple [keyP b.1.1, b.2]
abbrev leI : (Key × V) × PyData → (Key × V) × PyData → Bool := PySem.W.dataLe false itemP
def rSortI (K : PySem.W.Frag) : V → Hp → VK → Prop := fun x H Q => ∃ (d : Addr) (bs : List ((Key × V) × PyData)), x = .ref d ∧ Rd H d (.dK (bs.map (·.1))) ∧ (∀ b ∈ bs, Dp K H b.1.2 b.2) ∧ PySem.W.AllAlike (bs.map itemP) ∧ (∀ b ∈ bs, b.2.depth ≤ 58) ∧
  ∀ (H' : Hp) (p : Addr) (ts : List Addr), (∀ b o, H b = some o → H' b = some o) → H p = none → (∀ t ∈ ts, H t = none) → p ∉ ts → H' p = some (.lst (ts.map V.ref)) → Paired (fun (t : Addr) (q : (Key × V) × PyData) => H' t = some (.tup [kV q.1.1, q.1.2])) ts (bs.mergeSort leI) → Q (.ref p) H'
def tSortI (K : PySem.W.Frag) (te : TE) : TE := fun σ H Q => te σ H fun x H1 => rSortI K x H1 Q
theorem raw_of {P : Program} {w : World} {K : Type} [DecidableEq K] {knd : PySem.KeyKind P w K} {h : Heap} {a : Addr} {kvs : List (K × Value)} (x : h.DictOf knd a kvs) : ∃ es ep, DT.Raw h a es ep ∧ Pairs knd es.toList kvs ∧ es.size = kvs.length := by
  obtain ⟨o, es, ep, h1, h2, h3, h4, h5, h6⟩ := x
  refine ⟨es, ep, ⟨o, h1, h2, h3⟩, h5, ?_⟩
  have : ∀ {es : List DictEntry} {kvs : List (K × Value)}, Pairs knd es kvs → es.length = kvs.length := fun {es kvs} p => by
    induction p with
    | nil => rfl
    | cons _ _ _ ih => rw [List.length_cons, List.length_cons, ih]
  rw [← Array.length_toList]
  exact this h5
theorem pairs_get {P : Program} {w : World} {K : Type} [DecidableEq K] {knd : PySem.KeyKind P w K} : ∀ {es : List DictEntry} {kvs : List (K × Value)} {j : Nat} {e : DictEntry}, Pairs knd es kvs → es[j]? = some e → ∃ kv, kvs[j]? = some kv ∧ knd.is kv.1 e.key = true ∧ e.val = kv.2
  | _, _, _, _, .nil, h => by simp at h
  | _, _, 0, _, .cons a b c, h => by simp at h; subst h; exact ⟨_, rfl, a, b⟩
  | _, _, j + 1, _, .cons a b c, h => by
    obtain ⟨kv, h1, h2⟩ := pairs_get c (by simpa using h)
    exact ⟨kv, by simpa using h1, h2⟩
section
variable {X : Cx} {e : Expr} {te : TE} {p apos cpos pos : Pos}
/-- what the sort of the pairs is about -/
structure It3 where
  a : Addr
  b : (Key × V) × PyData
theorem each_zip {R : Value → It3 → Prop} : ∀ {zs : List It3}, (∀ z ∈ zs, R (.ref z.a) z) → PySem.W.EachIs R (zs.map fun z => Value.ref z.a) zs
  | [], _ => .nil
  | z :: zs, h => .cons (h z List.mem_cons_self) (each_zip fun y hy => h y (List.mem_cons_of_mem _ hy))
theorem each_out : ∀ {zs : List It3} {us : List Value}, PySem.W.EachIs (fun u z => u = Value.ref z.a) us zs → us = zs.map fun z => Value.ref z.a
  | _, _, .nil => rfl
  | _, _, .cons h t => by rw [List.map_cons, ← each_out t, h]
theorem paired_all {H9 : Hp} : ∀ {rs : List It3}, (∀ z ∈ rs, H9 z.a = some (.tup [kV z.b.1.1, z.b.1.2])) → Paired (fun (t : Addr) (q : (Key × V) × PyData) => H9 t = some (.tup [kV q.1.1, q.1.2])) (rs.map (·.a)) (rs.map (·.b))
  | [], _ => .nil
  | z :: rs, all => .cons (all z List.mem_cons_self) (paired_all fun y hy => all y (List.mem_cons_of_mem _ hy))
theorem pe_sortI (hu : X.A.units + 65 < cLine) (hc : X.calm = true) (he : PE X e te) (hg : Gl X "sorted") (hm : X.mg "sorted" = none) (hv : bootBuiltins "sorted" = some (.builtin "sorted")) (hbase : attributeBase e "items" X.env (eval e X.env) = eval e X.env := by rfl) (hline : (apos.endLine == cpos.line) = true := by rfl)
    (hs : starEach [.Call (.Attribute e "items" apos) [] [] cpos] X.env = (false, eval (.Call (.Attribute e "items" apos) [] [] cpos) X.env) :: starEach [] X.env := by rfl) (hpl : (backTo pos (starEach [] X.env)).any (·.1) = false := by rfl) :
    PE X (.Call (.Name "sorted" p) [.Call (.Attribute e "items" apos) [] [] cpos] [] pos) (tSortI X.K te) := by
  refine ⟨fun pins s σ H Q I hq => ?_⟩
  refine wpAny_Call_Name_kw (ld_blt I hg hm hv ?_)
  refine PyProof.Rows.callWith_builtin1 ?_ hs hpl
  rw [hs]
  show wpAny _ _ (spliced ((false, eval (.Call (.Attribute e "items" apos) [] [] cpos) X.env) :: backTo pos (starEach [] X.env))) _ _ s
  refine Calls.spliced_cons ?_
  refine wpAny_Call_method (T := "dict") (id := "dict.items") hbase rfl hline PySem.F.plainAttrs_dict PySem.F.slot_dict_items PySem.F.type_dict_items (thn (he.run pins s σ H _ I hq) fun u s1 ⟨x, H1, I1, rx, d, bs, ex, hd, hdp, hal, hde, q⟩ => ?_)
  subst ex
  obtain rfl : u = Value.ref d := rx
  obtain ⟨hz, hs0, vs, kv, hdo⟩ := dk_rd I1.hok hd
  have lk : (bs.map (·.1)).length = vs.length := kv.length
  rw [List.length_map] at lk hz
  have I2 : Inv X pins σ H1 { s1 with heap := s1.heap.push { cls := .type "dict_items", data := .fields #[.ref d] } } := I1.kept (t' := s1.toks) fun b ob q => Heap.get?_push_of_some _ q
  refine ⟨hdo.typeIs, hdo.mapOf.noDict, ?_⟩
  show wpAny _ _ (callWith cpos (.builtin "dict.items") [.ref d] [] []) _ X.xe s1
  refine method_meetsIn PySem.F.slot_dict_items PySem.F.entry_dict_items rfl (PySem.evalArgs_none ⟨rfl, hdo.typeIs, PySem.F.args_dict_items_1 _, _, meets_dict_items (mixKind X.prog X.w) d hs0, ⟨vs, hdo⟩, ?_⟩)
  refine Calls.spliced_nil ?_
  obtain ⟨es, ep, raw, prs, hes⟩ := raw_of hdo
  obtain ⟨s2, hS2⟩ : ∃ s2 : Shared, ({ s1 with heap := s1.heap.push { cls := .type "dict_items", data := .fields #[.ref d] } } : Shared) = s2 := ⟨_, rfl⟩
  rw [hS2] at I2
  have hview : s2.heap.IsItemsView s1.heap.objs.size d := by rw [← hS2]; exact ⟨_, Heap.get?_push_size _ rfl, rfl, rfl⟩
  have hraw : DT.Raw s2.heap d es ep := by rw [← hS2]; exact raw.push _
  have hz2 : es.size ≤ sizeLine := by omega
  show wpAny _ _ (call (.builtin "sorted") [.ref s1.heap.objs.size]) _ _ ({ s1 with heap := s1.heap.push { cls := .type "dict_items", data := .fields #[.ref d] } } : Shared)
  rw [hS2]
  refine DT.sortedI (es := es) (ep := ep) (I2.ok.hd hc) hview hraw hz2 fun h' tk as hk hlt hl hG => ?_
  have lak : as.length = bs.length := by omega
  have nd : as.Nodup := List.Pairwise.imp (fun h => Nat.ne_of_lt h) hG.rise
  have newA : ∀ t ∈ as, H1 t = none := fun t ht => I2.hok.fresh (Nat.le_of_lt (hG.above t ht))
  have newL : H1 h'.objs.size = none := I2.hok.fresh (Nat.le_of_lt hlt)
  have notL : h'.objs.size ∉ as := fun z => by
    obtain ⟨j, hj⟩ := List.mem_iff_getElem?.mp z
    obtain ⟨en, _, hg'⟩ := hG.pairs j _ hj
    exact Nat.lt_irrefl _ (Heap.lt_size hg')
  -- the pairs, as laid
  have pr : ∀ (j : Nat) (t : Addr), as[j]? = some t → ∃ (b : (Key × V) × PyData) (u1 u2 : Value), bs[j]? = some b ∧ RelV (kV b.1.1) u1 ∧ RelV b.1.2 u2 ∧ h'.get? t = some { cls := .type "tuple", data := .seq #[u1, u2] } := fun j t hj => by
    obtain ⟨en, he1, he2⟩ := hG.pairs j t hj
    obtain ⟨kv1, g1, g2, g3⟩ := pairs_get prs (by rw [Array.getElem?_toList]; exact he1)
    have hjl : j < bs.length := by rw [← lak]; exact (List.getElem?_eq_some_iff.mp hj).1
    have hb : bs[j]? = some bs[j] := List.getElem?_eq_getElem hjl
    obtain ⟨kv2, e1, e2, e3⟩ := LiI.paired_get kv (i := j) (x := bs[j].1) (by rw [List.getElem?_map, hb]; rfl)
    rw [g1] at e1
    cases e1
    refine ⟨bs[j], en.key, en.val, hb, ?_, by rw [g3]; exact e3, he2⟩
    rw [e2]
    exact relV_key (show keyIs kv1.1 en.key = true from g2)
  -- tracked
  have I3 : Inv X pins σ H1 { s2 with heap := h', toks := tk } := I2.kept hk
  obtain ⟨H2, I4, gr, qt⟩ := L2.DX.takeT (h' := h') (tk := tk) (P := fun t xs => ∃ (j : Nat) (b : (Key × V) × PyData), as[j]? = some t ∧ bs[j]? = some b ∧ xs = [kV b.1.1, b.1.2]) I2 as H1 I3 nd fun t ht => by
    obtain ⟨j, hj⟩ := List.mem_iff_getElem?.mp ht
    obtain ⟨b, u1, u2, hb, r1, r2, hg'⟩ := pr j t hj
    exact ⟨Nat.le_of_lt (hG.above t ht), newA t ht, _, ⟨j, b, hj, hb, rfl⟩, fun H3 => ⟨by show 2 ≤ sizeLine; decide, [u1, u2], .cons r1 (.cons r2 .nil), ⟨_, hg', rfl, 0, rfl⟩⟩⟩
  let zs : List It3 := (as.zip bs).map fun z => ⟨z.1, z.2⟩
  have za : zs.map (·.a) = as := by
    show ((as.zip bs).map _).map _ = as
    rw [List.map_map]
    exact List.map_fst_zip (by omega)
  have zb : zs.map (·.b) = bs := by
    show ((as.zip bs).map _).map _ = bs
    rw [List.map_map]
    exact List.map_snd_zip (by omega)
  have zl : zs.length = bs.length := by
    have q := congrArg List.length zb
    rw [List.length_map] at q
    exact q
  have zAt : ∀ z ∈ zs, z.b ∈ bs ∧ z.a ∈ as ∧ H2 z.a = some (.tup [kV z.b.1.1, z.b.1.2]) := fun z hz' => by
    obtain ⟨j, hj⟩ := List.mem_iff_getElem?.mp hz'
    have j1 : as[j]? = some z.a := by
      have q := congrArg (·[j]?) za
      simp only [List.getElem?_map, hj] at q
      exact q.symm
    have j2 : bs[j]? = some z.b := by
      have q := congrArg (·[j]?) zb
      simp only [List.getElem?_map, hj] at q
      exact q.symm
    refine ⟨List.mem_of_getElem? j2, List.mem_of_getElem? j1, ?_⟩
    obtain ⟨xs, ⟨i, b, i1, i2, rfl⟩, hH⟩ := qt z.a (List.mem_of_getElem? j1)
    have eij : i = j := (List.getElem?_inj (List.getElem?_eq_some_iff.mp i1).1 nd).mp (i1.trans j1.symm)
    subst eij
    rw [j2] at i2
    cases i2
    exact hH
  have hv1 : as.map Value.ref = zs.map fun z => Value.ref z.a := by
    have q := congrArg (List.map Value.ref) za
    rw [List.map_map] at q
    exact q.symm
  rw [hv1]
  have hoL : (h'.push (seqObj "list" (zs.map fun z => Value.ref z.a).toArray 0)).get? h'.objs.size = some (seqObj "list" (zs.map fun z => Value.ref z.a).toArray 0) := Heap.get?_push_size _ rfl
  have eb : zs.map (fun z => itemP z.b) = bs.map itemP := by
    have q := congrArg (List.map itemP) zb
    rw [List.map_map] at q
    exact q
  show wpAny _ _ (call (.builtin "list.sort") [.ref h'.objs.size]) _ _ ({ s2 with heap := h'.push (seqObj "list" (zs.map fun z => Value.ref z.a).toArray 0), toks := tk } : Shared)
  refine PySem.W.list_sort_data (s := { s2 with heap := h'.push (seqObj "list" (zs.map fun z => Value.ref z.a).toArray 0), toks := tk }) (R := fun u z => u = Value.ref z.a) (enc := fun z => itemP z.b) (bs := zs) hoL (each_zip fun z _ => rfl) (each_zip fun z hz' => ?_)
    (by rw [eb]; exact hal) (PySem.W.Sortable.tuples fun z => ⟨_, _, rfl⟩) (by rw [zl]; exact hz) (fun z hz' => ?_) fun out h1 h2 => ?_
  · obtain ⟨m1, m2, m3⟩ := zAt z hz'
    have dk : Dp X.K H2 (kV z.b.1.1) (keyP z.b.1.1) := by
      cases z.b.1.1 with
      | inl i => exact .int i
      | inr x => exact .str x
    have dv : Dp X.K H2 z.b.1.2 z.b.2 := Dp.mono (fun b o e => gr b o e) _ _ (hdp z.b m1)
    obtain ⟨as2, r2⟩ := Dp.reads I4 (itemP z.b) (.ref z.a) (.ref z.a) (.tup (.inl (.inl m3)) (.cons dk (.cons dv .nil))) rfl
    refine ⟨as2, PyProof.Rows.Reads.keeps (fun b o e => Heap.get?_push_of_some _ e) r2, fun z2 => ?_⟩
    obtain ⟨o, e⟩ := reads_there _ _ _ r2 _ z2
    exact Nat.lt_irrefl _ (Heap.lt_size e)
  · obtain ⟨m1, _, _⟩ := zAt z hz'
    have d1 := hde z.b m1
    have d2 : (keyP z.b.1.1).depth = 0 := by cases z.b.1.1 <;> rfl
    have d3 : (itemP z.b).depth ≤ 59 := by
      unfold itemP
      simp only [PyData.depth, PyData.depthAll, d2]
      omega
    show X.A.units + 1 + 1 + (itemP z.b).depth < cLine
    omega
  · have hout := each_out h2
    subst hout
    obtain ⟨eF, heF⟩ := PyProof.Rows.sortedHeap_at (vs := zs.map fun z => Value.ref z.a) (out := ((zs.mergeSort (PySem.W.dataLe false fun z => itemP z.b)).map fun z => Value.ref z.a).toArray) hoL
    have hzs : (zs.mergeSort (PySem.W.dataLe false fun z => itemP z.b)).length = bs.length := by rw [List.length_mergeSort]; exact zl
    have eqb : (zs.mergeSort (PySem.W.dataLe false fun z => itemP z.b)).map (·.b) = bs.mergeSort leI := by
      have q : (zs.mergeSort (PySem.W.dataLe false fun z => itemP z.b)).map (·.b) = (zs.map (·.b)).mergeSort leI := List.map_mergeSort fun a _ b _ => rfl
      rw [zb] at q
      exact q
    have mem : ∀ z ∈ zs.mergeSort (PySem.W.dataLe false fun z => itemP z.b), z ∈ zs := fun z hz' => List.mem_mergeSort.mp hz'
    generalize hts : zs.mergeSort (PySem.W.dataLe false fun z => itemP z.b) = rs at heF hzs eqb mem
    have rv : Vals ((rs.map (·.a)).map V.ref) (rs.map fun z => Value.ref z.a) := by
      have := LiI.vals_refs (rs.map (·.a))
      rw [List.map_map (g := Value.ref)] at this
      exact this
    have kp : ∀ b u, h'.get? b = some u → (sortedHeap (h'.push (seqObj "list" (zs.map fun z => Value.ref z.a).toArray 0)) h'.objs.size (zs.map fun z => Value.ref z.a) (rs.map fun z => Value.ref z.a).toArray).get? b = some u := fun b u e => by
      have hb : b < h'.objs.size := Heap.lt_size e
      rw [PyProof.Rows.sortedHeap_old (Nat.ne_of_lt hb) (by rw [size_push']; exact Nat.lt_succ_of_lt hb)]
      exact Heap.get?_push_of_some _ e
    have I5 := I4.laid (a := h'.objs.size) (o := .lst ((rs.map (·.a)).map V.ref)) (t' := tk) kp (Nat.le_refl _) ⟨by rw [List.length_map, List.length_map, hzs]; exact hz, _, eF, rv, heF⟩
    have newH2 : H2 h'.objs.size = none := I4.hok.fresh (Nat.le_refl _)
    refine ⟨.ref h'.objs.size, _, I5, rfl, q _ h'.objs.size (rs.map (·.a)) (fun b o e => ?_) newL (fun t ht => ?_) (fun ht => ?_) upd_same ?_⟩
    · rw [upd_ne (ne_of_none e newL)]
      exact gr b o e
    · obtain ⟨z, hz', rfl⟩ := List.mem_map.mp ht
      exact newA _ (zAt z (mem z hz')).2.1
    · obtain ⟨z, hz', e⟩ := List.mem_map.mp ht
      exact notL (by rw [← e]; exact (zAt z (mem z hz')).2.1)
    · rw [← eqb]
      have all : ∀ z ∈ rs, upd H2 h'.objs.size (.lst ((rs.map (·.a)).map V.ref)) z.a = some (.tup [kV z.b.1.1, z.b.1.2]) := fun z hz' => by
        have m := (zAt z (mem z hz')).2.2
        rw [upd_ne (ne_of_none m newH2)]
        exact m
      exact paired_all all
end
section
variable {K : PySem.W.Frag} {mg : Str → Option Value} {ca : List Addr} {F H : Hp} {v : V} {d : D}
def itemsD (kvs : List (D × D)) : List D := kvs.map fun p => .tup .ex [p.1, p.2]
def dSortI (d : D) : Option T := match d with
  | .dct .K kvs => if (kvs.all fun p => keyFit p.1) = true ∧ alikeL (itemsD kvs) = true ∧ (kvs.all fun p => p.2.isPy 58) = true then some (.lst (((itemsD kvs).mergeSort leD).map T.sh)) else none
  | _ => none
def fItem (p : D × D) : D := .tup .ex [p.1, p.2]
theorem kV_rep {k : Key} (h : keyFit (kD k) = true) : RepD K mg ca F (kV k) (kD k) := by
  cases k with
  | inl i => exact .int i
  | inr x =>
    simp only [kD, keyFit, Bool.and_eq_true, decide_eq_true_eq] at h
    exact .str x h.1 h.2
/-- an entry and its value, read -/
theorem entries_rep : ∀ {ds : List (D × D)} {vs : List (Key × V)}, RepKs K mg ca F vs ds → (ds.all fun p => keyFit p.1) = true → (ds.all fun p => p.2.isPy 58) = true →
    ∃ es : List (((Key × V) × PyData) × (D × D)), es.map (·.1.1) = vs ∧ es.map (·.2) = ds ∧ ∀ e ∈ es, e.2.1 = kD e.1.1.1 ∧ keyFit e.2.1 = true ∧ e.1.2 = e.2.2.py ∧ RepD K mg ca F e.1.1.2 e.2.2 ∧ e.2.2.isPy 58 = true
  | [], _, h, _, _ => by cases h; exact ⟨[], rfl, rfl, fun _ z => nomatch z⟩
  | _ :: ds, _, h, e1, e2 => by
    cases h with
    | @cons j v vs d ds h1 h2 =>
      simp only [List.all_cons, Bool.and_eq_true] at e1 e2
      obtain ⟨es, a, b, c⟩ := entries_rep h2 e1.2 e2.2
      refine ⟨(((j, v), d.py), (kD j, d)) :: es, by rw [List.map_cons, a], by rw [List.map_cons, b], fun e he => ?_⟩
      rcases List.mem_cons.mp he with rfl | he
      · exact ⟨rfl, e1.1, rfl, h1, e2.1⟩
      · exact c e he
theorem tups_rep {H' : Hp} {F' : Hp} (hf : ∀ t o, F' t = some o → H' t = some o) : ∀ {ts : List Addr} {es : List (((Key × V) × PyData) × (D × D))}, (∀ t ∈ ts, F' t = H' t) → Paired (fun (t : Addr) (q : (Key × V) × PyData) => H' t = some (.tup [kV q.1.1, q.1.2])) ts (es.map (·.1)) →
    (∀ e ∈ es, e.2.1 = kD e.1.1.1 ∧ keyFit e.2.1 = true ∧ RepD K mg ca F' e.1.1.2 e.2.2) → RepDs K mg ca F' (ts.map V.ref) (es.map fun e => fItem e.2)
  | _, [], _, p, _ => by cases p; exact .nil
  | _, e :: es, hF, p, h => by
    cases p with
    | @cons t _ ts _ p1 p2 =>
      obtain ⟨h1, h2, h3⟩ := h e List.mem_cons_self
      refine .cons ?_ (tups_rep hf (fun t ht => hF t (List.mem_cons_of_mem _ ht)) p2 fun y hy => h y (List.mem_cons_of_mem _ hy))
      show RepD K mg ca F' (.ref t) (.tup .ex [e.2.1, e.2.2])
      rw [h1] at h2 ⊢
      refine .tup (t := .ex) (show F' t = some (.tup [kV e.1.1.1, e.1.1.2]) from ?_) (by show 2 ≤ sizeLine; decide) (.cons (kV_rep h2) (.cons h3 .nil))
      rw [hF t List.mem_cons_self]
      exact p1
theorem o_sortI : Op1S K mg (rSortI K) dSortI := by
  intro ca F H x d t Q hs rx h k
  unfold dSortI at h
  split at h
  · rename_i kvs
    split at h
    · rename_i hf
      cases h
      obtain ⟨a, vs, rfl, q, l, r⟩ := rx.dK'
      obtain ⟨es, e1, e2, e3⟩ := entries_rep r hf.1 hf.2.2
      have eb : (es.map (·.1)).map (·.1) = vs := by rw [List.map_map]; exact e1
      have ei : (es.map (·.1)).map itemP = (itemsD kvs).map D.py := by
        unfold itemsD
        rw [← e2, List.map_map, List.map_map, List.map_map]
        refine List.map_congr_left fun e he => ?_
        obtain ⟨g1, _, g3, _, _⟩ := e3 e he
        show PyData.tuple [keyP e.1.1.1, e.1.2] = .tuple [e.2.1.py, e.2.2.py]
        rw [g3, g1]
        cases e.1.1.1 <;> rfl
      refine ⟨a, es.map (·.1), rfl, by rw [eb]; exact Rd.mono hs q, fun b hb => ?_, by rw [ei]; exact alike_of hf.2.1, fun b hb => ?_, fun H' p ts hg hp hts hpt hl hpair => ?_⟩
      · obtain ⟨e, he, rfl⟩ := List.mem_map.mp hb
        obtain ⟨_, _, g3, g4, g5⟩ := e3 e he
        rw [g3]
        exact Dp.mono hs _ _ (RepD.dp _ _ 58 g4 g5).1
      · obtain ⟨e, he, rfl⟩ := List.mem_map.mp hb
        obtain ⟨_, _, g3, g4, g5⟩ := e3 e he
        rw [g3]
        exact (RepD.dp _ _ 58 g4 g5).2.2
      · -- the sorted entries
        let le' : ((Key × V) × PyData) × (D × D) → ((Key × V) × PyData) × (D × D) → Bool := fun a b => leI a.1 b.1
        have s1 : (es.mergeSort le').map (·.1) = (es.map (·.1)).mergeSort leI := List.map_mergeSort fun a _ b _ => rfl
        have s2 : (es.mergeSort le').map (fun e => fItem e.2) = (itemsD kvs).mergeSort leD := by
          unfold itemsD
          rw [← e2, List.map_map]
          refine List.map_mergeSort fun a ha b hb => ?_
          show PySem.W.dataLe false itemP a.1 b.1 = PySem.W.dataLe false D.py (fItem a.2) (fItem b.2)
          have eq : ∀ e ∈ es, itemP e.1 = (fItem e.2).py := fun e he => by
            obtain ⟨g1, _, g3, _, _⟩ := e3 e he
            show PyData.tuple [keyP e.1.1.1, e.1.2] = .tuple [e.2.1.py, e.2.2.py]
            rw [g3, g1]
            cases e.1.1.1 <;> rfl
          show (!PySem.W.dataLt (itemP b.1) (itemP a.1)) = (!PySem.W.dataLt (fItem b.2).py (fItem a.2).py)
          rw [eq a ha, eq b hb]
        rw [← s1] at hpair
        have mem : ∀ e ∈ es.mergeSort le', e ∈ es := fun e he => List.mem_mergeSort.mp he
        let F' : Hp := fun a => if a ∈ ts then H' a else F a
        have Fin : ∀ a ∈ ts, F' a = H' a := fun a ha => if_pos ha
        have Fout : ∀ a, a ∉ ts → F' a = F a := fun a ha => if_neg ha
        have ff : Sub F F' := fun b o e => by
          rw [Fout]
          · exact e
          · intro z
            rw [hs.none (hts b z)] at e; cases e
        have fh : Sub F' H' := fun b o e => by
          by_cases hb : b ∈ ts
          · rw [Fin b hb] at e; exact e
          · rw [Fout b hb] at e
            exact hg b o (hs b o e)
        have G : Grow F H F' H' := ⟨ff, hg, fh, fun b o e => by
          by_cases hb : b ∈ ts
          · exact .inr (hts b hb)
          · rw [Fout b hb] at e; exact .inl e⟩
        have rr := tups_rep (K := K) (mg := mg) (ca := ca) (F' := F') (H' := H') fh Fin hpair fun e he => by
          obtain ⟨g1, g2, _, g4, _⟩ := e3 e (mem e he)
          exact ⟨g1, g2, RepD.mono ff .refl _ _ g4⟩
        rw [s2] at rr
        have hlen : (ts.map V.ref).length ≤ sizeLine := by
          rw [RepDs.length rr, List.length_mergeSort]
          unfold itemsD
          rw [List.length_map, ← RepKs.length r]
          exact l
        refine k (.ref p) F' H' [p] G (.lst hl ?_ hlen (RepTs.sh rr)) (by simp) fun a ha => by rw [List.mem_singleton.mp ha]; exact hp
        rw [Fout p hpt]
        exact hs.none hp
    · cases h
  · cases h
theorem ee_sortI {X : Cx} {e : Expr} {te : TE} {ev : Ev} {p apos cpos pos : Pos} (hu : X.A.units + 65 < cLine) (hc : X.calm = true) (he : EE X e te ev) (hm : X.mg "sorted" = none) (hg : Gl X "sorted" := by rfl) (hv : bootBuiltins "sorted" = some (.builtin "sorted") := by decide +kernel) (hbase : attributeBase e "items" X.env (eval e X.env) = eval e X.env := by rfl) (hline : (apos.endLine == cpos.line) = true := by rfl)
    (hs : starEach [.Call (.Attribute e "items" apos) [] [] cpos] X.env = (false, eval (.Call (.Attribute e "items" apos) [] [] cpos) X.env) :: starEach [] X.env := by rfl) (hpl : (backTo pos (starEach [] X.env)).any (·.1) = false := by rfl) :
    EE X (.Call (.Name "sorted" p) [.Call (.Attribute e "items" apos) [] [] cpos] [] pos) (tSortI X.K te) (e1 dSortI ev) := by
  refine ⟨pe_sortI hu hc he.pe hg hm hv hbase hline hs hpl, ?_⟩
  intro ca F H σ env cs fp t env' cs' Q S h k
  unfold e1 at h
  split at h
  · cases h
  · rename_i t1 env1 cs1 h1
    split at h
    · cases h
    · rename_i r0 hf
      cases h
      refine he.snd.data S h1 fun x ca1 F1 H1 fp1 st1 S1 r1 => ?_
      exact o_sortI ca1 F1 H1 x _ _ Q S1.sub r1 hf (OpK.of S1 st1 (Kont.keep S k))
end
end PD
end
section
set_option Elab.async false
set_option linter.all false
set_option maxRecDepth 100000
set_option autoImplicit false
namespace PD
open PySem L2 PyProof.Rows
section
variable {X : Cx}
theorem op_eqH (hu : X.A.units + 65 < cLine) : OpR X (compareOp .Eq) (rOr rEq (rEqD X.K)) := op_eqAny (by omega)
theorem op_neH (hu : X.A.units + 65 < cLine) : OpR X (compareOp .NotEq) (rOr rNe (rNeD X.K)) := op_neAny (by omega)
theorem ix_allH (hu : X.A.units + 65 < cLine) : IxR X (rIxAll X.K) := ix_all (by omega)
theorem mt_appP {o e : Expr} {to te : TE} {apos cpos : Pos} (ho : PE X o to) (he : PE X e te) (hbase : attributeBase o "append" X.env (eval o X.env) = eval o X.env := by rfl)
    (hfew : ((backTo cpos (starEach [e] X.env)).all (fun x => !x.1) && (backToKw cpos (keywordEach [] X.env)).all (fun x => x.1.isSome) && decide (([e] : List Expr).length + ([] : List Keyword).length + (if ([] : List Keyword).isEmpty then 0 else 1) < 30)) = true := by rfl)
    (hline : (apos.endLine == cpos.line) = true := by rfl) (hs : starEach [e] X.env = (false, eval e X.env) :: starEach [] X.env := by rfl) (hplain : (backTo cpos (starEach [] X.env)).any (·.1) = false := by rfl) :
    PE X (.Call (.Attribute o "append" apos) [e] [] cpos) (tBM X.K "list" rAppend to (tCons te tNil)) :=
  pe_bm PySem.F.plainAttrs_list PySem.F.slot_list_append (by rfl) mt_append ho (pa_cons he pa_nil hs) hbase hfew hline hs hplain
end
end PD
end
section
set_option Elab.async false
set_option linter.all false
set_option maxRecDepth 100000
set_option autoImplicit false
namespace PD
open PySem L2 PyProof.Rows
/-! ### defaults -/
/-- n arguments by place, the defaults behind the first j fill up -/
def Bdd (x : Str) (st : Stmt) (ps : List Str) (m n j : Nat) : Prop := ∀ (T : Addr) (kV doc pm : Value) (an : Option Addr) (cdv ct : Value) (us its : List Value), us.length = n → its.length = m →
  ∃ k, bindArgs (PySem.W.fnOf x x (defArgs st) (defBody st) (defScope st) (.ref T) kV doc pm an cdv ct) ⟨us, []⟩ = seqItems? (.ref T) >>= k ∧ k (some its.toArray) = pure (ps.zip (us ++ its.drop j))
section
variable {X : Cx} {x : Str} {st : Stmt} {ps : List Str} {k n j mm : Nat} {m : Fn} {p pos : Pos} {e : Expr} {es : List Expr} {ta : TA} {av : Av} {dv : List V} {dd : List D}
theorem ee_calD (c : Cal X.prog X.w X.K X.mg X.base x st ps k m dv) (hb : Bdd x st ps mm n j) (hr : RoomG k X.A) (ha : EA X (e :: es) ta av) (hdd : ∀ ca F, RepDs X.K X.mg ca F (dv.drop j) dd) (hd : dv ≠ []) (hm : mm = dv.length := by rfl) (hn : n + (dv.length - j) = ps.length := by rfl) (hl : (e :: es).length + (dv.drop j).length = ps.length := by rfl) (hx : Passes CX0 X E0 := by exact pass0) (hg : Gl X x := by rfl) (hdb : (x == ("__debug__" : Str)) = false := by decide)
    (he : starEach (e :: es) X.env = (false, eval e X.env) :: starEach es X.env := by rfl) (hpl : (backTo pos (starEach es X.env)).any (·.1) = false := by rfl) : EE X (.Call (.Name x p) (e :: es) [] pos) (tCall (spM X.K X.mg ps.length m) (dv.drop j) E0 ta) (eCall m dd av) := by
  subst hm
  obtain ⟨f, fd, hm, F, G⟩ := c.ex
  obtain ⟨ds, hv, hB⟩ := FunD.binds1 F n j hd hn hb
  exact ee_call G hr hm F.kp hB hv hdd ha hl hx hg hdb he hpl
theorem rd_int {K : PySem.W.Frag} {mg : Str → Option Value} (i : Int) : ∀ (ca : List Addr) (F : Hp), RepDs K mg ca F (([V.int i] : List V).drop 0) [.int i] := fun _ _ => .cons (.int i) .nil
theorem rd_nil {K : PySem.W.Frag} {mg : Str → Option Value} (i : Int) : ∀ (ca : List Addr) (F : Hp), RepDs K mg ca F (([V.int i] : List V).drop 1) [] := fun _ _ => .nil
end
/-! ### range of three -/
def stepD (lo c : Int) (n : Nat) : List D := (List.range n).map fun (k : Nat) => D.int (lo + (k : Int) * c)
theorem stepD_length (lo c : Int) (n : Nat) : (stepD lo c n).length = n := by simp [stepD]
section
variable {K : PySem.W.Frag} {mg : Str → Option Value}
def iRg3 (a : Av) : Iv := fun env cs => match a env cs with
  | some ([t, u, w], env1, cs1) => (match t.toD, u.toD, w.toD with
    | .int i, .int j, .int c => if c = -1 ∧ -(2 ^ 62) ≤ i ∧ i < 2 ^ 62 ∧ -(2 ^ 62) ≤ j ∧ j < 2 ^ 62 ∧ (i - j).toNat ≤ 16777216 then some (stepD i (-1) (i - j).toNat, keep env env1 (.sh .non) cs1, cs1) else none
    | _, _, _ => none)
  | _ => none
theorem itOk_step {ca : List Addr} {F : Hp} (lo c : Int) (n : Nat) : ItOk K mg ca F (Itc lo c n) (stepD lo c n) := fun i G hG => by
  refine ⟨fun d hd => ?_, fun hi => by rw [stepD_length] at hi; exact hi⟩
  unfold stepD at hd
  rw [List.getElem?_map] at hd
  by_cases h : i < n
  · rw [List.getElem?_range h] at hd
    cases hd
    refine ⟨h, fun x G' y => ?_⟩
    obtain ⟨rfl, rfl⟩ := y
    exact .inl ⟨rfl, .int _⟩
  · rw [List.getElem?_eq_none (by simpa using h)] at hd
    cases hd
theorem snd_rg3 {ta : TA} {av : Av} (ha : SndA K mg ta av) : SndI K mg (iRng3 ta) (iRg3 av) := by
  intro ca F H σ env cs fp ds env' cs' R S h k
  unfold iRg3 at h
  split at h
  · rename_i t u w env1 cs1 h1
    split at h
    · rename_i i j c e1 e2 e3
      split at h
      · rename_i hj
        cases h
        refine ha.data S h1 fun vs ca1 F1 H1 fp1 st1 S1 r1 => ?_
        have e : T.toDs [t, u, w] = [D.int i, D.int j, D.int c] := by simp [T.toDs, e1, e2, e3]
        rw [e] at r1
        cases r1 with
        | cons h1 h2 =>
          cases h2 with
          | cons h2 h3 =>
            cases h3 with
            | cons h3 h4 =>
              cases h4
              obtain ⟨F2, fp2, st2, S2⟩ := keepI S st1 S1
              obtain ⟨rfl, q1, q2, q3, q4, q5⟩ := hj
              refine ⟨i, j, -1, (i - j).toNat, by rw [int_of h1, int_of h2, int_of h3], RgC.neg q1 q2 q3 q4, k ca1 F2 H1 fp2 _ st2 S2 (itOk_step i _ _) ?_⟩
              rw [stepD_length, sizeLine_eq]
              omega
      · cases h
    · cases h
  · cases h
theorem ei_rg3 {X : Cx} {tg a b c : Expr} {ta : TA} {av : Av} {p pos : Pos} (hm : X.mg "range" = none) (ha : EA X [a, b, c] ta av) (hg : Gl X "range" := by rfl) (hs : starEach [a, b, c] X.env = (false, eval a X.env) :: starEach [b, c] X.env := by rfl) (hpl : (backTo pos (starEach [b, c] X.env)).any (·.1) = false := by rfl) :
    EI X tg (.Call (.Name "range" p) [a, b, c] [] pos) (iRng3 ta) (iRg3 av) := ⟨pi_range3 hg hm ha.pa hs hpl, snd_rg3 ha.snd⟩

/-! ### max of a list -/
def dMax1 : List D → Option T := on1L intsOf fun ns => match ns with
  | [] => none
  | n :: ns => some (.sh (.int (ns.foldl max n)))
theorem foldl_max_le : ∀ (ns : List Int) (n : Int), n ≤ ns.foldl max n ∧ ∀ y ∈ ns, y ≤ ns.foldl max n
  | [], n => ⟨by simp, fun y h => by cases h⟩
  | a :: ns, n => by
    obtain ⟨h1, h2⟩ := foldl_max_le ns (max n a)
    refine ⟨by simp only [List.foldl_cons]; omega, fun y h => ?_⟩
    rcases List.mem_cons.mp h with rfl | h
    · simp only [List.foldl_cons]; omega
    · exact h2 y h
theorem foldl_max_mem : ∀ (ns : List Int) (n : Int), ns.foldl max n = n ∨ ns.foldl max n ∈ ns
  | [], n => .inl rfl
  | a :: ns, n => by
    simp only [List.foldl_cons]
    rcases foldl_max_mem ns (max n a) with h | h
    · rw [h]
      rcases Int.le_total n a with q | q
      · exact .inr (by rw [Int.max_eq_right q]; exact List.mem_cons_self)
      · exact .inl (Int.max_eq_left q)
    · exact .inr (List.mem_cons_of_mem _ h)
theorem n_max1 : OpNS K mg (rMax K) dMax1 := by
  intro ca F H xs ds t Q hs r h k
  obtain ⟨d, es, ns, rfl, h1, h2, h3⟩ := on1L_of h
  cases ns with
  | nil => cases h3
  | cons n ns =>
    cases h3
    obtain ⟨v, rfl, rv⟩ := r.one
    obtain ⟨a, vs, rfl, q, l, r⟩ := rv.lists h1
    rw [intsOf_of r h2] at q
    refine ⟨a, n :: ns, rfl, SqL.mono hs q, by simp, fun m hm hmax => ?_⟩
    have e : m = ns.foldl max n := by
      obtain ⟨p1, p2⟩ := foldl_max_le ns n
      apply Int.le_antisymm
      · rcases List.mem_cons.mp hm with rfl | h
        · exact p1
        · exact p2 m h
      · rcases foldl_max_mem ns n with h | h
        · rw [h]; exact hmax _ List.mem_cons_self
        · exact hmax _ (List.mem_cons_of_mem _ h)
    rw [e]
    exact OpK.same hs k (.int _)
end

/-! ### y = x.pop() -/
def sPop (i j : Nat) : Sv := fun env cs => match env[j]? with
  | some (some (.lst ts)) => (match ts.getLast? with
    | some (.sh d) => (match gN i (.sh d) (env.set j (some (.lst ts.dropLast))) with
      | some env2 => some (.nx, env2, cs)
      | none => none)
    | _ => none)
  | _ => none
section
variable {K : PySem.W.Frag} {mg : Str → Option Value} {ca : List Addr} {F H : Hp}
theorem dropLast_snoc {α : Type} {ts : List α} {a : α} (h : ts.getLast? = some a) : ts = ts.dropLast ++ [a] := by
  obtain ⟨ys, rfl⟩ := List.getLast?_eq_some_iff.mp h
  simp
theorem RepTs.unsnoc {d : D} : ∀ {ts : List T} {vs : List V} {w : List Addr}, RepTs K mg ca F H vs (ts ++ [.sh d]) w → ∃ us y, vs = us ++ [y] ∧ RepTs K mg ca F H us ts w ∧ RepD K mg ca F y d
  | [], _, _, .cons h1 h2 => by
    cases h2
    cases h1 with
    | sh h => exact ⟨[], _, rfl, .nil, h⟩
  | t :: ts, _, _, .cons (w := w) (w' := w') h1 h2 => by
    obtain ⟨us, y, rfl, r, q⟩ := RepTs.unsnoc h2
    exact ⟨_ :: us, y, rfl, .cons h1 r, q⟩
theorem snd_pop (i j : Nat) : SndS K mg (tAsg (tBM0 K "list" rPop (tVar j)) (gName i)) (sPop i j) := by
  intro ca F H σ env cs fp o env' cs' D S h k
  unfold sPop at h
  split at h
  · rename_i ts e0
    split at h
    · rename_i d e1
      split at h
      · rename_i env2 h2
        cases h
        obtain ⟨v0, ev0, rv0⟩ := S.slot j _ e0
        refine ⟨v0, ev0, ?_⟩
        have nd0 := S.nd (.slot j)
        generalize hwj : fp (.slot j) = wj at rv0 nd0
        cases rv0 with
        | @lst p vs0 _ w0 a0 f0 l0 r0 =>
          refine ⟨.inl ⟨rfl, _, SqL.of a0⟩, ?_⟩
          have es : ts = ts.dropLast ++ [.sh d] := dropLast_snoc e1
          rw [es] at r0
          obtain ⟨us, y, rfl, ru, ry⟩ := RepTs.unsnoc r0
          refine ⟨p, us ++ [y], y, rfl, rfl, a0, by simp, ?_⟩
          rw [List.dropLast_concat]
          have npw : p ∉ w0 := (List.nodup_cons.mp nd0).1
          have W : Wr K mg ca F H fp (.slot j) p (.lst us) (.ref p) (.lst ts.dropLast) (p :: w0) := by
            refine ⟨by rw [hwj]; exact List.mem_cons_self, .lst upd_same f0 (by rw [List.length_append] at l0; omega) (RepTs.keep .refl .refl _ _ _ ru (fun a ha => (RepTs.own _ _ _ ru a ha).1) fun a ha x e => by rw [upd_ne (fun z => npw (by rw [← z]; exact ha))]; exact e), nd0, fun a ha => .inl (by rw [hwj]; exact ha)⟩
          have hj : j < env.length := (List.getElem?_eq_some_iff.mp e0).1
          have st1 := W.step S Step.refl fun a ha => .inl (by rw [hwj]; exact ha)
          have S1 := W.sim (env2 := env.set j (some (.lst ts.dropLast))) (cs2 := cs) S (by rw [List.length_set]; exact S.le) (fun l u e => by
            by_cases hl : l = j
            · subst hl
              rw [List.getElem?_set_self hj] at e
              cases e
              exact .inl ⟨rfl, rfl, ev0⟩
            · rw [List.getElem?_set_ne (Ne.symm hl)] at e
              exact .inr ⟨by simp [Ne.symm hl], e⟩) rfl fun l u e => .inr ⟨by simp, e⟩
          refine snd_gN i ca F _ σ _ cs _ y (.sh d) [] env' _ S1 (.sh ry) List.nodup_nil (fun r a ha => nomatch ha) h2 fun σ' fp' S' sub _ _ => k σ' ca F _ fp' ⟨st1.pre, st1.ff, st1.nf, st1.ext, (fun r a ha => by
            rcases sub r a ha with z | z
            · exact st1.sub r a z
            · cases z), st1.alive⟩ S'
      · cases h
    · cases h
  · cases h
/-- y = x.pop() -/
theorem es_pop {X : Cx} {i j : Nat} {y x : Str} {pos pos' px apos cpos : Pos} (hN : X.N.Nodup) (hi : X.N[i]? = some y := by rfl) (hj : X.N[j]? = some x := by rfl) (hv : Vis X.env.scope x := by first | exact .inl rfl | exact .inr (.inl rfl) | exact .inr (.inr rfl)) (hx : Loc X.env.scope y := by first | exact .inl rfl | exact .inr rfl)
    (hd : (x == ("__debug__" : Str)) = false := by decide) (hcd : (x == ("__classdict__" : Str)) = false := by decide)
    (hbase : attributeBase (.Name x px) "pop" X.env (eval (.Name x px) X.env) = eval (.Name x px) X.env := by rfl) (hline : (apos.endLine == cpos.line) = true := by rfl)
    (hs : swapsWith (.Call (.Attribute (.Name x px) "pop" apos) [] [] cpos) (some (.Name y pos')) pos.line X.env = pure false := by rfl) (hf : X.fn y = true ∨ X.env.scope.names.lookup y = some .local := by first | exact .inl rfl | exact .inr rfl | assumption) :
    ES X (.Assign [.Name y pos'] (.Call (.Attribute (.Name x px) "pop" apos) [] [] cpos) pos) (tAsg (tBM0 X.K "list" rPop (tVar j)) (gName i)) (sPop i j) :=
  ⟨ps_set hN hi hx (pe_bm0 PySem.F.plainAttrs_list PySem.F.slot_list_pop (by rfl) mt_pop (pe_var hj hv hd hcd) hbase hline) hs hf, snd_pop i j⟩
end

/-! ### [a, *b] -/
/-- *e in a display -/
def aStar (b : Ev) (r : Av) : Av := fun env cs => match b env cs with
  | none => none
  | some (u, env1, cs1) => match u.toD.seqL with
    | none => none
    | some ds => match r env1 cs1 with
      | none => none
      | some (ts, env2, cs2) => some (ds.map .sh ++ ts, env2, cs2)
/-- a display of as many as there are -/
def eLstB (a : Av) : Ev := fun env cs => match a env cs with
  | none => none
  | some (ts, env1, cs1) => if ts.length ≤ sizeLine then some (.lst ts, env1, cs1) else none
/-- arguments, however many -/
structure EB (X : Cx) (es : List Expr) (ta : TA) (av : Av) : Prop where
  pa : PA X es ta
  snd : SndA X.K X.mg ta av
section
variable {K : PySem.W.Frag} {mg : Str → Option Value} {te : TE} {ev : Ev} {ta : TA} {av : Av}
theorem snd_star (hb : SndE K mg te ev) (hr : SndA K mg ta av) : SndA K mg (StX.tStar K te ta) (aStar ev av) := by
  intro ca F H σ env cs fp ts env' cs' Q S h k
  unfold aStar at h
  split at h
  · cases h
  · rename_i u env1 cs1 h1
    split at h
    · cases h
    · rename_i ds hd
      split at h
      · cases h
      · rename_i ts2 env2 cs2 h2
        cases h
        refine hb.data S h1 fun v ca1 F1 H1 fp1 st1 S1 rv => ?_
        obtain ⟨a, vs, rfl, q, l, r⟩ := rv.lists hd
        refine ⟨a, vs, rfl, .inr (SqL.mono S1.sub q), ?_⟩
        refine hr ca1 F1 H1 σ env1 cs1 fp1 _ _ _ _ S1 h2 fun ws ca2 F2 H2 fp2 w2 st2 S2 r2 nd2 fr2 dj2 => ?_
        exact k (vs ++ ws) ca2 F2 H2 fp2 w2 (st1.trans st2) S2 (RepTs.append (w := []) (RepTs.sh (RepDs.mono st2.ff st2.pre _ _ r)) r2) nd2 (fun a ha => st1.noneOf (fr2 a ha)) dj2
theorem eb_nil {X : Cx} : EB X [] tNil aNil := ⟨pa_nil, snd_nil⟩
theorem eb_cons {X : Cx} {e : Expr} {es : List Expr} (ha : EE X e te ev) (hr : EB X es ta av) (hs : starEach (e :: es) X.env = (false, eval e X.env) :: starEach es X.env := by rfl) : EB X (e :: es) (tCons te ta) (aCons ev av) := ⟨pa_cons ha.pe hr.pa hs, snd_cons ha.snd hr.snd⟩
theorem eb_star {X : Cx} {e : Expr} {es : List Expr} {p : Pos} (ha : EE X e te ev) (hr : EB X es ta av) (hs : starEach (.Starred e p :: es) X.env = (true, eval e X.env) :: starEach es X.env := by rfl) : EB X (.Starred e p :: es) (StX.tStar X.K te ta) (aStar ev av) := ⟨StX.pa_star ha.pe hr.pa hs, snd_star ha.snd hr.snd⟩
theorem ee_lstB {X : Cx} {es : List Expr} {pos : Pos} (h : EB X es ta av) : EE X (.List es pos) (tLst ta) (eLstB av) := by
  refine ⟨pe_lst h.pa, ?_⟩
  intro ca F H σ env cs fp t env' cs' Q S hh k
  unfold eLstB at hh
  split at hh
  · cases hh
  · rename_i ts env1 cs1 h1
    split at hh
    · rename_i hl
      cases hh
      refine h.snd ca F H σ env cs fp _ _ _ _ S h1 fun vs ca1 F1 H1 fp1 w st1 S1 r1 nd fr dj => ?_
      have hz : vs.length ≤ sizeLine := by rw [RepTs.length r1]; exact hl
      refine ⟨hz, fun p hp => ?_⟩
      have g : Grow F1 H1 F1 (upd H1 p (.lst vs)) := Grow.laid S1.sub hp
      have hpw : p ∉ w := fun z => by obtain ⟨_, o, q⟩ := RepTs.own _ _ _ r1 p z; rw [hp] at q; cases q
      refine k (.ref p) ca1 F1 (upd H1 p (.lst vs)) fp1 (p :: w) (st1.trans g.step) (S1.grow g) (.lst upd_same (S1.sub.none hp) hz (RepTs.keep .refl .refl _ _ _ r1 (fun a ha => (RepTs.own _ _ _ r1 a ha).1) fun a ha o e => by rw [upd_ne (fun z => hpw (by rw [← z]; exact ha))]; exact e)) (List.nodup_cons.mpr ⟨hpw, nd⟩) (fun a ha => ?_) fun r a ha => ?_
      · rcases List.mem_cons.mp ha with rfl | ha
        · exact st1.noneOf hp
        · exact fr a ha
      · rcases List.mem_cons.mp ha with rfl | ha
        · intro z
          obtain ⟨_, o, q, _⟩ := S1.own r a z
          rw [hp] at q; cases q
        · exact dj r a ha
    · cases hh
end
end PD
end
section
set_option Elab.async false
set_option linter.all false
set_option maxRecDepth 100000
set_option autoImplicit false
namespace PD
open PySem PySem.Spec L2 PyProof.Rows
/-! ### repr -/
def isDisp : PyData → Bool
  | .list _ => true
  | .tuple _ => true
  | _ => false
/-- repr of deep plain data, of an empty dict -/
def rRepr (K : PySem.W.Frag) : List V → Hp → VK → Prop := fun xs H Q => ∃ x p, xs = [x] ∧ ((Dp K H x p ∧ p.depth ≤ 60 ∧ p.hasDict = false) ∨ (∃ a, x = .ref a ∧ Rd H a (.dK []) ∧ p = .dict [])) ∧ p.showable = true ∧ p.shown.length ≤ sizeLine ∧ Q (.str p.shown) H
theorem cr_repr {X : Cx} (hg : X.A.guards = some []) (hu : X.A.units + 65 < cLine) : CallR X (.builtin "repr") (rRepr X.K) := by
  intro pins s σ H xs us Q I r h
  obtain ⟨x, p, rfl, hp, hs, hz, q⟩ := h
  obtain ⟨u, rfl, ru⟩ := r.one
  have fin : ∀ h' u' tk, (∀ b o, s.heap.get? b = some o → h'.get? b = some o) → EP X pins σ Q (.str p.shown u') { s with heap := h', toks := tk } := fun h' u' tk hk => ⟨.str p.shown, H, I.kept hk, ⟨_, rfl⟩, q⟩
  rcases hp with ⟨dp, hd, hn⟩ | ⟨a, rfl, ha, rfl⟩
  · obtain ⟨as, rd⟩ := Dp.reads I p x u dp ru
    cases rd with
    | none => exact PySem.P.repr_of_none ⟨.str _, H, I.tok _, ⟨_, rfl⟩, q⟩
    | bool b => exact PySem.P.repr_of_bool ⟨.str _, H, I.tok _, ⟨_, rfl⟩, by cases b <;> exact q⟩
    | int i t => exact PySem.P.repr_of_int (by simpa [PyData.showable] using hs) ⟨.str _, H, I.tok _, ⟨_, rfl⟩, q⟩
    | str y t => exact PySem.P.repr_of_str ⟨.str _, H, I.tok _, ⟨_, rfl⟩, q⟩ hz
    | list e1 e2 e3 e4 => exact repr_of_reads' (Reads.list e1 e2 e3 e4) hs (PyData.noDict_hsm hn) hg (by omega) (fun _ _ e => e) fin hz
    | tuple e1 e2 e3 e4 => exact repr_of_reads' (Reads.tuple e1 e2 e3 e4) hs (PyData.noDict_hsm hn) hg (by omega) (fun _ _ e => e) fin hz
    | dict e1 e2 e3 e4 e5 => simp [PyData.hasDict] at hn
  · obtain rfl : u = Value.ref a := ru
    obtain ⟨hl, hm, vs, rel, o, es, ep, e1, e2, e3, e4, e5, e6⟩ := dk_rd I.hok ha
    cases rel
    have he : es = #[] := by
      cases es with | mk l => cases e5; rfl
    subst he
    refine repr_of_reads' (Reads.dict (as := []) (bs := []) (kvs := []) e1 e2.1 e3 .nil .nil) hs (fun _ => ?_) hg (by simp [PyData.depth, PyData.depthKv]; omega) (fun _ _ e => e) fin hz
    intro z
    simp at z
    rw [z] at hm
    simp at hm
def reprOf : D → Option PyData
  | .dct .K [] => some (.dict [])
  | d => if d.isPy 60 = true then some d.py else none
def dRepr : List D → Option T
  | [d] => match reprOf d with
    | some p => if p.showable = true ∧ p.shown.length ≤ sizeLine then some (.sh (.rep p)) else none
    | none => none
  | _ => none
section
variable {K : PySem.W.Frag} {mg : Str → Option Value}
mutual
theorem D.py_noDict : ∀ d : D, d.py.hasDict = false
  | .non => rfl
  | .bl _ => rfl
  | .int _ => rfl
  | .str _ => rfl
  | .tup _ xs => by simp only [D.py, PyData.hasDict]; exact D.pys_noDict xs
  | .lst xs => by simp only [D.py, PyData.hasDict]; exact D.pys_noDict xs
  | .rlst xs => by simp only [D.py, PyData.hasDict]; exact D.pys_noDict xs
  | .dct _ _ => by simp [D.py, PyData.hasDict]
  | .fn _ => by simp [D.py, PyData.hasDict]
  | .ty _ => by simp [D.py, PyData.hasDict]
  | .cell _ => by simp [D.py, PyData.hasDict]
  | .rep _ => by simp [D.py, PyData.hasDict]
theorem D.pys_noDict : ∀ ds : List D, PyData.hasDictAll (D.pys ds) = false
  | [] => rfl
  | d :: ds => by simp only [D.pys, PyData.hasDictAll, D.py_noDict d, D.pys_noDict ds, Bool.or_false]
end
theorem n_repr : OpNS K mg (rRepr K) dRepr := by
  intro ca F H xs ds t Q hs r h k
  unfold dRepr at h
  split at h
  · rename_i d
    split at h
    · rename_i p hp
      split at h
      · rename_i hz
        cases h
        obtain ⟨v, rfl, rv⟩ := r.one
        refine ⟨v, p, rfl, ?_, hz.1, hz.2, OpK.same hs k (.rep p)⟩
        unfold reprOf at hp
        split at hp
        · cases hp
          obtain ⟨a, kvs, rfl, q, l, r⟩ := rv.dK'
          cases r
          exact .inr ⟨a, rfl, Rd.mono hs q, rfl⟩
        · split at hp
          · rename_i hpy
            cases hp
            obtain ⟨h1, h2, h3⟩ := RepD.dp _ v 60 rv hpy
            exact .inl ⟨Dp.mono hs _ _ h1, h3, D.py_noDict _⟩
          · cases hp
      · cases h
    · cases h
  · cases h
end
end PD
end
section
set_option Elab.async false
set_option linter.all false
set_option maxRecDepth 100000
set_option maxHeartbeats 2000000
set_option autoImplicit false
/-! dict comprehensions of two loops: the walk of HandS's list comprehension of two loops, turned to dicts -/
namespace PD
open PySem PySem.Spec PyProof.Rows L2
theorem compTurn2D_out (kx vx t0 i0 t1 i1 : Expr) (ifs0 ifs1 : List Expr) (scope : Scope) (pos : Pos) (it : Value) (D : Addr) (env : PySem.Env) :
    compTurn (.DictComp kx vx [⟨t0, i0, ifs0, 0⟩, ⟨t1, i1, ifs1, 0⟩] scope pos) 0 it (.ref D) env = (do
      standAt i0.pos
      match ← pyNext it with
      | none => pure (.done .next)
      | some v =>
        letOwnedTupleGo t0 it v
        assign t0 env v
        let mut ok := true
        for c in ifs0 do
          if ok then ok ← isTrue c env (eval c env)
        if ok then
          let x ← eval i1 env
          standAt i1.pos
          let x ← foldedSetIterable i1 env x
          let _ ← runOwn (.compStart (.DictComp kx vx [⟨t0, i0, ifs0, 0⟩, ⟨t1, i1, ifs1, 0⟩] scope pos) 1 (← holding [x] (pyIter x)) (.ref D) env) env
        again (.compLoop (.DictComp kx vx [⟨t0, i0, ifs0, 0⟩, ⟨t1, i1, ifs1, 0⟩] scope pos) 0 it (.ref D) env)) := by rfl
theorem compTurn2D_in (kx vx t0 i0 t1 i1 : Expr) (ifs0 ifs1 : List Expr) (scope : Scope) (pos : Pos) (it : Value) (D : Addr) (env : PySem.Env) :
    compTurn (.DictComp kx vx [⟨t0, i0, ifs0, 0⟩, ⟨t1, i1, ifs1, 0⟩] scope pos) 1 it (.ref D) env = (do
      standAt i1.pos
      match ← pyNext it with
      | none => pure (.done .next)
      | some v =>
        letOwnedTupleGo t1 it v
        assign t1 env v
        let mut ok := true
        for c in ifs1 do
          if ok then ok ← isTrue c env (eval c env)
        if ok then
          (do
            let kv ← eval kx env
            let vv ← holding [kv] (eval vx env)
            standAt { kx.pos with endLine := vx.pos.endLine, endCol := vx.pos.endCol }
            holding [kv, vv] (dictSet D kv vv))
        again (.compLoop (.DictComp kx vx [⟨t0, i0, ifs0, 0⟩, ⟨t1, i1, ifs1, 0⟩] scope pos) 1 it (.ref D) env)) := by rfl

section
variable {prog : Program} {w : World} {A : Around} {R : Result → Shared → Prop} {s : Shared} {kx vx t0 i0 t1 i1 : Expr} {ifs0 ifs1 : List Expr} {scope : Scope} {pos : Pos} {it : Value} {D : Addr} {env : PySem.Env}
/-- the loop of the first clause -/
theorem compLoop2D_out (hs : ∀ x, foldedSetIterable i1 env x = pure x) (I : Nat → Shared → Prop)
    (turn : ∀ n s, I n s → wpAny (model prog w) A (pyNext it) (fun r s₁ => match r with
      | none => R (.ok .next) s₁
      | some v => wpAny (model prog w) A (letOwnedTupleGo t0 it v) (fun _ s₁' => wpAny (model prog w) A (assign t0 env v) (fun _ s₂ =>
          wpAny (model prog w) A (forIn ifs0 true fun c r => if r = true then do let ok ← isTrue c env (eval c env); pure (ForInStep.yield ok) else pure (ForInStep.yield r)) (fun ok s₃ =>
            if ok = true then wpAny (model prog w) A (eval i1 env) (fun x s₄ => wpAny (model prog w) A (pyIter x) (fun it1 s₅ =>
              codeAny (model prog w) A (.compStart (.DictComp kx vx [⟨t0, i0, ifs0, 0⟩, ⟨t1, i1, ifs1, 0⟩] scope pos) 1 it1 (.ref D) env) (fun r s' => match r with
                | .ok _ => ∃ m, m < n ∧ I m s'
                | .error _ => False) s₅) (notedBy (model prog w) A env fun e s' => R (.error e) s') s₄) (notedBy (model prog w) A env fun e s' => R (.error e) s') s₃
            else ∃ m, m < n ∧ I m s₃) (notedBy (model prog w) A env fun e s' => R (.error e) s') s₂) (notedBy (model prog w) A env fun e s' => R (.error e) s') s₁') (notedBy (model prog w) A env fun e s' => R (.error e) s') s₁) (notedBy (model prog w) A env fun e s' => R (.error e) s') s)
    (n : Nat) (h : I n s) :
    codeAny (model prog w) A (.compLoop (.DictComp kx vx [⟨t0, i0, ifs0, 0⟩, ⟨t1, i1, ifs1, 0⟩] scope pos) 0 it (.ref D) env) R s := by
  refine codeAny_loop rfl I (fun n s hI => ?_) n h
  show wpAny _ A ((compTurn (.DictComp kx vx [⟨t0, i0, ifs0, 0⟩, ⟨t1, i1, ifs1, 0⟩] scope pos) 0 it (.ref D) env).onRaise (fun x => do noteFrame x env; theTreesLotGoes x)) _ _ s
  refine wpAny_noted ?_
  rw [compTurn2D_out]
  refine wpAny_bind (wpAny_standAt (wpAny_bind (wpAny_mono (turn n s hI) (fun r s₁ h₁ => ?_) fun _ _ h' => h')))
  cases r with
  | none => exact wpAny_pure h₁
  | some v =>
    refine wpAny_bind (wpAny_mono h₁ (fun _ s₁' h₁' => ?_) fun _ _ h' => h')
    refine wpAny_bind (wpAny_mono h₁' (fun _ s₂ h₂ => wpAny_bind (wpAny_mono h₂ (fun ok s₃ h₃ => ?_) fun _ _ h' => h')) fun _ _ h' => h')
    cases ok with
    | false => exact wpAny_pure ⟨rfl, h₃⟩
    | true =>
      refine wpAny_bind (wpAny_mono h₃ (fun x s₄ h₄ => ?_) fun _ _ h' => h')
      refine wpAny_bind (wpAny_standAt (wpAny_bind (wpAny_of_eq (hs x) (wpAny_bind (wpAny_holding (wpAny_mono h₄ (fun it1 s₅ h₅ => ?_) fun _ _ h' => h'))))))
      refine wpAny_bind (wpAny_runOwn ?_)
      rw [Around.mark_none]
      refine codeAny_mono h₅ fun r s' hr => ?_
      cases r with
      | ok f =>
        first
          | exact wpAny_pure ⟨rfl, hr⟩
          | exact wpAny_bind (wpAny_pure (wpAny_pure ⟨rfl, hr⟩))
      | error e => exact hr.elim
/-- the loop of the second -/
theorem compLoop2D_in (I : Nat → Shared → Prop)
    (turn : ∀ n s, I n s → wpAny (model prog w) A (pyNext it) (fun r s₁ => match r with
      | none => R (.ok .next) s₁
      | some v => wpAny (model prog w) A (letOwnedTupleGo t1 it v) (fun _ s₁' => wpAny (model prog w) A (assign t1 env v) (fun _ s₂ =>
          wpAny (model prog w) A (forIn ifs1 true fun c r => if r = true then do let ok ← isTrue c env (eval c env); pure (ForInStep.yield ok) else pure (ForInStep.yield r)) (fun ok s₃ =>
            if ok = true then wpAny (model prog w) A (eval kx env) (fun kv s₄ => wpAny (model prog w) A (eval vx env) (fun vv s₅ =>
              wpAny (model prog w) A (dictSet D kv vv) (fun _ s₆ => ∃ m, m < n ∧ I m s₆) (notedBy (model prog w) A env fun e s' => R (.error e) s') s₅) (notedBy (model prog w) A env fun e s' => R (.error e) s') s₄) (notedBy (model prog w) A env fun e s' => R (.error e) s') s₃
            else ∃ m, m < n ∧ I m s₃) (notedBy (model prog w) A env fun e s' => R (.error e) s') s₂) (notedBy (model prog w) A env fun e s' => R (.error e) s') s₁') (notedBy (model prog w) A env fun e s' => R (.error e) s') s₁) (notedBy (model prog w) A env fun e s' => R (.error e) s') s)
    (n : Nat) (h : I n s) :
    codeAny (model prog w) A (.compLoop (.DictComp kx vx [⟨t0, i0, ifs0, 0⟩, ⟨t1, i1, ifs1, 0⟩] scope pos) 1 it (.ref D) env) R s := by
  refine codeAny_loop rfl I (fun n s hI => ?_) n h
  show wpAny _ A ((compTurn (.DictComp kx vx [⟨t0, i0, ifs0, 0⟩, ⟨t1, i1, ifs1, 0⟩] scope pos) 1 it (.ref D) env).onRaise (fun x => do noteFrame x env; theTreesLotGoes x)) _ _ s
  refine wpAny_noted ?_
  rw [compTurn2D_in]
  refine wpAny_bind (wpAny_standAt (wpAny_bind (wpAny_mono (turn n s hI) (fun r s₁ h₁ => ?_) fun _ _ h' => h')))
  cases r with
  | none => exact wpAny_pure h₁
  | some v =>
    refine wpAny_bind (wpAny_mono h₁ (fun _ s₁' h₁' => ?_) fun _ _ h' => h')
    refine wpAny_bind (wpAny_mono h₁' (fun _ s₂ h₂ => wpAny_bind (wpAny_mono h₂ (fun ok s₃ h₃ => ?_) fun _ _ h' => h')) fun _ _ h' => h')
    cases ok with
    | false => exact wpAny_pure ⟨rfl, h₃⟩
    | true =>
      exact wpAny_bind (wpAny_bind (wpAny_mono h₃ (fun kv s₄ h₄ => wpAny_bind (wpAny_holding (wpAny_mono h₄ (fun vv s₅ h₅ => wpAny_bind (wpAny_standAt (wpAny_holding (wpAny_mono h₅ (fun _ s₆ h₆ => wpAny_pure ⟨rfl, h₆⟩) fun _ _ h' => h')))) fun _ _ h' => h'))) fun _ _ h' => h'))
/-- the second clause's start -/
theorem compStart1D_ok (h0 : codeAny (model prog w) A (.compLoop (.DictComp kx vx [⟨t0, i0, ifs0, 0⟩, ⟨t1, i1, ifs1, 0⟩] scope pos) 1 it (.ref D) env) R s)
    (h : wpAny (model prog w) A (pyIter it) (fun it' s' => codeAny (model prog w) A (.compLoop (.DictComp kx vx [⟨t0, i0, ifs0, 0⟩, ⟨t1, i1, ifs1, 0⟩] scope pos) 1 it' (.ref D) env) R s')
      (notedBy (model prog w) A env fun x s' => R (.error x) s') s) :
    codeAny (model prog w) A (.compStart (.DictComp kx vx [⟨t0, i0, ifs0, 0⟩, ⟨t1, i1, ifs1, 0⟩] scope pos) 1 it (.ref D) env) R s := by
  refine codeAny_of_tree ?_
  show wpAny _ _ ((compStart (.DictComp kx vx [⟨t0, i0, ifs0, 0⟩, ⟨t1, i1, ifs1, 0⟩] scope pos) 1 it (.ref D) env).onRaise (fun x => do noteFrame x env; standAt theWindowsPlace)) _ _ s
  refine wpAny_notedAt ?_
  unfold compStart
  show wpAny _ _ (ask >>= _) _ _ s
  refine wpAny_bind (wpAny_askSetting (wpAny_ite ?_))
  split
  · first
      | exact wpAny_bind (wpAny_pure (wpAny_pure (And.intro rfl h0)))
      | exact wpAny_pure (And.intro rfl h0)
  · first
      | exact wpAny_bind (wpAny_rule (wpAny_bind (wpAny_standAt (wpAny_bind (wpAny_mono h (fun it' s' h' => wpAny_pure (And.intro rfl h')) fun _ _ x => x)))))
      | (refine wpAny_bind (wpAny_rule ?_); show wpAny _ _ (standAt i1.pos >>= _) _ _ s; exact wpAny_bind (wpAny_standAt (wpAny_bind (wpAny_mono h (fun it' s' h' => wpAny_pure (And.intro rfl h')) fun _ _ x => x))))
end

section
variable {X : Cx}
def tDc2 (wi : TI) (g : TG) (tt : TT) (wi1 : TI) (g1 : TG) (tt1 : TT) (tk tv : TE) (vs vs1 : List Nat) : TE := fun σ H Q => wi σ H fun J H1 => ∀ D, H1 D = none → ∃ W : Nat → Nat → Hp → Prop, (∃ m, W 0 m (upd H1 D (.dK []))) ∧ ∀ i m H, W i m H →
  (J.stop i H ∧ Q (.ref D) H) ∨ (J.go i H ∧ ∃ Nx : Hp → Prop, (∀ H', Nx H' → ∃ m', m' < m ∧ W (i + 1) m' H') ∧ ∀ x H', J.yld i H x H' → g x (wipe σ vs) H' fun σ2 H2 => wipe σ2 vs = wipe σ vs ∧ tt σ2 H2 fun b H3 =>
    if b = true then wi1 σ2 H3 fun J1 H4 => ∃ W1 : Nat → Nat → Hp → Prop, (∃ m, W1 0 m H4) ∧ ∀ j k H, W1 j k H →
      (J1.stop j H ∧ Nx H) ∨ (J1.go j H ∧ ∃ Nx1 : Hp → Prop, (∀ H', Nx1 H' → ∃ k', k' < k ∧ W1 (j + 1) k' H') ∧ ∀ x H', J1.yld j H x H' → g1 x (wipe σ2 vs1) H' fun σ3 H5 => wipe σ3 vs1 = wipe σ2 vs1 ∧ tt1 σ3 H5 fun b H6 =>
        if b = true then tk σ3 H6 fun y H7 => tv σ3 H7 fun z H8 => ∃ kvs k, y = kV k ∧ H8 D = some (.dK kvs) ∧ kvs.length < sizeLine ∧ Nx1 (upd H8 D (.dK (putK kvs k z))) else Nx1 H6)
    else Nx H3)
theorem dc2_core {pins : List (Addr × Obj)} {s : Shared} {σ : St} {H : Hp} {Q : VK} {kx vx tg iter tg1 iter1 : Expr} {ifs ifs1 : List Expr} {scope : Scope} {own : List (Str × Nat)} {vs1 : List Nat} {pos pos' : Pos} {wi wi1 : TI} {g g1 : TG} {tt tt1 : TT} {tk tv : TE} {use : Option (Value → Sem Unit)} {Qf : Value → Shared → Prop}
    (hc : X.calm = true) (hN : X.N.Nodup) (I : Inv X pins σ H s) (hi : PI X tg iter wi) (ok : BlkOk X.N X.env.scope scope own) (hv : ∀ i ∈ vs1, i ∈ own.map (·.2))
    (hg : ∀ (s : Shared) (H : Hp) (C : Addr) (cl : List (Str × Addr)) (fp : List Addr), PG (X.blk s H scope (compEnvC scope cl C X.env) fp) tg g) (ht : ∀ (s : Shared) (H : Hp) (C : Addr) (cl : List (Str × Addr)) (fp : List Addr), PTs (X.blk s H scope (compEnvC scope cl C X.env) fp) ifs tt)
    (hk : ∀ (s : Shared) (H : Hp) (C : Addr) (cl : List (Str × Addr)) (fp : List Addr), PE (X.blk s H scope (compEnvC scope cl C X.env) fp) kx tk) (he : ∀ (s : Shared) (H : Hp) (C : Addr) (cl : List (Str × Addr)) (fp : List Addr), PE (X.blk s H scope (compEnvC scope cl C X.env) fp) vx tv) (hs : ∀ x, foldedSetIterable iter X.env x = pure x)
    (hi1 : ∀ (s : Shared) (H : Hp) (C : Addr) (cl : List (Str × Addr)) (fp : List Addr), PI (X.blk s H scope (compEnvC scope cl C X.env) fp) tg1 iter1 wi1)
    (hg1 : ∀ (s : Shared) (H : Hp) (C : Addr) (cl : List (Str × Addr)) (fp : List Addr), PG (X.blk s H scope (compEnvC scope cl C X.env) fp) tg1 g1)
    (ht1 : ∀ (s : Shared) (H : Hp) (C : Addr) (cl : List (Str × Addr)) (fp : List Addr), PTs (X.blk s H scope (compEnvC scope cl C X.env) fp) ifs1 tt1)
    (hs1 : ∀ env x, foldedSetIterable iter1 env x = pure x)
    (h : tDc2 wi g tt wi1 g1 tt1 tk tv (own.map (·.2)) vs1 σ H Q)
    (hRR : ∀ D C s' m H', Inv X pins σ H' s' → Q (.ref D) H' → s'.heap.Ns C m → FpOk X pins H' C → compPost (model X.prog X.w) X.A X.xe use Qf (.ref D) C (.ok .next) s') :
    wpAny (model X.prog X.w) X.A (comprehension (.DictComp kx vx [⟨tg, iter, ifs, 0⟩, ⟨tg1, iter1, ifs1, 0⟩] scope pos) scope X.env pos' newDict false (eval iter X.env) use) Qf X.xe s := by
  have hfree : ∀ y ∈ scope.names, y.2 = .free → ∃ c, X.env.cells.lookup y.1 = some c := fun y hy e => by
    rcases ok.free y hy e with k | k
    · exact I.ok.has _ (.inl k)
    · exact I.ok.has _ (.inr k)
  refine wpAny_comprehension_free (use := use) rfl hs (closure_ok hfree) ok.kind (fun y hy e => by rw [ok.uniq y hy, e])
    (thn (hi.run pins s σ H _ I h) fun xv s1 hx => thn hx fun itv s2 h2 => ?_)
  obtain ⟨it, fp, tn, J, H2, e, I2, T, st2, f2, q⟩ := h2
  subst e
  refine wpAny_newObj_type (newEnv_comp ?_) 
  generalize hD : s2.heap.objs.size = D
  have hDn : H2 D = none := I2.hok.fresh (Nat.le_of_eq hD)
  obtain ⟨W, ⟨m0, w0⟩, turn⟩ := q D hDn
  -- the new list
  generalize hs3 : ({ s2 with heap := s2.heap.push { cls := .type "dict", data := .dict #[] } } : Shared) = s3
  have I3 : Inv X pins σ (upd H2 D (.dK [])) s3 := by
    rw [← hs3]
    refine I2.laid (t' := s2.toks) (fun b o e => Heap.get?_push_of_some _ e) (Nat.le_of_eq hD) ?_
    rw [← hD]
    exact dk_empty s2.heap I2.big
  have h3 : s3.heap = s2.heap.push { cls := .type "dict", data := .dict #[] } := by rw [← hs3]
  have sz : ∀ b ∈ fp, b < s2.heap.objs.size := fun b hb => by
    obtain ⟨o, e, _⟩ := T.obj _ _ st2 b hb
    exact Heap.lt_size e
  have f3 : ∀ b ∈ fp, FpOk X pins (upd H2 D (.dK [])) b ∧ b < s3.heap.objs.size := fun b hb => by
    have hlt := sz b hb
    refine ⟨⟨?_, (f2 b hb).2⟩, by rw [h3, Heap.size_push]; exact Nat.lt_succ_of_lt hlt⟩
    rw [upd_ne (by rw [← hD]; exact Nat.ne_of_lt hlt)]
    exact (f2 b hb).1
  have st3 : tn 0 s3.heap := T.keep _ _ _ st2 fun b _ o e => by rw [h3]; exact Heap.get?_push_of_some _ e
  have I4 := block_start I3 ok hN f3
  have pg := hg s3 (upd H2 D (.dK [])) s3.heap.objs.size (cellsFrom (s3.heap.objs.size + 1) scope.names (cloFrom X.env.cells scope.names [])) fp
  have pt := ht s3 (upd H2 D (.dK [])) s3.heap.objs.size (cellsFrom (s3.heap.objs.size + 1) scope.names (cloFrom X.env.cells scope.names [])) fp
  have pk := hk s3 (upd H2 D (.dK [])) s3.heap.objs.size (cellsFrom (s3.heap.objs.size + 1) scope.names (cloFrom X.env.cells scope.names [])) fp
  have pe := he s3 (upd H2 D (.dK [])) s3.heap.objs.size (cellsFrom (s3.heap.objs.size + 1) scope.names (cloFrom X.env.cells scope.names [])) fp
  have pi1 := hi1 s3 (upd H2 D (.dK [])) s3.heap.objs.size (cellsFrom (s3.heap.objs.size + 1) scope.names (cloFrom X.env.cells scope.names [])) fp
  have pg1 := hg1 s3 (upd H2 D (.dK [])) s3.heap.objs.size (cellsFrom (s3.heap.objs.size + 1) scope.names (cloFrom X.env.cells scope.names [])) fp
  have pt1 := ht1 s3 (upd H2 D (.dK [])) s3.heap.objs.size (cellsFrom (s3.heap.objs.size + 1) scope.names (cloFrom X.env.cells scope.names [])) fp
  show codeAny _ _ (.compStart (.DictComp kx vx [⟨tg, iter, ifs, 0⟩, ⟨tg1, iter1, ifs1, 0⟩] scope pos) 0 (.ref it) (.ref D) (compEnvC scope (cellsFrom (s3.heap.objs.size + 1) scope.names (cloFrom X.env.cells scope.names [])) s3.heap.objs.size X.env)) (compPost (model X.prog X.w) X.A X.xe use Qf (.ref D) s3.heap.objs.size) { s3 with heap := pushCells (s3.heap.push { cls := .type "dict", data := .dict #[] }) scope.names }
  have nfp : ∀ b ∈ fp, (upd H2 D (.dK [])) b = none := fun b hb => (f3 b hb).1.1
  generalize hce : compEnvC scope (cellsFrom (s3.heap.objs.size + 1) scope.names (cloFrom X.env.cells scope.names [])) s3.heap.objs.size X.env = ce at I4 pg pt pk pe pi1 pg1 pt1 ⊢
  have cL : ce.locals = s3.heap.objs.size := by subst hce; rfl
  generalize hH3 : upd H2 D (.dK []) = H3 at I3 I4 pg pt pk pe pi1 pg1 pt1 w0 nfp f3
  generalize hs4 : ({ s3 with heap := pushCells (s3.heap.push { cls := .type "dict", data := .dict #[] }) scope.names } : Shared) = s4 at I4 ⊢
  have st4 : tn 0 s4.heap := T.keep _ _ _ st3 fun b _ o e => by rw [← hs4]; exact pushCells_keeps _ _ _ _ (Heap.get?_push_of_some _ e)
  have stat : ∀ {σ' : St} {H' : Hp} {s' : Shared}, Inv (X.blk s3 H3 scope ce fp) [] σ' H' s' → (∀ b ∈ fp, H' b = none) → ∀ b ∈ fp, FpOk (X.blk s3 H3 scope ce fp) [] H' b := fun {σ' H' s'} I' hn b hb =>
    ⟨hn b hb, (I'.ok.exf b hb).1, I'.ok.exfs b hb, .inl hb, fun x c e => (I'.ok.exf b hb).2 x c e, fun p hp => absurd (show p ∈ ([] : List (Addr × Obj)) ++ [] from hp) (by simp)⟩
  have loop : codeAny (model X.prog X.w) X.A (.compLoop (.DictComp kx vx [⟨tg, iter, ifs, 0⟩, ⟨tg1, iter1, ifs1, 0⟩] scope pos) 0 (.ref it) (.ref D) ce) (compPost (model X.prog X.w) X.A X.xe use Qf (.ref D) s3.heap.objs.size) s4 := by
    refine compLoop2D_out (hs1 ce) (fun n s' => ∃ i H', Inv (X.blk s3 H3 scope ce fp) [] (wipe σ (own.map (·.2))) H' s' ∧ tn i s'.heap ∧ (∀ b ∈ fp, H' b = none) ∧ W i n H') ?_ m0 ⟨0, H3, I4, st4, nfp, w0⟩
    rintro n s5 ⟨i, H5, I5, st5, n5, w5⟩
    rcases turn i n H5 w5 with ⟨stop, qq⟩ | ⟨go, Nx, hNx, step⟩
    · have td := T.done (X.blk s3 H3 scope ce fp) rfl rfl rfl hc i [] s5 _ H5 (fun _ _ => False) I5 (stat I5 n5) st5 stop
      refine thnF td fun r s6 ⟨hr, I6⟩ => ?_
      subst hr
      -- back in the def's context
      have I7 : Inv X pins σ H5 s6 := I3.call' (ch := fp) I6.os I6.base I6.hok I6.bare fun b hb => ⟨(f3 b hb).1.2.2.2.1, (f3 b hb).1.2.1, (f3 b hb).1.2.2.2.2.1, (f3 b hb).1.2.2.2.2.2⟩
      have nC : H5 s3.heap.objs.size = none := by
        have z : H5 ce.locals = none := I6.free
        rw [cL] at z
        exact z
      obtain ⟨m, hn, _⟩ := I6.loc
      have hn : s6.heap.Ns ce.locals m := hn
      rw [cL] at hn
      exact hRR D s3.heap.objs.size s6 m H5 I7 qq hn (I3.fpOk (Nat.le_refl _) nC)
    · have ti := T.item (X.blk s3 H3 scope ce fp) rfl rfl rfl hc i [] s5 _ H5 (fun _ _ => False) I5 (stat I5 n5) st5 go
      refine thnF ti fun r s6 ⟨u, hr, h6⟩ => ?_
      subst hr
      refine thnF h6 fun _ s7 ⟨x, H7, I7, r7, y7, st7, n7⟩ => ?_
      have I7' := I7.pinned (stat I7 n7) (T.obj _ _ st7)
      refine thnF (pg.run _ s7 _ H7 x u _ I7' r7 (step x H7 y7)) fun _ s8 ⟨σ8, H8, I8, hw8, q8⟩ => ?_
      refine thnF (pt.run _ s8 σ8 H8 _ I8 q8) fun b s9 ⟨H9, I9, q9⟩ => ?_
      -- the turn's end, from any slots that know what the block knew at its start
      have fin : ∀ {σ9 : St} {s' : Shared} {H' : Hp}, Inv (X.blk s3 H3 scope ce fp) ([] ++ pinsAt fp s7.heap) σ9 H' s' → (wipe σ (own.map (·.2))).length = σ9.length → (∀ (j : Nat) v, (wipe σ (own.map (·.2)))[j]? = some (some v) → σ9[j]? = some (some v)) → Nx H' →
          ∃ m, m < n ∧ ∃ i H', Inv (X.blk s3 H3 scope ce fp) [] (wipe σ (own.map (·.2))) H' s' ∧ tn i s'.heap ∧ (∀ b ∈ fp, H' b = none) ∧ W i m H' := fun {σ9 s' H'} I' hl hk nx => by
        obtain ⟨m', hm, w'⟩ := hNx H' nx
        have pin' : ∀ b ∈ fp, ∀ o, s7.heap.get? b = some o → s'.heap.get? b = some o ∧ H' b = none := fun b hb o e =>
          let z := I'.pin (b, o) (List.mem_append_right _ (List.mem_append_right _ (mem_pinsAt hb e)))
          ⟨z.1, z.2.1⟩
        refine ⟨m', hm, i + 1, H', (I'.unpinned (pins := [])).weak hl hk, T.keep _ _ _ st7 fun b hb o e => (pin' b hb o e).1, fun b hb => ?_, w'⟩
        obtain ⟨o, e, _⟩ := T.obj _ _ st7 b hb
        exact (pin' b hb o e).2
      have hl8 : (wipe σ (own.map (·.2))).length = σ8.length := by rw [← hw8, wipe_length]
      have hk8 : ∀ (j : Nat) v, (wipe σ (own.map (·.2)))[j]? = some (some v) → σ8[j]? = some (some v) := fun j v e => by
        rw [← hw8] at e
        exact (wipe_some e).1
      have hk9 : ∀ (j : Nat) v, (wipe σ (own.map (·.2)))[j]? = some (some v) → (wipe σ8 vs1)[j]? = some (some v) := fun j v e => by
        rw [← hw8] at e
        obtain ⟨e1, e2⟩ := wipe_some e
        rw [wipe_out fun z => e2 (hv j z)]
        exact e1
      cases b with
      | false =>
        simp only [Bool.false_eq_true, if_false] at q9 ⊢
        exact fin I9 hl8 hk8 q9
      | true =>
        simp only [if_true] at q9 ⊢
        refine thnF (pi1.run _ s9 σ8 H9 _ I9 q9) fun xv s10 hx => thnF hx fun itv s11 h11 => ?_
        obtain ⟨it1, fp1, tn1, J1, H11, e1, I11, T1, st11, f11, W1, ⟨m1, w1⟩, turn1⟩ := h11
        subst e1
        -- the inner loop
        have stat1 : ∀ {H' : Hp}, (∀ b ∈ fp1, H' b = none) → ∀ b ∈ fp1, FpOk (X.blk s3 H3 scope ce fp) ([] ++ pinsAt fp s7.heap) H' b := fun hn b hb => ⟨hn b hb, (f11 b hb).2⟩
        have loop1 : codeAny (model X.prog X.w) X.A (.compLoop (.DictComp kx vx [⟨tg, iter, ifs, 0⟩, ⟨tg1, iter1, ifs1, 0⟩] scope pos) 1 (.ref it1) (.ref D) ce)
            (fun r s' => match r with
              | .ok _ => ∃ m, m < n ∧ ∃ i H', Inv (X.blk s3 H3 scope ce fp) [] (wipe σ (own.map (·.2))) H' s' ∧ tn i s'.heap ∧ (∀ b ∈ fp, H' b = none) ∧ W i m H'
              | .error _ => False) s11 := by
          refine compLoop2D_in (fun k s' => ∃ j H', Inv (X.blk s3 H3 scope ce fp) ([] ++ pinsAt fp s7.heap) (wipe σ8 vs1) H' s' ∧ tn1 j s'.heap ∧ (∀ b ∈ fp1, H' b = none) ∧ W1 j k H') ?_ m1 ⟨0, H11, I11.weak (wipe_length _ _) (fun j v e => (wipe_some e).1), st11, fun b hb => (f11 b hb).1, w1⟩
          rintro k s12 ⟨j, H12, I12, st12, n12, w12⟩
          rcases turn1 j k H12 w12 with ⟨stop1, nx1⟩ | ⟨go1, Nx1, hNx1, step1⟩
          · refine thnF (T1.done (X.blk s3 H3 scope ce fp) rfl rfl rfl hc j _ s12 (wipe σ8 vs1) H12 (fun _ _ => False) I12 (stat1 n12) st12 stop1) fun r s13 ⟨hr, I13⟩ => ?_
            subst hr
            exact fin I13 (hl8.trans (wipe_length σ8 vs1).symm) hk9 nx1
          · refine thnF (T1.item (X.blk s3 H3 scope ce fp) rfl rfl rfl hc j _ s12 (wipe σ8 vs1) H12 (fun _ _ => False) I12 (stat1 n12) st12 go1) fun r s13 ⟨u1, hr, h13⟩ => ?_
            subst hr
            refine thnF h13 fun _ s14 ⟨x1, H14, I14, r14, y14, st14, n14⟩ => ?_
            have I14' := I14.pinned (stat1 n14) (T1.obj _ _ st14)
            refine thnF (pg1.run _ s14 (wipe σ8 vs1) H14 x1 u1 _ I14' r14 (step1 x1 H14 y14)) fun _ s15 ⟨σ15, H15, I15, hw15, q15⟩ => ?_
            refine thnF (pt1.run _ s15 σ15 H15 _ I15 q15) fun b1 s16 ⟨H16, I16, q16⟩ => ?_
            have fin1 : ∀ {s' : Shared} {H' : Hp}, Inv (X.blk s3 H3 scope ce fp) (([] ++ pinsAt fp s7.heap) ++ pinsAt fp1 s14.heap) σ15 H' s' → Nx1 H' → ∃ m, m < k ∧ ∃ j H', Inv (X.blk s3 H3 scope ce fp) ([] ++ pinsAt fp s7.heap) (wipe σ8 vs1) H' s' ∧ tn1 j s'.heap ∧ (∀ b ∈ fp1, H' b = none) ∧ W1 j m H' := fun {s' H'} I' nx => by
              obtain ⟨m', hm, w'⟩ := hNx1 H' nx
              have pin' : ∀ b ∈ fp1, ∀ o, s14.heap.get? b = some o → s'.heap.get? b = some o ∧ H' b = none := fun b hb o e =>
                let z := I'.pin (b, o) (List.mem_append_right _ (List.mem_append_right _ (mem_pinsAt hb e)))
                ⟨z.1, z.2.1⟩
              refine ⟨m', hm, j + 1, H', I'.unpinned.weak (by rw [← hw15, wipe_length]) (fun j v e => by rw [← hw15] at e; exact (wipe_some e).1), T1.keep _ _ _ st14 fun b hb o e => (pin' b hb o e).1, fun b hb => ?_, w'⟩
              obtain ⟨o, e, _⟩ := T1.obj _ _ st14 b hb
              exact (pin' b hb o e).2
            cases b1 with
            | false =>
              simp only [Bool.false_eq_true, if_false] at q16 ⊢
              exact fin1 I16 q16
            | true =>
              simp only [if_true] at q16 ⊢
              refine thnF (pk.run _ s16 σ15 H16 _ I16 q16) fun z s17 ⟨yk, H17, I17, r17, q17⟩ => ?_
              refine thnF (pe.run _ s17 σ15 H17 _ I17 q17) fun z2 s18 ⟨yv, H18, I18, r18, kvs, k, ek, hD18, hz18, nx⟩ => ?_
              subst ek
              exact d_dictSet (X := X.blk s3 H3 scope ce fp) I18 hD18 hz18 r17 r18 fun s19 I19 => fin1 I19 nx
        exact compStart1D_ok loop1 (T1.self X.A 0 _ _ _ st11 loop1)
  exact codeAny_compStart_dict loop (T.self X.A 0 _ _ _ st4 loop)
/-- as a value -/
theorem pe_dc2 {kx vx tg iter tg1 iter1 : Expr} {ifs ifs1 : List Expr} {scope : Scope} {own : List (Str × Nat)} {vs1 : List Nat} {pos : Pos} {wi wi1 : TI} {g g1 : TG} {tt tt1 : TT} {tk tv : TE} (hc : X.calm = true) (hN : X.N.Nodup) (hi : PI X tg iter wi) (ok : BlkOk X.N X.env.scope scope own) (hv : ∀ i ∈ vs1, i ∈ own.map (·.2))
    (hg : ∀ (s : Shared) (H : Hp) (C : Addr) (cl : List (Str × Addr)) (fp : List Addr), PG (X.blk s H scope (compEnvC scope cl C X.env) fp) tg g) (ht : ∀ (s : Shared) (H : Hp) (C : Addr) (cl : List (Str × Addr)) (fp : List Addr), PTs (X.blk s H scope (compEnvC scope cl C X.env) fp) ifs tt)
    (hi1 : ∀ (s : Shared) (H : Hp) (C : Addr) (cl : List (Str × Addr)) (fp : List Addr), PI (X.blk s H scope (compEnvC scope cl C X.env) fp) tg1 iter1 wi1)
    (hg1 : ∀ (s : Shared) (H : Hp) (C : Addr) (cl : List (Str × Addr)) (fp : List Addr), PG (X.blk s H scope (compEnvC scope cl C X.env) fp) tg1 g1) (ht1 : ∀ (s : Shared) (H : Hp) (C : Addr) (cl : List (Str × Addr)) (fp : List Addr), PTs (X.blk s H scope (compEnvC scope cl C X.env) fp) ifs1 tt1)
    (hk : ∀ (s : Shared) (H : Hp) (C : Addr) (cl : List (Str × Addr)) (fp : List Addr), PE (X.blk s H scope (compEnvC scope cl C X.env) fp) kx tk) (he : ∀ (s : Shared) (H : Hp) (C : Addr) (cl : List (Str × Addr)) (fp : List Addr), PE (X.blk s H scope (compEnvC scope cl C X.env) fp) vx tv) (hs : ∀ x, foldedSetIterable iter X.env x = pure x := by intro _; rfl) (hs1 : ∀ env x, foldedSetIterable iter1 env x = pure x := by intro _ _; rfl) :
    PE X (.DictComp kx vx [⟨tg, iter, ifs, 0⟩, ⟨tg1, iter1, ifs1, 0⟩] scope pos) (tDc2 wi g tt wi1 g1 tt1 tk tv (own.map (·.2)) vs1) := by
  refine ⟨fun pins s σ H Q I h => ?_⟩
  rw [arm_eval_DictComp]
  refine dc2_core hc hN I hi ok hv hg ht hk he hs hi1 hg1 ht1 hs1 h fun D C s' m H' I' q hn f => ⟨m, hn, fun h'' sb => ?_⟩
  obtain ⟨f0, f1, f2, f3, f4, f5⟩ := f
  exact ⟨.ref D, H', I'.turned (t' := s'.toks) (fun b o hb e => (sb.2 b hb).trans e) f0 f1 f3 f4 f5, rfl, q⟩
end
end PD
end
section
set_option Elab.async false
set_option linter.all false
set_option maxRecDepth 100000
set_option maxHeartbeats 1000000
set_option autoImplicit false
namespace PD
open PySem L2 PyProof.Rows
/-! ### dict comprehensions -/
def compD (own : List Nat) (tg : T → Env → Option Env) (tt : Tv) (ek el : Ev) : List D → List (D × T) → Env → CS → Option (List (D × T) × Env × CS)
  | [], acc, env, cs => some (acc, env, cs)
  | d :: ds, acc, env, cs => match tg (.sh d) env with
    | none => none
    | some env1 => match tt env1 cs with
      | none => none
      | some (b, env2, cs2) => if b = true then (match ek env2 cs2 with
          | none => none
          | some (t1, env3, cs3) => match el env3 cs3 with
            | none => none
            | some (t2, env4, cs4) => match t1.toD.key? with
              | none => none
              | some key => if acc.length < sizeLine then compD own tg tt ek el ds (putD acc key (.sh t2.toD)) (wipeE env4 own) cs4 else none)
        else compD own tg tt ek el ds acc (wipeE env2 own) cs2
def compD2 (own vs1 : List Nat) (tg : T → Env → Option Env) (tt : Tv) (it1 : Iv) (tg1 : T → Env → Option Env) (tt1 : Tv) (ek el : Ev) : List D → List (D × T) → Env → CS → Option (List (D × T) × Env × CS)
  | [], acc, env, cs => some (acc, env, cs)
  | d :: ds, acc, env, cs => match tg (.sh d) env with
    | none => none
    | some env1 => match tt env1 cs with
      | none => none
      | some (b, env2, cs2) => if b = true then (match it1 env2 cs2 with
          | none => none
          | some (es, env3, cs3) => match compD vs1 tg1 tt1 ek el es acc (wipeE env3 vs1) cs3 with
            | none => none
            | some (acc1, env4, cs4) => compD2 own vs1 tg tt it1 tg1 tt1 ek el ds acc1 (wipeE env4 own) cs4)
        else compD2 own vs1 tg tt it1 tg1 tt1 ek el ds acc (wipeE env2 own) cs2
def eCompD (own : List Nat) (it : Iv) (tg : T → Env → Option Env) (tt : Tv) (ek el : Ev) : Ev := fun env cs => match it env cs with
  | none => none
  | some (ds, env1, cs1) => if ownOk own env1 = true then (match compD own tg tt ek el ds [] (wipeE env1 own) cs1 with
      | none => none
      | some (ts, env2, cs2) => some (.dct .K ts, backE own env1 env2, cs2))
    else none
def eCompD2 (own vs1 : List Nat) (it : Iv) (tg : T → Env → Option Env) (tt : Tv) (it1 : Iv) (tg1 : T → Env → Option Env) (tt1 : Tv) (ek el : Ev) : Ev := fun env cs => match it env cs with
  | none => none
  | some (ds, env1, cs1) => if ownOk own env1 = true then (match compD2 own vs1 tg tt it1 tg1 tt1 ek el ds [] (wipeE env1 own) cs1 with
      | none => none
      | some (ts, env2, cs2) => some (.dct .K ts, backE own env1 env2, cs2))
    else none
section
variable {X : Cx} {K : PySem.W.Frag} {mg : Str → Option Value} {ca ca' : List Addr} {F F' H H' : Hp} {v : V} {d : D} {σ σ' : St} {env env' : Env} {cs cs' : CS} {fp fp' : Fp}
/-- the dict that grows -/
structure AccD (K : PySem.W.Frag) (mg : Str → Option Value) (ca : List Addr) (F H : Hp) (fp : Fp) (ca1 : List Addr) (F1 : Hp) (D : Addr) (τ : St) (G : Hp) (envi : Env) (csi : CS) (done : List (PD.D × T)) (ca2 : List Addr) (F2 : Hp) (fp2 : Fp) : Prop where
  st : Step MC ca F H fp ca2 F2 G fp2
  S : Sim K mg ca2 F2 G τ envi csi fp2
  pre : Pre ca1 ca2
  sub : Sub F1 F2
  r : RepT K mg ca2 F2 G (.ref D) (.dct .K done) [D]
  fr : H D = none
  dj : ∀ r, D ∉ fp2 r
variable {ca1 ca2 ca3 : List Addr} {F1 F2 F3 G G' : Hp} {fp2 fp3 : Fp} {D : Addr} {τ τ' : St} {done : List (PD.D × T)} {envi env3 : Env} {csi cs3 : CS}
theorem AccD.step (A : AccD K mg ca F H fp ca1 F1 D τ G envi csi done ca2 F2 fp2) (st : Step MC ca2 F2 G fp2 ca3 F3 G' fp3) (S : Sim K mg ca3 F3 G' τ' env3 cs3 fp3) : AccD K mg ca F H fp ca1 F1 D τ' G' env3 cs3 done ca3 F3 fp3 :=
  let ⟨r, dj⟩ := st.temp A.r (fun r a ha => by rw [List.mem_singleton.mp ha]; exact A.dj r)
  ⟨A.st.trans st, S, A.pre.trans st.pre, A.sub.trans st.ff, r, A.fr, fun r => dj r D List.mem_cons_self⟩
theorem AccD.less (A : AccD K mg ca F H fp ca1 F1 D τ G envi csi done ca2 F2 fp2) (h : ∀ r a, a ∈ fp3 r → a ∈ fp2 r) (S : Sim K mg ca2 F2 G τ' env3 cs3 fp3) : AccD K mg ca F H fp ca1 F1 D τ' G env3 cs3 done ca2 F2 fp3 :=
  ⟨A.st.less h, S, A.pre, A.sub, A.r, A.fr, fun r z => A.dj r (h r D z)⟩
theorem AccD.wipe (A : AccD K mg ca F H fp ca1 F1 D τ G envi csi done ca2 F2 fp2) (own : List Nat) : AccD K mg ca F H fp ca1 F1 D (L2.wipe τ own) G (wipeE envi own) csi done ca2 F2 (fpWipe own fp2) := A.less (fun r a h => fpWipe_sub h) (A.S.wipe own)
/-- a pair is put -/
theorem AccD.put (A : AccD K mg ca F H fp ca1 F1 D τ G envi csi done ca2 F2 fp2) {v : V} {d : PD.D} {key : Key} (rv : RepD K mg ca2 F2 v d) (hl : done.length < sizeLine) :
    ∃ kvs, G D = some (.dK kvs) ∧ kvs.length < sizeLine ∧ AccD K mg ca F H fp ca1 F1 D τ (upd G D (.dK (putK kvs key v))) envi csi (putD done key (.sh d)) ca2 F2 fp2 := by
  have Ar := A.r
  cases Ar with
  | @dK _ kvs _ w e f l r =>
    obtain ⟨w', q, sl⟩ := RepTk.put (k := key) r rv
    have hw : w' = [] := List.eq_nil_of_subset_nil sl.subset
    subst hw
    have hk : kvs.length < sizeLine := by rw [RepTk.length r]; exact hl
    have := length_putK kvs key v
    refine ⟨kvs, e, hk, A.st.poke A.fr, A.S.poke f A.dj, A.pre, A.sub, .dK upd_same f (by omega) (RepTk.keep .refl .refl _ _ _ q (fun a ha => nomatch ha) fun a ha => nomatch ha), A.fr, A.dj⟩
/-- the block's end -/
theorem Sim.blkEnd {own : List Nat} {env1 env2 : Env} {ca1 : List Addr} {F1 H1 : Hp} {fp1 : Fp} {cs1 : CS} (S : Sim K mg ca2 F2 G (L2.wipe σ own) env2 cs' fp2) (S1 : Sim K mg ca1 F1 H1 σ env1 cs1 fp1) (pre : Pre ca1 ca2) (sub : Sub F1 F2) (hown : ownOk own env1 = true) : Sim K mg ca2 F2 G σ (backE own env1 env2) cs' (fpWipe own fp2) := by
  refine S.fpLess (fun r a h => fpWipe_sub h) (fpWipe_nd S.nd) ?_ (fun j u e => ?_) fun i => rfl
  · unfold backE
    rw [List.length_map, List.length_range]
    have := S.le
    rw [wipe_length] at this
    exact this
  · unfold backE at e
    rw [List.getElem?_map] at e
    by_cases hj : j < env2.length
    · rw [List.getElem?_range hj] at e
      simp only [Option.map_some, Option.some.injEq] at e
      by_cases ho : j ∈ own
      · rw [if_pos ho] at e
        have e1 : env1[j]? = some (some u) := by
          cases q : env1[j]? with
          | none => rw [q] at e; cases e
          | some o => rw [q] at e; simpa using e
        have hsh : ∃ d, u = .sh d := by
          have q := List.all_eq_true.mp hown j ho
          rw [e1] at q
          cases u with
          | sh d => exact ⟨d, rfl⟩
          | lst _ => cases q
          | dct _ _ => cases q
        obtain ⟨d, rfl⟩ := hsh
        obtain ⟨v, e2, r⟩ := S1.slot j _ e1
        refine ⟨v, e2, ?_⟩
        rw [fpWipe_in ho]
        exact .sh (RepD.mono sub pre _ _ (RepT.shD r))
      · rw [if_neg ho] at e
        have e1 : env2[j]? = some (some u) := by
          cases q : env2[j]? with
          | none => rw [q] at e; cases e
          | some o => rw [q] at e; simpa using e
        obtain ⟨v, e2, r⟩ := S.slot j u e1
        rw [wipe_out ho] at e2
        refine ⟨v, e2, ?_⟩
        rw [fpWipe_out ho]
        exact r
    · rw [List.getElem?_eq_none (by simpa using hj)] at e
      cases e
theorem snd_compD {wi : TI} {it : Iv} {g : TG} {vs own : List Nat} {tg : T → Env → Option Env} {tt : TT} {tv : Tv} {tk te : TE} {ek el : Ev} (hi : SndI K mg wi it) (hg : SndG K mg g vs tg) (hv : ∀ i ∈ vs, i ∈ own) (ht : SndT K mg tt tv) (hk : SndE K mg tk ek) (he : SndE K mg te el) :
    SndE K mg (tDc wi g tt tk te own) (eCompD own it tg tv ek el) := by
  intro ca F H σ env cs fp t env' cs' Q S h k
  unfold eCompD at h
  split at h
  · cases h
  · rename_i ds env1 cs1 h1
    split at h
    · rename_i hown
      split at h
      · cases h
      · rename_i ts env2 cs2 h2
        cases h
        refine hi ca F H σ env cs fp ds env1 cs1 _ S h1 fun ca1 F1 H1 fp1 J st1 S1 ok hlen => ?_
        intro D hD
        let W : Nat → Hp → Prop := fun i G => ∃ (ca2 : List Addr) (F2 : Hp) (fp2 : Fp) (envi : Env) (csi : CS) (done : List (PD.D × T)), AccD K mg ca F H fp ca1 F1 D (L2.wipe σ own) G envi csi done ca2 F2 fp2 ∧
          compD own tg tv ek el (ds.drop i) done envi csi = some (ts, env2, cs')
        refine ⟨fun i m G => m = ds.length - i ∧ i ≤ ds.length ∧ W i G, ⟨ds.length, rfl, Nat.zero_le _, ca1, F1, fpWipe own fp1, wipeE env1 own, cs1, [], ?_, by simpa using h2⟩, ?_⟩
        · have S2 := (S1.wipe own).grow (Grow.laid (o := .dK []) S1.sub hD)
          have hp : ∀ r, D ∉ fp1 r := fun r z => by obtain ⟨_, o, e, _⟩ := S1.own r D z; rw [hD] at e; cases e
          exact ⟨((st1.less fun r a h => fpWipe_sub h).poke (st1.noneOf hD)), S2, .refl, .refl, .dK upd_same (S1.sub.none hD) (Nat.zero_le _) .nil, st1.noneOf hD, fun r z => hp r (fpWipe_sub z)⟩
        · rintro i m G ⟨rfl, hi', ca2, F2, fp2, envi, csi, done, A, hc⟩
          have ok2 := ok.mono A.sub A.pre
          by_cases hlt : i < ds.length
          · have hd : ds[i]? = some ds[i] := List.getElem?_eq_getElem hlt
            have hdrop : ds.drop i = ds[i] :: ds.drop (i + 1) := List.drop_eq_getElem_cons hlt
            obtain ⟨go, yl⟩ := (ok2 i G A.S.sub).1 _ hd
            refine .inr ⟨go, W (i + 1), fun G' q => ⟨ds.length - (i + 1), by omega, rfl, hlt, q⟩, fun x G' y => ?_⟩
            obtain ⟨F3, g3, rx⟩ := ItY.sim (yl x G' y) A.S
            have S3 := A.S.grow g3
            have A3 := A.step (g3.step (M := MC) (ca := ca2) (fp := fp2)) S3
            rw [hdrop] at hc
            unfold compD at hc
            split at hc
            · cases hc
            · rename_i enva ea1
              refine hg ca2 F3 G' _ envi csi fp2 x (.sh ds[i]) [] enva _ S3 (.sh rx) List.nodup_nil (fun _ _ z => nomatch z) ea1 fun σ4 fp4 S4 sub4 l4 o4 => ?_
              have hw : L2.wipe σ4 own = L2.wipe σ own := by
                have e1 : L2.wipe σ4 own = L2.wipe (L2.wipe σ own) own := wipe_congr l4 fun j hj => o4 j fun z => hj (hv j z)
                have e2 : L2.wipe (L2.wipe σ own) own = L2.wipe σ own := wipe_congr (wipe_length _ _) fun j hj => wipe_out hj
                exact e1.trans e2
              refine ⟨hw, ?_⟩
              have A4 := A3.less (fun r a ha => by
                rcases sub4 r a ha with z | z
                · exact z
                · cases z) S4
              split at hc
              · cases hc
              · rename_i b envb csb eb
                refine ht ca2 F3 G' σ4 enva csi fp4 b envb csb _ S4 eb fun ca5 F5 H5 fp5 st5 S5 => ?_
                have A5 := A4.step st5 S5
                cases b with
                | false =>
                  rw [if_neg Bool.false_ne_true] at hc ⊢
                  have A6 := A5.wipe own
                  rw [hw] at A6
                  exact ⟨ca5, F5, _, _, _, done, A6, hc⟩
                | true =>
                  rw [if_pos rfl] at hc ⊢
                  split at hc
                  · cases hc
                  · rename_i t1 envc csc ec
                    split at hc
                    · cases hc
                    · rename_i t2 envd csd ed
                      split at hc
                      · cases hc
                      · rename_i key hkey
                        split at hc
                        · rename_i hlen2
                          refine hk.data S5 ec fun y ca6 F6 H6 fp6 st6 S6 ry => ?_
                          refine he.data S6 ed fun z ca7 F7 H7 fp7 st7 S7 rz => ?_
                          obtain ⟨rfl, _⟩ := ry.key' hkey
                          obtain ⟨kvs, e1, e2, A8⟩ := ((A5.step st6 S6).step st7 S7).put (key := key) rz hlen2
                          have A9 := A8.wipe own
                          rw [hw] at A9
                          exact ⟨kvs, key, rfl, e1, e2, ca7, F7, _, _, _, _, A9, hc⟩
                        · cases hc
          · have hi2 : i = ds.length := by omega
            subst hi2
            rw [List.drop_length] at hc
            unfold compD at hc
            cases hc
            exact .inl ⟨(ok2 _ G A.S.sub).2 (Nat.le_refl _), k (.ref D) ca2 F2 G (fpWipe own fp2) [D] (A.st.less fun r a h => fpWipe_sub h) (A.S.blkEnd S1 A.pre A.sub hown) A.r (by simp) (fun a ha => by rw [List.mem_singleton.mp ha]; exact A.fr) fun r a ha z => by rw [List.mem_singleton.mp ha] at z; exact A.dj r (fpWipe_sub z)⟩
    · cases h
theorem snd_compD2 {wi wi1 : TI} {it it1 : Iv} {g g1 : TG} {vs ws vs1 own : List Nat} {tg tg1 : T → Env → Option Env} {tt tt1 : TT} {tv tv1 : Tv} {tk te : TE} {ek el : Ev} (hi : SndI K mg wi it) (hg : SndG K mg g vs tg) (hv : ∀ i ∈ vs, i ∈ own) (ht : SndT K mg tt tv)
    (hi1 : SndI K mg wi1 it1) (hg1 : SndG K mg g1 ws tg1) (hw1 : ∀ i ∈ ws, i ∈ vs1) (hv1 : ∀ i ∈ vs1, i ∈ own) (ht1 : SndT K mg tt1 tv1) (hk : SndE K mg tk ek) (he : SndE K mg te el) : SndE K mg (tDc2 wi g tt wi1 g1 tt1 tk te own vs1) (eCompD2 own vs1 it tg tv it1 tg1 tv1 ek el) := by
  intro ca F H σ env cs fp t env' cs' Q S h k
  unfold eCompD2 at h
  split at h
  · cases h
  · rename_i ds env1 cs1 h1
    split at h
    · rename_i hown
      split at h
      · cases h
      · rename_i ts env2 cs2 h2
        cases h
        refine hi ca F H σ env cs fp ds env1 cs1 _ S h1 fun ca1 F1 H1 fp1 J st1 S1 ok hlen => ?_
        intro D hD
        let W : Nat → Hp → Prop := fun i G => ∃ (ca2 : List Addr) (F2 : Hp) (fp2 : Fp) (envi : Env) (csi : CS) (done : List (PD.D × T)), AccD K mg ca F H fp ca1 F1 D (L2.wipe σ own) G envi csi done ca2 F2 fp2 ∧
          compD2 own vs1 tg tv it1 tg1 tv1 ek el (ds.drop i) done envi csi = some (ts, env2, cs')
        refine ⟨fun i m G => m = ds.length - i ∧ i ≤ ds.length ∧ W i G, ⟨ds.length, rfl, Nat.zero_le _, ca1, F1, fpWipe own fp1, wipeE env1 own, cs1, [], ?_, by simpa using h2⟩, ?_⟩
        · have S2 := (S1.wipe own).grow (Grow.laid (o := .dK []) S1.sub hD)
          have hp : ∀ r, D ∉ fp1 r := fun r z => by obtain ⟨_, o, e, _⟩ := S1.own r D z; rw [hD] at e; cases e
          exact ⟨((st1.less fun r a h => fpWipe_sub h).poke (st1.noneOf hD)), S2, .refl, .refl, .dK upd_same (S1.sub.none hD) (Nat.zero_le _) .nil, st1.noneOf hD, fun r z => hp r (fpWipe_sub z)⟩
        · rintro i m G ⟨rfl, hi', ca2, F2, fp2, envi, csi, done, A, hc⟩
          have ok2 := ok.mono A.sub A.pre
          by_cases hlt : i < ds.length
          · have hd : ds[i]? = some ds[i] := List.getElem?_eq_getElem hlt
            have hdrop : ds.drop i = ds[i] :: ds.drop (i + 1) := List.drop_eq_getElem_cons hlt
            obtain ⟨go, yl⟩ := (ok2 i G A.S.sub).1 _ hd
            refine .inr ⟨go, W (i + 1), fun G' q => ⟨ds.length - (i + 1), by omega, rfl, hlt, q⟩, fun x G' y => ?_⟩
            obtain ⟨F3, g3, rx⟩ := ItY.sim (yl x G' y) A.S
            have S3 := A.S.grow g3
            have A3 := A.step (g3.step (M := MC) (ca := ca2) (fp := fp2)) S3
            rw [hdrop] at hc
            unfold compD2 at hc
            split at hc
            · cases hc
            · rename_i enva ea1
              refine hg ca2 F3 G' _ envi csi fp2 x (.sh ds[i]) [] enva _ S3 (.sh rx) List.nodup_nil (fun _ _ z => nomatch z) ea1 fun σ4 fp4 S4 sub4 l4 o4 => ?_
              have hw : L2.wipe σ4 own = L2.wipe σ own := by
                have e1 : L2.wipe σ4 own = L2.wipe (L2.wipe σ own) own := wipe_congr l4 fun j hj => o4 j fun z => hj (hv j z)
                have e2 : L2.wipe (L2.wipe σ own) own = L2.wipe σ own := wipe_congr (wipe_length _ _) fun j hj => wipe_out hj
                exact e1.trans e2
              refine ⟨hw, ?_⟩
              have A4 := A3.less (fun r a ha => by
                rcases sub4 r a ha with z | z
                · exact z
                · cases z) S4
              split at hc
              · cases hc
              · rename_i b envb csb eb
                refine ht ca2 F3 G' σ4 enva csi fp4 b envb csb _ S4 eb fun ca5 F5 H5 fp5 st5 S5 => ?_
                have A5 := A4.step st5 S5
                cases b with
                | false =>
                  rw [if_neg Bool.false_ne_true] at hc ⊢
                  have A6 := A5.wipe own
                  rw [hw] at A6
                  exact ⟨ca5, F5, _, _, _, done, A6, hc⟩
                | true =>
                  rw [if_pos rfl] at hc ⊢
                  split at hc
                  · cases hc
                  · rename_i es envc csc ec
                    split at hc
                    · cases hc
                    · rename_i acc1 envd csd ed
                      refine hi1 ca5 F5 H5 σ4 envb csb fp5 es envc csc _ S5 ec fun ca6 F6 H6 fp6 J1 st6 S6 ok1 hlen1 => ?_
                      have A6 := A5.step st6 S6
                      have ww : L2.wipe (L2.wipe σ4 vs1) own = L2.wipe σ own := by
                        have e1 : L2.wipe (L2.wipe σ4 vs1) own = L2.wipe σ4 own := wipe_congr (wipe_length _ _) fun j hj => wipe_out fun z => hj (hv1 j z)
                        exact e1.trans hw
                      let W1 : Nat → Hp → Prop := fun j G => ∃ (ca7 : List Addr) (F7 : Hp) (fp7 : Fp) (envj : Env) (csj : CS) (done1 : List (PD.D × T)), AccD K mg ca F H fp ca1 F1 D (L2.wipe σ4 vs1) G envj csj done1 ca7 F7 fp7 ∧
                        Pre ca6 ca7 ∧ Sub F6 F7 ∧ compD vs1 tg1 tv1 ek el (es.drop j) done1 envj csj = some (acc1, envd, csd)
                      refine ⟨fun j m G => m = es.length - j ∧ j ≤ es.length ∧ W1 j G, ⟨es.length, rfl, Nat.zero_le _, ca6, F6, fpWipe vs1 fp6, wipeE envc vs1, csc, done, A6.wipe vs1, .refl, .refl, by simpa using ed⟩, ?_⟩
                      rintro j m2 G2 ⟨rfl, hj', ca7, F7, fp7, envj, csj, done1, B, preB, subB, hcB⟩
                      have okB := ok1.mono subB preB
                      by_cases hltB : j < es.length
                      · have hdB : es[j]? = some es[j] := List.getElem?_eq_getElem hltB
                        have hdropB : es.drop j = es[j] :: es.drop (j + 1) := List.drop_eq_getElem_cons hltB
                        obtain ⟨goB, ylB⟩ := (okB j G2 B.S.sub).1 _ hdB
                        refine .inr ⟨goB, W1 (j + 1), fun G' q => ⟨es.length - (j + 1), by omega, rfl, hltB, q⟩, fun xB GB yB => ?_⟩
                        obtain ⟨FB, gB, rxB⟩ := ItY.sim (ylB xB GB yB) B.S
                        have SB := B.S.grow gB
                        have B1 := B.step (gB.step (M := MC) (ca := ca7) (fp := fp7)) SB
                        rw [hdropB] at hcB
                        unfold compD at hcB
                        split at hcB
                        · cases hcB
                        · rename_i envB eB1
                          refine hg1 ca7 FB GB _ envj csj fp7 xB (.sh es[j]) [] envB _ SB (.sh rxB) List.nodup_nil (fun _ _ z => nomatch z) eB1 fun σ8 fp8 S8 sub8 l8 o8 => ?_
                          have hwB : L2.wipe σ8 vs1 = L2.wipe σ4 vs1 := by
                            have e1 : L2.wipe σ8 vs1 = L2.wipe (L2.wipe σ4 vs1) vs1 := wipe_congr l8 fun j hj => o8 j fun z => hj (hw1 j z)
                            have e2 : L2.wipe (L2.wipe σ4 vs1) vs1 = L2.wipe σ4 vs1 := wipe_congr (wipe_length _ _) fun j hj => wipe_out hj
                            exact e1.trans e2
                          refine ⟨hwB, ?_⟩
                          have B2 := B1.less (fun r a ha => by
                            rcases sub8 r a ha with z | z
                            · exact z
                            · cases z) S8
                          split at hcB
                          · cases hcB
                          · rename_i b8 env8 cs8 e8
                            refine ht1 ca7 FB GB σ8 envB csj fp8 b8 env8 cs8 _ S8 e8 fun ca9 F9 H9 fp9 st9 S9 => ?_
                            have B3 := B2.step st9 S9
                            have pre9 := preB.trans st9.pre
                            have sub9 := subB.trans (gB.ff.trans st9.ff)
                            cases b8 with
                            | false =>
                              rw [if_neg Bool.false_ne_true] at hcB ⊢
                              have B4 := B3.wipe vs1
                              rw [hwB] at B4
                              exact ⟨ca9, F9, _, _, _, done1, B4, pre9, sub9, hcB⟩
                            | true =>
                              rw [if_pos rfl] at hcB ⊢
                              split at hcB
                              · cases hcB
                              · rename_i t1 envp csp ep
                                split at hcB
                                · cases hcB
                                · rename_i t2 envq csq eq
                                  split at hcB
                                  · cases hcB
                                  · rename_i key hkey
                                    split at hcB
                                    · rename_i hlen2
                                      refine hk.data S9 ep fun y ca10 F10 H10 fp10 st10 S10 ry => ?_
                                      refine he.data S10 eq fun z ca11 F11 H11 fp11 st11 S11 rz => ?_
                                      obtain ⟨rfl, _⟩ := ry.key' hkey
                                      obtain ⟨kvs, e1, e2, B8⟩ := ((B3.step st10 S10).step st11 S11).put (key := key) rz hlen2
                                      have B9 := B8.wipe vs1
                                      rw [hwB] at B9
                                      exact ⟨kvs, key, rfl, e1, e2, ca11, F11, _, _, _, _, B9, pre9.trans (st10.pre.trans st11.pre), sub9.trans (st10.ff.trans st11.ff), hcB⟩
                                    · cases hcB
                      · have hi2 : j = es.length := by omega
                        subst hi2
                        rw [List.drop_length] at hcB
                        unfold compD at hcB
                        cases hcB
                        refine .inl ⟨(okB _ G2 B.S.sub).2 (Nat.le_refl _), ?_⟩
                        have B1 := B.wipe own
                        rw [ww] at B1
                        exact ⟨ca7, F7, _, _, _, _, B1, hc⟩
          · have hi2 : i = ds.length := by omega
            subst hi2
            rw [List.drop_length] at hc
            unfold compD2 at hc
            cases hc
            exact .inl ⟨(ok2 _ G A.S.sub).2 (Nat.le_refl _), k (.ref D) ca2 F2 G (fpWipe own fp2) [D] (A.st.less fun r a h => fpWipe_sub h) (A.S.blkEnd S1 A.pre A.sub hown) A.r (by simp) (fun a ha => by rw [List.mem_singleton.mp ha]; exact A.fr) fun r a ha z => by rw [List.mem_singleton.mp ha] at z; exact A.dj r (fpWipe_sub z)⟩
    · cases h
theorem ee_compD {kx vx tg iter : Expr} {ifs : List Expr} {scope : Scope} {own : List (Str × Nat)} {pos : Pos} {wi : TI} {it : Iv} {g : Blk TG} {vs : List Nat} {tgf : T → Env → Option Env} {tt : Blk TT} {tv : Tv} {tk te : Blk TE} {ek el : Ev} (hc : X.calm = true) (hN : X.N.Nodup) (hi : EI X tg iter wi it) (ok : BlkOk X.N X.env.scope scope own)
    (hg : ∀ (s : Shared) (H : Hp) (C : Addr) (cl : List (Str × Addr)) (fp : List Addr), EG (X.blk s H scope (compEnvC scope cl C X.env) fp) tg (g s H C cl fp) vs tgf) (ht : ∀ (s : Shared) (H : Hp) (C : Addr) (cl : List (Str × Addr)) (fp : List Addr), ETs (X.blk s H scope (compEnvC scope cl C X.env) fp) ifs (tt s H C cl fp) tv)
    (hk : ∀ (s : Shared) (H : Hp) (C : Addr) (cl : List (Str × Addr)) (fp : List Addr), EE (X.blk s H scope (compEnvC scope cl C X.env) fp) kx (tk s H C cl fp) ek)
    (he : ∀ (s : Shared) (H : Hp) (C : Addr) (cl : List (Str × Addr)) (fp : List Addr), EE (X.blk s H scope (compEnvC scope cl C X.env) fp) vx (te s H C cl fp) el) (hv : ∀ i ∈ vs, i ∈ own.map (·.2) := by decide) (hs : ∀ x, foldedSetIterable iter X.env x = pure x := by intro _; rfl) :
    EE X (.DictComp kx vx [⟨tg, iter, ifs, 0⟩] scope pos) (tDc wi (tgA g) (ttA tt) (teA tk) (teA te) (own.map (·.2))) (eCompD (own.map (·.2)) it tgf tv ek el) :=
  ⟨pe_dc hc hN hi.pi ok (tgA_pg (Z := fun s H C cl fp => X.blk s H scope (compEnvC scope cl C X.env) fp) fun s H C cl fp => (hg s H C cl fp).pg) (ttA_pt (Z := fun s H C cl fp => X.blk s H scope (compEnvC scope cl C X.env) fp) fun s H C cl fp => (ht s H C cl fp).pt) (teA_pe (Z := fun s H C cl fp => X.blk s H scope (compEnvC scope cl C X.env) fp) fun s H C cl fp => (hk s H C cl fp).pe) (teA_pe (Z := fun s H C cl fp => X.blk s H scope (compEnvC scope cl C X.env) fp) fun s H C cl fp => (he s H C cl fp).pe) hs,
    snd_compD hi.snd (tgA_snd fun s H C cl fp => (hg s H C cl fp).snd) hv (ttA_snd fun s H C cl fp => (ht s H C cl fp).snd) (teA_snd fun s H C cl fp => (hk s H C cl fp).snd) (teA_snd fun s H C cl fp => (he s H C cl fp).snd)⟩
theorem ee_compD2 {kx vx tg iter tg1 iter1 : Expr} {ifs ifs1 : List Expr} {scope : Scope} {own : List (Str × Nat)} {vs1 : List Nat} {pos : Pos} {wi : TI} {wi1 : Blk TI} {it it1 : Iv} {g g1 : Blk TG} {vs ws : List Nat} {tgf tgf1 : T → Env → Option Env} {tt tt1 : Blk TT} {tv tv1 : Tv} {tk te : Blk TE} {ek el : Ev} (hc : X.calm = true) (hN : X.N.Nodup) (hi : EI X tg iter wi it) (ok : BlkOk X.N X.env.scope scope own) (hv1 : ∀ i ∈ vs1, i ∈ own.map (·.2))
    (hg : ∀ (s : Shared) (H : Hp) (C : Addr) (cl : List (Str × Addr)) (fp : List Addr), EG (X.blk s H scope (compEnvC scope cl C X.env) fp) tg (g s H C cl fp) vs tgf) (ht : ∀ (s : Shared) (H : Hp) (C : Addr) (cl : List (Str × Addr)) (fp : List Addr), ETs (X.blk s H scope (compEnvC scope cl C X.env) fp) ifs (tt s H C cl fp) tv)
    (hi1 : ∀ (s : Shared) (H : Hp) (C : Addr) (cl : List (Str × Addr)) (fp : List Addr), EI (X.blk s H scope (compEnvC scope cl C X.env) fp) tg1 iter1 (wi1 s H C cl fp) it1)
    (hg1 : ∀ (s : Shared) (H : Hp) (C : Addr) (cl : List (Str × Addr)) (fp : List Addr), EG (X.blk s H scope (compEnvC scope cl C X.env) fp) tg1 (g1 s H C cl fp) ws tgf1) (ht1 : ∀ (s : Shared) (H : Hp) (C : Addr) (cl : List (Str × Addr)) (fp : List Addr), ETs (X.blk s H scope (compEnvC scope cl C X.env) fp) ifs1 (tt1 s H C cl fp) tv1)
    (hk : ∀ (s : Shared) (H : Hp) (C : Addr) (cl : List (Str × Addr)) (fp : List Addr), EE (X.blk s H scope (compEnvC scope cl C X.env) fp) kx (tk s H C cl fp) ek)
    (he : ∀ (s : Shared) (H : Hp) (C : Addr) (cl : List (Str × Addr)) (fp : List Addr), EE (X.blk s H scope (compEnvC scope cl C X.env) fp) vx (te s H C cl fp) el) (hv : ∀ i ∈ vs, i ∈ own.map (·.2) := by decide) (hw : ∀ i ∈ ws, i ∈ vs1 := by decide) (hs : ∀ x, foldedSetIterable iter X.env x = pure x := by intro _; rfl) (hs1 : ∀ env x, foldedSetIterable iter1 env x = pure x := by intro _ _; rfl) :
    EE X (.DictComp kx vx [⟨tg, iter, ifs, 0⟩, ⟨tg1, iter1, ifs1, 0⟩] scope pos) (tDc2 wi (tgA g) (ttA tt) (tiA wi1) (tgA g1) (ttA tt1) (teA tk) (teA te) (own.map (·.2)) vs1) (eCompD2 (own.map (·.2)) vs1 it tgf tv it1 tgf1 tv1 ek el) :=
  ⟨pe_dc2 hc hN hi.pi ok hv1 (tgA_pg (Z := fun s H C cl fp => X.blk s H scope (compEnvC scope cl C X.env) fp) fun s H C cl fp => (hg s H C cl fp).pg) (ttA_pt (Z := fun s H C cl fp => X.blk s H scope (compEnvC scope cl C X.env) fp) fun s H C cl fp => (ht s H C cl fp).pt) (tiA_pi (Z := fun s H C cl fp => X.blk s H scope (compEnvC scope cl C X.env) fp) fun s H C cl fp => (hi1 s H C cl fp).pi) (tgA_pg (Z := fun s H C cl fp => X.blk s H scope (compEnvC scope cl C X.env) fp) fun s H C cl fp => (hg1 s H C cl fp).pg) (ttA_pt (Z := fun s H C cl fp => X.blk s H scope (compEnvC scope cl C X.env) fp) fun s H C cl fp => (ht1 s H C cl fp).pt) (teA_pe (Z := fun s H C cl fp => X.blk s H scope (compEnvC scope cl C X.env) fp) fun s H C cl fp => (hk s H C cl fp).pe) (teA_pe (Z := fun s H C cl fp => X.blk s H scope (compEnvC scope cl C X.env) fp) fun s H C cl fp => (he s H C cl fp).pe) hs hs1,
    snd_compD2 hi.snd (tgA_snd fun s H C cl fp => (hg s H C cl fp).snd) hv (ttA_snd fun s H C cl fp => (ht s H C cl fp).snd) (tiA_snd fun s H C cl fp => (hi1 s H C cl fp).snd) (tgA_snd fun s H C cl fp => (hg1 s H C cl fp).snd) hw hv1 (ttA_snd fun s H C cl fp => (ht1 s H C cl fp).snd) (teA_snd fun s H C cl fp => (hk s H C cl fp).snd) (teA_snd fun s H C cl fp => (he s H C cl fp).snd)⟩
end
end PD
end
section
set_option Elab.async false
set_option linter.all false
set_option maxRecDepth 100000
set_option maxHeartbeats 1000000
set_option autoImplicit false
namespace PD
open PySem L2 PyProof.Rows
/-! ### a tuple among the globals -/
/-- the module's own tuple -/
def GTup (K : PySem.W.Frag) (mg : Str → Option Value) (x : Str) (ds : List D) : Prop := ∃ a, mg x = some (.ref a) ∧ ∀ ca F, RepD K mg ca F (.ref a) (.tup .any ds)
theorem ee_gtup {X : Cx} {x : Str} {ds : List D} {pos : Pos} (h : GTup X.K X.mg x ds) (hg : Gl X x := by rfl) (hd : (x == ("__debug__" : Str)) = false := by decide) : ∃ a, EE X (.Name x pos) (tC (.ref a)) (eC (.tup .any ds)) :=
  let ⟨a, hm, r⟩ := h
  ⟨a, pe_glob hg hm rfl hd, snd_C r⟩

/-! ### a comprehension over a dict's keys -/
/-- F' tells of dicts what F does, of all else the same -/
structure Sw (F F' : Hp) : Prop where
  same : ∀ a o, (∀ kvs, o ≠ .dK kvs) → (∀ ob kvs, o ≠ .frz ob (.dK kvs)) → F a = some o → F' a = some o
  dk : ∀ a kvs, Rd F a (.dK kvs) → Rd F' a (.dK kvs)
section
variable {K : PySem.W.Frag} {mg : Str → Option Value} {ca ca' : List Addr} {F F' H H' : Hp}
theorem Sw.rd (w : Sw F F') {a : Addr} {u : HO} (h1 : ∀ kvs, u ≠ .dK kvs) (h2 : ∀ ob kvs, u ≠ .frz ob (.dK kvs)) (r : Rd F a u) : Rd F' a u := by
  rcases r with r | ⟨o, r⟩
  · exact .inl (w.same a u h1 h2 r)
  · exact .inr ⟨o, w.same a _ (fun _ z => nomatch z) (fun ob kvs z => by cases z; exact h1 _ rfl) r⟩
theorem Sw.sqL (w : Sw F F') {a : Addr} {xs : List V} (r : SqL K F a xs) : SqL K F' a xs := by
  rcases r with r | r
  · exact .inl (w.rd (fun _ z => nomatch z) (fun _ _ z => nomatch z) r)
  · exact .inr r
theorem Sw.sqT (w : Sw F F') {a : Addr} {xs : List V} (r : SqT K F a xs) : SqT K F' a xs := by
  rcases r with r | r
  · exact .inl (w.rd (fun _ z => nomatch z) (fun _ _ z => nomatch z) r)
  · exact .inr r
theorem Sw.tup (w : Sw F F') {t : TK} {a : Addr} {xs : List V} (r : TupAt K F t a xs) : TupAt K F' t a xs := by
  cases t with
  | any => exact w.sqT r
  | pl => obtain ⟨o, e, q⟩ := r; exact ⟨o, w.same _ _ (fun _ z => nomatch z) (fun _ _ z => nomatch z) e, q⟩
  | ex => exact w.same _ _ (fun _ z => nomatch z) (fun _ _ z => nomatch z) r
mutual
theorem RepD.sw (w : Sw F F') : ∀ (d : D) (v : V), RepD K mg ca F v d → RepD K mg ca F' v d
  | .non, _, h => by cases h; exact .non
  | .bl b, _, h => by cases h; exact .bl b
  | .int b, _, h => by cases h; exact .int b
  | .str b, _, h => by cases h with | str _ l o => exact .str b l o
  | .tup _ xs, _, h => by cases h with | tup a l r => exact .tup (w.tup a) l (RepDs.sw w xs _ r)
  | .lst xs, _, h => by cases h with | lst a l r => exact .lst (w.same _ _ (fun _ z => nomatch z) (fun _ _ z => nomatch z) a) l (RepDs.sw w xs _ r)
  | .rlst xs, _, h => by cases h with | rlst a l r => exact .rlst (w.sqL a) l (RepDs.sw w xs _ r)
  | .dct .K kvs, _, h => by cases h with | dK a l r => exact .dK (w.dk _ _ a) l (RepKs.sw w kvs _ r)
  | .dct .T kvs, _, h => by cases h with | dT a l r => exact .dT (w.rd (fun _ z => nomatch z) (fun _ _ z => nomatch z) a) l (RepQs.sw w kvs _ r)
  | .fn x, _, h => by cases h with | fn e => exact .fn e
  | .ty n, _, h => by cases h; exact .ty n
  | .cell i, _, h => by cases h with | cell e => exact .cell e
  | .rep p, _, h => by cases h; exact .rep p
theorem RepDs.sw (w : Sw F F') : ∀ (ds : List D) (vs : List V), RepDs K mg ca F vs ds → RepDs K mg ca F' vs ds
  | [], _, h => by cases h; exact .nil
  | d :: ds, _, h => by cases h with | cons h1 h2 => exact .cons (RepD.sw w d _ h1) (RepDs.sw w ds _ h2)
theorem RepKs.sw (w : Sw F F') : ∀ (ds : List (D × D)) (vs : List (Key × V)), RepKs K mg ca F vs ds → RepKs K mg ca F' vs ds
  | [], _, h => by cases h; exact .nil
  | (k, d) :: ds, _, h => by cases h with | cons h1 h2 => exact .cons (RepD.sw w d _ h1) (RepKs.sw w ds _ h2)
theorem RepQs.sw (w : Sw F F') : ∀ (ds : List (D × D)) (vs : List (List Key × V)), RepQs K mg ca F vs ds → RepQs K mg ca F' vs ds
  | [], _, h => by cases h; exact .nil
  | (k, d) :: ds, _, h => by cases h with | cons h1 h2 => exact .cons (RepD.sw w d _ h1) (RepQs.sw w ds _ h2)
end
mutual
theorem RepT.sw (w : Sw F F') (hn : ∀ a, F a = none → F' a = none) (hh : ∀ a o, F a = none → H a = some o → H' a = some o) : ∀ (t : T) (v : V) (u : List Addr), RepT K mg ca F H v t u → RepT K mg ca F' H' v t u
  | .sh d, _, _, h => by cases h with | sh h => exact .sh (RepD.sw w d _ h)
  | .lst xs, _, _, h => by cases h with | lst a f l r => exact .lst (hh _ _ f a) (hn _ f) l (RepTs.sw w hn hh xs _ _ r)
  | .dct .K xs, _, _, h => by cases h with | dK a f l r => exact .dK (hh _ _ f a) (hn _ f) l (RepTk.sw w hn hh xs _ _ r)
  | .dct .T xs, _, _, h => by cases h with | dT a f l r => exact .dT (hh _ _ f a) (hn _ f) l (RepTq.sw w hn hh xs _ _ r)
theorem RepTs.sw (w : Sw F F') (hn : ∀ a, F a = none → F' a = none) (hh : ∀ a o, F a = none → H a = some o → H' a = some o) : ∀ (t : List T) (v : List V) (u : List Addr), RepTs K mg ca F H v t u → RepTs K mg ca F' H' v t u
  | [], _, _, h => by cases h; exact .nil
  | t :: ts, _, _, h => by cases h with | cons h1 h2 => exact .cons (RepT.sw w hn hh t _ _ h1) (RepTs.sw w hn hh ts _ _ h2)
theorem RepTk.sw (w : Sw F F') (hn : ∀ a, F a = none → F' a = none) (hh : ∀ a o, F a = none → H a = some o → H' a = some o) : ∀ (t : List (D × T)) (v : List (Key × V)) (u : List Addr), RepTk K mg ca F H v t u → RepTk K mg ca F' H' v t u
  | [], _, _, h => by cases h; exact .nil
  | (k, t) :: ts, _, _, h => by cases h with | cons h1 h2 => exact .cons (RepT.sw w hn hh t _ _ h1) (RepTk.sw w hn hh ts _ _ h2)
theorem RepTq.sw (w : Sw F F') (hn : ∀ a, F a = none → F' a = none) (hh : ∀ a o, F a = none → H a = some o → H' a = some o) : ∀ (t : List (D × T)) (v : List (List Key × V)) (u : List Addr), RepTq K mg ca F H v t u → RepTq K mg ca F' H' v t u
  | [], _, _, h => by cases h; exact .nil
  | (k, t) :: ts, _, _, h => by cases h with | cons h1 h2 => exact .cons (RepT.sw w hn hh t _ _ h1) (RepTq.sw w hn hh ts _ _ h2)
end
theorem Sim.sw {σ : St} {env : Env} {cs : CS} {fp : Fp} (S : Sim K mg ca F H σ env cs fp) (w : Sw F F') (hn : ∀ a, F a = none → F' a = none) (hh : ∀ a o, F a = none → H a = some o → H' a = some o) (hs : Sub F' H') : Sim K mg ca F' H' σ env cs fp where
  sub := hs
  le := S.le
  slot := fun i t e => let ⟨v, e1, r⟩ := S.slot i t e; ⟨v, e1, RepT.sw w hn hh _ _ _ r⟩
  len := S.len
  cell := fun i t e => let ⟨a, e1, r, n⟩ := S.cell i t e; ⟨a, e1, RepT.sw w hn hh _ _ _ r, n⟩
  nd := S.nd
  dj := S.dj
  own := fun r a ha => let ⟨f, o, e, q⟩ := S.own r a ha; ⟨hn a f, o, hh a o f e, q⟩
/-- d's dict, locked or not -/
theorem sw_upd {d : Addr} {kvs : List (Key × V)} {u : HO} (h : Rd F d (.dK kvs)) (hu : u = .dK kvs ∨ ∃ o, u = .frz o (.dK kvs)) : Sw F (upd F d u) := by
  have one : ∀ a o, F a = some o → a = d → o = .dK kvs ∨ ∃ ob, o = .frz ob (.dK kvs) := fun a o e z => by
    subst z
    rcases h with h | ⟨ob, h⟩
    · rw [h] at e; cases e; exact .inl rfl
    · rw [h] at e; cases e; exact .inr ⟨ob, rfl⟩
  refine ⟨fun a o h1 h2 e => ?_, fun a ks r => ?_⟩
  · by_cases ha : a = d
    · rcases one a o e ha with z | ⟨ob, z⟩
      · exact absurd z (h1 _)
      · exact absurd z (h2 _ _)
    · rw [upd_ne ha]; exact e
  · by_cases ha : a = d
    · have ek : ks = kvs := by
        rcases r with r | ⟨o, r⟩
        · rcases one a _ r ha with z | ⟨ob, z⟩
          · cases z; rfl
          · cases z
        · rcases one a _ r ha with z | ⟨ob, z⟩
          · cases z
          · cases z; rfl
      subst ek
      subst ha
      rcases hu with rfl | ⟨o, rfl⟩
      · exact .inl upd_same
      · exact .inr ⟨o, upd_same⟩
    · rcases r with r | ⟨o, r⟩
      · exact .inl (by rw [upd_ne ha]; exact r)
      · exact .inr ⟨o, by rw [upd_ne ha]; exact r⟩
/-- a key that is told as plain data -/
def D.keyOk : D → Bool
  | .int _ => true
  | .str x => decide (x.length ≤ sizeLine) && PyData.strOk x
  | _ => false
/-- the keys of the dict that a name holds -/
def iKy (j : Nat) : Iv := fun env cs => match env[j]? with
  | some (some (.sh (.dct .K kvs))) => if kvs.length ≤ sizeLine ∧ (kvs.all fun p => p.1.keyOk) = true then some (kvs.map (·.1), env, cs) else none
  | _ => none
def wAt (σ : St) (H : Hp) (w : TI) : TI := fun σ' H' R => σ' = σ → H' = H → w σ' H' R
theorem RepKs.getK {ds : List (D × D)} : ∀ {vs : List (Key × V)} {i : Nat} {k : Key} {v : V}, RepKs K mg ca F vs ds → vs[i]? = some (k, v) → (ds.map (·.1))[i]? = some (kD k) := by
  induction ds with
  | nil => intro vs i k v h e; cases h; simp at e
  | cons d ds ih =>
    intro vs i k v h e
    cases h with
    | cons h1 h2 =>
      cases i with
      | zero => simp at e; obtain ⟨rfl, rfl⟩ := e; rfl
      | succ i => simpa using ih h2 (by simpa using e)
theorem keyOk_rep {k : Key} {F : Hp} (h : (kD k).keyOk = true) : RepD K mg ca F (kV k) (kD k) := by
  cases k with
  | inl i => exact .int i
  | inr x =>
    simp only [kD, D.keyOk, Bool.and_eq_true, decide_eq_true_eq] at h
    exact .str x h.1 h.2
theorem RepKs.getV {ds : List (D × D)} : ∀ {vs : List (Key × V)} {i : Nat} {d : D}, RepKs K mg ca F vs ds → (ds.map (·.1))[i]? = some d → ∃ k v, vs[i]? = some (k, v) ∧ d = kD k := by
  induction ds with
  | nil => intro vs i d h e; simp at e
  | cons p ds ih =>
    intro vs i d h e
    cases h with
    | cons h1 h2 =>
      cases i with
      | zero => simp at e; exact ⟨_, _, rfl, e.symm⟩
      | succ i =>
        obtain ⟨k, v, e1, e2⟩ := ih h2 (by simpa using e)
        exact ⟨k, v, by simpa using e1, e2⟩
theorem snd_ky {j : Nat} {σ0 : St} {H0 : Hp} (hno : ∀ d kvs, σ0[j]? = some (some (.ref d)) → H0 d ≠ some (.dK kvs)) : SndI K mg (wAt σ0 H0 (iKeys (tVar j))) (iKy j) := by
  intro ca F H σ env cs fp ds env' cs' R S h k
  rintro rfl rfl
  unfold iKy at h
  split at h
  · rename_i kvs e
    split at h
    · rename_i hz
      cases h
      obtain ⟨v, e1, r⟩ := S.slot j _ e
      obtain ⟨d, ks, rfl, q, l, rk⟩ := (RepT.shD r).dK'
      rcases q with q | ⟨o, q⟩
      · exact absurd (S.sub _ _ q) (hno d ks e1)
      · refine ⟨.ref d, e1, d, o, rfl, .inl ⟨ks, S.sub _ _ q, k ca F H fp _ .refl S (fun i G hG => ?_) (by rw [List.length_map]; exact hz.1)⟩⟩
        have len := RepKs.length rk
        refine ⟨fun x hx => ?_, fun hi => ⟨hG _ _ q, by rw [List.length_map] at hi; omega⟩⟩
        obtain ⟨key, u, e2, rfl⟩ := RepKs.getV rk hx
        have hi : i < ks.length := (List.getElem?_eq_some_iff.mp e2).1
        refine ⟨⟨hG _ _ q, hi⟩, fun y G' yl => ?_⟩
        obtain ⟨rfl, k2, v2, e3, rfl⟩ := yl
        rw [e2] at e3
        cases e3
        refine .inl ⟨rfl, keyOk_rep ?_⟩
        obtain ⟨p, hp, ep⟩ := List.mem_map.mp (List.mem_of_getElem? hx)
        have := List.all_eq_true.mp hz.2 p hp
        rw [ep] at this
        exact this
    · cases h
  · cases h
/-- the dict that a name holds is locked, if it is not -/
def tLockO (t : TE) : TE := fun σ H Q => t σ H Q ∨ tLockE t σ H Q
theorem pe_lockO {X : Cx} {e : Expr} {t : TE} (h : PE X e t) : PE X e (tLockO t) := ⟨fun pins s σ H Q I q => q.elim (h.run pins s σ H Q I) ((pe_lock h).run pins s σ H Q I)⟩
/-- e, where the dict that the name holds is shared -/
def eLock (j : Nat) (ev : Ev) : Ev := fun env cs => match eVar j env cs with
  | some (.sh (.dct .K _), env1, cs1) => ev env1 cs1
  | _ => none
theorem snd_lock {j : Nat} {te : TE} {ev : Ev} (hte : ∀ (σ : St) (H : Hp), (∀ d kvs, σ[j]? = some (some (.ref d)) → H d ≠ some (.dK kvs)) → ∀ ca F env cs fp t env' cs' Q, Sim K mg ca F H σ env cs fp → ev env cs = some (t, env', cs') → Kont K mg ca F H fp σ t env' cs' Q → te σ H Q) :
    SndE K mg (tLockO te) (eLock j ev) := by
  intro ca F H σ env cs fp t env' cs' Q S h k
  unfold eLock at h
  split at h
  · rename_i kvs env1 cs1 h1
    obtain ⟨v, ev1, ca1, F1, fp1, st1, S1, rv⟩ := snd_var j ca F H σ env cs fp _ env1 cs1 (fun v H' => ∃ ca1 F1 fp1, Step MC ca F H fp ca1 F1 H' fp1 ∧ Sim K mg ca1 F1 H' σ env1 cs1 fp1 ∧ RepD K mg ca1 F1 v (.dct .K kvs)) S h1 (fun v ca' F' H' fp' w st S' r nd fr dj => ⟨ca', F', fp', st, S', RepT.shD r⟩)
    obtain ⟨d, ks, rfl, q, l, rk⟩ := rv.dK'
    rcases q with q | ⟨o, q⟩
    · -- it is locked
      have hHd := S1.sub _ _ q
      refine .inr ⟨d, .dK ks, hHd, trivial, fun od => ?_⟩
      have w1 : Sw F1 (upd F1 d (.frz od (.dK ks))) := sw_upd (.inl q) (.inr ⟨od, rfl⟩)
      have hn1 : ∀ a, F1 a = none → upd F1 d (.frz od (.dK ks)) a = none := fun a e => by rw [upd_ne (fun z => by rw [z, q] at e; cases e)]; exact e
      have hh1 : ∀ a o, F1 a = none → H a = some o → upd H d (.frz od (.dK ks)) a = some o := fun a o f e => by rw [upd_ne (fun z => by rw [z, q] at f; cases f)]; exact e
      have sub1 : Sub (upd F1 d (.frz od (.dK ks))) (upd H d (.frz od (.dK ks))) := fun a o e => by
        by_cases ha : a = d
        · rw [ha, upd_same] at e ⊢; exact e
        · rw [upd_ne ha] at e ⊢; exact S1.sub _ _ e
      have S2 := S1.sw w1 hn1 hh1 sub1
      refine hte σ (upd H d (.frz od (.dK ks))) (fun d' kv e z => ?_) ca1 _ env1 cs1 fp1 t env' cs' _ S2 h fun v' ca' F' H' fp' w st' S' r nd fr dj => ?_
      · rw [ev1] at e
        cases e
        rw [upd_same] at z
        cases z
      · have eF : F' d = some (.frz od (.dK ks)) := st'.ff _ _ upd_same
        have eH : H' d = some (.frz od (.dK ks)) := S'.sub _ _ eF
        refine ⟨eH, ?_⟩
        have w2 : Sw F' (upd F' d (.dK ks)) := sw_upd (.inr ⟨od, eF⟩) (.inl rfl)
        have hn2 : ∀ a, F' a = none → upd F' d (.dK ks) a = none := fun a e => by rw [upd_ne (fun z => by rw [z, eF] at e; cases e)]; exact e
        have hh2 : ∀ a o, F' a = none → H' a = some o → upd H' d (.dK ks) a = some o := fun a o f e => by rw [upd_ne (fun z => by rw [z, eF] at f; cases f)]; exact e
        have sub2 : Sub (upd F' d (.dK ks)) (upd H' d (.dK ks)) := fun a o e => by
          by_cases ha : a = d
          · rw [ha, upd_same] at e ⊢; exact e
          · rw [upd_ne ha] at e ⊢; exact S'.sub _ _ e
        have noneH : ∀ a, upd H d (.frz od (.dK ks)) a = none → H a = none := fun a e => by
          by_cases ha : a = d
          · rw [ha, upd_same] at e; cases e
          · rw [upd_ne ha] at e; exact e
        have st2 : Step MC ca F H fp ca' (upd F' d (.dK ks)) (upd H' d (.dK ks)) fp' := by
          refine ⟨st1.pre.trans st'.pre, fun a o e => ?_, fun a o e => ?_, fun a o e hm => ?_, fun r a ha => ?_, fun a o e => ?_⟩
          · have e1 := st1.ff _ _ e
            by_cases ha : a = d
            · subst ha; rw [q] at e1; cases e1; exact upd_same
            · rw [upd_ne ha]; exact st'.ff _ _ (by rw [upd_ne ha]; exact e1)
          · by_cases ha : a = d
            · subst ha; rw [upd_same] at e; cases e; exact st1.nf _ _ q
            · rw [upd_ne ha] at e
              rcases st'.nf a o e with z | z | ⟨r, z⟩
              · rw [upd_ne ha] at z; exact st1.nf a o z
              · exact .inr (.inl (noneH a z))
              · rcases st1.sub r a z with y | y
                · exact .inr (.inr ⟨r, y⟩)
                · exact .inr (.inl y)
          · by_cases ha : a = d
            · subst ha; rw [hHd] at e; cases e; exact upd_same
            · rw [upd_ne ha]
              refine st'.ext a o (by rw [upd_ne ha]; exact e) fun r hr z => ?_
              rcases st1.sub r a z with y | y
              · exact hm r hr y
              · rw [e] at y; cases y
          · rcases st'.sub r a ha with z | z
            · exact st1.sub r a z
            · exact .inr (noneH a z)
          · by_cases ha : a = d
            · subst ha; exact ⟨_, upd_same⟩
            · obtain ⟨o', e'⟩ := st'.alive a o (by rw [upd_ne ha]; exact e)
              exact ⟨o', by rw [upd_ne ha]; exact e'⟩
        exact k v' ca' _ _ fp' w st2 (S'.sw w2 hn2 hh2 sub2) (RepT.sw w2 hn2 hh2 _ _ _ r) nd (fun a ha => noneH a (fr a ha)) dj
    · -- it stands locked
      refine .inl (hte σ H (fun d' kv e z => ?_) ca1 F1 env1 cs1 fp1 t env' cs' Q S1 h (fun v ca' F' H' fp' w st S' r nd fr dj => k v ca' F' H' fp' w (st1.trans st) S' r nd (fun a ha => fr a ha) dj))
      rw [ev1] at e
      cases e
      rw [S1.sub _ _ q] at z
      cases z
  · cases h
theorem ee_compKy {X : Cx} {j : Nat} {x : Str} {px : Pos} {elt tg : Expr} {ifs : List Expr} {scope : Scope} {own : List (Str × Nat)} {pos : Pos} {g : Blk TG} {vs : List Nat} {tgf : T → Env → Option Env} {tt : Blk TT} {tv : Tv} {te : Blk TE} {el : Ev} (hc : X.calm = true) (hN : X.N.Nodup) (ok : BlkOk X.N X.env.scope scope own)
    (hg : ∀ (s : Shared) (H : Hp) (C : Addr) (cl : List (Str × Addr)) (fp : List Addr), EG (X.blk s H scope (compEnvC scope cl C X.env) fp) tg (g s H C cl fp) vs tgf) (ht : ∀ (s : Shared) (H : Hp) (C : Addr) (cl : List (Str × Addr)) (fp : List Addr), ETs (X.blk s H scope (compEnvC scope cl C X.env) fp) ifs (tt s H C cl fp) tv)
    (he : ∀ (s : Shared) (H : Hp) (C : Addr) (cl : List (Str × Addr)) (fp : List Addr), EE (X.blk s H scope (compEnvC scope cl C X.env) fp) elt (te s H C cl fp) el) (hv : ∀ i ∈ vs, i ∈ own.map (·.2) := by decide) (hj : X.N[j]? = some x := by rfl) (hvx : Vis X.env.scope x := by first | exact .inl rfl | exact .inr (.inl rfl) | exact .inr (.inr rfl))
    (hd : (x == ("__debug__" : Str)) = false := by decide) (hcd : (x == ("__classdict__" : Str)) = false := by decide) (hs : ∀ y, foldedSetIterable (.Name x px) X.env y = pure y := by intro _; rfl) :
    EE X (.ListComp elt [⟨tg, .Name x px, ifs, 0⟩] scope pos) (tLockO (tLc (iKeys (tVar j)) (tgA g) (ttA tt) (teA te) (own.map (·.2)))) (eLock j (eComp (own.map (·.2)) (iKy j) tgf tv el)) :=
  ⟨pe_lockO (pe_lc hc hN (pi_keys (pe_var hj hvx hd hcd)) ok (tgA_pg (Z := fun s H C cl fp => X.blk s H scope (compEnvC scope cl C X.env) fp) fun s H C cl fp => (hg s H C cl fp).pg) (ttA_pt (Z := fun s H C cl fp => X.blk s H scope (compEnvC scope cl C X.env) fp) fun s H C cl fp => (ht s H C cl fp).pt) (teA_pe (Z := fun s H C cl fp => X.blk s H scope (compEnvC scope cl C X.env) fp) fun s H C cl fp => (he s H C cl fp).pe) hs),
    snd_lock fun σ H hno ca F env cs fp t env' cs' Q S h k => snd_comp (snd_ky hno) (tgA_snd fun s H C cl fp => (hg s H C cl fp).snd) hv (ttA_snd fun s H C cl fp => (ht s H C cl fp).snd) (teA_snd fun s H C cl fp => (he s H C cl fp).snd) ca F H σ env cs fp t env' cs' (fun v H' => Q v H') S h k rfl rfl⟩
end
end PD
end
section
set_option Elab.async false
set_option linter.all false
set_option maxRecDepth 100000
set_option autoImplicit false
namespace PD
open PySem L2 PyProof.Rows
/-! ### lists of unlike lengths -/
def rEqLen (K : PySem.W.Frag) (c : Bool) : R2 := fun x y H Q => ∃ a b xs ys, x = .ref a ∧ y = .ref b ∧ SqL K H a xs ∧ SqL K H b ys ∧ xs.length ≠ ys.length ∧ Q (.bl c) H
section
variable {X : Cx}
theorem op_eqLen (hu : X.A.units + 65 < cLine) : OpR X (compareOp .Eq) (rEqLen X.K false) := by
  intro pins s σ H x y v u Q I rx ry h
  obtain ⟨a, b, xs, ys, rfl, rfl, h1, h2, hn, q⟩ := h
  obtain rfl : v = Value.ref a := rx
  obtain rfl : u = Value.ref b := ry
  obtain ⟨i1, r1, p1, _⟩ := I.list h1
  obtain ⟨i2, r2, p2, _⟩ := I.list h2
  have l1 := r1.length
  have l2 := r2.length
  exact PySem.SeqAt.RcAt.lists_lengths p1.isList p2.isList (by simp; omega) (by omega) _ _ _ _ ⟨.bl false, H, I, rfl, q⟩
theorem op_neLen (hu : X.A.units + 65 < cLine) : OpR X (compareOp .NotEq) (rEqLen X.K true) := by
  intro pins s σ H x y v u Q I rx ry h
  obtain ⟨a, b, xs, ys, rfl, rfl, h1, h2, hn, q⟩ := h
  obtain rfl : v = Value.ref a := rx
  obtain rfl : u = Value.ref b := ry
  obtain ⟨i1, r1, p1, _⟩ := I.list h1
  obtain ⟨i2, r2, p2, _⟩ := I.list h2
  have l1 := r1.length
  have l2 := r2.length
  exact PySem.SeqAt.RcNeAt.lists_lengths p1.isList p2.isList (by simp; omega) (by omega) _ _ _ _ ⟨.bl true, H, I, rfl, q⟩
theorem op_eqX (hu : X.A.units + 65 < cLine) : OpR X (compareOp .Eq) (rOr (rEqLen X.K false) (rOr rEq (rEqD X.K))) := OpR.or (op_eqLen hu) (op_eqH hu)
theorem op_neX (hu : X.A.units + 65 < cLine) : OpR X (compareOp .NotEq) (rOr (rEqLen X.K true) (rOr rNe (rNeD X.K))) := OpR.or (op_neLen hu) (op_neH hu)
end
def unlike (d e : D) : Bool := match d.seqL, e.seqL with
  | some xs, some ys => decide (xs.length ≠ ys.length)
  | _, _ => false
def dEqX (d e : D) : Option T := if unlike d e = true then some (.sh (.bl false)) else dEq d e
def dNeX (d e : D) : Option T := if unlike d e = true then some (.sh (.bl true)) else dNe d e
section
variable {K : PySem.W.Frag} {mg : Str → Option Value} {ca : List Addr} {F : Hp}
theorem unlike_of {d e : D} (h : unlike d e = true) : ∃ xs ys, d.seqL = some xs ∧ e.seqL = some ys ∧ xs.length ≠ ys.length := by
  unfold unlike at h
  split at h
  · rename_i xs ys h1 h2; exact ⟨xs, ys, h1, h2, of_decide_eq_true h⟩
  · cases h
theorem o_eqX : Op2S K mg (rOr (rEqLen K false) (rOr rEq (rEqD K))) dEqX := by
  intro ca F H x y d e t Q hs rx ry h k
  unfold dEqX at h
  split at h
  · rename_i hu
    cases h
    obtain ⟨xs, ys, h1, h2, hn⟩ := unlike_of hu
    obtain ⟨a, vs, rfl, q1, l1, r1⟩ := rx.lists h1
    obtain ⟨b, us, rfl, q2, l2, r2⟩ := ry.lists h2
    exact .inl ⟨a, b, vs, us, rfl, rfl, SqL.mono hs q1, SqL.mono hs q2, by rw [RepDs.length r1, RepDs.length r2]; exact hn, OpK.same hs k (.bl _)⟩
  · exact .inr (o_eq ca F H x y d e t Q hs rx ry h k)
theorem o_neX : Op2S K mg (rOr (rEqLen K true) (rOr rNe (rNeD K))) dNeX := by
  intro ca F H x y d e t Q hs rx ry h k
  unfold dNeX at h
  split at h
  · rename_i hu
    cases h
    obtain ⟨xs, ys, h1, h2, hn⟩ := unlike_of hu
    obtain ⟨a, vs, rfl, q1, l1, r1⟩ := rx.lists h1
    obtain ⟨b, us, rfl, q2, l2, r2⟩ := ry.lists h2
    exact .inl ⟨a, b, vs, us, rfl, rfl, SqL.mono hs q1, SqL.mono hs q2, by rw [RepDs.length r1, RepDs.length r2]; exact hn, OpK.same hs k (.bl _)⟩
  · exact .inr (o_ne ca F H x y d e t Q hs rx ry h k)
theorem ee_gtupA {X : Cx} {x : Str} {ds : List D} {a : Addr} {pos : Pos} (hm : X.mg x = some (.ref a)) (r : ∀ ca F, RepD X.K X.mg ca F (.ref a) (.tup .any ds)) (hg : Gl X x := by rfl) (hd : (x == ("__debug__" : Str)) = false := by decide) : EE X (.Name x pos) (tC (.ref a)) (eC (.tup .any ds)) :=
  ⟨pe_glob hg hm rfl hd, snd_C r⟩
end
end PD
end
section
set_option Elab.async false
set_option linter.all false
set_option maxRecDepth 100000
set_option maxHeartbeats 2000000
/-! the end of a law: HandS's law_call turned to defs that are entered where no repr is under way -/
namespace PD
open PySem PySem.Spec PyProof.Rows L2
theorem law_callG {P : Program} {w : World} {K : PySem.W.Frag} {mg mb : Str → Option Value} {CX : CXT} {k : Nat} {fa a : Addr} {fd : FuncData} {x : Str} {sp : Sp} {s₁ : Shared} {vs : List Value} {ns : List Int}
    (KX : K.In s₁.heap) (hns : s₁.heap.Ns mainGlobals mg) (hb : s₁.heap.Ns builtinsNs mb) (hbb : ∀ x : Str, x ≠ "__name__" → mb x = bootBuiltins x) (hlim : s₁.heap.NoLimit) (hg : s₁.gens = #[])
    (ha : s₁.heap.get? a = some { cls := .type "list", data := .seq vs.toArray }) (hi : IntsAre vs ns) (hl : ns.length ≤ sizeLine) (hr : RoomG k callerA)
    (F : ∀ base : Heap, K.In base → base.Ns mainGlobals mg → FnG P w K mg base CX k fa fd [x] sp) (hbind : ∀ (s : Shared) (u : Value), BindsTo s fd ⟨[u], []⟩ [(x, u)])
    (hsp : ∀ H : Hp, Only H → SqL K H a (ns.map V.int) → sp [.ref a] H (fun v _ => v = .bl true) fun _ _ _ => False)
    (hCX : ∀ H e s', CX [] H s₁ (fun _ _ _ => False) e s' → False) :
    codeAny (model P w) callerA (.call (.ref fa) ⟨[.ref a], []⟩) (fun r s' => r = .ok (.ret (.bool true)) ∧ OldK s₁.heap s'.heap ∧ s'.os = s₁.os ∧ AllBare s'.gens) s₁ := by
  have rv := vals_ints hi
  have lenV := hi.length
  -- from an abstract heap in which nothing but the script may be tracked
  have core : ∀ H : Hp, Only H → SqL K H a (ns.map V.int) → HOk P w H s₁.heap → (∀ b, H b ≠ none → b = a) → (H a ≠ none → K.lookup a = none) →
      codeAny (model P w) callerA (.call (.ref fa) ⟨[.ref a], []⟩) (fun r s' => r = .ok (.ret (.bool true)) ∧ OldK s₁.heap s'.heap ∧ s'.os = s₁.os ∧ AllBare s'.gens) s₁ := by
    intro H hO hS hok hA hK
    have base_of : ∀ {b : Addr} {o : Obj}, s₁.heap.get? b = some o → H b = none → (hidT s₁.heap H).get? b = some o := fun e n => hidT_get e n
    have noA : ∀ {b : Addr} {o : Obj} {es : Array DictEntry} {ep : Nat}, s₁.heap.get? b = some o → o.data = .dict es ep → H b = none := fun {b o es ep} e d => by
      cases q : H b with
      | none => rfl
      | some u =>
        have e' : b = a := hA b (by rw [q]; simp)
        subst e'
        rw [ha] at e; cases e
        have d' : Data.seq vs.toArray _ = Data.dict es ep := d
        cases d'
    have nsK : ∀ {b : Addr} {m : Str → Option Value}, s₁.heap.Ns b m → (hidT s₁.heap H).Ns b m := fun {b m} ⟨o, es, ep, e, d, r⟩ => ⟨o, es, ep, base_of e (noA e d), d, r⟩
    have hKb : K.In (hidT s₁.heap H) := fun b o e => base_of (KX b o e) (by
      cases q : H b with
      | none => rfl
      | some u =>
        have e' : b = a := hA b (by rw [q]; simp)
        subst e'
        rw [hK (by rw [q]; simp)] at e; cases e)
    have hM : Mod K mg (hidT s₁.heap H) := ⟨hKb, nsK hns, ⟨mb, nsK hb, hbb⟩, let ⟨mc, h1, h2⟩ := hlim; ⟨mc, nsK h1, h2⟩⟩
    have e0 : Env0 P w K mg (hidT s₁.heap H) callerA [] s₁ H := ⟨rfl, hM, fun b o e => of_hidT e, Nat.le_of_eq (hidT_size _ _), trivial, fun b hb => absurd (show b ∈ ([] : List Addr) from hb) (by simp), hok, .of_eq hg⟩
    refine codeAny_mono ((F _ hKb (nsK hns)).run callerA [] s₁ H ⟨[.ref a], []⟩ [.ref a] [.ref a] _ _ hr e0 (hbind s₁ (.ref a)) (.cons rfl .nil) (hsp H hO hS)) fun r s' h => ?_
    cases r with
    | error e => exact (hCX H e s' h).elim
    | ok fl =>
      cases fl with
      | next => exact False.elim h
      | brk => exact False.elim h
      | cont => exact False.elim h
      | ret u =>
        obtain ⟨v, H', os, bare, un, hok', r', q⟩ := h
        have q' : v = .bl true := q
        subst q'
        obtain rfl : u = Value.bool true := r'
        refine ⟨rfl, OldK.of_keep fun b o e => ?_, os, bare⟩
        cases q : H b with
        | none => exact un.keep b o e q (by intro z; exact absurd (show b ∈ ([] : List Addr) from z) (by simp)) (by simp)
        | some u =>
          rcases hO b with z | ⟨ob, xs, z⟩
          · rw [q] at z; cases z
          · have z2 := un.frzs b ob _ z
            obtain ⟨e1, _⟩ := hok b _ z
            obtain ⟨e2, _⟩ := hok' b _ z2
            rw [e] at e1; cases e1
            exact e2
  cases hk : K.lookup a with
  | some o =>
    -- the script is one of the module's own objects
    have e := KX a o hk
    rw [ha] at e
    cases e
    refine core (fun _ => none) (fun _ => .inl rfl) (.inr ⟨_, vs.toArray, _, hk, rfl, rfl, rfl, by rw [List.size_toArray, lenV]; exact hl, by simpa using rv⟩) (fun b u z => by have z' : (none : Option HO) = some u := z; cases z') (fun b z => absurd rfl z) fun z => absurd rfl z
  | none =>
    refine core (fun b => if b = a then some (.frz { cls := .type "list", data := .seq vs.toArray } (.lst (ns.map V.int))) else none) (fun b => ?_) (.inl (.inr ⟨{ cls := .type "list", data := .seq vs.toArray }, if_pos rfl⟩)) (fun b u z => ?_) (fun b z => ?_) fun _ => hk
    · by_cases hb : b = a
      · exact .inr ⟨_, _, if_pos hb⟩
      · exact .inl (if_neg hb)
    · by_cases hb : b = a
      · have z' := (if_pos hb).symm.trans z
        cases z'
        subst hb
        exact ⟨ha, by rw [List.length_map]; exact hl, vs, _, rv, ha⟩
      · have z' := (if_neg hb).symm.trans z
        cases z'
    · by_cases hb : b = a
      · exact hb
      · exact absurd (if_neg hb) z

/-- what the law's mirror has to tell -/
def Says (m : Fn) : Prop := ∀ ns : List Int, ns.length ≤ 63 → (∀ k ∈ ns, Builtin.Int.intBits k ≤ 1048576) → ∃ cs', m [.rlst (ns.map D.int)] [] = some (.sh (.bl true), cs')
theorem reps_ints {K : PySem.W.Frag} {mg : Str → Option Value} {ca : List Addr} {F : Hp} : ∀ ns : List Int, RepDs K mg ca F (ns.map V.int) (ns.map D.int)
  | [] => .nil
  | n :: ns => .cons (.int n) (reps_ints ns)
theorem sp_of {K : PySem.W.Frag} {mg : Str → Option Value} {m : Fn} (hm : Says m) {H : Hp} {a : Addr} {ns : List Int} {E : XK} (hl : ns.length ≤ 63) (hb : ∀ k ∈ ns, Builtin.Int.intBits k ≤ 1048576) (hS : SqL K H a (ns.map V.int)) : spM K mg 1 m [.ref a] H (fun v _ => v = .bl true) E := by
  obtain ⟨cs', e⟩ := hm ns hl hb
  refine ⟨rfl, [], H, [], fun _ => [], [.rlst (ns.map D.int)], .sh (.bl true), cs', ⟨.refl, Nat.le_refl _, (fun i t e => by simp at e), rfl, (fun i t e => by simp at e), fun _ => List.nodup_nil, (fun _ _ _ a ha => nomatch ha), (fun _ a ha => nomatch ha)⟩, fun _ => rfl, .cons (.rlst hS ?_ (reps_ints ns)) .nil, e, fun v ca' F' H' fp' w st S' r nd fr dj => ?_⟩
  · rw [List.length_map, sizeLine_eq]; omega
  · cases r with
    | sh r => exact bl_of r
theorem walkG {l : PySem.W.OpenLaw} {k : Nat} {q : Program} {loose : List Str} {XP : (Str → Option Value) → Heap → Prop} {YP : World → Heap → Prop} {d : DefRec} {x : Str} {m : Fn}
    (hn : l.most = some 63) (hdf : d.params.defaults = []) (hr : RoomG k callerA)
    (F : ∀ (w : World) (mg : Str → Option Value) (fa : Addr) (h : Heap), YP w h → h.Ns mainGlobals mg → mg d.name = some (.ref fa) →
      ∃ (K : PySem.W.Frag) (fd : FuncData), K.In h ∧ (∀ (s : Shared) (u : Value), BindsTo s fd ⟨[u], []⟩ [(x, u)]) ∧
        ∀ base : Heap, K.In base → base.Ns mainGlobals mg → FnG l.prog w K mg base CX0 k fa fd [x] (spM K mg 1 m))
    (hm : Says m) : PySem.W.WalkO q loose XP YP l.row.toRowW d [] (fun f vs => PySem.call f vs) := by
  refine Att.attach_callB hn hdf fun w s₀ s₁ mg mb fa o pm cd doc a vs ns G Y ho hd hcd hmg hobj hints hlen hbits hg => ?_
  obtain ⟨K, fd, KX, hb, hF⟩ := F w mg fa _ Y G.T.g hmg
  exact law_callG KX G.T.g G.T.b G.T.builtins G.T.nolimit hg hobj hints (Nat.le_trans hlen (by rw [sizeLine_eq]; omega)) hr hF hb (fun H hO hS => sp_of hm hlen hbits hS) fun H e s' z => z
/-! ### the head's looks, with tuples -/
def obsP (n : Nat) (fa : List He.Fa) (fn : List He.DefD) (ts : List (Str × List He.Dv)) (g : Addr → Option Obj) : He.AlD × Bool :=
  let K := He.frG g (He.asD g n)
  (He.obsD fa fn K, ts.all fun t => He.eqO (PySem.W.nsIn K mainGlobals t.1) (some (some (.ref (He.ga K t.1)))) && He.tupB K t.1 t.2)
def SaysP (fa : List He.Fa) (fn : List He.DefD) (ts : List (Str × List He.Dv)) (K : PySem.W.Frag) : Prop := He.SaysD fa fn K ∧ (ts.all fun t => He.eqO (PySem.W.nsIn K mainGlobals t.1) (some (some (.ref (He.ga K t.1)))) && He.tupB K t.1 t.2) = true
def hookP (n : Nat) (fa : List He.Fa) (fn : List He.DefD) (ts : List (Str × List He.Dv)) : PySem.W.Hook where
  α := He.AlD × Bool
  obs := fun s => obsP n fa fn ts s.heap.get?
  val := fun _ => (He.valD fn, true)
  says := fun _ h => ∃ K : PySem.W.Frag, K.In h ∧ SaysP fa fn ts K
  of := fun _ _ e => ⟨_, He.frG_in, (Prod.mk.inj e).1, (Prod.mk.inj e).2⟩
  keeps := fun _ _ _ ⟨K, hK, c⟩ k => ⟨K, PySem.W.Frag.In.keeps hK k, c⟩
theorem obsP_eq {n : Nat} {fa : List He.Fa} {fn : List He.DefD} {ts : List (Str × List He.Dv)} {g : Addr → Option Obj} {s : Shared} (h : ∀ a, g a = s.heap.get? a) : obsP n fa fn ts g = (hookP n fa fn ts).obs s := by
  have e : g = s.heap.get? := funext h
  rw [e] <;> rfl
theorem SaysP.tup {fa : List He.Fa} {fn : List He.DefD} {ts : List (Str × List He.Dv)} {K : PySem.W.Frag} {h : Heap} {mg : Str → Option Value} (c : SaysP fa fn ts K) (X : K.In h) (G : h.Ns mainGlobals mg) (i : Nat) {x : Str} {vs : List He.Dv} {ds : List D} (e : ts[i]? = some (x, vs))
    (hl : vs.length ≤ sizeLine) (r : ∀ ca F, RepDs K mg ca F (vs.map (He.Dv.v K)) ds) : GTup K mg x ds := by
  have q := List.all_eq_true.mp c.2 (x, vs) (List.mem_of_getElem? e)
  obtain ⟨q1, q2⟩ := He.ba q
  exact ⟨He.ga K x, PySem.W.mg_of X G (He.eqO_ok q1), fun ca F => .tup (t := .any) (He.tupB_ok q2 F) (by rw [List.length_map]; exact hl) (r ca F)⟩
end PD
end
section
set_option Elab.async false
set_option linter.all false
set_option maxRecDepth 100000
set_option autoImplicit false
namespace PD
/-! ### plain tools: what evaluators tell -/
theorem keep_flat {env env' : Env} {t : T} {cs : CS} (hc : cs.all T.cellFlat = true) (ht : t.flat = true) : keep env env' t cs = env := by
  unfold keep
  rw [ht, hc]
  rfl
theorem wipeE_set {env : Env} : ∀ (own : List Nat), (wipeE env own).length = env.length := wipeE_length env
theorem wipeE_out' {env : Env} {i : Nat} : ∀ {own : List Nat}, i ∉ own → (wipeE env own)[i]? = env[i]?
  | [], _ => rfl
  | v :: vs, h => by
    unfold wipeE
    rw [List.getElem?_set_ne (fun z => h (by rw [z]; exact List.mem_cons_self))]
    exact wipeE_out' fun z => h (List.mem_cons_of_mem _ z)
theorem backE_wipe (own : List Nat) (env : Env) : backE own env (wipeE env own) = env := by
  apply List.ext_getElem?
  intro i
  unfold backE
  rw [wipeE_length, List.getElem?_map]
  by_cases hi : i < env.length
  · rw [List.getElem?_range hi]
    have e : env[i]? = some env[i] := List.getElem?_eq_getElem hi
    by_cases ho : i ∈ own
    · simp [ho, e]
    · simp [ho, wipeE_out' ho, e]
  · rw [List.getElem?_eq_none (by simpa using hi), List.getElem?_eq_none (by omega)]
    rfl
section
variable {own : List Nat} {tg : T → Env → Option Env} {tt : Tv} {el : Ev} {E env : Env} {cs : CS} {it : Iv} {ds : List D}
/-- a turn that leaves the cells be: p d tells whether d is taken, g d what is told of it -/
def Turns (own : List Nat) (tg : T → Env → Option Env) (tt : Tv) (el : Ev) (E : Env) (cs : CS) (p : D → Bool) (g : D → T) (d : D) : Prop :=
  ∃ env1 env2, tg (.sh d) E = some env1 ∧ tt env1 cs = some (p d, env2, cs) ∧ (p d = false → wipeE env2 own = E) ∧ (p d = true → ∃ env3, el env2 cs = some (g d, env3, cs) ∧ wipeE env3 own = E)
theorem compL_fil {p : D → Bool} {g : D → T} : ∀ {ds : List D}, (∀ d ∈ ds, Turns own tg tt el E cs p g d) → compL own tg tt el ds E cs = some ((ds.filter p).map g, E, cs)
  | [], _ => rfl
  | d :: ds, h => by
    obtain ⟨env1, env2, h1, h2, h3, h4⟩ := h d List.mem_cons_self
    have ih := compL_fil (ds := ds) fun x hx => h x (List.mem_cons_of_mem _ hx)
    unfold compL
    simp only [h1, h2]
    cases hp : p d with
    | false =>
      rw [if_neg Bool.false_ne_true, h3 hp, ih, List.filter_cons_of_neg (by simp [hp])]
    | true =>
      obtain ⟨env3, h5, h6⟩ := h4 hp
      rw [if_pos rfl]
      simp only [h5, h6, ih]
      rw [List.filter_cons_of_pos hp]
      rfl
theorem eComp_fil {p : D → Bool} {g : D → T} (hit : it env cs = some (ds, env, cs)) (hown : ownOk own env = true) (h : ∀ d ∈ ds, Turns own tg tt el (wipeE env own) cs p g d) : eComp own it tg tt el env cs = some (.lst ((ds.filter p).map g), env, cs) := by
  unfold eComp
  simp only [hit, hown, if_true, compL_fil h, backE_wipe]
theorem eComp_map {g : D → T} (hit : it env cs = some (ds, env, cs)) (hown : ownOk own env = true) (h : ∀ d ∈ ds, ∃ env1 env3, tg (.sh d) (wipeE env own) = some env1 ∧ el env1 cs = some (g d, env3, cs) ∧ wipeE env3 own = wipeE env own) : eComp own it tg tTrue el env cs = some (.lst (ds.map g), env, cs) := by
  have e := eComp_fil (tt := tTrue) (el := el) (p := fun _ => true) (g := g) hit hown fun d hd => by
    obtain ⟨env1, env3, h1, h2, h3⟩ := h d hd
    exact ⟨env1, env1, h1, rfl, fun z => (by cases z), fun _ => ⟨env3, h2, h3⟩⟩
  rw [e, List.filter_eq_self.mpr (fun _ _ => rfl)]
/-- turns that change the cells: I n holds of the cells, each turn goes on by k, up to M -/
theorem compL_run {P : T → Prop} {I : Nat → CS → Prop} {k M : Nat} : ∀ {ds : List D} {n : Nat} {cs : CS}, (∀ d ∈ ds, ∀ n cs, n + k ≤ M → I n cs → ∃ env1 t env3 cs3, tg (.sh d) E = some env1 ∧ el env1 cs = some (t, env3, cs3) ∧ wipeE env3 own = E ∧ P t ∧ I (n + k) cs3) → n + k * ds.length ≤ M → I n cs →
    ∃ ts cs', compL own tg tTrue el ds E cs = some (ts, E, cs') ∧ ts.length = ds.length ∧ (∀ t ∈ ts, P t) ∧ I (n + k * ds.length) cs'
  | [], n, cs, _, _, h0 => ⟨[], cs, rfl, rfl, (fun _ z => nomatch z), by simpa using h0⟩
  | d :: ds, n, cs, h, hM, h0 => by
    have e : n + k * (d :: ds).length = n + k + k * ds.length := by rw [List.length_cons, Nat.mul_add]; omega
    rw [e] at hM
    obtain ⟨env1, t, env3, cs3, h1, h2, h3, h4, h5⟩ := h d List.mem_cons_self n cs (by omega) h0
    obtain ⟨ts, cs', e1, e2, e3, e4⟩ := compL_run (ds := ds) (fun x hx => h x (List.mem_cons_of_mem _ hx)) hM h5
    refine ⟨t :: ts, cs', ?_, by simp [e2], fun x hx => ?_, ?_⟩
    · unfold compL
      simp only [h1, tTrue, if_true, h2, h3, e1]
    · rcases List.mem_cons.mp hx with rfl | hx
      · exact h4
      · exact e3 x hx
    · rw [e]
      exact e4
theorem eComp_run {P : T → Prop} {I : Nat → CS → Prop} {k n M : Nat} {cs1 : CS} (hit : it env cs = some (ds, env, cs1)) (hown : ownOk own env = true) (h : ∀ d ∈ ds, ∀ n cs, n + k ≤ M → I n cs → ∃ env1 t env3 cs3, tg (.sh d) (wipeE env own) = some env1 ∧ el env1 cs = some (t, env3, cs3) ∧ wipeE env3 own = wipeE env own ∧ P t ∧ I (n + k) cs3) (hM : n + k * ds.length ≤ M) (h0 : I n cs1) :
    ∃ ts cs', eComp own it tg tTrue el env cs = some (.lst ts, env, cs') ∧ ts.length = ds.length ∧ (∀ t ∈ ts, P t) ∧ I (n + k * ds.length) cs' := by
  obtain ⟨ts, cs', e1, e2, e3, e4⟩ := compL_run h hM h0
  refine ⟨ts, cs', ?_, e2, e3, e4⟩
  unfold eComp
  simp only [hit, hown, if_true, e1, backE_wipe]
/-- for: each turn keeps J -/
theorem forL_run {b : Sv} {J : Nat → Env → CS → Prop} : ∀ {ds : List D} {i : Nat} {env : Env} {cs : CS}, (∀ j d, ds[j]? = some d → ∀ env cs, J (i + j) env cs → ∃ env1 env2 cs2, tg (.sh d) env = some env1 ∧ b env1 cs = some (.nx, env2, cs2) ∧ J (i + j + 1) env2 cs2) → J i env cs →
    ∃ env' cs', forL tg b ds env cs = some (.nx, env', cs') ∧ J (i + ds.length) env' cs'
  | [], i, env, cs, _, h0 => ⟨env, cs, rfl, by simpa using h0⟩
  | d :: ds, i, env, cs, h, h0 => by
    obtain ⟨env1, env2, cs2, h1, h2, h3⟩ := h 0 d rfl env cs h0
    obtain ⟨env', cs', e1, e2⟩ := forL_run (ds := ds) (i := i + 1) (env := env2) (cs := cs2) (fun j x hx env cs hJ => by
      have q := h (j + 1) x (by simpa using hx) env cs (by rw [show i + (j + 1) = i + 1 + j from by omega]; exact hJ)
      rw [show i + (j + 1) + 1 = i + 1 + j + 1 from by omega] at q
      exact q) h3
    refine ⟨env', cs', ?_, by rw [List.length_cons, show i + (ds.length + 1) = i + 1 + ds.length from by omega]; exact e2⟩
    unfold forL
    simp only [h1, h2]
    exact e1
end
end PD
end
section
set_option Elab.async false
set_option linter.all false
set_option maxRecDepth 100000
set_option autoImplicit false
namespace PD
open PySem PySem.Spec L2 PyProof.Rows
/-! ### how long repr gets -/
mutual
def pw : PyData → Nat
  | .none => 4
  | .bool _ => 5
  | .int _ => 1921
  | .str x => 10 * x.length + 2
  | .list xs => pws xs + 3
  | .tuple xs => pws xs + 3
  | .dict _ => 0
def pws : List PyData → Nat
  | [] => 0
  | x :: xs => pw x + 2 + pws xs
end
theorem listText_le (ts : List Str) : (listText ts).length ≤ piled ts + 2 := by
  unfold listText
  rw [strLen_append]
  have e1 : ((("]" : String) : Str)).length = 1 := rfl
  rw [e1]
  cases ts with
  | nil => exact Nat.le_of_eq rfl
  | cons t r =>
    show (textFrom 1 (("[" : Str) ++ (("" : String) : Str) ++ t) r).length + 1 ≤ _
    rw [textFrom_length_pos r 1 _ (by decide), strLen_append, strLen_append, piled_cons]
    have e2 : ((("[" : String) : Str)).length = 1 := rfl
    have e3 : ((("" : String) : Str)).length = 0 := rfl
    rw [e2, e3]
    omega
theorem tupleText_le (ts : List Str) : (tupleText ts).length ≤ piled ts + 3 := by
  unfold tupleText
  rw [strLen_append, strLen_append]
  have e1 : ((("(" : String) : Str)).length = 1 := rfl
  have e3 : (((if ts.length == 1 then ",)" else ")" : String) : Str)).length ≤ 2 := by split <;> decide
  rw [e1]
  by_cases h : ts = []
  · subst h
    have e4 : (Str.join ", " []).length = 0 := rfl
    rw [e4]
    simp only [piled_nil]
    omega
  · have := join_length_add ts h
    omega
theorem cp_ok {x : Str} (h : PyData.strOk x = true) : ∀ c ∈ x.cps.toList, c < 16 ^ 8 := by
  unfold PyData.strOk at h
  intro c hc
  rw [Array.all_eq_true'] at h
  have := h c (by simpa using hc)
  simp at this
  omega
mutual
theorem shown_le : ∀ p : PyData, p.canLay0 = true → p.showable = true → p.shown.length ≤ pw p
  | .none, _, _ => by decide
  | .bool b, _, _ => by cases b <;> decide
  | .int i, _, h => by
    simp only [PyData.showable, decide_eq_true_eq] at h
    exact int_text_len_1921 h
  | .str x, h, _ => by
    simp only [PyData.canLay0] at h
    exact StrLaws.reprText_len x (cp_ok h)
  | .list xs, h, h' => by
    simp only [PyData.canLay0] at h
    simp only [PyData.showable] at h'
    have := shownAll_le xs h h'
    have := listText_le (PyData.shownAll xs)
    simp only [PyData.shown, pw]
    omega
  | .tuple xs, h, h' => by
    simp only [PyData.canLay0] at h
    simp only [PyData.showable] at h'
    have := shownAll_le xs h h'
    have := tupleText_le (PyData.shownAll xs)
    simp only [PyData.shown, pw]
    omega
  | .dict _, h, _ => by simp [PyData.canLay0] at h
theorem shownAll_le : ∀ xs : List PyData, PyData.canLayAll0 xs = true → PyData.showableAll xs = true → piled (PyData.shownAll xs) ≤ pws xs
  | [], _, _ => Nat.le_refl _
  | x :: xs, h, h' => by
    simp only [PyData.canLayAll0, Bool.and_eq_true] at h
    simp only [PyData.showableAll, Bool.and_eq_true] at h'
    have h1 := shown_le x h.1 h'.1
    have h2 := shownAll_le xs h.2 h'.2
    simp only [PyData.shownAll, piled_cons, pws]
    omega
end
end PD
end
section
set_option Elab.async false
set_option linter.all false
set_option maxRecDepth 100000
set_option autoImplicit false
namespace PD
/-! ### one step of an evaluator, by a rule each (nothing is unfolded in the use) -/
section
variable {env env1 env2 env3 : Env} {cs cs1 cs2 cs3 : CS} {a b c : Ev} {t t1 t2 r : T} {d d1 d2 : D}
theorem u_seq {a b : Sv} (h : a env cs = some (.nx, env1, cs1)) : sSeq a b env cs = b env1 cs1 := by unfold sSeq; rw [h]
theorem u_seqR {a b : Sv} (h : a env cs = some (.rt t, env1, cs1)) : sSeq a b env cs = some (.rt t, env1, cs1) := by unfold sSeq; rw [h]
theorem u_ifT {k : Tv} {a b : Sv} (h : k env cs = some (true, env1, cs1)) : sIf k a b env cs = a env1 cs1 := by unfold sIf; rw [h]; rfl
theorem u_ifF {k : Tv} {a b : Sv} (h : k env cs = some (false, env1, cs1)) : sIf k a b env cs = b env1 cs1 := by unfold sIf; rw [h]; rfl
theorem u_asg {tg : T → Env → Option Env} (h : a env cs = some (t, env1, cs1)) (h2 : tg t env1 = some env2) : sAsg a tg env cs = some (.nx, env2, cs1) := by unfold sAsg; rw [h]; simp only [h2]
theorem u_ret (h : a env cs = some (t, env1, cs1)) : sRet a env cs = some (.rt t, env1, cs1) := by unfold sRet; rw [h]
theorem u_for {it : Iv} {tg : T → Env → Option Env} {b : Sv} {ds : List D} (h : it env cs = some (ds, env1, cs1)) : sFor it tg b env cs = forL tg b ds env1 cs1 := by unfold sFor; rw [h]
theorem u_run {n : Nat} {sv : Sv} {ds : List D} (h : sv (env0 n ds) cs = some (.rt t, env1, cs1)) : runBody n sv ds cs = some (t, cs1) := by unfold runBody; rw [h]
theorem u_2 {f : D → D → Option T} (h1 : a env cs = some (t1, env1, cs1)) (h2 : b env1 cs1 = some (t2, env2, cs2)) (h3 : f t1.toD t2.toD = some r) : e2 f a b env cs = some (r, keep env env2 r cs2, cs2) := by unfold e2; rw [h1]; simp only [h2, h3]
theorem u_1 {f : D → Option T} (h1 : a env cs = some (t1, env1, cs1)) (h3 : f t1.toD = some r) : e1 f a env cs = some (r, keep env env1 r cs1, cs1) := by unfold e1; rw [h1]; simp only [h3]
theorem u_N {f : List D → Option T} {av : Av} {ts : List T} (h1 : av env cs = some (ts, env1, cs1)) (h3 : f (T.toDs ts) = some r) : eN f av env cs = some (r, keep env env1 r cs1, cs1) := by unfold eN; rw [h1]; simp only [h3]
theorem u_call {m : Fn} {dds : List D} {av : Av} {ts : List T} (h1 : av env cs = some (ts, env1, cs1)) (h3 : m (T.toDs ts ++ dds) cs1 = some (r, cs2)) : eCall m dds av env cs = some (r, keep env env1 r cs2, cs2) := by unfold eCall; rw [h1]; simp only [h3]
theorem u_cons {av : Av} {ts : List T} (h1 : a env cs = some (t, env1, cs1)) (h2 : av env1 cs1 = some (ts, env2, cs2)) : aCons a av env cs = some (t :: ts, env2, cs2) := by unfold aCons; rw [h1]; simp only [h2]
theorem u_nil : aNil env cs = some ([], env, cs) := rfl
theorem u_C : eC d env cs = some (.sh d, env, cs) := rfl
end
end PD
end
section
set_option Elab.async false
set_option linter.all false
set_option maxRecDepth 100000
set_option autoImplicit false
/-! what the defs do, as evaluators (printed by gen.py) -/
namespace K57
open PySem L2 PyProof.Rows PD
abbrev FU : Nat := 40
def gt_WORDS : List D := [.str "plus", .str "times", .str "greatest", .str "phases"]
def kw0_bound_at_numbers_bound : List Nat := [1, 0]
def kw0_is_bound_value : List Nat := [0]
def N_is_whole : List Str := ["value"]
def ps_is_whole : List Str := ["value"]
def N_is_count : List Str := ["value", "least"]
def ps_is_count : List Str := ["value", "least"]
def N_is_tuple_of : List Str := ["value", "size"]
def ps_is_tuple_of : List Str := ["value", "size"]
def N_is_word : List Str := ["value", "sign"]
def ps_is_word : List Str := ["value"]
def N_is_name : List Str := ["value", "figures", "is_count", "sign"]
def ps_is_name : List Str := ["value"]
def N_is_form : List Str := ["value", "pair", "name", "factor", "one", "other"]
def ps_is_form : List Str := ["value"]
def N_is_leaf : List Str := ["value"]
def ps_is_leaf : List Str := ["value"]
def N_is_node : List Str := ["value"]
def ps_is_node : List Str := ["value"]
def N_is_bound : List Str := ["value", "waiting", "here"]
def ps_is_bound : List Str := ["value"]
def N_parts_of : List Str := ["bound"]
def ps_parts_of : List Str := ["bound"]
def N_all_parts : List Str := ["bound", "order", "begun", "at"]
def ps_all_parts : List Str := ["bound"]
def N_steps_by_phases : List Str := ["counts", "found", "here", "mine", "late"]
def ps_steps_by_phases : List Str := ["counts"]
def N_joined : List Str := ["word", "counts", "total", "count"]
def ps_joined : List Str := ["word", "counts"]
def N_value_at : List Str := ["form", "numbers", "name", "factor"]
def ps_value_at : List Str := ["form", "numbers"]
def N_leaf_at : List Str := ["bound", "numbers"]
def ps_leaf_at : List Str := ["bound", "numbers"]
def N_value_there : List Str := ["bound", "numbers", "order", "begun", "known", "at", "here", "many"]
def ps_value_there : List Str := ["bound", "numbers"]
def N_names_in : List Str := ["form", "name", "factor"]
def ps_names_in : List Str := ["form"]
def N_names_of_bound : List Str := ["bound", "forms", "here", "form", "name"]
def ps_names_of_bound : List Str := ["bound"]
def N_are_told : List Str := ["value", "part", "one", "late"]
def ps_are_told : List Str := ["value"]
def N_bound_at : List Str := ["bound", "numbers", "name"]
def ps_bound_at : List Str := ["bound", "numbers"]
def N_law_exact : List Str := ["told", "due", "is_like", "key", "one", "other"]
def ps_law_exact : List Str := ["told", "due"]
def N_law_purse : List Str := ["script", "at", "seed"]
def ps_law_purse : List Str := ["script", "at"]
def N_law_purses : List Str := ["script", "few", "at"]
def ps_law_purses : List Str := ["script", "few"]
def N_law_mixed : List Str := ["seed", "spin", "at", "mixed"]
def ps_law_mixed : List Str := ["seed", "spin", "at"]
def N_law_draw : List Str := ["purse", "many", "drawn", "found", "piece"]
def ps_law_draw : List Str := ["purse", "many"]
def N_law_one_of : List Str := ["purse", "some"]
def ps_law_one_of : List Str := ["purse", "some"]
def N_law_form : List Str := ["number", "pairs", "found", "name", "factor"]
def ps_law_form : List Str := ["number", "pairs"]
def N_law_drawn_form : List Str := ["purse", "names", "wide", "pairs", "spin"]
def ps_law_drawn_form : List Str := ["purse", "names", "wide"]
def N_law_leaf : List Str := ["purse"]
def ps_law_leaf : List Str := ["purse"]
def N_law_bound : List Str := ["purse", "deep", "way", "spin"]
def ps_law_bound : List Str := ["purse", "deep"]
def N_law_value : List Str := ["form", "numbers", "name", "factor"]
def ps_law_value : List Str := ["form", "numbers"]
def N_law_turns : List Str := ["counts", "here", "found", "at"]
def ps_law_turns : List Str := ["counts"]
def N_law_comes_to : List Str := ["bound", "numbers", "some", "part", "total", "count"]
def ps_law_comes_to : List Str := ["bound", "numbers"]
def N_law_is_whole : List Str := ["value"]
def ps_law_is_whole : List Str := ["value"]
def N_law_is_form : List Str := ["value", "part", "at"]
def ps_law_is_form : List Str := ["value"]
def N_law_are_names : List Str := ["form", "name", "factor"]
def ps_law_are_names : List Str := ["form"]
def N_law_is_bound : List Str := ["value", "part"]
def ps_law_is_bound : List Str := ["value"]
def N_law_bent : List Str := ["purse", "bound", "found", "odd", "at"]
def ps_law_bent : List Str := ["purse", "bound"]
def N_law_right : List Str := ["purse", "bound", "noted", "spin", "here", "due", "numbers", "name", "more", "value", "shown"]
def ps_law_right : List Str := ["purse"]
def N_law : List Str := ["script", "purse", "spin", "great", "told"]
def ps_law : List Str := ["script"]
def b_is_whole : Sv := (sRet (eAn (eN dIsi (aCons (eVar 0) (aCons (eC (.ty "int")) aNil))) (eNt (eN dIsi (aCons (eVar 0) (aCons (eC (.ty "bool")) aNil))))))
def m_is_whole : Fn := runBody N_is_whole.length b_is_whole
def b_is_count : Sv := (sRet (eAn (eCall (m_is_whole) [] (aCons (eVar 0) aNil)) (e2 dGe (eVar 0) (eN dMax2 (aCons (eVar 1) (aCons (eC (.int 0)) aNil))))))
def m_is_count : Fn := runBody N_is_count.length b_is_count
def b_is_tuple_of : Sv := (sRet (eAn (eN dIsi (aCons (eVar 0) (aCons (eC (.ty "tuple")) aNil))) (e2 dEqX (eN dLen (aCons (eVar 0) aNil)) (eVar 1))))
def m_is_tuple_of : Fn := runBody N_is_tuple_of.length b_is_tuple_of
def b_is_word : Sv := (sRet (eAn (eN dIsi (aCons (eVar 0) (aCons (eC (.ty "str")) aNil))) (eAn (eCh dLt dLt (eC (.int 0)) (eN dLen (aCons (eVar 0) aNil)) (eC (.int 13))) (eN dAll (aCons (eComp [1] (iSeq (eVar 0)) (gN 1) tTrue (eCh dLe dLe (eC (.str "a")) (eVar 1) (eC (.str "z")))) aNil)))))
def m_is_word : Fn := runBody N_is_word.length b_is_word
def b_is_name : Sv := (sSeq (sIf (tOo (tNt (tV (eN dIsi (aCons (eVar 0) (aCons (eC (.ty "str")) aNil))))) (t2 dEqX (eVar 0) (eC (.str "")))) (sRet (eC (.bl false))) sNext) (sSeq (sIf (t2 dEqX (eIx (eVar 0) (eC (.int 0))) (eC (.str "?"))) (sSeq (sAsg (eSl (eVar 0) (oAt (eC (.int 1))) oNo) (gN 1)) (sSeq (sAsg (eAn (e2 dNeX (eVar 1) (eC (.str ""))) (eN dAll (aCons (eComp [3] (iSeq (eVar 1)) (gN 3) tTrue (eCh dLe dLe (eC (.str "0")) (eVar 3) (eC (.str "9")))) aNil))) (gN 2)) (sRet (eAn (eVar 2) (eOo (e2 dEqX (eVar 1) (eC (.str "0"))) (e2 dNeX (eIx (eVar 1) (eC (.int 0))) (eC (.str "0")))))))) sNext) (sRet (eCall (m_is_word) [] (aCons (eIf (t2 dEqX (eIx (eVar 0) (e1 dNeg (eC (.int 1)))) (eC (.str "@"))) (eSl (eVar 0) oNo (oAt (e1 dNeg (eC (.int 1))))) (eVar 0)) aNil)))))
def m_is_name : Fn := runBody N_is_name.length b_is_name
def b_is_form : Sv := (sSeq (sIf (tOo (tNt (tV (eCall (m_is_tuple_of) [] (aCons (eVar 0) (aCons (eC (.int 2)) aNil))))) (tOo (tNt (tV (eCall (m_is_whole) [] (aCons (eIx (eVar 0) (eC (.int 0))) aNil)))) (tNt (tV (eN dIsi (aCons (eIx (eVar 0) (eC (.int 1))) (aCons (eC (.ty "tuple")) aNil))))))) (sRet (eC (.bl false))) sNext) (sSeq (sIf (tNt (tV (eN dAll (aCons (eComp [1] (iSeq (eIx (eVar 0) (eC (.int 1)))) (gN 1) tTrue (eAn (eCall (m_is_tuple_of) [] (aCons (eVar 1) (aCons (eC (.int 2)) aNil))) (eAn (eCall (m_is_name) [] (aCons (eIx (eVar 1) (eC (.int 0))) aNil)) (eCall (m_is_whole) [] (aCons (eIx (eVar 1) (eC (.int 1))) aNil))))) aNil)))) (sRet (eC (.bl false))) sNext) (sSeq (sIf (tNt (tV (eN dAll (aCons (eComp [2, 3] (iSeq (eIx (eVar 0) (eC (.int 1)))) (gTpD (gConsD (gN 2) (gConsD (gN 3) gNilD))) tTrue (e2 dNeX (eVar 3) (eC (.int 0)))) aNil)))) (sRet (eC (.bl false))) sNext) (sRet (eN dAll (aCons (eComp [4, 5] (iZp (aCons (eIx (eVar 0) (eC (.int 1))) (aCons (eSl (eIx (eVar 0) (eC (.int 1))) (oAt (eC (.int 1))) oNo) aNil))) (gTpD (gConsD (gN 4) (gConsD (gN 5) gNilD))) tTrue (e2 dLt (eIx (eVar 4) (eC (.int 0))) (eIx (eVar 5) (eC (.int 0))))) aNil))))))
def m_is_form : Fn := runBody N_is_form.length b_is_form
def b_is_leaf : Sv := (sSeq (sIf (tAn (tV (eCall (m_is_tuple_of) [] (aCons (eVar 0) (aCons (eC (.int 2)) aNil)))) (t2 dEqX (eIx (eVar 0) (eC (.int 0))) (eC (.str "number")))) (sRet (eCall (m_is_count) [.int 0] (aCons (eIx (eVar 0) (eC (.int 1))) aNil))) sNext) (sRet (eAn (eCall (m_is_tuple_of) [] (aCons (eVar 0) (aCons (eC (.int 3)) aNil))) (eAn (e2 dEqX (eIx (eVar 0) (eC (.int 0))) (eC (.str "form"))) (eAn (eCall (m_is_form) [] (aCons (eIx (eVar 0) (eC (.int 1))) aNil)) (eCall (m_is_count) [] (aCons (eIx (eVar 0) (eC (.int 2))) (aCons (eC (.int 1)) aNil))))))))
def m_is_leaf : Fn := runBody N_is_leaf.length b_is_leaf
def b_is_node : Sv := (sSeq (sIf (tOo (tNt (tV (eCall (m_is_tuple_of) [] (aCons (eVar 0) (aCons (eC (.int 2)) aNil))))) (tOo (tNt (tV (eN dIsi (aCons (eIx (eVar 0) (eC (.int 0))) (aCons (eC (.ty "str")) aNil))))) (t2 dNotIn (eIx (eVar 0) (eC (.int 0))) (eC (.tup .any gt_WORDS))))) (sRet (eC (.bl false))) sNext) (sRet (eAn (eN dIsi (aCons (eIx (eVar 0) (eC (.int 1))) (aCons (eC (.ty "list")) aNil))) (e2 dNeX (eIx (eVar 0) (eC (.int 1))) (eLst aNil)))))
def m_is_node : Fn := runBody N_is_node.length b_is_node
def b_is_bound : Sv := (sSeq (sAsg (eLst (aCons (eVar 0) aNil)) (gN 1)) (sSeq (sWhile 1000000 (t2 dNeX (eVar 1) (eLst aNil)) (sSeq (sPop 2 1) (sIf (tV (eCall (m_is_node) [] (aCons (eVar 2) aNil))) (sAsg (eAdd (eVar 1) (eIx (eVar 2) (eC (.int 1)))) (gN 1)) (sIf (tNt (tV (eCall (m_is_leaf) [] (aCons (eVar 2) aNil)))) (sRet (eC (.bl false))) sNext)))) (sRet (eC (.bl true)))))
def m_is_bound : Fn := runBody N_is_bound.length b_is_bound
def b_parts_of : Sv := (sRet (eIf (t2 dIn (eIx (eVar 0) (eC (.int 0))) (eC (.tup .any gt_WORDS))) (eIx (eVar 0) (eC (.int 1))) (eLst aNil)))
def m_parts_of : Fn := runBody N_parts_of.length b_parts_of
def b_all_parts : Sv := (sSeq (sPar3 1 2 3 (aCons (eLst (aCons (eVar 0) aNil)) (aCons (eLst aNil) (aCons (eC (.int 0)) aNil)))) (sSeq (sWhile 1000000 (t2 dLt (eVar 3) (eN dLen (aCons (eVar 1) aNil))) (sSeq (sApp 2 (eN dLen (aCons (eVar 1) aNil))) (sSeq (sAsg (eAdd (eVar 1) (eCall (m_parts_of) [] (aCons (eIx (eVar 1) (eVar 3)) aNil))) (gN 1)) (sAsg (eAdd (eVar 3) (eC (.int 1))) (gN 3))))) (sRet (eTup (aCons (eVar 1) (aCons (eVar 2) aNil))))))
def m_all_parts : Fn := runBody N_all_parts.length b_all_parts
def b_steps_by_phases : Sv := (sSeq (sPar 1 2 (aCons (eC (.int 0)) (aCons (eN dList (aCons (eVar 0) aNil)) aNil))) (sSeq (sWhile 1000000 (t2 dGe (eIx (eVar 2) (e1 dNeg (eC (.int 1)))) (eC (.int 0))) (sSeq (sAsg (eComp [3, 4] (iZp (aCons (eVar 2) (aCons (eLstB (aCons (eC (.int 0)) (aStar (eSl (eVar 2) oNo (oAt (e1 dNeg (eC (.int 1))))) aNil))) aNil))) (gTpD (gConsD (gN 3) (gConsD (gN 4) gNilD))) tTrue (e2 dSub (eAdd (eVar 3) (eVar 4)) (eC (.int 1)))) (gN 2)) (sAsg (eAdd (eVar 1) (eC (.int 1))) (gN 1)))) (sRetV 1)))
def m_steps_by_phases : Fn := runBody N_steps_by_phases.length b_steps_by_phases
def b_joined : Sv := (sSeq (sIf (t2 dEqX (eVar 0) (eC (.str "phases"))) (sRet (eCall (m_steps_by_phases) [] (aCons (eVar 1) aNil))) sNext) (sSeq (sIf (t2 dEqX (eVar 0) (eC (.str "greatest"))) (sRet (eN dMax1 (aCons (eVar 1) aNil))) sNext) (sSeq (sAsg (eIf (t2 dEqX (eVar 0) (eC (.str "plus"))) (eC (.int 0)) (eC (.int 1))) (gN 2)) (sSeq (sFor (iSeq (eVar 1)) (gN 3) (sAsg (eIf (t2 dEqX (eVar 0) (eC (.str "plus"))) (eAdd (eVar 2) (eVar 3)) (e2 dMul (eVar 2) (eVar 3))) (gN 2))) (sRetV 2)))))
def m_joined : Fn := runBody N_joined.length b_joined
def b_value_at : Sv := (sRet (eAdd (eIx (eVar 0) (eC (.int 0))) (eN dSum (aCons (eComp [2, 3] (iSeq (eIx (eVar 0) (eC (.int 1)))) (gTpD (gConsD (gN 2) (gConsD (gN 3) gNilD))) tTrue (e2 dMul (eVar 3) (eIx (eVar 1) (eVar 2)))) aNil))))
def m_value_at : Fn := runBody N_value_at.length b_value_at
def b_leaf_at : Sv := (sRet (eIf (t2 dEqX (eIx (eVar 0) (eC (.int 0))) (eC (.str "number"))) (eIx (eVar 0) (eC (.int 1))) (e2 dFdiv (eN dMax2 (aCons (eC (.int 0)) (aCons (eCall (m_value_at) [] (aCons (eIx (eVar 0) (eC (.int 1))) (aCons (eVar 1) aNil))) aNil))) (eIx (eVar 0) (eC (.int 2))))))
def m_leaf_at : Fn := runBody N_leaf_at.length b_leaf_at
def b_value_there : Sv := (sSeq (sAsg (eCall (m_all_parts) [] (aCons (eVar 0) aNil)) (gTpD (gConsD (gN 2) (gConsD (gN 3) gNilD)))) (sSeq (sAsg (e2 dMul (eLst (aCons (eC (.int 0)) aNil)) (eN dLen (aCons (eVar 2) aNil))) (gN 4)) (sSeq (sFor (iRg3 (aCons (e2 dSub (eN dLen (aCons (eVar 2) aNil)) (eC (.int 1))) (aCons (e1 dNeg (eC (.int 1))) (aCons (e1 dNeg (eC (.int 1))) aNil)))) (gN 5) (sSeq (sPar 6 7 (aCons (eIx (eVar 2) (eVar 5)) (aCons (eN dLen (aCons (eCall (m_parts_of) [] (aCons (eIx (eVar 2) (eVar 5)) aNil)) aNil)) aNil))) (sIf (t2 dEqX (eVar 7) (eC (.int 0))) (sIx 4 (eCall (m_leaf_at) [] (aCons (eVar 6) (aCons (eVar 1) aNil))) (eVar 5)) (sIx 4 (eCall (m_joined) [] (aCons (eIx (eVar 6) (eC (.int 0))) (aCons (eSl (eVar 4) (oAt (eIx (eVar 3) (eVar 5))) (oAt (eAdd (eIx (eVar 3) (eVar 5)) (eVar 7)))) aNil))) (eVar 5))))) (sRet (eIx (eVar 4) (eC (.int 0)))))))
def m_value_there : Fn := runBody N_value_there.length b_value_there
def b_names_in : Sv := (sRet (eComp [1, 2] (iSeq (eIx (eVar 0) (eC (.int 1)))) (gTpD (gConsD (gN 1) (gConsD (gN 2) gNilD))) tTrue (eVar 1)))
def m_names_in : Fn := runBody N_names_in.length b_names_in
def b_names_of_bound : Sv := (sSeq (sAsg (eComp [2] (iSeq (eIx (eCall (m_all_parts) [] (aCons (eVar 0) aNil)) (eC (.int 0)))) (gN 2) (t2 dEqX (eIx (eVar 2) (eC (.int 0))) (eC (.str "form"))) (eIx (eVar 2) (eC (.int 1)))) (gN 1)) (sRet (eN dSorted (aCons (eCompD2 [3, 4] [4] (iSeq (eVar 1)) (gN 3) tTrue (iSeq (eCall (m_names_in) [] (aCons (eVar 3) aNil))) (gN 4) tTrue (eVar 4) (eC (.bl true))) aNil))))
def m_names_of_bound : Fn := runBody N_names_of_bound.length b_names_of_bound
def b_are_told : Sv := (sSeq (sIf (tOo (tNt (tV (eN dIsi (aCons (eVar 0) (aCons (eC (.ty "list")) aNil))))) (tNt (tV (eN dAll (aCons (eComp [1] (iSeq (eVar 0)) (gN 1) tTrue (eAn (eCall (m_is_tuple_of) [] (aCons (eVar 1) (aCons (eC (.int 2)) aNil))) (eCall (m_is_whole) [] (aCons (eIx (eVar 1) (eC (.int 1))) aNil)))) aNil))))) (sRet (eC (.bl false))) sNext) (sSeq (sIf (tNt (tV (eN dAll (aCons (eComp [1] (iSeq (eVar 0)) (gN 1) tTrue (eCall (m_is_name) [] (aCons (eIx (eVar 1) (eC (.int 0))) aNil))) aNil)))) (sRet (eC (.bl false))) sNext) (sRet (eN dAll (aCons (eComp [2, 3] (iZp (aCons (eVar 0) (aCons (eSl (eVar 0) (oAt (eC (.int 1))) oNo) aNil))) (gTpD (gConsD (gN 2) (gConsD (gN 3) gNilD))) tTrue (e2 dLt (eIx (eVar 2) (eC (.int 0))) (eIx (eVar 3) (eC (.int 0))))) aNil)))))
def m_are_told : Fn := runBody N_are_told.length b_are_told
def b_bound_at : Sv := (sSeq (sIf (tNt (tV (eCall (m_is_bound) [] (aCons (eVar 0) aNil)))) sNever sNext) (sSeq (sIf (tOo (tNt (tV (eCall (m_are_told) [] (aCons (eVar 1) aNil)))) (tNt (tV (eN dAll (aCons (eComp [2] (iSeq (eCall (m_names_of_bound) [] (aCons (eVar 0) aNil))) (gN 2) tTrue (e2 dIn (eVar 2) (eN dDict (aCons (eVar 1) aNil)))) aNil))))) sNever sNext) (sRet (eCall (m_value_there) [] (aCons (eVar 0) (aCons (eN dDict (aCons (eVar 1) aNil)) aNil))))))
def m_bound_at : Fn := runBody N_bound_at.length b_bound_at
def b_law_exact (r_law_exact : Fn) : Sv := (sSeq (sIf (tV (eN dIsi (aCons (eVar 1) (aCons (eC (.ty "dict")) aNil)))) sNever sNext) (sSeq (sIf (tV (eN dIsi (aCons (eVar 1) (aCons (eTup (aCons (eC (.ty "list")) (aCons (eC (.ty "tuple")) aNil))) aNil)))) (sSeq (sAsg (eAn (e2 dEqX (eN dIsi (aCons (eVar 0) (aCons (eC (.ty "list")) aNil))) (eN dIsi (aCons (eVar 1) (aCons (eC (.ty "list")) aNil)))) (e2 dEqX (eN dIsi (aCons (eVar 0) (aCons (eC (.ty "tuple")) aNil))) (eN dIsi (aCons (eVar 1) (aCons (eC (.ty "tuple")) aNil))))) (gN 2)) (sRet (eAn (eVar 2) (eAn (e2 dEqX (eN dLen (aCons (eVar 0) aNil)) (eN dLen (aCons (eVar 1) aNil))) (eN dAll (aCons (eComp [4, 5] (iZp (aCons (eVar 0) (aCons (eVar 1) aNil))) (gTpD (gConsD (gN 4) (gConsD (gN 5) gNilD))) tTrue (eCall (r_law_exact) [] (aCons (eVar 4) (aCons (eVar 5) aNil)))) aNil)))))) sNext) (sSeq (sAsg (eAn (eNt (eN dIsi (aCons (eVar 0) (aCons (eTup (aCons (eC (.ty "list")) (aCons (eC (.ty "tuple")) (aCons (eC (.ty "dict")) aNil)))) aNil)))) (eAn (e2 dEqX (eN dIsi (aCons (eVar 0) (aCons (eC (.ty "int")) aNil))) (eN dIsi (aCons (eVar 1) (aCons (eC (.ty "int")) aNil)))) (e2 dEqX (eN dIsi (aCons (eVar 0) (aCons (eC (.ty "str")) aNil))) (eN dIsi (aCons (eVar 1) (aCons (eC (.ty "str")) aNil)))))) (gN 2)) (sRet (eAn (eVar 2) (eAn (e2 dEqX (e2 dIs (eVar 0) (eC .non)) (e2 dIs (eVar 1) (eC .non))) (eAn (e2 dEqX (eN dIsi (aCons (eVar 0) (aCons (eC (.ty "bool")) aNil))) (eN dIsi (aCons (eVar 1) (aCons (eC (.ty "bool")) aNil)))) (e2 dEqX (eVar 0) (eVar 1)))))))))
def m_law_exact : Nat → Fn
  | 0 => fun _ _ => none
  | n + 1 => runBody N_law_exact.length (b_law_exact (m_law_exact n))
def b_law_purse : Sv := (sSeq (sAsg (eN dSum (aCons (eSl (eVar 0) (oAt (eVar 1)) (oAt (eAdd (eVar 1) (eC (.int 1))))) aNil)) (gN 2)) (sRet (eCell (aCons (e2 dMod (eN dInt (aCons (eN dMax2 (aCons (e2 dSub (eVar 2) (e2 dPow (eC (.int 10)) (eC (.int 18)))) (aCons (eC (.int 0)) aNil))) aNil)) (e2 dPow (e2 dPow (eC (.int 10)) (eC (.int 60))) (eC (.int 8)))) (aCons (e2 dMod (eN dInt (aCons (eVar 2) aNil)) (eC (.int 2147483629))) (aCons (eC (.int 0)) (aCons (eVar 1) aNil)))))))
def m_law_purse : Fn := runBody N_law_purse.length b_law_purse
def b_law_purses : Sv := (sRet (eComp [2] (iRg1 (aCons (eN dMax2 (aCons (eC (.int 1)) (aCons (eN dMin2 (aCons (eVar 1) (aCons (eN dLen (aCons (eVar 0) aNil)) aNil))) aNil))) aNil)) (gN 2) tTrue (eCall (m_law_purse) [] (aCons (eVar 0) (aCons (eVar 2) aNil)))))
def m_law_purses : Fn := runBody N_law_purses.length b_law_purses
def b_law_mixed : Sv := (sSeq (sAsg (eAdd (e2 dMul (eVar 0) (eC (.int 69069))) (e2 dMul (e2 dMul (eC (.int 104729)) (eVar 1)) (eVar 1))) (gN 3)) (sSeq (sAsg (e2 dMod (eN dInt (aCons (eAdd (eAdd (eVar 3) (e2 dMul (eC (.int 7919)) (eVar 2))) (eVar 1)) aNil)) (eC (.int 2147483647))) (gN 3)) (sSeq (sAsg (e2 dMod (eN dInt (aCons (eAdd (e2 dMul (eVar 3) (eVar 3)) (eC (.int 40503))) aNil)) (eC (.int 2147483629))) (gN 3)) (sRet (e2 dMod (eN dInt (aCons (e2 dMul (eVar 3) (eC (.int 48271))) aNil)) (eC (.int 2147483587)))))))
def m_law_mixed : Fn := runBody N_law_mixed.length b_law_mixed
def b_law_draw : Sv := (sSeq (sIf (t2 dGt (eIx (eVar 0) (eC (.int 0))) (eC (.int 0))) (sSeq (sAsg (e2 dMod (eN dInt (aCons (eIx (eVar 0) (eC (.int 0))) aNil)) (eVar 1)) (gN 2)) (sSeq (sIx 0 (e2 dFdiv (eIx (eVar 0) (eC (.int 0))) (eVar 1)) (eC (.int 0))) (sRetV 2))) sNext) (sSeq (sAsg (eC (.int 0)) (gN 3)) (sSeq (sFor (iRg1 (aCons (eAdd (eC (.int 1)) (e2 dFdiv (e1 dBits (eVar 1)) (eC (.int 28)))) aNil)) (gN 4) (sSeq (sIx 0 (eAdd (eIx (eVar 0) (eC (.int 2))) (eC (.int 1))) (eC (.int 2))) (sAsg (eAdd (e2 dMul (eVar 3) (eC (.int 2147483587))) (eCall (m_law_mixed) [] (aCons (eIx (eVar 0) (eC (.int 1))) (aCons (eIx (eVar 0) (eC (.int 2))) (aCons (eIx (eVar 0) (eC (.int 3))) aNil))))) (gN 3)))) (sRet (e2 dMod (eN dInt (aCons (eVar 3) aNil)) (eVar 1))))))
def m_law_draw : Fn := runBody N_law_draw.length b_law_draw
def b_law_one_of : Sv := (sRet (eIx (eVar 1) (eCall (m_law_draw) [] (aCons (eVar 0) (aCons (eN dLen (aCons (eVar 1) aNil)) aNil)))))
def m_law_one_of : Fn := runBody N_law_one_of.length b_law_one_of
def b_law_form : Sv := (sSeq (sAsg eNewK (gN 2)) (sSeq (sFor (iSeq (eVar 1)) (gTpD (gConsD (gN 3) (gConsD (gN 4) gNilD))) (sPut 2 (eAdd (eGet2 (eVar 2) (eVar 3) (eC (.int 0))) (eVar 4)) (eVar 3))) (sRet (eTup (aCons (eVar 0) (aCons (eN dTuple (aCons (eComp [3] (iSeq (eN dSorted (aCons (eVar 2) aNil))) (gN 3) (t2 dNeX (eIx (eVar 2) (eVar 3)) (eC (.int 0))) (eTup (aCons (eVar 3) (aCons (eIx (eVar 2) (eVar 3)) aNil)))) aNil)) aNil))))))
def m_law_form : Fn := runBody N_law_form.length b_law_form
def b_law_drawn_form : Sv := (sSeq (sAsg (eComp [4] (iRg1 (aCons (eCall (m_law_draw) [] (aCons (eVar 0) (aCons (eC (.int 3)) aNil))) aNil)) (gN 4) tTrue (eTup (aCons (eCall (m_law_one_of) [] (aCons (eVar 0) (aCons (eVar 1) aNil))) (aCons (eCall (m_law_one_of) [] (aCons (eVar 0) (aCons (eLst (aCons (eC (.int 1)) (aCons (eC (.int 1)) (aCons (eC (.int 1)) (aCons (e2 dSub (eC (.int 0)) (eC (.int 1))) (aCons (e2 dSub (eC (.int 0)) (eC (.int 1))) (aCons (eC (.int 2)) aNil))))))) aNil))) aNil)))) (gN 3)) (sRet (eCall (m_law_form) [] (aCons (e2 dSub (eCall (m_law_draw) [] (aCons (eVar 0) (aCons (eAdd (e2 dMul (eC (.int 2)) (eVar 2)) (eC (.int 1))) aNil))) (eVar 2)) (aCons (eVar 3) aNil)))))
def m_law_drawn_form : Fn := runBody N_law_drawn_form.length b_law_drawn_form
def b_law_leaf : Sv := (sSeq (sIf (t2 dEqX (eCall (m_law_draw) [] (aCons (eVar 0) (aCons (eC (.int 2)) aNil))) (eC (.int 0))) (sRet (eTup (aCons (eC (.str "number")) (aCons (eCall (m_law_draw) [] (aCons (eVar 0) (aCons (eC (.int 12)) aNil))) aNil)))) sNext) (sRet (eTup (aCons (eC (.str "form")) (aCons (eCall (m_law_drawn_form) [] (aCons (eVar 0) (aCons (eLst (aCons (eC (.str "x")) (aCons (eC (.str "y@")) aNil))) (aCons (eC (.int 6)) aNil)))) (aCons (eAdd (eC (.int 1)) (eCall (m_law_draw) [] (aCons (eVar 0) (aCons (eC (.int 4)) aNil)))) aNil))))))
def m_law_leaf : Fn := runBody N_law_leaf.length b_law_leaf
def b_law_bound (r_law_bound : Fn) : Sv := (sSeq (sAsg (eCall (m_law_draw) [] (aCons (eVar 0) (aCons (eC (.int 6)) aNil))) (gN 2)) (sSeq (sIf (tOo (t2 dEqX (eVar 1) (eC (.int 0))) (t2 dEqX (eVar 2) (eC (.int 0)))) (sRet (eCall (m_law_leaf) [] (aCons (eVar 0) aNil))) sNext) (sSeq (sIf (t2 dEqX (eVar 2) (eC (.int 5))) (sRet (eTup (aCons (eC (.str "phases")) (aCons (eComp [3] (iRg1 (aCons (eAdd (eC (.int 1)) (eCall (m_law_draw) [] (aCons (eVar 0) (aCons (eC (.int 3)) aNil)))) aNil)) (gN 3) tTrue (eCall (m_law_leaf) [] (aCons (eVar 0) aNil))) aNil)))) sNext) (sRet (eTup (aCons (eIx (eLst (aCons (eC (.str "plus")) (aCons (eC (.str "times")) (aCons (eC (.str "greatest")) (aCons (eC (.str "plus")) aNil))))) (e2 dSub (eVar 2) (eC (.int 1)))) (aCons (eComp [3] (iRg1 (aCons (eAdd (eC (.int 1)) (eCall (m_law_draw) [] (aCons (eVar 0) (aCons (eC (.int 3)) aNil)))) aNil)) (gN 3) tTrue (eCall (r_law_bound) [] (aCons (eVar 0) (aCons (e2 dSub (eVar 1) (eC (.int 1))) aNil)))) aNil)))))))
def m_law_bound : Nat → Fn
  | 0 => fun _ _ => none
  | n + 1 => runBody N_law_bound.length (b_law_bound (m_law_bound n))
def b_law_value : Sv := (sRet (eAdd (eIx (eVar 0) (eC (.int 0))) (eN dSum (aCons (eComp [2, 3] (iSeq (eIx (eVar 0) (eC (.int 1)))) (gTpD (gConsD (gN 2) (gConsD (gN 3) gNilD))) tTrue (e2 dMul (eVar 3) (eIx (eVar 1) (eVar 2)))) aNil))))
def m_law_value : Fn := runBody N_law_value.length b_law_value
def b_law_turns : Sv := (sSeq (sAsg (eTup (aCons (eN dList (aCons (eVar 0) aNil)) (aCons (eC (.int 0)) aNil))) (gTpD (gConsD (gN 1) (gConsD (gN 2) gNilD)))) (sSeq (sWhile 1000000 (t2 dGe (eIx (eVar 1) (e1 dNeg (eC (.int 1)))) (eC (.int 0))) (sSeq (sAsg (eComp [3] (iRg1 (aCons (eN dLen (aCons (eVar 1) aNil)) aNil)) (gN 3) tTrue (eAdd (e2 dSub (eIx (eVar 1) (eVar 3)) (eC (.int 1))) (eIf (t2 dGt (eVar 3) (eC (.int 0))) (eIx (eVar 1) (e2 dSub (eVar 3) (eC (.int 1)))) (eC (.int 0))))) (gN 1)) (sAsg (eAdd (eVar 2) (eC (.int 1))) (gN 2)))) (sRetV 2)))
def m_law_turns : Fn := runBody N_law_turns.length b_law_turns
def b_law_comes_to (r_law_comes_to : Fn) : Sv := (sSeq (sIf (t2 dEqX (eIx (eVar 0) (eC (.int 0))) (eC (.str "number"))) (sRet (eIx (eVar 0) (eC (.int 1)))) sNext) (sSeq (sIf (t2 dEqX (eIx (eVar 0) (eC (.int 0))) (eC (.str "form"))) (sRet (e2 dFdiv (eN dMax2 (aCons (eC (.int 0)) (aCons (eCall (m_law_value) [] (aCons (eIx (eVar 0) (eC (.int 1))) (aCons (eVar 1) aNil))) aNil))) (eIx (eVar 0) (eC (.int 2))))) sNext) (sSeq (sAsg (eComp [3] (iSeq (eIx (eVar 0) (eC (.int 1)))) (gN 3) tTrue (eCall (r_law_comes_to) [] (aCons (eVar 3) (aCons (eVar 1) aNil)))) (gN 2)) (sSeq (sIf (t2 dEqX (eIx (eVar 0) (eC (.int 0))) (eC (.str "phases"))) (sRet (eCall (m_law_turns) [] (aCons (eVar 2) aNil))) sNext) (sSeq (sIf (t2 dEqX (eIx (eVar 0) (eC (.int 0))) (eC (.str "greatest"))) (sRet (eN dMax1 (aCons (eVar 2) aNil))) sNext) (sSeq (sAsg (eIf (t2 dEqX (eIx (eVar 0) (eC (.int 0))) (eC (.str "plus"))) (eC (.int 0)) (eC (.int 1))) (gN 4)) (sSeq (sFor (iSeq (eVar 2)) (gN 5) (sAsg (eIf (t2 dEqX (eIx (eVar 0) (eC (.int 0))) (eC (.str "plus"))) (eAdd (eVar 4) (eVar 5)) (e2 dMul (eVar 4) (eVar 5))) (gN 4))) (sRetV 4))))))))
def m_law_comes_to : Nat → Fn
  | 0 => fun _ _ => none
  | n + 1 => runBody N_law_comes_to.length (b_law_comes_to (m_law_comes_to n))
def b_law_is_whole : Sv := (sRet (eAn (eN dIsi (aCons (eVar 0) (aCons (eC (.ty "int")) aNil))) (eNt (eN dIsi (aCons (eVar 0) (aCons (eC (.ty "bool")) aNil))))))
def m_law_is_whole : Fn := runBody N_law_is_whole.length b_law_is_whole
def b_law_is_form : Sv := (sSeq (sIf (tOo (tNt (tV (eN dIsi (aCons (eVar 0) (aCons (eC (.ty "tuple")) aNil))))) (tOo (t2 dNeX (eN dLen (aCons (eVar 0) aNil)) (eC (.int 2))) (tOo (tNt (tV (eCall (m_law_is_whole) [] (aCons (eIx (eVar 0) (eC (.int 0))) aNil)))) (tNt (tV (eN dIsi (aCons (eIx (eVar 0) (eC (.int 1))) (aCons (eC (.ty "tuple")) aNil)))))))) (sRet (eC (.bl false))) sNext) (sSeq (sIf (t2 dNeX (eComp [1] (iSeq (eIx (eVar 0) (eC (.int 1)))) (gN 1) (tOo (tNt (tV (eN dIsi (aCons (eVar 1) (aCons (eC (.ty "tuple")) aNil))))) (tOo (t2 dNeX (eN dLen (aCons (eVar 1) aNil)) (eC (.int 2))) (tOo (tNt (tV (eN dIsi (aCons (eIx (eVar 1) (eC (.int 0))) (aCons (eC (.ty "str")) aNil))))) (tOo (tNt (tV (eCall (m_law_is_whole) [] (aCons (eIx (eVar 1) (eC (.int 1))) aNil)))) (t2 dEqX (eIx (eVar 1) (eC (.int 1))) (eC (.int 0))))))) (eVar 1)) (eLst aNil)) (sRet (eC (.bl false))) sNext) (sRet (e2 dEqX (eComp [2] (iRg2 (aCons (eC (.int 1)) (aCons (eN dLen (aCons (eIx (eVar 0) (eC (.int 1))) aNil)) aNil))) (gN 2) (t2 dGe (eIx (eIx (eIx (eVar 0) (eC (.int 1))) (e2 dSub (eVar 2) (eC (.int 1)))) (eC (.int 0))) (eIx (eIx (eIx (eVar 0) (eC (.int 1))) (eVar 2)) (eC (.int 0)))) (eVar 2)) (eLst aNil)))))
def m_law_is_form : Fn := runBody N_law_is_form.length b_law_is_form
def b_law_are_names : Sv := (sRet (e2 dEqX (eComp [1, 2] (iSeq (eIx (eVar 0) (eC (.int 1)))) (gTpD (gConsD (gN 1) (gConsD (gN 2) gNilD))) (t2 dNotIn (eVar 1) (eTup (aCons (eC (.str "x")) (aCons (eC (.str "y@")) (aCons (eC (.str "z")) aNil))))) (eVar 1)) (eLst aNil)))
def m_law_are_names : Fn := runBody N_law_are_names.length b_law_are_names
def b_law_is_bound (r_law_is_bound : Fn) : Sv := (sSeq (sIf (tOo (tNt (tV (eN dIsi (aCons (eVar 0) (aCons (eC (.ty "tuple")) aNil))))) (tOo (t2 dEqX (eVar 0) (eTup aNil)) (tNt (tV (eN dIsi (aCons (eIx (eVar 0) (eC (.int 0))) (aCons (eC (.ty "str")) aNil))))))) (sRet (eC (.bl false))) sNext) (sSeq (sIf (t2 dEqX (eIx (eVar 0) (eC (.int 0))) (eC (.str "number"))) (sRet (eAn (e2 dEqX (eN dLen (aCons (eVar 0) aNil)) (eC (.int 2))) (eAn (eCall (m_law_is_whole) [] (aCons (eIx (eVar 0) (eC (.int 1))) aNil)) (e2 dGe (eIx (eVar 0) (eC (.int 1))) (eC (.int 0)))))) sNext) (sSeq (sIf (t2 dEqX (eIx (eVar 0) (eC (.int 0))) (eC (.str "form"))) (sRet (eAn (e2 dEqX (eN dLen (aCons (eVar 0) aNil)) (eC (.int 3))) (eAn (eCall (m_law_is_form) [] (aCons (eIx (eVar 0) (eC (.int 1))) aNil)) (eAn (eCall (m_law_are_names) [] (aCons (eIx (eVar 0) (eC (.int 1))) aNil)) (eAn (eCall (m_law_is_whole) [] (aCons (eIx (eVar 0) (eC (.int 2))) aNil)) (e2 dGt (eIx (eVar 0) (eC (.int 2))) (eC (.int 0)))))))) sNext) (sSeq (sIf (tOo (t2 dNotIn (eIx (eVar 0) (eC (.int 0))) (eTup (aCons (eC (.str "plus")) (aCons (eC (.str "times")) (aCons (eC (.str "greatest")) (aCons (eC (.str "phases")) aNil)))))) (tOo (t2 dNeX (eN dLen (aCons (eVar 0) aNil)) (eC (.int 2))) (tOo (tNt (tV (eN dIsi (aCons (eIx (eVar 0) (eC (.int 1))) (aCons (eC (.ty "list")) aNil))))) (t2 dEqX (eIx (eVar 0) (eC (.int 1))) (eLst aNil))))) (sRet (eC (.bl false))) sNext) (sRet (e2 dEqX (eComp [1] (iSeq (eIx (eVar 0) (eC (.int 1)))) (gN 1) (tNt (tV (eCall (r_law_is_bound) [] (aCons (eVar 1) aNil)))) (eVar 1)) (eLst aNil)))))))
def m_law_is_bound : Nat → Fn
  | 0 => fun _ _ => none
  | n + 1 => runBody N_law_is_bound.length (b_law_is_bound (m_law_is_bound n))
def b_law_bent : Sv := (sSeq (sAsg (eLst (aCons (eC .non) (aCons (eTup aNil) (aCons (eLst aNil) (aCons (eC (.str "plus")) (aCons (eC (.int 5)) (aCons eNewK (aCons (eC (.bl true)) (aCons (eN dList (aCons (eVar 1) aNil)) (aCons (eAdd (eVar 1) (eTup (aCons (eC (.int 0)) aNil))) (aCons (eSl (eVar 1) oNo (oAt (eC (.int 1)))) (aCons (eAdd (eTup (aCons (eC (.str "minus")) aNil)) (eSl (eVar 1) (oAt (eC (.int 1))) oNo)) (aCons (eTup (aCons (eC (.str "plus")) (aCons (eLst aNil) aNil))) (aCons (eTup (aCons (eC (.str "times")) (aCons (eC .non) aNil))) aNil)))))))))))))) (gN 2)) (sSeq (sAsg (eAdd (eVar 2) (eLst (aCons (eTup (aCons (eC (.str "number")) (aCons (e2 dSub (eC (.int 0)) (eC (.int 1))) aNil))) (aCons (eTup (aCons (eC (.str "number")) (aCons (eC (.bl true)) aNil))) (aCons (eTup (aCons (eC (.str "number")) (aCons (eC (.str "1")) aNil))) (aCons (eTup (aCons (eC (.str "number")) aNil)) aNil)))))) (gN 2)) (sSeq (sFor (iSeq (eLst (aCons (eC .non) (aCons (eTup (aCons (eC (.int 3)) (aCons (eTup aNil) (aCons (eC (.int 0)) aNil)))) (aCons (eTup (aCons (eC (.int 3)) (aCons (eTup (aCons (eTup (aCons (eC (.str "x")) (aCons (eC (.int 0)) aNil))) aNil)) aNil))) (aCons (eTup (aCons (eC (.bl true)) (aCons (eTup aNil) aNil))) (aCons (eLst (aCons (eC (.int 3)) (aCons (eTup aNil) aNil))) (aCons (eTup (aCons (eC (.int 3)) (aCons (eTup (aCons (eTup (aCons (eC (.str "X")) (aCons (eC (.int 1)) aNil))) aNil)) aNil))) (aCons (eTup (aCons (eC (.int 3)) (aCons (eTup (aCons (eTup (aCons (eC (.str "y@")) (aCons (eC (.int 1)) aNil))) (aCons (eTup (aCons (eC (.str "x")) (aCons (eC (.int 1)) aNil))) aNil))) aNil))) aNil))))))))) (gN 3) (sApp 2 (eTup (aCons (eC (.str "form")) (aCons (eVar 3) (aCons (eC (.int 1)) aNil)))))) (sSeq (sAsg (eAdd (eAdd (eVar 2) (eComp [3] (iSeq (eLst (aCons (eC (.int 0)) (aCons (e2 dSub (eC (.int 0)) (eC (.int 1))) (aCons (eC (.bl true)) (aCons (eC (.str "1")) (aCons (eC .non) aNil))))))) (gN 3) tTrue (eTup (aCons (eC (.str "form")) (aCons (eTup (aCons (eC (.int 3)) (aCons (eTup aNil) aNil))) (aCons (eVar 3) aNil)))))) (eLst (aCons (eTup (aCons (eC (.str "form")) (aCons (eTup (aCons (eC (.int 3)) (aCons (eTup (aCons (eTup (aCons (eC (.str "x")) (aCons (eC (.int 1)) aNil))) aNil)) aNil))) aNil))) (aCons (eTup (aCons (eC (.str "form")) (aCons (eTup (aCons (eC (.int 3)) (aCons (eTup (aCons (eTup (aCons (eC (.str "z")) (aCons (eC (.int 1)) aNil))) aNil)) aNil))) (aCons (eC (.int 2)) aNil)))) aNil)))) (gN 2)) (sSeq (sIf (t2 dNotIn (eIx (eVar 1) (eC (.int 0))) (eTup (aCons (eC (.str "number")) (aCons (eC (.str "form")) aNil)))) (sSeq (sAsg (eCall (m_law_draw) [] (aCons (eVar 0) (aCons (eN dLen (aCons (eIx (eVar 1) (eC (.int 1))) aNil)) aNil))) (gN 4)) (sSeq (sFor (iSeq (eLst (aCons (eC .non) (aCons (eC (.int 5)) (aCons (eN dList (aCons (eIx (eIx (eVar 1) (eC (.int 1))) (eVar 4)) aNil)) (aCons (eTup (aCons (eC (.str "number")) (aCons (e2 dSub (eC (.int 0)) (eC (.int 1))) aNil))) (aCons (eTup (aCons (eC (.str "plus")) (aCons (eLst aNil) aNil))) (aCons (eSl (eIx (eIx (eVar 1) (eC (.int 1))) (eVar 4)) oNo (oAt (eC (.int 1)))) (aCons (eTup (aCons (eC (.str "phases")) (aCons (eLst (aCons (eIx (eIx (eVar 1) (eC (.int 1))) (eVar 4)) aNil)) aNil))) aNil))))))))) (gN 3) (sApp 2 (eTup (aCons (eIx (eVar 1) (eC (.int 0))) (aCons (eAdd (eAdd (eSl (eIx (eVar 1) (eC (.int 1))) oNo (oAt (eVar 4))) (eLst (aCons (eVar 3) aNil))) (eSl (eIx (eVar 1) (eC (.int 1))) (oAt (eAdd (eVar 4) (eC (.int 1)))) oNo)) aNil))))) (sAsg (eAdd (eVar 2) (eLst (aCons (eTup (aCons (eIx (eVar 1) (eC (.int 0))) (aCons (eN dTuple (aCons (eIx (eVar 1) (eC (.int 1))) aNil)) aNil))) (aCons (eTup (aCons (eIx (eVar 1) (eC (.int 0))) (aCons (eAdd (eIx (eVar 1) (eC (.int 1))) (eLst (aCons (eC .non) aNil))) aNil))) (aCons (eTup (aCons (eC (.str "sum")) (aCons (eIx (eVar 1) (eC (.int 1))) aNil))) aNil))))) (gN 2)))) sNext) (sRetV 2))))))
def m_law_bent : Fn := runBody N_law_bent.length b_law_bent
def b_law_right : Sv := (sSeq (sPar 1 2 (aCons (eCall (m_law_bound FU) [] (aCons (eVar 0) (aCons (eC (.int 3)) aNil))) (aCons (eC .non) aNil))) (sSeq (sAsg (eN dRepr (aCons (eVar 1) aNil)) (gN 2)) (sSeq (sFor (iRg1 (aCons (eC (.int 3)) aNil)) (gN 3) (sSeq (sAsg (eDisp [((eC (.str "x")), (e2 dSub (eCall (m_law_draw) [] (aCons (eVar 0) (aCons (eC (.int 21)) aNil))) (eC (.int 10)))), ((eC (.str "y@")), (e2 dSub (eCall (m_law_draw) [] (aCons (eVar 0) (aCons (eC (.int 21)) aNil))) (eC (.int 10))))]) (gN 4)) (sSeq (sPar 5 6 (aCons (eCall (m_law_comes_to FU) [] (aCons (eVar 1) (aCons (eVar 4) aNil))) (aCons (eN dSorted (aCons (eLock 4 (eComp [7] (iKy 4) (gN 7) tTrue (eTup (aCons (eVar 7) (aCons (eIx (eVar 4) (eVar 7)) aNil))))) aNil)) aNil))) (sSeq (sAsg (eN dSorted (aCons (eAdd (eVar 6) (eLst (aCons (eTup (aCons (eC (.str "aa")) (aCons (e2 dPow (eC (.int 10)) (eC (.int 20))) aNil))) (aCons (eTup (aCons (eC (.str "z")) (aCons (e2 dSub (eC (.int 0)) (eC (.int 7))) aNil))) aNil)))) aNil)) (gN 8)) (sSeq (sIf (tOo (tNt (tV (eCall (m_law_exact FU) [] (aCons (e2 dMul (eLst (aCons (eVar 5) aNil)) (eC (.int 3))) (aCons (eLst (aCons (eCall (m_bound_at) [] (aCons (eVar 1) (aCons (eVar 6) aNil))) (aCons (eCallK (m_bound_at) kw0_bound_at_numbers_bound aNil (aCons (eVar 6) (aCons (eVar 1) aNil))) (aCons (eCall (m_bound_at) [] (aCons (eVar 1) (aCons (eVar 8) aNil))) aNil)))) aNil))))) (t2 dLt (eVar 5) (eC (.int 0)))) (sRet (eC (.bl false))) sNext) (sIf (tOo (t2 dNeX (eCall (m_bound_at) [] (aCons (eTup (aCons (eC (.str "plus")) (aCons (eLst (aCons (eVar 1) (aCons (eTup (aCons (eC (.str "number")) (aCons (eC (.int 3)) aNil))) aNil))) aNil))) (aCons (eVar 6) aNil))) (eAdd (eVar 5) (eC (.int 3)))) (t2 dNeX (eCall (m_bound_at) [] (aCons (eTup (aCons (eC (.str "greatest")) (aCons (eLst (aCons (eVar 1) (aCons (eTup (aCons (eC (.str "number")) (aCons (eAdd (eVar 5) (eC (.int 2))) aNil))) aNil))) aNil))) (aCons (eVar 6) aNil))) (eAdd (eVar 5) (eC (.int 2))))) (sRet (eC (.bl false))) sNext)))))) (sSeq (sFor (iSeq (eAdd (eLst (aCons (eVar 1) aNil)) (eCall (m_law_bent) [] (aCons (eVar 0) (aCons (eVar 1) aNil))))) (gN 9) (sSeq (sPar 5 10 (aCons (eCall (m_law_is_bound FU) [] (aCons (eVar 9) aNil)) (aCons (eN dRepr (aCons (eVar 9) aNil)) aNil))) (sIf (tOo (tNt (tV (eCall (m_law_exact FU) [] (aCons (eLst (aCons (eVar 5) (aCons (eVar 5) aNil))) (aCons (eLst (aCons (eCall (m_is_bound) [] (aCons (eVar 9) aNil)) (aCons (eCallK (m_is_bound) kw0_is_bound_value aNil (aCons (eVar 9) aNil)) aNil))) aNil))))) (t2 dNeX (eN dRepr (aCons (eVar 9) aNil)) (eVar 10))) (sRet (eC (.bl false))) sNext))) (sRet (e2 dEqX (eN dRepr (aCons (eVar 1) aNil)) (eVar 2)))))))
def m_law_right : Fn := runBody N_law_right.length b_law_right
def b_law : Sv := (sSeq (sFor (iSeq (eCall (m_law_purses) [] (aCons (eVar 0) (aCons (eC (.int 4)) aNil)))) (gN 1) (sFor (iRg1 (aCons (eC (.int 4)) aNil)) (gN 2) (sIf (tNt (tV (eCall (m_law_right) [] (aCons (eVar 1) aNil)))) (sRet (eC (.bl false))) sNext))) (sSeq (sAsg (eTup (aCons (eC (.str "times")) (aCons (eLst (aCons (eTup (aCons (eC (.str "form")) (aCons (eTup (aCons (e2 dSub (eC (.int 0)) (eC (.int 1))) (aCons (eTup (aCons (eTup (aCons (eC (.str "x")) (aCons (e2 dPow (eC (.int 10)) (eC (.int 11))) aNil))) aNil)) aNil))) (aCons (eC (.int 7)) aNil)))) (aCons (eTup (aCons (eC (.str "form")) (aCons (eTup (aCons (eC (.int 5)) (aCons (eTup (aCons (eTup (aCons (eC (.str "x")) (aCons (eC (.int 1)) aNil))) aNil)) aNil))) (aCons (eC (.int 1)) aNil)))) aNil))) aNil))) (gN 3)) (sSeq (sAsg (eLst (aCons (eCall (m_bound_at) [] (aCons (eVar 3) (aCons (eLst (aCons (eTup (aCons (eC (.str "x")) (aCons (e2 dPow (eC (.int 10)) (eC (.int 12))) aNil))) aNil)) aNil))) (aCons (eCall (m_bound_at) [] (aCons (eVar 3) (aCons (eLst (aCons (eTup (aCons (eC (.str "x")) (aCons (e2 dSub (eC (.int 0)) (e2 dPow (eC (.int 10)) (eC (.int 12)))) aNil))) aNil)) aNil))) (aCons (eCall (m_bound_at) [] (aCons (eTup (aCons (eC (.str "phases")) (aCons (eLst (aCons (eTup (aCons (eC (.str "number")) (aCons (eC (.int 0)) aNil))) aNil)) aNil))) (aCons (eLst aNil) aNil))) (aCons (eCall (m_bound_at) [] (aCons (eTup (aCons (eC (.str "phases")) (aCons (eLst (aCons (eTup (aCons (eC (.str "number")) (aCons (eC (.int 3)) aNil))) (aCons (eTup (aCons (eC (.str "number")) (aCons (eC (.int 0)) aNil))) aNil))) aNil))) (aCons (eLst aNil) aNil))) aNil))))) (gN 4)) (sRet (eCall (m_law_exact FU) [] (aCons (eLst (aCons (e2 dMul (e2 dFdiv (e2 dSub (e2 dPow (eC (.int 10)) (eC (.int 23))) (eC (.int 1))) (eC (.int 7))) (eAdd (e2 dPow (eC (.int 10)) (eC (.int 12))) (eC (.int 5)))) (aCons (eC (.int 0)) (aCons (eC (.int 1)) (aCons (eC (.int 6)) aNil))))) (aCons (eVar 4) aNil)))))))
def m_law : Fn := runBody N_law.length b_law
end K57
end
section
set_option Elab.async false
set_option linter.all false
set_option maxRecDepth 100000
set_option maxHeartbeats 4000000
set_option autoImplicit false
/-! the walk (printed by gen.py) -/
namespace K57
open PySem L2 PyProof.Rows PD
def top (i : Nat) : Stmt := PySem.Challenge.pw_comestoend_k57_whole_bounds_reckoned.main.body.getD i (.Pass ⟨0, 0, 0, 0⟩)
abbrev gt_WORDS0 : List D := gt_WORDS
abbrev s_is_whole : Stmt := top 1
abbrev s_is_count : Stmt := top 2
abbrev s_is_tuple_of : Stmt := top 4
abbrev s_is_word : Stmt := top 3
abbrev s_is_name : Stmt := top 9
abbrev s_is_form : Stmt := top 10
abbrev s_is_leaf : Stmt := top 17
abbrev s_is_node : Stmt := top 18
abbrev s_is_bound : Stmt := top 19
abbrev s_parts_of : Stmt := top 20
abbrev s_all_parts : Stmt := top 21
abbrev s_steps_by_phases : Stmt := top 22
abbrev s_joined : Stmt := top 23
abbrev s_value_at : Stmt := top 12
abbrev s_leaf_at : Stmt := top 24
abbrev s_value_there : Stmt := top 25
abbrev s_names_in : Stmt := top 11
abbrev s_names_of_bound : Stmt := top 26
abbrev s_are_told : Stmt := top 27
abbrev s_bound_at : Stmt := top 28
abbrev s_law_exact : Stmt := top 34
abbrev s_law_purse : Stmt := top 30
abbrev s_law_purses : Stmt := top 35
abbrev s_law_mixed : Stmt := top 31
abbrev s_law_draw : Stmt := top 32
abbrev s_law_one_of : Stmt := top 33
abbrev s_law_form : Stmt := top 36
abbrev s_law_drawn_form : Stmt := top 38
abbrev s_law_leaf : Stmt := top 41
abbrev s_law_bound : Stmt := top 42
abbrev s_law_value : Stmt := top 37
abbrev s_law_turns : Stmt := top 43
abbrev s_law_comes_to : Stmt := top 44
abbrev s_law_is_whole : Stmt := top 39
abbrev s_law_is_form : Stmt := top 40
abbrev s_law_are_names : Stmt := top 46
abbrev s_law_is_bound : Stmt := top 45
abbrev s_law_bent : Stmt := top 47
abbrev s_law_right : Stmt := top 48
abbrev s_law : Stmt := top 49
theorem sc_is_whole : FnScope N_is_whole ps_is_whole (defScope s_is_whole) := ⟨rfl, rfl, rfl, by decide +kernel, rfl, by decide +kernel, by decide +kernel⟩
theorem bd_is_whole : Bd "is_whole" s_is_whole ps_is_whole := fun _ _ _ _ _ _ us hl => match us, hl with | [_], _ => rfl
theorem sc_is_count : FnScope N_is_count ps_is_count (defScope s_is_count) := ⟨rfl, rfl, rfl, by decide +kernel, rfl, by decide +kernel, by decide +kernel⟩
theorem bdd_is_count_1 : Bdd "is_count" s_is_count ps_is_count 1 1 0 := fun _ _ _ _ _ _ _ us its h1 h2 => match us, its, h1, h2 with | [_], [_], _, _ => ⟨_, rfl, rfl⟩
theorem bdd_is_count_2 : Bdd "is_count" s_is_count ps_is_count 1 2 1 := fun _ _ _ _ _ _ _ us its h1 h2 => match us, its, h1, h2 with | [_, _], [_], _, _ => ⟨_, rfl, rfl⟩
theorem sc_is_tuple_of : FnScope N_is_tuple_of ps_is_tuple_of (defScope s_is_tuple_of) := ⟨rfl, rfl, rfl, by decide +kernel, rfl, by decide +kernel, by decide +kernel⟩
theorem bd_is_tuple_of : Bd "is_tuple_of" s_is_tuple_of ps_is_tuple_of := fun _ _ _ _ _ _ us hl => match us, hl with | [_, _], _ => rfl
theorem sc_is_word : FnScope N_is_word ps_is_word (defScope s_is_word) := ⟨rfl, rfl, rfl, by decide +kernel, rfl, by decide +kernel, by decide +kernel⟩
theorem bd_is_word : Bd "is_word" s_is_word ps_is_word := fun _ _ _ _ _ _ us hl => match us, hl with | [_], _ => rfl
theorem sc_is_name : FnScope N_is_name ps_is_name (defScope s_is_name) := ⟨rfl, rfl, rfl, by decide +kernel, rfl, by decide +kernel, by decide +kernel⟩
theorem bd_is_name : Bd "is_name" s_is_name ps_is_name := fun _ _ _ _ _ _ us hl => match us, hl with | [_], _ => rfl
theorem sc_is_form : FnScope N_is_form ps_is_form (defScope s_is_form) := ⟨rfl, rfl, rfl, by decide +kernel, rfl, by decide +kernel, by decide +kernel⟩
theorem bd_is_form : Bd "is_form" s_is_form ps_is_form := fun _ _ _ _ _ _ us hl => match us, hl with | [_], _ => rfl
theorem sc_is_leaf : FnScope N_is_leaf ps_is_leaf (defScope s_is_leaf) := ⟨rfl, rfl, rfl, by decide +kernel, rfl, by decide +kernel, by decide +kernel⟩
theorem bd_is_leaf : Bd "is_leaf" s_is_leaf ps_is_leaf := fun _ _ _ _ _ _ us hl => match us, hl with | [_], _ => rfl
theorem sc_is_node : FnScope N_is_node ps_is_node (defScope s_is_node) := ⟨rfl, rfl, rfl, by decide +kernel, rfl, by decide +kernel, by decide +kernel⟩
theorem bd_is_node : Bd "is_node" s_is_node ps_is_node := fun _ _ _ _ _ _ us hl => match us, hl with | [_], _ => rfl
theorem sc_is_bound : FnScope N_is_bound ps_is_bound (defScope s_is_bound) := ⟨rfl, rfl, rfl, by decide +kernel, rfl, by decide +kernel, by decide +kernel⟩
theorem bd_is_bound : Bd "is_bound" s_is_bound ps_is_bound := fun _ _ _ _ _ _ us hl => match us, hl with | [_], _ => rfl
theorem sc_parts_of : FnScope N_parts_of ps_parts_of (defScope s_parts_of) := ⟨rfl, rfl, rfl, by decide +kernel, rfl, by decide +kernel, by decide +kernel⟩
theorem bd_parts_of : Bd "parts_of" s_parts_of ps_parts_of := fun _ _ _ _ _ _ us hl => match us, hl with | [_], _ => rfl
theorem sc_all_parts : FnScope N_all_parts ps_all_parts (defScope s_all_parts) := ⟨rfl, rfl, rfl, by decide +kernel, rfl, by decide +kernel, by decide +kernel⟩
theorem bd_all_parts : Bd "all_parts" s_all_parts ps_all_parts := fun _ _ _ _ _ _ us hl => match us, hl with | [_], _ => rfl
theorem sc_steps_by_phases : FnScope N_steps_by_phases ps_steps_by_phases (defScope s_steps_by_phases) := ⟨rfl, rfl, rfl, by decide +kernel, rfl, by decide +kernel, by decide +kernel⟩
theorem bd_steps_by_phases : Bd "steps_by_phases" s_steps_by_phases ps_steps_by_phases := fun _ _ _ _ _ _ us hl => match us, hl with | [_], _ => rfl
theorem sc_joined : FnScope N_joined ps_joined (defScope s_joined) := ⟨rfl, rfl, rfl, by decide +kernel, rfl, by decide +kernel, by decide +kernel⟩
theorem bd_joined : Bd "joined" s_joined ps_joined := fun _ _ _ _ _ _ us hl => match us, hl with | [_, _], _ => rfl
theorem sc_value_at : FnScope N_value_at ps_value_at (defScope s_value_at) := ⟨rfl, rfl, rfl, by decide +kernel, rfl, by decide +kernel, by decide +kernel⟩
theorem bd_value_at : Bd "value_at" s_value_at ps_value_at := fun _ _ _ _ _ _ us hl => match us, hl with | [_, _], _ => rfl
theorem sc_leaf_at : FnScope N_leaf_at ps_leaf_at (defScope s_leaf_at) := ⟨rfl, rfl, rfl, by decide +kernel, rfl, by decide +kernel, by decide +kernel⟩
theorem bd_leaf_at : Bd "leaf_at" s_leaf_at ps_leaf_at := fun _ _ _ _ _ _ us hl => match us, hl with | [_, _], _ => rfl
theorem sc_value_there : FnScope N_value_there ps_value_there (defScope s_value_there) := ⟨rfl, rfl, rfl, by decide +kernel, rfl, by decide +kernel, by decide +kernel⟩
theorem bd_value_there : Bd "value_there" s_value_there ps_value_there := fun _ _ _ _ _ _ us hl => match us, hl with | [_, _], _ => rfl
theorem sc_names_in : FnScope N_names_in ps_names_in (defScope s_names_in) := ⟨rfl, rfl, rfl, by decide +kernel, rfl, by decide +kernel, by decide +kernel⟩
theorem bd_names_in : Bd "names_in" s_names_in ps_names_in := fun _ _ _ _ _ _ us hl => match us, hl with | [_], _ => rfl
theorem sc_names_of_bound : FnScope N_names_of_bound ps_names_of_bound (defScope s_names_of_bound) := ⟨rfl, rfl, rfl, by decide +kernel, rfl, by decide +kernel, by decide +kernel⟩
theorem bd_names_of_bound : Bd "names_of_bound" s_names_of_bound ps_names_of_bound := fun _ _ _ _ _ _ us hl => match us, hl with | [_], _ => rfl
theorem sc_are_told : FnScope N_are_told ps_are_told (defScope s_are_told) := ⟨rfl, rfl, rfl, by decide +kernel, rfl, by decide +kernel, by decide +kernel⟩
theorem bd_are_told : Bd "are_told" s_are_told ps_are_told := fun _ _ _ _ _ _ us hl => match us, hl with | [_], _ => rfl
theorem sc_bound_at : FnScope N_bound_at ps_bound_at (defScope s_bound_at) := ⟨rfl, rfl, rfl, by decide +kernel, rfl, by decide +kernel, by decide +kernel⟩
theorem bd_bound_at : Bd "bound_at" s_bound_at ps_bound_at := fun _ _ _ _ _ _ us hl => match us, hl with | [_, _], _ => rfl
theorem sc_law_exact : FnScope N_law_exact ps_law_exact (defScope s_law_exact) := ⟨rfl, rfl, rfl, by decide +kernel, rfl, by decide +kernel, by decide +kernel⟩
theorem bd_law_exact : Bd "_law_exact" s_law_exact ps_law_exact := fun _ _ _ _ _ _ us hl => match us, hl with | [_, _], _ => rfl
theorem sc_law_purse : FnScope N_law_purse ps_law_purse (defScope s_law_purse) := ⟨rfl, rfl, rfl, by decide +kernel, rfl, by decide +kernel, by decide +kernel⟩
theorem bd_law_purse : Bd "_law_purse" s_law_purse ps_law_purse := fun _ _ _ _ _ _ us hl => match us, hl with | [_, _], _ => rfl
theorem sc_law_purses : FnScope N_law_purses ps_law_purses (defScope s_law_purses) := ⟨rfl, rfl, rfl, by decide +kernel, rfl, by decide +kernel, by decide +kernel⟩
theorem bd_law_purses : Bd "_law_purses" s_law_purses ps_law_purses := fun _ _ _ _ _ _ us hl => match us, hl with | [_, _], _ => rfl
theorem sc_law_mixed : FnScope N_law_mixed ps_law_mixed (defScope s_law_mixed) := ⟨rfl, rfl, rfl, by decide +kernel, rfl, by decide +kernel, by decide +kernel⟩
theorem bd_law_mixed : Bd "_law_mixed" s_law_mixed ps_law_mixed := fun _ _ _ _ _ _ us hl => match us, hl with | [_, _, _], _ => rfl
theorem sc_law_draw : FnScope N_law_draw ps_law_draw (defScope s_law_draw) := ⟨rfl, rfl, rfl, by decide +kernel, rfl, by decide +kernel, by decide +kernel⟩
theorem bd_law_draw : Bd "_law_draw" s_law_draw ps_law_draw := fun _ _ _ _ _ _ us hl => match us, hl with | [_, _], _ => rfl
theorem sc_law_one_of : FnScope N_law_one_of ps_law_one_of (defScope s_law_one_of) := ⟨rfl, rfl, rfl, by decide +kernel, rfl, by decide +kernel, by decide +kernel⟩
theorem bd_law_one_of : Bd "_law_one_of" s_law_one_of ps_law_one_of := fun _ _ _ _ _ _ us hl => match us, hl with | [_, _], _ => rfl
theorem sc_law_form : FnScope N_law_form ps_law_form (defScope s_law_form) := ⟨rfl, rfl, rfl, by decide +kernel, rfl, by decide +kernel, by decide +kernel⟩
theorem bd_law_form : Bd "_law_form" s_law_form ps_law_form := fun _ _ _ _ _ _ us hl => match us, hl with | [_, _], _ => rfl
theorem sc_law_drawn_form : FnScope N_law_drawn_form ps_law_drawn_form (defScope s_law_drawn_form) := ⟨rfl, rfl, rfl, by decide +kernel, rfl, by decide +kernel, by decide +kernel⟩
theorem bd_law_drawn_form : Bd "_law_drawn_form" s_law_drawn_form ps_law_drawn_form := fun _ _ _ _ _ _ us hl => match us, hl with | [_, _, _], _ => rfl
theorem sc_law_leaf : FnScope N_law_leaf ps_law_leaf (defScope s_law_leaf) := ⟨rfl, rfl, rfl, by decide +kernel, rfl, by decide +kernel, by decide +kernel⟩
theorem bd_law_leaf : Bd "_law_leaf" s_law_leaf ps_law_leaf := fun _ _ _ _ _ _ us hl => match us, hl with | [_], _ => rfl
theorem sc_law_bound : FnScope N_law_bound ps_law_bound (defScope s_law_bound) := ⟨rfl, rfl, rfl, by decide +kernel, rfl, by decide +kernel, by decide +kernel⟩
theorem bd_law_bound : Bd "_law_bound" s_law_bound ps_law_bound := fun _ _ _ _ _ _ us hl => match us, hl with | [_, _], _ => rfl
theorem sc_law_value : FnScope N_law_value ps_law_value (defScope s_law_value) := ⟨rfl, rfl, rfl, by decide +kernel, rfl, by decide +kernel, by decide +kernel⟩
theorem bd_law_value : Bd "_law_value" s_law_value ps_law_value := fun _ _ _ _ _ _ us hl => match us, hl with | [_, _], _ => rfl
theorem sc_law_turns : FnScope N_law_turns ps_law_turns (defScope s_law_turns) := ⟨rfl, rfl, rfl, by decide +kernel, rfl, by decide +kernel, by decide +kernel⟩
theorem bd_law_turns : Bd "_law_turns" s_law_turns ps_law_turns := fun _ _ _ _ _ _ us hl => match us, hl with | [_], _ => rfl
theorem sc_law_comes_to : FnScope N_law_comes_to ps_law_comes_to (defScope s_law_comes_to) := ⟨rfl, rfl, rfl, by decide +kernel, rfl, by decide +kernel, by decide +kernel⟩
theorem bd_law_comes_to : Bd "_law_comes_to" s_law_comes_to ps_law_comes_to := fun _ _ _ _ _ _ us hl => match us, hl with | [_, _], _ => rfl
theorem sc_law_is_whole : FnScope N_law_is_whole ps_law_is_whole (defScope s_law_is_whole) := ⟨rfl, rfl, rfl, by decide +kernel, rfl, by decide +kernel, by decide +kernel⟩
theorem bd_law_is_whole : Bd "_law_is_whole" s_law_is_whole ps_law_is_whole := fun _ _ _ _ _ _ us hl => match us, hl with | [_], _ => rfl
theorem sc_law_is_form : FnScope N_law_is_form ps_law_is_form (defScope s_law_is_form) := ⟨rfl, rfl, rfl, by decide +kernel, rfl, by decide +kernel, by decide +kernel⟩
theorem bd_law_is_form : Bd "_law_is_form" s_law_is_form ps_law_is_form := fun _ _ _ _ _ _ us hl => match us, hl with | [_], _ => rfl
theorem sc_law_are_names : FnScope N_law_are_names ps_law_are_names (defScope s_law_are_names) := ⟨rfl, rfl, rfl, by decide +kernel, rfl, by decide +kernel, by decide +kernel⟩
theorem bd_law_are_names : Bd "_law_are_names" s_law_are_names ps_law_are_names := fun _ _ _ _ _ _ us hl => match us, hl with | [_], _ => rfl
theorem sc_law_is_bound : FnScope N_law_is_bound ps_law_is_bound (defScope s_law_is_bound) := ⟨rfl, rfl, rfl, by decide +kernel, rfl, by decide +kernel, by decide +kernel⟩
theorem bd_law_is_bound : Bd "_law_is_bound" s_law_is_bound ps_law_is_bound := fun _ _ _ _ _ _ us hl => match us, hl with | [_], _ => rfl
theorem sc_law_bent : FnScope N_law_bent ps_law_bent (defScope s_law_bent) := ⟨rfl, rfl, rfl, by decide +kernel, rfl, by decide +kernel, by decide +kernel⟩
theorem bd_law_bent : Bd "_law_bent" s_law_bent ps_law_bent := fun _ _ _ _ _ _ us hl => match us, hl with | [_, _], _ => rfl
theorem sc_law_right : FnScope N_law_right ps_law_right (defScope s_law_right) := ⟨rfl, rfl, rfl, by decide +kernel, rfl, by decide +kernel, by decide +kernel⟩
theorem bd_law_right : Bd "_law_right" s_law_right ps_law_right := fun _ _ _ _ _ _ us hl => match us, hl with | [_], _ => rfl
theorem sc_law : FnScope N_law ps_law (defScope s_law) := ⟨rfl, rfl, rfl, by decide +kernel, rfl, by decide +kernel, by decide +kernel⟩
theorem bd_law : Bd "law" s_law ps_law := fun _ _ _ _ _ _ us hl => match us, hl with | [_], _ => rfl
theorem kw_kw0_bound_at_numbers_bound : Kw "bound_at" s_bound_at ps_bound_at 0 ["numbers", "bound"] (ordL kw0_bound_at_numbers_bound) := fun _ _ _ _ _ _ us ws h1 h2 => match us, ws, h1, h2 with | [], [_, _], _, _ => rfl
theorem kw_kw0_is_bound_value : Kw "is_bound" s_is_bound ps_is_bound 0 ["value"] (ordL kw0_is_bound_value) := fun _ _ _ _ _ _ us ws h1 h2 => match us, ws, h1, h2 with | [], [_], _, _ => rfl
/-- what the head tells -/
structure Facts (K : PySem.W.Frag) (mg : Str → Option Value) : Prop where
  n_all : mg "all" = none
  n_bool : mg "bool" = none
  n_dict : mg "dict" = none
  n_int : mg "int" = none
  n_isinstance : mg "isinstance" = none
  n_len : mg "len" = none
  n_list : mg "list" = none
  n_max : mg "max" = none
  n_min : mg "min" = none
  n_range : mg "range" = none
  n_repr : mg "repr" = none
  n_sorted : mg "sorted" = none
  n_str : mg "str" = none
  n_sum : mg "sum" = none
  n_tuple : mg "tuple" = none
  n_zip : mg "zip" = none
  gt_WORDS : GTup K mg "WORDS" gt_WORDS
  f_is_whole : ∃ f fd, mg "is_whole" = some (.ref f) ∧ FnP K "is_whole" s_is_whole f fd
  f_is_count : ∃ f fd, mg "is_count" = some (.ref f) ∧ FnP K "is_count" s_is_count f fd [.int 0]
  f_is_tuple_of : ∃ f fd, mg "is_tuple_of" = some (.ref f) ∧ FnP K "is_tuple_of" s_is_tuple_of f fd
  f_is_word : ∃ f fd, mg "is_word" = some (.ref f) ∧ FnP K "is_word" s_is_word f fd
  f_is_name : ∃ f fd, mg "is_name" = some (.ref f) ∧ FnP K "is_name" s_is_name f fd
  f_is_form : ∃ f fd, mg "is_form" = some (.ref f) ∧ FnP K "is_form" s_is_form f fd
  f_is_leaf : ∃ f fd, mg "is_leaf" = some (.ref f) ∧ FnP K "is_leaf" s_is_leaf f fd
  f_is_node : ∃ f fd, mg "is_node" = some (.ref f) ∧ FnP K "is_node" s_is_node f fd
  f_is_bound : ∃ f fd, mg "is_bound" = some (.ref f) ∧ FnP K "is_bound" s_is_bound f fd
  f_parts_of : ∃ f fd, mg "parts_of" = some (.ref f) ∧ FnP K "parts_of" s_parts_of f fd
  f_all_parts : ∃ f fd, mg "all_parts" = some (.ref f) ∧ FnP K "all_parts" s_all_parts f fd
  f_steps_by_phases : ∃ f fd, mg "steps_by_phases" = some (.ref f) ∧ FnP K "steps_by_phases" s_steps_by_phases f fd
  f_joined : ∃ f fd, mg "joined" = some (.ref f) ∧ FnP K "joined" s_joined f fd
  f_value_at : ∃ f fd, mg "value_at" = some (.ref f) ∧ FnP K "value_at" s_value_at f fd
  f_leaf_at : ∃ f fd, mg "leaf_at" = some (.ref f) ∧ FnP K "leaf_at" s_leaf_at f fd
  f_value_there : ∃ f fd, mg "value_there" = some (.ref f) ∧ FnP K "value_there" s_value_there f fd
  f_names_in : ∃ f fd, mg "names_in" = some (.ref f) ∧ FnP K "names_in" s_names_in f fd
  f_names_of_bound : ∃ f fd, mg "names_of_bound" = some (.ref f) ∧ FnP K "names_of_bound" s_names_of_bound f fd
  f_are_told : ∃ f fd, mg "are_told" = some (.ref f) ∧ FnP K "are_told" s_are_told f fd
  f_bound_at : ∃ f fd, mg "bound_at" = some (.ref f) ∧ FnP K "bound_at" s_bound_at f fd
  f_law_exact : ∃ f fd, mg "_law_exact" = some (.ref f) ∧ FnP K "_law_exact" s_law_exact f fd
  f_law_purse : ∃ f fd, mg "_law_purse" = some (.ref f) ∧ FnP K "_law_purse" s_law_purse f fd
  f_law_purses : ∃ f fd, mg "_law_purses" = some (.ref f) ∧ FnP K "_law_purses" s_law_purses f fd
  f_law_mixed : ∃ f fd, mg "_law_mixed" = some (.ref f) ∧ FnP K "_law_mixed" s_law_mixed f fd
  f_law_draw : ∃ f fd, mg "_law_draw" = some (.ref f) ∧ FnP K "_law_draw" s_law_draw f fd
  f_law_one_of : ∃ f fd, mg "_law_one_of" = some (.ref f) ∧ FnP K "_law_one_of" s_law_one_of f fd
  f_law_form : ∃ f fd, mg "_law_form" = some (.ref f) ∧ FnP K "_law_form" s_law_form f fd
  f_law_drawn_form : ∃ f fd, mg "_law_drawn_form" = some (.ref f) ∧ FnP K "_law_drawn_form" s_law_drawn_form f fd
  f_law_leaf : ∃ f fd, mg "_law_leaf" = some (.ref f) ∧ FnP K "_law_leaf" s_law_leaf f fd
  f_law_bound : ∃ f fd, mg "_law_bound" = some (.ref f) ∧ FnP K "_law_bound" s_law_bound f fd
  f_law_value : ∃ f fd, mg "_law_value" = some (.ref f) ∧ FnP K "_law_value" s_law_value f fd
  f_law_turns : ∃ f fd, mg "_law_turns" = some (.ref f) ∧ FnP K "_law_turns" s_law_turns f fd
  f_law_comes_to : ∃ f fd, mg "_law_comes_to" = some (.ref f) ∧ FnP K "_law_comes_to" s_law_comes_to f fd
  f_law_is_whole : ∃ f fd, mg "_law_is_whole" = some (.ref f) ∧ FnP K "_law_is_whole" s_law_is_whole f fd
  f_law_is_form : ∃ f fd, mg "_law_is_form" = some (.ref f) ∧ FnP K "_law_is_form" s_law_is_form f fd
  f_law_are_names : ∃ f fd, mg "_law_are_names" = some (.ref f) ∧ FnP K "_law_are_names" s_law_are_names f fd
  f_law_is_bound : ∃ f fd, mg "_law_is_bound" = some (.ref f) ∧ FnP K "_law_is_bound" s_law_is_bound f fd
  f_law_bent : ∃ f fd, mg "_law_bent" = some (.ref f) ∧ FnP K "_law_bent" s_law_bent f fd
  f_law_right : ∃ f fd, mg "_law_right" = some (.ref f) ∧ FnP K "_law_right" s_law_right f fd
  f_law : ∃ f fd, mg "law" = some (.ref f) ∧ FnP K "law" s_law f fd
section
variable {P : Program} {w : World} {K : PySem.W.Frag} {mg : Str → Option Value} {base : Heap}
theorem c_is_whole (Y : Facts K mg) : Cal P w K mg base "is_whole" s_is_whole ps_is_whole 1 m_is_whole := by
  obtain ⟨f, fd, hf, F⟩ := Y.f_is_whole
  refine ⟨f, fd, hf, F, fn_ok F sc_is_whole fun cdv A outer s H E hr => ?_⟩
  have hu := hr.units65
  exact ⟨_, (ess_one (es_ret (ee_and (ee_fun cr_isi n_isi Y.n_isinstance (ea_cons (ee_var (i := 0)) (ea_cons (ee_ty Y.n_int) ea_nil))) (ee_one (ee_not (ee_fun cr_isi n_isi Y.n_isinstance (ea_cons (ee_var (i := 0)) (ea_cons (ee_ty Y.n_bool) ea_nil))))))))⟩
theorem c_is_count (Y : Facts K mg) : Cal P w K mg base "is_count" s_is_count ps_is_count 2 m_is_count [.int 0] := by
  have c_is_whole := c_is_whole (P := P) (w := w) (base := base) Y
  obtain ⟨f, fd, hf, F⟩ := Y.f_is_count
  refine ⟨f, fd, hf, F, fn_ok F sc_is_count fun cdv A outer s H E hr => ?_⟩
  have hu := hr.units65
  exact ⟨_, (ess_one (es_ret (ee_and (ee_cal c_is_whole bd_is_whole (hr.mono (by omega)) (ea_cons (ee_var (i := 0)) ea_nil)) (ee_one (ee_cmp op_geAny o_ge (ee_var (i := 0)) (ee_fun (call_max2 rfl) n_max2 Y.n_max (ea_cons (ee_var (i := 1)) (ea_cons ee_int ea_nil))))))))⟩
theorem c_is_tuple_of (Y : Facts K mg) : Cal P w K mg base "is_tuple_of" s_is_tuple_of ps_is_tuple_of 1 m_is_tuple_of := by
  obtain ⟨f, fd, hf, F⟩ := Y.f_is_tuple_of
  refine ⟨f, fd, hf, F, fn_ok F sc_is_tuple_of fun cdv A outer s H E hr => ?_⟩
  have hu := hr.units65
  exact ⟨_, (ess_one (es_ret (ee_and (ee_fun cr_isi n_isi Y.n_isinstance (ea_cons (ee_var (i := 0)) (ea_cons (ee_ty Y.n_tuple) ea_nil))) (ee_one (ee_cmp (op_eqX hu) o_eqX (ee_fun cr_len n_len Y.n_len (ea_cons (ee_var (i := 0)) ea_nil)) (ee_var (i := 1)))))))⟩
theorem c_is_word (Y : Facts K mg) : Cal P w K mg base "is_word" s_is_word ps_is_word 1 m_is_word := by
  obtain ⟨f, fd, hf, F⟩ := Y.f_is_word
  refine ⟨f, fd, hf, F, fn_ok F sc_is_word fun cdv A outer s H E hr => ?_⟩
  have hu := hr.units65
  exact ⟨_, (ess_one (es_ret (ee_and (ee_fun cr_isi n_isi Y.n_isinstance (ea_cons (ee_var (i := 0)) (ea_cons (ee_ty Y.n_str) ea_nil))) (ee_and (ee_ch op_ltAny op_ltAny o_lt o_lt ee_int (ee_fun cr_len n_len Y.n_len (ea_cons (ee_var (i := 0)) ea_nil)) ee_int) (ee_one (ee_fun (cr_all rfl) n_all Y.n_all (ea_cons (ee_comp (own := [("sign", 1)]) rfl sc_is_word.nd (ei_seq (ee_var (i := 0))) (blkOk_by (own := [("sign", 1)]) (N := N_is_word) (sc := defScope s_is_word) (by decide +kernel)) (fun _ _ _ _ _ => (eg_name (i := 1) sc_is_word.nd)) (fun _ _ _ _ _ => ets_nil) (fun _ _ _ _ _ => (ee_ch op_leAny op_leAny o_le o_le ee_str (ee_var (i := 1)) ee_str))) ea_nil)))))))⟩
theorem c_is_name (Y : Facts K mg) : Cal P w K mg base "is_name" s_is_name ps_is_name 3 m_is_name := by
  have c_is_word := c_is_word (P := P) (w := w) (base := base) Y
  obtain ⟨f, fd, hf, F⟩ := Y.f_is_name
  refine ⟨f, fd, hf, F, fn_ok F sc_is_name fun cdv A outer s H E hr => ?_⟩
  have hu := hr.units65
  exact ⟨_, (ess_cons (es_if (ew_or (et_not (et_val (ee_fun cr_isi n_isi Y.n_isinstance (ea_cons (ee_var (i := 0)) (ea_cons (ee_ty Y.n_str) ea_nil))))) (ew_or1 (et_cmp (op_eqX hu) o_eqX (ee_var (i := 0)) ee_str))).et (ess_one (es_ret ee_bl)) ess_nil) (ess_cons (es_if (et_cmp (op_eqX hu) o_eqX (ee_ix hu (ee_var (i := 0)) ee_int) ee_str) (ess_cons (es_set (i := 1) sc_is_name.nd (ee_sl (ee_var (i := 0)) (eo_at ee_int) eo_no)) (ess_cons (es_set (i := 2) sc_is_name.nd (ee_and (ee_cmp (op_neX hu) o_neX (ee_var (i := 1)) ee_str) (ee_one (ee_fun (cr_all rfl) n_all Y.n_all (ea_cons (ee_comp (own := [("sign", 3)]) rfl sc_is_name.nd (ei_seq (ee_var (i := 1))) (blkOk_by (own := [("sign", 3)]) (N := N_is_name) (sc := defScope s_is_name) (by decide +kernel)) (fun _ _ _ _ _ => (eg_name (i := 3) sc_is_name.nd)) (fun _ _ _ _ _ => ets_nil) (fun _ _ _ _ _ => (ee_ch op_leAny op_leAny o_le o_le ee_str (ee_var (i := 3)) ee_str))) ea_nil))))) (ess_one (es_ret (ee_and (ee_var (i := 2)) (ee_one (ee_or (ee_cmp (op_eqX hu) o_eqX (ee_var (i := 1)) ee_str) (ee_one (ee_cmp (op_neX hu) o_neX (ee_ix hu (ee_var (i := 1)) ee_int) ee_str))))))))) ess_nil) (ess_one (es_ret (ee_cal c_is_word bd_is_word (hr.mono (by omega)) (ea_cons (ee_ife (et_cmp (op_eqX hu) o_eqX (ee_ix hu (ee_var (i := 0)) (ee_un un_neg o_neg ee_int)) ee_str) (ee_sl (ee_var (i := 0)) eo_no (eo_at (ee_un un_neg o_neg ee_int))) (ee_var (i := 0))) ea_nil))))))⟩
theorem c_is_form (Y : Facts K mg) : Cal P w K mg base "is_form" s_is_form ps_is_form 4 m_is_form := by
  have c_is_whole := c_is_whole (P := P) (w := w) (base := base) Y
  have c_is_tuple_of := c_is_tuple_of (P := P) (w := w) (base := base) Y
  have c_is_name := c_is_name (P := P) (w := w) (base := base) Y
  obtain ⟨f, fd, hf, F⟩ := Y.f_is_form
  refine ⟨f, fd, hf, F, fn_ok F sc_is_form fun cdv A outer s H E hr => ?_⟩
  have hu := hr.units65
  exact ⟨_, (ess_cons (es_if (ew_or (et_not (et_val (ee_cal c_is_tuple_of bd_is_tuple_of (hr.mono (by omega)) (ea_cons (ee_var (i := 0)) (ea_cons ee_int ea_nil))))) (ew_or (et_not (et_val (ee_cal c_is_whole bd_is_whole (hr.mono (by omega)) (ea_cons (ee_ix hu (ee_var (i := 0)) ee_int) ea_nil)))) (ew_or1 (et_not (et_val (ee_fun cr_isi n_isi Y.n_isinstance (ea_cons (ee_ix hu (ee_var (i := 0)) ee_int) (ea_cons (ee_ty Y.n_tuple) ea_nil)))))))).et (ess_one (es_ret ee_bl)) ess_nil) (ess_cons (es_if (et_not (et_val (ee_fun (cr_all rfl) n_all Y.n_all (ea_cons (ee_comp (own := [("pair", 1)]) rfl sc_is_form.nd (ei_seq (ee_ix hu (ee_var (i := 0)) ee_int)) (blkOk_by (own := [("pair", 1)]) (N := N_is_form) (sc := defScope s_is_form) (by decide +kernel)) (fun _ _ _ _ _ => (eg_name (i := 1) sc_is_form.nd)) (fun _ _ _ _ _ => ets_nil) (fun _ _ _ _ _ => (ee_and (ee_cal c_is_tuple_of bd_is_tuple_of (hr.mono (by omega)) (ea_cons (ee_var (i := 1)) (ea_cons ee_int ea_nil))) (ee_and (ee_cal c_is_name bd_is_name (hr.mono (by omega)) (ea_cons (ee_ix hu (ee_var (i := 1)) ee_int) ea_nil)) (ee_one (ee_cal c_is_whole bd_is_whole (hr.mono (by omega)) (ea_cons (ee_ix hu (ee_var (i := 1)) ee_int) ea_nil))))))) ea_nil)))) (ess_one (es_ret ee_bl)) ess_nil) (ess_cons (es_if (et_not (et_val (ee_fun (cr_all rfl) n_all Y.n_all (ea_cons (ee_comp (own := [("name", 2), ("factor", 3)]) rfl sc_is_form.nd (ei_seq (ee_ix hu (ee_var (i := 0)) ee_int)) (blkOk_by (own := [("name", 2), ("factor", 3)]) (N := N_is_form) (sc := defScope s_is_form) (by decide +kernel)) (fun _ _ _ _ _ => (eg_tup rfl (egs_cons (eg_name (i := 2) sc_is_form.nd) (egs_cons (eg_name (i := 3) sc_is_form.nd) egs_nil)) (gConsD_len (gConsD_len gNilD_len)))) (fun _ _ _ _ _ => ets_nil) (fun _ _ _ _ _ => (ee_cmp (op_neX hu) o_neX (ee_var (i := 3)) ee_int))) ea_nil)))) (ess_one (es_ret ee_bl)) ess_nil) (ess_one (es_ret (ee_fun (cr_all rfl) n_all Y.n_all (ea_cons (ee_comp (own := [("one", 4), ("other", 5)]) rfl sc_is_form.nd (ei_zip Y.n_zip (ea_cons (ee_ix hu (ee_var (i := 0)) ee_int) (ea_cons (ee_sl (ee_ix hu (ee_var (i := 0)) ee_int) (eo_at ee_int) eo_no) ea_nil))) (blkOk_by (own := [("one", 4), ("other", 5)]) (N := N_is_form) (sc := defScope s_is_form) (by decide +kernel)) (fun _ _ _ _ _ => (eg_tup rfl (egs_cons (eg_name (i := 4) sc_is_form.nd) (egs_cons (eg_name (i := 5) sc_is_form.nd) egs_nil)) (gConsD_len (gConsD_len gNilD_len)))) (fun _ _ _ _ _ => ets_nil) (fun _ _ _ _ _ => (ee_cmp op_ltAny o_lt (ee_ix hu (ee_var (i := 4)) ee_int) (ee_ix hu (ee_var (i := 5)) ee_int)))) ea_nil)))))))⟩
theorem c_is_leaf (Y : Facts K mg) : Cal P w K mg base "is_leaf" s_is_leaf ps_is_leaf 5 m_is_leaf := by
  have c_is_count := c_is_count (P := P) (w := w) (base := base) Y
  have c_is_tuple_of := c_is_tuple_of (P := P) (w := w) (base := base) Y
  have c_is_form := c_is_form (P := P) (w := w) (base := base) Y
  obtain ⟨f, fd, hf, F⟩ := Y.f_is_leaf
  refine ⟨f, fd, hf, F, fn_ok F sc_is_leaf fun cdv A outer s H E hr => ?_⟩
  have hu := hr.units65
  exact ⟨_, (ess_cons (es_if (ew_and (et_val (ee_cal c_is_tuple_of bd_is_tuple_of (hr.mono (by omega)) (ea_cons (ee_var (i := 0)) (ea_cons ee_int ea_nil)))) (ew_and1 (et_cmp (op_eqX hu) o_eqX (ee_ix hu (ee_var (i := 0)) ee_int) ee_str))).et (ess_one (es_ret (ee_calD (n := 1) (j := 0) c_is_count bdd_is_count_1 (hr.mono (by omega)) (ea_cons (ee_ix hu (ee_var (i := 0)) ee_int) ea_nil) (rd_int 0) (by decide)))) ess_nil) (ess_one (es_ret (ee_and (ee_cal c_is_tuple_of bd_is_tuple_of (hr.mono (by omega)) (ea_cons (ee_var (i := 0)) (ea_cons ee_int ea_nil))) (ee_and (ee_cmp (op_eqX hu) o_eqX (ee_ix hu (ee_var (i := 0)) ee_int) ee_str) (ee_and (ee_cal c_is_form bd_is_form (hr.mono (by omega)) (ea_cons (ee_ix hu (ee_var (i := 0)) ee_int) ea_nil)) (ee_one (ee_calD (n := 2) (j := 1) c_is_count bdd_is_count_2 (hr.mono (by omega)) (ea_cons (ee_ix hu (ee_var (i := 0)) ee_int) (ea_cons ee_int ea_nil)) (rd_nil 0) (by decide)))))))))⟩
theorem c_is_node (Y : Facts K mg) : Cal P w K mg base "is_node" s_is_node ps_is_node 2 m_is_node := by
  have c_is_tuple_of := c_is_tuple_of (P := P) (w := w) (base := base) Y
  obtain ⟨_, gm_WORDS, gr_WORDS⟩ := Y.gt_WORDS
  obtain ⟨f, fd, hf, F⟩ := Y.f_is_node
  refine ⟨f, fd, hf, F, fn_ok F sc_is_node fun cdv A outer s H E hr => ?_⟩
  have hu := hr.units65
  exact ⟨_, (ess_cons (es_if (ew_or (et_not (et_val (ee_cal c_is_tuple_of bd_is_tuple_of (hr.mono (by omega)) (ea_cons (ee_var (i := 0)) (ea_cons ee_int ea_nil))))) (ew_or (et_not (et_val (ee_fun cr_isi n_isi Y.n_isinstance (ea_cons (ee_ix hu (ee_var (i := 0)) ee_int) (ea_cons (ee_ty Y.n_str) ea_nil))))) (ew_or1 (et_cmp (op_notInAll hu) o_notIn (ee_ix hu (ee_var (i := 0)) ee_int) (ee_gtupA gm_WORDS gr_WORDS))))).et (ess_one (es_ret ee_bl)) ess_nil) (ess_one (es_ret (ee_and (ee_fun cr_isi n_isi Y.n_isinstance (ea_cons (ee_ix hu (ee_var (i := 0)) ee_int) (ea_cons (ee_ty Y.n_list) ea_nil))) (ee_one (ee_cmp (op_neX hu) o_neX (ee_ix hu (ee_var (i := 0)) ee_int) (ee_lst ea_nil)))))))⟩
theorem c_is_bound (Y : Facts K mg) : Cal P w K mg base "is_bound" s_is_bound ps_is_bound 6 m_is_bound := by
  have c_is_leaf := c_is_leaf (P := P) (w := w) (base := base) Y
  have c_is_node := c_is_node (P := P) (w := w) (base := base) Y
  obtain ⟨f, fd, hf, F⟩ := Y.f_is_bound
  refine ⟨f, fd, hf, F, fn_ok F sc_is_bound fun cdv A outer s H E hr => ?_⟩
  have hu := hr.units65
  exact ⟨_, (ess_cons (es_set (i := 1) sc_is_bound.nd (ee_lst (ea_cons (ee_var (i := 0)) ea_nil))) (ess_cons (es_while 1000000 PassesOwn.never (et_cmp (op_neX hu) o_neX (ee_var (i := 1)) (ee_lst ea_nil)) (ess_cons (es_pop (i := 2) (j := 1) sc_is_bound.nd) (ess_one (es_if (et_val (ee_cal c_is_node bd_is_node (hr.mono (by omega)) (ea_cons (ee_var (i := 2)) ea_nil))) (ess_one (es_set (i := 1) sc_is_bound.nd (ee_add (ee_var (i := 1)) (ee_ix hu (ee_var (i := 2)) ee_int)))) (ess_one (es_if (et_not (et_val (ee_cal c_is_leaf bd_is_leaf (hr.mono (by omega)) (ea_cons (ee_var (i := 2)) ea_nil)))) (ess_one (es_ret ee_bl)) ess_nil)))))) (ess_one (es_ret ee_bl))))⟩
theorem c_parts_of (Y : Facts K mg) : Cal P w K mg base "parts_of" s_parts_of ps_parts_of 1 m_parts_of := by
  obtain ⟨_, gm_WORDS, gr_WORDS⟩ := Y.gt_WORDS
  obtain ⟨f, fd, hf, F⟩ := Y.f_parts_of
  refine ⟨f, fd, hf, F, fn_ok F sc_parts_of fun cdv A outer s H E hr => ?_⟩
  have hu := hr.units65
  exact ⟨_, (ess_one (es_ret (ee_ife (et_cmp (op_inAll hu) o_in (ee_ix hu (ee_var (i := 0)) ee_int) (ee_gtupA gm_WORDS gr_WORDS)) (ee_ix hu (ee_var (i := 0)) ee_int) (ee_lst ea_nil))))⟩
theorem c_all_parts (Y : Facts K mg) : Cal P w K mg base "all_parts" s_all_parts ps_all_parts 2 m_all_parts := by
  have c_parts_of := c_parts_of (P := P) (w := w) (base := base) Y
  obtain ⟨f, fd, hf, F⟩ := Y.f_all_parts
  refine ⟨f, fd, hf, F, fn_ok F sc_all_parts fun cdv A outer s H E hr => ?_⟩
  have hu := hr.units65
  exact ⟨_, (ess_cons (es_par3 (i := 1) (j := 2) (l := 3) rfl sc_all_parts.nd (ea_cons (ee_lst (ea_cons (ee_var (i := 0)) ea_nil)) (ea_cons (ee_lst ea_nil) (ea_cons ee_int ea_nil)))) (ess_cons (es_while 1000000 PassesOwn.never (et_cmp op_ltAny o_lt (ee_var (i := 3)) (ee_fun cr_len n_len Y.n_len (ea_cons (ee_var (i := 1)) ea_nil))) (ess_cons (es_app (i := 2) (ee_fun cr_len n_len Y.n_len (ea_cons (ee_var (i := 1)) ea_nil)) (hp := mt_appP (pe_var (i := 2) rfl (by first | exact .inl rfl | exact .inr (.inl rfl) | exact .inr (.inr rfl))) (ee_fun cr_len n_len Y.n_len (ea_cons (ee_var (i := 1)) ea_nil)).pe)) (ess_cons (es_set (i := 1) sc_all_parts.nd (ee_add (ee_var (i := 1)) (ee_cal c_parts_of bd_parts_of (hr.mono (by omega)) (ea_cons (ee_ix hu (ee_var (i := 1)) (ee_var (i := 3))) ea_nil)))) (ess_one (es_set (i := 3) sc_all_parts.nd (ee_add (ee_var (i := 3)) ee_int)))))) (ess_one (es_ret (ee_tup (ea_cons (ee_var (i := 1)) (ea_cons (ee_var (i := 2)) ea_nil)))))))⟩
theorem c_steps_by_phases (Y : Facts K mg) : Cal P w K mg base "steps_by_phases" s_steps_by_phases ps_steps_by_phases 1 m_steps_by_phases := by
  obtain ⟨f, fd, hf, F⟩ := Y.f_steps_by_phases
  refine ⟨f, fd, hf, F, fn_ok F sc_steps_by_phases fun cdv A outer s H E hr => ?_⟩
  have hu := hr.units65
  exact ⟨_, (ess_cons (es_par (i := 1) (j := 2) rfl sc_steps_by_phases.nd (ea_cons ee_int (ea_cons (ee_typ (cr_list rfl) n_list Y.n_list (ea_cons (ee_var (i := 0)) ea_nil)) ea_nil))) (ess_cons (es_while 1000000 PassesOwn.never (et_cmp op_geAny o_ge (ee_ix hu (ee_var (i := 2)) (ee_un un_neg o_neg ee_int)) ee_int) (ess_cons (es_setComp (i := 2) (own := [("mine", 3), ("late", 4)]) rfl sc_steps_by_phases.nd (ei_zip Y.n_zip (ea_cons (ee_var (i := 2)) (ea_cons (ee_lstB (eb_cons ee_int (eb_star (ee_sl (ee_var (i := 2)) eo_no (eo_at (ee_un un_neg o_neg ee_int))) eb_nil))) ea_nil))) (blkOk_by (own := [("mine", 3), ("late", 4)]) (N := N_steps_by_phases) (sc := defScope s_steps_by_phases) (by decide +kernel)) (fun _ _ _ _ _ => (eg_tup rfl (egs_cons (eg_name (i := 3) sc_steps_by_phases.nd) (egs_cons (eg_name (i := 4) sc_steps_by_phases.nd) egs_nil)) (gConsD_len (gConsD_len gNilD_len)))) (fun _ _ _ _ _ => ets_nil) (fun _ _ _ _ _ => (ee_op op_sub o_sub (ee_add (ee_var (i := 3)) (ee_var (i := 4))) ee_int))) (ess_one (es_set (i := 1) sc_steps_by_phases.nd (ee_add (ee_var (i := 1)) ee_int))))) (ess_one (es_retV (i := 1)))))⟩
theorem c_joined (Y : Facts K mg) : Cal P w K mg base "joined" s_joined ps_joined 2 m_joined := by
  have c_steps_by_phases := c_steps_by_phases (P := P) (w := w) (base := base) Y
  obtain ⟨f, fd, hf, F⟩ := Y.f_joined
  refine ⟨f, fd, hf, F, fn_ok F sc_joined fun cdv A outer s H E hr => ?_⟩
  have hu := hr.units65
  exact ⟨_, (ess_cons (es_if (et_cmp (op_eqX hu) o_eqX (ee_var (i := 0)) ee_str) (ess_one (es_ret (ee_cal c_steps_by_phases bd_steps_by_phases (hr.mono (by omega)) (ea_cons (ee_var (i := 1)) ea_nil)))) ess_nil) (ess_cons (es_if (et_cmp (op_eqX hu) o_eqX (ee_var (i := 0)) ee_str) (ess_one (es_ret (ee_fun (cr_max rfl) n_max1 Y.n_max (ea_cons (ee_var (i := 1)) ea_nil)))) ess_nil) (ess_cons (es_set (i := 2) sc_joined.nd (ee_ife (et_cmp (op_eqX hu) o_eqX (ee_var (i := 0)) ee_str) ee_int ee_int)) (ess_cons (es_for rfl PassesOwn.never (ei_seq (ee_var (i := 1))) (eg_name (i := 3) sc_joined.nd) (ess_one (es_set (i := 2) sc_joined.nd (ee_ife (et_cmp (op_eqX hu) o_eqX (ee_var (i := 0)) ee_str) (ee_add (ee_var (i := 2)) (ee_var (i := 3))) (ee_op op_mulAny o_mul (ee_var (i := 2)) (ee_var (i := 3))))))) (ess_one (es_retV (i := 2)))))))⟩
theorem c_value_at (Y : Facts K mg) : Cal P w K mg base "value_at" s_value_at ps_value_at 1 m_value_at := by
  obtain ⟨f, fd, hf, F⟩ := Y.f_value_at
  refine ⟨f, fd, hf, F, fn_ok F sc_value_at fun cdv A outer s H E hr => ?_⟩
  have hu := hr.units65
  exact ⟨_, (ess_one (es_ret (ee_add (ee_ix hu (ee_var (i := 0)) ee_int) (ee_fun (cr_sum rfl) n_sum Y.n_sum (ea_cons (ee_comp (own := [("name", 2), ("factor", 3)]) rfl sc_value_at.nd (ei_seq (ee_ix hu (ee_var (i := 0)) ee_int)) (blkOk_by (own := [("name", 2), ("factor", 3)]) (N := N_value_at) (sc := defScope s_value_at) (by decide +kernel)) (fun _ _ _ _ _ => (eg_tup rfl (egs_cons (eg_name (i := 2) sc_value_at.nd) (egs_cons (eg_name (i := 3) sc_value_at.nd) egs_nil)) (gConsD_len (gConsD_len gNilD_len)))) (fun _ _ _ _ _ => ets_nil) (fun _ _ _ _ _ => (ee_op op_mulAny o_mul (ee_var (i := 3)) (ee_ix hu (ee_var (i := 1)) (ee_var (i := 2)))))) ea_nil)))))⟩
theorem c_leaf_at (Y : Facts K mg) : Cal P w K mg base "leaf_at" s_leaf_at ps_leaf_at 2 m_leaf_at := by
  have c_value_at := c_value_at (P := P) (w := w) (base := base) Y
  obtain ⟨f, fd, hf, F⟩ := Y.f_leaf_at
  refine ⟨f, fd, hf, F, fn_ok F sc_leaf_at fun cdv A outer s H E hr => ?_⟩
  have hu := hr.units65
  exact ⟨_, (ess_one (es_ret (ee_ife (et_cmp (op_eqX hu) o_eqX (ee_ix hu (ee_var (i := 0)) ee_int) ee_str) (ee_ix hu (ee_var (i := 0)) ee_int) (ee_op op_fdivAny o_fdiv (ee_fun (call_max2 rfl) n_max2 Y.n_max (ea_cons ee_int (ea_cons (ee_cal c_value_at bd_value_at (hr.mono (by omega)) (ea_cons (ee_ix hu (ee_var (i := 0)) ee_int) (ea_cons (ee_var (i := 1)) ea_nil))) ea_nil))) (ee_ix hu (ee_var (i := 0)) ee_int)))))⟩
theorem c_value_there (Y : Facts K mg) : Cal P w K mg base "value_there" s_value_there ps_value_there 3 m_value_there := by
  have c_parts_of := c_parts_of (P := P) (w := w) (base := base) Y
  have c_all_parts := c_all_parts (P := P) (w := w) (base := base) Y
  have c_joined := c_joined (P := P) (w := w) (base := base) Y
  have c_leaf_at := c_leaf_at (P := P) (w := w) (base := base) Y
  obtain ⟨f, fd, hf, F⟩ := Y.f_value_there
  refine ⟨f, fd, hf, F, fn_ok F sc_value_there fun cdv A outer s H E hr => ?_⟩
  have hu := hr.units65
  exact ⟨_, (ess_cons (es_asg (ee_cal c_all_parts bd_all_parts (hr.mono (by omega)) (ea_cons (ee_var (i := 0)) ea_nil)) (eg_tup rfl (egs_cons (eg_name (i := 2) sc_value_there.nd) (egs_cons (eg_name (i := 3) sc_value_there.nd) egs_nil)) (gConsD_len (gConsD_len gNilD_len)))) (ess_cons (es_set (i := 4) sc_value_there.nd (ee_op op_mulAny o_mul (ee_lst (ea_cons ee_int ea_nil)) (ee_fun cr_len n_len Y.n_len (ea_cons (ee_var (i := 2)) ea_nil)))) (ess_cons (es_for rfl PassesOwn.never (ei_rg3 Y.n_range (ea_cons (ee_op op_sub o_sub (ee_fun cr_len n_len Y.n_len (ea_cons (ee_var (i := 2)) ea_nil)) ee_int) (ea_cons (ee_un un_neg o_neg ee_int) (ea_cons (ee_un un_neg o_neg ee_int) ea_nil)))) (eg_name (i := 5) sc_value_there.nd) (ess_cons (es_par (i := 6) (j := 7) rfl sc_value_there.nd (ea_cons (ee_ix hu (ee_var (i := 2)) (ee_var (i := 5))) (ea_cons (ee_fun cr_len n_len Y.n_len (ea_cons (ee_cal c_parts_of bd_parts_of (hr.mono (by omega)) (ea_cons (ee_ix hu (ee_var (i := 2)) (ee_var (i := 5))) ea_nil)) ea_nil)) ea_nil))) (ess_one (es_if (et_cmp (op_eqX hu) o_eqX (ee_var (i := 7)) ee_int) (ess_one (es_ix (i := 4) (ee_cal c_leaf_at bd_leaf_at (hr.mono (by omega)) (ea_cons (ee_var (i := 6)) (ea_cons (ee_var (i := 1)) ea_nil))) (ee_var (i := 5)))) (ess_one (es_ix (i := 4) (ee_cal c_joined bd_joined (hr.mono (by omega)) (ea_cons (ee_ix hu (ee_var (i := 6)) ee_int) (ea_cons (ee_sl (ee_var (i := 4)) (eo_at (ee_ix hu (ee_var (i := 3)) (ee_var (i := 5)))) (eo_at (ee_add (ee_ix hu (ee_var (i := 3)) (ee_var (i := 5))) (ee_var (i := 7))))) ea_nil))) (ee_var (i := 5)))))))) (ess_one (es_ret (ee_ix hu (ee_var (i := 4)) ee_int))))))⟩
theorem c_names_in (Y : Facts K mg) : Cal P w K mg base "names_in" s_names_in ps_names_in 1 m_names_in := by
  obtain ⟨f, fd, hf, F⟩ := Y.f_names_in
  refine ⟨f, fd, hf, F, fn_ok F sc_names_in fun cdv A outer s H E hr => ?_⟩
  have hu := hr.units65
  exact ⟨_, (ess_one (es_ret (ee_comp (own := [("name", 1), ("factor", 2)]) rfl sc_names_in.nd (ei_seq (ee_ix hu (ee_var (i := 0)) ee_int)) (blkOk_by (own := [("name", 1), ("factor", 2)]) (N := N_names_in) (sc := defScope s_names_in) (by decide +kernel)) (fun _ _ _ _ _ => (eg_tup rfl (egs_cons (eg_name (i := 1) sc_names_in.nd) (egs_cons (eg_name (i := 2) sc_names_in.nd) egs_nil)) (gConsD_len (gConsD_len gNilD_len)))) (fun _ _ _ _ _ => ets_nil) (fun _ _ _ _ _ => (ee_var (i := 1))))))⟩
theorem c_names_of_bound (Y : Facts K mg) : Cal P w K mg base "names_of_bound" s_names_of_bound ps_names_of_bound 3 m_names_of_bound := by
  have c_names_in := c_names_in (P := P) (w := w) (base := base) Y
  have c_all_parts := c_all_parts (P := P) (w := w) (base := base) Y
  obtain ⟨f, fd, hf, F⟩ := Y.f_names_of_bound
  refine ⟨f, fd, hf, F, fn_ok F sc_names_of_bound fun cdv A outer s H E hr => ?_⟩
  have hu := hr.units65
  exact ⟨_, (ess_cons (es_setComp (i := 1) (own := [("here", 2)]) rfl sc_names_of_bound.nd (ei_seq (ee_ix hu (ee_cal c_all_parts bd_all_parts (hr.mono (by omega)) (ea_cons (ee_var (i := 0)) ea_nil)) ee_int)) (blkOk_by (own := [("here", 2)]) (N := N_names_of_bound) (sc := defScope s_names_of_bound) (by decide +kernel)) (fun _ _ _ _ _ => (eg_name (i := 2) sc_names_of_bound.nd)) (fun _ _ _ _ _ => (ets_one (et_cmp (op_eqX hu) o_eqX (ee_ix hu (ee_var (i := 2)) ee_int) ee_str))) (fun _ _ _ _ _ => (ee_ix hu (ee_var (i := 2)) ee_int))) (ess_one (es_ret (ee_fun (cr_sortAll rfl hu) n_sorted Y.n_sorted (ea_cons (ee_compD2 (own := [("form", 3), ("name", 4)]) (vs1 := [4]) rfl sc_names_of_bound.nd (ei_seq (ee_var (i := 1))) (blkOk_by (own := [("form", 3), ("name", 4)]) (N := N_names_of_bound) (sc := defScope s_names_of_bound) (by decide +kernel)) (by decide) (fun _ _ _ _ _ => (eg_name (i := 3) sc_names_of_bound.nd)) (fun _ _ _ _ _ => ets_nil) (fun _ _ _ _ _ => (ei_seq (ee_cal c_names_in bd_names_in (hr.mono (by omega)) (ea_cons (ee_var (i := 3)) ea_nil)))) (fun _ _ _ _ _ => (eg_name (i := 4) sc_names_of_bound.nd)) (fun _ _ _ _ _ => ets_nil) (fun _ _ _ _ _ => (ee_var (i := 4))) (fun _ _ _ _ _ => ee_bl)) ea_nil)))))⟩
theorem c_are_told (Y : Facts K mg) : Cal P w K mg base "are_told" s_are_told ps_are_told 4 m_are_told := by
  have c_is_whole := c_is_whole (P := P) (w := w) (base := base) Y
  have c_is_tuple_of := c_is_tuple_of (P := P) (w := w) (base := base) Y
  have c_is_name := c_is_name (P := P) (w := w) (base := base) Y
  obtain ⟨f, fd, hf, F⟩ := Y.f_are_told
  refine ⟨f, fd, hf, F, fn_ok F sc_are_told fun cdv A outer s H E hr => ?_⟩
  have hu := hr.units65
  exact ⟨_, (ess_cons (es_if (ew_or (et_not (et_val (ee_fun cr_isi n_isi Y.n_isinstance (ea_cons (ee_var (i := 0)) (ea_cons (ee_ty Y.n_list) ea_nil))))) (ew_or1 (et_not (et_val (ee_fun (cr_all rfl) n_all Y.n_all (ea_cons (ee_comp (own := [("part", 1)]) rfl sc_are_told.nd (ei_seq (ee_var (i := 0))) (blkOk_by (own := [("part", 1)]) (N := N_are_told) (sc := defScope s_are_told) (by decide +kernel)) (fun _ _ _ _ _ => (eg_name (i := 1) sc_are_told.nd)) (fun _ _ _ _ _ => ets_nil) (fun _ _ _ _ _ => (ee_and (ee_cal c_is_tuple_of bd_is_tuple_of (hr.mono (by omega)) (ea_cons (ee_var (i := 1)) (ea_cons ee_int ea_nil))) (ee_one (ee_cal c_is_whole bd_is_whole (hr.mono (by omega)) (ea_cons (ee_ix hu (ee_var (i := 1)) ee_int) ea_nil)))))) ea_nil)))))).et (ess_one (es_ret ee_bl)) ess_nil) (ess_cons (es_if (et_not (et_val (ee_fun (cr_all rfl) n_all Y.n_all (ea_cons (ee_comp (own := [("part", 1)]) rfl sc_are_told.nd (ei_seq (ee_var (i := 0))) (blkOk_by (own := [("part", 1)]) (N := N_are_told) (sc := defScope s_are_told) (by decide +kernel)) (fun _ _ _ _ _ => (eg_name (i := 1) sc_are_told.nd)) (fun _ _ _ _ _ => ets_nil) (fun _ _ _ _ _ => (ee_cal c_is_name bd_is_name (hr.mono (by omega)) (ea_cons (ee_ix hu (ee_var (i := 1)) ee_int) ea_nil)))) ea_nil)))) (ess_one (es_ret ee_bl)) ess_nil) (ess_one (es_ret (ee_fun (cr_all rfl) n_all Y.n_all (ea_cons (ee_comp (own := [("one", 2), ("late", 3)]) rfl sc_are_told.nd (ei_zip Y.n_zip (ea_cons (ee_var (i := 0)) (ea_cons (ee_sl (ee_var (i := 0)) (eo_at ee_int) eo_no) ea_nil))) (blkOk_by (own := [("one", 2), ("late", 3)]) (N := N_are_told) (sc := defScope s_are_told) (by decide +kernel)) (fun _ _ _ _ _ => (eg_tup rfl (egs_cons (eg_name (i := 2) sc_are_told.nd) (egs_cons (eg_name (i := 3) sc_are_told.nd) egs_nil)) (gConsD_len (gConsD_len gNilD_len)))) (fun _ _ _ _ _ => ets_nil) (fun _ _ _ _ _ => (ee_cmp op_ltAny o_lt (ee_ix hu (ee_var (i := 2)) ee_int) (ee_ix hu (ee_var (i := 3)) ee_int)))) ea_nil))))))⟩
theorem c_bound_at (Y : Facts K mg) : Cal P w K mg base "bound_at" s_bound_at ps_bound_at 7 m_bound_at := by
  have c_is_bound := c_is_bound (P := P) (w := w) (base := base) Y
  have c_value_there := c_value_there (P := P) (w := w) (base := base) Y
  have c_names_of_bound := c_names_of_bound (P := P) (w := w) (base := base) Y
  have c_are_told := c_are_told (P := P) (w := w) (base := base) Y
  obtain ⟨f, fd, hf, F⟩ := Y.f_bound_at
  refine ⟨f, fd, hf, F, fn_ok F sc_bound_at fun cdv A outer s H E hr => ?_⟩
  have hu := hr.units65
  exact ⟨_, (ess_cons (es_if (et_not (et_val (ee_cal c_is_bound bd_is_bound (hr.mono (by omega)) (ea_cons (ee_var (i := 0)) ea_nil)))) ess_never ess_nil) (ess_cons (es_if (ew_or (et_not (et_val (ee_cal c_are_told bd_are_told (hr.mono (by omega)) (ea_cons (ee_var (i := 1)) ea_nil)))) (ew_or1 (et_not (et_val (ee_fun (cr_all rfl) n_all Y.n_all (ea_cons (ee_comp (own := [("name", 2)]) rfl sc_bound_at.nd (ei_seq (ee_cal c_names_of_bound bd_names_of_bound (hr.mono (by omega)) (ea_cons (ee_var (i := 0)) ea_nil))) (blkOk_by (own := [("name", 2)]) (N := N_bound_at) (sc := defScope s_bound_at) (by decide +kernel)) (fun _ _ _ _ _ => (eg_name (i := 2) sc_bound_at.nd)) (fun _ _ _ _ _ => ets_nil) (fun _ _ _ _ _ => (ee_cmp (op_inAll hu) o_in (ee_var (i := 2)) (ee_typ (cr_dict rfl) n_dict Y.n_dict (ea_cons (ee_var (i := 1)) ea_nil))))) ea_nil)))))).et ess_never ess_nil) (ess_one (es_ret (ee_cal c_value_there bd_value_there (hr.mono (by omega)) (ea_cons (ee_var (i := 0)) (ea_cons (ee_typ (cr_dict rfl) n_dict Y.n_dict (ea_cons (ee_var (i := 1)) ea_nil)) ea_nil)))))))⟩
theorem cc_law_exact (Y : Facts K mg) (n : Nat) : Cal P w K mg base "_law_exact" s_law_exact ps_law_exact (1 + n) (m_law_exact n) := by
  induction n with
  | zero => obtain ⟨f, fd, hf, F⟩ := Y.f_law_exact; exact ⟨f, fd, hf, F, fn_none⟩
  | succ n ih =>
    have c_law_exact := ih
    obtain ⟨f, fd, hf, F⟩ := Y.f_law_exact
    refine ⟨f, fd, hf, F, fn_ok (k := 1 + n) F sc_law_exact fun cdv A outer s H E hr => ?_⟩
    have hu := hr.units65
    exact ⟨_, (ess_cons (es_if (et_val (ee_fun cr_isi n_isi Y.n_isinstance (ea_cons (ee_var (i := 1)) (ea_cons (ee_ty Y.n_dict) ea_nil)))) ess_never ess_nil) (ess_cons (es_if (et_val (ee_fun cr_isi n_isi Y.n_isinstance (ea_cons (ee_var (i := 1)) (ea_cons (ee_tup (ea_cons (ee_ty Y.n_list) (ea_cons (ee_ty Y.n_tuple) ea_nil))) ea_nil)))) (ess_cons (es_set (i := 2) sc_law_exact.nd (ee_and (ee_cmp (op_eqX hu) o_eqX (ee_fun cr_isi n_isi Y.n_isinstance (ea_cons (ee_var (i := 0)) (ea_cons (ee_ty Y.n_list) ea_nil))) (ee_fun cr_isi n_isi Y.n_isinstance (ea_cons (ee_var (i := 1)) (ea_cons (ee_ty Y.n_list) ea_nil)))) (ee_one (ee_cmp (op_eqX hu) o_eqX (ee_fun cr_isi n_isi Y.n_isinstance (ea_cons (ee_var (i := 0)) (ea_cons (ee_ty Y.n_tuple) ea_nil))) (ee_fun cr_isi n_isi Y.n_isinstance (ea_cons (ee_var (i := 1)) (ea_cons (ee_ty Y.n_tuple) ea_nil))))))) (ess_one (es_ret (ee_and (ee_var (i := 2)) (ee_and (ee_cmp (op_eqX hu) o_eqX (ee_fun cr_len n_len Y.n_len (ea_cons (ee_var (i := 0)) ea_nil)) (ee_fun cr_len n_len Y.n_len (ea_cons (ee_var (i := 1)) ea_nil))) (ee_one (ee_fun (cr_all rfl) n_all Y.n_all (ea_cons (ee_comp (own := [("one", 4), ("other", 5)]) rfl sc_law_exact.nd (ei_zip Y.n_zip (ea_cons (ee_var (i := 0)) (ea_cons (ee_var (i := 1)) ea_nil))) (blkOk_by (own := [("one", 4), ("other", 5)]) (N := N_law_exact) (sc := defScope s_law_exact) (by decide +kernel)) (fun _ _ _ _ _ => (eg_tup rfl (egs_cons (eg_name (i := 4) sc_law_exact.nd) (egs_cons (eg_name (i := 5) sc_law_exact.nd) egs_nil)) (gConsD_len (gConsD_len gNilD_len)))) (fun _ _ _ _ _ => ets_nil) (fun _ _ _ _ _ => (ee_cal c_law_exact bd_law_exact (hr.mono (by omega)) (ea_cons (ee_var (i := 4)) (ea_cons (ee_var (i := 5)) ea_nil))))) ea_nil)))))))) ess_nil) (ess_cons (es_set (i := 2) sc_law_exact.nd (ee_and (ee_not (ee_fun cr_isi n_isi Y.n_isinstance (ea_cons (ee_var (i := 0)) (ea_cons (ee_tup (ea_cons (ee_ty Y.n_list) (ea_cons (ee_ty Y.n_tuple) (ea_cons (ee_ty Y.n_dict) ea_nil)))) ea_nil)))) (ee_and (ee_cmp (op_eqX hu) o_eqX (ee_fun cr_isi n_isi Y.n_isinstance (ea_cons (ee_var (i := 0)) (ea_cons (ee_ty Y.n_int) ea_nil))) (ee_fun cr_isi n_isi Y.n_isinstance (ea_cons (ee_var (i := 1)) (ea_cons (ee_ty Y.n_int) ea_nil)))) (ee_one (ee_cmp (op_eqX hu) o_eqX (ee_fun cr_isi n_isi Y.n_isinstance (ea_cons (ee_var (i := 0)) (ea_cons (ee_ty Y.n_str) ea_nil))) (ee_fun cr_isi n_isi Y.n_isinstance (ea_cons (ee_var (i := 1)) (ea_cons (ee_ty Y.n_str) ea_nil)))))))) (ess_one (es_ret (ee_and (ee_var (i := 2)) (ee_and (ee_cmp (op_eqX hu) o_eqX (ee_cmp op_isAny o_is (ee_var (i := 0)) ee_non) (ee_cmp op_isAny o_is (ee_var (i := 1)) ee_non)) (ee_and (ee_cmp (op_eqX hu) o_eqX (ee_fun cr_isi n_isi Y.n_isinstance (ea_cons (ee_var (i := 0)) (ea_cons (ee_ty Y.n_bool) ea_nil))) (ee_fun cr_isi n_isi Y.n_isinstance (ea_cons (ee_var (i := 1)) (ea_cons (ee_ty Y.n_bool) ea_nil)))) (ee_one (ee_cmp (op_eqX hu) o_eqX (ee_var (i := 0)) (ee_var (i := 1))))))))))))⟩
theorem c_law_exact (Y : Facts K mg) : Cal P w K mg base "_law_exact" s_law_exact ps_law_exact 41 (m_law_exact FU) := cc_law_exact Y FU
theorem c_law_purse (Y : Facts K mg) : Cal P w K mg base "_law_purse" s_law_purse ps_law_purse 1 m_law_purse := by
  obtain ⟨f, fd, hf, F⟩ := Y.f_law_purse
  refine ⟨f, fd, hf, F, fn_ok F sc_law_purse fun cdv A outer s H E hr => ?_⟩
  have hu := hr.units65
  exact ⟨_, (ess_cons (es_set (i := 2) sc_law_purse.nd (ee_fun (cr_sum rfl) n_sum Y.n_sum (ea_cons (ee_sl (ee_var (i := 0)) (eo_at (ee_var (i := 1))) (eo_at (ee_add (ee_var (i := 1)) ee_int))) ea_nil))) (ess_one (es_ret (ee_cell (ea_cons (ee_op op_modAny o_mod (ee_typ call_int1 n_int Y.n_int (ea_cons (ee_fun (call_max2 rfl) n_max2 Y.n_max (ea_cons (ee_op op_sub o_sub (ee_var (i := 2)) (ee_op op_powW o_pow ee_int ee_int)) (ea_cons ee_int ea_nil))) ea_nil)) (ee_op op_powW o_pow (ee_op op_powW o_pow ee_int ee_int) ee_int)) (ea_cons (ee_op op_modAny o_mod (ee_typ call_int1 n_int Y.n_int (ea_cons (ee_var (i := 2)) ea_nil)) ee_int) (ea_cons ee_int (ea_cons (ee_var (i := 1)) ea_nil))))))))⟩
theorem c_law_purses (Y : Facts K mg) : Cal P w K mg base "_law_purses" s_law_purses ps_law_purses 2 m_law_purses := by
  have c_law_purse := c_law_purse (P := P) (w := w) (base := base) Y
  obtain ⟨f, fd, hf, F⟩ := Y.f_law_purses
  refine ⟨f, fd, hf, F, fn_ok F sc_law_purses fun cdv A outer s H E hr => ?_⟩
  have hu := hr.units65
  exact ⟨_, (ess_one (es_ret (ee_comp (own := [("at", 2)]) rfl sc_law_purses.nd (ei_rg1 Y.n_range (ea_cons (ee_fun (call_max2 rfl) n_max2 Y.n_max (ea_cons ee_int (ea_cons (ee_fun (call_min2 rfl) n_min2 Y.n_min (ea_cons (ee_var (i := 1)) (ea_cons (ee_fun cr_len n_len Y.n_len (ea_cons (ee_var (i := 0)) ea_nil)) ea_nil))) ea_nil))) ea_nil)) (blkOk_by (own := [("at", 2)]) (N := N_law_purses) (sc := defScope s_law_purses) (by decide +kernel)) (fun _ _ _ _ _ => (eg_name (i := 2) sc_law_purses.nd)) (fun _ _ _ _ _ => ets_nil) (fun _ _ _ _ _ => (ee_cal c_law_purse bd_law_purse (hr.mono (by omega)) (ea_cons (ee_var (i := 0)) (ea_cons (ee_var (i := 2)) ea_nil)))))))⟩
theorem c_law_mixed (Y : Facts K mg) : Cal P w K mg base "_law_mixed" s_law_mixed ps_law_mixed 1 m_law_mixed := by
  obtain ⟨f, fd, hf, F⟩ := Y.f_law_mixed
  refine ⟨f, fd, hf, F, fn_ok F sc_law_mixed fun cdv A outer s H E hr => ?_⟩
  have hu := hr.units65
  exact ⟨_, (ess_cons (es_set (i := 3) sc_law_mixed.nd (ee_add (ee_op op_mulAny o_mul (ee_var (i := 0)) ee_int) (ee_op op_mulAny o_mul (ee_op op_mulAny o_mul ee_int (ee_var (i := 1))) (ee_var (i := 1))))) (ess_cons (es_set (i := 3) sc_law_mixed.nd (ee_op op_modAny o_mod (ee_typ call_int1 n_int Y.n_int (ea_cons (ee_add (ee_add (ee_var (i := 3)) (ee_op op_mulAny o_mul ee_int (ee_var (i := 2)))) (ee_var (i := 1))) ea_nil)) ee_int)) (ess_cons (es_set (i := 3) sc_law_mixed.nd (ee_op op_modAny o_mod (ee_typ call_int1 n_int Y.n_int (ea_cons (ee_add (ee_op op_mulAny o_mul (ee_var (i := 3)) (ee_var (i := 3))) ee_int) ea_nil)) ee_int)) (ess_one (es_ret (ee_op op_modAny o_mod (ee_typ call_int1 n_int Y.n_int (ea_cons (ee_op op_mulAny o_mul (ee_var (i := 3)) ee_int) ea_nil)) ee_int))))))⟩
theorem c_law_draw (Y : Facts K mg) : Cal P w K mg base "_law_draw" s_law_draw ps_law_draw 2 m_law_draw := by
  have c_law_mixed := c_law_mixed (P := P) (w := w) (base := base) Y
  obtain ⟨f, fd, hf, F⟩ := Y.f_law_draw
  refine ⟨f, fd, hf, F, fn_ok F sc_law_draw fun cdv A outer s H E hr => ?_⟩
  have hu := hr.units65
  exact ⟨_, (ess_cons (es_if (et_cmp op_gtAny o_gt (ee_ix hu (ee_var (i := 0)) ee_int) ee_int) (ess_cons (es_set (i := 2) sc_law_draw.nd (ee_op op_modAny o_mod (ee_typ call_int1 n_int Y.n_int (ea_cons (ee_ix hu (ee_var (i := 0)) ee_int) ea_nil)) (ee_var (i := 1)))) (ess_cons (es_ix (i := 0) (ee_op op_fdivAny o_fdiv (ee_ix hu (ee_var (i := 0)) ee_int) (ee_var (i := 1))) ee_int) (ess_one (es_retV (i := 2))))) ess_nil) (ess_cons (es_set (i := 3) sc_law_draw.nd ee_int) (ess_cons (es_for rfl PassesOwn.never (ei_rg1 Y.n_range (ea_cons (ee_add ee_int (ee_op op_fdivAny o_fdiv (ee_bits (ee_var (i := 1))) ee_int)) ea_nil)) (eg_name (i := 4) sc_law_draw.nd) (ess_cons (es_ix (i := 0) (ee_add (ee_ix hu (ee_var (i := 0)) ee_int) ee_int) ee_int) (ess_one (es_set (i := 3) sc_law_draw.nd (ee_add (ee_op op_mulAny o_mul (ee_var (i := 3)) ee_int) (ee_cal c_law_mixed bd_law_mixed (hr.mono (by omega)) (ea_cons (ee_ix hu (ee_var (i := 0)) ee_int) (ea_cons (ee_ix hu (ee_var (i := 0)) ee_int) (ea_cons (ee_ix hu (ee_var (i := 0)) ee_int) ea_nil))))))))) (ess_one (es_ret (ee_op op_modAny o_mod (ee_typ call_int1 n_int Y.n_int (ea_cons (ee_var (i := 3)) ea_nil)) (ee_var (i := 1))))))))⟩
theorem c_law_one_of (Y : Facts K mg) : Cal P w K mg base "_law_one_of" s_law_one_of ps_law_one_of 3 m_law_one_of := by
  have c_law_draw := c_law_draw (P := P) (w := w) (base := base) Y
  obtain ⟨f, fd, hf, F⟩ := Y.f_law_one_of
  refine ⟨f, fd, hf, F, fn_ok F sc_law_one_of fun cdv A outer s H E hr => ?_⟩
  have hu := hr.units65
  exact ⟨_, (ess_one (es_ret (ee_ix hu (ee_var (i := 1)) (ee_cal c_law_draw bd_law_draw (hr.mono (by omega)) (ea_cons (ee_var (i := 0)) (ea_cons (ee_fun cr_len n_len Y.n_len (ea_cons (ee_var (i := 1)) ea_nil)) ea_nil))))))⟩
theorem c_law_form (Y : Facts K mg) : Cal P w K mg base "_law_form" s_law_form ps_law_form 1 m_law_form := by
  obtain ⟨f, fd, hf, F⟩ := Y.f_law_form
  refine ⟨f, fd, hf, F, fn_ok F sc_law_form fun cdv A outer s H E hr => ?_⟩
  have hu := hr.units65
  exact ⟨_, (ess_cons (es_set (i := 2) sc_law_form.nd ee_newK) (ess_cons (es_for rfl PassesOwn.never (ei_seq (ee_var (i := 1))) (eg_tup rfl (egs_cons (eg_name (i := 3) sc_law_form.nd) (egs_cons (eg_name (i := 4) sc_law_form.nd) egs_nil)) (gConsD_len (gConsD_len gNilD_len))) (ess_one (es_put (i := 2) hu (ee_add (ee_get2 hu (ee_var (i := 2)) (ee_var (i := 3)) ee_int) (ee_var (i := 4))) (ee_var (i := 3))))) (ess_one (es_ret (ee_tup (ea_cons (ee_var (i := 0)) (ea_cons (ee_typ call_tuple_ofP n_tuple Y.n_tuple (ea_cons (ee_comp (own := [("name", 3)]) rfl sc_law_form.nd (ei_seq (ee_fun (cr_sortAll rfl hu) n_sorted Y.n_sorted (ea_cons (ee_var (i := 2)) ea_nil))) (blkOk_by (own := [("name", 3)]) (N := N_law_form) (sc := defScope s_law_form) (by decide +kernel)) (fun _ _ _ _ _ => (eg_name (i := 3) sc_law_form.nd)) (fun _ _ _ _ _ => (ets_one (et_cmp (op_neX hu) o_neX (ee_ix hu (ee_var (i := 2)) (ee_var (i := 3))) ee_int))) (fun _ _ _ _ _ => (ee_tup (ea_cons (ee_var (i := 3)) (ea_cons (ee_ix hu (ee_var (i := 2)) (ee_var (i := 3))) ea_nil))))) ea_nil)) ea_nil)))))))⟩
theorem c_law_drawn_form (Y : Facts K mg) : Cal P w K mg base "_law_drawn_form" s_law_drawn_form ps_law_drawn_form 4 m_law_drawn_form := by
  have c_law_draw := c_law_draw (P := P) (w := w) (base := base) Y
  have c_law_one_of := c_law_one_of (P := P) (w := w) (base := base) Y
  have c_law_form := c_law_form (P := P) (w := w) (base := base) Y
  obtain ⟨f, fd, hf, F⟩ := Y.f_law_drawn_form
  refine ⟨f, fd, hf, F, fn_ok F sc_law_drawn_form fun cdv A outer s H E hr => ?_⟩
  have hu := hr.units65
  exact ⟨_, (ess_cons (es_setComp (i := 3) (own := [("spin", 4)]) rfl sc_law_drawn_form.nd (ei_rg1 Y.n_range (ea_cons (ee_cal c_law_draw bd_law_draw (hr.mono (by omega)) (ea_cons (ee_var (i := 0)) (ea_cons ee_int ea_nil))) ea_nil)) (blkOk_by (own := [("spin", 4)]) (N := N_law_drawn_form) (sc := defScope s_law_drawn_form) (by decide +kernel)) (fun _ _ _ _ _ => (eg_name (i := 4) sc_law_drawn_form.nd)) (fun _ _ _ _ _ => ets_nil) (fun _ _ _ _ _ => (ee_tup (ea_cons (ee_cal c_law_one_of bd_law_one_of (hr.mono (by omega)) (ea_cons (ee_var (i := 0)) (ea_cons (ee_var (i := 1)) ea_nil))) (ea_cons (ee_cal c_law_one_of bd_law_one_of (hr.mono (by omega)) (ea_cons (ee_var (i := 0)) (ea_cons (ee_lst (ea_cons ee_int (ea_cons ee_int (ea_cons ee_int (ea_cons (ee_op op_sub o_sub ee_int ee_int) (ea_cons (ee_op op_sub o_sub ee_int ee_int) (ea_cons ee_int ea_nil))))))) ea_nil))) ea_nil))))) (ess_one (es_ret (ee_cal c_law_form bd_law_form (hr.mono (by omega)) (ea_cons (ee_op op_sub o_sub (ee_cal c_law_draw bd_law_draw (hr.mono (by omega)) (ea_cons (ee_var (i := 0)) (ea_cons (ee_add (ee_op op_mulAny o_mul ee_int (ee_var (i := 2))) ee_int) ea_nil))) (ee_var (i := 2))) (ea_cons (ee_var (i := 3)) ea_nil))))))⟩
theorem c_law_leaf (Y : Facts K mg) : Cal P w K mg base "_law_leaf" s_law_leaf ps_law_leaf 5 m_law_leaf := by
  have c_law_draw := c_law_draw (P := P) (w := w) (base := base) Y
  have c_law_drawn_form := c_law_drawn_form (P := P) (w := w) (base := base) Y
  obtain ⟨f, fd, hf, F⟩ := Y.f_law_leaf
  refine ⟨f, fd, hf, F, fn_ok F sc_law_leaf fun cdv A outer s H E hr => ?_⟩
  have hu := hr.units65
  exact ⟨_, (ess_cons (es_if (et_cmp (op_eqX hu) o_eqX (ee_cal c_law_draw bd_law_draw (hr.mono (by omega)) (ea_cons (ee_var (i := 0)) (ea_cons ee_int ea_nil))) ee_int) (ess_one (es_ret (ee_tup (ea_cons ee_str (ea_cons (ee_cal c_law_draw bd_law_draw (hr.mono (by omega)) (ea_cons (ee_var (i := 0)) (ea_cons ee_int ea_nil))) ea_nil))))) ess_nil) (ess_one (es_ret (ee_tup (ea_cons ee_str (ea_cons (ee_cal c_law_drawn_form bd_law_drawn_form (hr.mono (by omega)) (ea_cons (ee_var (i := 0)) (ea_cons (ee_lst (ea_cons ee_str (ea_cons ee_str ea_nil))) (ea_cons ee_int ea_nil)))) (ea_cons (ee_add ee_int (ee_cal c_law_draw bd_law_draw (hr.mono (by omega)) (ea_cons (ee_var (i := 0)) (ea_cons ee_int ea_nil)))) ea_nil)))))))⟩
theorem cc_law_bound (Y : Facts K mg) (n : Nat) : Cal P w K mg base "_law_bound" s_law_bound ps_law_bound (6 + n) (m_law_bound n) := by
  have c_law_draw := c_law_draw (P := P) (w := w) (base := base) Y
  have c_law_leaf := c_law_leaf (P := P) (w := w) (base := base) Y
  induction n with
  | zero => obtain ⟨f, fd, hf, F⟩ := Y.f_law_bound; exact ⟨f, fd, hf, F, fn_none⟩
  | succ n ih =>
    have c_law_bound := ih
    obtain ⟨f, fd, hf, F⟩ := Y.f_law_bound
    refine ⟨f, fd, hf, F, fn_ok (k := 6 + n) F sc_law_bound fun cdv A outer s H E hr => ?_⟩
    have hu := hr.units65
    exact ⟨_, (ess_cons (es_set (i := 2) sc_law_bound.nd (ee_cal c_law_draw bd_law_draw (hr.mono (by omega)) (ea_cons (ee_var (i := 0)) (ea_cons ee_int ea_nil)))) (ess_cons (es_if (ew_or (et_cmp (op_eqX hu) o_eqX (ee_var (i := 1)) ee_int) (ew_or1 (et_cmp (op_eqX hu) o_eqX (ee_var (i := 2)) ee_int))).et (ess_one (es_ret (ee_cal c_law_leaf bd_law_leaf (hr.mono (by omega)) (ea_cons (ee_var (i := 0)) ea_nil)))) ess_nil) (ess_cons (es_if (et_cmp (op_eqX hu) o_eqX (ee_var (i := 2)) ee_int) (ess_one (es_ret (ee_tup (ea_cons ee_str (ea_cons (ee_comp (own := [("spin", 3)]) rfl sc_law_bound.nd (ei_rg1 Y.n_range (ea_cons (ee_add ee_int (ee_cal c_law_draw bd_law_draw (hr.mono (by omega)) (ea_cons (ee_var (i := 0)) (ea_cons ee_int ea_nil)))) ea_nil)) (blkOk_by (own := [("spin", 3)]) (N := N_law_bound) (sc := defScope s_law_bound) (by decide +kernel)) (fun _ _ _ _ _ => (eg_name (i := 3) sc_law_bound.nd)) (fun _ _ _ _ _ => ets_nil) (fun _ _ _ _ _ => (ee_cal c_law_leaf bd_law_leaf (hr.mono (by omega)) (ea_cons (ee_var (i := 0)) ea_nil)))) ea_nil))))) ess_nil) (ess_one (es_ret (ee_tup (ea_cons (ee_ix hu (ee_lst (ea_cons ee_str (ea_cons ee_str (ea_cons ee_str (ea_cons ee_str ea_nil))))) (ee_op op_sub o_sub (ee_var (i := 2)) ee_int)) (ea_cons (ee_comp (own := [("spin", 3)]) rfl sc_law_bound.nd (ei_rg1 Y.n_range (ea_cons (ee_add ee_int (ee_cal c_law_draw bd_law_draw (hr.mono (by omega)) (ea_cons (ee_var (i := 0)) (ea_cons ee_int ea_nil)))) ea_nil)) (blkOk_by (own := [("spin", 3)]) (N := N_law_bound) (sc := defScope s_law_bound) (by decide +kernel)) (fun _ _ _ _ _ => (eg_name (i := 3) sc_law_bound.nd)) (fun _ _ _ _ _ => ets_nil) (fun _ _ _ _ _ => (ee_cal c_law_bound bd_law_bound (hr.mono (by omega)) (ea_cons (ee_var (i := 0)) (ea_cons (ee_op op_sub o_sub (ee_var (i := 1)) ee_int) ea_nil))))) ea_nil))))))))⟩
theorem c_law_bound (Y : Facts K mg) : Cal P w K mg base "_law_bound" s_law_bound ps_law_bound 46 (m_law_bound FU) := cc_law_bound Y FU
theorem c_law_value (Y : Facts K mg) : Cal P w K mg base "_law_value" s_law_value ps_law_value 1 m_law_value := by
  obtain ⟨f, fd, hf, F⟩ := Y.f_law_value
  refine ⟨f, fd, hf, F, fn_ok F sc_law_value fun cdv A outer s H E hr => ?_⟩
  have hu := hr.units65
  exact ⟨_, (ess_one (es_ret (ee_add (ee_ix hu (ee_var (i := 0)) ee_int) (ee_fun (cr_sum rfl) n_sum Y.n_sum (ea_cons (ee_comp (own := [("name", 2), ("factor", 3)]) rfl sc_law_value.nd (ei_seq (ee_ix hu (ee_var (i := 0)) ee_int)) (blkOk_by (own := [("name", 2), ("factor", 3)]) (N := N_law_value) (sc := defScope s_law_value) (by decide +kernel)) (fun _ _ _ _ _ => (eg_tup rfl (egs_cons (eg_name (i := 2) sc_law_value.nd) (egs_cons (eg_name (i := 3) sc_law_value.nd) egs_nil)) (gConsD_len (gConsD_len gNilD_len)))) (fun _ _ _ _ _ => ets_nil) (fun _ _ _ _ _ => (ee_op op_mulAny o_mul (ee_var (i := 3)) (ee_ix hu (ee_var (i := 1)) (ee_var (i := 2)))))) ea_nil)))))⟩
theorem c_law_turns (Y : Facts K mg) : Cal P w K mg base "_law_turns" s_law_turns ps_law_turns 1 m_law_turns := by
  obtain ⟨f, fd, hf, F⟩ := Y.f_law_turns
  refine ⟨f, fd, hf, F, fn_ok F sc_law_turns fun cdv A outer s H E hr => ?_⟩
  have hu := hr.units65
  exact ⟨_, (ess_cons (es_asg (ee_tup (ea_cons (ee_typ (cr_list rfl) n_list Y.n_list (ea_cons (ee_var (i := 0)) ea_nil)) (ea_cons ee_int ea_nil))) (eg_tup rfl (egs_cons (eg_name (i := 1) sc_law_turns.nd) (egs_cons (eg_name (i := 2) sc_law_turns.nd) egs_nil)) (gConsD_len (gConsD_len gNilD_len)))) (ess_cons (es_while 1000000 PassesOwn.never (et_cmp op_geAny o_ge (ee_ix hu (ee_var (i := 1)) (ee_un un_neg o_neg ee_int)) ee_int) (ess_cons (es_set (i := 1) sc_law_turns.nd (ee_comp (own := [("at", 3)]) rfl sc_law_turns.nd (ei_rg1 Y.n_range (ea_cons (ee_fun cr_len n_len Y.n_len (ea_cons (ee_var (i := 1)) ea_nil)) ea_nil)) (blkOk_by (own := [("at", 3)]) (N := N_law_turns) (sc := defScope s_law_turns) (by decide +kernel)) (fun _ _ _ _ _ => (eg_name (i := 3) sc_law_turns.nd)) (fun _ _ _ _ _ => ets_nil) (fun _ _ _ _ _ => (ee_add (ee_op op_sub o_sub (ee_ix hu (ee_var (i := 1)) (ee_var (i := 3))) ee_int) (ee_ife (et_cmp op_gtAny o_gt (ee_var (i := 3)) ee_int) (ee_ix hu (ee_var (i := 1)) (ee_op op_sub o_sub (ee_var (i := 3)) ee_int)) ee_int))))) (ess_one (es_set (i := 2) sc_law_turns.nd (ee_add (ee_var (i := 2)) ee_int))))) (ess_one (es_retV (i := 2)))))⟩
theorem cc_law_comes_to (Y : Facts K mg) (n : Nat) : Cal P w K mg base "_law_comes_to" s_law_comes_to ps_law_comes_to (2 + n) (m_law_comes_to n) := by
  have c_law_value := c_law_value (P := P) (w := w) (base := base) Y
  have c_law_turns := c_law_turns (P := P) (w := w) (base := base) Y
  induction n with
  | zero => obtain ⟨f, fd, hf, F⟩ := Y.f_law_comes_to; exact ⟨f, fd, hf, F, fn_none⟩
  | succ n ih =>
    have c_law_comes_to := ih
    obtain ⟨f, fd, hf, F⟩ := Y.f_law_comes_to
    refine ⟨f, fd, hf, F, fn_ok (k := 2 + n) F sc_law_comes_to fun cdv A outer s H E hr => ?_⟩
    have hu := hr.units65
    exact ⟨_, (ess_cons (es_if (et_cmp (op_eqX hu) o_eqX (ee_ix hu (ee_var (i := 0)) ee_int) ee_str) (ess_one (es_ret (ee_ix hu (ee_var (i := 0)) ee_int))) ess_nil) (ess_cons (es_if (et_cmp (op_eqX hu) o_eqX (ee_ix hu (ee_var (i := 0)) ee_int) ee_str) (ess_one (es_ret (ee_op op_fdivAny o_fdiv (ee_fun (call_max2 rfl) n_max2 Y.n_max (ea_cons ee_int (ea_cons (ee_cal c_law_value bd_law_value (hr.mono (by omega)) (ea_cons (ee_ix hu (ee_var (i := 0)) ee_int) (ea_cons (ee_var (i := 1)) ea_nil))) ea_nil))) (ee_ix hu (ee_var (i := 0)) ee_int)))) ess_nil) (ess_cons (es_setComp (i := 2) (own := [("part", 3)]) rfl sc_law_comes_to.nd (ei_seq (ee_ix hu (ee_var (i := 0)) ee_int)) (blkOk_by (own := [("part", 3)]) (N := N_law_comes_to) (sc := defScope s_law_comes_to) (by decide +kernel)) (fun _ _ _ _ _ => (eg_name (i := 3) sc_law_comes_to.nd)) (fun _ _ _ _ _ => ets_nil) (fun _ _ _ _ _ => (ee_cal c_law_comes_to bd_law_comes_to (hr.mono (by omega)) (ea_cons (ee_var (i := 3)) (ea_cons (ee_var (i := 1)) ea_nil))))) (ess_cons (es_if (et_cmp (op_eqX hu) o_eqX (ee_ix hu (ee_var (i := 0)) ee_int) ee_str) (ess_one (es_ret (ee_cal c_law_turns bd_law_turns (hr.mono (by omega)) (ea_cons (ee_var (i := 2)) ea_nil)))) ess_nil) (ess_cons (es_if (et_cmp (op_eqX hu) o_eqX (ee_ix hu (ee_var (i := 0)) ee_int) ee_str) (ess_one (es_ret (ee_fun (cr_max rfl) n_max1 Y.n_max (ea_cons (ee_var (i := 2)) ea_nil)))) ess_nil) (ess_cons (es_set (i := 4) sc_law_comes_to.nd (ee_ife (et_cmp (op_eqX hu) o_eqX (ee_ix hu (ee_var (i := 0)) ee_int) ee_str) ee_int ee_int)) (ess_cons (es_for rfl PassesOwn.never (ei_seq (ee_var (i := 2))) (eg_name (i := 5) sc_law_comes_to.nd) (ess_one (es_set (i := 4) sc_law_comes_to.nd (ee_ife (et_cmp (op_eqX hu) o_eqX (ee_ix hu (ee_var (i := 0)) ee_int) ee_str) (ee_add (ee_var (i := 4)) (ee_var (i := 5))) (ee_op op_mulAny o_mul (ee_var (i := 4)) (ee_var (i := 5))))))) (ess_one (es_retV (i := 4))))))))))⟩
theorem c_law_comes_to (Y : Facts K mg) : Cal P w K mg base "_law_comes_to" s_law_comes_to ps_law_comes_to 42 (m_law_comes_to FU) := cc_law_comes_to Y FU
theorem c_law_is_whole (Y : Facts K mg) : Cal P w K mg base "_law_is_whole" s_law_is_whole ps_law_is_whole 1 m_law_is_whole := by
  obtain ⟨f, fd, hf, F⟩ := Y.f_law_is_whole
  refine ⟨f, fd, hf, F, fn_ok F sc_law_is_whole fun cdv A outer s H E hr => ?_⟩
  have hu := hr.units65
  exact ⟨_, (ess_one (es_ret (ee_and (ee_fun cr_isi n_isi Y.n_isinstance (ea_cons (ee_var (i := 0)) (ea_cons (ee_ty Y.n_int) ea_nil))) (ee_one (ee_not (ee_fun cr_isi n_isi Y.n_isinstance (ea_cons (ee_var (i := 0)) (ea_cons (ee_ty Y.n_bool) ea_nil))))))))⟩
theorem c_law_is_form (Y : Facts K mg) : Cal P w K mg base "_law_is_form" s_law_is_form ps_law_is_form 2 m_law_is_form := by
  have c_law_is_whole := c_law_is_whole (P := P) (w := w) (base := base) Y
  obtain ⟨f, fd, hf, F⟩ := Y.f_law_is_form
  refine ⟨f, fd, hf, F, fn_ok F sc_law_is_form fun cdv A outer s H E hr => ?_⟩
  have hu := hr.units65
  exact ⟨_, (ess_cons (es_if (ew_or (et_not (et_val (ee_fun cr_isi n_isi Y.n_isinstance (ea_cons (ee_var (i := 0)) (ea_cons (ee_ty Y.n_tuple) ea_nil))))) (ew_or (et_cmp (op_neX hu) o_neX (ee_fun cr_len n_len Y.n_len (ea_cons (ee_var (i := 0)) ea_nil)) ee_int) (ew_or (et_not (et_val (ee_cal c_law_is_whole bd_law_is_whole (hr.mono (by omega)) (ea_cons (ee_ix hu (ee_var (i := 0)) ee_int) ea_nil)))) (ew_or1 (et_not (et_val (ee_fun cr_isi n_isi Y.n_isinstance (ea_cons (ee_ix hu (ee_var (i := 0)) ee_int) (ea_cons (ee_ty Y.n_tuple) ea_nil))))))))).et (ess_one (es_ret ee_bl)) ess_nil) (ess_cons (es_if (et_cmp (op_neX hu) o_neX (ee_comp (own := [("part", 1)]) rfl sc_law_is_form.nd (ei_seq (ee_ix hu (ee_var (i := 0)) ee_int)) (blkOk_by (own := [("part", 1)]) (N := N_law_is_form) (sc := defScope s_law_is_form) (by decide +kernel)) (fun _ _ _ _ _ => (eg_name (i := 1) sc_law_is_form.nd)) (fun _ _ _ _ _ => (ets_one (ew_or (et_not (et_val (ee_fun cr_isi n_isi Y.n_isinstance (ea_cons (ee_var (i := 1)) (ea_cons (ee_ty Y.n_tuple) ea_nil))))) (ew_or (et_cmp (op_neX hu) o_neX (ee_fun cr_len n_len Y.n_len (ea_cons (ee_var (i := 1)) ea_nil)) ee_int) (ew_or (et_not (et_val (ee_fun cr_isi n_isi Y.n_isinstance (ea_cons (ee_ix hu (ee_var (i := 1)) ee_int) (ea_cons (ee_ty Y.n_str) ea_nil))))) (ew_or (et_not (et_val (ee_cal c_law_is_whole bd_law_is_whole (hr.mono (by omega)) (ea_cons (ee_ix hu (ee_var (i := 1)) ee_int) ea_nil)))) (ew_or1 (et_cmp (op_eqX hu) o_eqX (ee_ix hu (ee_var (i := 1)) ee_int) ee_int)))))).et)) (fun _ _ _ _ _ => (ee_var (i := 1)))) (ee_lst ea_nil)) (ess_one (es_ret ee_bl)) ess_nil) (ess_one (es_ret (ee_cmp (op_eqX hu) o_eqX (ee_comp (own := [("at", 2)]) rfl sc_law_is_form.nd (ei_rg2 Y.n_range (ea_cons ee_int (ea_cons (ee_fun cr_len n_len Y.n_len (ea_cons (ee_ix hu (ee_var (i := 0)) ee_int) ea_nil)) ea_nil))) (blkOk_by (own := [("at", 2)]) (N := N_law_is_form) (sc := defScope s_law_is_form) (by decide +kernel)) (fun _ _ _ _ _ => (eg_name (i := 2) sc_law_is_form.nd)) (fun _ _ _ _ _ => (ets_one (et_cmp op_geAny o_ge (ee_ix hu (ee_ix hu (ee_ix hu (ee_var (i := 0)) ee_int) (ee_op op_sub o_sub (ee_var (i := 2)) ee_int)) ee_int) (ee_ix hu (ee_ix hu (ee_ix hu (ee_var (i := 0)) ee_int) (ee_var (i := 2))) ee_int)))) (fun _ _ _ _ _ => (ee_var (i := 2)))) (ee_lst ea_nil))))))⟩
theorem c_law_are_names (Y : Facts K mg) : Cal P w K mg base "_law_are_names" s_law_are_names ps_law_are_names 1 m_law_are_names := by
  obtain ⟨f, fd, hf, F⟩ := Y.f_law_are_names
  refine ⟨f, fd, hf, F, fn_ok F sc_law_are_names fun cdv A outer s H E hr => ?_⟩
  have hu := hr.units65
  exact ⟨_, (ess_one (es_ret (ee_cmp (op_eqX hu) o_eqX (ee_comp (own := [("name", 1), ("factor", 2)]) rfl sc_law_are_names.nd (ei_seq (ee_ix hu (ee_var (i := 0)) ee_int)) (blkOk_by (own := [("name", 1), ("factor", 2)]) (N := N_law_are_names) (sc := defScope s_law_are_names) (by decide +kernel)) (fun _ _ _ _ _ => (eg_tup rfl (egs_cons (eg_name (i := 1) sc_law_are_names.nd) (egs_cons (eg_name (i := 2) sc_law_are_names.nd) egs_nil)) (gConsD_len (gConsD_len gNilD_len)))) (fun _ _ _ _ _ => (ets_one (et_cmp (op_notInAll hu) o_notIn (ee_var (i := 1)) (ee_tup (ea_cons ee_str (ea_cons ee_str (ea_cons ee_str ea_nil))))))) (fun _ _ _ _ _ => (ee_var (i := 1)))) (ee_lst ea_nil))))⟩
theorem cc_law_is_bound (Y : Facts K mg) (n : Nat) : Cal P w K mg base "_law_is_bound" s_law_is_bound ps_law_is_bound (3 + n) (m_law_is_bound n) := by
  have c_law_is_whole := c_law_is_whole (P := P) (w := w) (base := base) Y
  have c_law_is_form := c_law_is_form (P := P) (w := w) (base := base) Y
  have c_law_are_names := c_law_are_names (P := P) (w := w) (base := base) Y
  induction n with
  | zero => obtain ⟨f, fd, hf, F⟩ := Y.f_law_is_bound; exact ⟨f, fd, hf, F, fn_none⟩
  | succ n ih =>
    have c_law_is_bound := ih
    obtain ⟨f, fd, hf, F⟩ := Y.f_law_is_bound
    refine ⟨f, fd, hf, F, fn_ok (k := 3 + n) F sc_law_is_bound fun cdv A outer s H E hr => ?_⟩
    have hu := hr.units65
    exact ⟨_, (ess_cons (es_if (ew_or (et_not (et_val (ee_fun cr_isi n_isi Y.n_isinstance (ea_cons (ee_var (i := 0)) (ea_cons (ee_ty Y.n_tuple) ea_nil))))) (ew_or (et_cmp (op_eqX hu) o_eqX (ee_var (i := 0)) (ee_tup ea_nil)) (ew_or1 (et_not (et_val (ee_fun cr_isi n_isi Y.n_isinstance (ea_cons (ee_ix hu (ee_var (i := 0)) ee_int) (ea_cons (ee_ty Y.n_str) ea_nil)))))))).et (ess_one (es_ret ee_bl)) ess_nil) (ess_cons (es_if (et_cmp (op_eqX hu) o_eqX (ee_ix hu (ee_var (i := 0)) ee_int) ee_str) (ess_one (es_ret (ee_and (ee_cmp (op_eqX hu) o_eqX (ee_fun cr_len n_len Y.n_len (ea_cons (ee_var (i := 0)) ea_nil)) ee_int) (ee_and (ee_cal c_law_is_whole bd_law_is_whole (hr.mono (by omega)) (ea_cons (ee_ix hu (ee_var (i := 0)) ee_int) ea_nil)) (ee_one (ee_cmp op_geAny o_ge (ee_ix hu (ee_var (i := 0)) ee_int) ee_int)))))) ess_nil) (ess_cons (es_if (et_cmp (op_eqX hu) o_eqX (ee_ix hu (ee_var (i := 0)) ee_int) ee_str) (ess_one (es_ret (ee_and (ee_cmp (op_eqX hu) o_eqX (ee_fun cr_len n_len Y.n_len (ea_cons (ee_var (i := 0)) ea_nil)) ee_int) (ee_and (ee_cal c_law_is_form bd_law_is_form (hr.mono (by omega)) (ea_cons (ee_ix hu (ee_var (i := 0)) ee_int) ea_nil)) (ee_and (ee_cal c_law_are_names bd_law_are_names (hr.mono (by omega)) (ea_cons (ee_ix hu (ee_var (i := 0)) ee_int) ea_nil)) (ee_and (ee_cal c_law_is_whole bd_law_is_whole (hr.mono (by omega)) (ea_cons (ee_ix hu (ee_var (i := 0)) ee_int) ea_nil)) (ee_one (ee_cmp op_gtAny o_gt (ee_ix hu (ee_var (i := 0)) ee_int) ee_int)))))))) ess_nil) (ess_cons (es_if (ew_or (et_cmp (op_notInAll hu) o_notIn (ee_ix hu (ee_var (i := 0)) ee_int) (ee_tup (ea_cons ee_str (ea_cons ee_str (ea_cons ee_str (ea_cons ee_str ea_nil)))))) (ew_or (et_cmp (op_neX hu) o_neX (ee_fun cr_len n_len Y.n_len (ea_cons (ee_var (i := 0)) ea_nil)) ee_int) (ew_or (et_not (et_val (ee_fun cr_isi n_isi Y.n_isinstance (ea_cons (ee_ix hu (ee_var (i := 0)) ee_int) (ea_cons (ee_ty Y.n_list) ea_nil))))) (ew_or1 (et_cmp (op_eqX hu) o_eqX (ee_ix hu (ee_var (i := 0)) ee_int) (ee_lst ea_nil)))))).et (ess_one (es_ret ee_bl)) ess_nil) (ess_one (es_ret (ee_cmp (op_eqX hu) o_eqX (ee_comp (own := [("part", 1)]) rfl sc_law_is_bound.nd (ei_seq (ee_ix hu (ee_var (i := 0)) ee_int)) (blkOk_by (own := [("part", 1)]) (N := N_law_is_bound) (sc := defScope s_law_is_bound) (by decide +kernel)) (fun _ _ _ _ _ => (eg_name (i := 1) sc_law_is_bound.nd)) (fun _ _ _ _ _ => (ets_one (et_not (et_val (ee_cal c_law_is_bound bd_law_is_bound (hr.mono (by omega)) (ea_cons (ee_var (i := 1)) ea_nil)))))) (fun _ _ _ _ _ => (ee_var (i := 1)))) (ee_lst ea_nil))))))))⟩
theorem c_law_is_bound (Y : Facts K mg) : Cal P w K mg base "_law_is_bound" s_law_is_bound ps_law_is_bound 43 (m_law_is_bound FU) := cc_law_is_bound Y FU
theorem c_law_bent (Y : Facts K mg) : Cal P w K mg base "_law_bent" s_law_bent ps_law_bent 3 m_law_bent := by
  have c_law_draw := c_law_draw (P := P) (w := w) (base := base) Y
  obtain ⟨f, fd, hf, F⟩ := Y.f_law_bent
  refine ⟨f, fd, hf, F, fn_ok F sc_law_bent fun cdv A outer s H E hr => ?_⟩
  have hu := hr.units65
  exact ⟨_, (ess_cons (es_set (i := 2) sc_law_bent.nd (ee_lst (ea_cons ee_non (ea_cons (ee_tup ea_nil) (ea_cons (ee_lst ea_nil) (ea_cons ee_str (ea_cons ee_int (ea_cons ee_newK (ea_cons ee_bl (ea_cons (ee_typ (cr_list rfl) n_list Y.n_list (ea_cons (ee_var (i := 1)) ea_nil)) (ea_cons (ee_add (ee_var (i := 1)) (ee_tup (ea_cons ee_int ea_nil))) (ea_cons (ee_sl (ee_var (i := 1)) eo_no (eo_at ee_int)) (ea_cons (ee_add (ee_tup (ea_cons ee_str ea_nil)) (ee_sl (ee_var (i := 1)) (eo_at ee_int) eo_no)) (ea_cons (ee_tup (ea_cons ee_str (ea_cons (ee_lst ea_nil) ea_nil))) (ea_cons (ee_tup (ea_cons ee_str (ea_cons ee_non ea_nil))) ea_nil))))))))))))))) (ess_cons (es_set (i := 2) sc_law_bent.nd (ee_add (ee_var (i := 2)) (ee_lst (ea_cons (ee_tup (ea_cons ee_str (ea_cons (ee_op op_sub o_sub ee_int ee_int) ea_nil))) (ea_cons (ee_tup (ea_cons ee_str (ea_cons ee_bl ea_nil))) (ea_cons (ee_tup (ea_cons ee_str (ea_cons ee_str ea_nil))) (ea_cons (ee_tup (ea_cons ee_str ea_nil)) ea_nil))))))) (ess_cons (es_for rfl PassesOwn.never (ei_seq (ee_lst (ea_cons ee_non (ea_cons (ee_tup (ea_cons ee_int (ea_cons (ee_tup ea_nil) (ea_cons ee_int ea_nil)))) (ea_cons (ee_tup (ea_cons ee_int (ea_cons (ee_tup (ea_cons (ee_tup (ea_cons ee_str (ea_cons ee_int ea_nil))) ea_nil)) ea_nil))) (ea_cons (ee_tup (ea_cons ee_bl (ea_cons (ee_tup ea_nil) ea_nil))) (ea_cons (ee_lst (ea_cons ee_int (ea_cons (ee_tup ea_nil) ea_nil))) (ea_cons (ee_tup (ea_cons ee_int (ea_cons (ee_tup (ea_cons (ee_tup (ea_cons ee_str (ea_cons ee_int ea_nil))) ea_nil)) ea_nil))) (ea_cons (ee_tup (ea_cons ee_int (ea_cons (ee_tup (ea_cons (ee_tup (ea_cons ee_str (ea_cons ee_int ea_nil))) (ea_cons (ee_tup (ea_cons ee_str (ea_cons ee_int ea_nil))) ea_nil))) ea_nil))) ea_nil))))))))) (eg_name (i := 3) sc_law_bent.nd) (ess_one (es_app (i := 2) (ee_tup (ea_cons ee_str (ea_cons (ee_var (i := 3)) (ea_cons ee_int ea_nil)))) (hp := mt_appP (pe_var (i := 2) rfl (by first | exact .inl rfl | exact .inr (.inl rfl) | exact .inr (.inr rfl))) (ee_tup (ea_cons ee_str (ea_cons (ee_var (i := 3)) (ea_cons ee_int ea_nil)))).pe)))) (ess_cons (es_set (i := 2) sc_law_bent.nd (ee_add (ee_add (ee_var (i := 2)) (ee_comp (own := [("odd", 3)]) rfl sc_law_bent.nd (ei_seq (ee_lst (ea_cons ee_int (ea_cons (ee_op op_sub o_sub ee_int ee_int) (ea_cons ee_bl (ea_cons ee_str (ea_cons ee_non ea_nil))))))) (blkOk_by (own := [("odd", 3)]) (N := N_law_bent) (sc := defScope s_law_bent) (by decide +kernel)) (fun _ _ _ _ _ => (eg_name (i := 3) sc_law_bent.nd)) (fun _ _ _ _ _ => ets_nil) (fun _ _ _ _ _ => (ee_tup (ea_cons ee_str (ea_cons (ee_tup (ea_cons ee_int (ea_cons (ee_tup ea_nil) ea_nil))) (ea_cons (ee_var (i := 3)) ea_nil))))))) (ee_lst (ea_cons (ee_tup (ea_cons ee_str (ea_cons (ee_tup (ea_cons ee_int (ea_cons (ee_tup (ea_cons (ee_tup (ea_cons ee_str (ea_cons ee_int ea_nil))) ea_nil)) ea_nil))) ea_nil))) (ea_cons (ee_tup (ea_cons ee_str (ea_cons (ee_tup (ea_cons ee_int (ea_cons (ee_tup (ea_cons (ee_tup (ea_cons ee_str (ea_cons ee_int ea_nil))) ea_nil)) ea_nil))) (ea_cons ee_int ea_nil)))) ea_nil))))) (ess_cons (es_if (et_cmp (op_notInAll hu) o_notIn (ee_ix hu (ee_var (i := 1)) ee_int) (ee_tup (ea_cons ee_str (ea_cons ee_str ea_nil)))) (ess_cons (es_set (i := 4) sc_law_bent.nd (ee_cal c_law_draw bd_law_draw (hr.mono (by omega)) (ea_cons (ee_var (i := 0)) (ea_cons (ee_fun cr_len n_len Y.n_len (ea_cons (ee_ix hu (ee_var (i := 1)) ee_int) ea_nil)) ea_nil)))) (ess_cons (es_for rfl PassesOwn.never (ei_seq (ee_lst (ea_cons ee_non (ea_cons ee_int (ea_cons (ee_typ (cr_list rfl) n_list Y.n_list (ea_cons (ee_ix hu (ee_ix hu (ee_var (i := 1)) ee_int) (ee_var (i := 4))) ea_nil)) (ea_cons (ee_tup (ea_cons ee_str (ea_cons (ee_op op_sub o_sub ee_int ee_int) ea_nil))) (ea_cons (ee_tup (ea_cons ee_str (ea_cons (ee_lst ea_nil) ea_nil))) (ea_cons (ee_sl (ee_ix hu (ee_ix hu (ee_var (i := 1)) ee_int) (ee_var (i := 4))) eo_no (eo_at ee_int)) (ea_cons (ee_tup (ea_cons ee_str (ea_cons (ee_lst (ea_cons (ee_ix hu (ee_ix hu (ee_var (i := 1)) ee_int) (ee_var (i := 4))) ea_nil)) ea_nil))) ea_nil))))))))) (eg_name (i := 3) sc_law_bent.nd) (ess_one (es_app (i := 2) (ee_tup (ea_cons (ee_ix hu (ee_var (i := 1)) ee_int) (ea_cons (ee_add (ee_add (ee_sl (ee_ix hu (ee_var (i := 1)) ee_int) eo_no (eo_at (ee_var (i := 4)))) (ee_lst (ea_cons (ee_var (i := 3)) ea_nil))) (ee_sl (ee_ix hu (ee_var (i := 1)) ee_int) (eo_at (ee_add (ee_var (i := 4)) ee_int)) eo_no)) ea_nil))) (hp := mt_appP (pe_var (i := 2) rfl (by first | exact .inl rfl | exact .inr (.inl rfl) | exact .inr (.inr rfl))) (ee_tup (ea_cons (ee_ix hu (ee_var (i := 1)) ee_int) (ea_cons (ee_add (ee_add (ee_sl (ee_ix hu (ee_var (i := 1)) ee_int) eo_no (eo_at (ee_var (i := 4)))) (ee_lst (ea_cons (ee_var (i := 3)) ea_nil))) (ee_sl (ee_ix hu (ee_var (i := 1)) ee_int) (eo_at (ee_add (ee_var (i := 4)) ee_int)) eo_no)) ea_nil))).pe)))) (ess_one (es_set (i := 2) sc_law_bent.nd (ee_add (ee_var (i := 2)) (ee_lst (ea_cons (ee_tup (ea_cons (ee_ix hu (ee_var (i := 1)) ee_int) (ea_cons (ee_typ call_tuple_ofP n_tuple Y.n_tuple (ea_cons (ee_ix hu (ee_var (i := 1)) ee_int) ea_nil)) ea_nil))) (ea_cons (ee_tup (ea_cons (ee_ix hu (ee_var (i := 1)) ee_int) (ea_cons (ee_add (ee_ix hu (ee_var (i := 1)) ee_int) (ee_lst (ea_cons ee_non ea_nil))) ea_nil))) (ea_cons (ee_tup (ea_cons ee_str (ea_cons (ee_ix hu (ee_var (i := 1)) ee_int) ea_nil))) ea_nil))))))))) ess_nil) (ess_one (es_retV (i := 2))))))))⟩
theorem c_law_right (Y : Facts K mg) : Cal P w K mg base "_law_right" s_law_right ps_law_right 47 m_law_right := by
  have c_is_bound := c_is_bound (P := P) (w := w) (base := base) Y
  have c_bound_at := c_bound_at (P := P) (w := w) (base := base) Y
  have c_law_draw := c_law_draw (P := P) (w := w) (base := base) Y
  have c_law_exact := c_law_exact (P := P) (w := w) (base := base) Y
  have c_law_bound := c_law_bound (P := P) (w := w) (base := base) Y
  have c_law_comes_to := c_law_comes_to (P := P) (w := w) (base := base) Y
  have c_law_is_bound := c_law_is_bound (P := P) (w := w) (base := base) Y
  have c_law_bent := c_law_bent (P := P) (w := w) (base := base) Y
  obtain ⟨f, fd, hf, F⟩ := Y.f_law_right
  refine ⟨f, fd, hf, F, fn_ok F sc_law_right fun cdv A outer s H E hr => ?_⟩
  have hu := hr.units65
  exact ⟨_, (ess_cons (es_par (i := 1) (j := 2) rfl sc_law_right.nd (ea_cons (ee_cal c_law_bound bd_law_bound (hr.mono (by omega)) (ea_cons (ee_var (i := 0)) (ea_cons ee_int ea_nil))) (ea_cons ee_non ea_nil))) (ess_cons (es_set (i := 2) sc_law_right.nd (ee_fun (cr_repr hr.gd hu) n_repr Y.n_repr (ea_cons (ee_var (i := 1)) ea_nil))) (ess_cons (es_for rfl PassesOwn.never (ei_rg1 Y.n_range (ea_cons ee_int ea_nil)) (eg_name (i := 3) sc_law_right.nd) (ess_cons (es_set (i := 4) sc_law_right.nd (ee_disp (.cons ee_str (ee_op op_sub o_sub (ee_cal c_law_draw bd_law_draw (hr.mono (by omega)) (ea_cons (ee_var (i := 0)) (ea_cons ee_int ea_nil))) ee_int) (.cons ee_str (ee_op op_sub o_sub (ee_cal c_law_draw bd_law_draw (hr.mono (by omega)) (ea_cons (ee_var (i := 0)) (ea_cons ee_int ea_nil))) ee_int) .nil)))) (ess_cons (es_par (i := 5) (j := 6) rfl sc_law_right.nd (ea_cons (ee_cal c_law_comes_to bd_law_comes_to (hr.mono (by omega)) (ea_cons (ee_var (i := 1)) (ea_cons (ee_var (i := 4)) ea_nil))) (ea_cons (ee_fun (cr_sortAll rfl hu) n_sorted Y.n_sorted (ea_cons (ee_compKy (j := 4) (own := [("name", 7)]) rfl sc_law_right.nd (blkOk_by (own := [("name", 7)]) (N := N_law_right) (sc := defScope s_law_right) (by decide +kernel)) (fun _ _ _ _ _ => (eg_name (i := 7) sc_law_right.nd)) (fun _ _ _ _ _ => ets_nil) (fun _ _ _ _ _ => (ee_tup (ea_cons (ee_var (i := 7)) (ea_cons (ee_ix hu (ee_var (i := 4)) (ee_var (i := 7))) ea_nil))))) ea_nil)) ea_nil))) (ess_cons (es_set (i := 8) sc_law_right.nd (ee_fun (cr_sortAll rfl hu) n_sorted Y.n_sorted (ea_cons (ee_add (ee_var (i := 6)) (ee_lst (ea_cons (ee_tup (ea_cons ee_str (ea_cons (ee_op op_powW o_pow ee_int ee_int) ea_nil))) (ea_cons (ee_tup (ea_cons ee_str (ea_cons (ee_op op_sub o_sub ee_int ee_int) ea_nil))) ea_nil)))) ea_nil))) (ess_cons (es_if (ew_or (et_not (et_val (ee_cal c_law_exact bd_law_exact (hr.mono (by omega)) (ea_cons (ee_op op_mulAny o_mul (ee_lst (ea_cons (ee_var (i := 5)) ea_nil)) ee_int) (ea_cons (ee_lst (ea_cons (ee_cal c_bound_at bd_bound_at (hr.mono (by omega)) (ea_cons (ee_var (i := 1)) (ea_cons (ee_var (i := 6)) ea_nil))) (ea_cons (ee_calK0 (q := kw0_bound_at_numbers_bound) c_bound_at kw_kw0_bound_at_numbers_bound (hr.mono (by omega)) (ek_cons (ee_var (i := 6)) (ek_cons (ee_var (i := 1)) ek_nil))) (ea_cons (ee_cal c_bound_at bd_bound_at (hr.mono (by omega)) (ea_cons (ee_var (i := 1)) (ea_cons (ee_var (i := 8)) ea_nil))) ea_nil)))) ea_nil))))) (ew_or1 (et_cmp op_ltAny o_lt (ee_var (i := 5)) ee_int))).et (ess_one (es_ret ee_bl)) ess_nil) (ess_one (es_if (ew_or (et_cmp (op_neX hu) o_neX (ee_cal c_bound_at bd_bound_at (hr.mono (by omega)) (ea_cons (ee_tup (ea_cons ee_str (ea_cons (ee_lst (ea_cons (ee_var (i := 1)) (ea_cons (ee_tup (ea_cons ee_str (ea_cons ee_int ea_nil))) ea_nil))) ea_nil))) (ea_cons (ee_var (i := 6)) ea_nil))) (ee_add (ee_var (i := 5)) ee_int)) (ew_or1 (et_cmp (op_neX hu) o_neX (ee_cal c_bound_at bd_bound_at (hr.mono (by omega)) (ea_cons (ee_tup (ea_cons ee_str (ea_cons (ee_lst (ea_cons (ee_var (i := 1)) (ea_cons (ee_tup (ea_cons ee_str (ea_cons (ee_add (ee_var (i := 5)) ee_int) ea_nil))) ea_nil))) ea_nil))) (ea_cons (ee_var (i := 6)) ea_nil))) (ee_add (ee_var (i := 5)) ee_int)))).et (ess_one (es_ret ee_bl)) ess_nil))))))) (ess_cons (es_for rfl PassesOwn.never (ei_seq (ee_add (ee_lst (ea_cons (ee_var (i := 1)) ea_nil)) (ee_cal c_law_bent bd_law_bent (hr.mono (by omega)) (ea_cons (ee_var (i := 0)) (ea_cons (ee_var (i := 1)) ea_nil))))) (eg_name (i := 9) sc_law_right.nd) (ess_cons (es_par (i := 5) (j := 10) rfl sc_law_right.nd (ea_cons (ee_cal c_law_is_bound bd_law_is_bound (hr.mono (by omega)) (ea_cons (ee_var (i := 9)) ea_nil)) (ea_cons (ee_fun (cr_repr hr.gd hu) n_repr Y.n_repr (ea_cons (ee_var (i := 9)) ea_nil)) ea_nil))) (ess_one (es_if (ew_or (et_not (et_val (ee_cal c_law_exact bd_law_exact (hr.mono (by omega)) (ea_cons (ee_lst (ea_cons (ee_var (i := 5)) (ea_cons (ee_var (i := 5)) ea_nil))) (ea_cons (ee_lst (ea_cons (ee_cal c_is_bound bd_is_bound (hr.mono (by omega)) (ea_cons (ee_var (i := 9)) ea_nil)) (ea_cons (ee_calK0 (q := kw0_is_bound_value) c_is_bound kw_kw0_is_bound_value (hr.mono (by omega)) (ek_cons (ee_var (i := 9)) ek_nil)) ea_nil))) ea_nil))))) (ew_or1 (et_cmp (op_neX hu) o_neX (ee_fun (cr_repr hr.gd hu) n_repr Y.n_repr (ea_cons (ee_var (i := 9)) ea_nil)) (ee_var (i := 10))))).et (ess_one (es_ret ee_bl)) ess_nil)))) (ess_one (es_ret (ee_cmp (op_eqX hu) o_eqX (ee_fun (cr_repr hr.gd hu) n_repr Y.n_repr (ea_cons (ee_var (i := 1)) ea_nil)) (ee_var (i := 2)))))))))⟩
theorem c_law (Y : Facts K mg) : Cal P w K mg base "law" s_law ps_law 48 m_law := by
  have c_bound_at := c_bound_at (P := P) (w := w) (base := base) Y
  have c_law_exact := c_law_exact (P := P) (w := w) (base := base) Y
  have c_law_purses := c_law_purses (P := P) (w := w) (base := base) Y
  have c_law_right := c_law_right (P := P) (w := w) (base := base) Y
  obtain ⟨f, fd, hf, F⟩ := Y.f_law
  refine ⟨f, fd, hf, F, fn_ok F sc_law fun cdv A outer s H E hr => ?_⟩
  have hu := hr.units65
  exact ⟨_, (ess_cons (es_for rfl PassesOwn.never (ei_seq (ee_cal c_law_purses bd_law_purses (hr.mono (by omega)) (ea_cons (ee_var (i := 0)) (ea_cons ee_int ea_nil)))) (eg_name (i := 1) sc_law.nd) (ess_one (es_for rfl PassesOwn.never (ei_rg1 Y.n_range (ea_cons ee_int ea_nil)) (eg_name (i := 2) sc_law.nd) (ess_one (es_if (et_not (et_val (ee_cal c_law_right bd_law_right (hr.mono (by omega)) (ea_cons (ee_var (i := 1)) ea_nil)))) (ess_one (es_ret ee_bl)) ess_nil))))) (ess_cons (es_set (i := 3) sc_law.nd (ee_tup (ea_cons ee_str (ea_cons (ee_lst (ea_cons (ee_tup (ea_cons ee_str (ea_cons (ee_tup (ea_cons (ee_op op_sub o_sub ee_int ee_int) (ea_cons (ee_tup (ea_cons (ee_tup (ea_cons ee_str (ea_cons (ee_op op_powW o_pow ee_int ee_int) ea_nil))) ea_nil)) ea_nil))) (ea_cons ee_int ea_nil)))) (ea_cons (ee_tup (ea_cons ee_str (ea_cons (ee_tup (ea_cons ee_int (ea_cons (ee_tup (ea_cons (ee_tup (ea_cons ee_str (ea_cons ee_int ea_nil))) ea_nil)) ea_nil))) (ea_cons ee_int ea_nil)))) ea_nil))) ea_nil)))) (ess_cons (es_set (i := 4) sc_law.nd (ee_lst (ea_cons (ee_cal c_bound_at bd_bound_at (hr.mono (by omega)) (ea_cons (ee_var (i := 3)) (ea_cons (ee_lst (ea_cons (ee_tup (ea_cons ee_str (ea_cons (ee_op op_powW o_pow ee_int ee_int) ea_nil))) ea_nil)) ea_nil))) (ea_cons (ee_cal c_bound_at bd_bound_at (hr.mono (by omega)) (ea_cons (ee_var (i := 3)) (ea_cons (ee_lst (ea_cons (ee_tup (ea_cons ee_str (ea_cons (ee_op op_sub o_sub ee_int (ee_op op_powW o_pow ee_int ee_int)) ea_nil))) ea_nil)) ea_nil))) (ea_cons (ee_cal c_bound_at bd_bound_at (hr.mono (by omega)) (ea_cons (ee_tup (ea_cons ee_str (ea_cons (ee_lst (ea_cons (ee_tup (ea_cons ee_str (ea_cons ee_int ea_nil))) ea_nil)) ea_nil))) (ea_cons (ee_lst ea_nil) ea_nil))) (ea_cons (ee_cal c_bound_at bd_bound_at (hr.mono (by omega)) (ea_cons (ee_tup (ea_cons ee_str (ea_cons (ee_lst (ea_cons (ee_tup (ea_cons ee_str (ea_cons ee_int ea_nil))) (ea_cons (ee_tup (ea_cons ee_str (ea_cons ee_int ea_nil))) ea_nil))) ea_nil))) (ea_cons (ee_lst ea_nil) ea_nil))) ea_nil)))))) (ess_one (es_ret (ee_cal c_law_exact bd_law_exact (hr.mono (by omega)) (ea_cons (ee_lst (ea_cons (ee_op op_mulAny o_mul (ee_op op_fdivAny o_fdiv (ee_op op_sub o_sub (ee_op op_powW o_pow ee_int ee_int) ee_int) ee_int) (ee_add (ee_op op_powW o_pow ee_int ee_int) ee_int)) (ea_cons ee_int (ea_cons ee_int (ea_cons ee_int ea_nil))))) (ea_cons (ee_var (i := 4)) ea_nil))))))))⟩
end
end K57
end
section
set_option Elab.async false
set_option linter.all false
set_option maxRecDepth 100000
set_option maxHeartbeats 0
/-! the head (printed by genend.py) -/
namespace K57
open PySem PySem.Spec PyProof.Rows L2 PD
def d_is_whole : He.DefD := ⟨("is_whole", none), "is_whole", "is_whole", defArgs s_is_whole, defBody s_is_whole, defScope s_is_whole, [], []⟩
def d_is_count : He.DefD := ⟨("is_count", none), "is_count", "is_count", defArgs s_is_count, defBody s_is_count, defScope s_is_count, [.int (0)], []⟩
def d_is_tuple_of : He.DefD := ⟨("is_tuple_of", none), "is_tuple_of", "is_tuple_of", defArgs s_is_tuple_of, defBody s_is_tuple_of, defScope s_is_tuple_of, [], []⟩
def d_is_word : He.DefD := ⟨("is_word", none), "is_word", "is_word", defArgs s_is_word, defBody s_is_word, defScope s_is_word, [], []⟩
def d_is_name : He.DefD := ⟨("is_name", none), "is_name", "is_name", defArgs s_is_name, defBody s_is_name, defScope s_is_name, [], []⟩
def d_is_form : He.DefD := ⟨("is_form", none), "is_form", "is_form", defArgs s_is_form, defBody s_is_form, defScope s_is_form, [], []⟩
def d_is_leaf : He.DefD := ⟨("is_leaf", none), "is_leaf", "is_leaf", defArgs s_is_leaf, defBody s_is_leaf, defScope s_is_leaf, [], []⟩
def d_is_node : He.DefD := ⟨("is_node", none), "is_node", "is_node", defArgs s_is_node, defBody s_is_node, defScope s_is_node, [], []⟩
def d_is_bound : He.DefD := ⟨("is_bound", none), "is_bound", "is_bound", defArgs s_is_bound, defBody s_is_bound, defScope s_is_bound, [], []⟩
def d_parts_of : He.DefD := ⟨("parts_of", none), "parts_of", "parts_of", defArgs s_parts_of, defBody s_parts_of, defScope s_parts_of, [], []⟩
def d_all_parts : He.DefD := ⟨("all_parts", none), "all_parts", "all_parts", defArgs s_all_parts, defBody s_all_parts, defScope s_all_parts, [], []⟩
def d_steps_by_phases : He.DefD := ⟨("steps_by_phases", none), "steps_by_phases", "steps_by_phases", defArgs s_steps_by_phases, defBody s_steps_by_phases, defScope s_steps_by_phases, [], []⟩
def d_joined : He.DefD := ⟨("joined", none), "joined", "joined", defArgs s_joined, defBody s_joined, defScope s_joined, [], []⟩
def d_value_at : He.DefD := ⟨("value_at", none), "value_at", "value_at", defArgs s_value_at, defBody s_value_at, defScope s_value_at, [], []⟩
def d_leaf_at : He.DefD := ⟨("leaf_at", none), "leaf_at", "leaf_at", defArgs s_leaf_at, defBody s_leaf_at, defScope s_leaf_at, [], []⟩
def d_value_there : He.DefD := ⟨("value_there", none), "value_there", "value_there", defArgs s_value_there, defBody s_value_there, defScope s_value_there, [], []⟩
def d_names_in : He.DefD := ⟨("names_in", none), "names_in", "names_in", defArgs s_names_in, defBody s_names_in, defScope s_names_in, [], []⟩
def d_names_of_bound : He.DefD := ⟨("names_of_bound", none), "names_of_bound", "names_of_bound", defArgs s_names_of_bound, defBody s_names_of_bound, defScope s_names_of_bound, [], []⟩
def d_are_told : He.DefD := ⟨("are_told", none), "are_told", "are_told", defArgs s_are_told, defBody s_are_told, defScope s_are_told, [], []⟩
def d_bound_at : He.DefD := ⟨("bound_at", none), "bound_at", "bound_at", defArgs s_bound_at, defBody s_bound_at, defScope s_bound_at, [], []⟩
def d_law_exact : He.DefD := ⟨("_law_exact", none), "_law_exact", "_law_exact", defArgs s_law_exact, defBody s_law_exact, defScope s_law_exact, [], []⟩
def d_law_purse : He.DefD := ⟨("_law_purse", none), "_law_purse", "_law_purse", defArgs s_law_purse, defBody s_law_purse, defScope s_law_purse, [], []⟩
def d_law_purses : He.DefD := ⟨("_law_purses", none), "_law_purses", "_law_purses", defArgs s_law_purses, defBody s_law_purses, defScope s_law_purses, [], []⟩
def d_law_mixed : He.DefD := ⟨("_law_mixed", none), "_law_mixed", "_law_mixed", defArgs s_law_mixed, defBody s_law_mixed, defScope s_law_mixed, [], []⟩
def d_law_draw : He.DefD := ⟨("_law_draw", none), "_law_draw", "_law_draw", defArgs s_law_draw, defBody s_law_draw, defScope s_law_draw, [], []⟩
def d_law_one_of : He.DefD := ⟨("_law_one_of", none), "_law_one_of", "_law_one_of", defArgs s_law_one_of, defBody s_law_one_of, defScope s_law_one_of, [], []⟩
def d_law_form : He.DefD := ⟨("_law_form", none), "_law_form", "_law_form", defArgs s_law_form, defBody s_law_form, defScope s_law_form, [], []⟩
def d_law_drawn_form : He.DefD := ⟨("_law_drawn_form", none), "_law_drawn_form", "_law_drawn_form", defArgs s_law_drawn_form, defBody s_law_drawn_form, defScope s_law_drawn_form, [], []⟩
def d_law_leaf : He.DefD := ⟨("_law_leaf", none), "_law_leaf", "_law_leaf", defArgs s_law_leaf, defBody s_law_leaf, defScope s_law_leaf, [], []⟩
def d_law_bound : He.DefD := ⟨("_law_bound", none), "_law_bound", "_law_bound", defArgs s_law_bound, defBody s_law_bound, defScope s_law_bound, [], []⟩
def d_law_value : He.DefD := ⟨("_law_value", none), "_law_value", "_law_value", defArgs s_law_value, defBody s_law_value, defScope s_law_value, [], []⟩
def d_law_turns : He.DefD := ⟨("_law_turns", none), "_law_turns", "_law_turns", defArgs s_law_turns, defBody s_law_turns, defScope s_law_turns, [], []⟩
def d_law_comes_to : He.DefD := ⟨("_law_comes_to", none), "_law_comes_to", "_law_comes_to", defArgs s_law_comes_to, defBody s_law_comes_to, defScope s_law_comes_to, [], []⟩
def d_law_is_whole : He.DefD := ⟨("_law_is_whole", none), "_law_is_whole", "_law_is_whole", defArgs s_law_is_whole, defBody s_law_is_whole, defScope s_law_is_whole, [], []⟩
def d_law_is_form : He.DefD := ⟨("_law_is_form", none), "_law_is_form", "_law_is_form", defArgs s_law_is_form, defBody s_law_is_form, defScope s_law_is_form, [], []⟩
def d_law_are_names : He.DefD := ⟨("_law_are_names", none), "_law_are_names", "_law_are_names", defArgs s_law_are_names, defBody s_law_are_names, defScope s_law_are_names, [], []⟩
def d_law_is_bound : He.DefD := ⟨("_law_is_bound", none), "_law_is_bound", "_law_is_bound", defArgs s_law_is_bound, defBody s_law_is_bound, defScope s_law_is_bound, [], []⟩
def d_law_bent : He.DefD := ⟨("_law_bent", none), "_law_bent", "_law_bent", defArgs s_law_bent, defBody s_law_bent, defScope s_law_bent, [], []⟩
def d_law_right : He.DefD := ⟨("_law_right", none), "_law_right", "_law_right", defArgs s_law_right, defBody s_law_right, defScope s_law_right, [], []⟩
def d_law : He.DefD := ⟨("law", none), "law", "law", defArgs s_law, defBody s_law, defScope s_law, [], []⟩
def fn : List He.DefD := [d_is_whole, d_is_count, d_is_tuple_of, d_is_word, d_is_name, d_is_form, d_is_leaf, d_is_node, d_is_bound, d_parts_of, d_all_parts, d_steps_by_phases, d_joined, d_value_at, d_leaf_at, d_value_there, d_names_in, d_names_of_bound, d_are_told, d_bound_at, d_law_exact, d_law_purse, d_law_purses, d_law_mixed, d_law_draw, d_law_one_of, d_law_form, d_law_drawn_form, d_law_leaf, d_law_bound, d_law_value, d_law_turns, d_law_comes_to, d_law_is_whole, d_law_is_form, d_law_are_names, d_law_is_bound, d_law_bent, d_law_right, d_law]
def fa : List He.Fa := [.glo "is_whole", .glo "is_count", .glo "is_tuple_of", .glo "is_word", .glo "is_name", .glo "is_form", .glo "is_leaf", .glo "is_node", .glo "is_bound", .glo "parts_of", .glo "all_parts", .glo "steps_by_phases", .glo "joined", .glo "value_at", .glo "leaf_at", .glo "value_there", .glo "names_in", .glo "names_of_bound", .glo "are_told", .glo "bound_at", .glo "_law_exact", .glo "_law_purse", .glo "_law_purses", .glo "_law_mixed", .glo "_law_draw", .glo "_law_one_of", .glo "_law_form", .glo "_law_drawn_form", .glo "_law_leaf", .glo "_law_bound", .glo "_law_value", .glo "_law_turns", .glo "_law_comes_to", .glo "_law_is_whole", .glo "_law_is_form", .glo "_law_are_names", .glo "_law_is_bound", .glo "_law_bent", .glo "_law_right", .glo "law", .free "all", .free "bool", .free "dict", .free "int", .free "isinstance", .free "len", .free "list", .free "max", .free "min", .free "range", .free "repr", .free "sorted", .free "str", .free "sum", .free "tuple", .free "zip"]
def ts : List (Str × List He.Dv) := [("WORDS", [.str "plus", .str "times", .str "greatest", .str "phases"])]
abbrev R : PySem.W.OpenRow := PySem.W.OpenLaw.row PySem.Challenge.rw_comestoend_k57_whole_bounds_reckoned
abbrev LAWAT : Nat := 49
abbrev hk : PySem.W.Hook := hookP 4 fa fn ts
def ob (s : PySem.W.SharedT) : He.AlD × Bool := obsP 4 fa fn ts (HandSHeadRun.getT s)
theorem ob_eq (s : PySem.W.SharedT) : ob s = hk.obs s.abs := obsP_eq (HandSHeadRun.getT_eq s)
abbrev LOOSE : List Str := [("is_whole" : Str), ("is_count" : Str), ("is_word" : Str), ("is_tuple_of" : Str), ("is_name" : Str), ("is_form" : Str), ("names_in" : Str), ("value_at" : Str), ("is_leaf" : Str), ("is_node" : Str), ("is_bound" : Str), ("parts_of" : Str), ("all_parts" : Str), ("steps_by_phases" : Str), ("joined" : Str), ("leaf_at" : Str), ("value_there" : Str), ("names_of_bound" : Str), ("are_told" : Str), ("bound_at" : Str), ("_law_purse" : Str), ("_law_mixed" : Str), ("_law_draw" : Str), ("_law_one_of" : Str), ("_law_exact" : Str), ("_law_purses" : Str), ("_law_form" : Str), ("_law_value" : Str), ("_law_drawn_form" : Str), ("_law_is_whole" : Str), ("_law_is_form" : Str), ("_law_leaf" : Str), ("_law_bound" : Str), ("_law_turns" : Str), ("_law_comes_to" : Str), ("_law_is_bound" : Str), ("_law_are_names" : Str), ("_law_bent" : Str), ("_law_right" : Str), ("EndError" : Str), ("InvalidBound" : Str), ("InvalidNumbers" : Str), ("WORDS" : Str)]
theorem facts {K : PySem.W.Frag} {h : Heap} {mg : Str → Option Value} (X : K.In h) (G : h.Ns mainGlobals mg) (c : SaysP fa fn ts K) : Facts K mg where
  n_all := He.free_ok X G (c.1.fact 40 (f := .free "all") rfl)
  n_bool := He.free_ok X G (c.1.fact 41 (f := .free "bool") rfl)
  n_dict := He.free_ok X G (c.1.fact 42 (f := .free "dict") rfl)
  n_int := He.free_ok X G (c.1.fact 43 (f := .free "int") rfl)
  n_isinstance := He.free_ok X G (c.1.fact 44 (f := .free "isinstance") rfl)
  n_len := He.free_ok X G (c.1.fact 45 (f := .free "len") rfl)
  n_list := He.free_ok X G (c.1.fact 46 (f := .free "list") rfl)
  n_max := He.free_ok X G (c.1.fact 47 (f := .free "max") rfl)
  n_min := He.free_ok X G (c.1.fact 48 (f := .free "min") rfl)
  n_range := He.free_ok X G (c.1.fact 49 (f := .free "range") rfl)
  n_repr := He.free_ok X G (c.1.fact 50 (f := .free "repr") rfl)
  n_sorted := He.free_ok X G (c.1.fact 51 (f := .free "sorted") rfl)
  n_str := He.free_ok X G (c.1.fact 52 (f := .free "str") rfl)
  n_sum := He.free_ok X G (c.1.fact 53 (f := .free "sum") rfl)
  n_tuple := He.free_ok X G (c.1.fact 54 (f := .free "tuple") rfl)
  n_zip := He.free_ok X G (c.1.fact 55 (f := .free "zip") rfl)
  gt_WORDS := c.tup X G 0 rfl (by decide) fun _ _ => .cons (.str "plus" (by decide +kernel) (by decide +kernel)) (.cons (.str "times" (by decide +kernel) (by decide +kernel)) (.cons (.str "greatest" (by decide +kernel) (by decide +kernel)) (.cons (.str "phases" (by decide +kernel) (by decide +kernel)) .nil)))
  f_is_whole := let ⟨fd, F⟩ := c.1.def_ 0 (d := d_is_whole) rfl; ⟨_, fd, He.glo_ok X G (c.1.fact 0 (f := .glo "is_whole") rfl), F⟩
  f_is_count := let ⟨fd, F⟩ := c.1.def_ 1 (d := d_is_count) rfl; ⟨_, fd, He.glo_ok X G (c.1.fact 1 (f := .glo "is_count") rfl), F⟩
  f_is_tuple_of := let ⟨fd, F⟩ := c.1.def_ 2 (d := d_is_tuple_of) rfl; ⟨_, fd, He.glo_ok X G (c.1.fact 2 (f := .glo "is_tuple_of") rfl), F⟩
  f_is_word := let ⟨fd, F⟩ := c.1.def_ 3 (d := d_is_word) rfl; ⟨_, fd, He.glo_ok X G (c.1.fact 3 (f := .glo "is_word") rfl), F⟩
  f_is_name := let ⟨fd, F⟩ := c.1.def_ 4 (d := d_is_name) rfl; ⟨_, fd, He.glo_ok X G (c.1.fact 4 (f := .glo "is_name") rfl), F⟩
  f_is_form := let ⟨fd, F⟩ := c.1.def_ 5 (d := d_is_form) rfl; ⟨_, fd, He.glo_ok X G (c.1.fact 5 (f := .glo "is_form") rfl), F⟩
  f_is_leaf := let ⟨fd, F⟩ := c.1.def_ 6 (d := d_is_leaf) rfl; ⟨_, fd, He.glo_ok X G (c.1.fact 6 (f := .glo "is_leaf") rfl), F⟩
  f_is_node := let ⟨fd, F⟩ := c.1.def_ 7 (d := d_is_node) rfl; ⟨_, fd, He.glo_ok X G (c.1.fact 7 (f := .glo "is_node") rfl), F⟩
  f_is_bound := let ⟨fd, F⟩ := c.1.def_ 8 (d := d_is_bound) rfl; ⟨_, fd, He.glo_ok X G (c.1.fact 8 (f := .glo "is_bound") rfl), F⟩
  f_parts_of := let ⟨fd, F⟩ := c.1.def_ 9 (d := d_parts_of) rfl; ⟨_, fd, He.glo_ok X G (c.1.fact 9 (f := .glo "parts_of") rfl), F⟩
  f_all_parts := let ⟨fd, F⟩ := c.1.def_ 10 (d := d_all_parts) rfl; ⟨_, fd, He.glo_ok X G (c.1.fact 10 (f := .glo "all_parts") rfl), F⟩
  f_steps_by_phases := let ⟨fd, F⟩ := c.1.def_ 11 (d := d_steps_by_phases) rfl; ⟨_, fd, He.glo_ok X G (c.1.fact 11 (f := .glo "steps_by_phases") rfl), F⟩
  f_joined := let ⟨fd, F⟩ := c.1.def_ 12 (d := d_joined) rfl; ⟨_, fd, He.glo_ok X G (c.1.fact 12 (f := .glo "joined") rfl), F⟩
  f_value_at := let ⟨fd, F⟩ := c.1.def_ 13 (d := d_value_at) rfl; ⟨_, fd, He.glo_ok X G (c.1.fact 13 (f := .glo "value_at") rfl), F⟩
  f_leaf_at := let ⟨fd, F⟩ := c.1.def_ 14 (d := d_leaf_at) rfl; ⟨_, fd, He.glo_ok X G (c.1.fact 14 (f := .glo "leaf_at") rfl), F⟩
  f_value_there := let ⟨fd, F⟩ := c.1.def_ 15 (d := d_value_there) rfl; ⟨_, fd, He.glo_ok X G (c.1.fact 15 (f := .glo "value_there") rfl), F⟩
  f_names_in := let ⟨fd, F⟩ := c.1.def_ 16 (d := d_names_in) rfl; ⟨_, fd, He.glo_ok X G (c.1.fact 16 (f := .glo "names_in") rfl), F⟩
  f_names_of_bound := let ⟨fd, F⟩ := c.1.def_ 17 (d := d_names_of_bound) rfl; ⟨_, fd, He.glo_ok X G (c.1.fact 17 (f := .glo "names_of_bound") rfl), F⟩
  f_are_told := let ⟨fd, F⟩ := c.1.def_ 18 (d := d_are_told) rfl; ⟨_, fd, He.glo_ok X G (c.1.fact 18 (f := .glo "are_told") rfl), F⟩
  f_bound_at := let ⟨fd, F⟩ := c.1.def_ 19 (d := d_bound_at) rfl; ⟨_, fd, He.glo_ok X G (c.1.fact 19 (f := .glo "bound_at") rfl), F⟩
  f_law_exact := let ⟨fd, F⟩ := c.1.def_ 20 (d := d_law_exact) rfl; ⟨_, fd, He.glo_ok X G (c.1.fact 20 (f := .glo "_law_exact") rfl), F⟩
  f_law_purse := let ⟨fd, F⟩ := c.1.def_ 21 (d := d_law_purse) rfl; ⟨_, fd, He.glo_ok X G (c.1.fact 21 (f := .glo "_law_purse") rfl), F⟩
  f_law_purses := let ⟨fd, F⟩ := c.1.def_ 22 (d := d_law_purses) rfl; ⟨_, fd, He.glo_ok X G (c.1.fact 22 (f := .glo "_law_purses") rfl), F⟩
  f_law_mixed := let ⟨fd, F⟩ := c.1.def_ 23 (d := d_law_mixed) rfl; ⟨_, fd, He.glo_ok X G (c.1.fact 23 (f := .glo "_law_mixed") rfl), F⟩
  f_law_draw := let ⟨fd, F⟩ := c.1.def_ 24 (d := d_law_draw) rfl; ⟨_, fd, He.glo_ok X G (c.1.fact 24 (f := .glo "_law_draw") rfl), F⟩
  f_law_one_of := let ⟨fd, F⟩ := c.1.def_ 25 (d := d_law_one_of) rfl; ⟨_, fd, He.glo_ok X G (c.1.fact 25 (f := .glo "_law_one_of") rfl), F⟩
  f_law_form := let ⟨fd, F⟩ := c.1.def_ 26 (d := d_law_form) rfl; ⟨_, fd, He.glo_ok X G (c.1.fact 26 (f := .glo "_law_form") rfl), F⟩
  f_law_drawn_form := let ⟨fd, F⟩ := c.1.def_ 27 (d := d_law_drawn_form) rfl; ⟨_, fd, He.glo_ok X G (c.1.fact 27 (f := .glo "_law_drawn_form") rfl), F⟩
  f_law_leaf := let ⟨fd, F⟩ := c.1.def_ 28 (d := d_law_leaf) rfl; ⟨_, fd, He.glo_ok X G (c.1.fact 28 (f := .glo "_law_leaf") rfl), F⟩
  f_law_bound := let ⟨fd, F⟩ := c.1.def_ 29 (d := d_law_bound) rfl; ⟨_, fd, He.glo_ok X G (c.1.fact 29 (f := .glo "_law_bound") rfl), F⟩
  f_law_value := let ⟨fd, F⟩ := c.1.def_ 30 (d := d_law_value) rfl; ⟨_, fd, He.glo_ok X G (c.1.fact 30 (f := .glo "_law_value") rfl), F⟩
  f_law_turns := let ⟨fd, F⟩ := c.1.def_ 31 (d := d_law_turns) rfl; ⟨_, fd, He.glo_ok X G (c.1.fact 31 (f := .glo "_law_turns") rfl), F⟩
  f_law_comes_to := let ⟨fd, F⟩ := c.1.def_ 32 (d := d_law_comes_to) rfl; ⟨_, fd, He.glo_ok X G (c.1.fact 32 (f := .glo "_law_comes_to") rfl), F⟩
  f_law_is_whole := let ⟨fd, F⟩ := c.1.def_ 33 (d := d_law_is_whole) rfl; ⟨_, fd, He.glo_ok X G (c.1.fact 33 (f := .glo "_law_is_whole") rfl), F⟩
  f_law_is_form := let ⟨fd, F⟩ := c.1.def_ 34 (d := d_law_is_form) rfl; ⟨_, fd, He.glo_ok X G (c.1.fact 34 (f := .glo "_law_is_form") rfl), F⟩
  f_law_are_names := let ⟨fd, F⟩ := c.1.def_ 35 (d := d_law_are_names) rfl; ⟨_, fd, He.glo_ok X G (c.1.fact 35 (f := .glo "_law_are_names") rfl), F⟩
  f_law_is_bound := let ⟨fd, F⟩ := c.1.def_ 36 (d := d_law_is_bound) rfl; ⟨_, fd, He.glo_ok X G (c.1.fact 36 (f := .glo "_law_is_bound") rfl), F⟩
  f_law_bent := let ⟨fd, F⟩ := c.1.def_ 37 (d := d_law_bent) rfl; ⟨_, fd, He.glo_ok X G (c.1.fact 37 (f := .glo "_law_bent") rfl), F⟩
  f_law_right := let ⟨fd, F⟩ := c.1.def_ 38 (d := d_law_right) rfl; ⟨_, fd, He.glo_ok X G (c.1.fact 38 (f := .glo "_law_right") rfl), F⟩
  f_law := let ⟨fd, F⟩ := c.1.def_ 39 (d := d_law) rfl; ⟨_, fd, He.glo_ok X G (c.1.fact 39 (f := .glo "law") rfl), F⟩
theorem theLaw {P : Program} {w : World} {K : PySem.W.Frag} {h : Heap} {mg : Str → Option Value} {f : Addr} (X : K.In h) (G : h.Ns mainGlobals mg) (hfa : mg ("law" : Str) = some (.ref f)) (c : SaysP fa fn ts K) :
    ∃ fd : FuncData, (∀ (s : Shared) (v : Value), BindsTo s fd ⟨[v], []⟩ [("script", v)]) ∧ ∀ base : Heap, K.In base → base.Ns mainGlobals mg → FnG P w K mg base CX0 48 f fd ["script"] (spM K mg 1 m_law) := by
  obtain ⟨fd, F⟩ := c.1.def_ 39 (d := d_law) rfl
  have e := hfa.symm.trans (He.glo_ok X G (c.1.fact 39 (f := .glo "law") rfl))
  cases e
  refine ⟨fd, fun s v => FunD.bindsA (ps := ["script"]) F (fun _ _ _ _ _ _ us hl => match us, hl with | [_], _ => rfl) s [v] rfl, fun base _ _ => ?_⟩
  obtain ⟨f', fd', h1, h2, h3⟩ := (c_law (P := P) (w := w) (base := base) (facts X G c)).ex
  rw [hfa] at h1
  cases h1
  have e2 : fd' = fd := by
    obtain ⟨_, _, _, _, _, _, _, _, _, _, e3, k3, _⟩ := h2.ex
    obtain ⟨_, _, _, _, _, _, _, _, _, _, e4, k4, _⟩ := F.ex
    have k5 := k3.symm.trans k4
    have z := congrArg (fun o : Option Obj => o.map (·.data)) k5
    simp only [Option.map_some, Option.some.injEq, Data.func.injEq] at z
    exact z
  rw [← e2]
  exact h3
theorem run (w : World) : HandSHeadRun.RunEq R (PySem.W.view R.prog [LAWAT]) hk ob 100000 LOOSE w := by
  intro os
  kernel_rfl
end K57
end
section
set_option Elab.async false
set_option linter.all false
set_option maxRecDepth 100000
set_option maxHeartbeats 1000000
set_option autoImplicit false
namespace K57
open PySem L2 PyProof.Rows PD
/-- a value with a type of its own -/
def Pl (d : D) : Prop := d.tyName.isSome = true ∧ d.isT = false
def isW : D → Bool
  | .int _ => true
  | _ => false
def isTup (n : Int) : D → Bool
  | .tup _ xs => (xs.length : Int) == n
  | _ => false
theorem e_whole (d : D) (cs : CS) (h : Pl d) : m_is_whole [d] cs = some (.sh (.bl (isW d)), cs) := by
  obtain ⟨h1, h2⟩ := h
  cases d with
  | dct k kvs => cases k <;> simp [m_is_whole, b_is_whole, N_is_whole, isW, runBody, sRet, sRetV, sRetN, sSeq, sIf, sAsg, sNext, sPar, sPar3, eAn, eOo, eNt, eIf, eN, eTup, eLst, e1, e2, t2, tV, tNt, tAn, tOo, eCh, tCh, aCons, aNil, eVar, eMov, eC, eIx, eSl, oNo, oAt, eCall, gN, gTpD, gConsD, gNilD, env0, keep_same, T.toD, T.toDs, dIsi, D.tyName, isKind, isAnyKind, D.isT, dLen, lenD, dEqX, dNeX, unlike, D.seqL, dEq, dNe, dEqv, D.isPy, D.isPys, D.py, D.pys, PyData.eqv, PyData.eqvAll, dNeg, dIx] at h2 ⊢
  | fn x => simp [D.tyName] at h1
  | ty x => simp [D.tyName] at h1
  | cell x => simp [D.tyName] at h1
  | _ => simp [m_is_whole, b_is_whole, N_is_whole, isW, runBody, sRet, sRetV, sRetN, sSeq, sIf, sAsg, sNext, sPar, sPar3, eAn, eOo, eNt, eIf, eN, eTup, eLst, e1, e2, t2, tV, tNt, tAn, tOo, eCh, tCh, aCons, aNil, eVar, eMov, eC, eIx, eSl, oNo, oAt, eCall, gN, gTpD, gConsD, gNilD, env0, keep_same, T.toD, T.toDs, dIsi, D.tyName, isKind, isAnyKind, D.isT, dLen, lenD, dEqX, dNeX, unlike, D.seqL, dEq, dNe, dEqv, D.isPy, D.isPys, D.py, D.pys, PyData.eqv, PyData.eqvAll, dNeg, dIx]
theorem e_lwhole (d : D) (cs : CS) (h : Pl d) : m_law_is_whole [d] cs = some (.sh (.bl (isW d)), cs) := by
  obtain ⟨h1, h2⟩ := h
  cases d with
  | dct k kvs => cases k <;> simp [m_law_is_whole, b_law_is_whole, N_law_is_whole, isW, runBody, sRet, sRetV, sRetN, sSeq, sIf, sAsg, sNext, sPar, sPar3, eAn, eOo, eNt, eIf, eN, eTup, eLst, e1, e2, t2, tV, tNt, tAn, tOo, eCh, tCh, aCons, aNil, eVar, eMov, eC, eIx, eSl, oNo, oAt, eCall, gN, gTpD, gConsD, gNilD, env0, keep_same, T.toD, T.toDs, dIsi, D.tyName, isKind, isAnyKind, D.isT, dLen, lenD, dEqX, dNeX, unlike, D.seqL, dEq, dNe, dEqv, D.isPy, D.isPys, D.py, D.pys, PyData.eqv, PyData.eqvAll, dNeg, dIx] at h2 ⊢
  | fn x => simp [D.tyName] at h1
  | ty x => simp [D.tyName] at h1
  | cell x => simp [D.tyName] at h1
  | _ => simp [m_law_is_whole, b_law_is_whole, N_law_is_whole, isW, runBody, sRet, sRetV, sRetN, sSeq, sIf, sAsg, sNext, sPar, sPar3, eAn, eOo, eNt, eIf, eN, eTup, eLst, e1, e2, t2, tV, tNt, tAn, tOo, eCh, tCh, aCons, aNil, eVar, eMov, eC, eIx, eSl, oNo, oAt, eCall, gN, gTpD, gConsD, gNilD, env0, keep_same, T.toD, T.toDs, dIsi, D.tyName, isKind, isAnyKind, D.isT, dLen, lenD, dEqX, dNeX, unlike, D.seqL, dEq, dNe, dEqv, D.isPy, D.isPys, D.py, D.pys, PyData.eqv, PyData.eqvAll, dNeg, dIx]
theorem e_tupOf (d : D) (n : Int) (cs : CS) (h : Pl d) : m_is_tuple_of [d, .int n] cs = some (.sh (.bl (isTup n d)), cs) := by
  obtain ⟨h1, h2⟩ := h
  cases d with
  | dct k kvs => cases k <;> simp [m_is_tuple_of, b_is_tuple_of, N_is_tuple_of, isTup, runBody, sRet, sRetV, sRetN, sSeq, sIf, sAsg, sNext, sPar, sPar3, eAn, eOo, eNt, eIf, eN, eTup, eLst, e1, e2, t2, tV, tNt, tAn, tOo, eCh, tCh, aCons, aNil, eVar, eMov, eC, eIx, eSl, oNo, oAt, eCall, gN, gTpD, gConsD, gNilD, env0, keep_same, T.toD, T.toDs, dIsi, D.tyName, isKind, isAnyKind, D.isT, dLen, lenD, dEqX, dNeX, unlike, D.seqL, dEq, dNe, dEqv, D.isPy, D.isPys, D.py, D.pys, PyData.eqv, PyData.eqvAll, dNeg, dIx] at h2 ⊢
  | fn x => simp [D.tyName] at h1
  | ty x => simp [D.tyName] at h1
  | cell x => simp [D.tyName] at h1
  | _ => simp [m_is_tuple_of, b_is_tuple_of, N_is_tuple_of, isTup, runBody, sRet, sRetV, sRetN, sSeq, sIf, sAsg, sNext, sPar, sPar3, eAn, eOo, eNt, eIf, eN, eTup, eLst, e1, e2, t2, tV, tNt, tAn, tOo, eCh, tCh, aCons, aNil, eVar, eMov, eC, eIx, eSl, oNo, oAt, eCall, gN, gTpD, gConsD, gNilD, env0, keep_same, T.toD, T.toDs, dIsi, D.tyName, isKind, isAnyKind, D.isT, dLen, lenD, dEqX, dNeX, unlike, D.seqL, dEq, dNe, dEqv, D.isPy, D.isPys, D.py, D.pys, PyData.eqv, PyData.eqvAll, dNeg, dIx]
theorem e_count (d : D) (n : Int) (cs : CS) (h : Pl d) : m_is_count [d, .int n] cs = some (.sh (.bl (match d with | .int i => decide (0 ≤ i ∧ n ≤ i) | _ => false)), cs) := by
  have hw := fun cs => e_whole d cs h
  obtain ⟨h1, h2⟩ := h
  cases d with
  | fn x => simp [D.tyName] at h1
  | ty x => simp [D.tyName] at h1
  | cell x => simp [D.tyName] at h1
  | int i =>
    simp [m_is_count, b_is_count, N_is_count, isW, hw, dGe, dMax2, runBody, sRet, sRetV, sRetN, sSeq, sIf, sAsg, sNext, sPar, sPar3, eAn, eOo, eNt, eIf, eN, eTup, eLst, e1, e2, t2, tV, tNt, tAn, tOo, eCh, tCh, aCons, aNil, eVar, eMov, eC, eIx, eSl, oNo, oAt, eCall, gN, gTpD, gConsD, gNilD, env0, keep_same, T.toD, T.toDs, dIsi, D.tyName, isKind, isAnyKind, D.isT, dLen, lenD, dEqX, dNeX, unlike, D.seqL, dEq, dNe, dEqv, D.isPy, D.isPys, D.py, D.pys, PyData.eqv, PyData.eqvAll, dNeg, dIx]
    by_cases hn : n < 0 <;> simp [hn] <;> omega
  | _ => simp [m_is_count, b_is_count, N_is_count, isW, hw, dGe, dMax2, runBody, sRet, sRetV, sRetN, sSeq, sIf, sAsg, sNext, sPar, sPar3, eAn, eOo, eNt, eIf, eN, eTup, eLst, e1, e2, t2, tV, tNt, tAn, tOo, eCh, tCh, aCons, aNil, eVar, eMov, eC, eIx, eSl, oNo, oAt, eCall, gN, gTpD, gConsD, gNilD, env0, keep_same, T.toD, T.toDs, dIsi, D.tyName, isKind, isAnyKind, D.isT, dLen, lenD, dEqX, dNeX, unlike, D.seqL, dEq, dNe, dEqv, D.isPy, D.isPys, D.py, D.pys, PyData.eqv, PyData.eqvAll, dNeg, dIx]
/-- the cells are purses: at most four -/
abbrev Pu (a b c d : Int) : T := .lst [.sh (.int a), .sh (.int b), .sh (.int c), .sh (.int d)]
inductive Shape : CS → Prop
  | c1 (a b c d : Int) : Shape [Pu a b c d]
  | c2 (a b c d a2 b2 c2 d2 : Int) : Shape [Pu a b c d, Pu a2 b2 c2 d2]
  | c3 (a b c d a2 b2 c2 d2 a3 b3 c3 d3 : Int) : Shape [Pu a b c d, Pu a2 b2 c2 d2, Pu a3 b3 c3 d3]
  | c4 (a b c d a2 b2 c2 d2 a3 b3 c3 d3 a4 b4 c4 d4 : Int) : Shape [Pu a b c d, Pu a2 b2 c2 d2, Pu a3 b3 c3 d3, Pu a4 b4 c4 d4]
theorem Shape.flat {cs : CS} (h : Shape cs) : cs.all T.cellFlat = true := by cases h <;> rfl
theorem e_name_x {cs : CS} (h : Shape cs) : m_is_name [.str "x"] cs = some (.sh (.bl true), cs) := by cases h <;> kernel_rfl
theorem e_name_y {cs : CS} (h : Shape cs) : m_is_name [.str "y@"] cs = some (.sh (.bl true), cs) := by cases h <;> kernel_rfl
theorem e_name_z {cs : CS} (h : Shape cs) : m_is_name [.str "z"] cs = some (.sh (.bl true), cs) := by cases h <;> kernel_rfl
theorem e_name_X {cs : CS} (h : Shape cs) : m_is_name [.str "X"] cs = some (.sh (.bl false), cs) := by cases h <;> kernel_rfl
theorem e_name_aa {cs : CS} (h : Shape cs) : m_is_name [.str "aa"] cs = some (.sh (.bl true), cs) := by cases h <;> kernel_rfl
theorem e_great {cs : CS} (h : Shape cs) : m_is_bound [.tup .ex [.str "plus", .lst []]] cs = some (.sh (.bl false), cs) := by cases h <;> kernel_rfl
end K57
end
section
set_option Elab.async false
set_option linter.all false
set_option maxRecDepth 100000
set_option maxHeartbeats 2000000
set_option autoImplicit false
namespace K57
open PySem L2 PyProof.Rows PD
/-! ### the purse -/
theorem log2_lt' {n k : Nat} (h : n < 2 ^ k) (hk : 0 < k) : n.log2 < k := by
  by_cases hn : n = 0
  · subst hn; simpa using hk
  · exact (Nat.log2_lt hn).mpr h
theorem cmul {a b : Int} (ha : a.natAbs < 2 ^ 250) (hb : b.natAbs < 2 ^ 250) : CMulW a b := by
  unfold CMulW
  have h1 := log2_lt' ha (by decide)
  have h2 := log2_lt' hb (by decide)
  omega
theorem cdiv {a b : Int} (hb : 0 < b) (hb' : b.natAbs < 2 ^ 250) : CDivW a b := ⟨hb, by have := log2_lt' hb' (by decide); omega⟩
theorem big {a : Int} (n : Nat) (h1 : -(2 ^ n) < a) (h2 : a < 2 ^ n) (hn : n ≤ 250) : a.natAbs < 2 ^ 250 := by
  have e : (2 : Nat) ^ n ≤ 2 ^ 250 := Nat.pow_le_pow_right (by decide) hn
  have e2 : ((2 : Int) ^ n) = ((2 ^ n : Nat) : Int) := by simp
  rw [e2] at h1 h2
  omega
theorem mul_big {a b : Int} {m n : Nat} (ha : a.natAbs < 2 ^ m) (hb : b.natAbs < 2 ^ n) : (a * b).natAbs < 2 ^ (m + n) := by
  rw [Int.natAbs_mul, Nat.pow_add]
  have h1 : 0 < 2 ^ m := Nat.pow_pos (by decide)
  have h2 : 0 < 2 ^ n := Nat.pow_pos (by decide)
  exact Nat.lt_of_le_of_lt (Nat.mul_le_mul_right _ (Nat.le_of_lt ha)) ((Nat.mul_lt_mul_left h1).mpr hb)
theorem e_mixed {s c d : Int} {cs : CS} (hs : 0 ≤ s) (hs' : s < 2147483629) (hc : 0 ≤ c) (hc' : c < 2 ^ 60) (hd : 0 ≤ d) (hd' : d < 100) : ∃ r, m_law_mixed [.int s, .int c, .int d] cs = some (.sh (.int r), cs) ∧ 0 ≤ r ∧ r < 2147483587 := by
  have n1 : s.natAbs < 2 ^ 32 := by omega
  have n2 : c.natAbs < 2 ^ 60 := by omega
  have m1 : CMulW s 69069 := cmul (by omega) (by decide)
  have m2 : CMulW 104729 c := cmul (by decide) (by omega)
  have n3 : (104729 * c).natAbs < 2 ^ (17 + 60) := mul_big (by decide) n2
  have m3 : CMulW (104729 * c) c := cmul (by omega) (by omega)
  have m4 : CMulW 7919 d := cmul (by decide) (by omega)
  generalize hx : s * 69069 + 104729 * c * c = x
  generalize hy : (x + 7919 * d + c) % 2147483647 = y
  have hy0 : 0 ≤ y := by rw [← hy]; exact Int.emod_nonneg _ (by decide)
  have hy1 : y < 2147483647 := by rw [← hy]; exact Int.emod_lt_of_pos _ (by decide)
  have m5 : CMulW y y := cmul (by omega) (by omega)
  generalize hz : (y * y + 40503) % 2147483629 = z
  have hz0 : 0 ≤ z := by rw [← hz]; exact Int.emod_nonneg _ (by decide)
  have hz1 : z < 2147483629 := by rw [← hz]; exact Int.emod_lt_of_pos _ (by decide)
  have m6 : CMulW z 48271 := cmul (by omega) (by decide)
  refine ⟨(z * 48271) % 2147483587, ?_, Int.emod_nonneg _ (by decide), Int.emod_lt_of_pos _ (by decide)⟩
  simp [m_law_mixed, b_law_mixed, N_law_mixed, dMul, dMod, dInt, eAdd, catT, dAdd, m1, m2, m3, m4, hx, hy, m5, hz, m6, runBody, sRet, sRetV, sRetN, sSeq, sIf, sAsg, sNext, sPar, sPar3, eAn, eOo, eNt, eIf, eN, eTup, eLst, e1, e2, t2, tV, tNt, tAn, tOo, eCh, tCh, aCons, aNil, eVar, eMov, eC, eIx, eSl, oNo, oAt, eCall, gN, gTpD, gConsD, gNilD, env0, keep_same, T.toD, T.toDs, dIsi, D.tyName, isKind, isAnyKind, D.isT, dLen, lenD, dEqX, dNeX, unlike, D.seqL, dEq, dNe, dEqv, D.isPy, D.isPys, D.py, D.pys, PyData.eqv, PyData.eqvAll, dNeg, dIx]
/-- a cell among so many -/
structure Ix where
  i : Nat
  L : Nat
instance : Coe Ix Nat := ⟨Ix.i⟩
/-- a purse: what is left, a seed, a count, a place -/
def Purse (n : Nat) (t : Option T) : Prop := ∃ a b c d : Int, t = some (Pu a b c d) ∧ 0 ≤ a ∧ 0 ≤ b ∧ b < 2147483629 ∧ 0 ≤ c ∧ c ≤ n ∧ 0 ≤ d ∧ d < 100
/-- all cells are purses -/
structure Ok (n : Nat) (i : Ix) (cs : CS) : Prop where
  sh : Shape cs
  len : cs.length = i.L
  lt : i.i < i.L
  all : ∀ j : Nat, j < cs.length → Purse n cs[j]?
theorem Shape.set {cs : CS} (h : Shape cs) (i : Nat) (a b c d : Int) : Shape (cs.set i (Pu a b c d)) := by
  cases h with
  | c1 =>
    match i with
    | 0 => exact .c1 ..
    | n + 1 => exact .c1 ..
  | c2 =>
    match i with
    | 0 => exact .c2 ..
    | 1 => exact .c2 ..
    | n + 2 => exact .c2 ..
  | c3 =>
    match i with
    | 0 => exact .c3 ..
    | 1 => exact .c3 ..
    | 2 => exact .c3 ..
    | n + 3 => exact .c3 ..
  | c4 =>
    match i with
    | 0 => exact .c4 ..
    | 1 => exact .c4 ..
    | 2 => exact .c4 ..
    | 3 => exact .c4 ..
    | n + 4 => exact .c4 ..
theorem at0 {x0 x1 x2 x3 : T} : atI [x0, x1, x2, x3] (0 : Int) = some x0 := rfl
theorem at1 {x0 x1 x2 x3 : T} : atI [x0, x1, x2, x3] (1 : Int) = some x1 := rfl
theorem at2 {x0 x1 x2 x3 : T} : atI [x0, x1, x2, x3] (2 : Int) = some x2 := rfl
theorem at3 {x0 x1 x2 x3 : T} : atI [x0, x1, x2, x3] (3 : Int) = some x3 := rfl
theorem ix40 : ixN 4 (0 : Int) = some 0 := rfl
theorem ix42 : ixN 4 (2 : Int) = some 2 := rfl
theorem bits_few {m : Int} (h1 : 1 ≤ m) (h2 : m ≤ 1000) : ((Builtin.Int.intBits m : Nat) : Int) / 28 = 0 := by
  have h : m.natAbs < 2 ^ 10 := by omega
  have h3 := log2_lt' h (by decide)
  have h4 : Builtin.Int.intBits m ≤ m.natAbs.log2 + 1 := by
    unfold Builtin.Int.intBits
    split <;> omega
  omega
theorem one_turn : intsD 0 1 = [D.int 0] := rfl
theorem Purse.mono {n m : Nat} {t : Option T} (h : Purse n t) (hm : n ≤ m) : Purse m t := by
  obtain ⟨a, b, c, d, hc, ha, hb, hb', hcc, hcn, hd, hd'⟩ := h
  exact ⟨a, b, c, d, hc, ha, hb, hb', hcc, by omega, hd, hd'⟩
theorem Ok.put {n : Nat} {i : Ix} {cs : CS} (h : Ok n i cs) {a b c d : Int} (hp : Purse (n + 1) (some (Pu a b c d))) : Ok (n + 1) i (cs.set i (Pu a b c d)) where
  sh := h.sh.set ..
  len := by rw [List.length_set]; exact h.len
  lt := h.lt
  all := fun j hj => by
    rw [List.length_set] at hj
    by_cases hji : i.i = j
    · subst hji
      rw [List.getElem?_set_self hj]
      exact hp
    · rw [List.getElem?_set_ne hji]
      exact (h.all j hj).mono (by omega)
theorem e_draw {n : Nat} {i : Ix} {m : Int} {cs : CS} (h : Ok n i cs) (hn : n < 2 ^ 50) (hm : 1 ≤ m) (hm' : m ≤ 1000) : ∃ r cs', m_law_draw [.cell i, .int m] cs = some (.sh (.int r), cs') ∧ 0 ≤ r ∧ r < m ∧ Ok (n + 1) i cs' := by
  obtain ⟨hS, hL, hlt, hall⟩ := id h
  have hi : i.i < cs.length := by omega
  obtain ⟨a, b, c, d, hc, ha, hb, hb', hcc, hcn, hd, hd'⟩ := hall i.i hi
  have hself : ∀ x : T, (cs.set i.i x)[i.i]? = some x := fun x => List.getElem?_set_self hi
  by_cases hpos : 0 < a
  · have k1 : CDivW a m := cdiv (by omega) (by omega)
    refine ⟨a % m, cs.set i.i (Pu (a / m) b c d), ?_, Int.emod_nonneg _ (by omega), Int.emod_lt_of_pos _ (by omega), h.put ⟨_, _, _, _, rfl, Int.ediv_nonneg ha (by omega), hb, hb', hcc, by omega, hd, hd'⟩⟩
    have hm0 : 0 < m := by omega
    simp [m_law_draw, b_law_draw, N_law_draw, dGt, dMod, dInt, dFdiv, sIx, hc, at0, ix40, hpos, hm0, k1, runBody, sRet, sRetV, sRetN, sSeq, sIf, sAsg, sNext, sPar, sPar3, eAn, eOo, eNt, eIf, eN, eTup, eLst, e1, e2, t2, tV, tNt, tAn, tOo, eCh, tCh, aCons, aNil, eVar, eMov, eC, eIx, eSl, oNo, oAt, eCall, gN, gTpD, gConsD, gNilD, env0, keep_same, T.toD, T.toDs, dIsi, D.tyName, isKind, isAnyKind, D.isT, dLen, lenD, dEqX, dNeX, unlike, D.seqL, dEq, dNe, dEqv, D.isPy, D.isPys, D.py, D.pys, PyData.eqv, PyData.eqvAll, dNeg, dIx]
  · have k1 := bits_few hm hm'
    have k2 : CDivW ((Builtin.Int.intBits m : Nat) : Int) 28 := cdiv (by decide) (by decide)
    obtain ⟨r, hr, r1, r2⟩ := e_mixed (s := b) (c := c + 1) (d := d) (cs := cs.set i.i (Pu a b (c + 1) d)) hb hb' (by omega) (by omega) hd hd'
    have k3 : CMulW 0 2147483587 := by decide
    have hm0 : 0 < m := by omega
    refine ⟨r % m, cs.set i.i (Pu a b (c + 1) d), ?_, Int.emod_nonneg _ (by omega), Int.emod_lt_of_pos _ (by omega), h.put ⟨_, _, _, _, rfl, ha, hb, hb', by omega, by omega, hd, hd'⟩⟩
    have k4 : ¬ (a > 0) := hpos
    simp [m_law_draw, b_law_draw, N_law_draw, dGt, dMod, dInt, dMul, dFdiv, dBits, dAdd, eAdd, catT, sIx, sFor, iRg1, forL, hc, at0, at1, at2, at3, ix40, ix42, hpos, hm0, k1, k2, k3, one_turn, hself, hr, runBody, sRet, sRetV, sRetN, sSeq, sIf, sAsg, sNext, sPar, sPar3, eAn, eOo, eNt, eIf, eN, eTup, eLst, e1, e2, t2, tV, tNt, tAn, tOo, eCh, tCh, aCons, aNil, eVar, eMov, eC, eIx, eSl, oNo, oAt, eCall, gN, gTpD, gConsD, gNilD, env0, keep_same, T.toD, T.toDs, dIsi, D.tyName, isKind, isAnyKind, D.isT, dLen, lenD, dEqX, dNeX, unlike, D.seqL, dEq, dNe, dEqv, D.isPy, D.isPys, D.py, D.pys, PyData.eqv, PyData.eqvAll, dNeg, dIx]
end K57
end
section
set_option Elab.async false
set_option linter.all false
set_option maxRecDepth 100000
set_option maxHeartbeats 2000000
set_option autoImplicit false
namespace K57
open PySem L2 PyProof.Rows PD
theorem atI_ok {α : Type} {xs : List α} {r : Int} (h0 : 0 ≤ r) (h1 : r < (xs.length : Int)) : ∃ x, x ∈ xs ∧ atI xs r = some x := by
  obtain ⟨k, rfl⟩ := Int.eq_ofNat_of_zero_le h0
  have hk : k < xs.length := by omega
  refine ⟨xs[k], List.getElem_mem hk, ?_⟩
  unfold atI ixN
  have e1 : (0 : Int) ≤ (k : Int) := by omega
  have e2 : (k : Int) < (xs.length : Int) := by omega
  simp [e1, e2, hk]
theorem e_one_of {n : Nat} {i : Ix} {xs : List D} {cs : CS} (h : Ok n i cs) (hn : n < 2 ^ 50) (h1 : 1 ≤ xs.length) (h2 : xs.length ≤ 1000) : ∃ x cs', x ∈ xs ∧ m_law_one_of [.cell i, .lst xs] cs = some (.sh x, cs') ∧ Ok (n + 1) i cs' := by
  obtain ⟨r, cs', e, r0, r1, ok⟩ := e_draw (m := (xs.length : Int)) h hn (by omega) (by omega)
  obtain ⟨x, hx, ex⟩ := atI_ok (xs := xs) r0 r1
  refine ⟨x, cs', hx, ?_, ok⟩
  simp [m_law_one_of, b_law_one_of, N_law_one_of, e, ex, runBody, sRet, sRetV, sRetN, sSeq, sIf, sAsg, sNext, sPar, sPar3, eAn, eOo, eNt, eIf, eN, eTup, eLst, e1, e2, t2, tV, tNt, tAn, tOo, eCh, tCh, aCons, aNil, eVar, eMov, eC, eIx, eSl, oNo, oAt, eCall, gN, gTpD, gConsD, gNilD, env0, keep_same, T.toD, T.toDs, dIsi, D.tyName, isKind, isAnyKind, D.isT, dLen, lenD, dEqX, dNeX, unlike, D.seqL, dEq, dNe, dEqv, D.isPy, D.isPys, D.py, D.pys, PyData.eqv, PyData.eqvAll, dNeg, dIx]
/-! ### forms -/
abbrev X : Str := "x"
abbrev Y : Str := "y@"
abbrev pairD (p : Str × Int) : D := .tup .ex [.str p.1, .int p.2]
theorem so0 : dSorted [.dct .K []] = some (.lst []) := by kernel_rfl
theorem so1X (v : D) : dSorted [.dct .K [(.str X, v)]] = some (.lst [.sh (.str X)]) := by kernel_rfl
theorem so1Y (v : D) : dSorted [.dct .K [(.str Y, v)]] = some (.lst [.sh (.str Y)]) := by kernel_rfl
theorem so (v w : D) : dSorted [.dct .K [(.str Y, v), (.str X, w)]] = some (.lst [.sh (.str X), .sh (.str Y)]) := by
  have e : [D.str Y, D.str X].mergeSort leD = [D.str X, D.str Y] := by
    have h : leD (D.str Y) (D.str X) = false := by decide +kernel
    simp [List.mergeSort, List.MergeSort.Internal.splitInTwo, List.merge, h]
  unfold dSorted
  simp [keysD, e]
  decide +kernel
theorem so2 (v w : D) : dSorted [.dct .K [(.str X, v), (.str Y, w)]] = some (.lst [.sh (.str X), .sh (.str Y)]) := by
  have e : [D.str X, D.str Y].mergeSort leD = [D.str X, D.str Y] := by
    have h : leD (D.str X) (D.str Y) = true := by decide +kernel
    simp [List.mergeSort, List.MergeSort.Internal.splitInTwo, List.merge, h]
  unfold dSorted
  simp [keysD, e]
  decide +kernel
end K57
namespace K57
open PySem L2 PyProof.Rows PD
theorem r5 : List.range 5 = [0, 1, 2, 3, 4] := rfl
theorem sl0 : 0 < sizeLine := by decide
theorem sl1 : 1 < sizeLine := by decide
theorem kXX : isKey (Sum.inr X) (D.str X) = true := by decide +kernel
theorem kYY : isKey (Sum.inr Y) (D.str Y) = true := by decide +kernel
theorem kXY : isKey (Sum.inr X) (D.str Y) = false := by decide +kernel
theorem kYX : isKey (Sum.inr Y) (D.str X) = false := by decide +kernel
theorem f_xy (k f1 f2 : Int) (cs : CS) (hf : cs.all T.cellFlat = true) (h1 : f1 ≠ 0) (h2 : f2 ≠ 0) : m_law_form [.int k, .lst [pairD (X, f1), pairD (Y, f2)]] cs = some (.sh (.tup .ex [.int k, .tup .pl [pairD (X, f1), pairD (Y, f2)]]), cs) := by
  simp [h1, h2, r5, dGet2, sl0, sl1, m_law_form, b_law_form, N_law_form, eNewK, sFor, iSeq, itemsOf, forL, sPut, eGet2, D.key?, look, putD, kXX, kYY, kXY, kYX, eAdd, catT, dAdd, T.toKs, so, so2, eComp, compL, ownOk, wipeE, backE, keep, hf, T.flat, D.flat, D.flats, dTuple, kD, runBody, sRet, sRetV, sRetN, sSeq, sIf, sAsg, sNext, sPar, sPar3, eAn, eOo, eNt, eIf, eN, eTup, eLst, e1, e2, t2, tV, tNt, tAn, tOo, eCh, tCh, aCons, aNil, eVar, eMov, eC, eIx, eSl, oNo, oAt, eCall, gN, gTpD, gConsD, gNilD, env0, keep_same, T.toD, T.toDs, dIsi, D.tyName, isKind, isAnyKind, D.isT, dLen, lenD, dEqX, dNeX, unlike, D.seqL, dEq, dNe, dEqv, D.isPy, D.isPys, D.py, D.pys, PyData.eqv, PyData.eqvAll, dNeg, dIx]
theorem f_yx (k f1 f2 : Int) (cs : CS) (hf : cs.all T.cellFlat = true) (h1 : f1 ≠ 0) (h2 : f2 ≠ 0) : m_law_form [.int k, .lst [pairD (Y, f1), pairD (X, f2)]] cs = some (.sh (.tup .ex [.int k, .tup .pl [pairD (X, f2), pairD (Y, f1)]]), cs) := by
  simp [h1, h2, r5, dGet2, sl0, sl1, m_law_form, b_law_form, N_law_form, eNewK, sFor, iSeq, itemsOf, forL, sPut, eGet2, D.key?, look, putD, kXX, kYY, kXY, kYX, eAdd, catT, dAdd, T.toKs, so, so2, eComp, compL, ownOk, wipeE, backE, keep, hf, T.flat, D.flat, D.flats, dTuple, kD, runBody, sRet, sRetV, sRetN, sSeq, sIf, sAsg, sNext, sPar, sPar3, eAn, eOo, eNt, eIf, eN, eTup, eLst, e1, e2, t2, tV, tNt, tAn, tOo, eCh, tCh, aCons, aNil, eVar, eMov, eC, eIx, eSl, oNo, oAt, eCall, gN, gTpD, gConsD, gNilD, env0, keep_same, T.toD, T.toDs, dIsi, D.tyName, isKind, isAnyKind, D.isT, dLen, lenD, dEqX, dNeX, unlike, D.seqL, dEq, dNe, dEqv, D.isPy, D.isPys, D.py, D.pys, PyData.eqv, PyData.eqvAll, dNeg, dIx]
theorem f_xx (k f1 f2 : Int) (cs : CS) (hf : cs.all T.cellFlat = true) (h1 : f1 + f2 ≠ 0) : m_law_form [.int k, .lst [pairD (X, f1), pairD (X, f2)]] cs = some (.sh (.tup .ex [.int k, .tup .pl [pairD (X, f1 + f2)]]), cs) := by
  simp [h1, so1X, so1Y, r5, dGet2, sl0, sl1, m_law_form, b_law_form, N_law_form, eNewK, sFor, iSeq, itemsOf, forL, sPut, eGet2, D.key?, look, putD, kXX, kYY, kXY, kYX, eAdd, catT, dAdd, T.toKs, so, so2, eComp, compL, ownOk, wipeE, backE, keep, hf, T.flat, D.flat, D.flats, dTuple, kD, runBody, sRet, sRetV, sRetN, sSeq, sIf, sAsg, sNext, sPar, sPar3, eAn, eOo, eNt, eIf, eN, eTup, eLst, e1, e2, t2, tV, tNt, tAn, tOo, eCh, tCh, aCons, aNil, eVar, eMov, eC, eIx, eSl, oNo, oAt, eCall, gN, gTpD, gConsD, gNilD, env0, keep_same, T.toD, T.toDs, dIsi, D.tyName, isKind, isAnyKind, D.isT, dLen, lenD, dEqX, dNeX, unlike, D.seqL, dEq, dNe, dEqv, D.isPy, D.isPys, D.py, D.pys, PyData.eqv, PyData.eqvAll, dNeg, dIx]
theorem f_yy (k f1 f2 : Int) (cs : CS) (hf : cs.all T.cellFlat = true) (h1 : f1 + f2 ≠ 0) : m_law_form [.int k, .lst [pairD (Y, f1), pairD (Y, f2)]] cs = some (.sh (.tup .ex [.int k, .tup .pl [pairD (Y, f1 + f2)]]), cs) := by
  simp [h1, so1X, so1Y, r5, dGet2, sl0, sl1, m_law_form, b_law_form, N_law_form, eNewK, sFor, iSeq, itemsOf, forL, sPut, eGet2, D.key?, look, putD, kXX, kYY, kXY, kYX, eAdd, catT, dAdd, T.toKs, so, so2, eComp, compL, ownOk, wipeE, backE, keep, hf, T.flat, D.flat, D.flats, dTuple, kD, runBody, sRet, sRetV, sRetN, sSeq, sIf, sAsg, sNext, sPar, sPar3, eAn, eOo, eNt, eIf, eN, eTup, eLst, e1, e2, t2, tV, tNt, tAn, tOo, eCh, tCh, aCons, aNil, eVar, eMov, eC, eIx, eSl, oNo, oAt, eCall, gN, gTpD, gConsD, gNilD, env0, keep_same, T.toD, T.toDs, dIsi, D.tyName, isKind, isAnyKind, D.isT, dLen, lenD, dEqX, dNeX, unlike, D.seqL, dEq, dNe, dEqv, D.isPy, D.isPys, D.py, D.pys, PyData.eqv, PyData.eqvAll, dNeg, dIx]
theorem f_xx0 (k f1 f2 : Int) (cs : CS) (hf : cs.all T.cellFlat = true) (h1 : f1 + f2 = 0) : m_law_form [.int k, .lst [pairD (X, f1), pairD (X, f2)]] cs = some (.sh (.tup .ex [.int k, .tup .pl []]), cs) := by
  simp [h1, so1X, so1Y, r5, dGet2, sl0, sl1, m_law_form, b_law_form, N_law_form, eNewK, sFor, iSeq, itemsOf, forL, sPut, eGet2, D.key?, look, putD, kXX, kYY, kXY, kYX, eAdd, catT, dAdd, T.toKs, so, so2, eComp, compL, ownOk, wipeE, backE, keep, hf, T.flat, D.flat, D.flats, dTuple, kD, runBody, sRet, sRetV, sRetN, sSeq, sIf, sAsg, sNext, sPar, sPar3, eAn, eOo, eNt, eIf, eN, eTup, eLst, e1, e2, t2, tV, tNt, tAn, tOo, eCh, tCh, aCons, aNil, eVar, eMov, eC, eIx, eSl, oNo, oAt, eCall, gN, gTpD, gConsD, gNilD, env0, keep_same, T.toD, T.toDs, dIsi, D.tyName, isKind, isAnyKind, D.isT, dLen, lenD, dEqX, dNeX, unlike, D.seqL, dEq, dNe, dEqv, D.isPy, D.isPys, D.py, D.pys, PyData.eqv, PyData.eqvAll, dNeg, dIx]
theorem f_yy0 (k f1 f2 : Int) (cs : CS) (hf : cs.all T.cellFlat = true) (h1 : f1 + f2 = 0) : m_law_form [.int k, .lst [pairD (Y, f1), pairD (Y, f2)]] cs = some (.sh (.tup .ex [.int k, .tup .pl []]), cs) := by
  simp [h1, so1X, so1Y, r5, dGet2, sl0, sl1, m_law_form, b_law_form, N_law_form, eNewK, sFor, iSeq, itemsOf, forL, sPut, eGet2, D.key?, look, putD, kXX, kYY, kXY, kYX, eAdd, catT, dAdd, T.toKs, so, so2, eComp, compL, ownOk, wipeE, backE, keep, hf, T.flat, D.flat, D.flats, dTuple, kD, runBody, sRet, sRetV, sRetN, sSeq, sIf, sAsg, sNext, sPar, sPar3, eAn, eOo, eNt, eIf, eN, eTup, eLst, e1, e2, t2, tV, tNt, tAn, tOo, eCh, tCh, aCons, aNil, eVar, eMov, eC, eIx, eSl, oNo, oAt, eCall, gN, gTpD, gConsD, gNilD, env0, keep_same, T.toD, T.toDs, dIsi, D.tyName, isKind, isAnyKind, D.isT, dLen, lenD, dEqX, dNeX, unlike, D.seqL, dEq, dNe, dEqv, D.isPy, D.isPys, D.py, D.pys, PyData.eqv, PyData.eqvAll, dNeg, dIx]
theorem f_x (k f1 : Int) (cs : CS) (hf : cs.all T.cellFlat = true) (h1 : f1 ≠ 0) : m_law_form [.int k, .lst [pairD (X, f1)]] cs = some (.sh (.tup .ex [.int k, .tup .pl [pairD (X, f1)]]), cs) := by
  simp [h1, so1X, so1Y, r5, dGet2, sl0, sl1, m_law_form, b_law_form, N_law_form, eNewK, sFor, iSeq, itemsOf, forL, sPut, eGet2, D.key?, look, putD, kXX, kYY, kXY, kYX, eAdd, catT, dAdd, T.toKs, so, so2, eComp, compL, ownOk, wipeE, backE, keep, hf, T.flat, D.flat, D.flats, dTuple, kD, runBody, sRet, sRetV, sRetN, sSeq, sIf, sAsg, sNext, sPar, sPar3, eAn, eOo, eNt, eIf, eN, eTup, eLst, e1, e2, t2, tV, tNt, tAn, tOo, eCh, tCh, aCons, aNil, eVar, eMov, eC, eIx, eSl, oNo, oAt, eCall, gN, gTpD, gConsD, gNilD, env0, keep_same, T.toD, T.toDs, dIsi, D.tyName, isKind, isAnyKind, D.isT, dLen, lenD, dEqX, dNeX, unlike, D.seqL, dEq, dNe, dEqv, D.isPy, D.isPys, D.py, D.pys, PyData.eqv, PyData.eqvAll, dNeg, dIx]
theorem f_y (k f1 : Int) (cs : CS) (hf : cs.all T.cellFlat = true) (h1 : f1 ≠ 0) : m_law_form [.int k, .lst [pairD (Y, f1)]] cs = some (.sh (.tup .ex [.int k, .tup .pl [pairD (Y, f1)]]), cs) := by
  simp [h1, so1X, so1Y, r5, dGet2, sl0, sl1, m_law_form, b_law_form, N_law_form, eNewK, sFor, iSeq, itemsOf, forL, sPut, eGet2, D.key?, look, putD, kXX, kYY, kXY, kYX, eAdd, catT, dAdd, T.toKs, so, so2, eComp, compL, ownOk, wipeE, backE, keep, hf, T.flat, D.flat, D.flats, dTuple, kD, runBody, sRet, sRetV, sRetN, sSeq, sIf, sAsg, sNext, sPar, sPar3, eAn, eOo, eNt, eIf, eN, eTup, eLst, e1, e2, t2, tV, tNt, tAn, tOo, eCh, tCh, aCons, aNil, eVar, eMov, eC, eIx, eSl, oNo, oAt, eCall, gN, gTpD, gConsD, gNilD, env0, keep_same, T.toD, T.toDs, dIsi, D.tyName, isKind, isAnyKind, D.isT, dLen, lenD, dEqX, dNeX, unlike, D.seqL, dEq, dNe, dEqv, D.isPy, D.isPys, D.py, D.pys, PyData.eqv, PyData.eqvAll, dNeg, dIx]
theorem f_0 (k : Int) (cs : CS) (hf : cs.all T.cellFlat = true)  : m_law_form [.int k, .lst []] cs = some (.sh (.tup .ex [.int k, .tup .pl []]), cs) := by
  simp [so0, r5, dGet2, sl0, sl1, m_law_form, b_law_form, N_law_form, eNewK, sFor, iSeq, itemsOf, forL, sPut, eGet2, D.key?, look, putD, kXX, kYY, kXY, kYX, eAdd, catT, dAdd, T.toKs, so, so2, eComp, compL, ownOk, wipeE, backE, keep, hf, T.flat, D.flat, D.flats, dTuple, kD, runBody, sRet, sRetV, sRetN, sSeq, sIf, sAsg, sNext, sPar, sPar3, eAn, eOo, eNt, eIf, eN, eTup, eLst, e1, e2, t2, tV, tNt, tAn, tOo, eCh, tCh, aCons, aNil, eVar, eMov, eC, eIx, eSl, oNo, oAt, eCall, gN, gTpD, gConsD, gNilD, env0, keep_same, T.toD, T.toDs, dIsi, D.tyName, isKind, isAnyKind, D.isT, dLen, lenD, dEqX, dNeX, unlike, D.seqL, dEq, dNe, dEqv, D.isPy, D.isPys, D.py, D.pys, PyData.eqv, PyData.eqvAll, dNeg, dIx]
end K57
end
section
set_option Elab.async false
set_option linter.all false
set_option maxRecDepth 100000
set_option maxHeartbeats 2000000
set_option autoImplicit false
namespace K57
open PySem L2 PyProof.Rows PD
/-! ### bounds -/
inductive B where
  | num (n : Int) | frm (k : Int) (ps : List (Str × Int)) (d : Int) | nd (w : Str) (bs : List B)
mutual
def B.toD : B → D
  | .num n => .tup .ex [.str "number", .int n]
  | .frm k ps d => .tup .ex [.str "form", .tup .ex [.int k, .tup .pl (ps.map pairD)], .int d]
  | .nd w bs => .tup .ex [.str w, .lst (B.toDs bs)]
def B.toDs : List B → List D
  | [] => []
  | b :: bs => b.toD :: B.toDs bs
end
def okF (f : Int) : Prop := f ≠ 0 ∧ -4 ≤ f ∧ f ≤ 4
inductive OkPs : List (Str × Int) → Prop
  | nil : OkPs []
  | x {f : Int} : okF f → OkPs [(X, f)]
  | y {f : Int} : okF f → OkPs [(Y, f)]
  | xy {f g : Int} : okF f → okF g → OkPs [(X, f), (Y, g)]
theorem Ok.flat {n : Nat} {i : Ix} {cs : CS} (h : Ok n i cs) : cs.all T.cellFlat = true := h.sh.flat
theorem Ok.mono {n m : Nat} {i : Ix} {cs : CS} (h : Ok n i cs) (hm : n ≤ m) : Ok m i cs := ⟨h.sh, h.len, h.lt, fun j hj => (h.all j hj).mono hm⟩
/-- another of the purses -/
theorem Ok.to {n : Nat} {i : Ix} {cs : CS} (h : Ok n i cs) {j : Nat} (hj : j < i.L) : Ok n ⟨j, i.L⟩ cs := ⟨h.sh, h.len, hj, h.all⟩
/-- a drawn pair -/
def Pr (t : T) : Prop := ∃ f : Int, (f = 1 ∨ f = -1 ∨ f = 2) ∧ (t = .sh (pairD (X, f)) ∨ t = .sh (pairD (Y, f)))
abbrev facs : List D := [.int 1, .int 1, .int 1, .int (-1), .int (-1), .int 2]
theorem form_of {k : Int} {ts : List T} (h : ts.length ≤ 2) (hp : ∀ t ∈ ts, Pr t) {cs : CS} (hf : cs.all T.cellFlat = true) : ∃ ps, OkPs ps ∧ m_law_form [.int k, .lst (T.toDs ts)] cs = some (.sh (.tup .ex [.int k, .tup .pl (ps.map pairD)]), cs) := by
  match ts, h with
  | [], _ => exact ⟨[], .nil, f_0 k cs hf⟩
  | [t], _ =>
    obtain ⟨f, hf1, rfl | rfl⟩ := hp t List.mem_cons_self
    · exact ⟨[(X, f)], .x (by unfold okF; omega), f_x k f cs hf (by omega)⟩
    · exact ⟨[(Y, f)], .y (by unfold okF; omega), f_y k f cs hf (by omega)⟩
  | [t, u], _ =>
    obtain ⟨f, hf1, h1⟩ := hp t List.mem_cons_self
    obtain ⟨g, hg1, h2⟩ := hp u (List.mem_cons_of_mem _ List.mem_cons_self)
    rcases h1 with rfl | rfl <;> rcases h2 with rfl | rfl
    · by_cases hz : f + g = 0
      · exact ⟨[], .nil, f_xx0 k f g cs hf hz⟩
      · exact ⟨[(X, f + g)], .x (by unfold okF; omega), f_xx k f g cs hf hz⟩
    · exact ⟨[(X, f), (Y, g)], .xy (by unfold okF; omega) (by unfold okF; omega), f_xy k f g cs hf (by omega) (by omega)⟩
    · exact ⟨[(X, g), (Y, f)], .xy (by unfold okF; omega) (by unfold okF; omega), f_yx k f g cs hf (by omega) (by omega)⟩
    · by_cases hz : f + g = 0
      · exact ⟨[], .nil, f_yy0 k f g cs hf hz⟩
      · exact ⟨[(Y, f + g)], .y (by unfold okF; omega), f_yy k f g cs hf hz⟩
theorem intsD_len (n : Nat) : (intsD 0 n).length = n := by unfold intsD; simp
theorem e_pair {n : Nat} {i : Ix} {cs : CS} {u2 u3 u4 : Option T} (h : Ok n i cs) (hn : n < 2 ^ 49) : ∃ t cs', eTup (aCons (eCall m_law_one_of [] (aCons (eVar 0) (aCons (eVar 1) aNil))) (aCons (eCall m_law_one_of [] (aCons (eVar 0) (aCons (eLst (aCons (eC (.int 1)) (aCons (eC (.int 1)) (aCons (eC (.int 1)) (aCons (e2 dSub (eC (.int 0)) (eC (.int 1))) (aCons (e2 dSub (eC (.int 0)) (eC (.int 1))) (aCons (eC (.int 2)) aNil))))))) aNil))) aNil))
    [some (.sh (.cell i)), some (.sh (.lst [.str X, .str Y])), u2, u3, u4] cs = some (t, [some (.sh (.cell i)), some (.sh (.lst [.str X, .str Y])), u2, u3, u4], cs') ∧ Pr t ∧ Ok (n + 2) i cs' := by
  obtain ⟨x, cs1, hx, e1, ok1⟩ := e_one_of (xs := [.str X, .str Y]) h (by omega) (by decide) (by decide)
  obtain ⟨f, cs2, hf, e2', ok2⟩ := e_one_of (xs := facs) ok1 (by omega) (by decide) (by decide)
  refine ⟨.sh (.tup .ex [x, f]), cs2, ?_, ?_, ok2⟩
  · simp [e1, e2', dSub, runBody, sRet, sRetV, sRetN, sSeq, sIf, sAsg, sNext, sPar, sPar3, eAn, eOo, eNt, eIf, eN, eTup, eLst, e1, e2, t2, tV, tNt, tAn, tOo, eCh, tCh, aCons, aNil, eVar, eMov, eC, eIx, eSl, oNo, oAt, eCall, gN, gTpD, gConsD, gNilD, env0, keep_same, T.toD, T.toDs, dIsi, D.tyName, isKind, isAnyKind, D.isT, dLen, lenD, dEqX, dNeX, unlike, D.seqL, dEq, dNe, dEqv, D.isPy, D.isPys, D.py, D.pys, PyData.eqv, PyData.eqvAll, dNeg, dIx]
  · have hf' : ∃ g : Int, f = .int g ∧ (g = 1 ∨ g = -1 ∨ g = 2) := by
      simp [facs] at hf
      rcases hf with rfl | rfl | rfl
      · exact ⟨1, rfl, .inl rfl⟩
      · exact ⟨-1, rfl, .inr (.inl rfl)⟩
      · exact ⟨2, rfl, .inr (.inr rfl)⟩
    obtain ⟨g, rfl, hg⟩ := hf'
    simp at hx
    rcases hx with rfl | rfl
    · exact ⟨g, hg, .inl rfl⟩
    · exact ⟨g, hg, .inr rfl⟩
theorem e_drawn_form {n : Nat} {i : Ix} {cs : CS} (h : Ok n i cs) (hn : n < 2 ^ 48) : ∃ k ps cs', m_law_drawn_form [.cell i, .lst [.str X, .str Y], .int 6] cs = some (.sh (.tup .ex [.int k, .tup .pl (ps.map pairD)]), cs') ∧ -6 ≤ k ∧ k ≤ 6 ∧ OkPs ps ∧ Ok (n + 6) i cs' := by
  obtain ⟨r, cs1, e1, r0, r1, ok1⟩ := e_draw (m := 3) h (by omega) (by decide) (by decide)
  have hr : r.toNat ≤ 2 := by omega
  have hit : iRg1 (aCons (eCall m_law_draw [] (aCons (eVar 0) (aCons (eC (.int 3)) aNil))) aNil) [some (.sh (.cell i)), some (.sh (.lst [.str X, .str Y])), some (.sh (.int 6)), none, none] cs = some (intsD 0 r.toNat, [some (.sh (.cell i)), some (.sh (.lst [.str X, .str Y])), some (.sh (.int 6)), none, none], cs1) := by
    have k1 : r ≤ 16777216 ∧ -4611686018427387904 ≤ r := by omega
    simp [iRg1, e1, k1, runBody, sRet, sRetV, sRetN, sSeq, sIf, sAsg, sNext, sPar, sPar3, eAn, eOo, eNt, eIf, eN, eTup, eLst, e1, e2, t2, tV, tNt, tAn, tOo, eCh, tCh, aCons, aNil, eVar, eMov, eC, eIx, eSl, oNo, oAt, eCall, gN, gTpD, gConsD, gNilD, env0, keep_same, T.toD, T.toDs, dIsi, D.tyName, isKind, isAnyKind, D.isT, dLen, lenD, dEqX, dNeX, unlike, D.seqL, dEq, dNe, dEqv, D.isPy, D.isPys, D.py, D.pys, PyData.eqv, PyData.eqvAll, dNeg, dIx]
  obtain ⟨ts, cs2, e2', l2, p2, ok2⟩ := eComp_run (own := [4]) (tg := gN 4) (P := Pr) (I := fun n cs => Ok n i cs) (k := 2) (n := n + 1) (M := 2 ^ 49) (el := eTup (aCons (eCall m_law_one_of [] (aCons (eVar 0) (aCons (eVar 1) aNil))) (aCons (eCall m_law_one_of [] (aCons (eVar 0) (aCons (eLst (aCons (eC (.int 1)) (aCons (eC (.int 1)) (aCons (eC (.int 1)) (aCons (e2 dSub (eC (.int 0)) (eC (.int 1))) (aCons (e2 dSub (eC (.int 0)) (eC (.int 1))) (aCons (eC (.int 2)) aNil))))))) aNil))) aNil))) hit rfl (fun d hd m cs0 hm hok => by
      obtain ⟨t, cs3, q1, q2, q3⟩ := e_pair (u2 := some (.sh (.int 6))) (u3 := none) (u4 := some (.sh d)) hok (by omega)
      exact ⟨_, t, _, cs3, rfl, q1, rfl, q2, q3⟩) (by rw [intsD_len]; omega) ok1
  rw [intsD_len] at l2 ok2
  obtain ⟨r2, cs3, e3, s0, s1, ok3⟩ := e_draw (m := 13) ok2 (by omega) (by decide) (by decide)
  obtain ⟨ps, hps, e4⟩ := form_of (k := r2 - 6) (by omega) p2 ok3.flat
  refine ⟨r2 - 6, ps, cs3, ?_, by omega, by omega, hps, ok3.mono (by omega)⟩
  have hf := ok3.flat
  have km : CMulW 2 6 := by decide
  simp [m_law_drawn_form, b_law_drawn_form, N_law_drawn_form, e2', eAdd, catT, dAdd, dMul, km, e3, dSub, e4, keep, hf, T.flat, D.flat, D.flats, runBody, sRet, sRetV, sRetN, sSeq, sIf, sAsg, sNext, sPar, sPar3, eAn, eOo, eNt, eIf, eN, eTup, eLst, e1, e2, t2, tV, tNt, tAn, tOo, eCh, tCh, aCons, aNil, eVar, eMov, eC, eIx, eSl, oNo, oAt, eCall, gN, gTpD, gConsD, gNilD, env0, keep_same, T.toD, T.toDs, dIsi, D.tyName, isKind, isAnyKind, D.isT, dLen, lenD, dEqX, dNeX, unlike, D.seqL, dEq, dNe, dEqv, D.isPy, D.isPys, D.py, D.pys, PyData.eqv, PyData.eqvAll, dNeg, dIx]
end K57
end
section
set_option Elab.async false
set_option linter.all false
set_option maxRecDepth 100000
set_option maxHeartbeats 2000000
set_option autoImplicit false
namespace K57
open PySem L2 PyProof.Rows PD
/-- a drawn leaf -/
inductive Lf : B → Prop
  | num {n : Int} : 0 ≤ n → n < 12 → Lf (.num n)
  | frm {k d : Int} {ps : List (Str × Int)} : -6 ≤ k → k ≤ 6 → OkPs ps → 1 ≤ d → d ≤ 4 → Lf (.frm k ps d)
/-- a drawn bound -/
inductive G : Nat → B → Prop
  | lf {k : Nat} {b : B} : Lf b → G k b
  | ph {k : Nat} {bs : List B} : bs ≠ [] → bs.length ≤ 3 → (∀ b ∈ bs, Lf b) → G (k + 1) (.nd "phases" bs)
  | nd {k : Nat} {w : Str} {bs : List B} : (w = "plus" ∨ w = "times" ∨ w = "greatest") → bs ≠ [] → bs.length ≤ 3 → (∀ b ∈ bs, G k b) → G (k + 1) (.nd w bs)
theorem e_leaf {n : Nat} {i : Ix} {cs : CS} (h : Ok n i cs) (hn : n < 2 ^ 47) : ∃ b cs', m_law_leaf [.cell i] cs = some (.sh b.toD, cs') ∧ Lf b ∧ Ok (n + 10) i cs' := by
  obtain ⟨r, cs1, e1, r0, r1, ok1⟩ := e_draw (m := 2) h (by omega) (by decide) (by decide)
  by_cases hr : r = 0
  · obtain ⟨s, cs2, e2', s0, s1, ok2⟩ := e_draw (m := 12) ok1 (by omega) (by decide) (by decide)
    refine ⟨.num s, cs2, ?_, .num s0 s1, ok2.mono (by omega)⟩
    simp [m_law_leaf, b_law_leaf, N_law_leaf, e1, hr, e2', B.toD, runBody, sRet, sRetV, sRetN, sSeq, sIf, sAsg, sNext, sPar, sPar3, eAn, eOo, eNt, eIf, eN, eTup, eLst, e1, e2, t2, tV, tNt, tAn, tOo, eCh, tCh, aCons, aNil, eVar, eMov, eC, eIx, eSl, oNo, oAt, eCall, gN, gTpD, gConsD, gNilD, env0, keep_same, T.toD, T.toDs, dIsi, D.tyName, isKind, isAnyKind, D.isT, dLen, lenD, dEqX, dNeX, unlike, D.seqL, dEq, dNe, dEqv, D.isPy, D.isPys, D.py, D.pys, PyData.eqv, PyData.eqvAll, dNeg, dIx]
  · obtain ⟨k, ps, cs2, e2', k0, k1, hps, ok2⟩ := e_drawn_form ok1 (by omega)
    obtain ⟨s, cs3, e3, s0, s1, ok3⟩ := e_draw (m := 4) ok2 (by omega) (by decide) (by decide)
    refine ⟨.frm k ps (1 + s), cs3, ?_, .frm k0 k1 hps (by omega) (by omega), ok3.mono (by omega)⟩
    simp [m_law_leaf, b_law_leaf, N_law_leaf, e1, hr, e2', e3, eAdd, catT, dAdd, B.toD, runBody, sRet, sRetV, sRetN, sSeq, sIf, sAsg, sNext, sPar, sPar3, eAn, eOo, eNt, eIf, eN, eTup, eLst, e1, e2, t2, tV, tNt, tAn, tOo, eCh, tCh, aCons, aNil, eVar, eMov, eC, eIx, eSl, oNo, oAt, eCall, gN, gTpD, gConsD, gNilD, env0, keep_same, T.toD, T.toDs, dIsi, D.tyName, isKind, isAnyKind, D.isT, dLen, lenD, dEqX, dNeX, unlike, D.seqL, dEq, dNe, dEqv, D.isPy, D.isPys, D.py, D.pys, PyData.eqv, PyData.eqvAll, dNeg, dIx]
theorem toDs_map' (bs : List B) : B.toDs bs = bs.map B.toD := by
  induction bs with
  | nil => rfl
  | cons b bs ih => simp [B.toDs, ih]
theorem pick {P : B → Prop} : ∀ {ts : List T}, (∀ t ∈ ts, ∃ b, t = .sh b.toD ∧ P b) → ∃ bs : List B, ts.length = bs.length ∧ T.toDs ts = B.toDs bs ∧ ∀ b ∈ bs, P b
  | [], _ => ⟨[], rfl, rfl, fun _ z => nomatch z⟩
  | t :: ts, h => by
    obtain ⟨b, rfl, hb⟩ := h t List.mem_cons_self
    obtain ⟨bs, l, e, hbs⟩ := pick (ts := ts) fun x hx => h x (List.mem_cons_of_mem _ hx)
    refine ⟨b :: bs, by simp [l], by simp [T.toDs, T.toD, B.toDs, e], fun x hx => ?_⟩
    rcases List.mem_cons.mp hx with rfl | hx
    · exact hb
    · exact hbs x hx
theorem e_many {n : Nat} {i : Ix} {cs : CS} {u1 u2 u3 : Option T} (h : Ok n i cs) (hn : n < 2 ^ 49) : ∃ c cs', iRg1 (aCons (eAdd (eC (.int 1)) (eCall m_law_draw [] (aCons (eVar 0) (aCons (eC (.int 3)) aNil)))) aNil) [some (.sh (.cell i)), u1, u2, u3] cs = some (intsD 0 c, [some (.sh (.cell i)), u1, u2, u3], cs') ∧ 1 ≤ c ∧ c ≤ 3 ∧ Ok (n + 1) i cs' := by
  obtain ⟨s, cs2, e, s0, s1, ok2⟩ := e_draw (m := 3) h (by omega) (by decide) (by decide)
  refine ⟨(1 + s).toNat, cs2, ?_, by omega, by omega, ok2⟩
  have k1 : 1 + s ≤ 16777216 ∧ -4611686018427387904 ≤ 1 + s := by omega
  simp [iRg1, e, eAdd, catT, dAdd, k1, runBody, sRet, sRetV, sRetN, sSeq, sIf, sAsg, sNext, sPar, sPar3, eAn, eOo, eNt, eIf, eN, eTup, eLst, e1, e2, t2, tV, tNt, tAn, tOo, eCh, tCh, aCons, aNil, eVar, eMov, eC, eIx, eSl, oNo, oAt, eCall, gN, gTpD, gConsD, gNilD, env0, keep_same, T.toD, T.toDs, dIsi, D.tyName, isKind, isAnyKind, D.isT, dLen, lenD, dEqX, dNeX, unlike, D.seqL, dEq, dNe, dEqv, D.isPy, D.isPys, D.py, D.pys, PyData.eqv, PyData.eqvAll, dNeg, dIx]
theorem e_bound : ∀ (k f : Nat) {n : Nat} {i : Ix} {cs : CS}, k < f → Ok n i cs → n + 12 * 4 ^ k ≤ 2 ^ 46 → ∃ b cs', m_law_bound f [.cell i, .int k] cs = some (.sh b.toD, cs') ∧ G k b ∧ Ok (n + 12 * 4 ^ k) i cs'
  | k, 0, n, i, cs, hk, _, _ => absurd hk (by omega)
  | k, f + 1, n, i, cs, hk, h, hn => by
    have hp : 1 ≤ 4 ^ k := Nat.one_le_pow _ _ (by decide)
    obtain ⟨r, cs1, e1, r0, r1, ok1⟩ := e_draw (m := 6) h (by omega) (by decide) (by decide)
    by_cases hl : (k : Int) = 0 ∨ r = 0
    · obtain ⟨b, cs2, e2', hb, ok2⟩ := e_leaf ok1 (by omega)
      refine ⟨b, cs2, ?_, .lf hb, ok2.mono (by omega)⟩
      rcases hl with hl | hl
      · have hk0 : k = 0 := by omega
        subst hk0
        simp [m_law_bound, b_law_bound, N_law_bound, e1, e2', runBody, sRet, sRetV, sRetN, sSeq, sIf, sAsg, sNext, sPar, sPar3, eAn, eOo, eNt, eIf, eN, eTup, eLst, e1, e2, t2, tV, tNt, tAn, tOo, eCh, tCh, aCons, aNil, eVar, eMov, eC, eIx, eSl, oNo, oAt, eCall, gN, gTpD, gConsD, gNilD, env0, keep_same, T.toD, T.toDs, dIsi, D.tyName, isKind, isAnyKind, D.isT, dLen, lenD, dEqX, dNeX, unlike, D.seqL, dEq, dNe, dEqv, D.isPy, D.isPys, D.py, D.pys, PyData.eqv, PyData.eqvAll, dNeg, dIx]
      · by_cases hk0 : k = 0
        · subst hk0
          simp [m_law_bound, b_law_bound, N_law_bound, e1, e2', hl, runBody, sRet, sRetV, sRetN, sSeq, sIf, sAsg, sNext, sPar, sPar3, eAn, eOo, eNt, eIf, eN, eTup, eLst, e1, e2, t2, tV, tNt, tAn, tOo, eCh, tCh, aCons, aNil, eVar, eMov, eC, eIx, eSl, oNo, oAt, eCall, gN, gTpD, gConsD, gNilD, env0, keep_same, T.toD, T.toDs, dIsi, D.tyName, isKind, isAnyKind, D.isT, dLen, lenD, dEqX, dNeX, unlike, D.seqL, dEq, dNe, dEqv, D.isPy, D.isPys, D.py, D.pys, PyData.eqv, PyData.eqvAll, dNeg, dIx]
        · simp [m_law_bound, b_law_bound, N_law_bound, e1, e2', hl, hk0, runBody, sRet, sRetV, sRetN, sSeq, sIf, sAsg, sNext, sPar, sPar3, eAn, eOo, eNt, eIf, eN, eTup, eLst, e1, e2, t2, tV, tNt, tAn, tOo, eCh, tCh, aCons, aNil, eVar, eMov, eC, eIx, eSl, oNo, oAt, eCall, gN, gTpD, gConsD, gNilD, env0, keep_same, T.toD, T.toDs, dIsi, D.tyName, isKind, isAnyKind, D.isT, dLen, lenD, dEqX, dNeX, unlike, D.seqL, dEq, dNe, dEqv, D.isPy, D.isPys, D.py, D.pys, PyData.eqv, PyData.eqvAll, dNeg, dIx]
    · obtain ⟨j, rfl⟩ : ∃ j, k = j + 1 := ⟨k - 1, by omega⟩
      have hp4 : 4 ^ (j + 1) = 4 * 4 ^ j := by rw [Nat.pow_succ]; omega
      have hpj : 1 ≤ 4 ^ j := Nat.one_le_pow _ _ (by decide)
      rw [hp4] at hn ⊢
      have hr0 : r ≠ 0 := fun z => hl (.inr z)
      by_cases h5 : r = 5
      · obtain ⟨c, cs2, hit, c1, c3, ok2⟩ := e_many (u1 := some (.sh (.int ((j + 1 : Nat) : Int)))) (u2 := some (.sh (.int r))) (u3 := none) ok1 (by omega)
        obtain ⟨ts, cs3, e3, l3, p3, ok3⟩ := eComp_run (own := [3]) (tg := gN 3) (P := fun t => ∃ b, t = .sh (B.toD b) ∧ Lf b) (I := fun n cs => Ok n i cs) (k := 10) (n := n + 1 + 1) (M := 2 ^ 46) (el := eCall m_law_leaf [] (aCons (eVar 0) aNil)) hit rfl (fun d hd m cs0 hm hok => by
          obtain ⟨b, cs4, q1, q2, q3⟩ := e_leaf hok (by omega)
          exact ⟨_, .sh b.toD, [some (.sh (.cell i)), some (.sh (.int ((j + 1 : Nat) : Int))), some (.sh (.int r)), some (.sh d)], cs4, rfl, by simp [q1, wipeE, runBody, sRet, sRetV, sRetN, sSeq, sIf, sAsg, sNext, sPar, sPar3, eAn, eOo, eNt, eIf, eN, eTup, eLst, e1, e2, t2, tV, tNt, tAn, tOo, eCh, tCh, aCons, aNil, eVar, eMov, eC, eIx, eSl, oNo, oAt, eCall, gN, gTpD, gConsD, gNilD, env0, keep_same, T.toD, T.toDs, dIsi, D.tyName, isKind, isAnyKind, D.isT, dLen, lenD, dEqX, dNeX, unlike, D.seqL, dEq, dNe, dEqv, D.isPy, D.isPys, D.py, D.pys, PyData.eqv, PyData.eqvAll, dNeg, dIx], rfl, ⟨b, rfl, q2⟩, q3⟩) (by rw [intsD_len]; omega) ok2
        rw [intsD_len] at l3 ok3
        obtain ⟨bs, lb, eb, hbs⟩ := pick p3
        refine ⟨.nd "phases" bs, cs3, ?_, .ph (fun z => by rw [z] at lb; simp only [List.length_nil] at lb; omega) (by omega) hbs, ok3.mono (by omega)⟩
        have hj : ((j : Int) + 1 = 0) = False := by simp; omega
        simp [m_law_bound, b_law_bound, N_law_bound, e1, h5, hj, B.toD, runBody, sRet, sRetV, sRetN, sSeq, sIf, sAsg, sNext, sPar, sPar3, eAn, eOo, eNt, eIf, eN, eTup, eLst, e1, e2, t2, tV, tNt, tAn, tOo, eCh, tCh, aCons, aNil, eVar, eMov, eC, eIx, eSl, oNo, oAt, eCall, gN, gTpD, gConsD, gNilD, env0, keep_same, T.toD, T.toDs, dIsi, D.tyName, isKind, isAnyKind, D.isT, dLen, lenD, dEqX, dNeX, unlike, D.seqL, dEq, dNe, dEqv, D.isPy, D.isPys, D.py, D.pys, PyData.eqv, PyData.eqvAll, dNeg, dIx]
        subst h5
        simp at e3
        simp [e3, eb, runBody, sRet, sRetV, sRetN, sSeq, sIf, sAsg, sNext, sPar, sPar3, eAn, eOo, eNt, eIf, eN, eTup, eLst, e1, e2, t2, tV, tNt, tAn, tOo, eCh, tCh, aCons, aNil, eVar, eMov, eC, eIx, eSl, oNo, oAt, eCall, gN, gTpD, gConsD, gNilD, env0, keep_same, T.toD, T.toDs, dIsi, D.tyName, isKind, isAnyKind, D.isT, dLen, lenD, dEqX, dNeX, unlike, D.seqL, dEq, dNe, dEqv, D.isPy, D.isPys, D.py, D.pys, PyData.eqv, PyData.eqvAll, dNeg, dIx]
      · obtain ⟨c, cs2, hit, c1, c3, ok2⟩ := e_many (u1 := some (.sh (.int ((j + 1 : Nat) : Int)))) (u2 := some (.sh (.int r))) (u3 := none) ok1 (by omega)
        obtain ⟨ts, cs3, e3, l3, p3, ok3⟩ := eComp_run (own := [3]) (tg := gN 3) (P := fun t => ∃ b, t = .sh (B.toD b) ∧ G j b) (I := fun n cs => Ok n i cs) (k := 12 * 4 ^ j) (n := n + 1 + 1) (M := 2 ^ 46) (el := eCall (m_law_bound f) [] (aCons (eVar 0) (aCons (e2 dSub (eVar 1) (eC (.int 1))) aNil))) hit rfl (fun d hd m cs0 hm hok => by
          obtain ⟨b, cs4, q1, q2, q3⟩ := e_bound j f (by omega) hok (by omega)
          have ej : ((j + 1 : Nat) : Int) - 1 = (j : Int) := by omega
          exact ⟨_, .sh b.toD, [some (.sh (.cell i)), some (.sh (.int ((j + 1 : Nat) : Int))), some (.sh (.int r)), some (.sh d)], cs4, rfl, by simp [q1, wipeE, dSub, runBody, sRet, sRetV, sRetN, sSeq, sIf, sAsg, sNext, sPar, sPar3, eAn, eOo, eNt, eIf, eN, eTup, eLst, e1, e2, t2, tV, tNt, tAn, tOo, eCh, tCh, aCons, aNil, eVar, eMov, eC, eIx, eSl, oNo, oAt, eCall, gN, gTpD, gConsD, gNilD, env0, keep_same, T.toD, T.toDs, dIsi, D.tyName, isKind, isAnyKind, D.isT, dLen, lenD, dEqX, dNeX, unlike, D.seqL, dEq, dNe, dEqv, D.isPy, D.isPys, D.py, D.pys, PyData.eqv, PyData.eqvAll, dNeg, dIx], rfl, ⟨b, rfl, q2⟩, q3⟩) (by
            rw [intsD_len]
            have : 12 * 4 ^ j * c ≤ 12 * 4 ^ j * 3 := Nat.mul_le_mul_left _ c3
            omega) ok2
        rw [intsD_len] at l3 ok3
        obtain ⟨bs, lb, eb, hbs⟩ := pick p3
        have hne : bs ≠ [] := fun z => by rw [z] at lb; simp only [List.length_nil] at lb; omega
        have hc3 : 12 * 4 ^ j * c ≤ 12 * 4 ^ j * 3 := Nat.mul_le_mul_left _ c3
        have hj : ((j : Int) + 1 = 0) = False := by simp; omega
        have hr : r = 1 ∨ r = 2 ∨ r = 3 ∨ r = 4 := by omega
        have hw : ∃ w : Str, (w = "plus" ∨ w = "times" ∨ w = "greatest") ∧ atI [D.str "plus", D.str "times", D.str "greatest", D.str "plus"] (r - 1) = some (.str w) := by
          rcases hr with rfl | rfl | rfl | rfl
          · exact ⟨"plus", .inl rfl, rfl⟩
          · exact ⟨"times", .inr (.inl rfl), rfl⟩
          · exact ⟨"greatest", .inr (.inr rfl), rfl⟩
          · exact ⟨"plus", .inl rfl, rfl⟩
        obtain ⟨w, hw, ew⟩ := hw
        refine ⟨.nd w bs, cs3, ?_, .nd hw hne (by omega) hbs, ok3.mono (by omega)⟩
        simp at e3
        simp [m_law_bound, b_law_bound, N_law_bound, e1, h5, hj, hr0, dSub, ew, e3, eb, B.toD, runBody, sRet, sRetV, sRetN, sSeq, sIf, sAsg, sNext, sPar, sPar3, eAn, eOo, eNt, eIf, eN, eTup, eLst, e1, e2, t2, tV, tNt, tAn, tOo, eCh, tCh, aCons, aNil, eVar, eMov, eC, eIx, eSl, oNo, oAt, eCall, gN, gTpD, gConsD, gNilD, env0, keep_same, T.toD, T.toDs, dIsi, D.tyName, isKind, isAnyKind, D.isT, dLen, lenD, dEqX, dNeX, unlike, D.seqL, dEq, dNe, dEqv, D.isPy, D.isPys, D.py, D.pys, PyData.eqv, PyData.eqvAll, dNeg, dIx]
end K57
end
section
set_option Elab.async false
set_option linter.all false
set_option maxRecDepth 100000
set_option maxHeartbeats 2000000
set_option autoImplicit false
namespace K57
open PySem L2 PyProof.Rows PD
/-! ### phases -/
abbrev shI (a : Int) : T := .sh (.int a)
def cW : Tv := t2 dGe (eIx (eVar 2) (e1 dNeg (eC (.int 1)))) (eC (.int 0))
def bW : Sv := sSeq (sAsg (eComp [3, 4] (iZp (aCons (eVar 2) (aCons (eLstB (aCons (eC (.int 0)) (aStar (eSl (eVar 2) oNo (oAt (e1 dNeg (eC (.int 1))))) aNil))) aNil))) (gTpD (gConsD (gN 3) (gConsD (gN 4) gNilD))) tTrue (e2 dSub (eAdd (eVar 3) (eVar 4)) (eC (.int 1)))) (gN 2)) (sAsg (eAdd (eVar 1) (eC (.int 1))) (gN 1))
theorem last1 {α : Type} (x : α) : atI [x] (-1) = some x := rfl
theorem last2 {α : Type} (x y : α) : atI [x, y] (-1) = some y := rfl
theorem last3 {α : Type} (x y z : α) : atI [x, y, z] (-1) = some z := rfl
theorem cut1 {α : Type} (x : α) : cutD [x] none (some (-1)) = [] := rfl
theorem cut2 {α : Type} (x y : α) : cutD [x, y] none (some (-1)) = [x] := rfl
theorem cut3 {α : Type} (x y z : α) : cutD [x, y, z] none (some (-1)) = [x, y] := rfl
theorem sl2' : 2 ≤ sizeLine := by decide
theorem sl3' : 3 ≤ sizeLine := by decide
theorem sl1' : 1 ≤ sizeLine := by decide
theorem cW3 (u0 u3 u4 : Option T) (f a b c : Int) (cs : CS) (hf : cs.all T.cellFlat = true) : cW [u0, some (shI f), some (.lst [shI a, shI b, shI c]), u3, u4] cs = some (decide (0 ≤ c), [u0, some (shI f), some (.lst [shI a, shI b, shI c]), u3, u4], cs) := by
  simp [cW, dGe, last3, keep, hf, T.flat, D.flat, D.flats, runBody, sRet, sRetV, sRetN, sSeq, sIf, sAsg, sNext, sPar, sPar3, eAn, eOo, eNt, eIf, eN, eTup, eLst, e1, e2, t2, tV, tNt, tAn, tOo, eCh, tCh, aCons, aNil, eVar, eMov, eC, eIx, eSl, oNo, oAt, eCall, gN, gTpD, gConsD, gNilD, env0, keep_same, T.toD, T.toDs, dIsi, D.tyName, isKind, isAnyKind, D.isT, dLen, lenD, dEqX, dNeX, unlike, D.seqL, dEq, dNe, dEqv, D.isPy, D.isPys, D.py, D.pys, PyData.eqv, PyData.eqvAll, dNeg, dIx]
theorem bW3 (u0 : Option T) (d3 d4 : Option D) (f a b c : Int) (cs : CS) (hf : cs.all T.cellFlat = true) : bW [u0, some (shI f), some (.lst [shI a, shI b, shI c]), d3.map .sh, d4.map .sh] cs = some (.nx, [u0, some (shI (f + 1)), some (.lst [shI (a - 1), shI (b + a - 1), shI (c + b - 1)]), d3.map .sh, d4.map .sh], cs) := by
  cases d3 <;> cases d4 <;> simp [bW, dSub, eAdd, catT, dAdd, iZp, pairsD, eLstB, aStar, dSl, cut3, sl3', eComp, compL, tTrue, ownOk, wipeE, backE, r5, keep, hf, T.flat, D.flat, D.flats, runBody, sRet, sRetV, sRetN, sSeq, sIf, sAsg, sNext, sPar, sPar3, eAn, eOo, eNt, eIf, eN, eTup, eLst, e1, e2, t2, tV, tNt, tAn, tOo, eCh, tCh, aCons, aNil, eVar, eMov, eC, eIx, eSl, oNo, oAt, eCall, gN, gTpD, gConsD, gNilD, env0, keep_same, T.toD, T.toDs, dIsi, D.tyName, isKind, isAnyKind, D.isT, dLen, lenD, dEqX, dNeX, unlike, D.seqL, dEq, dNe, dEqv, D.isPy, D.isPys, D.py, D.pys, PyData.eqv, PyData.eqvAll, dNeg, dIx]
theorem cW1 (u0 u3 u4 : Option T) (f a : Int) (cs : CS) (hf : cs.all T.cellFlat = true) : cW [u0, some (shI f), some (.lst [shI a]), u3, u4] cs = some (decide (0 ≤ a), [u0, some (shI f), some (.lst [shI a]), u3, u4], cs) := by
  simp [cW, dGe, last1, keep, hf, T.flat, D.flat, D.flats, runBody, sRet, sRetV, sRetN, sSeq, sIf, sAsg, sNext, sPar, sPar3, eAn, eOo, eNt, eIf, eN, eTup, eLst, e1, e2, t2, tV, tNt, tAn, tOo, eCh, tCh, aCons, aNil, eVar, eMov, eC, eIx, eSl, oNo, oAt, eCall, gN, gTpD, gConsD, gNilD, env0, keep_same, T.toD, T.toDs, dIsi, D.tyName, isKind, isAnyKind, D.isT, dLen, lenD, dEqX, dNeX, unlike, D.seqL, dEq, dNe, dEqv, D.isPy, D.isPys, D.py, D.pys, PyData.eqv, PyData.eqvAll, dNeg, dIx]
theorem bW1 (u0 : Option T) (d3 d4 : Option D) (f a : Int) (cs : CS) (hf : cs.all T.cellFlat = true) : bW [u0, some (shI f), some (.lst [shI a]), d3.map .sh, d4.map .sh] cs = some (.nx, [u0, some (shI (f + 1)), some (.lst [shI (a - 1)]), d3.map .sh, d4.map .sh], cs) := by
  cases d3 <;> cases d4 <;> simp [bW, dSub, eAdd, catT, dAdd, iZp, pairsD, eLstB, aStar, dSl, cut1, sl1', eComp, compL, tTrue, ownOk, wipeE, backE, r5, keep, hf, T.flat, D.flat, D.flats, runBody, sRet, sRetV, sRetN, sSeq, sIf, sAsg, sNext, sPar, sPar3, eAn, eOo, eNt, eIf, eN, eTup, eLst, e1, e2, t2, tV, tNt, tAn, tOo, eCh, tCh, aCons, aNil, eVar, eMov, eC, eIx, eSl, oNo, oAt, eCall, gN, gTpD, gConsD, gNilD, env0, keep_same, T.toD, T.toDs, dIsi, D.tyName, isKind, isAnyKind, D.isT, dLen, lenD, dEqX, dNeX, unlike, D.seqL, dEq, dNe, dEqv, D.isPy, D.isPys, D.py, D.pys, PyData.eqv, PyData.eqvAll, dNeg, dIx]
theorem cW2 (u0 u3 u4 : Option T) (f a b : Int) (cs : CS) (hf : cs.all T.cellFlat = true) : cW [u0, some (shI f), some (.lst [shI a, shI b]), u3, u4] cs = some (decide (0 ≤ b), [u0, some (shI f), some (.lst [shI a, shI b]), u3, u4], cs) := by
  simp [cW, dGe, last2, keep, hf, T.flat, D.flat, D.flats, runBody, sRet, sRetV, sRetN, sSeq, sIf, sAsg, sNext, sPar, sPar3, eAn, eOo, eNt, eIf, eN, eTup, eLst, e1, e2, t2, tV, tNt, tAn, tOo, eCh, tCh, aCons, aNil, eVar, eMov, eC, eIx, eSl, oNo, oAt, eCall, gN, gTpD, gConsD, gNilD, env0, keep_same, T.toD, T.toDs, dIsi, D.tyName, isKind, isAnyKind, D.isT, dLen, lenD, dEqX, dNeX, unlike, D.seqL, dEq, dNe, dEqv, D.isPy, D.isPys, D.py, D.pys, PyData.eqv, PyData.eqvAll, dNeg, dIx]
theorem bW2 (u0 : Option T) (d3 d4 : Option D) (f a b : Int) (cs : CS) (hf : cs.all T.cellFlat = true) : bW [u0, some (shI f), some (.lst [shI a, shI b]), d3.map .sh, d4.map .sh] cs = some (.nx, [u0, some (shI (f + 1)), some (.lst [shI (a - 1), shI (b + a - 1)]), d3.map .sh, d4.map .sh], cs) := by
  cases d3 <;> cases d4 <;> simp [bW, dSub, eAdd, catT, dAdd, iZp, pairsD, eLstB, aStar, dSl, cut2, sl2', eComp, compL, tTrue, ownOk, wipeE, backE, r5, keep, hf, T.flat, D.flat, D.flats, runBody, sRet, sRetV, sRetN, sSeq, sIf, sAsg, sNext, sPar, sPar3, eAn, eOo, eNt, eIf, eN, eTup, eLst, e1, e2, t2, tV, tNt, tAn, tOo, eCh, tCh, aCons, aNil, eVar, eMov, eC, eIx, eSl, oNo, oAt, eCall, gN, gTpD, gConsD, gNilD, env0, keep_same, T.toD, T.toDs, dIsi, D.tyName, isKind, isAnyKind, D.isT, dLen, lenD, dEqX, dNeX, unlike, D.seqL, dEq, dNe, dEqv, D.isPy, D.isPys, D.py, D.pys, PyData.eqv, PyData.eqvAll, dNeg, dIx]
/-- one turn of all counts -/
def nxt : List Int → List Int
  | [a] => [a - 1]
  | [a, b] => [a - 1, b + a - 1]
  | [a, b, c] => [a - 1, b + a - 1, c + b - 1]
  | l => l
def lastI (l : List Int) : Int := l.getLastD 0
/-- the last count falls below zero behind m turns, not ahead -/
inductive Ends : Nat → List Int → Prop
  | z {l : List Int} : lastI l < 0 → Ends 0 l
  | s {m : Nat} {l : List Int} : 0 ≤ lastI l → Ends m (nxt l) → Ends (m + 1) l
def Few (l : List Int) : Prop := 1 ≤ l.length ∧ l.length ≤ 3
theorem few_nxt {l : List Int} (h : Few l) : Few (nxt l) := by
  obtain ⟨h1, h2⟩ := h
  match l, h1, h2 with
  | [a], _, _ => exact ⟨by simp [nxt], by simp [nxt]⟩
  | [a, b], _, _ => exact ⟨by simp [nxt], by simp [nxt]⟩
  | [a, b, c], _, _ => exact ⟨by simp [nxt], by simp [nxt]⟩
theorem cWl (u0 u3 u4 : Option T) (f : Int) {l : List Int} (h : Few l) (cs : CS) (hf : cs.all T.cellFlat = true) : cW [u0, some (shI f), some (.lst (l.map shI)), u3, u4] cs = some (decide (0 ≤ lastI l), [u0, some (shI f), some (.lst (l.map shI)), u3, u4], cs) := by
  obtain ⟨h1, h2⟩ := h
  match l, h1, h2 with
  | [a], _, _ => exact cW1 u0 u3 u4 f a cs hf
  | [a, b], _, _ => exact cW2 u0 u3 u4 f a b cs hf
  | [a, b, c], _, _ => exact cW3 u0 u3 u4 f a b c cs hf
theorem bWl (u0 : Option T) (d3 d4 : Option D) (f : Int) {l : List Int} (h : Few l) (cs : CS) (hf : cs.all T.cellFlat = true) : bW [u0, some (shI f), some (.lst (l.map shI)), d3.map .sh, d4.map .sh] cs = some (.nx, [u0, some (shI (f + 1)), some (.lst ((nxt l).map shI)), d3.map .sh, d4.map .sh], cs) := by
  obtain ⟨h1, h2⟩ := h
  match l, h1, h2 with
  | [a], _, _ => exact bW1 u0 d3 d4 f a cs hf
  | [a, b], _, _ => exact bW2 u0 d3 d4 f a b cs hf
  | [a, b, c], _, _ => exact bW3 u0 d3 d4 f a b c cs hf
theorem turnsW (u0 : Option T) (d3 d4 : Option D) (cs : CS) (hf : cs.all T.cellFlat = true) : ∀ (m n : Nat) (l : List Int) (f : Int), Few l → Ends m l → m < n → ∃ l', whileL cW bW n [u0, some (shI f), some (.lst (l.map shI)), d3.map .sh, d4.map .sh] cs = some (.nx, [u0, some (shI (f + m)), some (.lst l'), d3.map .sh, d4.map .sh], cs)
  | m, 0, l, f, _, _, hn => absurd hn (by omega)
  | 0, n + 1, l, f, hl, he, hn => by
    cases he with
    | z h =>
      refine ⟨l.map shI, ?_⟩
      unfold whileL
      have e : decide (0 ≤ lastI l) = false := decide_eq_false (by omega)
      simp [cWl _ _ _ f hl cs hf, e]
  | m + 1, n + 1, l, f, hl, he, hn => by
    cases he with
    | s h he =>
      obtain ⟨l', e'⟩ := turnsW u0 d3 d4 cs hf m n (nxt l) (f + 1) (few_nxt hl) he (by omega)
      refine ⟨l', ?_⟩
      unfold whileL
      have e : decide (0 ≤ lastI l) = true := decide_eq_true h
      have ef : f + 1 + (m : Int) = f + ((m + 1 : Nat) : Int) := by omega
      rw [ef] at e'
      simp only [cWl _ _ _ f hl cs hf, e, if_true, bWl u0 d3 d4 f hl cs hf, e']
/-- steps_by_phases -/
theorem e_phases {l : List Int} {m : Nat} (hl : Few l) (he : Ends m l) (hm : m < 1000000) {cs : CS} (hf : cs.all T.cellFlat = true) : m_steps_by_phases [.lst (l.map D.int)] cs = some (.sh (.int m), cs) := by
  obtain ⟨l', e⟩ := turnsW (some (.sh (.lst (l.map D.int)))) none none cs hf m 1000000 l 0 hl he hm
  have e1 : (l.map D.int).map T.sh = l.map shI := by simp [List.map_map, Function.comp_def]
  have eb : b_steps_by_phases = sSeq (sPar 1 2 (aCons (eC (.int 0)) (aCons (eN dList (aCons (eVar 0) aNil)) aNil))) (sSeq (sWhile 1000000 cW bW) (sRetV 1)) := rfl
  simp only [Option.map_none] at e
  simp [m_steps_by_phases, eb, N_steps_by_phases, sWhile, dList, D.seq, e1, e, runBody, sRet, sRetV, sRetN, sSeq, sIf, sAsg, sNext, sPar, sPar3, eAn, eOo, eNt, eIf, eN, eTup, eLst, e1, e2, t2, tV, tNt, tAn, tOo, eCh, tCh, aCons, aNil, eVar, eMov, eC, eIx, eSl, oNo, oAt, eCall, gN, gTpD, gConsD, gNilD, env0, keep_same, T.toD, T.toDs, dIsi, D.tyName, isKind, isAnyKind, D.isT, dLen, lenD, dEqX, dNeX, unlike, D.seqL, dEq, dNe, dEqv, D.isPy, D.isPys, D.py, D.pys, PyData.eqv, PyData.eqvAll, dNeg, dIx]
end K57
end
section
set_option Elab.async false
set_option linter.all false
set_option maxRecDepth 100000
set_option maxHeartbeats 2000000
set_option autoImplicit false
namespace K57
open PySem L2 PyProof.Rows PD
def cV : Tv := (t2 dGe (eIx (eVar 1) (e1 dNeg (eC (.int 1)))) (eC (.int 0)))
def bV : Sv := (sSeq (sAsg (eComp [3] (iRg1 (aCons (eN dLen (aCons (eVar 1) aNil)) aNil)) (gN 3) tTrue (eAdd (e2 dSub (eIx (eVar 1) (eVar 3)) (eC (.int 1))) (eIf (t2 dGt (eVar 3) (eC (.int 0))) (eIx (eVar 1) (e2 dSub (eVar 3) (eC (.int 1)))) (eC (.int 0))))) (gN 1)) (sAsg (eAdd (eVar 2) (eC (.int 1))) (gN 2)))
theorem in1 : intsD 0 1 = [.int 0] := rfl
theorem in2 : intsD 0 2 = [.int 0, .int 1] := rfl
theorem in3 : intsD 0 3 = [.int 0, .int 1, .int 2] := rfl
theorem r4 : List.range 4 = [0, 1, 2, 3] := rfl
theorem at10 {α : Type} (x0 : α) : atI [x0] (0 : Int) = some x0 := rfl
theorem cV1 (u0 u2 u3 : Option T) (a : Int) (cs : CS) (hf : cs.all T.cellFlat = true) : cV [u0, some (.lst [shI a]), u2, u3] cs = some (decide (0 ≤ a), [u0, some (.lst [shI a]), u2, u3], cs) := by
  simp [cV, dGe, last1, keep, hf, T.flat, D.flat, D.flats, runBody, sRet, sRetV, sRetN, sSeq, sIf, sAsg, sNext, sPar, sPar3, eAn, eOo, eNt, eIf, eN, eTup, eLst, e1, e2, t2, tV, tNt, tAn, tOo, eCh, tCh, aCons, aNil, eVar, eMov, eC, eIx, eSl, oNo, oAt, eCall, gN, gTpD, gConsD, gNilD, env0, keep_same, T.toD, T.toDs, dIsi, D.tyName, isKind, isAnyKind, D.isT, dLen, lenD, dEqX, dNeX, unlike, D.seqL, dEq, dNe, dEqv, D.isPy, D.isPys, D.py, D.pys, PyData.eqv, PyData.eqvAll, dNeg, dIx]
theorem bV1 (u0 : Option T) (d3 : Option D) (f a : Int) (cs : CS) (hf : cs.all T.cellFlat = true) : bV [u0, some (.lst [shI a]), some (shI f), d3.map .sh] cs = some (.nx, [u0, some (.lst [shI (a - 1)]), some (shI (f + 1)), d3.map .sh], cs) := by
  cases d3 <;> simp [bV, dGt, dSub, eAdd, catT, dAdd, iRg1, in1, at10, eComp, compL, tTrue, ownOk, wipeE, backE, r4, keep, hf, T.flat, D.flat, D.flats, runBody, sRet, sRetV, sRetN, sSeq, sIf, sAsg, sNext, sPar, sPar3, eAn, eOo, eNt, eIf, eN, eTup, eLst, e1, e2, t2, tV, tNt, tAn, tOo, eCh, tCh, aCons, aNil, eVar, eMov, eC, eIx, eSl, oNo, oAt, eCall, gN, gTpD, gConsD, gNilD, env0, keep_same, T.toD, T.toDs, dIsi, D.tyName, isKind, isAnyKind, D.isT, dLen, lenD, dEqX, dNeX, unlike, D.seqL, dEq, dNe, dEqv, D.isPy, D.isPys, D.py, D.pys, PyData.eqv, PyData.eqvAll, dNeg, dIx]
theorem cVs1 (u0 u2 u3 : Option T) (a : Int) (cs : CS) (hf : cs.all T.cellFlat = true) : cV [u0, some (.sh (.lst [.int a])), u2, u3] cs = some (decide (0 ≤ a), [u0, some (.sh (.lst [.int a])), u2, u3], cs) := by
  simp [cV, dGe, last1, keep, hf, T.flat, D.flat, D.flats, runBody, sRet, sRetV, sRetN, sSeq, sIf, sAsg, sNext, sPar, sPar3, eAn, eOo, eNt, eIf, eN, eTup, eLst, e1, e2, t2, tV, tNt, tAn, tOo, eCh, tCh, aCons, aNil, eVar, eMov, eC, eIx, eSl, oNo, oAt, eCall, gN, gTpD, gConsD, gNilD, env0, keep_same, T.toD, T.toDs, dIsi, D.tyName, isKind, isAnyKind, D.isT, dLen, lenD, dEqX, dNeX, unlike, D.seqL, dEq, dNe, dEqv, D.isPy, D.isPys, D.py, D.pys, PyData.eqv, PyData.eqvAll, dNeg, dIx]
theorem bVs1 (u0 : Option T) (d3 : Option D) (f a : Int) (cs : CS) (hf : cs.all T.cellFlat = true) : bV [u0, some (.sh (.lst [.int a])), some (shI f), d3.map .sh] cs = some (.nx, [u0, some (.lst [shI (a - 1)]), some (shI (f + 1)), d3.map .sh], cs) := by
  cases d3 <;> simp [bV, dGt, dSub, eAdd, catT, dAdd, iRg1, in1, at10, eComp, compL, tTrue, ownOk, wipeE, backE, r4, keep, hf, T.flat, D.flat, D.flats, runBody, sRet, sRetV, sRetN, sSeq, sIf, sAsg, sNext, sPar, sPar3, eAn, eOo, eNt, eIf, eN, eTup, eLst, e1, e2, t2, tV, tNt, tAn, tOo, eCh, tCh, aCons, aNil, eVar, eMov, eC, eIx, eSl, oNo, oAt, eCall, gN, gTpD, gConsD, gNilD, env0, keep_same, T.toD, T.toDs, dIsi, D.tyName, isKind, isAnyKind, D.isT, dLen, lenD, dEqX, dNeX, unlike, D.seqL, dEq, dNe, dEqv, D.isPy, D.isPys, D.py, D.pys, PyData.eqv, PyData.eqvAll, dNeg, dIx]
theorem at20 {α : Type} (x0 x1 : α) : atI [x0, x1] (0 : Int) = some x0 := rfl
theorem at21 {α : Type} (x0 x1 : α) : atI [x0, x1] (1 : Int) = some x1 := rfl
theorem cV2 (u0 u2 u3 : Option T) (a b : Int) (cs : CS) (hf : cs.all T.cellFlat = true) : cV [u0, some (.lst [shI a, shI b]), u2, u3] cs = some (decide (0 ≤ b), [u0, some (.lst [shI a, shI b]), u2, u3], cs) := by
  simp [cV, dGe, last2, keep, hf, T.flat, D.flat, D.flats, runBody, sRet, sRetV, sRetN, sSeq, sIf, sAsg, sNext, sPar, sPar3, eAn, eOo, eNt, eIf, eN, eTup, eLst, e1, e2, t2, tV, tNt, tAn, tOo, eCh, tCh, aCons, aNil, eVar, eMov, eC, eIx, eSl, oNo, oAt, eCall, gN, gTpD, gConsD, gNilD, env0, keep_same, T.toD, T.toDs, dIsi, D.tyName, isKind, isAnyKind, D.isT, dLen, lenD, dEqX, dNeX, unlike, D.seqL, dEq, dNe, dEqv, D.isPy, D.isPys, D.py, D.pys, PyData.eqv, PyData.eqvAll, dNeg, dIx]
theorem bV2 (u0 : Option T) (d3 : Option D) (f a b : Int) (cs : CS) (hf : cs.all T.cellFlat = true) : bV [u0, some (.lst [shI a, shI b]), some (shI f), d3.map .sh] cs = some (.nx, [u0, some (.lst [shI (a - 1), shI (b + a - 1)]), some (shI (f + 1)), d3.map .sh], cs) := by
  cases d3 <;> simp [bV, dGt, dSub, eAdd, catT, dAdd, iRg1, in2, at20, at21, eComp, compL, tTrue, ownOk, wipeE, backE, r4, keep, hf, T.flat, D.flat, D.flats, runBody, sRet, sRetV, sRetN, sSeq, sIf, sAsg, sNext, sPar, sPar3, eAn, eOo, eNt, eIf, eN, eTup, eLst, e1, e2, t2, tV, tNt, tAn, tOo, eCh, tCh, aCons, aNil, eVar, eMov, eC, eIx, eSl, oNo, oAt, eCall, gN, gTpD, gConsD, gNilD, env0, keep_same, T.toD, T.toDs, dIsi, D.tyName, isKind, isAnyKind, D.isT, dLen, lenD, dEqX, dNeX, unlike, D.seqL, dEq, dNe, dEqv, D.isPy, D.isPys, D.py, D.pys, PyData.eqv, PyData.eqvAll, dNeg, dIx] <;> omega
theorem cVs2 (u0 u2 u3 : Option T) (a b : Int) (cs : CS) (hf : cs.all T.cellFlat = true) : cV [u0, some (.sh (.lst [.int a, .int b])), u2, u3] cs = some (decide (0 ≤ b), [u0, some (.sh (.lst [.int a, .int b])), u2, u3], cs) := by
  simp [cV, dGe, last2, keep, hf, T.flat, D.flat, D.flats, runBody, sRet, sRetV, sRetN, sSeq, sIf, sAsg, sNext, sPar, sPar3, eAn, eOo, eNt, eIf, eN, eTup, eLst, e1, e2, t2, tV, tNt, tAn, tOo, eCh, tCh, aCons, aNil, eVar, eMov, eC, eIx, eSl, oNo, oAt, eCall, gN, gTpD, gConsD, gNilD, env0, keep_same, T.toD, T.toDs, dIsi, D.tyName, isKind, isAnyKind, D.isT, dLen, lenD, dEqX, dNeX, unlike, D.seqL, dEq, dNe, dEqv, D.isPy, D.isPys, D.py, D.pys, PyData.eqv, PyData.eqvAll, dNeg, dIx]
theorem bVs2 (u0 : Option T) (d3 : Option D) (f a b : Int) (cs : CS) (hf : cs.all T.cellFlat = true) : bV [u0, some (.sh (.lst [.int a, .int b])), some (shI f), d3.map .sh] cs = some (.nx, [u0, some (.lst [shI (a - 1), shI (b + a - 1)]), some (shI (f + 1)), d3.map .sh], cs) := by
  cases d3 <;> simp [bV, dGt, dSub, eAdd, catT, dAdd, iRg1, in2, at20, at21, eComp, compL, tTrue, ownOk, wipeE, backE, r4, keep, hf, T.flat, D.flat, D.flats, runBody, sRet, sRetV, sRetN, sSeq, sIf, sAsg, sNext, sPar, sPar3, eAn, eOo, eNt, eIf, eN, eTup, eLst, e1, e2, t2, tV, tNt, tAn, tOo, eCh, tCh, aCons, aNil, eVar, eMov, eC, eIx, eSl, oNo, oAt, eCall, gN, gTpD, gConsD, gNilD, env0, keep_same, T.toD, T.toDs, dIsi, D.tyName, isKind, isAnyKind, D.isT, dLen, lenD, dEqX, dNeX, unlike, D.seqL, dEq, dNe, dEqv, D.isPy, D.isPys, D.py, D.pys, PyData.eqv, PyData.eqvAll, dNeg, dIx] <;> omega
theorem at30 {α : Type} (x0 x1 x2 : α) : atI [x0, x1, x2] (0 : Int) = some x0 := rfl
theorem at31 {α : Type} (x0 x1 x2 : α) : atI [x0, x1, x2] (1 : Int) = some x1 := rfl
theorem at32 {α : Type} (x0 x1 x2 : α) : atI [x0, x1, x2] (2 : Int) = some x2 := rfl
theorem cV3 (u0 u2 u3 : Option T) (a b c : Int) (cs : CS) (hf : cs.all T.cellFlat = true) : cV [u0, some (.lst [shI a, shI b, shI c]), u2, u3] cs = some (decide (0 ≤ c), [u0, some (.lst [shI a, shI b, shI c]), u2, u3], cs) := by
  simp [cV, dGe, last3, keep, hf, T.flat, D.flat, D.flats, runBody, sRet, sRetV, sRetN, sSeq, sIf, sAsg, sNext, sPar, sPar3, eAn, eOo, eNt, eIf, eN, eTup, eLst, e1, e2, t2, tV, tNt, tAn, tOo, eCh, tCh, aCons, aNil, eVar, eMov, eC, eIx, eSl, oNo, oAt, eCall, gN, gTpD, gConsD, gNilD, env0, keep_same, T.toD, T.toDs, dIsi, D.tyName, isKind, isAnyKind, D.isT, dLen, lenD, dEqX, dNeX, unlike, D.seqL, dEq, dNe, dEqv, D.isPy, D.isPys, D.py, D.pys, PyData.eqv, PyData.eqvAll, dNeg, dIx]
theorem bV3 (u0 : Option T) (d3 : Option D) (f a b c : Int) (cs : CS) (hf : cs.all T.cellFlat = true) : bV [u0, some (.lst [shI a, shI b, shI c]), some (shI f), d3.map .sh] cs = some (.nx, [u0, some (.lst [shI (a - 1), shI (b + a - 1), shI (c + b - 1)]), some (shI (f + 1)), d3.map .sh], cs) := by
  cases d3 <;> simp [bV, dGt, dSub, eAdd, catT, dAdd, iRg1, in3, at30, at31, at32, eComp, compL, tTrue, ownOk, wipeE, backE, r4, keep, hf, T.flat, D.flat, D.flats, runBody, sRet, sRetV, sRetN, sSeq, sIf, sAsg, sNext, sPar, sPar3, eAn, eOo, eNt, eIf, eN, eTup, eLst, e1, e2, t2, tV, tNt, tAn, tOo, eCh, tCh, aCons, aNil, eVar, eMov, eC, eIx, eSl, oNo, oAt, eCall, gN, gTpD, gConsD, gNilD, env0, keep_same, T.toD, T.toDs, dIsi, D.tyName, isKind, isAnyKind, D.isT, dLen, lenD, dEqX, dNeX, unlike, D.seqL, dEq, dNe, dEqv, D.isPy, D.isPys, D.py, D.pys, PyData.eqv, PyData.eqvAll, dNeg, dIx] <;> omega
theorem cVs3 (u0 u2 u3 : Option T) (a b c : Int) (cs : CS) (hf : cs.all T.cellFlat = true) : cV [u0, some (.sh (.lst [.int a, .int b, .int c])), u2, u3] cs = some (decide (0 ≤ c), [u0, some (.sh (.lst [.int a, .int b, .int c])), u2, u3], cs) := by
  simp [cV, dGe, last3, keep, hf, T.flat, D.flat, D.flats, runBody, sRet, sRetV, sRetN, sSeq, sIf, sAsg, sNext, sPar, sPar3, eAn, eOo, eNt, eIf, eN, eTup, eLst, e1, e2, t2, tV, tNt, tAn, tOo, eCh, tCh, aCons, aNil, eVar, eMov, eC, eIx, eSl, oNo, oAt, eCall, gN, gTpD, gConsD, gNilD, env0, keep_same, T.toD, T.toDs, dIsi, D.tyName, isKind, isAnyKind, D.isT, dLen, lenD, dEqX, dNeX, unlike, D.seqL, dEq, dNe, dEqv, D.isPy, D.isPys, D.py, D.pys, PyData.eqv, PyData.eqvAll, dNeg, dIx]
theorem bVs3 (u0 : Option T) (d3 : Option D) (f a b c : Int) (cs : CS) (hf : cs.all T.cellFlat = true) : bV [u0, some (.sh (.lst [.int a, .int b, .int c])), some (shI f), d3.map .sh] cs = some (.nx, [u0, some (.lst [shI (a - 1), shI (b + a - 1), shI (c + b - 1)]), some (shI (f + 1)), d3.map .sh], cs) := by
  cases d3 <;> simp [bV, dGt, dSub, eAdd, catT, dAdd, iRg1, in3, at30, at31, at32, eComp, compL, tTrue, ownOk, wipeE, backE, r4, keep, hf, T.flat, D.flat, D.flats, runBody, sRet, sRetV, sRetN, sSeq, sIf, sAsg, sNext, sPar, sPar3, eAn, eOo, eNt, eIf, eN, eTup, eLst, e1, e2, t2, tV, tNt, tAn, tOo, eCh, tCh, aCons, aNil, eVar, eMov, eC, eIx, eSl, oNo, oAt, eCall, gN, gTpD, gConsD, gNilD, env0, keep_same, T.toD, T.toDs, dIsi, D.tyName, isKind, isAnyKind, D.isT, dLen, lenD, dEqX, dNeX, unlike, D.seqL, dEq, dNe, dEqv, D.isPy, D.isPys, D.py, D.pys, PyData.eqv, PyData.eqvAll, dNeg, dIx] <;> omega
end K57
end
section
set_option Elab.async false
set_option linter.all false
set_option maxRecDepth 100000
set_option maxHeartbeats 2000000
set_option autoImplicit false
namespace K57
open PySem L2 PyProof.Rows PD
/-- the two ways in which the list stands -/
inductive Two (l : List Int) : T → Prop
  | own : Two l (.lst (l.map shI))
  | sh : Two l (.sh (.lst (l.map D.int)))
theorem cVl (u0 u2 u3 : Option T) {l : List Int} {t : T} (h : Few l) (ht : Two l t) (cs : CS) (hf : cs.all T.cellFlat = true) : cV [u0, some t, u2, u3] cs = some (decide (0 ≤ lastI l), [u0, some t, u2, u3], cs) := by
  obtain ⟨h1, h2⟩ := h
  match l, h1, h2 with
  | [a], _, _ => cases ht with | own => exact cV1 u0 u2 u3 a cs hf | sh => exact cVs1 u0 u2 u3 a cs hf
  | [a, b], _, _ => cases ht with | own => exact cV2 u0 u2 u3 a b cs hf | sh => exact cVs2 u0 u2 u3 a b cs hf
  | [a, b, c], _, _ => cases ht with | own => exact cV3 u0 u2 u3 a b c cs hf | sh => exact cVs3 u0 u2 u3 a b c cs hf
theorem bVl (u0 : Option T) (d3 : Option D) (f : Int) {l : List Int} {t : T} (h : Few l) (ht : Two l t) (cs : CS) (hf : cs.all T.cellFlat = true) : bV [u0, some t, some (shI f), d3.map .sh] cs = some (.nx, [u0, some (.lst ((nxt l).map shI)), some (shI (f + 1)), d3.map .sh], cs) := by
  obtain ⟨h1, h2⟩ := h
  match l, h1, h2 with
  | [a], _, _ => cases ht with | own => exact bV1 u0 d3 f a cs hf | sh => exact bVs1 u0 d3 f a cs hf
  | [a, b], _, _ => cases ht with | own => exact bV2 u0 d3 f a b cs hf | sh => exact bVs2 u0 d3 f a b cs hf
  | [a, b, c], _, _ => cases ht with | own => exact bV3 u0 d3 f a b c cs hf | sh => exact bVs3 u0 d3 f a b c cs hf
theorem turnsV (u0 : Option T) (d3 : Option D) (cs : CS) (hf : cs.all T.cellFlat = true) : ∀ (m n : Nat) (l : List Int) (t : T) (f : Int), Few l → Two l t → Ends m l → m < n → ∃ t', whileL cV bV n [u0, some t, some (shI f), d3.map .sh] cs = some (.nx, [u0, some t', some (shI (f + m)), d3.map .sh], cs)
  | m, 0, l, t, f, _, _, _, hn => absurd hn (by omega)
  | 0, n + 1, l, t, f, hl, ht, he, hn => by
    cases he with
    | z h =>
      refine ⟨t, ?_⟩
      unfold whileL
      have e : decide (0 ≤ lastI l) = false := decide_eq_false (by omega)
      simp [cVl _ _ _ hl ht cs hf, e]
  | m + 1, n + 1, l, t, f, hl, ht, he, hn => by
    cases he with
    | s h he =>
      obtain ⟨t', e'⟩ := turnsV u0 d3 cs hf m n (nxt l) _ (f + 1) (few_nxt hl) .own he (by omega)
      refine ⟨t', ?_⟩
      unfold whileL
      have e : decide (0 ≤ lastI l) = true := decide_eq_true h
      have ef : f + 1 + (m : Int) = f + ((m + 1 : Nat) : Int) := by omega
      rw [ef] at e'
      simp only [cVl _ _ _ hl ht cs hf, e, if_true, bVl u0 d3 f hl ht cs hf, e']
/-- _law_turns -/
theorem e_turns {l : List Int} {m : Nat} (hl : Few l) (he : Ends m l) (hm : m < 1000000) {cs : CS} (hf : cs.all T.cellFlat = true) : m_law_turns [.lst (l.map D.int)] cs = some (.sh (.int m), cs) := by
  obtain ⟨l', e⟩ := turnsV (some (.sh (.lst (l.map D.int)))) none cs hf m 1000000 l _ 0 hl .sh he hm
  have eb : b_law_turns = sSeq (sAsg (eTup (aCons (eN dList (aCons (eVar 0) aNil)) (aCons (eC (.int 0)) aNil))) (gTpD (gConsD (gN 1) (gConsD (gN 2) gNilD)))) (sSeq (sWhile 1000000 cV bV) (sRetV 2)) := rfl
  have e1 : T.toDs (l.map (T.sh ∘ D.int)) = l.map D.int := by rw [toDs_eq, List.map_map]; rfl
  simp only [Option.map_none] at e
  simp [m_law_turns, eb, N_law_turns, sWhile, dList, D.seq, e1, e, runBody, sRet, sRetV, sRetN, sSeq, sIf, sAsg, sNext, sPar, sPar3, eAn, eOo, eNt, eIf, eN, eTup, eLst, e1, e2, t2, tV, tNt, tAn, tOo, eCh, tCh, aCons, aNil, eVar, eMov, eC, eIx, eSl, oNo, oAt, eCall, gN, gTpD, gConsD, gNilD, env0, keep_same, T.toD, T.toDs, dIsi, D.tyName, isKind, isAnyKind, D.isT, dLen, lenD, dEqX, dNeX, unlike, D.seqL, dEq, dNe, dEqv, D.isPy, D.isPys, D.py, D.pys, PyData.eqv, PyData.eqvAll, dNeg, dIx]
end K57
end
section
set_option Elab.async false
set_option linter.all false
set_option maxRecDepth 100000
set_option maxHeartbeats 2000000
set_option autoImplicit false
namespace K57
open PySem L2 PyProof.Rows PD
/-! ### the phases end -/
def iter : Nat → List Int → List Int
  | 0, l => l
  | n + 1, l => iter n (nxt l)
theorem iter_add : ∀ (m n : Nat) (l : List Int), iter (m + n) l = iter n (iter m l)
  | 0, n, l => by rw [Nat.zero_add]; rfl
  | m + 1, n, l => by rw [show m + 1 + n = (m + n) + 1 from by omega]; exact iter_add m n (nxt l)
theorem ends_of : ∀ (j : Nat) (l : List Int), lastI (iter j l) < 0 → ∃ m, m ≤ j ∧ Ends m l
  | 0, l, h => ⟨0, Nat.le_refl _, .z h⟩
  | j + 1, l, h => by
    by_cases h0 : lastI l < 0
    · exact ⟨0, by omega, .z h0⟩
    · obtain ⟨m, hm, e⟩ := ends_of j (nxt l) h
      exact ⟨m + 1, by omega, .s (by omega) e⟩
theorem i1_1 (a : Int) : iter 1 [a] = [a - 1] := rfl
theorem i2_1 (a b : Int) : iter 1 [a, b] = [a - 1, b + 1 * a + (-1)] := by simp [iter, nxt]; omega
theorem i3_1 (a b c : Int) : iter 1 [a, b, c] = [a - 1, b + 1 * a + (-1), c + 1 * b + 0 * a + (-1)] := by simp [iter, nxt]; omega
theorem i1_2 (a : Int) : iter 2 [a] = [a - 2] := by rw [show 2 = 1 + 1 from rfl, iter_add, i1_1, i1_1]; congr 1; omega
theorem i2_2 (a b : Int) : iter 2 [a, b] = [a - 2, b + 2 * a + (-3)] := by
  rw [show 2 = 1 + 1 from rfl, iter_add, i2_1, i2_1]
  simp only [List.cons.injEq, and_true]
  omega
theorem i3_2 (a b c : Int) : iter 2 [a, b, c] = [a - 2, b + 2 * a + (-3), c + 2 * b + 1 * a + (-3)] := by
  rw [show 2 = 1 + 1 from rfl, iter_add, i3_1, i3_1]
  simp only [List.cons.injEq, and_true]
  omega
theorem i1_4 (a : Int) : iter 4 [a] = [a - 4] := by rw [show 4 = 2 + 2 from rfl, iter_add, i1_2, i1_2]; congr 1; omega
theorem i2_4 (a b : Int) : iter 4 [a, b] = [a - 4, b + 4 * a + (-10)] := by
  rw [show 4 = 2 + 2 from rfl, iter_add, i2_2, i2_2]
  simp only [List.cons.injEq, and_true]
  omega
theorem i3_4 (a b c : Int) : iter 4 [a, b, c] = [a - 4, b + 4 * a + (-10), c + 4 * b + 6 * a + (-14)] := by
  rw [show 4 = 2 + 2 from rfl, iter_add, i3_2, i3_2]
  simp only [List.cons.injEq, and_true]
  omega
theorem i1_8 (a : Int) : iter 8 [a] = [a - 8] := by rw [show 8 = 4 + 4 from rfl, iter_add, i1_4, i1_4]; congr 1; omega
theorem i2_8 (a b : Int) : iter 8 [a, b] = [a - 8, b + 8 * a + (-36)] := by
  rw [show 8 = 4 + 4 from rfl, iter_add, i2_4, i2_4]
  simp only [List.cons.injEq, and_true]
  omega
theorem i3_8 (a b c : Int) : iter 8 [a, b, c] = [a - 8, b + 8 * a + (-36), c + 8 * b + 28 * a + (-92)] := by
  rw [show 8 = 4 + 4 from rfl, iter_add, i3_4, i3_4]
  simp only [List.cons.injEq, and_true]
  omega
theorem i1_16 (a : Int) : iter 16 [a] = [a - 16] := by rw [show 16 = 8 + 8 from rfl, iter_add, i1_8, i1_8]; congr 1; omega
theorem i2_16 (a b : Int) : iter 16 [a, b] = [a - 16, b + 16 * a + (-136)] := by
  rw [show 16 = 8 + 8 from rfl, iter_add, i2_8, i2_8]
  simp only [List.cons.injEq, and_true]
  omega
theorem i3_16 (a b c : Int) : iter 16 [a, b, c] = [a - 16, b + 16 * a + (-136), c + 16 * b + 120 * a + (-696)] := by
  rw [show 16 = 8 + 8 from rfl, iter_add, i3_8, i3_8]
  simp only [List.cons.injEq, and_true]
  omega
theorem i1_32 (a : Int) : iter 32 [a] = [a - 32] := by rw [show 32 = 16 + 16 from rfl, iter_add, i1_16, i1_16]; congr 1; omega
theorem i2_32 (a b : Int) : iter 32 [a, b] = [a - 32, b + 32 * a + (-528)] := by
  rw [show 32 = 16 + 16 from rfl, iter_add, i2_16, i2_16]
  simp only [List.cons.injEq, and_true]
  omega
theorem i3_32 (a b c : Int) : iter 32 [a, b, c] = [a - 32, b + 32 * a + (-528), c + 32 * b + 496 * a + (-5488)] := by
  rw [show 32 = 16 + 16 from rfl, iter_add, i3_16, i3_16]
  simp only [List.cons.injEq, and_true]
  omega
theorem i1_64 (a : Int) : iter 64 [a] = [a - 64] := by rw [show 64 = 32 + 32 from rfl, iter_add, i1_32, i1_32]; congr 1; omega
theorem i2_64 (a b : Int) : iter 64 [a, b] = [a - 64, b + 64 * a + (-2080)] := by
  rw [show 64 = 32 + 32 from rfl, iter_add, i2_32, i2_32]
  simp only [List.cons.injEq, and_true]
  omega
theorem i3_64 (a b c : Int) : iter 64 [a, b, c] = [a - 64, b + 64 * a + (-2080), c + 64 * b + 2016 * a + (-43744)] := by
  rw [show 64 = 32 + 32 from rfl, iter_add, i3_32, i3_32]
  simp only [List.cons.injEq, and_true]
  omega
theorem i1_128 (a : Int) : iter 128 [a] = [a - 128] := by rw [show 128 = 64 + 64 from rfl, iter_add, i1_64, i1_64]; congr 1; omega
theorem i2_128 (a b : Int) : iter 128 [a, b] = [a - 128, b + 128 * a + (-8256)] := by
  rw [show 128 = 64 + 64 from rfl, iter_add, i2_64, i2_64]
  simp only [List.cons.injEq, and_true]
  omega
theorem i3_128 (a b c : Int) : iter 128 [a, b, c] = [a - 128, b + 128 * a + (-8256), c + 128 * b + 8128 * a + (-349632)] := by
  rw [show 128 = 64 + 64 from rfl, iter_add, i3_64, i3_64]
  simp only [List.cons.injEq, and_true]
  omega
theorem i1_256 (a : Int) : iter 256 [a] = [a - 256] := by rw [show 256 = 128 + 128 from rfl, iter_add, i1_128, i1_128]; congr 1; omega
theorem i2_256 (a b : Int) : iter 256 [a, b] = [a - 256, b + 256 * a + (-32896)] := by
  rw [show 256 = 128 + 128 from rfl, iter_add, i2_128, i2_128]
  simp only [List.cons.injEq, and_true]
  omega
theorem i3_256 (a b c : Int) : iter 256 [a, b, c] = [a - 256, b + 256 * a + (-32896), c + 256 * b + 32640 * a + (-2796416)] := by
  rw [show 256 = 128 + 128 from rfl, iter_add, i3_128, i3_128]
  simp only [List.cons.injEq, and_true]
  omega
theorem i1_512 (a : Int) : iter 512 [a] = [a - 512] := by rw [show 512 = 256 + 256 from rfl, iter_add, i1_256, i1_256]; congr 1; omega
theorem i2_512 (a b : Int) : iter 512 [a, b] = [a - 512, b + 512 * a + (-131328)] := by
  rw [show 512 = 256 + 256 from rfl, iter_add, i2_256, i2_256]
  simp only [List.cons.injEq, and_true]
  omega
theorem i3_512 (a b c : Int) : iter 512 [a, b, c] = [a - 512, b + 512 * a + (-131328), c + 512 * b + 130816 * a + (-22370048)] := by
  rw [show 512 = 256 + 256 from rfl, iter_add, i3_256, i3_256]
  simp only [List.cons.injEq, and_true]
  omega
theorem ends {l : List Int} (hl : Few l) (h : ∀ x ∈ l, 0 ≤ x ∧ x ≤ 100) : ∃ m, m ≤ 512 ∧ Ends m l := by
  apply ends_of
  obtain ⟨h1, h2⟩ := hl
  match l, h1, h2 with
  | [a], _, _ =>
    have := h a (by simp)
    rw [i1_512]
    show a - 512 < 0
    omega
  | [a, b], _, _ =>
    have := h a (by simp)
    have := h b (by simp)
    rw [i2_512]
    simp only [lastI, List.getLastD]
    simp
    omega
  | [a, b, c], _, _ =>
    have := h a (by simp)
    have := h b (by simp)
    have := h c (by simp)
    rw [i3_512]
    simp only [lastI, List.getLastD]
    simp
    omega
end K57
end
section
set_option Elab.async false
set_option linter.all false
set_option maxRecDepth 100000
set_option maxHeartbeats 2000000
set_option autoImplicit false
namespace K57
open PySem L2 PyProof.Rows PD
/-! ### values of leaves -/
/-- what the names stand for -/
structure Nums (kvs : List (D × D)) (x y : Int) : Prop where
  lx : look (.inr X) kvs = some (.int x)
  ly : look (.inr Y) kvs = some (.int y)
  bx : -10 ≤ x ∧ x ≤ 10
  by_ : -10 ≤ y ∧ y ≤ 10
def valF (k : Int) (ps : List (Str × Int)) (x y : Int) : Int := match ps with
  | [(n, f)] => k + f * (if n = X then x else y)
  | [(_, f), (_, g)] => k + (f * x + g * y)
  | _ => k
theorem YX : (Y = X) = False := by simp; decide
theorem e_value {k x y : Int} {ps : List (Str × Int)} {kvs : List (D × D)} (h : OkPs ps) (hn : Nums kvs x y) {cs : CS} (hf : cs.all T.cellFlat = true) : m_value_at [.tup .ex [.int k, .tup .pl (ps.map pairD)], .dct .K kvs] cs = some (.sh (.int (valF k ps x y)), cs) := by
  obtain ⟨lx, ly, bx, by_⟩ := hn
  have i0 : ∀ (a b : D), atI [a, b] (0 : Int) = some a := fun _ _ => rfl
  have i1 : ∀ (a b : D), atI [a, b] (1 : Int) = some b := fun _ _ => rfl
  have cm : ∀ f z : Int, okF f → -10 ≤ z → z ≤ 10 → CMulW f z := fun f z hf h1 h2 => cmul (by unfold okF at hf; omega) (by omega)
  cases h with
  | nil => simp [m_value_at, b_value_at, N_value_at, i0, i1, valF, eAdd, catT, dAdd, dSum, on1L, intsOf, eComp, compL, iSeq, itemsOf, ownOk, wipeE, backE, r4, tTrue, runBody, sRet, sRetV, sRetN, sSeq, sIf, sAsg, sNext, sPar, sPar3, eAn, eOo, eNt, eIf, eN, eTup, eLst, e1, e2, t2, tV, tNt, tAn, tOo, eCh, tCh, aCons, aNil, eVar, eMov, eC, eIx, eSl, oNo, oAt, eCall, gN, gTpD, gConsD, gNilD, env0, keep_same, T.toD, T.toDs, dIsi, D.tyName, isKind, isAnyKind, D.isT, dLen, lenD, dEqX, dNeX, unlike, D.seqL, dEq, dNe, dEqv, D.isPy, D.isPys, D.py, D.pys, PyData.eqv, PyData.eqvAll, dNeg, dIx]
  | x h1 =>
    have c1 := cm _ x h1 bx.1 bx.2
    simp [m_value_at, b_value_at, N_value_at, i0, i1, valF, eAdd, catT, dAdd, dSum, on1L, intsOf, eComp, compL, iSeq, itemsOf, ownOk, wipeE, backE, r4, tTrue, dMul, c1, D.key?, lx, ly, runBody, sRet, sRetV, sRetN, sSeq, sIf, sAsg, sNext, sPar, sPar3, eAn, eOo, eNt, eIf, eN, eTup, eLst, e1, e2, t2, tV, tNt, tAn, tOo, eCh, tCh, aCons, aNil, eVar, eMov, eC, eIx, eSl, oNo, oAt, eCall, gN, gTpD, gConsD, gNilD, env0, keep_same, T.toD, T.toDs, dIsi, D.tyName, isKind, isAnyKind, D.isT, dLen, lenD, dEqX, dNeX, unlike, D.seqL, dEq, dNe, dEqv, D.isPy, D.isPys, D.py, D.pys, PyData.eqv, PyData.eqvAll, dNeg, dIx]
  | y h1 =>
    have c1 := cm _ y h1 by_.1 by_.2
    simp [m_value_at, b_value_at, N_value_at, i0, i1, valF, YX, eAdd, catT, dAdd, dSum, on1L, intsOf, eComp, compL, iSeq, itemsOf, ownOk, wipeE, backE, r4, tTrue, dMul, c1, D.key?, lx, ly, runBody, sRet, sRetV, sRetN, sSeq, sIf, sAsg, sNext, sPar, sPar3, eAn, eOo, eNt, eIf, eN, eTup, eLst, e1, e2, t2, tV, tNt, tAn, tOo, eCh, tCh, aCons, aNil, eVar, eMov, eC, eIx, eSl, oNo, oAt, eCall, gN, gTpD, gConsD, gNilD, env0, keep_same, T.toD, T.toDs, dIsi, D.tyName, isKind, isAnyKind, D.isT, dLen, lenD, dEqX, dNeX, unlike, D.seqL, dEq, dNe, dEqv, D.isPy, D.isPys, D.py, D.pys, PyData.eqv, PyData.eqvAll, dNeg, dIx]
  | xy h1 h2 =>
    have c1 := cm _ x h1 bx.1 bx.2
    have c2 := cm _ y h2 by_.1 by_.2
    simp [m_value_at, b_value_at, N_value_at, i0, i1, valF, eAdd, catT, dAdd, dSum, on1L, intsOf, eComp, compL, iSeq, itemsOf, ownOk, wipeE, backE, r4, tTrue, dMul, c1, c2, D.key?, lx, ly, runBody, sRet, sRetV, sRetN, sSeq, sIf, sAsg, sNext, sPar, sPar3, eAn, eOo, eNt, eIf, eN, eTup, eLst, e1, e2, t2, tV, tNt, tAn, tOo, eCh, tCh, aCons, aNil, eVar, eMov, eC, eIx, eSl, oNo, oAt, eCall, gN, gTpD, gConsD, gNilD, env0, keep_same, T.toD, T.toDs, dIsi, D.tyName, isKind, isAnyKind, D.isT, dLen, lenD, dEqX, dNeX, unlike, D.seqL, dEq, dNe, dEqv, D.isPy, D.isPys, D.py, D.pys, PyData.eqv, PyData.eqvAll, dNeg, dIx]
def valL (x y : Int) : B → Int
  | .num n => n
  | .frm k ps d => (if valF k ps x y > 0 then valF k ps x y else 0) / d
  | .nd _ _ => 0
theorem e_leafat {b : B} {x y : Int} {kvs : List (D × D)} (h : Lf b) (hn : Nums kvs x y) {cs : CS} (hf : cs.all T.cellFlat = true) : m_leaf_at [b.toD, .dct .K kvs] cs = some (.sh (.int (valL x y b)), cs) := by
  have i0 : ∀ (a b : D), atI [a, b] (0 : Int) = some a := fun _ _ => rfl
  have i1 : ∀ (a b : D), atI [a, b] (1 : Int) = some b := fun _ _ => rfl
  have j0 : ∀ (a b c : D), atI [a, b, c] (0 : Int) = some a := fun _ _ _ => rfl
  have j1 : ∀ (a b c : D), atI [a, b, c] (1 : Int) = some b := fun _ _ _ => rfl
  have j2 : ∀ (a b c : D), atI [a, b, c] (2 : Int) = some c := fun _ _ _ => rfl
  cases h with
  | num h1 h2 => simp [m_leaf_at, b_leaf_at, N_leaf_at, B.toD, i0, i1, valL, runBody, sRet, sRetV, sRetN, sSeq, sIf, sAsg, sNext, sPar, sPar3, eAn, eOo, eNt, eIf, eN, eTup, eLst, e1, e2, t2, tV, tNt, tAn, tOo, eCh, tCh, aCons, aNil, eVar, eMov, eC, eIx, eSl, oNo, oAt, eCall, gN, gTpD, gConsD, gNilD, env0, keep_same, T.toD, T.toDs, dIsi, D.tyName, isKind, isAnyKind, D.isT, dLen, lenD, dEqX, dNeX, unlike, D.seqL, dEq, dNe, dEqv, D.isPy, D.isPys, D.py, D.pys, PyData.eqv, PyData.eqvAll, dNeg, dIx]
  | @frm k d ps h1 h2 h3 h4 h5 =>
    have ev := fun cs hf => e_value (k := k) (cs := cs) h3 hn hf
    have c1 : CDivW (if valF k ps x y > 0 then valF k ps x y else 0) d := cdiv (by omega) (by omega)
    have nf : (PySem.Str.ofString "form" = PySem.Str.ofString "number") = False := by simp; decide
    simp [m_leaf_at, b_leaf_at, N_leaf_at, B.toD, j0, j1, j2, valL, nf, ev cs hf, dMax2, dFdiv, runBody, sRet, sRetV, sRetN, sSeq, sIf, sAsg, sNext, sPar, sPar3, eAn, eOo, eNt, eIf, eN, eTup, eLst, e1, e2, t2, tV, tNt, tAn, tOo, eCh, tCh, aCons, aNil, eVar, eMov, eC, eIx, eSl, oNo, oAt, eCall, gN, gTpD, gConsD, gNilD, env0, keep_same, T.toD, T.toDs, dIsi, D.tyName, isKind, isAnyKind, D.isT, dLen, lenD, dEqX, dNeX, unlike, D.seqL, dEq, dNe, dEqv, D.isPy, D.isPys, D.py, D.pys, PyData.eqv, PyData.eqvAll, dNeg, dIx]
    simp only [gt_iff_lt] at c1
    simp [c1]
end K57
end
section
set_option Elab.async false
set_option linter.all false
set_option maxRecDepth 100000
set_option maxHeartbeats 2000000
set_option autoImplicit false
namespace K57
open PySem L2 PyProof.Rows PD
/-! ### what a bound comes to -/
def isLeaf : B → Bool
  | .nd _ _ => false
  | _ => true
def joinP (w : Str) (vs : List Int) : Int := if w = "greatest" then (match vs with | [] => 0 | v :: r => r.foldl max v) else if w = "plus" then vs.foldl (fun a b => a + b) 0 else vs.foldl (fun a b => a * b) 1
mutual
inductive Val (x y : Int) : B → Int → Prop
  | lf {b : B} : Lf b → Val x y b (valL x y b)
  | ph {bs : List B} {vs : List Int} {m : Nat} : Vals x y bs vs → Few vs → Ends m vs → m ≤ 512 → Val x y (.nd "phases" bs) m
  | nd {w : Str} {bs : List B} {vs : List Int} : (w = "plus" ∨ w = "times" ∨ w = "greatest") → Vals x y bs vs → Few vs → Val x y (.nd w bs) (joinP w vs)
inductive Vals (x y : Int) : List B → List Int → Prop
  | nil : Vals x y [] []
  | cons {b : B} {bs : List B} {v : Int} {vs : List Int} : Val x y b v → Vals x y bs vs → Vals x y (b :: bs) (v :: vs)
end
theorem Vals.length {x y : Int} : ∀ {bs : List B} {vs : List Int}, Vals x y bs vs → vs.length = bs.length
  | [], _, h => by cases h; rfl
  | b :: bs, _, h => by cases h with | cons h1 h2 => simp [Vals.length h2]
theorem valF_le {k x y : Int} {ps : List (Str × Int)} (h : OkPs ps) (hk : -6 ≤ k ∧ k ≤ 6) (hx : -10 ≤ x ∧ x ≤ 10) (hy : -10 ≤ y ∧ y ≤ 10) : valF k ps x y ≤ 86 := by
  have b : ∀ f z : Int, okF f → -10 ≤ z ∧ z ≤ 10 → f * z ≤ 40 := fun f z hf hz => by
    obtain ⟨_, h1, h2⟩ := hf
    have e : f = -4 ∨ f = -3 ∨ f = -2 ∨ f = -1 ∨ f = 0 ∨ f = 1 ∨ f = 2 ∨ f = 3 ∨ f = 4 := by omega
    rcases e with rfl | rfl | rfl | rfl | rfl | rfl | rfl | rfl | rfl <;> omega
  cases h with
  | nil => simp [valF]; omega
  | x h1 => have := b _ x h1 hx; simp [valF]; omega
  | y h1 => have := b _ y h1 hy; simp [valF, YX]; omega
  | xy h1 h2 => have := b _ x h1 hx; have := b _ y h2 hy; simp [valF]; omega
theorem valL_le {b : B} {x y : Int} (h : Lf b) (hx : -10 ≤ x ∧ x ≤ 10) (hy : -10 ≤ y ∧ y ≤ 10) : 0 ≤ valL x y b ∧ valL x y b ≤ 100 := by
  cases h with
  | num h1 h2 => simp [valL]; omega
  | @frm k d ps h1 h2 h3 h4 h5 =>
    have q := valF_le h3 ⟨h1, h2⟩ hx hy
    have e : ∀ z : Int, 0 ≤ z → z ≤ 86 → 0 ≤ z / d ∧ z / d ≤ 100 := fun z z0 z1 => by
      refine ⟨Int.ediv_nonneg z0 (by omega), ?_⟩
      have := Int.ediv_le_self d z0
      omega
    simp only [valL]
    split
    · exact e _ (by omega) q
    · exact e 0 (by omega) (by omega)
theorem e_lvalue {k x y : Int} {ps : List (Str × Int)} {kvs : List (D × D)} (h : OkPs ps) (hn : Nums kvs x y) {cs : CS} (hf : cs.all T.cellFlat = true) : m_law_value [.tup .ex [.int k, .tup .pl (ps.map pairD)], .dct .K kvs] cs = some (.sh (.int (valF k ps x y)), cs) := by
  obtain ⟨lx, ly, bx, by_⟩ := hn
  have i0 : ∀ (a b : D), atI [a, b] (0 : Int) = some a := fun _ _ => rfl
  have i1 : ∀ (a b : D), atI [a, b] (1 : Int) = some b := fun _ _ => rfl
  have cm : ∀ f z : Int, okF f → -10 ≤ z → z ≤ 10 → CMulW f z := fun f z hf h1 h2 => cmul (by unfold okF at hf; omega) (by omega)
  cases h with
  | nil => simp [m_law_value, b_law_value, N_law_value, i0, i1, valF, eAdd, catT, dAdd, dSum, on1L, intsOf, eComp, compL, iSeq, itemsOf, ownOk, wipeE, backE, r4, tTrue, runBody, sRet, sRetV, sRetN, sSeq, sIf, sAsg, sNext, sPar, sPar3, eAn, eOo, eNt, eIf, eN, eTup, eLst, e1, e2, t2, tV, tNt, tAn, tOo, eCh, tCh, aCons, aNil, eVar, eMov, eC, eIx, eSl, oNo, oAt, eCall, gN, gTpD, gConsD, gNilD, env0, keep_same, T.toD, T.toDs, dIsi, D.tyName, isKind, isAnyKind, D.isT, dLen, lenD, dEqX, dNeX, unlike, D.seqL, dEq, dNe, dEqv, D.isPy, D.isPys, D.py, D.pys, PyData.eqv, PyData.eqvAll, dNeg, dIx]
  | x h1 =>
    have c1 := cm _ x h1 bx.1 bx.2
    simp [m_law_value, b_law_value, N_law_value, i0, i1, valF, eAdd, catT, dAdd, dSum, on1L, intsOf, eComp, compL, iSeq, itemsOf, ownOk, wipeE, backE, r4, tTrue, dMul, c1, D.key?, lx, ly, runBody, sRet, sRetV, sRetN, sSeq, sIf, sAsg, sNext, sPar, sPar3, eAn, eOo, eNt, eIf, eN, eTup, eLst, e1, e2, t2, tV, tNt, tAn, tOo, eCh, tCh, aCons, aNil, eVar, eMov, eC, eIx, eSl, oNo, oAt, eCall, gN, gTpD, gConsD, gNilD, env0, keep_same, T.toD, T.toDs, dIsi, D.tyName, isKind, isAnyKind, D.isT, dLen, lenD, dEqX, dNeX, unlike, D.seqL, dEq, dNe, dEqv, D.isPy, D.isPys, D.py, D.pys, PyData.eqv, PyData.eqvAll, dNeg, dIx]
  | y h1 =>
    have c1 := cm _ y h1 by_.1 by_.2
    simp [m_law_value, b_law_value, N_law_value, i0, i1, valF, YX, eAdd, catT, dAdd, dSum, on1L, intsOf, eComp, compL, iSeq, itemsOf, ownOk, wipeE, backE, r4, tTrue, dMul, c1, D.key?, lx, ly, runBody, sRet, sRetV, sRetN, sSeq, sIf, sAsg, sNext, sPar, sPar3, eAn, eOo, eNt, eIf, eN, eTup, eLst, e1, e2, t2, tV, tNt, tAn, tOo, eCh, tCh, aCons, aNil, eVar, eMov, eC, eIx, eSl, oNo, oAt, eCall, gN, gTpD, gConsD, gNilD, env0, keep_same, T.toD, T.toDs, dIsi, D.tyName, isKind, isAnyKind, D.isT, dLen, lenD, dEqX, dNeX, unlike, D.seqL, dEq, dNe, dEqv, D.isPy, D.isPys, D.py, D.pys, PyData.eqv, PyData.eqvAll, dNeg, dIx]
  | xy h1 h2 =>
    have c1 := cm _ x h1 bx.1 bx.2
    have c2 := cm _ y h2 by_.1 by_.2
    simp [m_law_value, b_law_value, N_law_value, i0, i1, valF, eAdd, catT, dAdd, dSum, on1L, intsOf, eComp, compL, iSeq, itemsOf, ownOk, wipeE, backE, r4, tTrue, dMul, c1, c2, D.key?, lx, ly, runBody, sRet, sRetV, sRetN, sSeq, sIf, sAsg, sNext, sPar, sPar3, eAn, eOo, eNt, eIf, eN, eTup, eLst, e1, e2, t2, tV, tNt, tAn, tOo, eCh, tCh, aCons, aNil, eVar, eMov, eC, eIx, eSl, oNo, oAt, eCall, gN, gTpD, gConsD, gNilD, env0, keep_same, T.toD, T.toDs, dIsi, D.tyName, isKind, isAnyKind, D.isT, dLen, lenD, dEqX, dNeX, unlike, D.seqL, dEq, dNe, dEqv, D.isPy, D.isPys, D.py, D.pys, PyData.eqv, PyData.eqvAll, dNeg, dIx]
end K57
end
section
set_option Elab.async false
set_option linter.all false
set_option maxRecDepth 100000
set_option maxHeartbeats 2000000
set_option autoImplicit false
namespace K57
open PySem L2 PyProof.Rows PD
theorem i0 : ∀ (a b : D), atI [a, b] (0 : Int) = some a := fun _ _ => rfl
theorem i1 : ∀ (a b : D), atI [a, b] (1 : Int) = some b := fun _ _ => rfl
theorem j0 : ∀ (a b c : D), atI [a, b, c] (0 : Int) = some a := fun _ _ _ => rfl
theorem j1 : ∀ (a b c : D), atI [a, b, c] (1 : Int) = some b := fun _ _ _ => rfl
theorem j2 : ∀ (a b c : D), atI [a, b, c] (2 : Int) = some c := fun _ _ _ => rfl
theorem nfn : (PySem.Str.ofString "form" = PySem.Str.ofString "number") = False := by simp; decide
theorem e_ctleaf {b : B} {x y : Int} {kvs : List (D × D)} (h : Lf b) (hn : Nums kvs x y) (f : Nat) {cs : CS} (hf : cs.all T.cellFlat = true) : m_law_comes_to (f + 1) [b.toD, .dct .K kvs] cs = some (.sh (.int (valL x y b)), cs) := by
  cases h with
  | num h1 h2 => simp [m_law_comes_to, b_law_comes_to, N_law_comes_to, B.toD, i0, i1, valL, runBody, sRet, sRetV, sRetN, sSeq, sIf, sAsg, sNext, sPar, sPar3, eAn, eOo, eNt, eIf, eN, eTup, eLst, e1, e2, t2, tV, tNt, tAn, tOo, eCh, tCh, aCons, aNil, eVar, eMov, eC, eIx, eSl, oNo, oAt, eCall, gN, gTpD, gConsD, gNilD, env0, keep_same, T.toD, T.toDs, dIsi, D.tyName, isKind, isAnyKind, D.isT, dLen, lenD, dEqX, dNeX, unlike, D.seqL, dEq, dNe, dEqv, D.isPy, D.isPys, D.py, D.pys, PyData.eqv, PyData.eqvAll, dNeg, dIx]
  | @frm k d ps h1 h2 h3 h4 h5 =>
    have ev := fun cs hf => e_lvalue (k := k) (cs := cs) h3 hn hf
    have c1 : CDivW (if valF k ps x y > 0 then valF k ps x y else 0) d := cdiv (by omega) (by omega)
    simp only [gt_iff_lt] at c1
    simp [m_law_comes_to, b_law_comes_to, N_law_comes_to, B.toD, j0, j1, j2, valL, nfn, ev cs hf, dMax2, dFdiv, runBody, sRet, sRetV, sRetN, sSeq, sIf, sAsg, sNext, sPar, sPar3, eAn, eOo, eNt, eIf, eN, eTup, eLst, e1, e2, t2, tV, tNt, tAn, tOo, eCh, tCh, aCons, aNil, eVar, eMov, eC, eIx, eSl, oNo, oAt, eCall, gN, gTpD, gConsD, gNilD, env0, keep_same, T.toD, T.toDs, dIsi, D.tyName, isKind, isAnyKind, D.isT, dLen, lenD, dEqX, dNeX, unlike, D.seqL, dEq, dNe, dEqv, D.isPy, D.isPys, D.py, D.pys, PyData.eqv, PyData.eqvAll, dNeg, dIx]
    simp [c1]
end K57
end
section
set_option Elab.async false
set_option linter.all false
set_option maxRecDepth 100000
set_option maxHeartbeats 4000000
set_option autoImplicit false
namespace K57
open PySem L2 PyProof.Rows PD
/-! ### the program's joined -/
/-- counts few enough and small enough -/
structure Sm (vs : List Int) : Prop where
  few : Few vs
  sm : ∀ v ∈ vs, v.natAbs < 2 ^ 90
theorem w1 : (PySem.Str.ofString "plus" = PySem.Str.ofString "phases") = False := by simp; decide
theorem w2 : (PySem.Str.ofString "plus" = PySem.Str.ofString "greatest") = False := by simp; decide
theorem w3 : (PySem.Str.ofString "times" = PySem.Str.ofString "phases") = False := by simp; decide
theorem w4 : (PySem.Str.ofString "times" = PySem.Str.ofString "greatest") = False := by simp; decide
theorem w5 : (PySem.Str.ofString "times" = PySem.Str.ofString "plus") = False := by simp; decide
theorem w6 : (PySem.Str.ofString "greatest" = PySem.Str.ofString "phases") = False := by simp; decide
theorem w7 : (PySem.Str.ofString "greatest" = PySem.Str.ofString "plus") = False := by simp; decide
theorem e_joined {w : Str} (hw : w = "plus" ∨ w = "times" ∨ w = "greatest") {vs : List Int} (h : Sm vs) {cs : CS} (hf : cs.all T.cellFlat = true) : m_joined [.str w, .lst (vs.map D.int)] cs = some (.sh (.int (joinP w vs)), cs) := by
  obtain ⟨⟨h1, h2⟩, hs⟩ := h
  match vs, h1, h2 with
  | [a], _, _ =>
    have ca : CMulW 1 a := cmul (by decide) (by have := hs a (by simp); omega)
    rcases hw with rfl | rfl | rfl <;> simp [m_joined, b_joined, N_joined, joinP, w1, w2, w3, w4, w5, w6, w7, dMax1, on1L, intsOf, sFor, forL, iSeq, itemsOf, eAdd, catT, dAdd, dMul, ca, runBody, sRet, sRetV, sRetN, sSeq, sIf, sAsg, sNext, sPar, sPar3, eAn, eOo, eNt, eIf, eN, eTup, eLst, e1, e2, t2, tV, tNt, tAn, tOo, eCh, tCh, aCons, aNil, eVar, eMov, eC, eIx, eSl, oNo, oAt, eCall, gN, gTpD, gConsD, gNilD, env0, keep_same, T.toD, T.toDs, dIsi, D.tyName, isKind, isAnyKind, D.isT, dLen, lenD, dEqX, dNeX, unlike, D.seqL, dEq, dNe, dEqv, D.isPy, D.isPys, D.py, D.pys, PyData.eqv, PyData.eqvAll, dNeg, dIx]
  | [a, b], _, _ =>
    have na := hs a (by simp)
    have nb := hs b (by simp)
    have ca : CMulW 1 a := cmul (by decide) (by omega)
    have cb : CMulW a b := cmul (by omega) (by omega)
    rcases hw with rfl | rfl | rfl <;> simp [m_joined, b_joined, N_joined, joinP, w1, w2, w3, w4, w5, w6, w7, dMax1, on1L, intsOf, sFor, forL, iSeq, itemsOf, eAdd, catT, dAdd, dMul, ca, cb, runBody, sRet, sRetV, sRetN, sSeq, sIf, sAsg, sNext, sPar, sPar3, eAn, eOo, eNt, eIf, eN, eTup, eLst, e1, e2, t2, tV, tNt, tAn, tOo, eCh, tCh, aCons, aNil, eVar, eMov, eC, eIx, eSl, oNo, oAt, eCall, gN, gTpD, gConsD, gNilD, env0, keep_same, T.toD, T.toDs, dIsi, D.tyName, isKind, isAnyKind, D.isT, dLen, lenD, dEqX, dNeX, unlike, D.seqL, dEq, dNe, dEqv, D.isPy, D.isPys, D.py, D.pys, PyData.eqv, PyData.eqvAll, dNeg, dIx]
  | [a, b, c], _, _ =>
    have na := hs a (by simp)
    have nb := hs b (by simp)
    have nc := hs c (by simp)
    have nab := mul_big na nb
    have ca : CMulW 1 a := cmul (by decide) (by omega)
    have cb : CMulW a b := cmul (by omega) (by omega)
    have cc : CMulW (a * b) c := cmul (by omega) (by omega)
    rcases hw with rfl | rfl | rfl <;> simp [m_joined, b_joined, N_joined, joinP, w1, w2, w3, w4, w5, w6, w7, dMax1, on1L, intsOf, sFor, forL, iSeq, itemsOf, eAdd, catT, dAdd, dMul, ca, cb, cc, runBody, sRet, sRetV, sRetN, sSeq, sIf, sAsg, sNext, sPar, sPar3, eAn, eOo, eNt, eIf, eN, eTup, eLst, e1, e2, t2, tV, tNt, tAn, tOo, eCh, tCh, aCons, aNil, eVar, eMov, eC, eIx, eSl, oNo, oAt, eCall, gN, gTpD, gConsD, gNilD, env0, keep_same, T.toD, T.toDs, dIsi, D.tyName, isKind, isAnyKind, D.isT, dLen, lenD, dEqX, dNeX, unlike, D.seqL, dEq, dNe, dEqv, D.isPy, D.isPys, D.py, D.pys, PyData.eqv, PyData.eqvAll, dNeg, dIx]
end K57
end
section
set_option Elab.async false
set_option linter.all false
set_option maxRecDepth 100000
set_option maxHeartbeats 4000000
set_option autoImplicit false
namespace K57
open PySem L2 PyProof.Rows PD
theorem n1 : (PySem.Str.ofString "plus" = PySem.Str.ofString "number") = False := by simp; decide
theorem n2 : (PySem.Str.ofString "plus" = PySem.Str.ofString "form") = False := by simp; decide
theorem n3 : (PySem.Str.ofString "times" = PySem.Str.ofString "number") = False := by simp; decide
theorem n4 : (PySem.Str.ofString "times" = PySem.Str.ofString "form") = False := by simp; decide
theorem n5 : (PySem.Str.ofString "greatest" = PySem.Str.ofString "number") = False := by simp; decide
theorem n6 : (PySem.Str.ofString "greatest" = PySem.Str.ofString "form") = False := by simp; decide
theorem n7 : (PySem.Str.ofString "phases" = PySem.Str.ofString "number") = False := by simp; decide
theorem n8 : (PySem.Str.ofString "phases" = PySem.Str.ofString "form") = False := by simp; decide
theorem r6 : List.range 6 = [0, 1, 2, 3, 4, 5] := rfl
/-- the law's recursion tells v of d -/
def Ct (f : Nat) (kvs : List (D × D)) (d : D) (v : Int) : Prop := ∀ cs : CS, cs.all T.cellFlat = true → m_law_comes_to f [d, .dct .K kvs] cs = some (.sh (.int v), cs)
theorem ct_nd {f : Nat} {kvs : List (D × D)} {w : Str} (hw : w = "plus" ∨ w = "times" ∨ w = "greatest") {d1 d2 d3 : D} {a b c : Int} (h1 : Ct f kvs d1 a) (h2 : Ct f kvs d2 b) (h3 : Ct f kvs d3 c) (hs : Sm [a, b, c]) : Ct (f + 1) kvs (.tup .ex [.str w, .lst [d1, d2, d3]]) (joinP w [a, b, c]) := by
  intro cs hf
  have na := hs.sm a (by simp)
  have nb := hs.sm b (by simp)
  have nc := hs.sm c (by simp)
  have nab := mul_big na nb
  have ca : CMulW 1 a := cmul (by decide) (by omega)
  have cb : CMulW a b := cmul (by omega) (by omega)
  have cc : CMulW (a * b) c := cmul (by omega) (by omega)
  have q1 := h1 cs hf
  have q2 := h2 cs hf
  have q3 := h3 cs hf
  rcases hw with rfl | rfl | rfl <;> simp [m_law_comes_to, b_law_comes_to, N_law_comes_to, joinP, i0, i1, w1, w2, w3, w4, w5, w6, w7, n1, n2, n3, n4, n5, n6, q1, q2, q3, dMax1, on1L, intsOf, eComp, compL, tTrue, ownOk, wipeE, backE, r6, sFor, forL, iSeq, itemsOf, eAdd, catT, dAdd, dMul, ca, cb, cc, runBody, sRet, sRetV, sRetN, sSeq, sIf, sAsg, sNext, sPar, sPar3, eAn, eOo, eNt, eIf, eN, eTup, eLst, e1, e2, t2, tV, tNt, tAn, tOo, eCh, tCh, aCons, aNil, eVar, eMov, eC, eIx, eSl, oNo, oAt, eCall, gN, gTpD, gConsD, gNilD, env0, keep_same, T.toD, T.toDs, dIsi, D.tyName, isKind, isAnyKind, D.isT, dLen, lenD, dEqX, dNeX, unlike, D.seqL, dEq, dNe, dEqv, D.isPy, D.isPys, D.py, D.pys, PyData.eqv, PyData.eqvAll, dNeg, dIx]
theorem ct_nd1 {f : Nat} {kvs : List (D × D)} {w : Str} (hw : w = "plus" ∨ w = "times" ∨ w = "greatest") {d1 : D} {a : Int} (h1 : Ct f kvs d1 a) (hs : Sm [a]) : Ct (f + 1) kvs (.tup .ex [.str w, .lst [d1]]) (joinP w [a]) := by
  intro cs hf
  have ca : CMulW 1 a := cmul (by decide) (by have := hs.sm a (by simp); omega)
  have q1 := h1 cs hf
  rcases hw with rfl | rfl | rfl <;> simp [m_law_comes_to, b_law_comes_to, N_law_comes_to, joinP, i0, i1, w1, w2, w3, w4, w5, w6, w7, n1, n2, n3, n4, n5, n6, n7, n8, q1, dMax1, on1L, intsOf, eComp, compL, tTrue, ownOk, wipeE, backE, r6, sFor, forL, iSeq, itemsOf, eAdd, catT, dAdd, dMul, ca, runBody, sRet, sRetV, sRetN, sSeq, sIf, sAsg, sNext, sPar, sPar3, eAn, eOo, eNt, eIf, eN, eTup, eLst, e1, e2, t2, tV, tNt, tAn, tOo, eCh, tCh, aCons, aNil, eVar, eMov, eC, eIx, eSl, oNo, oAt, eCall, gN, gTpD, gConsD, gNilD, env0, keep_same, T.toD, T.toDs, dIsi, D.tyName, isKind, isAnyKind, D.isT, dLen, lenD, dEqX, dNeX, unlike, D.seqL, dEq, dNe, dEqv, D.isPy, D.isPys, D.py, D.pys, PyData.eqv, PyData.eqvAll, dNeg, dIx]
theorem ct_nd2 {f : Nat} {kvs : List (D × D)} {w : Str} (hw : w = "plus" ∨ w = "times" ∨ w = "greatest") {d1 d2 : D} {a b : Int} (h1 : Ct f kvs d1 a) (h2 : Ct f kvs d2 b) (hs : Sm [a, b]) : Ct (f + 1) kvs (.tup .ex [.str w, .lst [d1, d2]]) (joinP w [a, b]) := by
  intro cs hf
  have na := hs.sm a (by simp)
  have nb := hs.sm b (by simp)
  have ca : CMulW 1 a := cmul (by decide) (by omega)
  have cb : CMulW a b := cmul (by omega) (by omega)
  have q1 := h1 cs hf
  have q2 := h2 cs hf
  rcases hw with rfl | rfl | rfl <;> simp [m_law_comes_to, b_law_comes_to, N_law_comes_to, joinP, i0, i1, w1, w2, w3, w4, w5, w6, w7, n1, n2, n3, n4, n5, n6, n7, n8, q1, q2, dMax1, on1L, intsOf, eComp, compL, tTrue, ownOk, wipeE, backE, r6, sFor, forL, iSeq, itemsOf, eAdd, catT, dAdd, dMul, ca, cb, runBody, sRet, sRetV, sRetN, sSeq, sIf, sAsg, sNext, sPar, sPar3, eAn, eOo, eNt, eIf, eN, eTup, eLst, e1, e2, t2, tV, tNt, tAn, tOo, eCh, tCh, aCons, aNil, eVar, eMov, eC, eIx, eSl, oNo, oAt, eCall, gN, gTpD, gConsD, gNilD, env0, keep_same, T.toD, T.toDs, dIsi, D.tyName, isKind, isAnyKind, D.isT, dLen, lenD, dEqX, dNeX, unlike, D.seqL, dEq, dNe, dEqv, D.isPy, D.isPys, D.py, D.pys, PyData.eqv, PyData.eqvAll, dNeg, dIx]
theorem ct_ph1 {f : Nat} {kvs : List (D × D)} {d1 : D} {a : Int} (h1 : Ct f kvs d1 a) {m : Nat} (he : Ends m [a]) (hm : m ≤ 512) : Ct (f + 1) kvs (.tup .ex [.str "phases", .lst [d1]]) m := by
  intro cs hf
  have e := e_turns (l := [a]) ⟨by simp, by simp⟩ he (by omega) hf
  simp only [List.map_cons, List.map_nil] at e
  have q1 := h1 cs hf
  simp [m_law_comes_to, b_law_comes_to, N_law_comes_to, i0, i1, n7, n8, q1, e, eComp, compL, tTrue, ownOk, wipeE, backE, r6, iSeq, itemsOf, runBody, sRet, sRetV, sRetN, sSeq, sIf, sAsg, sNext, sPar, sPar3, eAn, eOo, eNt, eIf, eN, eTup, eLst, e1, e2, t2, tV, tNt, tAn, tOo, eCh, tCh, aCons, aNil, eVar, eMov, eC, eIx, eSl, oNo, oAt, eCall, gN, gTpD, gConsD, gNilD, env0, keep_same, T.toD, T.toDs, dIsi, D.tyName, isKind, isAnyKind, D.isT, dLen, lenD, dEqX, dNeX, unlike, D.seqL, dEq, dNe, dEqv, D.isPy, D.isPys, D.py, D.pys, PyData.eqv, PyData.eqvAll, dNeg, dIx]
theorem ct_ph2 {f : Nat} {kvs : List (D × D)} {d1 d2 : D} {a b : Int} (h1 : Ct f kvs d1 a) (h2 : Ct f kvs d2 b) {m : Nat} (he : Ends m [a, b]) (hm : m ≤ 512) : Ct (f + 1) kvs (.tup .ex [.str "phases", .lst [d1, d2]]) m := by
  intro cs hf
  have e := e_turns (l := [a, b]) ⟨by simp, by simp⟩ he (by omega) hf
  simp only [List.map_cons, List.map_nil] at e
  have q1 := h1 cs hf
  have q2 := h2 cs hf
  simp [m_law_comes_to, b_law_comes_to, N_law_comes_to, i0, i1, n7, n8, q1, q2, e, eComp, compL, tTrue, ownOk, wipeE, backE, r6, iSeq, itemsOf, runBody, sRet, sRetV, sRetN, sSeq, sIf, sAsg, sNext, sPar, sPar3, eAn, eOo, eNt, eIf, eN, eTup, eLst, e1, e2, t2, tV, tNt, tAn, tOo, eCh, tCh, aCons, aNil, eVar, eMov, eC, eIx, eSl, oNo, oAt, eCall, gN, gTpD, gConsD, gNilD, env0, keep_same, T.toD, T.toDs, dIsi, D.tyName, isKind, isAnyKind, D.isT, dLen, lenD, dEqX, dNeX, unlike, D.seqL, dEq, dNe, dEqv, D.isPy, D.isPys, D.py, D.pys, PyData.eqv, PyData.eqvAll, dNeg, dIx]
theorem ct_ph3 {f : Nat} {kvs : List (D × D)} {d1 d2 d3 : D} {a b c : Int} (h1 : Ct f kvs d1 a) (h2 : Ct f kvs d2 b) (h3 : Ct f kvs d3 c) {m : Nat} (he : Ends m [a, b, c]) (hm : m ≤ 512) : Ct (f + 1) kvs (.tup .ex [.str "phases", .lst [d1, d2, d3]]) m := by
  intro cs hf
  have e := e_turns (l := [a, b, c]) ⟨by simp, by simp⟩ he (by omega) hf
  simp only [List.map_cons, List.map_nil] at e
  have q1 := h1 cs hf
  have q2 := h2 cs hf
  have q3 := h3 cs hf
  simp [m_law_comes_to, b_law_comes_to, N_law_comes_to, i0, i1, n7, n8, q1, q2, q3, e, eComp, compL, tTrue, ownOk, wipeE, backE, r6, iSeq, itemsOf, runBody, sRet, sRetV, sRetN, sSeq, sIf, sAsg, sNext, sPar, sPar3, eAn, eOo, eNt, eIf, eN, eTup, eLst, e1, e2, t2, tV, tNt, tAn, tOo, eCh, tCh, aCons, aNil, eVar, eMov, eC, eIx, eSl, oNo, oAt, eCall, gN, gTpD, gConsD, gNilD, env0, keep_same, T.toD, T.toDs, dIsi, D.tyName, isKind, isAnyKind, D.isT, dLen, lenD, dEqX, dNeX, unlike, D.seqL, dEq, dNe, dEqv, D.isPy, D.isPys, D.py, D.pys, PyData.eqv, PyData.eqvAll, dNeg, dIx]
end K57
end
section
set_option Elab.async false
set_option linter.all false
set_option maxRecDepth 100000
set_option maxHeartbeats 4000000
set_option autoImplicit false
namespace K57
open PySem L2 PyProof.Rows PD
/-! ### a bound reckoned -/
/-- a leaf that is reckoned -/
inductive Lv : B → Prop
  | num {n : Int} : 0 ≤ n → Lv (.num n)
  | frm {k d : Int} {ps : List (Str × Int)} : OkPs ps → 1 ≤ d → d ≤ 4 → Lv (.frm k ps d)
theorem Lf.lv {b : B} (h : Lf b) : Lv b := by
  cases h with
  | num h1 h2 => exact .num h1
  | frm h1 h2 h3 h4 h5 => exact .frm h3 h4 h5
theorem e_leafat2 {b : B} {x y : Int} {kvs : List (D × D)} (h : Lv b) (hn : Nums kvs x y) {cs : CS} (hf : cs.all T.cellFlat = true) : m_leaf_at [b.toD, .dct .K kvs] cs = some (.sh (.int (valL x y b)), cs) := by
  cases h with
  | num h1 => simp [m_leaf_at, b_leaf_at, N_leaf_at, B.toD, i0, i1, valL, runBody, sRet, sRetV, sRetN, sSeq, sIf, sAsg, sNext, sPar, sPar3, eAn, eOo, eNt, eIf, eN, eTup, eLst, e1, e2, t2, tV, tNt, tAn, tOo, eCh, tCh, aCons, aNil, eVar, eMov, eC, eIx, eSl, oNo, oAt, eCall, gN, gTpD, gConsD, gNilD, env0, keep_same, T.toD, T.toDs, dIsi, D.tyName, isKind, isAnyKind, D.isT, dLen, lenD, dEqX, dNeX, unlike, D.seqL, dEq, dNe, dEqv, D.isPy, D.isPys, D.py, D.pys, PyData.eqv, PyData.eqvAll, dNeg, dIx]
  | @frm k d ps h3 h4 h5 =>
    have ev := fun cs hf => e_value (k := k) (cs := cs) h3 hn hf
    have c1 : CDivW (if valF k ps x y > 0 then valF k ps x y else 0) d := cdiv (by omega) (by omega)
    simp [m_leaf_at, b_leaf_at, N_leaf_at, B.toD, j0, j1, j2, valL, nfn, ev cs hf, dMax2, dFdiv, runBody, sRet, sRetV, sRetN, sSeq, sIf, sAsg, sNext, sPar, sPar3, eAn, eOo, eNt, eIf, eN, eTup, eLst, e1, e2, t2, tV, tNt, tAn, tOo, eCh, tCh, aCons, aNil, eVar, eMov, eC, eIx, eSl, oNo, oAt, eCall, gN, gTpD, gConsD, gNilD, env0, keep_same, T.toD, T.toDs, dIsi, D.tyName, isKind, isAnyKind, D.isT, dLen, lenD, dEqX, dNeX, unlike, D.seqL, dEq, dNe, dEqv, D.isPy, D.isPys, D.py, D.pys, PyData.eqv, PyData.eqvAll, dNeg, dIx]
    simp only [gt_iff_lt] at c1
    simp [c1]
open Classical in
noncomputable def phs (l : List Int) : Nat := if h : ∃ m, m ≤ 512 ∧ Ends m l then h.choose else 0
theorem phs_ok {l : List Int} (h : ∃ m, m ≤ 512 ∧ Ends m l) : phs l ≤ 512 ∧ Ends (phs l) l := by
  unfold phs
  rw [dif_pos h]
  exact h.choose_spec
abbrev wPh : Str := "phases"
abbrev wPl : Str := "plus"
abbrev wTi : Str := "times"
abbrev wGr : Str := "greatest"
mutual
noncomputable def valB (x y : Int) : B → Int
  | .nd w bs => if w = wPh then (phs (valBs x y bs) : Int) else joinP w (valBs x y bs)
  | .num n => n
  | .frm k ps d => valL x y (.frm k ps d)
noncomputable def valBs (x y : Int) : List B → List Int
  | [] => []
  | b :: bs => valB x y b :: valBs x y bs
end
theorem valBs_map (x y : Int) (bs : List B) : valBs x y bs = bs.map (valB x y) := by
  induction bs with
  | nil => rfl
  | cons b bs ih => simp [valBs, ih]
theorem valB_lv {x y : Int} {b : B} (h : Lv b) : valB x y b = valL x y b := by cases h <;> simp [valB, valL]
def W3 (w : Str) : Prop := w = wPl ∨ w = wTi ∨ w = wGr
theorem W3.ne {w : Str} (h : W3 w) : w ≠ wPh := by
  rcases h with rfl | rfl | rfl <;> decide
/-- what can be reckoned -/
inductive Rk (x y : Int) : B → Prop
  | lf {b : B} : Lv b → Rk x y b
  | ph {bs : List B} : Few (valBs x y bs) → (∃ m, m ≤ 512 ∧ Ends m (valBs x y bs)) → (∀ b ∈ bs, Rk x y b) → Rk x y (.nd wPh bs)
  | nd {w : Str} {bs : List B} : W3 w → Few (valBs x y bs) → (w = wTi → ∀ v ∈ valBs x y bs, v.natAbs < 2 ^ 90) → (∀ b ∈ bs, Rk x y b) → Rk x y (.nd w bs)
theorem e_joined2 {w : Str} (hw : W3 w) {vs : List Int} (hl : Few vs) (hs : w = wTi → ∀ v ∈ vs, v.natAbs < 2 ^ 90) {cs : CS} (hf : cs.all T.cellFlat = true) : m_joined [.str w, .lst (vs.map D.int)] cs = some (.sh (.int (joinP w vs)), cs) := by
  by_cases ht : w = wTi
  · exact e_joined hw ⟨hl, hs ht⟩ hf
  · obtain ⟨h1, h2⟩ := hl
    have hw' : w = wPl ∨ w = wGr := by
      rcases hw with h | h | h
      · exact .inl h
      · exact absurd h ht
      · exact .inr h
    match vs, h1, h2 with
    | [a], _, _ => rcases hw' with rfl | rfl <;> simp [m_joined, b_joined, N_joined, joinP, w1, w2, w3, w4, w5, w6, w7, dMax1, on1L, intsOf, sFor, forL, iSeq, itemsOf, eAdd, catT, dAdd, runBody, sRet, sRetV, sRetN, sSeq, sIf, sAsg, sNext, sPar, sPar3, eAn, eOo, eNt, eIf, eN, eTup, eLst, e1, e2, t2, tV, tNt, tAn, tOo, eCh, tCh, aCons, aNil, eVar, eMov, eC, eIx, eSl, oNo, oAt, eCall, gN, gTpD, gConsD, gNilD, env0, keep_same, T.toD, T.toDs, dIsi, D.tyName, isKind, isAnyKind, D.isT, dLen, lenD, dEqX, dNeX, unlike, D.seqL, dEq, dNe, dEqv, D.isPy, D.isPys, D.py, D.pys, PyData.eqv, PyData.eqvAll, dNeg, dIx]
    | [a, b], _, _ => rcases hw' with rfl | rfl <;> simp [m_joined, b_joined, N_joined, joinP, w1, w2, w3, w4, w5, w6, w7, dMax1, on1L, intsOf, sFor, forL, iSeq, itemsOf, eAdd, catT, dAdd, runBody, sRet, sRetV, sRetN, sSeq, sIf, sAsg, sNext, sPar, sPar3, eAn, eOo, eNt, eIf, eN, eTup, eLst, e1, e2, t2, tV, tNt, tAn, tOo, eCh, tCh, aCons, aNil, eVar, eMov, eC, eIx, eSl, oNo, oAt, eCall, gN, gTpD, gConsD, gNilD, env0, keep_same, T.toD, T.toDs, dIsi, D.tyName, isKind, isAnyKind, D.isT, dLen, lenD, dEqX, dNeX, unlike, D.seqL, dEq, dNe, dEqv, D.isPy, D.isPys, D.py, D.pys, PyData.eqv, PyData.eqvAll, dNeg, dIx]
    | [a, b, c], _, _ => rcases hw' with rfl | rfl <;> simp [m_joined, b_joined, N_joined, joinP, w1, w2, w3, w4, w5, w6, w7, dMax1, on1L, intsOf, sFor, forL, iSeq, itemsOf, eAdd, catT, dAdd, runBody, sRet, sRetV, sRetN, sSeq, sIf, sAsg, sNext, sPar, sPar3, eAn, eOo, eNt, eIf, eN, eTup, eLst, e1, e2, t2, tV, tNt, tAn, tOo, eCh, tCh, aCons, aNil, eVar, eMov, eC, eIx, eSl, oNo, oAt, eCall, gN, gTpD, gConsD, gNilD, env0, keep_same, T.toD, T.toDs, dIsi, D.tyName, isKind, isAnyKind, D.isT, dLen, lenD, dEqX, dNeX, unlike, D.seqL, dEq, dNe, dEqv, D.isPy, D.isPys, D.py, D.pys, PyData.eqv, PyData.eqvAll, dNeg, dIx]
theorem e_joinedP {vs : List Int} (hl : Few vs) (h : ∃ m, m ≤ 512 ∧ Ends m vs) {cs : CS} (hf : cs.all T.cellFlat = true) : m_joined [.str wPh, .lst (vs.map D.int)] cs = some (.sh (.int (phs vs)), cs) := by
  obtain ⟨p1, p2⟩ := phs_ok h
  have e := e_phases hl p2 (by omega) hf
  simp [m_joined, b_joined, N_joined, e, runBody, sRet, sRetV, sRetN, sSeq, sIf, sAsg, sNext, sPar, sPar3, eAn, eOo, eNt, eIf, eN, eTup, eLst, e1, e2, t2, tV, tNt, tAn, tOo, eCh, tCh, aCons, aNil, eVar, eMov, eC, eIx, eSl, oNo, oAt, eCall, gN, gTpD, gConsD, gNilD, env0, keep_same, T.toD, T.toDs, dIsi, D.tyName, isKind, isAnyKind, D.isT, dLen, lenD, dEqX, dNeX, unlike, D.seqL, dEq, dNe, dEqv, D.isPy, D.isPys, D.py, D.pys, PyData.eqv, PyData.eqvAll, dNeg, dIx]
/-! ### all parts -/
def kids : B → List B
  | .nd _ bs => bs
  | _ => []
def kidsT : B → T
  | .nd _ bs => .sh (.lst (B.toDs bs))
  | _ => .lst []
abbrev shB (b : B) : T := .sh b.toD
theorem kidsT_cat (b : B) : catT (kidsT b) = some ((kids b).map shB) := by
  cases b with
  | nd w bs => simp [kidsT, kids, catT, toDs_map']
  | _ => rfl
theorem in1' : dIn (.str wPl) (.tup .any gt_WORDS) = some (.sh (.bl true)) := by kernel_rfl
theorem in2' : dIn (.str wTi) (.tup .any gt_WORDS) = some (.sh (.bl true)) := by kernel_rfl
theorem in3' : dIn (.str wGr) (.tup .any gt_WORDS) = some (.sh (.bl true)) := by kernel_rfl
theorem in4' : dIn (.str wPh) (.tup .any gt_WORDS) = some (.sh (.bl true)) := by kernel_rfl
theorem in5' : dIn (.str "number") (.tup .any gt_WORDS) = some (.sh (.bl false)) := by kernel_rfl
theorem in6' : dIn (.str "form") (.tup .any gt_WORDS) = some (.sh (.bl false)) := by kernel_rfl
/-- a bound by its shape -/
inductive Wf : B → Prop
  | lf {b : B} : Lv b → Wf b
  | nd {w : Str} {bs : List B} : (W3 w ∨ w = wPh) → bs ≠ [] → (∀ b ∈ bs, Wf b) → Wf (.nd w bs)
theorem Few.ne {x y : Int} {bs : List B} (h : Few (valBs x y bs)) : bs ≠ [] := by
  intro z
  subst z
  have := h.1
  simp [valBs] at this
theorem Rk.wf {x y : Int} {b : B} (h : Rk x y b) : Wf b := by
  induction h with
  | lf h => exact .lf h
  | ph h1 h2 h3 ih => exact .nd (.inr rfl) h1.ne ih
  | nd h0 h1 h2 h3 ih => exact .nd (.inl h0) h1.ne ih
theorem e_parts {b : B} (h : Wf b) (cs : CS) : m_parts_of [b.toD] cs = some (kidsT b, cs) := by
  cases h with
  | lf h => cases h <;> simp [m_parts_of, b_parts_of, N_parts_of, B.toD, i0, j0, in5', in6', kidsT, runBody, sRet, sRetV, sRetN, sSeq, sIf, sAsg, sNext, sPar, sPar3, eAn, eOo, eNt, eIf, eN, eTup, eLst, e1, e2, t2, tV, tNt, tAn, tOo, eCh, tCh, aCons, aNil, eVar, eMov, eC, eIx, eSl, oNo, oAt, eCall, gN, gTpD, gConsD, gNilD, env0, keep_same, T.toD, T.toDs, dIsi, D.tyName, isKind, isAnyKind, D.isT, dLen, lenD, dEqX, dNeX, unlike, D.seqL, dEq, dNe, dEqv, D.isPy, D.isPys, D.py, D.pys, PyData.eqv, PyData.eqvAll, dNeg, dIx]
  | nd h1 h2 h3 =>
    rcases h1 with (rfl | rfl | rfl) | rfl <;> simp [m_parts_of, b_parts_of, N_parts_of, B.toD, i0, i1, in1', in2', in3', in4', kidsT, runBody, sRet, sRetV, sRetN, sSeq, sIf, sAsg, sNext, sPar, sPar3, eAn, eOo, eNt, eIf, eN, eTup, eLst, e1, e2, t2, tV, tNt, tAn, tOo, eCh, tCh, aCons, aNil, eVar, eMov, eC, eIx, eSl, oNo, oAt, eCall, gN, gTpD, gConsD, gNilD, env0, keep_same, T.toD, T.toDs, dIsi, D.tyName, isKind, isAnyKind, D.isT, dLen, lenD, dEqX, dNeX, unlike, D.seqL, dEq, dNe, dEqv, D.isPy, D.isPys, D.py, D.pys, PyData.eqv, PyData.eqvAll, dNeg, dIx]
end K57
end
section
set_option Elab.async false
set_option linter.all false
set_option maxRecDepth 100000
set_option maxHeartbeats 4000000
set_option autoImplicit false
namespace K57
open PySem L2 PyProof.Rows PD
/-! ### breadth by breadth -/
mutual
def B.size : B → Nat
  | .nd _ bs => 1 + B.sizes bs
  | _ => 1
def B.sizes : List B → Nat
  | [] => 0
  | b :: bs => b.size + B.sizes bs
end
theorem sizes_append (xs ys : List B) : B.sizes (xs ++ ys) = B.sizes xs + B.sizes ys := by
  induction xs with
  | nil => simp [B.sizes]
  | cons b bs ih => simp [B.sizes, ih]; omega
theorem size_kids (b : B) : b.size = 1 + B.sizes (kids b) := by cases b <;> simp [B.size, kids, B.sizes]
structure Lay (os : List B) (bg : List Nat) (n : Nat) : Prop where
  len : bg.length = n
  le : n ≤ os.length
  at_ : ∀ k b, k < n → os[k]? = some b → ∃ j, bg[k]? = some j ∧ k < j ∧ j + (kids b).length ≤ os.length ∧ (os.drop j).take (kids b).length = kids b
theorem Lay.step {os : List B} {bg : List Nat} {n : Nat} {b : B} (h : Lay os bg n) (e : os[n]? = some b) : Lay (os ++ kids b) (bg ++ [os.length]) (n + 1) := by
  have hn : n < os.length := (List.getElem?_eq_some_iff.mp e).1
  refine ⟨by simp [h.len], by simp; omega, fun k c hk hc => ?_⟩
  rw [List.getElem?_append_left (by omega)] at hc
  by_cases hkn : k < n
  · obtain ⟨j, q1, q2, q3, q4⟩ := h.at_ k c hkn hc
    refine ⟨j, by rw [List.getElem?_append_left (by rw [h.len]; exact hkn)]; exact q1, q2, by rw [List.length_append]; omega, ?_⟩
    rw [List.drop_append_of_le_length (by omega), List.take_append_of_le_length (by rw [List.length_drop]; omega)]
    exact q4
  · have hk' : k = n := by omega
    subst hk'
    rw [e] at hc
    cases hc
    refine ⟨os.length, by rw [List.getElem?_append_right (by rw [h.len]; exact Nat.le_refl _), h.len]; simp, hn, by rw [List.length_append]; exact Nat.le_refl _, ?_⟩
    rw [List.drop_left' rfl, List.take_of_length_le (Nat.le_refl _)]
abbrev shN (n : Nat) : T := .sh (.int n)
def cA : Tv := (t2 dLt (eVar 3) (eN dLen (aCons (eVar 1) aNil)))
def bA : Sv := (sSeq (sApp 2 (eN dLen (aCons (eVar 1) aNil))) (sSeq (sAsg (eAdd (eVar 1) (eCall (m_parts_of) [] (aCons (eIx (eVar 1) (eVar 3)) aNil))) (gN 1)) (sAsg (eAdd (eVar 3) (eC (.int 1))) (gN 3))))
theorem toDs_shB (os : List B) : T.toDs (os.map shB) = os.map B.toD := by rw [toDs_eq, List.map_map]; rfl
theorem toDs_shN (os : List Nat) : T.toDs (os.map shN) = os.map fun n : Nat => D.int n := by rw [toDs_eq, List.map_map]; rfl
theorem toDs_shI (os : List Int) : T.toDs (os.map shI) = os.map D.int := by rw [toDs_eq, List.map_map]; rfl
theorem atI_nat {α : Type} (xs : List α) (n : Nat) (h : n < xs.length) : atI xs (n : Int) = xs[n]? := by
  unfold atI ixN
  have e1 : (0 : Int) ≤ (n : Int) := by omega
  have e2 : (n : Int) < (xs.length : Int) := by omega
  simp [e1, e2]
theorem ixN_nat {m n : Nat} (h : n < m) : ixN m (n : Int) = some n := by
  unfold ixN
  have e1 : (0 : Int) ≤ (n : Int) := by omega
  have e2 : (n : Int) < (m : Int) := by omega
  simp [e1, e2]
theorem catL (ts : List T) : catT (.lst ts) = some ts := rfl
theorem catS (ds : List D) : catT (.sh (.lst ds)) = some (ds.map T.sh) := rfl
theorem catI (i : Int) : catT (.sh (.int i)) = none := rfl
theorem cA_ok (d : D) (os : List B) (bg : List Nat) (n : Nat) {cs : CS} (hf : cs.all T.cellFlat = true) : cA [some (.sh d), some (.lst (os.map shB)), some (.lst (bg.map shN)), some (shN n)] cs = some (decide (n < os.length), [some (.sh d), some (.lst (os.map shB)), some (.lst (bg.map shN)), some (shN n)], cs) := by
  simp [cA, dLt, toDs_shB, keep, hf, T.flat, D.flat, D.flats, -List.map_map, runBody, sRet, sRetV, sRetN, sSeq, sIf, sAsg, sNext, sPar, sPar3, eAn, eOo, eNt, eIf, eN, eTup, eLst, e1, e2, t2, tV, tNt, tAn, tOo, eCh, tCh, aCons, aNil, eVar, eMov, eC, eIx, eSl, oNo, oAt, eCall, gN, gTpD, gConsD, gNilD, env0, keep_same, T.toD, T.toDs, dIsi, D.tyName, isKind, isAnyKind, D.isT, dLen, lenD, dEqX, dNeX, unlike, D.seqL, dEq, dNe, dEqv, D.isPy, D.isPys, D.py, D.pys, PyData.eqv, PyData.eqvAll, dNeg, dIx]
theorem bA_ok (d : D) {os : List B} {bg : List Nat} {n : Nat} {b : B} (e : os[n]? = some b) (hw : Wf b) (hl : os.length + (kids b).length ≤ 200000) (hb : bg.length ≤ 200000) {cs : CS} (hf : cs.all T.cellFlat = true) : bA [some (.sh d), some (.lst (os.map shB)), some (.lst (bg.map shN)), some (shN n)] cs = some (.nx, [some (.sh d), some (.lst ((os ++ kids b).map shB)), some (.lst ((bg ++ [os.length]).map shN)), some (shN (n + 1))], cs) := by
  have hn : n < os.length := (List.getElem?_eq_some_iff.mp e).1
  have ea : atI (os.map B.toD) (n : Int) = some b.toD := by rw [atI_nat _ _ (by simpa using hn), List.getElem?_map, e]; rfl
  have sl : bg.length < sizeLine := by rw [sizeLine_eq]; omega
  have sl2 : os.length + (kids b).length ≤ sizeLine := by rw [sizeLine_eq]; omega
  have ep := e_parts hw
  have em : (os.map B.toD).map T.sh = os.map shB := by rw [List.map_map]; rfl
  simp [bA, sApp, sl, toDs_shB, keep, hf, T.flat, D.flat, D.flats, ea, ep, eAdd, kidsT_cat, catS, catI, em, sl2, dAdd, -List.map_map, runBody, sRet, sRetV, sRetN, sSeq, sIf, sAsg, sNext, sPar, sPar3, eAn, eOo, eNt, eIf, eN, eTup, eLst, e1, e2, t2, tV, tNt, tAn, tOo, eCh, tCh, aCons, aNil, eVar, eMov, eC, eIx, eSl, oNo, oAt, eCall, gN, gTpD, gConsD, gNilD, env0, keep_same, T.toD, T.toDs, dIsi, D.tyName, isKind, isAnyKind, D.isT, dLen, lenD, dEqX, dNeX, unlike, D.seqL, dEq, dNe, dEqv, D.isPy, D.isPys, D.py, D.pys, PyData.eqv, PyData.eqvAll, dNeg, dIx]
end K57
end
section
set_option Elab.async false
set_option linter.all false
set_option maxRecDepth 100000
set_option maxHeartbeats 4000000
set_option autoImplicit false
namespace K57
open PySem L2 PyProof.Rows PD
theorem sizes_ge (bs : List B) : bs.length ≤ B.sizes bs := by
  induction bs with
  | nil => simp [B.sizes]
  | cons b bs ih => have := size_kids b; simp [B.sizes]; omega
theorem partsW {P : B → Prop} (hP : ∀ b, P b → Wf b) (hK : ∀ b, P b → ∀ c ∈ kids b, P c) (d : D) {cs : CS} (hf : cs.all T.cellFlat = true) : ∀ (m N : Nat) (os : List B) (bg : List Nat) (n : Nat), Lay os bg n → (∀ b ∈ os, P b) → B.sizes (os.drop n) = m → m < N → n + m ≤ 100000 →
    ∃ os' bg', whileL cA bA N [some (.sh d), some (.lst (os.map shB)), some (.lst (bg.map shN)), some (shN n)] cs = some (.nx, [some (.sh d), some (.lst (os'.map shB)), some (.lst (bg'.map shN)), some (shN os'.length)], cs) ∧ Lay os' bg' os'.length ∧ (∀ b ∈ os', P b) ∧ os'.length = n + m ∧ ∃ more, os' = os ++ more
  | m, 0, os, bg, n, _, _, _, hN, _ => absurd hN (by omega)
  | m, N + 1, os, bg, n, hl, hp, hm, hN, hz => by
    unfold whileL
    rw [cA_ok d os bg n hf]
    by_cases hn : n < os.length
    · have e : os[n]? = some os[n] := List.getElem?_eq_getElem hn
      have pb : P os[n] := hp _ (List.getElem_mem hn)
      have hd : os.drop n = os[n] :: os.drop (n + 1) := List.drop_eq_getElem_cons hn
      rw [hd] at hm
      simp only [B.sizes] at hm
      have hk := size_kids os[n]
      have hlen := sizes_ge (os.drop (n + 1))
      rw [List.length_drop] at hlen
      have hkl := sizes_ge (kids os[n])
      have hb := bA_ok (cs := cs) d e (hP _ pb) (bg := bg) (by omega) (by rw [hl.len]; omega) hf
      have hd2 : B.sizes ((os ++ kids os[n]).drop (n + 1)) = m - 1 := by
        rw [List.drop_append_of_le_length (by omega), sizes_append]
        omega
      obtain ⟨os', bg', h1, h2, h3, h4, more, h5⟩ := partsW hP hK d hf (m - 1) N (os ++ kids os[n]) (bg ++ [os.length]) (n + 1) (hl.step e) (fun b hb => by
        rcases List.mem_append.mp hb with hb | hb
        · exact hp b hb
        · exact hK _ pb b hb) hd2 (by omega) (by omega)
      refine ⟨os', bg', ?_, h2, h3, by omega, kids os[n] ++ more, by rw [h5, List.append_assoc]⟩
      rw [decide_eq_true hn]
      simp only [if_true, hb]
      exact h1
    · have hn' : n = os.length := by have := hl.le; omega
      have hm0 : m = 0 := by rw [hn', List.drop_length] at hm; simpa [B.sizes] using hm.symm
      refine ⟨os, bg, ?_, by rw [← hn']; exact hl, hp, by omega, [], by simp⟩
      rw [decide_eq_false hn]
      simp [hn']
theorem e_all {P : B → Prop} (hP : ∀ b, P b → Wf b) (hK : ∀ b, P b → ∀ c ∈ kids b, P c) {b : B} (hb : P b) (hz : b.size ≤ 100000) {cs : CS} (hf : cs.all T.cellFlat = true) : ∃ os bg, m_all_parts [b.toD] cs = some (.sh (.tup .ex [.lst (os.map B.toD), .lst (bg.map fun n : Nat => D.int n)]), cs) ∧ Lay os bg os.length ∧ (∀ c ∈ os, P c) ∧ os.length = b.size ∧ os[0]? = some b := by
  obtain ⟨os, bg, h1, h2, h3, h4, more, h5⟩ := partsW hP hK b.toD hf b.size 1000000 [b] [] 0 ⟨rfl, Nat.zero_le _, fun k b hk => absurd hk (by omega)⟩ (fun c hc => by rw [List.mem_singleton.mp hc]; exact hb) (by simp [B.sizes]) (by omega) (by omega)
  refine ⟨os, bg, ?_, h2, h3, by omega, by rw [h5]; rfl⟩
  have eb : b_all_parts = sSeq (sPar3 1 2 3 (aCons (eLst (aCons (eVar 0) aNil)) (aCons (eLst aNil) (aCons (eC (.int 0)) aNil)))) (sSeq (sWhile 1000000 cA bA) (sRet (eTup (aCons (eVar 1) (aCons (eVar 2) aNil))))) := rfl
  simp only [List.map_cons, List.map_nil, shN, Int.natCast_zero, Int.ofNat_eq_natCast, Int.cast_ofNat_Int] at h1
  simp [m_all_parts, eb, N_all_parts, sWhile, h1, toDs_shB, toDs_shN, keep, -List.map_map, runBody, sRet, sRetV, sRetN, sSeq, sIf, sAsg, sNext, sPar, sPar3, eAn, eOo, eNt, eIf, eN, eTup, eLst, e1, e2, t2, tV, tNt, tAn, tOo, eCh, tCh, aCons, aNil, eVar, eMov, eC, eIx, eSl, oNo, oAt, eCall, gN, gTpD, gConsD, gNilD, env0, keep_same, T.toD, T.toDs, dIsi, D.tyName, isKind, isAnyKind, D.isT, dLen, lenD, dEqX, dNeX, unlike, D.seqL, dEq, dNe, dEqv, D.isPy, D.isPys, D.py, D.pys, PyData.eqv, PyData.eqvAll, dNeg, dIx]
end K57
end
section
set_option Elab.async false
set_option linter.all false
set_option maxRecDepth 100000
set_option maxHeartbeats 4000000
set_option autoImplicit false
namespace K57
open PySem L2 PyProof.Rows PD
/-! ### value_there -/
theorem cut_nat {α : Type} (xs : List α) (j m : Nat) (h : j + m ≤ xs.length) : cutD xs (some (j : Int)) (some ((j : Int) + (m : Int))) = (xs.drop j).take m := by
  unfold PD.cutD
  have e : ((j : Int) + (m : Int)) = ((j + m : Nat) : Int) := by omega
  rw [e, HT.sIx_nat, HT.sIx_nat, Nat.min_eq_left h, Nat.min_eq_left (show j ≤ xs.length by omega)]
  congr 1
  omega
def bT : Sv := (sSeq (sPar 6 7 (aCons (eIx (eVar 2) (eVar 5)) (aCons (eN dLen (aCons (eCall (m_parts_of) [] (aCons (eIx (eVar 2) (eVar 5)) aNil)) aNil)) aNil))) (sIf (t2 dEqX (eVar 7) (eC (.int 0))) (sIx 4 (eCall (m_leaf_at) [] (aCons (eVar 6) (aCons (eVar 1) aNil))) (eVar 5)) (sIx 4 (eCall (m_joined) [] (aCons (eIx (eVar 6) (eC (.int 0))) (aCons (eSl (eVar 4) (oAt (eIx (eVar 3) (eVar 5))) (oAt (eAdd (eIx (eVar 3) (eVar 5)) (eVar 7)))) aNil))) (eVar 5))))
abbrev dN (n : Nat) : D := .int n
abbrev envT (d0 : D) (kvs : List (D × D)) (os : List B) (bg : List Nat) (ks : List Int) (u5 u6 u7 : Option T) : PD.Env :=
  [some (.sh d0), some (.sh (.dct .K kvs)), some (.sh (.lst (os.map B.toD))), some (.sh (.lst (bg.map dN))), some (.lst (ks.map shI)), u5, u6, u7]
theorem bT_leaf {x y : Int} {kvs : List (D × D)} (hn : Nums kvs x y) {d0 : D} {os : List B} {bg : List Nat} {ks : List Int} {n : Nat} {b : B} (e : os[n]? = some b) (hb : Lv b) (hl : ks.length = os.length) (u6 u7 : Option T) {cs : CS} (hf : cs.all T.cellFlat = true) :
    bT (envT d0 kvs os bg ks (some (shN n)) u6 u7) cs = some (.nx, envT d0 kvs os bg (ks.set n (valB x y b)) (some (shN n)) (some (shB b)) (some (.sh (.int 0))), cs) := by
  have hlt : n < os.length := (List.getElem?_eq_some_iff.mp e).1
  have ea : atI (os.map B.toD) (n : Int) = some b.toD := by rw [atI_nat _ _ (by simpa using hlt), List.getElem?_map, e]; rfl
  have ep := fun cs => e_parts (cs := cs) (.lf hb)
  have ek : kidsT b = .lst [] := by cases hb <;> rfl
  have el := fun cs hf => e_leafat2 (cs := cs) hb hn hf
  have ei : ixN ks.length (n : Int) = some n := ixN_nat (by omega)
  rw [valB_lv hb]
  simp [bT, envT, ea, ep, ek, el cs hf, sIx, ei, keep, hf, T.flat, D.flat, D.flats, List.map_set, -List.map_map, runBody, sRet, sRetV, sRetN, sSeq, sIf, sAsg, sNext, sPar, sPar3, eAn, eOo, eNt, eIf, eN, eTup, eLst, e1, e2, t2, tV, tNt, tAn, tOo, eCh, tCh, aCons, aNil, eVar, eMov, eC, eIx, eSl, oNo, oAt, eCall, gN, gTpD, gConsD, gNilD, env0, keep_same, T.toD, T.toDs, dIsi, D.tyName, isKind, isAnyKind, D.isT, dLen, lenD, dEqX, dNeX, unlike, D.seqL, dEq, dNe, dEqv, D.isPy, D.isPys, D.py, D.pys, PyData.eqv, PyData.eqvAll, dNeg, dIx]
theorem bT_node {x y : Int} {kvs : List (D × D)} {d0 : D} {os : List B} {bg : List Nat} {ks : List Int} {n j : Nat} {w : Str} {bs : List B} (e : os[n]? = some (.nd w bs)) (hb : Wf (.nd w bs)) (hl : ks.length = os.length) (hbl : bg.length = os.length) (hj : bg[n]? = some j) (hjl : j + bs.length ≤ os.length) (hv : (ks.drop j).take bs.length = valBs x y bs)
    {v : Int} {cs : CS} (hjo : m_joined [.str w, .lst ((valBs x y bs).map D.int)] cs = some (.sh (.int v), cs)) (u6 u7 : Option T) (hf : cs.all T.cellFlat = true) :
    bT (envT d0 kvs os bg ks (some (shN n)) u6 u7) cs = some (.nx, envT d0 kvs os bg (ks.set n v) (some (shN n)) (some (shB (.nd w bs))) (some (shN bs.length)), cs) := by
  have hlt : n < os.length := (List.getElem?_eq_some_iff.mp e).1
  have ea : atI (os.map B.toD) (n : Int) = some (B.toD (.nd w bs)) := by rw [atI_nat _ _ (by simpa using hlt), List.getElem?_map, e]; rfl
  have eb : atI (bg.map dN) (n : Int) = some (dN j) := by rw [atI_nat _ _ (by simpa [hbl] using hlt), List.getElem?_map, hj]; rfl
  have ep := fun cs => e_parts (cs := cs) hb
  have ei : ixN ks.length (n : Int) = some n := ixN_nat (by omega)
  have ec : cutD (ks.map D.int) (some (j : Int)) (some ((j : Int) + (bs.length : Int))) = (valBs x y bs).map D.int := by
    rw [cut_nat _ _ _ (by rw [List.length_map, hl]; exact hjl), ← List.map_drop, ← List.map_take, hv]
  have em : T.toDs (((valBs x y bs).map D.int).map T.sh) = (valBs x y bs).map D.int := toDs_map _
  have hne : (B.toDs bs).length = bs.length := by rw [toDs_map', List.length_map]
  have h0 : bs ≠ [] := by cases hb with | lf h => cases h | nd h1 h2 h3 => exact h2
  have h1 : ¬ ((bs.length : Int) = 0) := by
    have := List.length_pos_iff.mpr h0
    omega
  have ed : B.toD (.nd w bs) = .tup .ex [.str w, .lst (B.toDs bs)] := rfl
  simp only [ed] at ea ep
  simp [bT, envT, ea, eb, ep, ed, kidsT, hne, h0, h1, i0, sIx, dSl, toDs_shI, ec, em, hjo, eAdd, catI, catS, dAdd, ei, keep, hf, T.flat, D.flat, D.flats, List.map_set, -List.map_map, runBody, sRet, sRetV, sRetN, sSeq, sIf, sAsg, sNext, sPar, sPar3, eAn, eOo, eNt, eIf, eN, eTup, eLst, e1, e2, t2, tV, tNt, tAn, tOo, eCh, tCh, aCons, aNil, eVar, eMov, eC, eIx, eSl, oNo, oAt, eCall, gN, gTpD, gConsD, gNilD, env0, keep_same, T.toD, T.toDs, dIsi, D.tyName, isKind, isAnyKind, D.isT, dLen, lenD, dEqX, dNeX, unlike, D.seqL, dEq, dNe, dEqv, D.isPy, D.isPys, D.py, D.pys, PyData.eqv, PyData.eqvAll, dNeg, dIx]
end K57
end
section
set_option Elab.async false
set_option linter.all false
set_option maxRecDepth 100000
set_option maxHeartbeats 4000000
set_option autoImplicit false
namespace K57
open PySem L2 PyProof.Rows PD
theorem slice_ok {x y : Int} {os bs : List B} {ks : List Int} {j : Nat} (h : (os.drop j).take bs.length = bs) (hk : ∀ k b, j ≤ k → os[k]? = some b → ks[k]? = some (valB x y b)) : (ks.drop j).take bs.length = valBs x y bs := by
  rw [valBs_map]
  apply List.ext_getElem?
  intro i
  rw [List.getElem?_map, List.getElem?_take, List.getElem?_drop]
  by_cases hi : i < bs.length
  · have e2 : os[j + i]? = bs[i]? := by
      have q := congrArg (fun l : List B => l[i]?) h
      simp only [List.getElem?_take, List.getElem?_drop, if_pos hi] at q
      exact q
    rw [List.getElem?_eq_getElem hi] at e2
    rw [if_pos hi, hk _ _ (by omega) e2, List.getElem?_eq_getElem hi]
    rfl
  · rw [if_neg hi, List.getElem?_eq_none (by omega)]
    rfl
theorem Rk.kid {x y : Int} {b : B} (h : Rk x y b) : ∀ c ∈ kids b, Rk x y c := by
  cases h with
  | lf h => cases h <;> exact fun c hc => nomatch hc
  | ph h1 h2 h3 => exact h3
  | nd h0 h1 h2 h3 => exact h3
theorem bT_any {x y : Int} {kvs : List (D × D)} (hn : Nums kvs x y) {d0 : D} {os : List B} {bg : List Nat} {ks : List Int} {n : Nat} {b : B} (hl : Lay os bg os.length) (e : os[n]? = some b) (hb : Rk x y b) (hkl : ks.length = os.length) (hk : ∀ k c, n < k → os[k]? = some c → ks[k]? = some (valB x y c)) (u6 u7 : Option T) {cs : CS} (hf : cs.all T.cellFlat = true) :
    ∃ u8 u9, bT (envT d0 kvs os bg ks (some (shN n)) u6 u7) cs = some (.nx, envT d0 kvs os bg (ks.set n (valB x y b)) (some (shN n)) u8 u9, cs) := by
  have hlt : n < os.length := (List.getElem?_eq_some_iff.mp e).1
  cases hb with
  | lf h => exact ⟨_, _, bT_leaf hn e h hkl u6 u7 hf⟩
  | @ph bs h1 h2 h3 =>
    obtain ⟨j, q1, q2, q3, q4⟩ := hl.at_ n _ hlt e
    have hv := slice_ok (x := x) (y := y) q4 fun k c hjk hc => hk k c (by omega) hc
    have ev : valB x y (.nd wPh bs) = (phs (valBs x y bs) : Int) := by simp [valB]
    rw [ev]
    exact ⟨_, _, bT_node e (Rk.wf (.ph h1 h2 h3)) hkl hl.len q1 q3 hv (e_joinedP h1 h2 hf) u6 u7 hf⟩
  | @nd w bs h0 h1 h2 h3 =>
    obtain ⟨j, q1, q2, q3, q4⟩ := hl.at_ n _ hlt e
    have hv := slice_ok (x := x) (y := y) q4 fun k c hjk hc => hk k c (by omega) hc
    have ev : valB x y (.nd w bs) = joinP w (valBs x y bs) := by
      have := h0.ne
      simp [valB, this]
    rw [ev]
    exact ⟨_, _, bT_node e (Rk.wf (.nd h0 h1 h2 h3)) hkl hl.len q1 q3 hv (e_joined2 h0 h1 h2 hf) u6 u7 hf⟩
theorem rep0 (N : Nat) : (repD N [D.int 0]).map T.sh = (List.replicate N (0 : Int)).map shI := by
  unfold repD
  induction N with
  | zero => rfl
  | succ N ih => simp only [List.replicate_succ, List.flatten_cons, List.map_append, ih, List.map_cons, List.map_nil]; rfl
theorem valueL {x y : Int} {kvs : List (D × D)} (hn : Nums kvs x y) {b : B} {os : List B} {bg : List Nat} (hl : Lay os bg os.length) (hR : ∀ (c : B), c ∈ os → Rk x y c) {cs : CS} (hf : cs.all T.cellFlat = true) :
    ∃ ks u5 u6 u7, forL (gN 5) bT (stepD ((os.length : Int) - 1) (-1) os.length) (envT b.toD kvs os bg (List.replicate os.length 0) none none none) cs = some (.nx, envT b.toD kvs os bg ks u5 u6 u7, cs) ∧ ks.length = os.length ∧ ∀ (k : Nat) (c : B), os[k]? = some c → ks[k]? = some (valB x y c) := by
  obtain ⟨env', cs', eF, hcs, ks, u5, u6, u7, rfl, hkl, hk⟩ := forL_run (tg := gN 5) (b := bT) (ds := stepD ((os.length : Int) - 1) (-1) os.length) (i := 0) (env := envT b.toD kvs os bg (List.replicate os.length 0) none none none) (cs := cs)
    (J := fun i env cs1 => cs1 = cs ∧ ∃ ks u5 u6 u7, env = envT b.toD kvs os bg ks u5 u6 u7 ∧ ks.length = os.length ∧ ∀ k c, os.length - i ≤ k → os[k]? = some c → ks[k]? = some (valB x y c))
    (fun j d hd env cs1 hJ => by
      obtain ⟨rfl, ks, u5, u6, u7, rfl, hkl, hk⟩ := hJ
      have hj : j < os.length := by
        have := (List.getElem?_eq_some_iff.mp hd).1
        rwa [stepD_length] at this
      have ed : d = dN (os.length - 1 - j) := by
        unfold stepD at hd
        rw [List.getElem?_map, List.getElem?_range hj] at hd
        cases hd
        show D.int _ = D.int _
        congr 1
        omega
      subst ed
      have eo : os[os.length - 1 - j]? = some os[os.length - 1 - j] := List.getElem?_eq_getElem (by omega)
      obtain ⟨u8, u9, eb⟩ := bT_any hn (d0 := b.toD) hl eo (hR _ (List.getElem_mem _)) hkl (fun k c hkk hc => hk k c (by omega) hc) u6 u7 hf
      refine ⟨_, _, _, rfl, eb, rfl, _, _, _, _, rfl, by simpa using hkl, fun k c hkk hc => ?_⟩
      by_cases hkn : k = os.length - 1 - j
      · subst hkn
        rw [eo] at hc
        cases hc
        rw [List.getElem?_set_self (by omega)]
      · rw [List.getElem?_set_ne (by omega)]
        exact hk k c (by omega) hc) ⟨rfl, _, _, _, _, rfl, by simp, fun k c hkk hc => absurd (List.getElem?_eq_some_iff.mp hc).1 (by omega)⟩
  subst hcs
  exact ⟨ks, u5, u6, u7, eF, hkl, fun k c hc => hk k c (by rw [stepD_length]; omega) hc⟩
theorem dmul0 (n : Nat) (h : n ≤ 100000) : dMul (.lst [.int 0]) (.int n) = some (.lst ((List.replicate n (0 : Int)).map shI)) := by
  have sl : [D.int 0].length * ((n : Int)).toNat ≤ sizeLine := by rw [sizeLine_eq]; simp; omega
  have c : -(2 ^ 63) ≤ (n : Int) ∧ (n : Int) < 2 ^ 63 ∧ [D.int 0].length * ((n : Int)).toNat ≤ sizeLine := ⟨by omega, by omega, sl⟩
  simp only [dMul]
  rw [if_pos c, Int.toNat_natCast, rep0]
def aR : Av := (aCons (e2 dSub (eN dLen (aCons (eVar 2) aNil)) (eC (.int 1))) (aCons (e1 dNeg (eC (.int 1))) (aCons (e1 dNeg (eC (.int 1))) aNil)))
theorem c1 {i : Int} (h0 : 0 ≤ i) (h : i ≤ 100000) : -(2 ^ 62) ≤ i - 1 := by omega
theorem c2 {i : Int} (h0 : 0 ≤ i) (h : i ≤ 100000) : i - 1 < 2 ^ 62 := by omega
theorem c3 : -(2 ^ 62) ≤ (-1 : Int) := by decide
theorem c4 : (-1 : Int) < 2 ^ 62 := by decide
theorem c5 {i : Int} (h0 : 0 ≤ i) (h : i ≤ 100000) : (i - 1 - -1).toNat ≤ 16777216 := by omega
theorem hR3 {d0 : D} {kvs : List (D × D)} {os : List B} {bg : List Nat} {ks : List Int} {cs : CS} (h : os.length ≤ 100000) : iRg3 aR (envT d0 kvs os bg ks none none none) cs = some (stepD ((os.length : Int) - 1) (-1) os.length, envT d0 kvs os bg ks none none none, cs) := by
  have c6 : ((os.length : Int) - 1 - -1).toNat = os.length := by omega
  have h0 : (0 : Int) ≤ os.length := by omega
  have h1 : (os.length : Int) ≤ 100000 := by omega
  have ha : aR (envT d0 kvs os bg ks none none none) cs = some ([.sh (.int ((os.length : Int) - 1)), .sh (.int (-1)), .sh (.int (-1))], envT d0 kvs os bg ks none none none, cs) := by
    simp [aR, envT, dSub, -List.map_map, -List.map_replicate, runBody, sRet, sRetV, sRetN, sSeq, sIf, sAsg, sNext, sPar, sPar3, eAn, eOo, eNt, eIf, eN, eTup, eLst, e1, e2, t2, tV, tNt, tAn, tOo, eCh, tCh, aCons, aNil, eVar, eMov, eC, eIx, eSl, oNo, oAt, eCall, gN, gTpD, gConsD, gNilD, env0, keep_same, T.toD, T.toDs, dIsi, D.tyName, isKind, isAnyKind, D.isT, dLen, lenD, dEqX, dNeX, unlike, D.seqL, dEq, dNe, dEqv, D.isPy, D.isPys, D.py, D.pys, PyData.eqv, PyData.eqvAll, dNeg, dIx]
  simp only [iRg3, ha, T.toD]
  rw [if_pos (And.intro trivial (And.intro (c1 h0 h1) (And.intro (c2 h0 h1) (And.intro c3 (And.intro c4 (c5 h0 h1))))))]
  rw [c6]
  exact congrArg some (Prod.ext rfl (Prod.ext (keep_same _ _ _) rfl))
theorem e_value_there {x y : Int} {kvs : List (D × D)} (hn : Nums kvs x y) {b : B} (hb : Rk x y b) (hz : b.size ≤ 50000) {cs : CS} (hf : cs.all T.cellFlat = true) : m_value_there [b.toD, .dct .K kvs] cs = some (.sh (.int (valB x y b)), cs) := by
  obtain ⟨os, bg, qA, hl, hR, hlen, h0⟩ := e_all (P := Rk x y) (fun b h => h.wf) (fun b h => h.kid) hb (by omega) hf
  have hpos : 0 < os.length := (List.getElem?_eq_some_iff.mp h0).1
  obtain ⟨ks, u5, u6, u7, eF, hkl, hk⟩ := valueL (b := b) hn hl hR hf
  have h4 := hk 0 b h0
  have ea : atI (ks.map D.int) (0 : Int) = some (.int (valB x y b)) := by
    have := atI_nat (ks.map D.int) 0 (by simpa [hkl] using hpos)
    rw [List.getElem?_map, h4] at this
    exact this
  have et : b_value_there = (sSeq (sAsg (eCall (m_all_parts) [] (aCons (eVar 0) aNil)) (gTpD (gConsD (gN 2) (gConsD (gN 3) gNilD)))) (sSeq (sAsg (e2 dMul (eLst (aCons (eC (.int 0)) aNil)) (eN dLen (aCons (eVar 2) aNil))) (gN 4)) (sSeq (sFor (iRg3 aR) (gN 5) bT) (sRet (eIx (eVar 4) (eC (.int 0))))))) := rfl
  have dm := dmul0 os.length (by omega)
  have hF : sFor (iRg3 aR) (gN 5) bT (envT b.toD kvs os bg (List.replicate os.length 0) none none none) cs = some (.nx, envT b.toD kvs os bg ks u5 u6 u7, cs) := by
    unfold sFor
    rw [hR3 (by omega)]
    exact eF
  have g1 : sAsg (eCall (m_all_parts) [] (aCons (eVar 0) aNil)) (gTpD (gConsD (gN 2) (gConsD (gN 3) gNilD))) [some (.sh b.toD), some (.sh (.dct .K kvs)), none, none, none, none, none, none] cs = some (.nx, [some (.sh b.toD), some (.sh (.dct .K kvs)), some (.sh (.lst (os.map B.toD))), some (.sh (.lst (bg.map dN))), none, none, none, none], cs) := by
    simp [qA, -List.map_map, runBody, sRet, sRetV, sRetN, sSeq, sIf, sAsg, sNext, sPar, sPar3, eAn, eOo, eNt, eIf, eN, eTup, eLst, e1, e2, t2, tV, tNt, tAn, tOo, eCh, tCh, aCons, aNil, eVar, eMov, eC, eIx, eSl, oNo, oAt, eCall, gN, gTpD, gConsD, gNilD, env0, keep_same, T.toD, T.toDs, dIsi, D.tyName, isKind, isAnyKind, D.isT, dLen, lenD, dEqX, dNeX, unlike, D.seqL, dEq, dNe, dEqv, D.isPy, D.isPys, D.py, D.pys, PyData.eqv, PyData.eqvAll, dNeg, dIx]
  have g2 : sAsg (e2 dMul (eLst (aCons (eC (.int 0)) aNil)) (eN dLen (aCons (eVar 2) aNil))) (gN 4) [some (.sh b.toD), some (.sh (.dct .K kvs)), some (.sh (.lst (os.map B.toD))), some (.sh (.lst (bg.map dN))), none, none, none, none] cs = some (.nx, envT b.toD kvs os bg (List.replicate os.length 0) none none none, cs) := by
    have h1 : eLst (aCons (eC (.int 0)) aNil) [some (.sh b.toD), some (.sh (.dct .K kvs)), some (.sh (.lst (os.map B.toD))), some (.sh (.lst (bg.map dN))), none, none, none, none] cs = some (.lst [.sh (.int 0)], [some (.sh b.toD), some (.sh (.dct .K kvs)), some (.sh (.lst (os.map B.toD))), some (.sh (.lst (bg.map dN))), none, none, none, none], cs) := rfl
    have h2 : eN dLen (aCons (eVar 2) aNil) [some (.sh b.toD), some (.sh (.dct .K kvs)), some (.sh (.lst (os.map B.toD))), some (.sh (.lst (bg.map dN))), none, none, none, none] cs = some (.sh (.int os.length), [some (.sh b.toD), some (.sh (.dct .K kvs)), some (.sh (.lst (os.map B.toD))), some (.sh (.lst (bg.map dN))), none, none, none, none], cs) := by
      simp [-List.map_map, runBody, sRet, sRetV, sRetN, sSeq, sIf, sAsg, sNext, sPar, sPar3, eAn, eOo, eNt, eIf, eN, eTup, eLst, e1, e2, t2, tV, tNt, tAn, tOo, eCh, tCh, aCons, aNil, eVar, eMov, eC, eIx, eSl, oNo, oAt, eCall, gN, gTpD, gConsD, gNilD, env0, keep_same, T.toD, T.toDs, dIsi, D.tyName, isKind, isAnyKind, D.isT, dLen, lenD, dEqX, dNeX, unlike, D.seqL, dEq, dNe, dEqv, D.isPy, D.isPys, D.py, D.pys, PyData.eqv, PyData.eqvAll, dNeg, dIx]
    have h3 := u_2 (f := dMul) h1 h2 dm
    rw [keep_same] at h3
    exact u_asg h3 rfl
  have g4 : ∃ env', sRet (eIx (eVar 4) (eC (.int 0))) (envT b.toD kvs os bg ks u5 u6 u7) cs = some (.rt (.sh (.int (valB x y b))), env', cs) := by
    simp [envT, toDs_shI, ea, -List.map_map, runBody, sRet, sRetV, sRetN, sSeq, sIf, sAsg, sNext, sPar, sPar3, eAn, eOo, eNt, eIf, eN, eTup, eLst, e1, e2, t2, tV, tNt, tAn, tOo, eCh, tCh, aCons, aNil, eVar, eMov, eC, eIx, eSl, oNo, oAt, eCall, gN, gTpD, gConsD, gNilD, env0, keep_same, T.toD, T.toDs, dIsi, D.tyName, isKind, isAnyKind, D.isT, dLen, lenD, dEqX, dNeX, unlike, D.seqL, dEq, dNe, dEqv, D.isPy, D.isPys, D.py, D.pys, PyData.eqv, PyData.eqvAll, dNeg, dIx]
  obtain ⟨env', g4⟩ := g4
  have g0 : env0 N_value_there.length [b.toD, .dct .K kvs] = [some (.sh b.toD), some (.sh (.dct .K kvs)), none, none, none, none, none, none] := rfl
  have g5 : b_value_there (env0 N_value_there.length [b.toD, .dct .K kvs]) cs = some (.rt (.sh (.int (valB x y b))), env', cs) := by
    rw [et, g0]
    exact (u_seq g1).trans ((u_seq g2).trans ((u_seq hF).trans g4))
  exact u_run g5
end K57
end
section
set_option Elab.async false
set_option linter.all false
set_option maxRecDepth 100000
set_option maxHeartbeats 4000000
set_option autoImplicit false
namespace K57
open PySem L2 PyProof.Rows PD
/-! ### forms, leaves, nodes judged -/
abbrev formD (k : Int) (ps : List (Str × Int)) : D := .tup .ex [.int k, .tup .pl (ps.map pairD)]
theorem pl_t {t : TK} {xs : List D} : Pl (.tup t xs) := ⟨rfl, rfl⟩
theorem pl_i {i : Int} : Pl (.int i) := ⟨rfl, rfl⟩
theorem pl_l {xs : List D} : Pl (.lst xs) := ⟨rfl, rfl⟩
theorem pl_s {x : Str} : Pl (.str x) := ⟨rfl, rfl⟩
theorem w_i (i : Int) (cs : CS) : m_is_whole [.int i] cs = some (.sh (.bl true), cs) := e_whole _ cs pl_i
theorem lw_i (i : Int) (cs : CS) : m_law_is_whole [.int i] cs = some (.sh (.bl true), cs) := e_lwhole _ cs pl_i
theorem tup2 (t : TK) (xs : List D) (n : Int) (cs : CS) : m_is_tuple_of [.tup t xs, .int n] cs = some (.sh (.bl ((xs.length : Int) == n)), cs) := e_tupOf _ n cs pl_t
theorem cut1o {α : Type} (x : α) : PD.cutD [x] (some 1) none = [] := rfl
theorem cut2o {α : Type} (x y : α) : PD.cutD [x, y] (some 1) none = [y] := rfl
theorem cut0o {α : Type} : PD.cutD ([] : List α) (some 1) none = [] := rfl
theorem ltXY : ltS X Y = true := by decide +kernel
theorem gXY : dGe (.str X) (.str Y) = some (.sh (.bl false)) := by kernel_rfl
theorem e_is_form {k : Int} {ps : List (Str × Int)} (h : OkPs ps) {cs : CS} (hs : Shape cs) : m_is_form [formD k ps] cs = some (.sh (.bl true), cs) := by
  have hx := e_name_x hs
  have hy := e_name_y hs
  cases h with
  | nil => simp [m_is_form, b_is_form, N_is_form, tup2, w_i, i0, i1, dAll, on1L, blsOf, eComp, compL, iSeq, itemsOf, iZp, pairsD, dSl, cut0o, ownOk, wipeE, backE, r6, tTrue, keep, hs.flat, T.flat, D.flat, D.flats, runBody, sRet, sRetV, sRetN, sSeq, sIf, sAsg, sNext, sPar, sPar3, eAn, eOo, eNt, eIf, eN, eTup, eLst, e1, e2, t2, tV, tNt, tAn, tOo, eCh, tCh, aCons, aNil, eVar, eMov, eC, eIx, eSl, oNo, oAt, eCall, gN, gTpD, gConsD, gNilD, env0, keep_same, T.toD, T.toDs, dIsi, D.tyName, isKind, isAnyKind, D.isT, dLen, lenD, dEqX, dNeX, unlike, D.seqL, dEq, dNe, dEqv, D.isPy, D.isPys, D.py, D.pys, PyData.eqv, PyData.eqvAll, dNeg, dIx]
  | x h1 => simp [m_is_form, b_is_form, N_is_form, tup2, w_i, i0, i1, hx, hy, h1.1, dAll, on1L, blsOf, eComp, compL, iSeq, itemsOf, iZp, pairsD, dSl, cut1o, ownOk, wipeE, backE, r6, tTrue, keep, hs.flat, T.flat, D.flat, D.flats, runBody, sRet, sRetV, sRetN, sSeq, sIf, sAsg, sNext, sPar, sPar3, eAn, eOo, eNt, eIf, eN, eTup, eLst, e1, e2, t2, tV, tNt, tAn, tOo, eCh, tCh, aCons, aNil, eVar, eMov, eC, eIx, eSl, oNo, oAt, eCall, gN, gTpD, gConsD, gNilD, env0, keep_same, T.toD, T.toDs, dIsi, D.tyName, isKind, isAnyKind, D.isT, dLen, lenD, dEqX, dNeX, unlike, D.seqL, dEq, dNe, dEqv, D.isPy, D.isPys, D.py, D.pys, PyData.eqv, PyData.eqvAll, dNeg, dIx]
  | y h1 => simp [m_is_form, b_is_form, N_is_form, tup2, w_i, i0, i1, hx, hy, h1.1, dAll, on1L, blsOf, eComp, compL, iSeq, itemsOf, iZp, pairsD, dSl, cut1o, ownOk, wipeE, backE, r6, tTrue, keep, hs.flat, T.flat, D.flat, D.flats, runBody, sRet, sRetV, sRetN, sSeq, sIf, sAsg, sNext, sPar, sPar3, eAn, eOo, eNt, eIf, eN, eTup, eLst, e1, e2, t2, tV, tNt, tAn, tOo, eCh, tCh, aCons, aNil, eVar, eMov, eC, eIx, eSl, oNo, oAt, eCall, gN, gTpD, gConsD, gNilD, env0, keep_same, T.toD, T.toDs, dIsi, D.tyName, isKind, isAnyKind, D.isT, dLen, lenD, dEqX, dNeX, unlike, D.seqL, dEq, dNe, dEqv, D.isPy, D.isPys, D.py, D.pys, PyData.eqv, PyData.eqvAll, dNeg, dIx]
  | xy h1 h2 => simp [m_is_form, b_is_form, N_is_form, tup2, w_i, i0, i1, hx, hy, h1.1, h2.1, dAll, on1L, blsOf, eComp, compL, iSeq, itemsOf, iZp, pairsD, dSl, cut2o, dLt, ltXY, ownOk, wipeE, backE, r6, tTrue, keep, hs.flat, T.flat, D.flat, D.flats, runBody, sRet, sRetV, sRetN, sSeq, sIf, sAsg, sNext, sPar, sPar3, eAn, eOo, eNt, eIf, eN, eTup, eLst, e1, e2, t2, tV, tNt, tAn, tOo, eCh, tCh, aCons, aNil, eVar, eMov, eC, eIx, eSl, oNo, oAt, eCall, gN, gTpD, gConsD, gNilD, env0, keep_same, T.toD, T.toDs, dIsi, D.tyName, isKind, isAnyKind, D.isT, dLen, lenD, dEqX, dNeX, unlike, D.seqL, dEq, dNe, dEqv, D.isPy, D.isPys, D.py, D.pys, PyData.eqv, PyData.eqvAll, dNeg, dIx]
theorem in12' : intsD 1 0 = [] := rfl
theorem in11' : intsD 1 1 = [D.int 1] := rfl
theorem e_law_form {k : Int} {ps : List (Str × Int)} (h : OkPs ps) {cs : CS} (hf : cs.all T.cellFlat = true) : m_law_is_form [formD k ps] cs = some (.sh (.bl true), cs) := by
  cases h with
  | nil => simp [m_law_is_form, b_law_is_form, N_law_is_form, lw_i, i0, i1, eComp, compL, iSeq, itemsOf, iRg2, in12', ownOk, wipeE, backE, r4, List.range, List.range.loop, tTrue, keep, hf, T.flat, D.flat, D.flats, runBody, sRet, sRetV, sRetN, sSeq, sIf, sAsg, sNext, sPar, sPar3, eAn, eOo, eNt, eIf, eN, eTup, eLst, e1, e2, t2, tV, tNt, tAn, tOo, eCh, tCh, aCons, aNil, eVar, eMov, eC, eIx, eSl, oNo, oAt, eCall, gN, gTpD, gConsD, gNilD, env0, keep_same, T.toD, T.toDs, dIsi, D.tyName, isKind, isAnyKind, D.isT, dLen, lenD, dEqX, dNeX, unlike, D.seqL, dEq, dNe, dEqv, D.isPy, D.isPys, D.py, D.pys, PyData.eqv, PyData.eqvAll, dNeg, dIx]
  | x h1 => simp [m_law_is_form, b_law_is_form, N_law_is_form, lw_i, i0, i1, h1.1, eComp, compL, iSeq, itemsOf, iRg2, in12', ownOk, wipeE, backE, List.range, List.range.loop, tTrue, keep, hf, T.flat, D.flat, D.flats, runBody, sRet, sRetV, sRetN, sSeq, sIf, sAsg, sNext, sPar, sPar3, eAn, eOo, eNt, eIf, eN, eTup, eLst, e1, e2, t2, tV, tNt, tAn, tOo, eCh, tCh, aCons, aNil, eVar, eMov, eC, eIx, eSl, oNo, oAt, eCall, gN, gTpD, gConsD, gNilD, env0, keep_same, T.toD, T.toDs, dIsi, D.tyName, isKind, isAnyKind, D.isT, dLen, lenD, dEqX, dNeX, unlike, D.seqL, dEq, dNe, dEqv, D.isPy, D.isPys, D.py, D.pys, PyData.eqv, PyData.eqvAll, dNeg, dIx]
  | y h1 => simp [m_law_is_form, b_law_is_form, N_law_is_form, lw_i, i0, i1, h1.1, eComp, compL, iSeq, itemsOf, iRg2, in12', ownOk, wipeE, backE, List.range, List.range.loop, tTrue, keep, hf, T.flat, D.flat, D.flats, runBody, sRet, sRetV, sRetN, sSeq, sIf, sAsg, sNext, sPar, sPar3, eAn, eOo, eNt, eIf, eN, eTup, eLst, e1, e2, t2, tV, tNt, tAn, tOo, eCh, tCh, aCons, aNil, eVar, eMov, eC, eIx, eSl, oNo, oAt, eCall, gN, gTpD, gConsD, gNilD, env0, keep_same, T.toD, T.toDs, dIsi, D.tyName, isKind, isAnyKind, D.isT, dLen, lenD, dEqX, dNeX, unlike, D.seqL, dEq, dNe, dEqv, D.isPy, D.isPys, D.py, D.pys, PyData.eqv, PyData.eqvAll, dNeg, dIx]
  | xy h1 h2 => simp [m_law_is_form, b_law_is_form, N_law_is_form, lw_i, i0, i1, h1.1, h2.1, eComp, compL, iSeq, itemsOf, iRg2, in11', dSub, gXY, ownOk, wipeE, backE, List.range, List.range.loop, tTrue, keep, hf, T.flat, D.flat, D.flats, runBody, sRet, sRetV, sRetN, sSeq, sIf, sAsg, sNext, sPar, sPar3, eAn, eOo, eNt, eIf, eN, eTup, eLst, e1, e2, t2, tV, tNt, tAn, tOo, eCh, tCh, aCons, aNil, eVar, eMov, eC, eIx, eSl, oNo, oAt, eCall, gN, gTpD, gConsD, gNilD, env0, keep_same, T.toD, T.toDs, dIsi, D.tyName, isKind, isAnyKind, D.isT, dLen, lenD, dEqX, dNeX, unlike, D.seqL, dEq, dNe, dEqv, D.isPy, D.isPys, D.py, D.pys, PyData.eqv, PyData.eqvAll, dNeg, dIx]
theorem nin1 : dNotIn (.str X) (.tup .ex [.str "x", .str "y@", .str "z"]) = some (.sh (.bl false)) := by kernel_rfl
theorem nin2 : dNotIn (.str Y) (.tup .ex [.str "x", .str "y@", .str "z"]) = some (.sh (.bl false)) := by kernel_rfl
theorem e_law_names {k : Int} {ps : List (Str × Int)} (h : OkPs ps) {cs : CS} (hf : cs.all T.cellFlat = true) : m_law_are_names [formD k ps] cs = some (.sh (.bl true), cs) := by
  cases h with
  | nil => simp [m_law_are_names, b_law_are_names, N_law_are_names, nin1, nin2, i0, i1, eComp, compL, iSeq, itemsOf, ownOk, wipeE, backE, List.range, List.range.loop, tTrue, keep, hf, T.flat, D.flat, D.flats, runBody, sRet, sRetV, sRetN, sSeq, sIf, sAsg, sNext, sPar, sPar3, eAn, eOo, eNt, eIf, eN, eTup, eLst, e1, e2, t2, tV, tNt, tAn, tOo, eCh, tCh, aCons, aNil, eVar, eMov, eC, eIx, eSl, oNo, oAt, eCall, gN, gTpD, gConsD, gNilD, env0, keep_same, T.toD, T.toDs, dIsi, D.tyName, isKind, isAnyKind, D.isT, dLen, lenD, dEqX, dNeX, unlike, D.seqL, dEq, dNe, dEqv, D.isPy, D.isPys, D.py, D.pys, PyData.eqv, PyData.eqvAll, dNeg, dIx]
  | x h1 => simp [m_law_are_names, b_law_are_names, N_law_are_names, nin1, nin2, i0, i1, eComp, compL, iSeq, itemsOf, ownOk, wipeE, backE, List.range, List.range.loop, tTrue, keep, hf, T.flat, D.flat, D.flats, runBody, sRet, sRetV, sRetN, sSeq, sIf, sAsg, sNext, sPar, sPar3, eAn, eOo, eNt, eIf, eN, eTup, eLst, e1, e2, t2, tV, tNt, tAn, tOo, eCh, tCh, aCons, aNil, eVar, eMov, eC, eIx, eSl, oNo, oAt, eCall, gN, gTpD, gConsD, gNilD, env0, keep_same, T.toD, T.toDs, dIsi, D.tyName, isKind, isAnyKind, D.isT, dLen, lenD, dEqX, dNeX, unlike, D.seqL, dEq, dNe, dEqv, D.isPy, D.isPys, D.py, D.pys, PyData.eqv, PyData.eqvAll, dNeg, dIx]
  | y h1 => simp [m_law_are_names, b_law_are_names, N_law_are_names, nin1, nin2, i0, i1, eComp, compL, iSeq, itemsOf, ownOk, wipeE, backE, List.range, List.range.loop, tTrue, keep, hf, T.flat, D.flat, D.flats, runBody, sRet, sRetV, sRetN, sSeq, sIf, sAsg, sNext, sPar, sPar3, eAn, eOo, eNt, eIf, eN, eTup, eLst, e1, e2, t2, tV, tNt, tAn, tOo, eCh, tCh, aCons, aNil, eVar, eMov, eC, eIx, eSl, oNo, oAt, eCall, gN, gTpD, gConsD, gNilD, env0, keep_same, T.toD, T.toDs, dIsi, D.tyName, isKind, isAnyKind, D.isT, dLen, lenD, dEqX, dNeX, unlike, D.seqL, dEq, dNe, dEqv, D.isPy, D.isPys, D.py, D.pys, PyData.eqv, PyData.eqvAll, dNeg, dIx]
  | xy h1 h2 => simp [m_law_are_names, b_law_are_names, N_law_are_names, nin1, nin2, i0, i1, eComp, compL, iSeq, itemsOf, ownOk, wipeE, backE, List.range, List.range.loop, tTrue, keep, hf, T.flat, D.flat, D.flats, runBody, sRet, sRetV, sRetN, sSeq, sIf, sAsg, sNext, sPar, sPar3, eAn, eOo, eNt, eIf, eN, eTup, eLst, e1, e2, t2, tV, tNt, tAn, tOo, eCh, tCh, aCons, aNil, eVar, eMov, eC, eIx, eSl, oNo, oAt, eCall, gN, gTpD, gConsD, gNilD, env0, keep_same, T.toD, T.toDs, dIsi, D.tyName, isKind, isAnyKind, D.isT, dLen, lenD, dEqX, dNeX, unlike, D.seqL, dEq, dNe, dEqv, D.isPy, D.isPys, D.py, D.pys, PyData.eqv, PyData.eqvAll, dNeg, dIx]
theorem cnt (i n : Int) (cs : CS) : m_is_count [.int i, .int n] cs = some (.sh (.bl (decide (0 ≤ i ∧ n ≤ i))), cs) := e_count _ n cs pl_i
theorem nin4 : dNotIn (.str "number") (.tup .any gt_WORDS) = some (.sh (.bl true)) := by kernel_rfl
theorem e_leafT {b : B} (h : Lv b) {cs : CS} (hs : Shape cs) : m_is_leaf [b.toD] cs = some (.sh (.bl true), cs) := by
  cases h with
  | @num n h1 => simp [m_is_leaf, b_is_leaf, N_is_leaf, B.toD, tup2, cnt, i0, i1, h1, keep, hs.flat, T.flat, D.flat, D.flats, runBody, sRet, sRetV, sRetN, sSeq, sIf, sAsg, sNext, sPar, sPar3, eAn, eOo, eNt, eIf, eN, eTup, eLst, e1, e2, t2, tV, tNt, tAn, tOo, eCh, tCh, aCons, aNil, eVar, eMov, eC, eIx, eSl, oNo, oAt, eCall, gN, gTpD, gConsD, gNilD, env0, keep_same, T.toD, T.toDs, dIsi, D.tyName, isKind, isAnyKind, D.isT, dLen, lenD, dEqX, dNeX, unlike, D.seqL, dEq, dNe, dEqv, D.isPy, D.isPys, D.py, D.pys, PyData.eqv, PyData.eqvAll, dNeg, dIx]
  | @frm k d ps h1 h2 h3 =>
    have ef := fun cs hs => e_is_form (k := k) (cs := cs) h1 hs
    simp only [formD] at ef
    have h4 : 0 ≤ d ∧ 1 ≤ d := by omega
    simp [m_is_leaf, b_is_leaf, N_is_leaf, B.toD, tup2, cnt, j0, j1, j2, ef cs hs, h4.1, h4.2, keep, hs.flat, T.flat, D.flat, D.flats, runBody, sRet, sRetV, sRetN, sSeq, sIf, sAsg, sNext, sPar, sPar3, eAn, eOo, eNt, eIf, eN, eTup, eLst, e1, e2, t2, tV, tNt, tAn, tOo, eCh, tCh, aCons, aNil, eVar, eMov, eC, eIx, eSl, oNo, oAt, eCall, gN, gTpD, gConsD, gNilD, env0, keep_same, T.toD, T.toDs, dIsi, D.tyName, isKind, isAnyKind, D.isT, dLen, lenD, dEqX, dNeX, unlike, D.seqL, dEq, dNe, dEqv, D.isPy, D.isPys, D.py, D.pys, PyData.eqv, PyData.eqvAll, dNeg, dIx]
theorem e_leafN {b : B} (h : Lv b) {cs : CS} (hf : cs.all T.cellFlat = true) : m_is_node [b.toD] cs = some (.sh (.bl false), cs) := by
  cases h with
  | @num n h1 => simp [m_is_node, b_is_node, N_is_node, B.toD, tup2, i0, i1, nin4, keep, hf, T.flat, D.flat, D.flats, runBody, sRet, sRetV, sRetN, sSeq, sIf, sAsg, sNext, sPar, sPar3, eAn, eOo, eNt, eIf, eN, eTup, eLst, e1, e2, t2, tV, tNt, tAn, tOo, eCh, tCh, aCons, aNil, eVar, eMov, eC, eIx, eSl, oNo, oAt, eCall, gN, gTpD, gConsD, gNilD, env0, keep_same, T.toD, T.toDs, dIsi, D.tyName, isKind, isAnyKind, D.isT, dLen, lenD, dEqX, dNeX, unlike, D.seqL, dEq, dNe, dEqv, D.isPy, D.isPys, D.py, D.pys, PyData.eqv, PyData.eqvAll, dNeg, dIx]
  | @frm k d ps h1 h2 h3 => simp [m_is_node, b_is_node, N_is_node, B.toD, tup2, j0, j1, j2, keep, hf, T.flat, D.flat, D.flats, runBody, sRet, sRetV, sRetN, sSeq, sIf, sAsg, sNext, sPar, sPar3, eAn, eOo, eNt, eIf, eN, eTup, eLst, e1, e2, t2, tV, tNt, tAn, tOo, eCh, tCh, aCons, aNil, eVar, eMov, eC, eIx, eSl, oNo, oAt, eCall, gN, gTpD, gConsD, gNilD, env0, keep_same, T.toD, T.toDs, dIsi, D.tyName, isKind, isAnyKind, D.isT, dLen, lenD, dEqX, dNeX, unlike, D.seqL, dEq, dNe, dEqv, D.isPy, D.isPys, D.py, D.pys, PyData.eqv, PyData.eqvAll, dNeg, dIx]
theorem ni1 : dNotIn (.str wPl) (.tup .any gt_WORDS) = some (.sh (.bl false)) := by kernel_rfl
theorem ni2 : dNotIn (.str wTi) (.tup .any gt_WORDS) = some (.sh (.bl false)) := by kernel_rfl
theorem ni3 : dNotIn (.str wGr) (.tup .any gt_WORDS) = some (.sh (.bl false)) := by kernel_rfl
theorem ni4 : dNotIn (.str wPh) (.tup .any gt_WORDS) = some (.sh (.bl false)) := by kernel_rfl
theorem e_nodeN {w : Str} (hw : W3 w ∨ w = wPh) {ds : List D} (h : ds ≠ []) {cs : CS} (hf : cs.all T.cellFlat = true) : m_is_node [.tup .ex [.str w, .lst ds]] cs = some (.sh (.bl true), cs) := by
  obtain ⟨d, ds, rfl⟩ := List.exists_cons_of_ne_nil h
  rcases hw with (rfl | rfl | rfl) | rfl <;> simp [m_is_node, b_is_node, N_is_node, tup2, i0, i1, ni1, ni2, ni3, ni4, keep, hf, T.flat, D.flat, D.flats, runBody, sRet, sRetV, sRetN, sSeq, sIf, sAsg, sNext, sPar, sPar3, eAn, eOo, eNt, eIf, eN, eTup, eLst, e1, e2, t2, tV, tNt, tAn, tOo, eCh, tCh, aCons, aNil, eVar, eMov, eC, eIx, eSl, oNo, oAt, eCall, gN, gTpD, gConsD, gNilD, env0, keep_same, T.toD, T.toDs, dIsi, D.tyName, isKind, isAnyKind, D.isT, dLen, lenD, dEqX, dNeX, unlike, D.seqL, dEq, dNe, dEqv, D.isPy, D.isPys, D.py, D.pys, PyData.eqv, PyData.eqvAll, dNeg, dIx]
end K57
end
section
set_option Elab.async false
set_option linter.all false
set_option maxRecDepth 100000
set_option maxHeartbeats 4000000
set_option autoImplicit false
namespace K57
open PySem L2 PyProof.Rows PD
/-! ### is_bound -/
def IB (d : D) (b : Bool) : Prop := ∀ cs : CS, Shape cs → m_is_bound [d] cs = some (.sh (.bl b), cs)
structure Bad (d : D) : Prop where
  nd : ∀ cs : CS, Shape cs → m_is_node [d] cs = some (.sh (.bl false), cs)
  lf : ∀ cs : CS, Shape cs → m_is_leaf [d] cs = some (.sh (.bl false), cs)
def cB : Tv := (t2 dNeX (eVar 1) (eLst aNil))
def bB : Sv := (sSeq (sPop 2 1) (sIf (tV (eCall (m_is_node) [] (aCons (eVar 2) aNil))) (sAsg (eAdd (eVar 1) (eIx (eVar 2) (eC (.int 1)))) (gN 1)) (sIf (tNt (tV (eCall (m_is_leaf) [] (aCons (eVar 2) aNil)))) (sRet (eC (.bl false))) sNext)))
theorem toDs_shD (ds : List D) : T.toDs (ds.map T.sh) = ds := toDs_map ds
theorem nn : dNeX (.lst []) (.lst []) = some (.sh (.bl false)) := by kernel_rfl
theorem cB_ok (v : D) (ds : List D) (u2 : Option T) {cs : CS} (hf : cs.all T.cellFlat = true) : cB [some (.sh v), some (.lst (ds.map T.sh)), u2] cs = some (!ds.isEmpty, [some (.sh v), some (.lst (ds.map T.sh)), u2], cs) := by
  cases ds with
  | nil => simp [cB, nn, keep, hf, T.flat, D.flat, D.flats, t2, e2, eVar, eLst, aNil, T.toD, T.toDs]
  | cons d ds => simp [cB, toDs_shD, keep, hf, T.flat, D.flat, D.flats, -List.map_map, runBody, sRet, sRetV, sRetN, sSeq, sIf, sAsg, sNext, sPar, sPar3, eAn, eOo, eNt, eIf, eN, eTup, eLst, e1, e2, t2, tV, tNt, tAn, tOo, eCh, tCh, aCons, aNil, eVar, eMov, eC, eIx, eSl, oNo, oAt, eCall, gN, gTpD, gConsD, gNilD, env0, keep_same, T.toD, T.toDs, dIsi, D.tyName, isKind, isAnyKind, D.isT, dLen, lenD, dEqX, dNeX, unlike, D.seqL, dEq, dNe, dEqv, D.isPy, D.isPys, D.py, D.pys, PyData.eqv, PyData.eqvAll, dNeg, dIx]
theorem bB_leaf (v : D) (xs : List D) (u2 : Option T) {b : B} (hb : Lv b) {cs : CS} (hs : Shape cs) : bB [some (.sh v), some (.lst ((xs ++ [b.toD]).map T.sh)), u2] cs = some (.nx, [some (.sh v), some (.lst (xs.map T.sh)), some (.sh b.toD)], cs) := by
  have q1 := fun cs hf => e_leafN (cs := cs) hb hf
  have q2 := fun cs hs => e_leafT (cs := cs) hb hs
  simp [bB, sPop, q1 cs hs.flat, q2 cs hs, keep, hs.flat, T.flat, D.flat, D.flats, runBody, sRet, sRetV, sRetN, sSeq, sIf, sAsg, sNext, sPar, sPar3, eAn, eOo, eNt, eIf, eN, eTup, eLst, e1, e2, t2, tV, tNt, tAn, tOo, eCh, tCh, aCons, aNil, eVar, eMov, eC, eIx, eSl, oNo, oAt, eCall, gN, gTpD, gConsD, gNilD, env0, keep_same, T.toD, T.toDs, dIsi, D.tyName, isKind, isAnyKind, D.isT, dLen, lenD, dEqX, dNeX, unlike, D.seqL, dEq, dNe, dEqv, D.isPy, D.isPys, D.py, D.pys, PyData.eqv, PyData.eqvAll, dNeg, dIx]
theorem bB_bad (v : D) (xs : List D) (u2 : Option T) {d : D} (hb : Bad d) {cs : CS} (hs : Shape cs) : ∃ env', bB [some (.sh v), some (.lst ((xs ++ [d]).map T.sh)), u2] cs = some (.rt (.sh (.bl false)), env', cs) := by
  have q1 := hb.nd cs hs
  have q2 := hb.lf cs hs
  simp [bB, sPop, q1, q2, keep, hs.flat, T.flat, D.flat, D.flats, runBody, sRet, sRetV, sRetN, sSeq, sIf, sAsg, sNext, sPar, sPar3, eAn, eOo, eNt, eIf, eN, eTup, eLst, e1, e2, t2, tV, tNt, tAn, tOo, eCh, tCh, aCons, aNil, eVar, eMov, eC, eIx, eSl, oNo, oAt, eCall, gN, gTpD, gConsD, gNilD, env0, keep_same, T.toD, T.toDs, dIsi, D.tyName, isKind, isAnyKind, D.isT, dLen, lenD, dEqX, dNeX, unlike, D.seqL, dEq, dNe, dEqv, D.isPy, D.isPys, D.py, D.pys, PyData.eqv, PyData.eqvAll, dNeg, dIx]
theorem bB_node (v : D) (xs : List D) (u2 : Option T) {w : Str} (hw : W3 w ∨ w = wPh) {ds : List D} (h : ds ≠ []) (hl : xs.length + ds.length ≤ 100000) {cs : CS} (hs : Shape cs) : bB [some (.sh v), some (.lst ((xs ++ [D.tup .ex [.str w, .lst ds]]).map T.sh)), u2] cs = some (.nx, [some (.sh v), some (.lst ((xs ++ ds).map T.sh)), some (.sh (.tup .ex [.str w, .lst ds]))], cs) := by
  have q1 := fun cs hf => e_nodeN (cs := cs) hw h hf
  have sl : xs.length + ds.length ≤ sizeLine := by rw [sizeLine_eq]; omega
  simp [bB, sPop, q1 cs hs.flat, i1, eAdd, catS, catL, toDs_shD, sl, keep, hs.flat, T.flat, D.flat, D.flats, -List.map_map, runBody, sRet, sRetV, sRetN, sSeq, sIf, sAsg, sNext, sPar, sPar3, eAn, eOo, eNt, eIf, eN, eTup, eLst, e1, e2, t2, tV, tNt, tAn, tOo, eCh, tCh, aCons, aNil, eVar, eMov, eC, eIx, eSl, oNo, oAt, eCall, gN, gTpD, gConsD, gNilD, env0, keep_same, T.toD, T.toDs, dIsi, D.tyName, isKind, isAnyKind, D.isT, dLen, lenD, dEqX, dNeX, unlike, D.seqL, dEq, dNe, dEqv, D.isPy, D.isPys, D.py, D.pys, PyData.eqv, PyData.eqvAll, dNeg, dIx]
theorem B.toD_nd (w : Str) (bs : List B) : B.toD (.nd w bs) = .tup .ex [.str w, .lst (bs.map B.toD)] := by
  show D.tup _ _ = _
  rw [toDs_map']
theorem stackA (v : D) {cs : CS} (hs : Shape cs) : ∀ (m N : Nat) (bs : List B) (u2 : Option T), (∀ b ∈ bs, Wf b) → B.sizes bs = m → m < N → m ≤ 90000 → ∃ u2', whileL cB bB N [some (.sh v), some (.lst ((bs.map B.toD).map T.sh)), u2] cs = some (.nx, [some (.sh v), some (.lst []), u2'], cs)
  | m, 0, bs, u2, _, _, hN, _ => absurd hN (by omega)
  | m, N + 1, bs, u2, hw, hm, hN, hz => by
    unfold whileL
    rw [cB_ok v _ _ hs.flat]
    rcases List.eq_nil_or_concat bs with rfl | ⟨bs', b, rfl⟩
    · exact ⟨u2, rfl⟩
    · have hb : Wf b := hw b (by simp)
      have hw' : ∀ c ∈ bs', Wf c := fun c hc => hw c (by simp [hc])
      rw [List.concat_eq_append] at hm ⊢
      rw [sizes_append] at hm
      simp only [B.sizes] at hm
      have hk := size_kids b
      have hlen := sizes_ge bs'
      have hlen2 := sizes_ge (kids b)
      have he : (!((bs' ++ [b]).map B.toD).isEmpty) = true := by simp
      rw [he]
      simp only [if_true]
      rw [List.map_append (f := B.toD), List.map_singleton (f := B.toD)]
      cases hb with
      | lf hb =>
        rw [bB_leaf v _ u2 hb hs]
        have := stackA v hs (m - b.size) N bs' (some (.sh b.toD)) hw' (by omega) (by omega) (by omega)
        exact this
      | @nd w ks h1 h2 h3 =>
        have hl2 : (bs'.map B.toD).length + (ks.map B.toD).length ≤ 100000 := by
          simp only [kids] at hlen2 hk
          rw [List.length_map, List.length_map]; omega
        rw [B.toD_nd, bB_node v _ u2 h1 (by simpa using h2) hl2 hs, ← List.map_append]
        exact stackA v hs (m - 1) N (bs' ++ ks) _ (fun c hc => by
          rcases List.mem_append.mp hc with hc | hc
          · exact hw' c hc
          · exact h3 c hc) (by rw [sizes_append]; simp only [kids] at hk; omega) (by omega) (by omega)
theorem stackB (v : D) {cs : CS} (hs : Shape cs) (pre : List D) {d : D} (hd : Bad d) : ∀ (m N : Nat) (bs : List B) (u2 : Option T), (∀ b ∈ bs, Wf b) → B.sizes bs = m → m + 1 < N → m + pre.length ≤ 90000 → ∃ env', whileL cB bB N [some (.sh v), some (.lst ((pre ++ d :: bs.map B.toD).map T.sh)), u2] cs = some (.rt (.sh (.bl false)), env', cs)
  | m, 0, bs, u2, _, _, hN, _ => absurd hN (by omega)
  | m, N + 1, bs, u2, hw, hm, hN, hz => by
    unfold whileL
    rw [cB_ok v _ _ hs.flat]
    have he : (!(pre ++ d :: bs.map B.toD).isEmpty) = true := by simp
    rw [he]
    rcases List.eq_nil_or_concat bs with rfl | ⟨bs', b, rfl⟩
    · obtain ⟨env', e⟩ := bB_bad v pre u2 hd hs
      refine ⟨env', ?_⟩
      simp only [List.map_nil, if_true]
      rw [e]
    · have hb : Wf b := hw b (by simp)
      have hw' : ∀ c ∈ bs', Wf c := fun c hc => hw c (by simp [hc])
      rw [List.concat_eq_append] at hm ⊢
      rw [sizes_append] at hm
      simp only [B.sizes] at hm
      have hk := size_kids b
      have hlen := sizes_ge bs'
      have hlen2 := sizes_ge (kids b)
      have ea : pre ++ d :: (bs' ++ [b]).map B.toD = (pre ++ d :: bs'.map B.toD) ++ [b.toD] := by simp
      rw [ea]
      simp only [if_true]
      cases hb with
      | lf hb =>
        rw [bB_leaf v _ u2 hb hs]
        have := stackB v hs pre hd (m - b.size) N bs' (some (.sh b.toD)) hw' (by omega) (by omega) (by omega)
        exact this
      | @nd w ks h1 h2 h3 =>
        have hl2 : (pre ++ d :: bs'.map B.toD).length + (ks.map B.toD).length ≤ 100000 := by
          simp only [kids] at hlen2 hk
          simp only [List.length_append, List.length_cons, List.length_map]; omega
        have eb : (pre ++ d :: bs'.map B.toD) ++ ks.map B.toD = pre ++ d :: (bs' ++ ks).map B.toD := by simp
        rw [B.toD_nd, bB_node v _ u2 h1 (by simpa using h2) hl2 hs, eb]
        exact stackB v hs pre hd (m - 1) N (bs' ++ ks) _ (fun c hc => by
          rcases List.mem_append.mp hc with hc | hc
          · exact hw' c hc
          · exact h3 c hc) (by rw [sizes_append]; simp only [kids] at hk; omega) (by omega) (by omega)
theorem b_ib : b_is_bound = sSeq (sAsg (eLst (aCons (eVar 0) aNil)) (gN 1)) (sSeq (sWhile 1000000 cB bB) (sRet (eC (.bl true)))) := rfl
theorem g_ib (d : D) : env0 N_is_bound.length [d] = [some (.sh d), none, none] := rfl
theorem a_ib (d : D) (cs : CS) : sAsg (eLst (aCons (eVar 0) aNil)) (gN 1) [some (.sh d), none, none] cs = some (.nx, [some (.sh d), some (.lst ([d].map T.sh)), none], cs) := rfl
theorem ib_good {b : B} (hb : Wf b) (hz : b.size ≤ 80000) : IB b.toD true := fun cs hs => by
  obtain ⟨u2, e⟩ := stackA b.toD hs b.size 1000000 [b] none (fun c hc => by rw [List.mem_singleton.mp hc]; exact hb) (by simp [B.sizes]) (by omega) (by omega)
  have e' : sWhile 1000000 cB bB [some (.sh b.toD), some (.lst ([b.toD].map T.sh)), none] cs = some (.nx, [some (.sh b.toD), some (.lst []), u2], cs) := e
  refine u_run (env1 := [some (.sh b.toD), some (.lst []), u2]) (cs1 := cs) ?_
  rw [b_ib, g_ib]
  exact (u_seq (a_ib _ _)).trans ((u_seq e').trans rfl)
theorem ib_bad {d : D} (hb : Bad d) : IB d false := fun cs hs => by
  obtain ⟨env', e⟩ := stackB d hs [] hb 0 1000000 [] none (fun c hc => nomatch hc) rfl (by omega) (by simp)
  have e' : sWhile 1000000 cB bB [some (.sh d), some (.lst ([d].map T.sh)), none] cs = some (.rt (.sh (.bl false)), env', cs) := e
  refine u_run (env1 := env') (cs1 := cs) ?_
  rw [b_ib, g_ib]
  exact (u_seq (a_ib _ _)).trans (u_seqR e')
theorem ib_mix {w : Str} (hw : W3 w ∨ w = wPh) {pre : List D} {d : D} (hb : Bad d) {bs : List B} (h : ∀ b ∈ bs, Wf b) (hz : B.sizes bs + pre.length ≤ 80000) : IB (.tup .ex [.str w, .lst (pre ++ d :: bs.map B.toD)]) false := fun cs hs => by
  obtain ⟨env', e⟩ := stackB (.tup .ex [.str w, .lst (pre ++ d :: bs.map B.toD)]) hs pre hb (B.sizes bs) 999999 bs (some (.sh (.tup .ex [.str w, .lst (pre ++ d :: bs.map B.toD)]))) h rfl (by omega) (by omega)
  have hlen := sizes_ge bs
  have hn := bB_node (.tup .ex [.str w, .lst (pre ++ d :: bs.map B.toD)]) [] none hw (ds := pre ++ d :: bs.map B.toD) (by simp) (by simp; omega) hs
  have e' : sWhile 1000000 cB bB [some (.sh (.tup .ex [.str w, .lst (pre ++ d :: bs.map B.toD)])), some (.lst ([D.tup .ex [.str w, .lst (pre ++ d :: bs.map B.toD)]].map T.sh)), none] cs = some (.rt (.sh (.bl false)), env', cs) := by
    show whileL cB bB (999999 + 1) _ _ = _
    unfold whileL
    rw [cB_ok _ _ _ hs.flat]
    simp only [List.isEmpty_cons, Bool.not_false, if_true]
    simp only [List.nil_append] at hn
    rw [hn]
    exact e
  refine u_run (env1 := env') (cs1 := cs) ?_
  rw [b_ib, g_ib]
  exact (u_seq (a_ib _ _)).trans (u_seqR e')
end K57
end
section
set_option Elab.async false
set_option linter.all false
set_option maxRecDepth 100000
set_option maxHeartbeats 4000000
set_option autoImplicit false
namespace K57
open PySem L2 PyProof.Rows PD
/-! ### _law_is_bound -/
def LB (f : Nat) (d : D) (b : Bool) : Prop := ∀ cs : CS, Shape cs → m_law_is_bound f [d] cs = some (.sh (.bl b), cs)
theorem eqNil (t : TK) (xs : List D) (h : D.isPys xs 59 = true) : dEqX (.tup t xs) (.tup .ex []) = some (.sh (.bl xs.isEmpty)) := by
  cases xs with
  | nil => simp [dEqX, unlike, D.seqL, dEq, dEqv, D.isPy, D.isPys, D.py, D.pys, PyData.eqv, PyData.eqvAll]
  | cons x xs =>
    have h' : x.isPy 59 = true ∧ D.isPys xs 59 = true := by simpa [D.isPys] using h
    simp [dEqX, unlike, D.seqL, dEq, dEqv, D.isPy, h', D.isPys, D.py, D.pys, PyData.eqv, PyData.eqvAll]
theorem eqNilL (xs : List D) : dEqX (.lst xs) (.lst []) = some (.sh (.bl xs.isEmpty)) := by
  cases xs with
  | nil => simp [dEqX, unlike, D.seqL, dEq, dEqv, D.isPy, D.isPys, D.py, D.pys, PyData.eqv, PyData.eqvAll]
  | cons x xs => simp [dEqX, unlike, D.seqL]
theorem mi1 : dNotIn (.str wPl) (.tup .ex [.str "plus", .str "times", .str "greatest", .str "phases"]) = some (.sh (.bl false)) := by kernel_rfl
theorem mi2 : dNotIn (.str wTi) (.tup .ex [.str "plus", .str "times", .str "greatest", .str "phases"]) = some (.sh (.bl false)) := by kernel_rfl
theorem mi3 : dNotIn (.str wGr) (.tup .ex [.str "plus", .str "times", .str "greatest", .str "phases"]) = some (.sh (.bl false)) := by kernel_rfl
theorem mi4 : dNotIn (.str wPh) (.tup .ex [.str "plus", .str "times", .str "greatest", .str "phases"]) = some (.sh (.bl false)) := by kernel_rfl
theorem isPys_pairs (ps : List (Str × Int)) (n : Nat) : D.isPys (ps.map pairD) (n + 1) = true := by
  induction ps with
  | nil => rfl
  | cons p ps ih => simp [D.isPys, D.isPy, ih]
theorem lb_leaf {b : B} (h : Lv b) (f : Nat) : LB (f + 1) b.toD true := fun cs hs => by
  have hf := hs.flat
  cases h with
  | @num n h1 =>
    have e0 := eqNil .ex [.str "number", .int n] rfl
    have q1 : dEqX (.str "number") (.str "number") = some (.sh (.bl true)) := by kernel_rfl
    have q3 : dEqX (.int 2) (.int 2) = some (.sh (.bl true)) := by kernel_rfl
    simp [m_law_is_bound, b_law_is_bound, N_law_is_bound, B.toD, e0, i0, i1, q1, q3, lw_i, dGe, h1, keep, hf, T.flat, D.flat, D.flats, runBody, sRet, sSeq, sIf, sNext, eAn, e2, t2, tV, tNt, tOo, eIx, eC, eVar, eTup, aCons, aNil, eN, eCall, env0, T.toD, T.toDs, dIsi, D.tyName, isKind, isAnyKind, D.isT, dIx, dLen, lenD]
  | @frm k d ps h1 h2 h3 =>
    have ef := e_law_form (k := k) (cs := cs) h1 hf
    have en := e_law_names (k := k) (cs := cs) h1 hf
    simp only [formD] at ef en
    have e0 := eqNil .ex [.str "form", .tup .ex [.int k, .tup .pl (ps.map pairD)], .int d] (by simp [D.isPys, D.isPy, isPys_pairs])
    have h4 : 0 < d := by omega
    have q1 : dEqX (.str "form") (.str "number") = some (.sh (.bl false)) := by kernel_rfl
    have q2 : dEqX (.str "form") (.str "form") = some (.sh (.bl true)) := by kernel_rfl
    have q3 : dEqX (.int 3) (.int 3) = some (.sh (.bl true)) := by kernel_rfl
    simp [m_law_is_bound, b_law_is_bound, N_law_is_bound, B.toD, e0, j0, j1, j2, q1, q2, q3, ef, en, lw_i, dGt, h4, keep, hf, T.flat, D.flat, D.flats, runBody, sRet, sSeq, sIf, sNext, eAn, e2, t2, tV, tNt, tOo, eIx, eC, eVar, eTup, aCons, aNil, eN, eCall, env0, T.toD, T.toDs, dIsi, D.tyName, isKind, isAnyKind, D.isT, dIx, dLen, lenD]
theorem lb_node {f : Nat} {w : Str} (hw : W3 w ∨ w = wPh) {ds : List D} (h0 : ds ≠ []) (hp : D.isPys ds 58 = true) {p : D → Bool} (h : ∀ d ∈ ds, LB f d (p d)) : LB (f + 1) (.tup .ex [.str w, .lst ds]) (ds.all p) := fun cs hs => by
  have hf := hs.flat
  have hC : eComp [1] (iSeq (eIx (eVar 0) (eC (.int 1)))) (gN 1) (tNt (tV (eCall (m_law_is_bound f) [] (aCons (eVar 1) aNil)))) (eVar 1) [some (.sh (.tup .ex [.str w, .lst ds])), none] cs = some (.lst ((ds.filter fun d => !p d).map T.sh), [some (.sh (.tup .ex [.str w, .lst ds])), none], cs) := by
    refine eComp_fil (p := fun d => !p d) (g := T.sh) (by simp [iSeq, itemsOf, i1, runBody, sRet, sRetV, sRetN, sSeq, sIf, sAsg, sNext, sPar, sPar3, eAn, eOo, eNt, eIf, eN, eTup, eLst, e1, e2, t2, tV, tNt, tAn, tOo, eCh, tCh, aCons, aNil, eVar, eMov, eC, eIx, eSl, oNo, oAt, eCall, gN, gTpD, gConsD, gNilD, env0, keep_same, T.toD, T.toDs, dIsi, D.tyName, isKind, isAnyKind, D.isT, dLen, lenD, dEqX, dNeX, unlike, D.seqL, dEq, dNe, dEqv, D.isPy, D.isPys, D.py, D.pys, PyData.eqv, PyData.eqvAll, dNeg, dIx]) rfl fun d hd => ?_
    have q := h d hd cs hs
    refine ⟨_, [some (.sh (.tup .ex [.str w, .lst ds])), some (.sh d)], rfl, ?_, fun _ => rfl, fun _ => ⟨_, rfl, rfl⟩⟩
    simp [q, keep, hf, T.flat, D.flat, D.flats, wipeE, runBody, sRet, sRetV, sRetN, sSeq, sIf, sAsg, sNext, sPar, sPar3, eAn, eOo, eNt, eIf, eN, eTup, eLst, e1, e2, t2, tV, tNt, tAn, tOo, eCh, tCh, aCons, aNil, eVar, eMov, eC, eIx, eSl, oNo, oAt, eCall, gN, gTpD, gConsD, gNilD, env0, keep_same, T.toD, T.toDs, dIsi, D.tyName, isKind, isAnyKind, D.isT, dLen, lenD, dEqX, dNeX, unlike, D.seqL, dEq, dNe, dEqv, D.isPy, D.isPys, D.py, D.pys, PyData.eqv, PyData.eqvAll, dNeg, dIx]
  have e0 := eqNil .ex [.str w, .lst ds] (by simp [D.isPys, D.isPy, hp])
  have eL := eqNilL ds
  have eM := eqNilL (ds.filter fun d => !p d)
  have he : ds.isEmpty = false := by cases ds with | nil => exact absurd rfl h0 | cons => rfl
  have hall : (ds.filter fun d => !p d).isEmpty = ds.all p := by
    rw [Bool.eq_iff_iff, List.isEmpty_iff, List.filter_eq_nil_iff, List.all_eq_true]
    simp
  have q3 : dNeX (.int 2) (.int 2) = some (.sh (.bl false)) := by kernel_rfl
  have a1 : dEqX (.str w) (.str "number") = some (.sh (.bl false)) := by rcases hw with (rfl | rfl | rfl) | rfl <;> kernel_rfl
  have a2 : dEqX (.str w) (.str "form") = some (.sh (.bl false)) := by rcases hw with (rfl | rfl | rfl) | rfl <;> kernel_rfl
  have a3 : dNotIn (.str w) (.tup .ex [.str "plus", .str "times", .str "greatest", .str "phases"]) = some (.sh (.bl false)) := by rcases hw with (rfl | rfl | rfl) | rfl <;> kernel_rfl
  simp [m_law_is_bound, b_law_is_bound, N_law_is_bound, e0, i0, i1, a1, a2, a3, q3, eL, he, hC, toDs_shD, eM, hall, keep, hf, T.flat, D.flat, D.flats, runBody, sRet, sSeq, sIf, sNext, eAn, e2, t2, tV, tNt, tOo, eIx, eC, eVar, eTup, eLst, aCons, aNil, eN, env0, T.toD, T.toDs, dIsi, D.tyName, isKind, isAnyKind, D.isT, dIx, dLen, lenD, -List.map_map]
end K57
end
section
set_option Elab.async false
set_option linter.all false
set_option maxRecDepth 100000
set_option maxHeartbeats 4000000
set_option autoImplicit false
namespace K57
open PySem L2 PyProof.Rows PD
/-! ### names_of_bound -/
abbrev tru : T := .sh (.bl true)
inductive NameD : List (D × T) → Prop
  | n0 : NameD []
  | nx : NameD [(.str X, tru)]
  | ny : NameD [(.str Y, tru)]
  | nxy : NameD [(.str X, tru), (.str Y, tru)]
  | nyx : NameD [(.str Y, tru), (.str X, tru)]
def isXY (d : D) : Prop := d = .str X ∨ d = .str Y
theorem put_ok {kvs : List (D × T)} (h : NameD kvs) {k : Key} (hk : k = .inr X ∨ k = .inr Y) : NameD (putD kvs k tru) := by
  rcases hk with rfl | rfl <;> cases h
  · exact .nx
  · simp [putD, kXX]; exact .nx
  · simp [putD, kXY, kD]; exact .nyx
  · simp [putD, kXX, kXY]; exact .nxy
  · simp [putD, kXX, kXY]; exact .nyx
  · exact .ny
  · simp [putD, kYX, kD]; exact .nxy
  · simp [putD, kYY]; exact .ny
  · simp [putD, kYX, kYY]; exact .nxy
  · simp [putD, kYX, kYY]; exact .nyx
theorem NameD.len {kvs : List (D × T)} (h : NameD kvs) : kvs.length < sizeLine := by cases h <;> decide
theorem compD_names (a b c e : Option T) (cs : CS) : ∀ (ds : List D) (acc : List (D × T)), (∀ d ∈ ds, isXY d) → NameD acc → ∃ acc', compD [4] (gN 4) tTrue (eVar 4) (eC (.bl true)) ds acc [a, b, c, e, none] cs = some (acc', [a, b, c, e, none], cs) ∧ NameD acc'
  | [], acc, _, h => ⟨acc, rfl, h⟩
  | d :: ds, acc, hd, h => by
    have hl := h.len
    have hk : ∃ k : Key, d.key? = some k ∧ (k = .inr X ∨ k = .inr Y) := by
      rcases hd d List.mem_cons_self with rfl | rfl
      · exact ⟨_, rfl, .inl rfl⟩
      · exact ⟨_, rfl, .inr rfl⟩
    obtain ⟨k, hk1, hk2⟩ := hk
    obtain ⟨acc', e1, e2⟩ := compD_names a b c e cs ds (putD acc k tru) (fun x hx => hd x (List.mem_cons_of_mem _ hx)) (put_ok h hk2)
    refine ⟨acc', ?_, e2⟩
    unfold compD
    simp [gN, tTrue, eVar, eC, T.toD, hk1, hl, wipeE, e1]
theorem e_names_in {k : Int} {ps : List (Str × Int)} (h : OkPs ps) (cs : CS) : m_names_in [formD k ps] cs = some (.lst (ps.map fun p => .sh (.str p.1)), cs) := by
  cases h <;> simp [m_names_in, b_names_in, N_names_in, i1, eComp, compL, iSeq, itemsOf, tTrue, ownOk, wipeE, backE, List.range, List.range.loop, runBody, sRet, sRetV, sRetN, sSeq, sIf, sAsg, sNext, sPar, sPar3, eAn, eOo, eNt, eIf, eN, eTup, eLst, e1, e2, t2, tV, tNt, tAn, tOo, eCh, tCh, aCons, aNil, eVar, eMov, eC, eIx, eSl, oNo, oAt, eCall, gN, gTpD, gConsD, gNilD, env0, keep_same, T.toD, T.toDs, dIsi, D.tyName, isKind, isAnyKind, D.isT, dLen, lenD, dEqX, dNeX, unlike, D.seqL, dEq, dNe, dEqv, D.isPy, D.isPys, D.py, D.pys, PyData.eqv, PyData.eqvAll, dNeg, dIx]
theorem names_xy {ps : List (Str × Int)} (h : OkPs ps) : ∀ d ∈ (ps.map fun p => D.str p.1), isXY d := by
  intro d hd
  cases h <;> simp at hd <;> unfold isXY <;> simp [hd]
def isF (d : D) : Prop := ∃ k ps, OkPs ps ∧ d = formD k ps
theorem compD2_names (a b c : Option T) {cs : CS} (hf : cs.all T.cellFlat = true) : ∀ (ds : List D) (acc : List (D × T)), (∀ d ∈ ds, isF d) → NameD acc → ∃ acc', compD2 [3, 4] [4] (gN 3) tTrue (iSeq (eCall (m_names_in) [] (aCons (eVar 3) aNil))) (gN 4) tTrue (eVar 4) (eC (.bl true)) ds acc [a, b, c, none, none] cs = some (acc', [a, b, c, none, none], cs) ∧ NameD acc'
  | [], acc, _, h => ⟨acc, rfl, h⟩
  | d :: ds, acc, hd, h => by
    obtain ⟨k, ps, hp, rfl⟩ := hd d List.mem_cons_self
    obtain ⟨acc1, g1, g2⟩ := compD_names a b c (some (.sh (formD k ps))) cs (ps.map fun p => D.str p.1) acc (names_xy hp) h
    obtain ⟨acc', e1, e2⟩ := compD2_names a b c hf ds acc1 (fun x hx => hd x (List.mem_cons_of_mem _ hx)) g2
    refine ⟨acc', ?_, e2⟩
    have en := e_names_in (k := k) hp cs
    have ed : T.toDs (ps.map fun p => T.sh (.str p.1)) = ps.map fun p => D.str p.1 := by rw [toDs_eq, List.map_map]; rfl
    have hi : iSeq (eCall (m_names_in) [] (aCons (eVar 3) aNil)) [a, b, c, some (.sh (formD k ps)), none] cs = some (ps.map fun p => D.str p.1, [a, b, c, some (.sh (formD k ps)), none], cs) := by
      simp only [formD] at en
      simp [iSeq, itemsOf, en, ed, keep, hf, T.flat, -List.map_map, runBody, sRet, sRetV, sRetN, sSeq, sIf, sAsg, sNext, sPar, sPar3, eAn, eOo, eNt, eIf, eN, eTup, eLst, e1, e2, t2, tV, tNt, tAn, tOo, eCh, tCh, aCons, aNil, eVar, eMov, eC, eIx, eSl, oNo, oAt, eCall, gN, gTpD, gConsD, gNilD, env0, keep_same, T.toD, T.toDs, dIsi, D.tyName, isKind, isAnyKind, D.isT, dLen, lenD, dEqX, dNeX, unlike, D.seqL, dEq, dNe, dEqv, D.isPy, D.isPys, D.py, D.pys, PyData.eqv, PyData.eqvAll, dNeg, dIx]
    unfold compD2
    simp only [gN, tTrue, if_true, List.set_cons_succ, List.set_cons_zero]
    rw [hi]
    simp only [wipeE, List.set_cons_succ, List.set_cons_zero]
    rw [g1]
    exact e1
def pF : D → Bool
  | .tup _ (.str w :: _) => decide (w = (PySem.Str.ofString "form"))
  | _ => false
def gF : D → T
  | .tup _ (_ :: x :: _) => .sh x
  | d => .sh d
theorem formsL {os : List B} (h : ∀ b ∈ os, Wf b) : ∃ ds : List D, ((os.map B.toD).filter pF).map gF = ds.map T.sh ∧ ∀ d ∈ ds, isF d := by
  induction os with
  | nil => exact ⟨[], rfl, fun _ z => nomatch z⟩
  | cons b os ih =>
    obtain ⟨ds, e, hd⟩ := ih fun c hc => h c (List.mem_cons_of_mem _ hc)
    have hb := h b List.mem_cons_self
    cases hb with
    | lf hb =>
      cases hb with
      | @num n h1 =>
        refine ⟨ds, ?_, hd⟩
        have : pF (B.toD (.num n)) = false := by simp [B.toD, pF]; decide
        rw [List.map_cons, List.filter_cons_of_neg (by simpa using this)]
        exact e
      | @frm k d ps h1 h2 h3 =>
        refine ⟨formD k ps :: ds, ?_, fun x hx => ?_⟩
        · have : pF (B.toD (.frm k ps d)) = true := by simp [B.toD, pF]
          rw [List.map_cons, List.filter_cons_of_pos (by simpa using this), List.map_cons, e]
          rfl
        · rcases List.mem_cons.mp hx with rfl | hx
          · exact ⟨k, ps, h1, rfl⟩
          · exact hd x hx
    | @nd w bs h1 h2 h3 =>
      refine ⟨ds, ?_, hd⟩
      have : pF (B.toD (.nd w bs)) = false := by
        rcases h1 with (rfl | rfl | rfl) | rfl <;> simp [B.toD, pF] <;> decide
      rw [List.map_cons, List.filter_cons_of_neg (by simpa using this)]
      exact e
end K57
end
section
set_option Elab.async false
set_option linter.all false
set_option maxRecDepth 100000
set_option maxHeartbeats 4000000
set_option autoImplicit false
namespace K57
open PySem L2 PyProof.Rows PD
/-- ascending names out of two -/
inductive Ns : List D → Prop
  | n0 : Ns []
  | nx : Ns [.str X]
  | ny : Ns [.str Y]
  | nxy : Ns [.str X, .str Y]
theorem Ns.xy {ns : List D} (h : Ns ns) : ∀ d ∈ ns, isXY d := by
  intro d hd
  unfold isXY
  cases h <;> simp at hd <;> simp [hd]
theorem sort_names {kvs : List (D × T)} (h : NameD kvs) : ∃ ns, Ns ns ∧ dSorted [.dct .K (T.toKs kvs)] = some (.lst (ns.map T.sh)) := by
  cases h with
  | n0 => exact ⟨_, .n0, so0⟩
  | nx => exact ⟨_, .nx, so1X _⟩
  | ny => exact ⟨_, .ny, so1Y _⟩
  | nxy => exact ⟨_, .nxy, so2 _ _⟩
  | nyx => exact ⟨_, .nxy, so _ _⟩
theorem fNum : dEqX (.str "number") (.str "form") = some (.sh (.bl false)) := by kernel_rfl
theorem fFrm : dEqX (.str "form") (.str "form") = some (.sh (.bl true)) := by kernel_rfl
theorem e_names {b : B} (hb : Wf b) (hz : b.size ≤ 80000) {cs : CS} (hf : cs.all T.cellFlat = true) : ∃ ns, Ns ns ∧ m_names_of_bound [b.toD] cs = some (.lst (ns.map T.sh), cs) := by
  obtain ⟨os, bg, qA, hl, hR, hlen, h0⟩ := e_all (P := Wf) (fun b h => h) (fun b h => by
    cases h with
    | lf h => cases h <;> exact fun c hc => nomatch hc
    | nd h1 h2 h3 => exact h3) hb (by omega) hf
  have hC : eComp [2] (iSeq (eIx (eCall (m_all_parts) [] (aCons (eVar 0) aNil)) (eC (.int 0)))) (gN 2) (t2 dEqX (eIx (eVar 2) (eC (.int 0))) (eC (.str "form"))) (eIx (eVar 2) (eC (.int 1))) [some (.sh b.toD), none, none, none, none] cs = some (.lst (((os.map B.toD).filter pF).map gF), [some (.sh b.toD), none, none, none, none], cs) := by
    refine eComp_fil (by simp [iSeq, itemsOf, qA, i0, -List.map_map, runBody, sRet, sRetV, sRetN, sSeq, sIf, sAsg, sNext, sPar, sPar3, eAn, eOo, eNt, eIf, eN, eTup, eLst, e1, e2, t2, tV, tNt, tAn, tOo, eCh, tCh, aCons, aNil, eVar, eMov, eC, eIx, eSl, oNo, oAt, eCall, gN, gTpD, gConsD, gNilD, env0, keep_same, T.toD, T.toDs, dIsi, D.tyName, isKind, isAnyKind, D.isT, dLen, lenD, dEqX, dNeX, unlike, D.seqL, dEq, dNe, dEqv, D.isPy, D.isPys, D.py, D.pys, PyData.eqv, PyData.eqvAll, dNeg, dIx]) rfl fun d hd => ?_
    obtain ⟨c, hc, rfl⟩ := List.mem_map.mp hd
    have hw := hR c hc
    cases hw with
    | lf hw =>
      cases hw with
      | @num n h1 =>
        have hp : pF (B.toD (.num n)) = false := by simp [B.toD, pF]; decide
        rw [Turns, hp]
        refine ⟨_, [some (.sh b.toD), none, some (.sh (B.toD (.num n))), none, none], rfl, ?_, fun _ => rfl, fun z => by cases z⟩
        simp [B.toD, i0, fNum, keep, hf, T.flat, D.flat, gN, wipeE, t2, e2, eIx, eVar, eC, T.toD, dIx]
      | @frm k d ps h1 h2 h3 =>
        have hp : pF (B.toD (.frm k ps d)) = true := by simp [B.toD, pF]
        rw [Turns, hp]
        refine ⟨_, [some (.sh b.toD), none, some (.sh (B.toD (.frm k ps d))), none, none], rfl, ?_, fun z => (by cases z), fun _ => ⟨_, rfl, by rw [keep_same]; rfl⟩⟩
        simp [B.toD, j0, fFrm, keep, hf, T.flat, D.flat, gN, wipeE, t2, e2, eIx, eVar, eC, T.toD, dIx]
    | @nd w bs h1 h2 h3 =>
      have hp : pF (B.toD (.nd w bs)) = false := by
        rcases h1 with (rfl | rfl | rfl) | rfl <;> simp [B.toD, pF] <;> decide
      have hq : dEqX (.str w) (.str "form") = some (.sh (.bl false)) := by rcases h1 with (rfl | rfl | rfl) | rfl <;> kernel_rfl
      rw [Turns, hp]
      refine ⟨_, [some (.sh b.toD), none, some (.sh (B.toD (.nd w bs))), none, none], rfl, ?_, fun _ => rfl, fun z => by cases z⟩
      simp [B.toD, i0, hq, keep, hf, T.flat, D.flat, gN, wipeE, t2, e2, eIx, eVar, eC, T.toD, dIx]
  obtain ⟨ds, ed, hd⟩ := formsL hR
  rw [ed] at hC
  obtain ⟨kvs, e2', e3⟩ := compD2_names (some (.sh b.toD)) (some (.sh (.lst ds))) none hf ds [] hd .n0
  obtain ⟨ns, hns, es⟩ := sort_names e3
  refine ⟨ns, hns, ?_⟩
  have hD : eCompD2 [3, 4] [4] (iSeq (eVar 1)) (gN 3) tTrue (iSeq (eCall (m_names_in) [] (aCons (eVar 3) aNil))) (gN 4) tTrue (eVar 4) (eC (.bl true)) [some (.sh b.toD), some (.lst (ds.map T.sh)), none, none, none] cs = some (.dct .K kvs, [some (.sh b.toD), some (.sh (.lst ds)), none, none, none], cs) := by
    unfold eCompD2
    have hi : iSeq (eVar 1) [some (.sh b.toD), some (.lst (ds.map T.sh)), none, none, none] cs = some (ds, [some (.sh b.toD), some (.sh (.lst ds)), none, none, none], cs) := by
      simp [iSeq, itemsOf, eVar, T.toD, toDs_shD, -List.map_map]
    rw [hi]
    simp [ownOk, wipeE, e2', backE, List.range, List.range.loop]
  have e5 : b_names_of_bound = (sSeq (sAsg (eComp [2] (iSeq (eIx (eCall (m_all_parts) [] (aCons (eVar 0) aNil)) (eC (.int 0)))) (gN 2) (t2 dEqX (eIx (eVar 2) (eC (.int 0))) (eC (.str "form"))) (eIx (eVar 2) (eC (.int 1)))) (gN 1)) (sRet (eN dSorted (aCons (eCompD2 [3, 4] [4] (iSeq (eVar 1)) (gN 3) tTrue (iSeq (eCall (m_names_in) [] (aCons (eVar 3) aNil))) (gN 4) tTrue (eVar 4) (eC (.bl true))) aNil)))) := rfl
  have e6 := u_N (f := dSorted) (u_cons hD u_nil) es
  refine u_run (env1 := keep [some (.sh b.toD), some (.lst (ds.map T.sh)), none, none, none] [some (.sh b.toD), some (.sh (.lst ds)), none, none, none] (.lst (ns.map T.sh)) cs) (cs1 := cs) ?_
  rw [e5]
  exact (u_seq (u_asg hC rfl)).trans (u_ret e6)
/-! ### bound_at -/
structure NumL (num : D) (kvs : List (D × D)) (x y : Int) : Prop where
  told : ∀ cs : CS, Shape cs → m_are_told [num] cs = some (.sh (.bl true), cs)
  dict : dDict [num] = some (.dct .K (shK kvs))
  isin : ∀ d : D, isXY d → dIn d (.dct .K kvs) = some (.sh (.bl true))
  nums : Nums kvs x y
theorem toKs_shK (kvs : List (D × D)) : T.toKs (shK kvs) = kvs := by
  induction kvs with
  | nil => rfl
  | cons p r ih => simp [shK, T.toKs, T.toD] at ih ⊢; exact ih
theorem bls_true (n : Nat) : blsOf (List.replicate n (D.bl true)) = some (List.replicate n true) := by
  induction n with
  | zero => rfl
  | succ n ih => simp [List.replicate_succ, blsOf, ih]
theorem e_bound_at {b : B} {num : D} {kvs : List (D × D)} {x y : Int} (hr : Rk x y b) (hz : b.size ≤ 50000) (hn : NumL num kvs x y) {cs : CS} (hs : Shape cs) : m_bound_at [b.toD, num] cs = some (.sh (.int (valB x y b)), cs) := by
  have hf := hs.flat
  have q1 := ib_good hr.wf (by omega) cs hs
  have q2 := hn.told cs hs
  obtain ⟨ns, hns, q3⟩ := e_names hr.wf (by omega) hf
  have q4 := e_value_there hn.nums hr hz hf
  have q5 := hn.dict
  have hC : eComp [2] (iSeq (eCall (m_names_of_bound) [] (aCons (eVar 0) aNil))) (gN 2) tTrue (e2 dIn (eVar 2) (eN dDict (aCons (eVar 1) aNil))) [some (.sh b.toD), some (.sh num), none] cs = some (.lst (ns.map fun _ => T.sh (.bl true)), [some (.sh b.toD), some (.sh num), none], cs) := by
    refine eComp_map (by simp [iSeq, itemsOf, q3, toDs_shD, -List.map_map, runBody, sRet, sRetV, sRetN, sSeq, sIf, sAsg, sNext, sPar, sPar3, eAn, eOo, eNt, eIf, eN, eTup, eLst, e1, e2, t2, tV, tNt, tAn, tOo, eCh, tCh, aCons, aNil, eVar, eMov, eC, eIx, eSl, oNo, oAt, eCall, gN, gTpD, gConsD, gNilD, env0, keep_same, T.toD, T.toDs, dIsi, D.tyName, isKind, isAnyKind, D.isT, dLen, lenD, dEqX, dNeX, unlike, D.seqL, dEq, dNe, dEqv, D.isPy, D.isPys, D.py, D.pys, PyData.eqv, PyData.eqvAll, dNeg, dIx]) rfl fun d hd => ?_
    have q6 := hn.isin d (hns.xy d hd)
    refine ⟨_, [some (.sh b.toD), some (.sh num), some (.sh d)], rfl, ?_, rfl⟩
    simp [q5, toKs_shK, q6, wipeE, keep, hf, T.flat, D.flat, runBody, sRet, sRetV, sRetN, sSeq, sIf, sAsg, sNext, sPar, sPar3, eAn, eOo, eNt, eIf, eN, eTup, eLst, e1, e2, t2, tV, tNt, tAn, tOo, eCh, tCh, aCons, aNil, eVar, eMov, eC, eIx, eSl, oNo, oAt, eCall, gN, gTpD, gConsD, gNilD, env0, keep_same, T.toD, T.toDs, dIsi, D.tyName, isKind, isAnyKind, D.isT, dLen, lenD, dEqX, dNeX, unlike, D.seqL, dEq, dNe, dEqv, D.isPy, D.isPys, D.py, D.pys, PyData.eqv, PyData.eqvAll, dNeg, dIx]
  cases hns <;> simp only [List.map_cons, List.map_nil] at hC <;> simp [m_bound_at, b_bound_at, N_bound_at, q1, q2, hC, dAll, on1L, blsOf, q5, toKs_shK, q4, keep, hf, T.flat, D.flat, runBody, sRet, sRetV, sRetN, sSeq, sIf, sAsg, sNext, sPar, sPar3, eAn, eOo, eNt, eIf, eN, eTup, eLst, e1, e2, t2, tV, tNt, tAn, tOo, eCh, tCh, aCons, aNil, eVar, eMov, eC, eIx, eSl, oNo, oAt, eCall, gN, gTpD, gConsD, gNilD, env0, keep_same, T.toD, T.toDs, dIsi, D.tyName, isKind, isAnyKind, D.isT, dLen, lenD, dEqX, dNeX, unlike, D.seqL, dEq, dNe, dEqv, D.isPy, D.isPys, D.py, D.pys, PyData.eqv, PyData.eqvAll, dNeg, dIx]
end K57
end
section
set_option Elab.async false
set_option linter.all false
set_option maxRecDepth 100000
set_option maxHeartbeats 4000000
set_option autoImplicit false
namespace K57
open PySem L2 PyProof.Rows PD
/-! ### drawn bounds -/
def Mx : Nat → Int
  | 0 => 512
  | k + 1 => Mx k * Mx k * Mx k
theorem Mx_ge (k : Nat) : 512 ≤ Mx k := by
  induction k with
  | zero => exact Int.le_refl _
  | succ k ih =>
    have h1 : 512 * 512 ≤ Mx k * Mx k := Int.mul_le_mul ih ih (by omega) (by omega)
    have h2 : 512 * 512 * 512 ≤ Mx k * Mx k * Mx k := Int.mul_le_mul h1 ih (by omega) (by omega)
    show 512 ≤ Mx k * Mx k * Mx k
    omega
theorem Mx_le (k : Nat) : Mx k ≤ Mx (k + 1) := by
  have h := Mx_ge k
  have h1 : 1 * 1 ≤ Mx k * Mx k := Int.mul_le_mul (by omega) (by omega) (by omega) (by omega)
  have h2 : 1 * Mx k ≤ Mx k * Mx k * Mx k := Int.mul_le_mul (by omega) (Int.le_refl _) (by omega) (by omega)
  show Mx k ≤ Mx k * Mx k * Mx k
  omega
theorem max_def' (a b : Int) : max a b = if a ≤ b then b else a := Int.max_def a b
theorem join_le {w : Str} (hw : W3 w) {M : Int} (hM : 512 ≤ M) {vs : List Int} (hl : Few vs) (h : ∀ v ∈ vs, 0 ≤ v ∧ v ≤ M) : 0 ≤ joinP w vs ∧ joinP w vs ≤ M * M * M := by
  have h1 : 512 * M ≤ M * M := Int.mul_le_mul hM (Int.le_refl _) (by omega) (by omega)
  have h2 : 512 * M * 512 ≤ M * M * M := Int.mul_le_mul h1 hM (by omega) (by omega)
  have h3 : M * M * 1 ≤ M * M * M := Int.mul_le_mul (Int.le_refl _) (by omega) (by omega) (by omega)
  obtain ⟨l1, l2⟩ := hl
  match vs, l1, l2 with
  | [a], _, _ =>
    have ha := h a (by simp)
    rcases hw with rfl | rfl | rfl
    · simp [joinP, w2]; omega
    · simp [joinP, w4, w5]; omega
    · simp [joinP]; omega
  | [a, b], _, _ =>
    have ha := h a (by simp)
    have hb := h b (by simp)
    have q : a * b ≤ M * M := Int.mul_le_mul ha.2 hb.2 hb.1 (by omega)
    have q0 : 0 ≤ a * b := Int.mul_nonneg ha.1 hb.1
    rcases hw with rfl | rfl | rfl
    · simp [joinP, w2]; omega
    · simp [joinP, w4, w5]; omega
    · simp [joinP]; omega
  | [a, b, c], _, _ =>
    have ha := h a (by simp)
    have hb := h b (by simp)
    have hc := h c (by simp)
    have q : a * b ≤ M * M := Int.mul_le_mul ha.2 hb.2 hb.1 (by omega)
    have q0 : 0 ≤ a * b := Int.mul_nonneg ha.1 hb.1
    have q2 : a * b * c ≤ M * M * M := Int.mul_le_mul q hc.2 hc.1 (by omega)
    have q3 : 0 ≤ a * b * c := Int.mul_nonneg q0 hc.1
    rcases hw with rfl | rfl | rfl
    · simp [joinP, w2]; omega
    · simp [joinP, w4, w5]; omega
    · simp [joinP]; omega
theorem Nums.b {kvs : List (D × D)} {x y : Int} (h : Nums kvs x y) : (-10 ≤ x ∧ x ≤ 10) ∧ -10 ≤ y ∧ y ≤ 10 := ⟨h.bx, h.by_⟩
theorem few_of {x y : Int} {bs : List B} (h0 : bs ≠ []) (h : bs.length ≤ 3) : Few (valBs x y bs) := by
  rw [valBs_map]
  refine ⟨?_, by simpa using h⟩
  rw [List.length_map]
  exact List.length_pos_iff.mpr h0
theorem Mx2 : Mx 2 < 2 ^ 90 := by decide
theorem ct_node {f : Nat} {kvs : List (D × D)} {x y : Int} {w : Str} (hw : W3 w) {bs : List B} (h0 : bs ≠ []) (h3 : bs.length ≤ 3) (h : ∀ b ∈ bs, Ct f kvs b.toD (valB x y b)) (hs : ∀ b ∈ bs, (valB x y b).natAbs < 2 ^ 90) : Ct (f + 1) kvs (B.toD (.nd w bs)) (joinP w (valBs x y bs)) := by
  match bs, h0, h3 with
  | [b1], _, _ => exact ct_nd1 hw (h b1 (by simp)) ⟨⟨by simp, by simp⟩, fun v hv => by rw [List.mem_singleton.mp hv]; exact hs b1 (by simp)⟩
  | [b1, b2], _, _ => exact ct_nd2 hw (h b1 (by simp)) (h b2 (by simp)) ⟨⟨by simp, by simp⟩, fun v hv => by
      simp at hv
      rcases hv with rfl | rfl
      · exact hs b1 (by simp)
      · exact hs b2 (by simp)⟩
  | [b1, b2, b3], _, _ => exact ct_nd hw (h b1 (by simp)) (h b2 (by simp)) (h b3 (by simp)) ⟨⟨by simp, by simp⟩, fun v hv => by
      simp at hv
      rcases hv with rfl | rfl | rfl
      · exact hs b1 (by simp)
      · exact hs b2 (by simp)
      · exact hs b3 (by simp)⟩
theorem ct_phs {f : Nat} {kvs : List (D × D)} {x y : Int} {bs : List B} (h0 : bs ≠ []) (h3 : bs.length ≤ 3) (h : ∀ b ∈ bs, Ct f kvs b.toD (valB x y b)) (he : ∃ m, m ≤ 512 ∧ Ends m (valBs x y bs)) : Ct (f + 1) kvs (B.toD (.nd wPh bs)) (phs (valBs x y bs)) := by
  obtain ⟨p1, p2⟩ := phs_ok he
  match bs, h0, h3 with
  | [b1], _, _ => exact ct_ph1 (h b1 (by simp)) p2 p1
  | [b1, b2], _, _ => exact ct_ph2 (h b1 (by simp)) (h b2 (by simp)) p2 p1
  | [b1, b2, b3], _, _ => exact ct_ph3 (h b1 (by simp)) (h b2 (by simp)) (h b3 (by simp)) p2 p1
structure Drawn (k f : Nat) (kvs : List (D × D)) (x y : Int) (b : B) : Prop where
  rk : Rk x y b
  lo : 0 ≤ valB x y b
  hi : valB x y b ≤ Mx k
  ct : Ct f kvs b.toD (valB x y b)
theorem drawn_lf {k f : Nat} {kvs : List (D × D)} {x y : Int} (hn : Nums kvs x y) {b : B} (h : Lf b) : Drawn k (f + 1) kvs x y b := by
  have q := valL_le h hn.bx hn.by_
  have := Mx_ge k
  refine ⟨.lf h.lv, by rw [valB_lv h.lv]; omega, by rw [valB_lv h.lv]; omega, fun cs hf => ?_⟩
  rw [valB_lv h.lv]
  exact e_ctleaf h hn f hf
theorem drawn {kvs : List (D × D)} {x y : Int} (hn : Nums kvs x y) : ∀ {k : Nat} {b : B}, G k b → k ≤ 3 → ∀ f, k < f → Drawn k f kvs x y b := by
  intro k b h
  induction h with
  | lf h =>
    intro hk f hf
    obtain ⟨g, rfl⟩ : ∃ g, f = g + 1 := ⟨f - 1, by omega⟩
    exact drawn_lf hn h
  | @ph k bs h0 h3 h =>
    intro hk f hf
    obtain ⟨g, rfl⟩ : ∃ g, f = g + 2 := ⟨f - 2, by omega⟩
    have hd := fun b hb => drawn_lf (k := 0) (f := g) hn (h b hb)
    have hfew := few_of (x := x) (y := y) h0 h3
    have he : ∃ m, m ≤ 512 ∧ Ends m (valBs x y bs) := ends hfew fun v hv => by
      rw [valBs_map] at hv
      obtain ⟨b, hb, rfl⟩ := List.mem_map.mp hv
      rw [valB_lv (h b hb).lv]
      exact valL_le (h b hb) hn.bx hn.by_
    have ev : valB x y (.nd wPh bs) = (phs (valBs x y bs) : Int) := by simp [valB]
    have hp := (phs_ok he).1
    have hM := Mx_ge (k + 1)
    refine ⟨.ph hfew he fun b hb => (hd b hb).rk, by rw [ev]; omega, by rw [ev]; omega, ?_⟩
    rw [ev]
    exact ct_phs h0 h3 (fun b hb => (hd b hb).ct) he
  | @nd k w bs hw h0 h3 h ih =>
    intro hk f hf
    obtain ⟨g, rfl⟩ : ∃ g, f = g + 1 := ⟨f - 1, by omega⟩
    have hd := fun b hb => ih b hb (by omega) g (by omega)
    have hfew := few_of (x := x) (y := y) h0 h3
    have hw' : W3 w := hw
    have ev : valB x y (.nd w bs) = joinP w (valBs x y bs) := by
      have := hw'.ne
      simp [valB, this]
    have hM := Mx_ge k
    have hj := join_le hw' hM hfew fun v hv => by
      rw [valBs_map] at hv
      obtain ⟨b, hb, rfl⟩ := List.mem_map.mp hv
      exact ⟨(hd b hb).lo, (hd b hb).hi⟩
    have hm2 : Mx k < 2 ^ 90 := by
      have : k = 0 ∨ k = 1 ∨ k = 2 := by omega
      rcases this with rfl | rfl | rfl <;> decide
    have hs : ∀ b ∈ bs, (valB x y b).natAbs < 2 ^ 90 := fun b hb => by
      have h1 := (hd b hb).lo
      have h2 := (hd b hb).hi
      omega
    refine ⟨.nd hw' hfew (fun _ v hv => ?_) fun b hb => (hd b hb).rk, by rw [ev]; exact hj.1, by rw [ev]; exact hj.2, ?_⟩
    · rw [valBs_map] at hv
      obtain ⟨b, hb, rfl⟩ := List.mem_map.mp hv
      exact hs b hb
    · rw [ev]
      exact ct_node hw' h0 h3 (fun b hb => (hd b hb).ct) hs
mutual
def B.deep : B → Nat
  | .nd _ bs => B.deeps bs + 1
  | _ => 0
def B.deeps : List B → Nat
  | [] => 0
  | b :: bs => max b.deep (B.deeps bs)
end
def sizeMax : Nat → Nat
  | 0 => 1
  | k + 1 => 1 + 3 * sizeMax k
theorem sizes_le {N : Nat} {bs : List B} (h : ∀ b ∈ bs, b.size ≤ N) : B.sizes bs ≤ bs.length * N := by
  induction bs with
  | nil => simp [B.sizes]
  | cons b bs ih =>
    have h1 := h b List.mem_cons_self
    have h2 := ih fun c hc => h c (List.mem_cons_of_mem _ hc)
    simp only [B.sizes, List.length_cons, Nat.add_mul, Nat.one_mul]
    omega
theorem sizeMax_pos (k : Nat) : 1 ≤ sizeMax k := by cases k <;> simp [sizeMax]
theorem Lf.size {b : B} (h : Lf b) : b.size = 1 := by cases h <;> rfl
theorem G.size {k : Nat} {b : B} (h : G k b) : b.size ≤ sizeMax k := by
  induction h with
  | @lf k b h => rw [h.size]; exact sizeMax_pos k
  | @ph k bs h0 h3 h =>
    have := sizes_le (N := sizeMax k) fun b hb => by rw [(h b hb).size]; exact sizeMax_pos k
    have q : bs.length * sizeMax k ≤ 3 * sizeMax k := Nat.mul_le_mul_right _ h3
    simp only [B.size, sizeMax]
    omega
  | @nd k w bs hw h0 h3 h ih =>
    have := sizes_le (N := sizeMax k) ih
    have q : bs.length * sizeMax k ≤ 3 * sizeMax k := Nat.mul_le_mul_right _ h3
    simp only [B.size, sizeMax]
    omega
end K57
end
section
set_option Elab.async false
set_option linter.all false
set_option maxRecDepth 100000
set_option maxHeartbeats 4000000
set_option autoImplicit false
namespace K57
open PySem L2 PyProof.Rows PD
/-! ### the law's comparison -/
theorem ex_int (a : Int) (f : Nat) {cs : CS} (hf : cs.all T.cellFlat = true) : m_law_exact (f + 1) [.int a, .int a] cs = some (.sh (.bl true), cs) := by
  simp [m_law_exact, b_law_exact, N_law_exact, dIs, D.isNon, keep, hf, T.flat, D.flat, D.flats, runBody, sRet, sRetV, sRetN, sSeq, sIf, sAsg, sNext, sPar, sPar3, eAn, eOo, eNt, eIf, eN, eTup, eLst, e1, e2, t2, tV, tNt, tAn, tOo, eCh, tCh, aCons, aNil, eVar, eMov, eC, eIx, eSl, oNo, oAt, eCall, gN, gTpD, gConsD, gNilD, env0, keep_same, T.toD, T.toDs, dIsi, D.tyName, isKind, isAnyKind, D.isT, dLen, lenD, dEqX, dNeX, unlike, D.seqL, dEq, dNe, dEqv, D.isPy, D.isPys, D.py, D.pys, PyData.eqv, PyData.eqvAll, dNeg, dIx]
theorem ex_bl (a : Bool) (f : Nat) {cs : CS} (hf : cs.all T.cellFlat = true) : m_law_exact (f + 1) [.bl a, .bl a] cs = some (.sh (.bl true), cs) := by
  simp [m_law_exact, b_law_exact, N_law_exact, dIs, D.isNon, keep, hf, T.flat, D.flat, D.flats, runBody, sRet, sRetV, sRetN, sSeq, sIf, sAsg, sNext, sPar, sPar3, eAn, eOo, eNt, eIf, eN, eTup, eLst, e1, e2, t2, tV, tNt, tAn, tOo, eCh, tCh, aCons, aNil, eVar, eMov, eC, eIx, eSl, oNo, oAt, eCall, gN, gTpD, gConsD, gNilD, env0, keep_same, T.toD, T.toDs, dIsi, D.tyName, isKind, isAnyKind, D.isT, dLen, lenD, dEqX, dNeX, unlike, D.seqL, dEq, dNe, dEqv, D.isPy, D.isPys, D.py, D.pys, PyData.eqv, PyData.eqvAll, dNeg, dIx]
theorem ex_lst (f : Nat) {xs : List D} {cs : CS} (hf : cs.all T.cellFlat = true) (h : ∀ d ∈ xs, m_law_exact f [d, d] cs = some (.sh (.bl true), cs)) (hx : xs.length = 2 ∨ xs.length = 3) : m_law_exact (f + 1) [.lst xs, .lst xs] cs = some (.sh (.bl true), cs) := by
  match xs, hx with
  | [a, b], _ =>
    have q1 := h a (by simp)
    have q2 := h b (by simp)
    simp [m_law_exact, b_law_exact, N_law_exact, q1, q2, dAll, on1L, blsOf, eComp, compL, tTrue, iZp, pairsD, ownOk, wipeE, backE, List.range, List.range.loop, keep, hf, T.flat, D.flat, D.flats, runBody, sRet, sRetV, sRetN, sSeq, sIf, sAsg, sNext, sPar, sPar3, eAn, eOo, eNt, eIf, eN, eTup, eLst, e1, e2, t2, tV, tNt, tAn, tOo, eCh, tCh, aCons, aNil, eVar, eMov, eC, eIx, eSl, oNo, oAt, eCall, gN, gTpD, gConsD, gNilD, env0, keep_same, T.toD, T.toDs, dIsi, D.tyName, isKind, isAnyKind, D.isT, dLen, lenD, dEqX, dNeX, unlike, D.seqL, dEq, dNe, dEqv, D.isPy, D.isPys, D.py, D.pys, PyData.eqv, PyData.eqvAll, dNeg, dIx]
  | [a, b, c], _ =>
    have q1 := h a (by simp)
    have q2 := h b (by simp)
    have q3 := h c (by simp)
    simp [m_law_exact, b_law_exact, N_law_exact, q1, q2, q3, dAll, on1L, blsOf, eComp, compL, tTrue, iZp, pairsD, ownOk, wipeE, backE, List.range, List.range.loop, keep, hf, T.flat, D.flat, D.flats, runBody, sRet, sRetV, sRetN, sSeq, sIf, sAsg, sNext, sPar, sPar3, eAn, eOo, eNt, eIf, eN, eTup, eLst, e1, e2, t2, tV, tNt, tAn, tOo, eCh, tCh, aCons, aNil, eVar, eMov, eC, eIx, eSl, oNo, oAt, eCall, gN, gTpD, gConsD, gNilD, env0, keep_same, T.toD, T.toDs, dIsi, D.tyName, isKind, isAnyKind, D.isT, dLen, lenD, dEqX, dNeX, unlike, D.seqL, dEq, dNe, dEqv, D.isPy, D.isPys, D.py, D.pys, PyData.eqv, PyData.eqvAll, dNeg, dIx]
theorem ex3 (a : Int) {cs : CS} (hf : cs.all T.cellFlat = true) : m_law_exact FU [.lst [.int a, .int a, .int a], .lst [.int a, .int a, .int a]] cs = some (.sh (.bl true), cs) :=
  ex_lst 39 hf (fun d hd => by simp at hd; rw [hd]; exact ex_int a 38 hf) (.inr rfl)
theorem ex2 (a : Bool) {cs : CS} (hf : cs.all T.cellFlat = true) : m_law_exact FU [.lst [.bl a, .bl a], .lst [.bl a, .bl a]] cs = some (.sh (.bl true), cs) :=
  ex_lst 39 hf (fun d hd => by simp at hd; rw [hd]; exact ex_bl a 38 hf) (.inl rfl)
/-! ### the numbers -/
abbrev AA : Str := "aa"
abbrev ZZ : Str := "z"
abbrev num2 (x y : Int) : D := .lst [pairD (X, x), pairD (Y, y)]
abbrev num4 (x y : Int) : D := .lst [pairD (AA, 100000000000000000000), pairD (X, x), pairD (Y, y), pairD (ZZ, -7)]
abbrev kv2 (x y : Int) : List (D × D) := [(.str X, .int x), (.str Y, .int y)]
abbrev kv4 (x y : Int) : List (D × D) := [(.str AA, .int 100000000000000000000), (.str X, .int x), (.str Y, .int y), (.str ZZ, .int (-7))]
theorem numL2 {x y : Int} (hx : -10 ≤ x ∧ x ≤ 10) (hy : -10 ≤ y ∧ y ≤ 10) : NumL (num2 x y) (kv2 x y) x y where
  told := fun cs hs => by cases hs <;> kernel_rfl
  dict := by kernel_rfl
  isin := fun d hd => by rcases hd with rfl | rfl <;> kernel_rfl
  nums := ⟨by kernel_rfl, by kernel_rfl, hx, hy⟩
theorem numL4 {x y : Int} (hx : -10 ≤ x ∧ x ≤ 10) (hy : -10 ≤ y ∧ y ≤ 10) : NumL (num4 x y) (kv4 x y) x y where
  told := fun cs hs => by cases hs <;> kernel_rfl
  dict := by kernel_rfl
  isin := fun d hd => by rcases hd with rfl | rfl <;> kernel_rfl
  nums := ⟨by kernel_rfl, by kernel_rfl, hx, hy⟩
theorem le_xy (a b : Int) : leD (pairD (X, a)) (pairD (Y, b)) = true := by kernel_rfl
theorem le_xa (a b : Int) : leD (pairD (X, a)) (pairD (AA, b)) = false := by kernel_rfl
theorem le_ya (a b : Int) : leD (pairD (Y, a)) (pairD (AA, b)) = false := by kernel_rfl
theorem le_xz (a b : Int) : leD (pairD (X, a)) (pairD (ZZ, b)) = true := by kernel_rfl
theorem le_yz (a b : Int) : leD (pairD (Y, a)) (pairD (ZZ, b)) = true := by kernel_rfl
theorem le_az (a b : Int) : leD (pairD (AA, a)) (pairD (ZZ, b)) = true := by kernel_rfl
theorem so2p (x y : Int) : dSorted [num2 x y] = some (.lst [.sh (pairD (X, x)), .sh (pairD (Y, y))]) := by
  have e : [pairD (X, x), pairD (Y, y)].mergeSort leD = [pairD (X, x), pairD (Y, y)] := by
    simp [List.mergeSort, List.MergeSort.Internal.splitInTwo, List.merge, le_xy]
  have c : alikeL [pairD (X, x), pairD (Y, y)] = true ∧ sortable [pairD (X, x), pairD (Y, y)] = true ∧ D.isPys [pairD (X, x), pairD (Y, y)] 60 = true := ⟨by kernel_rfl, by kernel_rfl, by kernel_rfl⟩
  simp only [dSorted, D.seqL]
  rw [if_pos c, e]
  rfl
theorem so4p (x y a b : Int) : dSorted [.lst [pairD (X, x), pairD (Y, y), pairD (AA, a), pairD (ZZ, b)]] = some (.lst [.sh (pairD (AA, a)), .sh (pairD (X, x)), .sh (pairD (Y, y)), .sh (pairD (ZZ, b))]) := by
  have e : [pairD (X, x), pairD (Y, y), pairD (AA, a), pairD (ZZ, b)].mergeSort leD = [pairD (AA, a), pairD (X, x), pairD (Y, y), pairD (ZZ, b)] := by
    simp [List.mergeSort, List.MergeSort.Internal.splitInTwo, List.merge, le_xy, le_xa, le_ya, le_xz, le_yz, le_az]
  have c : alikeL [pairD (X, x), pairD (Y, y), pairD (AA, a), pairD (ZZ, b)] = true ∧ sortable [pairD (X, x), pairD (Y, y), pairD (AA, a), pairD (ZZ, b)] = true ∧ D.isPys [pairD (X, x), pairD (Y, y), pairD (AA, a), pairD (ZZ, b)] 60 = true := ⟨by kernel_rfl, by kernel_rfl, by kernel_rfl⟩
  simp only [dSorted, D.seqL]
  rw [if_pos c, e]
  rfl
theorem dm3 (a : Int) : dMul (.lst [.int a]) (.int 3) = some (.lst [.sh (.int a), .sh (.int a), .sh (.int a)]) := by kernel_rfl
theorem pw20 : dPow (.int 10) (.int 20) = some (.sh (.int 100000000000000000000)) := by kernel_rfl
theorem key_xy (x y : Int) : keysOfD [(.str X, .int x), (.str Y, .int y)] = some [(.inr X, .int x), (.inr Y, .int y)] := by kernel_rfl
theorem mg_xy (x y : Int) : shK (mergeD [] [(.inr X, .int x), (.inr Y, .int y)]) = [(.str X, .sh (.int x)), (.str Y, .sh (.int y))] := by kernel_rfl
theorem kok : (kv2 0 0).all (fun p => p.1.keyOk) = true := by kernel_rfl
theorem lkX (x y : Int) : look (.inr X) (kv2 x y) = some (.int x) := by kernel_rfl
theorem lkY (x y : Int) : look (.inr Y) (kv2 x y) = some (.int y) := by kernel_rfl
end K57
end
section
set_option Elab.async false
set_option linter.all false
set_option maxRecDepth 100000
set_option maxHeartbeats 4000000
set_option autoImplicit false
namespace K57
open PySem L2 PyProof.Rows PD
/-! ### the first loop of _law_right -/
def q1S : Sv := (sAsg (eDisp [((eC (.str "x")), (e2 dSub (eCall (m_law_draw) [] (aCons (eVar 0) (aCons (eC (.int 21)) aNil))) (eC (.int 10)))), ((eC (.str "y@")), (e2 dSub (eCall (m_law_draw) [] (aCons (eVar 0) (aCons (eC (.int 21)) aNil))) (eC (.int 10))))]) (gN 4))
def q2S : Sv := (sPar 5 6 (aCons (eCall (m_law_comes_to FU) [] (aCons (eVar 1) (aCons (eVar 4) aNil))) (aCons (eN dSorted (aCons (eLock 4 (eComp [7] (iKy 4) (gN 7) tTrue (eTup (aCons (eVar 7) (aCons (eIx (eVar 4) (eVar 7)) aNil))))) aNil)) aNil)))
def q3S : Sv := (sAsg (eN dSorted (aCons (eAdd (eVar 6) (eLst (aCons (eTup (aCons (eC (.str "aa")) (aCons (e2 dPow (eC (.int 10)) (eC (.int 20))) aNil))) (aCons (eTup (aCons (eC (.str "z")) (aCons (e2 dSub (eC (.int 0)) (eC (.int 7))) aNil))) aNil)))) aNil)) (gN 8))
def q4S : Sv := (sIf (tOo (tNt (tV (eCall (m_law_exact FU) [] (aCons (e2 dMul (eLst (aCons (eVar 5) aNil)) (eC (.int 3))) (aCons (eLst (aCons (eCall (m_bound_at) [] (aCons (eVar 1) (aCons (eVar 6) aNil))) (aCons (eCallK (m_bound_at) kw0_bound_at_numbers_bound aNil (aCons (eVar 6) (aCons (eVar 1) aNil))) (aCons (eCall (m_bound_at) [] (aCons (eVar 1) (aCons (eVar 8) aNil))) aNil)))) aNil))))) (t2 dLt (eVar 5) (eC (.int 0)))) (sRet (eC (.bl false))) sNext)
def q5S : Sv := (sIf (tOo (t2 dNeX (eCall (m_bound_at) [] (aCons (eTup (aCons (eC (.str "plus")) (aCons (eLst (aCons (eVar 1) (aCons (eTup (aCons (eC (.str "number")) (aCons (eC (.int 3)) aNil))) aNil))) aNil))) (aCons (eVar 6) aNil))) (eAdd (eVar 5) (eC (.int 3)))) (t2 dNeX (eCall (m_bound_at) [] (aCons (eTup (aCons (eC (.str "greatest")) (aCons (eLst (aCons (eVar 1) (aCons (eTup (aCons (eC (.str "number")) (aCons (eAdd (eVar 5) (eC (.int 2))) aNil))) aNil))) aNil))) (aCons (eVar 6) aNil))) (eAdd (eVar 5) (eC (.int 2))))) (sRet (eC (.bl false))) sNext)
variable {i : Ix} {n : Nat} {b : B} {nt : D} {u3 u4 u5 u6 u7 u8 u9 u10 : Option T} {cs : CS}
abbrev shD' (d : D) : Option T := some (.sh d)
theorem q1_ok (h : Ok n i cs) (hn : n < 2 ^ 49) : ∃ x y cs', q1S [shD' (.cell i), shD' b.toD, shD' nt, u3, u4, u5, u6, u7, u8, u9, u10] cs = some (.nx, [shD' (.cell i), shD' b.toD, shD' nt, u3, some (.dct .K [(.str X, .sh (.int x)), (.str Y, .sh (.int y))]), u5, u6, u7, u8, u9, u10], cs') ∧ (-10 ≤ x ∧ x ≤ 10) ∧ (-10 ≤ y ∧ y ≤ 10) ∧ Ok (n + 2) i cs' := by
  obtain ⟨r1, cs1, d1, r10, r11, ok1⟩ := e_draw (m := 21) h (by omega) (by decide) (by decide)
  obtain ⟨r2, cs2, d2, r20, r21, ok2⟩ := e_draw (m := 21) ok1 (by omega) (by decide) (by decide)
  refine ⟨r1 - 10, r2 - 10, cs2, ?_, by omega, by omega, ok2⟩
  have k := key_xy (r1 - 10) (r2 - 10)
  have m := mg_xy (r1 - 10) (r2 - 10)
  simp [q1S, eDisp, dispL, d1, d2, dSub, k, m, runBody, sRet, sRetV, sRetN, sSeq, sIf, sAsg, sNext, sPar, sPar3, eAn, eOo, eNt, eIf, eN, eTup, eLst, e1, e2, t2, tV, tNt, tAn, tOo, eCh, tCh, aCons, aNil, eVar, eMov, eC, eIx, eSl, oNo, oAt, eCall, gN, gTpD, gConsD, gNilD, env0, keep_same, T.toD, T.toDs, dIsi, D.tyName, isKind, isAnyKind, D.isT, dLen, lenD, dEqX, dNeX, unlike, D.seqL, dEq, dNe, dEqv, D.isPy, D.isPys, D.py, D.pys, PyData.eqv, PyData.eqvAll, dNeg, dIx]
theorem q2_ok {x y v : Int} {d7 : Option D} (hc : Ct FU (kv2 x y) b.toD v) (hf : cs.all T.cellFlat = true) : q2S [shD' (.cell i), shD' b.toD, shD' nt, u3, some (.dct .K [(.str X, .sh (.int x)), (.str Y, .sh (.int y))]), u5, u6, d7.map .sh, u8, u9, u10] cs = some (.nx, [shD' (.cell i), shD' b.toD, shD' nt, u3, shD' (.dct .K (kv2 x y)), shD' (.int v), some (.lst [.sh (pairD (X, x)), .sh (pairD (Y, y))]), d7.map .sh, u8, u9, u10], cs) := by
  have q := hc cs hf
  have e1' := so2p x y
  have l1 := lkX x y
  have l2 := lkY x y
  have e0 : T.toKs [(D.str X, T.sh (.int x)), (D.str Y, T.sh (.int y))] = kv2 x y := rfl
  have c0 : 2 ≤ sizeLine := by decide
  have k1 : D.keyOk (.str X) = true := by kernel_rfl
  have k2 : D.keyOk (.str Y) = true := by kernel_rfl
  cases d7 <;> simp [q2S, q, e0, eLock, eComp, compL, iKy, c0, k1, k2, ownOk, wipeE, backE, List.range, List.range.loop, tTrue, D.key?, l1, l2, e1', keep, hf, T.flat, D.flat, D.flats, runBody, sRet, sRetV, sRetN, sSeq, sIf, sAsg, sNext, sPar, sPar3, eAn, eOo, eNt, eIf, eN, eTup, eLst, e1, e2, t2, tV, tNt, tAn, tOo, eCh, tCh, aCons, aNil, eVar, eMov, eC, eIx, eSl, oNo, oAt, eCall, gN, gTpD, gConsD, gNilD, env0, keep_same, T.toD, T.toDs, dIsi, D.tyName, isKind, isAnyKind, D.isT, dLen, lenD, dEqX, dNeX, unlike, D.seqL, dEq, dNe, dEqv, D.isPy, D.isPys, D.py, D.pys, PyData.eqv, PyData.eqvAll, dNeg, dIx]
theorem q3_ok {x y v : Int} {d7 : Option D} (hf : cs.all T.cellFlat = true) : q3S [shD' (.cell i), shD' b.toD, shD' nt, u3, u4, u5, some (.lst [.sh (pairD (X, x)), .sh (pairD (Y, y))]), u7, u8, u9, u10] cs = some (.nx, [shD' (.cell i), shD' b.toD, shD' nt, u3, u4, u5, shD' (num2 x y), u7, some (.lst [.sh (pairD (AA, 100000000000000000000)), .sh (pairD (X, x)), .sh (pairD (Y, y)), .sh (pairD (ZZ, -7))]), u9, u10], cs) := by
  have e1' := so4p x y 100000000000000000000 (-7)
  have c0 : 4 ≤ sizeLine := by decide
  simp [q3S, pw20, dSub, eAdd, catS, catL, c0, e1', keep, hf, T.flat, D.flat, D.flats, runBody, sRet, sRetV, sRetN, sSeq, sIf, sAsg, sNext, sPar, sPar3, eAn, eOo, eNt, eIf, eN, eTup, eLst, e1, e2, t2, tV, tNt, tAn, tOo, eCh, tCh, aCons, aNil, eVar, eMov, eC, eIx, eSl, oNo, oAt, eCall, gN, gTpD, gConsD, gNilD, env0, keep_same, T.toD, T.toDs, dIsi, D.tyName, isKind, isAnyKind, D.isT, dLen, lenD, dEqX, dNeX, unlike, D.seqL, dEq, dNe, dEqv, D.isPy, D.isPys, D.py, D.pys, PyData.eqv, PyData.eqvAll, dNeg, dIx]
theorem q4_ok {x y v : Int} (hv : 0 ≤ v) (h2 : ∀ cs, Shape cs → m_bound_at [b.toD, num2 x y] cs = some (.sh (.int v), cs)) (h4 : ∀ cs, Shape cs → m_bound_at [b.toD, num4 x y] cs = some (.sh (.int v), cs)) (hs : Shape cs) : q4S [shD' (.cell i), shD' b.toD, shD' nt, u3, u4, shD' (.int v), shD' (num2 x y), u7, some (.lst [.sh (pairD (AA, 100000000000000000000)), .sh (pairD (X, x)), .sh (pairD (Y, y)), .sh (pairD (ZZ, -7))]), u9, u10] cs = some (.nx, [shD' (.cell i), shD' b.toD, shD' nt, u3, u4, shD' (.int v), shD' (num2 x y), u7, some (.lst [.sh (pairD (AA, 100000000000000000000)), .sh (pairD (X, x)), .sh (pairD (Y, y)), .sh (pairD (ZZ, -7))]), u9, u10], cs) := by
  have q2 := h2 cs hs
  have q4 := h4 cs hs
  have qe := ex3 v hs.flat
  have eo : ordL kw0_bound_at_numbers_bound ([] : List D) [num2 x y, b.toD] = [b.toD, num2 x y] := rfl
  have hv' : ¬ v < 0 := by omega
  simp [q4S, eCallK, eo, dm3, q2, q4, qe, dLt, hv', keep, hs.flat, T.flat, D.flat, D.flats, runBody, sRet, sRetV, sRetN, sSeq, sIf, sAsg, sNext, sPar, sPar3, eAn, eOo, eNt, eIf, eN, eTup, eLst, e1, e2, t2, tV, tNt, tAn, tOo, eCh, tCh, aCons, aNil, eVar, eMov, eC, eIx, eSl, oNo, oAt, eCall, gN, gTpD, gConsD, gNilD, env0, keep_same, T.toD, T.toDs, dIsi, D.tyName, isKind, isAnyKind, D.isT, dLen, lenD, dEqX, dNeX, unlike, D.seqL, dEq, dNe, dEqv, D.isPy, D.isPys, D.py, D.pys, PyData.eqv, PyData.eqvAll, dNeg, dIx]
theorem q5_ok {x y v : Int} (h2 : ∀ cs, Shape cs → m_bound_at [.tup .ex [.str wPl, .lst [b.toD, .tup .ex [.str "number", .int 3]]], num2 x y] cs = some (.sh (.int (v + 3)), cs)) (h4 : ∀ cs, Shape cs → m_bound_at [.tup .ex [.str wGr, .lst [b.toD, .tup .ex [.str "number", .int (v + 2)]]], num2 x y] cs = some (.sh (.int (v + 2)), cs)) (hs : Shape cs) : q5S [shD' (.cell i), shD' b.toD, shD' nt, u3, u4, shD' (.int v), shD' (num2 x y), u7, u8, u9, u10] cs = some (.nx, [shD' (.cell i), shD' b.toD, shD' nt, u3, u4, shD' (.int v), shD' (num2 x y), u7, u8, u9, u10], cs) := by
  have q2 := h2 cs hs
  have q4 := h4 cs hs
  simp [q5S, q2, q4, eAdd, catI, dAdd, keep, hs.flat, T.flat, D.flat, D.flats, runBody, sRet, sRetV, sRetN, sSeq, sIf, sAsg, sNext, sPar, sPar3, eAn, eOo, eNt, eIf, eN, eTup, eLst, e1, e2, t2, tV, tNt, tAn, tOo, eCh, tCh, aCons, aNil, eVar, eMov, eC, eIx, eSl, oNo, oAt, eCall, gN, gTpD, gConsD, gNilD, env0, keep_same, T.toD, T.toDs, dIsi, D.tyName, isKind, isAnyKind, D.isT, dLen, lenD, dEqX, dNeX, unlike, D.seqL, dEq, dNe, dEqv, D.isPy, D.isPys, D.py, D.pys, PyData.eqv, PyData.eqvAll, dNeg, dIx]
end K57
end
section
set_option Elab.async false
set_option linter.all false
set_option maxRecDepth 100000
set_option maxHeartbeats 4000000
set_option autoImplicit false
namespace K57
open PySem L2 PyProof.Rows PD
def b1S : Sv := sSeq q1S (sSeq q2S (sSeq q3S (sSeq q4S q5S)))
variable {i : Ix} {n : Nat} {b : B} {nt : D} {cs : CS}
theorem b1_ok (hb : G 3 b) (u3 u4 u5 u6 u8 u9 u10 : Option T) (d7 : Option D) (h : Ok n i cs) (hn : n < 2 ^ 48) : ∃ v4 v5 v6 v8 cs', b1S [shD' (.cell i), shD' b.toD, shD' nt, u3, u4, u5, u6, d7.map .sh, u8, u9, u10] cs = some (.nx, [shD' (.cell i), shD' b.toD, shD' nt, u3, v4, v5, v6, d7.map .sh, v8, u9, u10], cs') ∧ Ok (n + 2) i cs' := by
  obtain ⟨x, y, cs', e1', hx, hy, ok⟩ := q1_ok (b := b) (nt := nt) (u3 := u3) (u4 := u4) (u5 := u5) (u6 := u6) (u7 := d7.map .sh) (u8 := u8) (u9 := u9) (u10 := u10) h (by omega)
  have hs := ok.sh
  have hf := ok.flat
  have n2 := numL2 hx hy
  have n4 := numL4 hx hy
  have D3 := drawn n2.nums hb (by omega) FU (by decide)
  have hsz := hb.size
  have e38 : sizeMax 3 = 40 := rfl
  rw [e38] at hsz
  have r4 : Rk x y b := D3.rk
  have qa : ∀ cs, Shape cs → m_bound_at [b.toD, num2 x y] cs = some (.sh (.int (valB x y b)), cs) := fun cs hs => e_bound_at r4 (by omega) n2 hs
  have qb : ∀ cs, Shape cs → m_bound_at [b.toD, num4 x y] cs = some (.sh (.int (valB x y b)), cs) := fun cs hs => e_bound_at r4 (by omega) n4 hs
  have vP : valB x y (.nd wPl [b, .num 3]) = valB x y b + 3 := by
    have : wPl ≠ wPh := by decide
    simp [valB, valBs, this, joinP, w2]
  have vG : valB x y (.nd wGr [b, .num (valB x y b + 2)]) = valB x y b + 2 := by
    have : wGr ≠ wPh := by decide
    simp [valB, valBs, this, joinP]
    omega
  have kP : Rk x y (.nd wPl [b, .num 3]) := .nd (.inl rfl) (few_of (by simp) (by simp)) (fun z => absurd z (by decide)) fun c hc => by
    simp at hc
    rcases hc with rfl | rfl
    · exact r4
    · exact .lf (.num (by omega))
  have kG : Rk x y (.nd wGr [b, .num (valB x y b + 2)]) := .nd (.inr (.inr rfl)) (few_of (by simp) (by simp)) (fun z => absurd z (by decide)) fun c hc => by
    simp at hc
    rcases hc with rfl | rfl
    · exact r4
    · exact .lf (.num (by have := D3.lo; omega))
  have qP : ∀ cs, Shape cs → m_bound_at [.tup .ex [.str wPl, .lst [b.toD, .tup .ex [.str "number", .int 3]]], num2 x y] cs = some (.sh (.int (valB x y b + 3)), cs) := fun cs hs => by
    have q := e_bound_at kP (by simp [B.size, B.sizes]; omega) n2 hs
    rw [vP] at q
    exact q
  have qG : ∀ cs, Shape cs → m_bound_at [.tup .ex [.str wGr, .lst [b.toD, .tup .ex [.str "number", .int (valB x y b + 2)]]], num2 x y] cs = some (.sh (.int (valB x y b + 2)), cs) := fun cs hs => by
    have q := e_bound_at kG (by simp [B.size, B.sizes]; omega) n2 hs
    rw [vG] at q
    exact q
  have g2 := q2_ok (i := i) (b := b) (nt := nt) (u3 := u3) (u5 := u5) (u6 := u6) (u8 := u8) (u9 := u9) (u10 := u10) (d7 := d7) D3.ct hf
  have g3 := q3_ok (i := i) (b := b) (nt := nt) (u3 := u3) (u4 := shD' (.dct .K (kv2 x y))) (u5 := shD' (.int (valB x y b))) (u7 := d7.map .sh) (u8 := u8) (u9 := u9) (u10 := u10) (x := x) (y := y) (v := 0) (d7 := d7) hf
  have g4 := q4_ok (i := i) (b := b) (nt := nt) (u3 := u3) (u4 := shD' (.dct .K (kv2 x y))) (u7 := d7.map .sh) (u9 := u9) (u10 := u10) D3.lo qa qb hs
  have g5 := q5_ok (i := i) (b := b) (nt := nt) (u3 := u3) (u4 := shD' (.dct .K (kv2 x y))) (u7 := d7.map .sh) (u8 := some (.lst [.sh (pairD (AA, 100000000000000000000)), .sh (pairD (X, x)), .sh (pairD (Y, y)), .sh (pairD (ZZ, -7))])) (u9 := u9) (u10 := u10) qP qG hs
  exact ⟨_, _, _, _, cs', (u_seq e1').trans ((u_seq g2).trans ((u_seq g3).trans ((u_seq g4).trans g5))), ok⟩
theorem l1_ok (hb : G 3 b) (u3 u4 u5 u6 u8 u9 u10 : Option T) (d7 : Option D) (h : Ok n i cs) (hn : n < 2 ^ 47) : ∃ v3 v4 v5 v6 v8 cs', sFor (iRg1 (aCons (eC (.int 3)) aNil)) (gN 3) b1S [shD' (.cell i), shD' b.toD, shD' nt, u3, u4, u5, u6, d7.map .sh, u8, u9, u10] cs = some (.nx, [shD' (.cell i), shD' b.toD, shD' nt, v3, v4, v5, v6, d7.map .sh, v8, u9, u10], cs') ∧ Ok (n + 6) i cs' := by
  obtain ⟨env', cs', eF, v3, v4, v5, v6, v8, rfl, ok⟩ := forL_run (tg := gN 3) (b := b1S) (ds := [.int 0, .int 1, .int 2]) (i := 0) (env := [shD' (.cell i), shD' b.toD, shD' nt, u3, u4, u5, u6, d7.map .sh, u8, u9, u10]) (cs := cs)
    (J := fun k env cs1 => ∃ v3 v4 v5 v6 v8, env = [shD' (.cell i), shD' b.toD, shD' nt, v3, v4, v5, v6, d7.map .sh, v8, u9, u10] ∧ Ok (n + 2 * k) i cs1)
    (fun j d hd env cs1 hJ => by
      obtain ⟨v3, v4, v5, v6, v8, rfl, ok⟩ := hJ
      have hj : j < 3 := (List.getElem?_eq_some_iff.mp hd).1
      obtain ⟨w4, w5, w6, w8, cs2, e, ok2⟩ := b1_ok (nt := nt) hb (shD' d) v4 v5 v6 v8 u9 u10 d7 ok (by omega)
      exact ⟨_, _, cs2, rfl, e, _, _, _, _, _, rfl, ok2.mono (by omega)⟩) ⟨_, _, _, _, _, rfl, h⟩
  refine ⟨v3, v4, v5, v6, v8, cs', ?_, ok⟩
  rw [u_for (ds := [.int 0, .int 1, .int 2]) (env1 := [shD' (.cell i), shD' b.toD, shD' nt, u3, u4, u5, u6, d7.map .sh, u8, u9, u10]) (cs1 := cs)]
  · exact eF
  · simp [iRg1, intsD, List.range, List.range.loop, runBody, sRet, sRetV, sRetN, sSeq, sIf, sAsg, sNext, sPar, sPar3, eAn, eOo, eNt, eIf, eN, eTup, eLst, e1, e2, t2, tV, tNt, tAn, tOo, eCh, tCh, aCons, aNil, eVar, eMov, eC, eIx, eSl, oNo, oAt, eCall, gN, gTpD, gConsD, gNilD, env0, keep_same, T.toD, T.toDs, dIsi, D.tyName, isKind, isAnyKind, D.isT, dLen, lenD, dEqX, dNeX, unlike, D.seqL, dEq, dNe, dEqv, D.isPy, D.isPys, D.py, D.pys, PyData.eqv, PyData.eqvAll, dNeg, dIx]
end K57
end
section
set_option Elab.async false
set_option linter.all false
set_option maxRecDepth 100000
set_option maxHeartbeats 4000000
set_option autoImplicit false
namespace K57
open PySem PySem.Spec L2 PyProof.Rows PD
/-! ### what repr can show -/
mutual
theorem isPy_mono : ∀ (d : D) {n m : Nat}, n ≤ m → d.isPy n = true → d.isPy m = true
  | .non, _, _, _, _ => rfl
  | .bl _, _, _, _, _ => rfl
  | .int _, _, _, _, _ => rfl
  | .str _, _, _, _, _ => rfl
  | .tup _ xs, 0, _, _, h => by simp [D.isPy] at h
  | .tup _ xs, n + 1, 0, hm, _ => absurd hm (by omega)
  | .tup _ xs, n + 1, m + 1, hm, h => by simp only [D.isPy] at h ⊢; exact isPys_mono xs (by omega) h
  | .lst xs, 0, _, _, h => by simp [D.isPy] at h
  | .lst xs, n + 1, 0, hm, _ => absurd hm (by omega)
  | .lst xs, n + 1, m + 1, hm, h => by simp only [D.isPy] at h ⊢; exact isPys_mono xs (by omega) h
  | .rlst xs, 0, _, _, h => by simp [D.isPy] at h
  | .rlst xs, n + 1, 0, hm, _ => absurd hm (by omega)
  | .rlst xs, n + 1, m + 1, hm, h => by simp only [D.isPy] at h ⊢; exact isPys_mono xs (by omega) h
  | .dct _ _, _, _, _, h => by simp [D.isPy] at h
  | .fn _, _, _, _, h => by simp [D.isPy] at h
  | .ty _, _, _, _, h => by simp [D.isPy] at h
  | .cell _, _, _, _, h => by simp [D.isPy] at h
  | .rep _, _, _, _, h => by simp [D.isPy] at h
theorem isPys_mono : ∀ (xs : List D) {n m : Nat}, n ≤ m → D.isPys xs n = true → D.isPys xs m = true
  | [], _, _, _, _ => rfl
  | d :: ds, _, _, hm, h => by
    simp only [D.isPys, Bool.and_eq_true] at h ⊢
    exact ⟨isPy_mono d hm h.1, isPys_mono ds hm h.2⟩
end
structure RpD (n N : Nat) (d : D) : Prop where
  py : d.isPy n = true
  lay : d.py.canLay0 = true
  sh : d.py.showable = true
  w : pw d.py ≤ N
theorem RpD.mono {n N m M : Nat} {d : D} (h : RpD n N d) (hn : n ≤ m) (hN : N ≤ M) : RpD m M d := ⟨isPy_mono d hn h.py, h.lay, h.sh, Nat.le_trans h.w hN⟩
theorem rps {n N : Nat} : ∀ {xs : List D}, (∀ d ∈ xs, RpD n N d) → D.isPys xs n = true ∧ PyData.canLayAll0 (D.pys xs) = true ∧ PyData.showableAll (D.pys xs) = true ∧ pws (D.pys xs) ≤ xs.length * (N + 2)
  | [], _ => ⟨rfl, rfl, rfl, by simp [D.pys, pws]⟩
  | d :: ds, h => by
    have h1 := h d List.mem_cons_self
    obtain ⟨a, b, c, e⟩ := rps (xs := ds) fun x hx => h x (List.mem_cons_of_mem _ hx)
    refine ⟨by simp [D.isPys, h1.py, a], by simp [D.pys, PyData.canLayAll0, h1.lay, b], by simp [D.pys, PyData.showableAll, h1.sh, c], ?_⟩
    have := h1.w
    simp only [D.pys, pws, List.length_cons, Nat.add_mul, Nat.one_mul]
    omega
theorem rp_tup {n N : Nat} {t : TK} {xs : List D} (h : ∀ d ∈ xs, RpD n N d) (L : Nat) (hl : xs.length ≤ L) : RpD (n + 1) (L * (N + 2) + 3) (.tup t xs) := by
  obtain ⟨a, b, c, e⟩ := rps h
  have q : xs.length * (N + 2) ≤ L * (N + 2) := Nat.mul_le_mul_right _ hl
  exact ⟨by simpa [D.isPy] using a, by simpa [D.py, PyData.canLay0] using b, by simpa [D.py, PyData.showable] using c, by simp only [D.py, pw]; omega⟩
theorem rp_lst {n N : Nat} {xs : List D} (h : ∀ d ∈ xs, RpD n N d) (L : Nat) (hl : xs.length ≤ L) : RpD (n + 1) (L * (N + 2) + 3) (.lst xs) := by
  obtain ⟨a, b, c, e⟩ := rps h
  have q : xs.length * (N + 2) ≤ L * (N + 2) := Nat.mul_le_mul_right _ hl
  exact ⟨by simpa [D.isPy] using a, by simpa [D.py, PyData.canLay0] using b, by simpa [D.py, PyData.showable] using c, by simp only [D.py, pw]; omega⟩
theorem rp_int {i : Int} (h : i.natAbs < 2 ^ 1000) : RpD 0 1921 (.int i) := by
  refine ⟨rfl, rfl, ?_, by simp [D.py, pw]⟩
  have := log2_lt' h (by decide)
  simp only [D.py, PyData.showable, decide_eq_true_eq]
  omega
theorem small {i : Int} (h : -1000 < i ∧ i < 1000) : i.natAbs < 2 ^ 1000 := Nat.lt_of_lt_of_le (show i.natAbs < 2 ^ 10 by omega) (Nat.pow_le_pow_right (by decide) (by decide))
theorem rp_repr {n N : Nat} {d : D} (h : RpD n N d) (hn : n ≤ 60) (hN : N ≤ 16000000) : ∃ p, dRepr [d] = some (.sh (.rep p)) := by
  have hp := isPy_mono d hn h.py
  have hl := shown_le d.py h.lay h.sh
  have hw := h.w
  have e : reprOf d = some d.py := by
    unfold reprOf
    split
    · simp [D.isPy] at hp
    · rw [if_pos hp]
  refine ⟨d.py, ?_⟩
  unfold dRepr
  simp only [e]
  rw [if_pos ⟨h.sh, by rw [sizeLine_eq]; omega⟩]
theorem rp_str (x : Str) (h : x.length ≤ 100) (ho : PyData.strOk x = true) : RpD 0 1921 (.str x) := by
  refine ⟨rfl, by simpa [D.py, PyData.canLay0] using ho, rfl, ?_⟩
  simp only [D.py, pw]
  omega
theorem rp_s1 : RpD 0 1921 (.str X) := rp_str _ (by decide) (by decide +kernel)
theorem rp_s2 : RpD 0 1921 (.str Y) := rp_str _ (by decide) (by decide +kernel)
theorem rp_w {w : Str} (hw : W3 w ∨ w = wPh) : RpD 0 1921 (.str w) := by
  rcases hw with (rfl | rfl | rfl) | rfl <;> exact rp_str _ (by decide) (by decide +kernel)
theorem rp_ps {ps : List (Str × Int)} (h : OkPs ps) : ∀ d ∈ ps.map pairD, RpD 1 (2 * (1921 + 2) + 3) d := by
  have two : ∀ (x : Str) (f : Int), RpD 0 1921 (.str x) → okF f → RpD 1 (2 * (1921 + 2) + 3) (pairD (x, f)) := fun x f hx hf => by
    refine rp_tup (N := 1921) (n := 0) (fun d hd => ?_) 2 (by simp)
    simp at hd
    rcases hd with rfl | rfl
    · exact hx
    · exact rp_int (small (by unfold okF at hf; omega))
  intro d hd
  cases h with
  | nil => cases hd
  | x h1 => simp at hd; rw [hd]; exact two _ _ rp_s1 h1
  | y h1 => simp at hd; rw [hd]; exact two _ _ rp_s2 h1
  | xy h1 h2 =>
    simp at hd
    rcases hd with rfl | rfl
    · exact two _ _ rp_s1 h1
    · exact two _ _ rp_s2 h2
theorem ps_len {ps : List (Str × Int)} (h : OkPs ps) : ps.length ≤ 2 := by cases h <;> simp
theorem rp_formD {k : Int} {ps : List (Str × Int)} (hk : -6 ≤ k ∧ k ≤ 6) (h : OkPs ps) : RpD 3 20000 (formD k ps) := by
  refine (rp_tup (n := 2) (N := 2 * (2 * (1921 + 2) + 3 + 2) + 3) (fun d hd => ?_) 2 (by simp)).mono (by omega) (by omega)
  simp at hd
  rcases hd with rfl | rfl
  · exact (rp_int (small (by omega))).mono (by omega) (by omega)
  · exact rp_tup (rp_ps h) 2 (by simpa using ps_len h)
/-- the parts of a bound's tuple -/
def comps : B → List D
  | .num n => [.str "number", .int n]
  | .frm k ps d => [.str "form", formD k ps, .int d]
  | .nd w bs => [.str w, .lst (B.toDs bs)]
theorem toD_comps (b : B) : b.toD = .tup .ex (comps b) := by cases b <;> rfl
theorem rp_sN : RpD 0 1921 (.str "number") := rp_str _ (by decide) (by decide +kernel)
theorem rp_sF : RpD 0 1921 (.str "form") := rp_str _ (by decide) (by decide +kernel)
def Wk : Nat → Nat
  | 0 => 70000
  | k + 1 => 3 * Wk k + 2000
theorem Wk_ge (k : Nat) : 70000 ≤ Wk k := by
  induction k with
  | zero => exact Nat.le_refl _
  | succ k ih => simp only [Wk]; omega
theorem rp_leaf {b : B} (h : Lf b) : ∀ d ∈ comps b, RpD 3 20000 d := by
  intro d hd
  cases h with
  | @num n h1 h2 =>
    simp [comps] at hd
    rcases hd with rfl | rfl
    · exact rp_sN.mono (by omega) (by omega)
    · exact (rp_int (small (by omega))).mono (by omega) (by omega)
  | @frm k e ps h1 h2 h3 h4 h5 =>
    simp [comps] at hd
    rcases hd with rfl | rfl | rfl
    · exact rp_sF.mono (by omega) (by omega)
    · exact rp_formD ⟨h1, h2⟩ h3
    · exact (rp_int (small (by omega))).mono (by omega) (by omega)
theorem comps_len (b : B) : (comps b).length ≤ 3 := by cases b <;> simp [comps]
theorem rp_lf {b : B} (h : Lf b) : RpD 4 70000 b.toD := by
  rw [toD_comps]
  exact (rp_tup (rp_leaf h) 3 (comps_len b)).mono (by omega) (by omega)
theorem rp_two {n Na Nb : Nat} {t : TK} {a b : D} (ha : RpD n Na a) (hb : RpD n Nb b) : RpD (n + 1) (Na + Nb + 7) (.tup t [a, b]) := by
  have h1 := ha.w
  have h2 := hb.w
  exact ⟨by simp [D.isPy, D.isPys, ha.py, hb.py], by simp [D.py, D.pys, PyData.canLay0, PyData.canLayAll0, ha.lay, hb.lay], by simp [D.py, D.pys, PyData.showable, PyData.showableAll, ha.sh, hb.sh], by simp only [D.py, D.pys, pw, pws]; omega⟩
theorem rp_kids {k n : Nat} {bs : List B} (h3 : bs.length ≤ 3) (h : ∀ b ∈ bs, RpD n (Wk k) b.toD) : RpD (n + 1) (3 * (Wk k + 2) + 3) (.lst (bs.map B.toD)) := by
  refine rp_lst (fun d hd => ?_) 3 (by simpa using h3)
  obtain ⟨b, hb, rfl⟩ := List.mem_map.mp hd
  exact h b hb
theorem rp_node {k n : Nat} {w : Str} (hw : W3 w ∨ w = wPh) {bs : List B} (h3 : bs.length ≤ 3) (h : ∀ b ∈ bs, RpD n (Wk k) b.toD) : RpD (n + 2) (Wk (k + 1)) (B.toD (.nd w bs)) := by
  rw [B.toD_nd]
  exact (rp_two (n := n + 1) ((rp_w hw).mono (by omega) (Nat.le_refl _)) (rp_kids h3 h)).mono (by omega) (by simp only [Wk]; omega)
theorem rp_G {k : Nat} {b : B} (h : G k b) : RpD (2 * k + 4) (Wk k) b.toD := by
  induction h with
  | @lf k b h => exact (rp_lf h).mono (by omega) (Wk_ge k)
  | @ph k bs h0 h3 h => exact (rp_node (n := 2 * k + 4) (.inr rfl) h3 fun b hb => (rp_lf (h b hb)).mono (by omega) (Wk_ge k)).mono (by omega) (Nat.le_refl _)
  | @nd k w bs hw h0 h3 h ih => exact (rp_node (n := 2 * k + 4) (.inl hw) h3 ih).mono (by omega) (Nat.le_refl _)
end K57
end
section
set_option Elab.async false
set_option linter.all false
set_option maxRecDepth 100000
set_option maxHeartbeats 4000000
set_option autoImplicit false
namespace K57
open PySem PySem.Spec L2 PyProof.Rows PD
/-! ### bent bounds -/
theorem eqI (a b : Int) : dEqX (.int a) (.int b) = some (.sh (.bl (decide (a = b)))) := by
  simp [dEqX, unlike, D.seqL, dEq, dEqv, D.isPy, D.py, PyData.eqv]
  rfl
theorem neI (a b : Int) : dNeX (.int a) (.int b) = some (.sh (.bl (!decide (a = b)))) := by
  simp [dNeX, unlike, D.seqL, dNe, dEqv, D.isPy, D.py, PyData.eqv]
  rfl
theorem bad_lst (xs : List D) : Bad (.lst xs) := by
  have q := fun n cs => e_tupOf (.lst xs) n cs pl_l
  refine ⟨fun cs hs => ?_, fun cs hs => ?_⟩
  · simp [m_is_node, b_is_node, N_is_node, q, isTup, keep, hs.flat, T.flat, D.flat, D.flats, runBody, sRet, sRetV, sRetN, sSeq, sIf, sAsg, sNext, sPar, sPar3, eAn, eOo, eNt, eIf, eN, eTup, eLst, e1, e2, t2, tV, tNt, tAn, tOo, eCh, tCh, aCons, aNil, eVar, eMov, eC, eIx, eSl, oNo, oAt, eCall, gN, gTpD, gConsD, gNilD, env0, keep_same, T.toD, T.toDs, dIsi, D.tyName, isKind, isAnyKind, D.isT, dLen, lenD, dEqX, dNeX, unlike, D.seqL, dEq, dNe, dEqv, D.isPy, D.isPys, D.py, D.pys, PyData.eqv, PyData.eqvAll, dNeg, dIx]
  · simp [m_is_leaf, b_is_leaf, N_is_leaf, q, isTup, keep, hs.flat, T.flat, D.flat, D.flats, runBody, sRet, sRetV, sRetN, sSeq, sIf, sAsg, sNext, sPar, sPar3, eAn, eOo, eNt, eIf, eN, eTup, eLst, e1, e2, t2, tV, tNt, tAn, tOo, eCh, tCh, aCons, aNil, eVar, eMov, eC, eIx, eSl, oNo, oAt, eCall, gN, gTpD, gConsD, gNilD, env0, keep_same, T.toD, T.toDs, dIsi, D.tyName, isKind, isAnyKind, D.isT, dLen, lenD, dEqX, dNeX, unlike, D.seqL, dEq, dNe, dEqv, D.isPy, D.isPys, D.py, D.pys, PyData.eqv, PyData.eqvAll, dNeg, dIx]
theorem lb_lst (xs : List D) (f : Nat) : LB (f + 1) (.lst xs) false := fun cs hs => by
  simp [m_law_is_bound, b_law_is_bound, N_law_is_bound, keep, hs.flat, T.flat, D.flat, D.flats, runBody, sRet, sRetV, sRetN, sSeq, sIf, sAsg, sNext, sPar, sPar3, eAn, eOo, eNt, eIf, eN, eTup, eLst, e1, e2, t2, tV, tNt, tAn, tOo, eCh, tCh, aCons, aNil, eVar, eMov, eC, eIx, eSl, oNo, oAt, eCall, gN, gTpD, gConsD, gNilD, env0, keep_same, T.toD, T.toDs, dIsi, D.tyName, isKind, isAnyKind, D.isT, dLen, lenD, dEqX, dNeX, unlike, D.seqL, dEq, dNe, dEqv, D.isPy, D.isPys, D.py, D.pys, PyData.eqv, PyData.eqvAll, dNeg, dIx]
theorem i0a {t : D} {r : List D} : atI (t :: r) (0 : Int) = some t := by
  have := atI_nat (t :: r) 0 (by simp)
  exact this
theorem i1a {t u : D} {r : List D} : atI (t :: u :: r) (1 : Int) = some u := by
  have := atI_nat (t :: u :: r) 1 (by simp)
  exact this
/-- a word, by what it is not -/
structure Wd (s : Str) (bN bF bW : Bool) : Prop where
  n : dEqX (.str s) (.str "number") = some (.sh (.bl bN))
  f : dEqX (.str s) (.str "form") = some (.sh (.bl bF))
  w : dNotIn (.str s) (.tup .any gt_WORDS) = some (.sh (.bl bW))
  l : dNotIn (.str s) (.tup .ex [.str "plus", .str "times", .str "greatest", .str "phases"]) = some (.sh (.bl bW))
theorem wdN : Wd "number" true false true := ⟨by kernel_rfl, by kernel_rfl, by kernel_rfl, by kernel_rfl⟩
theorem wdF : Wd "form" false true true := ⟨by kernel_rfl, by kernel_rfl, by kernel_rfl, by kernel_rfl⟩
theorem wdM : Wd "minus" false false true := ⟨by kernel_rfl, by kernel_rfl, by kernel_rfl, by kernel_rfl⟩
theorem wdS : Wd "sum" false false true := ⟨by kernel_rfl, by kernel_rfl, by kernel_rfl, by kernel_rfl⟩
theorem wdW {w : Str} (h : W3 w ∨ w = wPh) : Wd w false false false := by
  rcases h with (rfl | rfl | rfl) | rfl <;> exact ⟨by kernel_rfl, by kernel_rfl, by kernel_rfl, by kernel_rfl⟩
/-- neither a leaf nor a node: by its length, or by its word -/
def Off (n : Nat) (bN bF bW : Bool) : Prop := (bW = true ∨ n ≠ 2) ∧ (bN = true → n ≠ 2) ∧ (bF = true → n ≠ 3)
theorem bad_tup {t : TK} {s : Str} {r : List D} {bN bF bW : Bool} (h : Wd s bN bF bW) (o : Off (r.length + 1) bN bF bW) : Bad (.tup t (.str s :: r)) := by
  obtain ⟨o1, o2, o3⟩ := o
  refine ⟨fun cs hs => ?_, fun cs hs => ?_⟩
  · by_cases h2 : r.length + 1 = 2
    · have hW : bW = true := by rcases o1 with o1 | o1; exact o1; exact absurd h2 o1
      have c : ((r.length : Int) + 1 == 2) = true := by simp; omega
      have hw := h.w
      rw [hW] at hw
      simp [m_is_node, b_is_node, N_is_node, tup2, c, i0a, hw, keep, hs.flat, T.flat, D.flat, D.flats, runBody, sRet, sRetV, sRetN, sSeq, sIf, sAsg, sNext, sPar, sPar3, eAn, eOo, eNt, eIf, eN, eTup, eLst, e1, e2, t2, tV, tNt, tAn, tOo, eCh, tCh, aCons, aNil, eVar, eMov, eC, eIx, eSl, oNo, oAt, eCall, gN, gTpD, gConsD, gNilD, env0, keep_same, T.toD, T.toDs, dIsi, D.tyName, isKind, isAnyKind, D.isT, dLen, lenD, dEqX, dNeX, unlike, D.seqL, dEq, dNe, dEqv, D.isPy, D.isPys, D.py, D.pys, PyData.eqv, PyData.eqvAll, dNeg, dIx]
    · have c : ((r.length : Int) + 1 == 2) = false := by simp; omega
      simp [m_is_node, b_is_node, N_is_node, tup2, c, keep, hs.flat, T.flat, D.flat, D.flats, runBody, sRet, sRetV, sRetN, sSeq, sIf, sAsg, sNext, sPar, sPar3, eAn, eOo, eNt, eIf, eN, eTup, eLst, e1, e2, t2, tV, tNt, tAn, tOo, eCh, tCh, aCons, aNil, eVar, eMov, eC, eIx, eSl, oNo, oAt, eCall, gN, gTpD, gConsD, gNilD, env0, keep_same, T.toD, T.toDs, dIsi, D.tyName, isKind, isAnyKind, D.isT, dLen, lenD, dEqX, dNeX, unlike, D.seqL, dEq, dNe, dEqv, D.isPy, D.isPys, D.py, D.pys, PyData.eqv, PyData.eqvAll, dNeg, dIx]
  · have hn := h.n
    have hf := h.f
    have hr : ∀ (e : D → D → Option T), e = dEqX → e (.str s) (.str "number") = some (.sh (.bl bN)) ∧ e (.str s) (.str "form") = some (.sh (.bl bF)) := fun e z => by rw [z]; exact ⟨hn, hf⟩
    have c2 : ((r.length : Int) + 1 == 2) = decide (r.length + 1 = 2) := by
      rw [Bool.eq_iff_iff]; simp; omega
    have c3 : ((r.length : Int) + 1 == 3) = decide (r.length + 1 = 3) := by
      rw [Bool.eq_iff_iff]; simp; omega
    by_cases h2 : r.length + 1 = 2
    · have hbn : bN = false := by
        cases bN with
        | false => rfl
        | true => exact absurd h2 (o2 rfl)
      rw [hbn] at hn
      have d2 : ((r.length : Int) + 1 == 2) = true := by rw [c2]; exact decide_eq_true h2
      have d3 : ((r.length : Int) + 1 == 3) = false := by rw [c3]; exact decide_eq_false (by omega)
      simp [m_is_leaf, b_is_leaf, N_is_leaf, tup2, d2, d3, i0a, hn, keep, hs.flat, T.flat, D.flat, D.flats, runBody, sRet, sSeq, sIf, sNext, eAn, e2, t2, tV, tNt, tOo, tAn, eIx, eC, eVar, eTup, aCons, aNil, eN, eCall, env0, T.toD, T.toDs, dIsi, D.tyName, isKind, isAnyKind, D.isT, dIx, dLen, lenD]
    · have d2 : ((r.length : Int) + 1 == 2) = false := by rw [c2]; exact decide_eq_false h2
      by_cases h3 : r.length + 1 = 3
      · have hbf : bF = false := by
          cases bF with
          | false => rfl
          | true => exact absurd h3 (o3 rfl)
        rw [hbf] at hf
        have d3 : ((r.length : Int) + 1 == 3) = true := by rw [c3]; exact decide_eq_true h3
        simp [m_is_leaf, b_is_leaf, N_is_leaf, tup2, d2, d3, i0a, hf, keep, hs.flat, T.flat, D.flat, D.flats, runBody, sRet, sSeq, sIf, sNext, eAn, e2, t2, tV, tNt, tOo, tAn, eIx, eC, eVar, eTup, aCons, aNil, eN, eCall, env0, T.toD, T.toDs, dIsi, D.tyName, isKind, isAnyKind, D.isT, dIx, dLen, lenD]
      · have d3 : ((r.length : Int) + 1 == 3) = false := by rw [c3]; exact decide_eq_false h3
        simp [m_is_leaf, b_is_leaf, N_is_leaf, tup2, d2, d3, i0a, keep, hs.flat, T.flat, D.flat, D.flats, runBody, sRet, sSeq, sIf, sNext, eAn, e2, t2, tV, tNt, tOo, tAn, eIx, eC, eVar, eTup, aCons, aNil, eN, eCall, env0, T.toD, T.toDs, dIsi, D.tyName, isKind, isAnyKind, D.isT, dIx, dLen, lenD]
theorem lb_tup {t : TK} {s : Str} {r : List D} {bN bF bW : Bool} (h : Wd s bN bF bW) (o : Off (r.length + 1) bN bF bW) (hp : D.isPys r 59 = true) (hx : ¬ (bN = true ∧ bF = true)) (f : Nat) : LB (f + 1) (.tup t (.str s :: r)) false := fun cs hs => by
  obtain ⟨o1, o2, o3⟩ := o
  have e0 := eqNil t (.str s :: r) (by simp [D.isPys, D.isPy, hp])
  obtain ⟨hn, hf, hw, hl⟩ := h
  have hfl := hs.flat
  cases bN with
  | true =>
    have c2 : ¬ ((r.length : Int) + 1 = 2) := by have := o2 rfl; omega
    simp [m_law_is_bound, b_law_is_bound, N_law_is_bound, e0, i0a, hn, eqI, c2, keep, hfl, T.flat, D.flat, D.flats, runBody, sRet, sSeq, sIf, sNext, eAn, e2, t2, tV, tNt, tOo, tAn, eIx, eC, eVar, eTup, aCons, aNil, eN, eCall, env0, T.toD, T.toDs, dIsi, D.tyName, isKind, isAnyKind, D.isT, dIx, dLen, lenD]
  | false =>
    cases bF with
    | true =>
      have c3 : ¬ ((r.length : Int) + 1 = 3) := by have := o3 rfl; omega
      simp [m_law_is_bound, b_law_is_bound, N_law_is_bound, e0, i0a, hn, hf, eqI, c3, keep, hfl, T.flat, D.flat, D.flats, runBody, sRet, sSeq, sIf, sNext, eAn, e2, t2, tV, tNt, tOo, tAn, eIx, eC, eVar, eTup, aCons, aNil, eN, eCall, env0, T.toD, T.toDs, dIsi, D.tyName, isKind, isAnyKind, D.isT, dIx, dLen, lenD]
    | false =>
      cases bW with
      | true => simp [m_law_is_bound, b_law_is_bound, N_law_is_bound, e0, i0a, hn, hf, hl, keep, hfl, T.flat, D.flat, D.flats, runBody, sRet, sSeq, sIf, sNext, eAn, e2, t2, tV, tNt, tOo, tAn, eIx, eC, eVar, eTup, aCons, aNil, eN, eCall, env0, T.toD, T.toDs, dIsi, D.tyName, isKind, isAnyKind, D.isT, dIx, dLen, lenD]
      | false =>
        have c2 : ¬ ((r.length : Int) + 1 = 2) := by rcases o1 with o1 | o1; cases o1; omega
        simp [m_law_is_bound, b_law_is_bound, N_law_is_bound, e0, i0a, hn, hf, hl, neI, c2, keep, hfl, T.flat, D.flat, D.flats, runBody, sRet, sSeq, sIf, sNext, eAn, e2, t2, tV, tNt, tOo, tAn, eIx, eC, eVar, eTup, aCons, aNil, eN, eCall, env0, T.toD, T.toDs, dIsi, D.tyName, isKind, isAnyKind, D.isT, dIx, dLen, lenD]
end K57
end
section
set_option Elab.async false
set_option linter.all false
set_option maxRecDepth 100000
set_option maxHeartbeats 4000000
set_option autoImplicit false
namespace K57
open PySem PySem.Spec L2 PyProof.Rows PD
/-! ### closed bent values (printed by k57mk31.py) -/
def Okv (d : D) : Prop := ∃ b p, LB FU d b ∧ IB d b ∧ dRepr [d] = some (.sh (.rep p))
abbrev cv0 : D := .non
theorem lc0 : LB FU cv0 false := fun cs hs => by cases hs <;> kernel_rfl
theorem ic0 : IB cv0 false := fun cs hs => by cases hs <;> kernel_rfl
theorem oc0 : Okv cv0 := ⟨false, D.py cv0, lc0, ic0, by kernel_rfl⟩
abbrev cv1 : D := .tup .ex []
theorem lc1 : LB FU cv1 false := fun cs hs => by cases hs <;> kernel_rfl
theorem ic1 : IB cv1 false := fun cs hs => by cases hs <;> kernel_rfl
theorem oc1 : Okv cv1 := ⟨false, D.py cv1, lc1, ic1, by kernel_rfl⟩
abbrev cv2 : D := .lst []
theorem lc2 : LB FU cv2 false := fun cs hs => by cases hs <;> kernel_rfl
theorem ic2 : IB cv2 false := fun cs hs => by cases hs <;> kernel_rfl
theorem oc2 : Okv cv2 := ⟨false, D.py cv2, lc2, ic2, by kernel_rfl⟩
abbrev cv3 : D := .str "plus"
theorem lc3 : LB FU cv3 false := fun cs hs => by cases hs <;> kernel_rfl
theorem ic3 : IB cv3 false := fun cs hs => by cases hs <;> kernel_rfl
theorem oc3 : Okv cv3 := ⟨false, D.py cv3, lc3, ic3, by kernel_rfl⟩
abbrev cv4 : D := .int 5
theorem lc4 : LB FU cv4 false := fun cs hs => by cases hs <;> kernel_rfl
theorem ic4 : IB cv4 false := fun cs hs => by cases hs <;> kernel_rfl
theorem oc4 : Okv cv4 := ⟨false, D.py cv4, lc4, ic4, by kernel_rfl⟩
abbrev cv5 : D := .dct .K []
theorem lc5 : LB FU cv5 false := fun cs hs => by cases hs <;> kernel_rfl
theorem ic5 : IB cv5 false := fun cs hs => by cases hs <;> kernel_rfl
theorem oc5 : Okv cv5 := ⟨false, .dict [], lc5, ic5, by kernel_rfl⟩
abbrev cv6 : D := .bl true
theorem lc6 : LB FU cv6 false := fun cs hs => by cases hs <;> kernel_rfl
theorem ic6 : IB cv6 false := fun cs hs => by cases hs <;> kernel_rfl
theorem oc6 : Okv cv6 := ⟨false, D.py cv6, lc6, ic6, by kernel_rfl⟩
abbrev cv7 : D := .tup .ex [.str "plus", .lst []]
theorem lc7 : LB FU cv7 false := fun cs hs => by cases hs <;> kernel_rfl
theorem ic7 : IB cv7 false := fun cs hs => by cases hs <;> kernel_rfl
theorem oc7 : Okv cv7 := ⟨false, D.py cv7, lc7, ic7, by kernel_rfl⟩
abbrev cv8 : D := .tup .ex [.str "times", .non]
theorem lc8 : LB FU cv8 false := fun cs hs => by cases hs <;> kernel_rfl
theorem ic8 : IB cv8 false := fun cs hs => by cases hs <;> kernel_rfl
theorem oc8 : Okv cv8 := ⟨false, D.py cv8, lc8, ic8, by kernel_rfl⟩
abbrev cv9 : D := .tup .ex [.str "number", .int (-1)]
theorem lc9 : LB FU cv9 false := fun cs hs => by cases hs <;> kernel_rfl
theorem ic9 : IB cv9 false := fun cs hs => by cases hs <;> kernel_rfl
theorem oc9 : Okv cv9 := ⟨false, D.py cv9, lc9, ic9, by kernel_rfl⟩
abbrev cv10 : D := .tup .ex [.str "number", .bl true]
theorem lc10 : LB FU cv10 false := fun cs hs => by cases hs <;> kernel_rfl
theorem ic10 : IB cv10 false := fun cs hs => by cases hs <;> kernel_rfl
theorem oc10 : Okv cv10 := ⟨false, D.py cv10, lc10, ic10, by kernel_rfl⟩
abbrev cv11 : D := .tup .ex [.str "number", .str "1"]
theorem lc11 : LB FU cv11 false := fun cs hs => by cases hs <;> kernel_rfl
theorem ic11 : IB cv11 false := fun cs hs => by cases hs <;> kernel_rfl
theorem oc11 : Okv cv11 := ⟨false, D.py cv11, lc11, ic11, by kernel_rfl⟩
abbrev cv12 : D := .tup .ex [.str "number"]
theorem lc12 : LB FU cv12 false := fun cs hs => by cases hs <;> kernel_rfl
theorem ic12 : IB cv12 false := fun cs hs => by cases hs <;> kernel_rfl
theorem oc12 : Okv cv12 := ⟨false, D.py cv12, lc12, ic12, by kernel_rfl⟩
abbrev cv13 : D := .tup .ex [.str "form", .non, .int 1]
theorem lc13 : LB FU cv13 false := fun cs hs => by cases hs <;> kernel_rfl
theorem ic13 : IB cv13 false := fun cs hs => by cases hs <;> kernel_rfl
theorem oc13 : Okv cv13 := ⟨false, D.py cv13, lc13, ic13, by kernel_rfl⟩
abbrev cv14 : D := .tup .ex [.str "form", .tup .ex [.int 3, .tup .ex [], .int 0], .int 1]
theorem lc14 : LB FU cv14 false := fun cs hs => by cases hs <;> kernel_rfl
theorem ic14 : IB cv14 false := fun cs hs => by cases hs <;> kernel_rfl
theorem oc14 : Okv cv14 := ⟨false, D.py cv14, lc14, ic14, by kernel_rfl⟩
abbrev cv15 : D := .tup .ex [.str "form", .tup .ex [.int 3, .tup .ex [.tup .ex [.str "x", .int 0]]], .int 1]
theorem lc15 : LB FU cv15 false := fun cs hs => by cases hs <;> kernel_rfl
theorem ic15 : IB cv15 false := fun cs hs => by cases hs <;> kernel_rfl
theorem oc15 : Okv cv15 := ⟨false, D.py cv15, lc15, ic15, by kernel_rfl⟩
abbrev cv16 : D := .tup .ex [.str "form", .tup .ex [.bl true, .tup .ex []], .int 1]
theorem lc16 : LB FU cv16 false := fun cs hs => by cases hs <;> kernel_rfl
theorem ic16 : IB cv16 false := fun cs hs => by cases hs <;> kernel_rfl
theorem oc16 : Okv cv16 := ⟨false, D.py cv16, lc16, ic16, by kernel_rfl⟩
abbrev cv17 : D := .tup .ex [.str "form", .lst [.int 3, .tup .ex []], .int 1]
theorem lc17 : LB FU cv17 false := fun cs hs => by cases hs <;> kernel_rfl
theorem ic17 : IB cv17 false := fun cs hs => by cases hs <;> kernel_rfl
theorem oc17 : Okv cv17 := ⟨false, D.py cv17, lc17, ic17, by kernel_rfl⟩
abbrev cv18 : D := .tup .ex [.str "form", .tup .ex [.int 3, .tup .ex [.tup .ex [.str "X", .int 1]]], .int 1]
theorem lc18 : LB FU cv18 false := fun cs hs => by cases hs <;> kernel_rfl
theorem ic18 : IB cv18 false := fun cs hs => by cases hs <;> kernel_rfl
theorem oc18 : Okv cv18 := ⟨false, D.py cv18, lc18, ic18, by kernel_rfl⟩
abbrev cv19 : D := .tup .ex [.str "form", .tup .ex [.int 3, .tup .ex [.tup .ex [.str "y@", .int 1], .tup .ex [.str "x", .int 1]]], .int 1]
theorem lc19 : LB FU cv19 false := fun cs hs => by cases hs <;> kernel_rfl
theorem ic19 : IB cv19 false := fun cs hs => by cases hs <;> kernel_rfl
theorem oc19 : Okv cv19 := ⟨false, D.py cv19, lc19, ic19, by kernel_rfl⟩
abbrev cv20 : D := .tup .ex [.str "form", .tup .ex [.int 3, .tup .ex []], .int 0]
theorem lc20 : LB FU cv20 false := fun cs hs => by cases hs <;> kernel_rfl
theorem ic20 : IB cv20 false := fun cs hs => by cases hs <;> kernel_rfl
theorem oc20 : Okv cv20 := ⟨false, D.py cv20, lc20, ic20, by kernel_rfl⟩
abbrev cv21 : D := .tup .ex [.str "form", .tup .ex [.int 3, .tup .ex []], .int (-1)]
theorem lc21 : LB FU cv21 false := fun cs hs => by cases hs <;> kernel_rfl
theorem ic21 : IB cv21 false := fun cs hs => by cases hs <;> kernel_rfl
theorem oc21 : Okv cv21 := ⟨false, D.py cv21, lc21, ic21, by kernel_rfl⟩
abbrev cv22 : D := .tup .ex [.str "form", .tup .ex [.int 3, .tup .ex []], .bl true]
theorem lc22 : LB FU cv22 false := fun cs hs => by cases hs <;> kernel_rfl
theorem ic22 : IB cv22 false := fun cs hs => by cases hs <;> kernel_rfl
theorem oc22 : Okv cv22 := ⟨false, D.py cv22, lc22, ic22, by kernel_rfl⟩
abbrev cv23 : D := .tup .ex [.str "form", .tup .ex [.int 3, .tup .ex []], .str "1"]
theorem lc23 : LB FU cv23 false := fun cs hs => by cases hs <;> kernel_rfl
theorem ic23 : IB cv23 false := fun cs hs => by cases hs <;> kernel_rfl
theorem oc23 : Okv cv23 := ⟨false, D.py cv23, lc23, ic23, by kernel_rfl⟩
abbrev cv24 : D := .tup .ex [.str "form", .tup .ex [.int 3, .tup .ex []], .non]
theorem lc24 : LB FU cv24 false := fun cs hs => by cases hs <;> kernel_rfl
theorem ic24 : IB cv24 false := fun cs hs => by cases hs <;> kernel_rfl
theorem oc24 : Okv cv24 := ⟨false, D.py cv24, lc24, ic24, by kernel_rfl⟩
abbrev cv25 : D := .tup .ex [.str "form", .tup .ex [.int 3, .tup .ex [.tup .ex [.str "x", .int 1]]]]
theorem lc25 : LB FU cv25 false := fun cs hs => by cases hs <;> kernel_rfl
theorem ic25 : IB cv25 false := fun cs hs => by cases hs <;> kernel_rfl
theorem oc25 : Okv cv25 := ⟨false, D.py cv25, lc25, ic25, by kernel_rfl⟩
abbrev cv26 : D := .tup .ex [.str "form", .tup .ex [.int 3, .tup .ex [.tup .ex [.str "z", .int 1]]], .int 2]
theorem lc26 : LB FU cv26 true := fun cs hs => by cases hs <;> kernel_rfl
theorem ic26 : IB cv26 true := fun cs hs => by cases hs <;> kernel_rfl
theorem oc26 : Okv cv26 := ⟨true, D.py cv26, lc26, ic26, by kernel_rfl⟩
end K57
end
section
set_option Elab.async false
set_option linter.all false
set_option maxRecDepth 100000
set_option maxHeartbeats 4000000
set_option autoImplicit false
namespace K57
open PySem PySem.Spec L2 PyProof.Rows PD
/-! ### bent values that hold the bound -/
theorem shape3 {b : B} (h : G 3 b) : Lf b ∨ ∃ w bs, b = .nd w bs ∧ (W3 w ∨ w = wPh) ∧ bs ≠ [] ∧ bs.length ≤ 3 ∧ ∀ c ∈ bs, G 2 c := by
  cases h with
  | lf h => exact .inl h
  | @ph k bs h0 h3 h => exact .inr ⟨_, _, rfl, .inr rfl, h0, h3, fun c hc => .lf (h c hc)⟩
  | @nd k w bs hw h0 h3 h => exact .inr ⟨_, _, rfl, .inl hw, h0, h3, h⟩
theorem G.wf {k : Nat} {b : B} (h : G k b) : Wf b := by
  induction h with
  | lf h => exact .lf h.lv
  | ph h0 h3 h => exact .nd (.inr rfl) h0 fun b hb => .lf (h b hb).lv
  | nd hw h0 h3 h ih => exact .nd (.inl hw) h0 ih
theorem isPys_of {n N : Nat} {xs : List D} (h : ∀ d ∈ xs, RpD n N d) {m : Nat} (hm : n ≤ m) : D.isPys xs m = true := isPys_mono xs hm (rps h).1
theorem lb_goodD {f : Nat} {w : Str} (hw : W3 w ∨ w = wPh) {ds : List D} (h0 : ds ≠ []) (hp : D.isPys ds 58 = true) (h : ∀ d ∈ ds, LB f d true) : LB (f + 1) (.tup .ex [.str w, .lst ds]) true := by
  have q := lb_node hw h0 hp (p := fun _ => true) h
  have e : (ds.all fun _ => true) = true := by simp
  rw [e] at q
  exact q
theorem lb_good {k : Nat} {b : B} (h : G k b) : k ≤ 20 → ∀ f, k < f → LB f b.toD true := by
  induction h with
  | @lf k b h =>
    intro _ f hf
    obtain ⟨g, rfl⟩ : ∃ g, f = g + 1 := ⟨f - 1, by omega⟩
    exact lb_leaf h.lv g
  | @ph k bs h0 h3 h =>
    intro hk f hf
    obtain ⟨g, rfl⟩ : ∃ g, f = g + 2 := ⟨f - 2, by omega⟩
    rw [B.toD_nd]
    refine lb_goodD (.inr rfl) (by simpa using h0) (isPys_of (n := 4) (N := 70000) (fun d hd => ?_) (by omega)) fun d hd => ?_
    · obtain ⟨b, hb, rfl⟩ := List.mem_map.mp hd
      exact rp_lf (h b hb)
    · obtain ⟨b, hb, rfl⟩ := List.mem_map.mp hd
      exact lb_leaf (h b hb).lv g
  | @nd k w bs hw h0 h3 h ih =>
    intro hk f hf
    obtain ⟨g, rfl⟩ : ∃ g, f = g + 1 := ⟨f - 1, by omega⟩
    rw [B.toD_nd]
    refine lb_goodD (.inl hw) (by simpa using h0) (isPys_of (n := 2 * k + 4) (N := Wk k) (fun d hd => ?_) (by omega)) fun d hd => ?_
    · obtain ⟨b, hb, rfl⟩ := List.mem_map.mp hd
      exact rp_G (h b hb)
    · obtain ⟨b, hb, rfl⟩ := List.mem_map.mp hd
      exact ih b hb (by omega) g (by omega)
theorem lb_un {f : Nat} {d : D} (h1 : LB f d true) (h2 : LB f d false) : False := by
  have a := h1 _ (.c1 0 0 0 0)
  rw [h2 _ (.c1 0 0 0 0)] at a
  cases a
open Classical in
theorem lb_nodeF {f : Nat} {w : Str} (hw : W3 w ∨ w = wPh) {ds : List D} (h0 : ds ≠ []) (hp : D.isPys ds 58 = true) (hT : ∀ d ∈ ds, LB f d true ∨ LB f d false) (hx : ∃ d ∈ ds, LB f d false) : LB (f + 1) (.tup .ex [.str w, .lst ds]) false := by
  have q := lb_node hw h0 hp (p := fun d => decide (LB f d true)) fun d hd => by
    rcases hT d hd with h | h
    · rw [decide_eq_true h]; exact h
    · rw [decide_eq_false fun z => lb_un z h]; exact h
  obtain ⟨d, hd, hx⟩ := hx
  have e : (ds.all fun d => decide (LB f d true)) = false := by
    rw [List.all_eq_false]
    exact ⟨d, hd, by rw [decide_eq_false fun z => lb_un z hx]; exact Bool.false_ne_true⟩
  rw [e] at q
  exact q
theorem okv_good {k : Nat} {b : B} (h : G k b) (hk : k ≤ 4) : Okv b.toD := by
  have hsz := h.size
  have hs : sizeMax k ≤ 121 := by
    have : k = 0 ∨ k = 1 ∨ k = 2 ∨ k = 3 ∨ k = 4 := by omega
    rcases this with rfl | rfl | rfl | rfl | rfl <;> decide
  have hW : Wk k ≤ 16000000 := by
    have : k = 0 ∨ k = 1 ∨ k = 2 ∨ k = 3 ∨ k = 4 := by omega
    rcases this with rfl | rfl | rfl | rfl | rfl <;> decide
  obtain ⟨p, hp⟩ := rp_repr (rp_G h) (by omega) hW
  exact ⟨true, p, lb_good h (by omega) FU (by show k < 40; omega), ib_good h.wf (by omega), hp⟩
theorem okv_tup {n N : Nat} {t : TK} {s : Str} {r : List D} {bN bF bW : Bool} (h : Wd s bN bF bW) (o : Off (r.length + 1) bN bF bW) (hx : ¬ (bN = true ∧ bF = true)) (hsl : s.length ≤ 100) (hso : PyData.strOk s = true) (hr : ∀ d ∈ r, RpD n N d) (hn : n ≤ 50) (hl : r.length ≤ 3) (hN : N ≤ 3900000) (hN2 : 1921 ≤ N) : Okv (.tup t (.str s :: r)) := by
  have hall : ∀ d ∈ (.str s :: r : List D), RpD n N d := fun d hd => by
    rcases List.mem_cons.mp hd with rfl | hd
    · exact (rp_str s hsl hso).mono (by omega) hN2
    · exact hr d hd
  obtain ⟨p, hp⟩ := rp_repr (rp_tup (t := t) hall 4 (by simp; omega)) (by omega) (by omega)
  exact ⟨false, p, lb_tup h o (isPys_of hr (by omega)) hx 39, ib_bad (bad_tup h o), hp⟩
theorem okv_lst {n N : Nat} {r : List D} (hr : ∀ d ∈ r, RpD n N d) (hn : n ≤ 50) (hl : r.length ≤ 4) (hN : N ≤ 3900000) : Okv (.lst r) := by
  obtain ⟨p, hp⟩ := rp_repr (rp_lst hr 4 hl) (by omega) (by omega)
  exact ⟨false, p, lb_lst r 39, ib_bad (bad_lst r), hp⟩
/-- an odd part among right ones -/
theorem okv_mix {w : Str} (hw : W3 w ∨ w = wPh) {as bs : List B} {d : D} (ha : ∀ b ∈ as, G 2 b) (hb : ∀ b ∈ bs, G 2 b) (hl : as.length + bs.length ≤ 3) (hd : Bad d) (hd2 : LB 39 d false) (hd3 : RpD 20 700000 d) : Okv (.tup .ex [.str w, .lst (as.map B.toD ++ d :: bs.map B.toD)]) := by
  have hW : Wk 2 ≤ 700000 := by decide
  have hall : ∀ e ∈ as.map B.toD ++ d :: bs.map B.toD, RpD 20 700000 e := fun e he => by
    rcases List.mem_append.mp he with he | he
    · obtain ⟨b, hb', rfl⟩ := List.mem_map.mp he
      exact (rp_G (ha b hb')).mono (by omega) hW
    · rcases List.mem_cons.mp he with rfl | he
      · exact hd3
      · obtain ⟨b, hb', rfl⟩ := List.mem_map.mp he
        exact (rp_G (hb b hb')).mono (by omega) hW
  obtain ⟨p, hp⟩ := rp_repr (rp_two (t := .ex) (n := 21) ((rp_w hw).mono (by omega) (Nat.le_refl _)) (rp_lst hall 4 (by simp; omega))) (by omega) (by omega)
  have hsz : ∀ b ∈ bs, b.size ≤ 13 := fun b hb' => by
    have := (hb b hb').size
    exact this
  have := sizes_le hsz
  refine ⟨false, p, lb_nodeF hw (by simp) (isPys_of hall (by omega)) (fun e he => ?_) ⟨d, by simp, hd2⟩, ib_mix hw hd (fun b hb' => (hb b hb').wf) (by have : bs.length * 13 ≤ 3 * 13 := Nat.mul_le_mul_right _ (by omega); simp; omega), hp⟩
  rcases List.mem_append.mp he with he | he
  · obtain ⟨b, hb', rfl⟩ := List.mem_map.mp he
    exact .inl (lb_good (ha b hb') (by omega) 39 (by omega))
  · rcases List.mem_cons.mp he with rfl | he
    · exact .inr hd2
    · obtain ⟨b, hb', rfl⟩ := List.mem_map.mp he
      exact .inl (lb_good (hb b hb') (by omega) 39 (by omega))
/-- a right part that is no drawn one -/
theorem okv_phs {w : Str} (hw : W3 w ∨ w = wPh) {as bs : List B} {c : B} (ha : ∀ b ∈ as, G 2 b) (hb : ∀ b ∈ bs, G 2 b) (hc : G 2 c) (hl : as.length + bs.length ≤ 3) : Okv (.tup .ex [.str w, .lst (as.map B.toD ++ B.toD (.nd wPh [c]) :: bs.map B.toD)]) := by
  have hW : Wk 2 ≤ 700000 := by decide
  have hcR : RpD 20 2000000 (B.toD (.nd wPh [c])) := (rp_node (n := 8) (k := 2) (.inr rfl) (by simp) fun b hb' => by rw [List.mem_singleton.mp hb']; exact rp_G hc).mono (by omega) (by decide)
  have hall : ∀ e ∈ as.map B.toD ++ B.toD (.nd wPh [c]) :: bs.map B.toD, RpD 20 2000000 e := fun e he => by
    rcases List.mem_append.mp he with he | he
    · obtain ⟨b, hb', rfl⟩ := List.mem_map.mp he
      exact (rp_G (ha b hb')).mono (by omega) (by omega)
    · rcases List.mem_cons.mp he with rfl | he
      · exact hcR
      · obtain ⟨b, hb', rfl⟩ := List.mem_map.mp he
        exact (rp_G (hb b hb')).mono (by omega) (by omega)
  obtain ⟨p, hp⟩ := rp_repr (rp_two (t := .ex) (n := 21) ((rp_w hw).mono (by omega) (Nat.le_refl _)) (rp_lst hall 4 (by simp; omega))) (by omega) (by omega)
  have hcL : ∀ f, 3 < f → LB f (B.toD (.nd wPh [c])) true := fun f hf => by
    obtain ⟨g, rfl⟩ : ∃ g, f = g + 1 := ⟨f - 1, by omega⟩
    rw [B.toD_nd]
    refine lb_goodD (.inr rfl) (by simp) (isPys_of (n := 8) (N := Wk 2) (fun d hd => ?_) (by omega)) fun d hd => ?_
    · simp at hd; rw [hd]; exact rp_G hc
    · simp at hd; rw [hd]; exact lb_good hc (by omega) g (by omega)
  have hcW : Wf (.nd wPh [c]) := .nd (.inr rfl) (by simp) fun b hb' => by rw [List.mem_singleton.mp hb']; exact hc.wf
  have e : (.tup .ex [.str w, .lst (as.map B.toD ++ B.toD (.nd wPh [c]) :: bs.map B.toD)] : D) = B.toD (.nd w (as ++ .nd wPh [c] :: bs)) := by rw [B.toD_nd w (as ++ .nd wPh [c] :: bs), List.map_append, List.map_cons]
  have hsa := sizes_le (N := 13) fun b hb' => (ha b hb').size
  have hsb := sizes_le (N := 13) fun b hb' => (hb b hb').size
  have hsc := hc.size
  have e2 : sizeMax 2 = 13 := rfl
  rw [e2] at hsc
  refine ⟨true, p, lb_goodD hw (by simp) (isPys_of hall (by omega)) fun d hd => ?_, ?_, hp⟩
  · rcases List.mem_append.mp hd with hd | hd
    · obtain ⟨b, hb', rfl⟩ := List.mem_map.mp hd
      exact lb_good (ha b hb') (by omega) 39 (by omega)
    · rcases List.mem_cons.mp hd with rfl | hd
      · exact hcL 39 (by omega)
      · obtain ⟨b, hb', rfl⟩ := List.mem_map.mp hd
        exact lb_good (hb b hb') (by omega) 39 (by omega)
  · rw [e]
    refine ib_good (.nd hw (by simp) fun b hb' => ?_) ?_
    · rcases List.mem_append.mp hb' with hb' | hb'
      · exact (ha b hb').wf
      · rcases List.mem_cons.mp hb' with rfl | hb'
        · exact hcW
        · exact (hb b hb').wf
    · have q1 : as.length * 13 ≤ 3 * 13 := Nat.mul_le_mul_right _ (by omega)
      have q2 : bs.length * 13 ≤ 3 * 13 := Nat.mul_le_mul_right _ (by omega)
      simp only [B.size, sizes_append, B.sizes]
      omega
end K57
end
section
set_option Elab.async false
set_option linter.all false
set_option maxRecDepth 100000
set_option maxHeartbeats 4000000
set_option autoImplicit false
namespace K57
open PySem PySem.Spec L2 PyProof.Rows PD
/-! ### _law_bent (printed by mk33.py) -/
def t0S : Sv := (sAsg (eLst (aCons (eC .non) (aCons (eTup aNil) (aCons (eLst aNil) (aCons (eC (.str "plus")) (aCons (eC (.int 5)) (aCons eNewK (aCons (eC (.bl true)) (aCons (eN dList (aCons (eVar 1) aNil)) (aCons (eAdd (eVar 1) (eTup (aCons (eC (.int 0)) aNil))) (aCons (eSl (eVar 1) oNo (oAt (eC (.int 1)))) (aCons (eAdd (eTup (aCons (eC (.str "minus")) aNil)) (eSl (eVar 1) (oAt (eC (.int 1))) oNo)) (aCons (eTup (aCons (eC (.str "plus")) (aCons (eLst aNil) aNil))) (aCons (eTup (aCons (eC (.str "times")) (aCons (eC .non) aNil))) aNil)))))))))))))) (gN 2))
def t1S : Sv := (sAsg (eAdd (eVar 2) (eLst (aCons (eTup (aCons (eC (.str "number")) (aCons (e2 dSub (eC (.int 0)) (eC (.int 1))) aNil))) (aCons (eTup (aCons (eC (.str "number")) (aCons (eC (.bl true)) aNil))) (aCons (eTup (aCons (eC (.str "number")) (aCons (eC (.str "1")) aNil))) (aCons (eTup (aCons (eC (.str "number")) aNil)) aNil)))))) (gN 2))
def t2I : Iv := (iSeq (eLst (aCons (eC .non) (aCons (eTup (aCons (eC (.int 3)) (aCons (eTup aNil) (aCons (eC (.int 0)) aNil)))) (aCons (eTup (aCons (eC (.int 3)) (aCons (eTup (aCons (eTup (aCons (eC (.str "x")) (aCons (eC (.int 0)) aNil))) aNil)) aNil))) (aCons (eTup (aCons (eC (.bl true)) (aCons (eTup aNil) aNil))) (aCons (eLst (aCons (eC (.int 3)) (aCons (eTup aNil) aNil))) (aCons (eTup (aCons (eC (.int 3)) (aCons (eTup (aCons (eTup (aCons (eC (.str "X")) (aCons (eC (.int 1)) aNil))) aNil)) aNil))) (aCons (eTup (aCons (eC (.int 3)) (aCons (eTup (aCons (eTup (aCons (eC (.str "y@")) (aCons (eC (.int 1)) aNil))) (aCons (eTup (aCons (eC (.str "x")) (aCons (eC (.int 1)) aNil))) aNil))) aNil))) aNil)))))))))
def t2B : Sv := (sApp 2 (eTup (aCons (eC (.str "form")) (aCons (eVar 3) (aCons (eC (.int 1)) aNil)))))
def t3S : Sv := (sAsg (eAdd (eAdd (eVar 2) (eComp [3] (iSeq (eLst (aCons (eC (.int 0)) (aCons (e2 dSub (eC (.int 0)) (eC (.int 1))) (aCons (eC (.bl true)) (aCons (eC (.str "1")) (aCons (eC .non) aNil))))))) (gN 3) tTrue (eTup (aCons (eC (.str "form")) (aCons (eTup (aCons (eC (.int 3)) (aCons (eTup aNil) aNil))) (aCons (eVar 3) aNil)))))) (eLst (aCons (eTup (aCons (eC (.str "form")) (aCons (eTup (aCons (eC (.int 3)) (aCons (eTup (aCons (eTup (aCons (eC (.str "x")) (aCons (eC (.int 1)) aNil))) aNil)) aNil))) aNil))) (aCons (eTup (aCons (eC (.str "form")) (aCons (eTup (aCons (eC (.int 3)) (aCons (eTup (aCons (eTup (aCons (eC (.str "z")) (aCons (eC (.int 1)) aNil))) aNil)) aNil))) (aCons (eC (.int 2)) aNil)))) aNil)))) (gN 2))
def t4T : Tv := (t2 dNotIn (eIx (eVar 1) (eC (.int 0))) (eTup (aCons (eC (.str "number")) (aCons (eC (.str "form")) aNil))))
def t4A : Sv := (sAsg (eCall (m_law_draw) [] (aCons (eVar 0) (aCons (eN dLen (aCons (eIx (eVar 1) (eC (.int 1))) aNil)) aNil))) (gN 4))
def t4I : Iv := (iSeq (eLst (aCons (eC .non) (aCons (eC (.int 5)) (aCons (eN dList (aCons (eIx (eIx (eVar 1) (eC (.int 1))) (eVar 4)) aNil)) (aCons (eTup (aCons (eC (.str "number")) (aCons (e2 dSub (eC (.int 0)) (eC (.int 1))) aNil))) (aCons (eTup (aCons (eC (.str "plus")) (aCons (eLst aNil) aNil))) (aCons (eSl (eIx (eIx (eVar 1) (eC (.int 1))) (eVar 4)) oNo (oAt (eC (.int 1)))) (aCons (eTup (aCons (eC (.str "phases")) (aCons (eLst (aCons (eIx (eIx (eVar 1) (eC (.int 1))) (eVar 4)) aNil)) aNil))) aNil)))))))))
def t4B : Sv := (sApp 2 (eTup (aCons (eIx (eVar 1) (eC (.int 0))) (aCons (eAdd (eAdd (eSl (eIx (eVar 1) (eC (.int 1))) oNo (oAt (eVar 4))) (eLst (aCons (eVar 3) aNil))) (eSl (eIx (eVar 1) (eC (.int 1))) (oAt (eAdd (eVar 4) (eC (.int 1)))) oNo)) aNil))))
def t4C : Sv := (sAsg (eAdd (eVar 2) (eLst (aCons (eTup (aCons (eIx (eVar 1) (eC (.int 0))) (aCons (eN dTuple (aCons (eIx (eVar 1) (eC (.int 1))) aNil)) aNil))) (aCons (eTup (aCons (eIx (eVar 1) (eC (.int 0))) (aCons (eAdd (eIx (eVar 1) (eC (.int 1))) (eLst (aCons (eC .non) aNil))) aNil))) (aCons (eTup (aCons (eC (.str "sum")) (aCons (eIx (eVar 1) (eC (.int 1))) aNil))) aNil))))) (gN 2))
theorem b_bent : b_law_bent = sSeq t0S (sSeq t1S (sSeq (sFor t2I (gN 3) t2B) (sSeq t3S (sSeq (sIf t4T (sSeq t4A (sSeq (sFor t4I (gN 3) t4B) t4C)) sNext) (sRetV 2))))) := rfl
def Okt (ts : List T) : Prop := ∀ t ∈ ts, Okv t.toD
theorem Okt.nil : Okt [] := fun _ z => nomatch z
theorem Okt.cons {t : T} {ts : List T} (h : Okv t.toD) (hs : Okt ts) : Okt (t :: ts) := fun x hx => by
  rcases List.mem_cons.mp hx with rfl | hx
  · exact h
  · exact hs x hx
theorem Okt.con {d : D} {ts : List T} (h : Okv d) (hs : Okt ts) : Okt (.sh d :: ts) := .cons (t := .sh d) h hs
theorem Okt.app {as bs : List T} (h : Okt as) (hs : Okt bs) : Okt (as ++ bs) := fun x hx => by
  rcases List.mem_append.mp hx with hx | hx
  · exact h x hx
  · exact hs x hx
theorem Okt.shared {ts : List T} (h : Okt ts) : Okt ((T.toDs ts).map T.sh) := fun x hx => by
  obtain ⟨d, hd, rfl⟩ := List.mem_map.mp hx
  rw [toDs_eq] at hd
  obtain ⟨t, ht, rfl⟩ := List.mem_map.mp hd
  exact h t ht
theorem toDs_len (ts : List T) : (T.toDs ts).length = ts.length := by rw [toDs_eq, List.length_map]
/-- what a bound's tuple says of its bent forms -/
structure Cm (s : Str) (r : List D) : Prop where
  l : Okv (.lst (.str s :: r))
  a : ∀ r', r' = r ++ [.int 0] → Okv (.tup .any (.str s :: r'))
  h : Okv (.tup .any [.str s])
  m : Okv (.tup .any (.str "minus" :: r))
variable {i : Ix} {n : Nat} {cs : CS}
theorem sl4' : 4 ≤ sizeLine := by decide
theorem t0_ok {s : Str} {r : List D} (hl : r.length = 1 ∨ r.length = 2) (hc : Cm s r) (hf : cs.all T.cellFlat = true) : ∃ ts, t0S [shD' (.cell i), shD' (.tup .ex (.str s :: r)), none, none, none] cs = some (.nx, [shD' (.cell i), shD' (.tup .ex (.str s :: r)), some (.lst ts), none, none], cs) ∧ Okt ts ∧ ts.length = 13 := by
  obtain ⟨h1, h2, h3, h4⟩ := hc
  match r, hl with
  | [a], _ =>
    have e1' : PD.cutD [D.str s, a] none (some 1) = [D.str s] := rfl
    have e2' : PD.cutD [D.str s, a] (some 1) none = [a] := rfl
    refine ⟨[.sh .non, .sh (.tup .ex []), .lst [], .sh (.str "plus"), .sh (.int 5), .dct .K [], .sh (.bl true), .lst [.sh (.str s), .sh a], .sh (.tup .any [.str s, a, .int 0]), .sh (.tup .any [.str s]), .sh (.tup .any [.str "minus", a]), .sh (.tup .ex [.str "plus", .lst []]), .sh (.tup .ex [.str "times", .non])], ?_, ?_, rfl⟩
    · simp [t0S, dList, eAdd, catT, dAdd, sl2', sl3', sl4', dSl, e1', e2', eNewK, D.seq, runBody, sRet, sRetV, sRetN, sSeq, sIf, sAsg, sNext, sPar, sPar3, eAn, eOo, eNt, eIf, eN, eTup, eLst, e1, e2, t2, tV, tNt, tAn, tOo, eCh, tCh, aCons, aNil, eVar, eMov, eC, eIx, eSl, oNo, oAt, eCall, gN, gTpD, gConsD, gNilD, env0, keep_same, T.toD, T.toDs, dIsi, D.tyName, isKind, isAnyKind, D.isT, dLen, lenD, dEqX, dNeX, unlike, D.seqL, dEq, dNe, dEqv, D.isPy, D.isPys, D.py, D.pys, PyData.eqv, PyData.eqvAll, dNeg, dIx]
    · exact .cons oc0 (.cons oc1 (.cons oc2 (.cons oc3 (.cons oc4 (.cons oc5 (.cons oc6 (.cons h1 (.cons (h2 _ rfl) (.cons h3 (.cons h4 (.cons oc7 (.cons oc8 .nil))))))))))))
  | [a, b], _ =>
    have e1' : PD.cutD [D.str s, a, b] none (some 1) = [D.str s] := rfl
    have e2' : PD.cutD [D.str s, a, b] (some 1) none = [a, b] := rfl
    refine ⟨[.sh .non, .sh (.tup .ex []), .lst [], .sh (.str "plus"), .sh (.int 5), .dct .K [], .sh (.bl true), .lst [.sh (.str s), .sh a, .sh b], .sh (.tup .any [.str s, a, b, .int 0]), .sh (.tup .any [.str s]), .sh (.tup .any [.str "minus", a, b]), .sh (.tup .ex [.str "plus", .lst []]), .sh (.tup .ex [.str "times", .non])], ?_, ?_, rfl⟩
    · simp [t0S, dList, eAdd, catT, dAdd, sl2', sl3', sl4', dSl, e1', e2', eNewK, D.seq, runBody, sRet, sRetV, sRetN, sSeq, sIf, sAsg, sNext, sPar, sPar3, eAn, eOo, eNt, eIf, eN, eTup, eLst, e1, e2, t2, tV, tNt, tAn, tOo, eCh, tCh, aCons, aNil, eVar, eMov, eC, eIx, eSl, oNo, oAt, eCall, gN, gTpD, gConsD, gNilD, env0, keep_same, T.toD, T.toDs, dIsi, D.tyName, isKind, isAnyKind, D.isT, dLen, lenD, dEqX, dNeX, unlike, D.seqL, dEq, dNe, dEqv, D.isPy, D.isPys, D.py, D.pys, PyData.eqv, PyData.eqvAll, dNeg, dIx]
    · exact .cons oc0 (.cons oc1 (.cons oc2 (.cons oc3 (.cons oc4 (.cons oc5 (.cons oc6 (.cons h1 (.cons (h2 _ rfl) (.cons h3 (.cons h4 (.cons oc7 (.cons oc8 .nil))))))))))))
theorem t1_ok {v : D} {ts : List T} (hts : Okt ts) (hl : ts.length ≤ 50) (hf : cs.all T.cellFlat = true) : ∃ ts', t1S [shD' (.cell i), shD' v, some (.lst ts), none, none] cs = some (.nx, [shD' (.cell i), shD' v, some (.lst ts'), none, none], cs) ∧ Okt ts' ∧ ts'.length = ts.length + 4 := by
  have sl : ts.length + 4 ≤ sizeLine := by rw [sizeLine_eq]; omega
  refine ⟨(T.toDs ts).map T.sh ++ [.sh cv9, .sh cv10, .sh cv11, .sh cv12], ?_, hts.shared.app (.con oc9 (.con oc10 (.con oc11 (.con oc12 .nil)))), by simp [toDs_len]⟩
  simp [t1S, dSub, eAdd, catL, catS, toDs_len, sl, runBody, sRet, sRetV, sRetN, sSeq, sIf, sAsg, sNext, sPar, sPar3, eAn, eOo, eNt, eIf, eN, eTup, eLst, e1, e2, t2, tV, tNt, tAn, tOo, eCh, tCh, aCons, aNil, eVar, eMov, eC, eIx, eSl, oNo, oAt, eCall, gN, gTpD, gConsD, gNilD, env0, keep_same, T.toD, T.toDs, dIsi, D.tyName, isKind, isAnyKind, D.isT, dLen, lenD, dEqX, dNeX, unlike, D.seqL, dEq, dNe, dEqv, D.isPy, D.isPys, D.py, D.pys, PyData.eqv, PyData.eqvAll, dNeg, dIx]
theorem t2_ok {v : D} {ts : List T} (hts : Okt ts) (hl : ts.length ≤ 50) (hf : cs.all T.cellFlat = true) : ∃ ts' u3, sFor t2I (gN 3) t2B [shD' (.cell i), shD' v, some (.lst ts), none, none] cs = some (.nx, [shD' (.cell i), shD' v, some (.lst ts'), Option.map T.sh u3, none], cs) ∧ Okt ts' ∧ ts'.length ≤ ts.length + 7 := by
  have hi : t2I [shD' (.cell i), shD' v, some (.lst ts), none, none] cs = some ([.non, .tup .ex [.int 3, .tup .ex [], .int 0], .tup .ex [.int 3, .tup .ex [.tup .ex [.str "x", .int 0]]], .tup .ex [.bl true, .tup .ex []], .lst [.int 3, .tup .ex []], .tup .ex [.int 3, .tup .ex [.tup .ex [.str "X", .int 1]]], .tup .ex [.int 3, .tup .ex [.tup .ex [.str "y@", .int 1], .tup .ex [.str "x", .int 1]]]], [shD' (.cell i), shD' v, some (.lst ts), none, none], cs) := by
    simp [t2I, iSeq, itemsOf, runBody, sRet, sRetV, sRetN, sSeq, sIf, sAsg, sNext, sPar, sPar3, eAn, eOo, eNt, eIf, eN, eTup, eLst, e1, e2, t2, tV, tNt, tAn, tOo, eCh, tCh, aCons, aNil, eVar, eMov, eC, eIx, eSl, oNo, oAt, eCall, gN, gTpD, gConsD, gNilD, env0, keep_same, T.toD, T.toDs, dIsi, D.tyName, isKind, isAnyKind, D.isT, dLen, lenD, dEqX, dNeX, unlike, D.seqL, dEq, dNe, dEqv, D.isPy, D.isPys, D.py, D.pys, PyData.eqv, PyData.eqvAll, dNeg, dIx]
  rw [u_for hi]
  obtain ⟨env', cs', eF, rfl, ts', u3, rfl, h1, h2⟩ := forL_run (tg := gN 3) (b := t2B) (ds := [.non, .tup .ex [.int 3, .tup .ex [], .int 0], .tup .ex [.int 3, .tup .ex [.tup .ex [.str "x", .int 0]]], .tup .ex [.bl true, .tup .ex []], .lst [.int 3, .tup .ex []], .tup .ex [.int 3, .tup .ex [.tup .ex [.str "X", .int 1]]], .tup .ex [.int 3, .tup .ex [.tup .ex [.str "y@", .int 1], .tup .ex [.str "x", .int 1]]]]) (i := 0) (env := [shD' (.cell i), shD' v, some (.lst ts), none, none]) (cs := cs)
    (J := fun k env cs1 => cs1 = cs ∧ ∃ ts' u3, env = [shD' (.cell i), shD' v, some (.lst ts'), Option.map T.sh u3, none] ∧ Okt ts' ∧ ts'.length ≤ ts.length + k)
    (fun j d hd env cs1 hJ => by
      obtain ⟨rfl, ts', u3, rfl, h1, h2⟩ := hJ
      have hj : j < 7 := (List.getElem?_eq_some_iff.mp hd).1
      have hd' : d ∈ ([.non, .tup .ex [.int 3, .tup .ex [], .int 0], .tup .ex [.int 3, .tup .ex [.tup .ex [.str "x", .int 0]]], .tup .ex [.bl true, .tup .ex []], .lst [.int 3, .tup .ex []], .tup .ex [.int 3, .tup .ex [.tup .ex [.str "X", .int 1]]], .tup .ex [.int 3, .tup .ex [.tup .ex [.str "y@", .int 1], .tup .ex [.str "x", .int 1]]]] : List D) := List.mem_of_getElem? hd
      have ho : Okv (.tup .ex [.str "form", d, .int 1]) := by
        simp at hd'
        rcases hd' with rfl | rfl | rfl | rfl | rfl | rfl | rfl
        · exact oc13
        · exact oc14
        · exact oc15
        · exact oc16
        · exact oc17
        · exact oc18
        · exact oc19
      have sl : ts'.length < sizeLine := by rw [sizeLine_eq]; omega
      refine ⟨_, [shD' (.cell i), shD' v, some (.lst (ts' ++ [.sh (.tup .ex [.str "form", d, .int 1])])), shD' d, none], _, rfl, ?_, rfl, ts' ++ [.sh (.tup .ex [.str "form", d, .int 1])], some d, rfl, h1.app (.con ho .nil), by simp; omega⟩
      simp [t2B, sApp, sl, runBody, sRet, sRetV, sRetN, sSeq, sIf, sAsg, sNext, sPar, sPar3, eAn, eOo, eNt, eIf, eN, eTup, eLst, e1, e2, t2, tV, tNt, tAn, tOo, eCh, tCh, aCons, aNil, eVar, eMov, eC, eIx, eSl, oNo, oAt, eCall, gN, gTpD, gConsD, gNilD, env0, keep_same, T.toD, T.toDs, dIsi, D.tyName, isKind, isAnyKind, D.isT, dLen, lenD, dEqX, dNeX, unlike, D.seqL, dEq, dNe, dEqv, D.isPy, D.isPys, D.py, D.pys, PyData.eqv, PyData.eqvAll, dNeg, dIx]) ⟨rfl, ts, none, rfl, hts, by omega⟩
  exact ⟨ts', u3, eF, h1, h2⟩
theorem t3_ok {v : D} {ts : List T} {u3 : Option D} (hts : Okt ts) (hl : ts.length ≤ 60) (hf : cs.all T.cellFlat = true) : ∃ ts', t3S [shD' (.cell i), shD' v, some (.lst ts), Option.map T.sh u3, none] cs = some (.nx, [shD' (.cell i), shD' v, some (.lst ts'), Option.map T.sh u3, none], cs) ∧ Okt ts' ∧ ts'.length = ts.length + 7 := by
  have sl : ts.length + 5 ≤ sizeLine := by rw [sizeLine_eq]; omega
  have sl2 : ts.length + 5 + 2 ≤ sizeLine := by rw [sizeLine_eq]; omega
  refine ⟨((T.toDs ts).map T.sh ++ [.sh cv20, .sh cv21, .sh cv22, .sh cv23, .sh cv24]) ++ [.sh cv25, .sh cv26], ?_, (hts.shared.app (.con oc20 (.con oc21 (.con oc22 (.con oc23 (.con oc24 .nil)))))).app (.con oc25 (.con oc26 .nil)), by simp [toDs_len]⟩
  cases u3 <;> simp [t3S, dSub, eAdd, catL, catS, toDs_len, sl, sl2, eComp, compL, tTrue, iSeq, itemsOf, ownOk, wipeE, backE, List.range, List.range.loop, runBody, sRet, sRetV, sRetN, sSeq, sIf, sAsg, sNext, sPar, sPar3, eAn, eOo, eNt, eIf, eN, eTup, eLst, e1, e2, t2, tV, tNt, tAn, tOo, eCh, tCh, aCons, aNil, eVar, eMov, eC, eIx, eSl, oNo, oAt, eCall, gN, gTpD, gConsD, gNilD, env0, keep_same, T.toD, T.toDs, dIsi, D.tyName, isKind, isAnyKind, D.isT, dLen, lenD, dEqX, dNeX, unlike, D.seqL, dEq, dNe, dEqv, D.isPy, D.isPys, D.py, D.pys, PyData.eqv, PyData.eqvAll, dNeg, dIx]
end K57
end
section
set_option Elab.async false
set_option linter.all false
set_option maxRecDepth 100000
set_option maxHeartbeats 4000000
set_option autoImplicit false
namespace K57
open PySem PySem.Spec L2 PyProof.Rows PD
structure Odd (d : D) : Prop where
  bad : Bad d
  lb : LB 39 d false
  rp : RpD 20 700000 d
theorem od0 : Odd .non := ⟨⟨fun cs hs => by cases hs <;> kernel_rfl, fun cs hs => by cases hs <;> kernel_rfl⟩, fun cs hs => by cases hs <;> kernel_rfl, ⟨by kernel_rfl, by kernel_rfl, by kernel_rfl, by decide +kernel⟩⟩
theorem od1 : Odd (.int 5) := ⟨⟨fun cs hs => by cases hs <;> kernel_rfl, fun cs hs => by cases hs <;> kernel_rfl⟩, fun cs hs => by cases hs <;> kernel_rfl, ⟨by kernel_rfl, by kernel_rfl, by kernel_rfl, by decide +kernel⟩⟩
theorem od3 : Odd (.tup .ex [.str "number", .int (-1)]) := ⟨⟨fun cs hs => by cases hs <;> kernel_rfl, fun cs hs => by cases hs <;> kernel_rfl⟩, fun cs hs => by cases hs <;> kernel_rfl, ⟨by kernel_rfl, by kernel_rfl, by kernel_rfl, by decide +kernel⟩⟩
theorem od4 : Odd (.tup .ex [.str "plus", .lst []]) := ⟨⟨fun cs hs => by cases hs <;> kernel_rfl, fun cs hs => by cases hs <;> kernel_rfl⟩, fun cs hs => by cases hs <;> kernel_rfl, ⟨by kernel_rfl, by kernel_rfl, by kernel_rfl, by decide +kernel⟩⟩
/-- the word and the rest of a drawn bound -/
structure Hd (b : B) (s : Str) (r : List D) : Prop where
  e : comps b = .str s :: r
  l : r.length = 1 ∨ r.length = 2
  sl : s.length ≤ 100
  so : PyData.strOk s = true
  wd : ∃ bN bF bW, Wd s bN bF bW ∧ ¬ (bN = true ∧ bF = true) ∧ (bN = true → r.length = 1) ∧ (bF = true → r.length = 2) ∧ (bN = false → bF = false → r.length = 1)
theorem hd_num (n : Int) : Hd (.num n) "number" [.int n] := ⟨rfl, .inl rfl, by decide, by decide +kernel, _, _, _, wdN, by decide, fun _ => rfl, fun z => (by cases z), fun z => (by cases z)⟩
theorem hd_frm (k d : Int) (ps : List (Str × Int)) : Hd (.frm k ps d) "form" [formD k ps, .int d] := ⟨rfl, .inr rfl, by decide, by decide +kernel, _, _, _, wdF, by decide, fun z => (by cases z), fun _ => rfl, fun _ z => (by cases z)⟩
theorem hd_nd {w : Str} (hw : W3 w ∨ w = wPh) (bs : List B) : Hd (.nd w bs) w [.lst (B.toDs bs)] := ⟨rfl, .inl rfl, by rcases hw with (rfl | rfl | rfl) | rfl <;> decide, by rcases hw with (rfl | rfl | rfl) | rfl <;> decide +kernel, _, _, _, wdW hw, by decide, fun z => (by cases z), fun z => (by cases z), fun _ _ => rfl⟩
theorem hd_of {k : Nat} {b : B} (h : G k b) : ∃ s r, Hd b s r := by
  cases h with
  | lf h => cases h with
    | num h1 h2 => exact ⟨_, _, hd_num _⟩
    | frm h1 h2 h3 h4 h5 => exact ⟨_, _, hd_frm _ _ _⟩
  | ph h0 h3 h => exact ⟨_, _, hd_nd (.inr rfl) _⟩
  | nd hw h0 h3 h => exact ⟨_, _, hd_nd (.inl hw) _⟩
theorem rp_comps {k : Nat} {b : B} (h : G k b) (hk : k ≤ 3) : ∀ d ∈ comps b, RpD 20 3000000 d := by
  have hw : ∀ j, j ≤ 2 → Wk j ≤ 700000 := fun j hj => by
    have : j = 0 ∨ j = 1 ∨ j = 2 := by omega
    rcases this with rfl | rfl | rfl <;> decide
  have two : ∀ (j : Nat) (w : Str) (bs : List B), j ≤ 2 → (W3 w ∨ w = wPh) → bs.length ≤ 3 → (∀ c ∈ bs, RpD (2 * j + 4) (Wk j) c.toD) → ∀ d ∈ comps (.nd w bs), RpD 20 3000000 d := fun j w bs hj hw' h3 hc d hd => by
    simp [comps] at hd
    rcases hd with rfl | rfl
    · exact (rp_w hw').mono (by omega) (by omega)
    · rw [toDs_map']
      have := hw j hj
      exact (rp_kids h3 hc).mono (by omega) (by omega)
  cases h with
  | lf h => exact fun d hd => (rp_leaf h d hd).mono (by omega) (by omega)
  | @ph k bs h0 h3 h => exact two k _ _ (by omega) (.inr rfl) h3 fun c hc => (rp_lf (h c hc)).mono (by omega) (Wk_ge k)
  | @nd k w bs hw' h0 h3 h => exact two k _ _ (by omega) (.inl hw') h3 fun c hc => rp_G (h c hc)
theorem cm_of {k : Nat} {b : B} (h : G k b) (hk : k ≤ 3) {s : Str} {r : List D} (hh : Hd b s r) : Cm s r := by
  obtain ⟨e, l, sl, so, bN, bF, bW, wd, hx, hN, hF, hE⟩ := hh
  have hr := rp_comps h hk
  rw [e] at hr
  have hr' : ∀ d ∈ r, RpD 20 3000000 d := fun d hd => hr d (List.mem_cons_of_mem _ hd)
  refine ⟨okv_lst hr (by omega) (by simp; omega) (by omega), ?_, ?_, ?_⟩
  · intro r' hr2
    have hra : ∀ d ∈ r', RpD 20 3000000 d := fun d hd => by
      rw [hr2] at hd
      rcases List.mem_append.mp hd with hd | hd
      · exact hr' d hd
      · rw [List.mem_singleton.mp hd]; exact (rp_int (small (by omega))).mono (by omega) (by omega)
    have ea : r'.length = r.length + 1 := by rw [hr2]; simp
    clear hr2
    exact okv_tup wd ⟨.inr (by omega), fun z => by omega, fun z => by have := hF z; omega⟩ hx sl so hra (by omega) (by omega) (by omega) (by omega)
  · exact okv_tup (r := []) wd ⟨.inr (by simp), fun _ => by simp, fun _ => by simp⟩ hx sl so (fun d hd => nomatch hd) (n := 20) (N := 3000000) (by omega) (by simp) (by omega) (by omega)
  · exact okv_tup (r := r) wdM ⟨.inl rfl, fun z => (by cases z), fun z => (by cases z)⟩ (by decide) (by decide) (by decide +kernel) hr' (by omega) (by omega) (by omega) (by omega)
theorem od_lst {c : B} (h : G 2 c) : Odd (.lst (comps c)) := by
  refine ⟨bad_lst _, lb_lst _ 38, ?_⟩
  have two : ∀ (j : Nat) (w : Str) (bs : List B), j ≤ 1 → (W3 w ∨ w = wPh) → bs.length ≤ 3 → (∀ c ∈ bs, RpD (2 * j + 4) (Wk j) c.toD) → RpD 20 700000 (.lst (comps (.nd w bs))) := fun j w bs hj hw' h3 hc => by
    have hW : Wk j ≤ 220000 := by
      have : j = 0 ∨ j = 1 := by omega
      rcases this with rfl | rfl <;> decide
    have h1 := rp_w hw'
    have h2 := rp_kids h3 hc
    rw [← toDs_map'] at h2
    have hp := isPy_mono _ (show 2 * j + 4 + 1 ≤ 19 by omega) h2.py
    simp only [D.isPy] at hp
    have w1 := h1.w
    have w2 := h2.w
    exact ⟨by simp [comps, D.isPy, D.isPys, hp], by simp [comps, D.py, D.pys, PyData.canLay0, PyData.canLayAll0, h2.lay]; simpa [D.py, PyData.canLay0] using And.intro h1.lay h2.lay, by simp [comps, D.py, D.pys, PyData.showable, PyData.showableAll]; simpa [D.py, PyData.showable] using h2.sh, by simp only [comps, D.py, D.pys, pw, pws] at w1 w2 ⊢; omega⟩
  cases h with
  | lf h => exact (rp_lst (rp_leaf h) 3 (comps_len c)).mono (by omega) (by omega)
  | @ph k bs h0 h3 h => exact two 1 _ _ (by omega) (.inr rfl) h3 fun c hc => (rp_lf (h c hc)).mono (by omega) (Wk_ge 1)
  | @nd k w bs hw' h0 h3 h => exact two 1 _ _ (by omega) (.inl hw') h3 fun c hc => rp_G (h c hc)
theorem od_head {c : B} {s : Str} {r : List D} (hh : Hd c s r) : Odd (.tup .any [.str s]) := by
  obtain ⟨e, l, sl, so, bN, bF, bW, wd, hx, hN, hF, hE⟩ := hh
  have o : Off (([] : List D).length + 1) bN bF bW := ⟨.inr (by simp), fun _ => by simp, fun _ => by simp⟩
  exact ⟨bad_tup (r := []) wd o, lb_tup (r := []) wd o rfl hx 38, (rp_tup (n := 0) (N := 1921) (fun d hd => by rw [List.mem_singleton.mp hd]; exact rp_str s sl so) 1 (by simp)).mono (by omega) (by omega)⟩
end K57
end
section
set_option Elab.async false
set_option linter.all false
set_option maxRecDepth 100000
set_option maxHeartbeats 4000000
set_option autoImplicit false
namespace K57
open PySem PySem.Spec L2 PyProof.Rows PD
variable {i : Ix} {n : Nat} {cs : CS}
theorem nlN : dNotIn (.str "number") (.tup .ex [.str "number", .str "form"]) = some (.sh (.bl false)) := by kernel_rfl
theorem nlF : dNotIn (.str "form") (.tup .ex [.str "number", .str "form"]) = some (.sh (.bl false)) := by kernel_rfl
theorem nlW {w : Str} (hw : W3 w ∨ w = wPh) : dNotIn (.str w) (.tup .ex [.str "number", .str "form"]) = some (.sh (.bl true)) := by
  rcases hw with (rfl | rfl | rfl) | rfl <;> kernel_rfl
theorem t4_tst {s : Str} {r : List D} {b : Bool} (h : dNotIn (.str s) (.tup .ex [.str "number", .str "form"]) = some (.sh (.bl b))) (u2 u3 u4 : Option T) : t4T [shD' (.cell i), shD' (.tup .ex (.str s :: r)), u2, u3, u4] cs = some (b, [shD' (.cell i), shD' (.tup .ex (.str s :: r)), u2, u3, u4], cs) := by
  simp [t4T, i0a, h, runBody, sRet, sRetV, sRetN, sSeq, sIf, sAsg, sNext, sPar, sPar3, eAn, eOo, eNt, eIf, eN, eTup, eLst, e1, e2, t2, tV, tNt, tAn, tOo, eCh, tCh, aCons, aNil, eVar, eMov, eC, eIx, eSl, oNo, oAt, eCall, gN, gTpD, gConsD, gNilD, env0, keep_same, T.toD, T.toDs, dIsi, D.tyName, isKind, isAnyKind, D.isT, dLen, lenD, dEqX, dNeX, unlike, D.seqL, dEq, dNe, dEqv, D.isPy, D.isPys, D.py, D.pys, PyData.eqv, PyData.eqvAll, dNeg, dIx]
theorem bent_leaf {b : B} (h : Lf b) (hs : Shape cs) : ∃ ts, m_law_bent [.cell i, b.toD] cs = some (.lst ts, cs) ∧ Okt ts ∧ ts.length ≤ 60 := by
  have hf := hs.flat
  have hh : ∃ s r, Hd b s r ∧ dNotIn (.str s) (.tup .ex [.str "number", .str "form"]) = some (.sh (.bl false)) := by
    cases h with
    | num h1 h2 => exact ⟨_, _, hd_num _, nlN⟩
    | frm h1 h2 h3 h4 h5 => exact ⟨_, _, hd_frm _ _ _, nlF⟩
  obtain ⟨s, r, hh, hn⟩ := hh
  have cm := cm_of (k := 0) (.lf h) (by omega) hh
  rw [toD_comps, hh.e]
  obtain ⟨t0, a0, o0, l0⟩ := t0_ok (i := i) hh.l cm hf
  obtain ⟨t1, a1, o1, l1⟩ := t1_ok (i := i) (v := .tup .ex (.str s :: r)) o0 (by omega) hf
  obtain ⟨t2, u2, a2, o2, l2⟩ := t2_ok (i := i) (v := .tup .ex (.str s :: r)) o1 (by omega) hf
  obtain ⟨t3, a3, o3, l3⟩ := t3_ok (i := i) (v := .tup .ex (.str s :: r)) (u3 := u2) o2 (by omega) hf
  have a4 := t4_tst (i := i) (cs := cs) (r := r) hn (some (.lst t3)) (Option.map T.sh u2) none
  refine ⟨t3, ?_, o3, by omega⟩
  have g0 : env0 N_law_bent.length [.cell i, .tup .ex (.str s :: r)] = [shD' (.cell i), shD' (.tup .ex (.str s :: r)), none, none, none] := rfl
  refine u_run (env1 := [shD' (.cell i), shD' (.tup .ex (.str s :: r)), none, Option.map T.sh u2, none]) (cs1 := cs) ?_
  rw [b_bent, g0]
  exact (u_seq a0).trans ((u_seq a1).trans ((u_seq a2).trans ((u_seq a3).trans ((u_seq ((u_ifF a4).trans rfl)).trans rfl))))
/-! ### nodes -/
theorem cut_lo {α : Type} (xs : List α) (j : Nat) (h : j ≤ xs.length) : PD.cutD xs none (some (j : Int)) = xs.take j := by
  unfold PD.cutD
  rw [HT.sIx_nat, HT.sIx_none, Nat.min_eq_left h]
  simp
theorem cut_hi {α : Type} (xs : List α) (j : Nat) (h : j ≤ xs.length) : PD.cutD xs (some (j : Int)) none = xs.drop j := by
  unfold PD.cutD
  rw [HT.sIx_nat, HT.sIx_none, Nat.min_eq_left h, List.take_of_length_le]
  rw [List.length_drop]
  exact Nat.le_refl _
theorem t4A_ok {s : Str} {ks : List D} {u2 u3 u4 : Option T} (h : Ok n i cs) (hn : n < 2 ^ 49) (h1 : 1 ≤ ks.length) (h2 : ks.length ≤ 3) : ∃ (r : Nat) (cs' : CS), t4A [shD' (.cell i), shD' (.tup .ex [.str s, .lst ks]), u2, u3, u4] cs = some (.nx, [shD' (.cell i), shD' (.tup .ex [.str s, .lst ks]), u2, u3, shD' (.int r)], cs') ∧ r < ks.length ∧ Ok (n + 1) i cs' := by
  obtain ⟨r, cs', e, r0, r1, ok⟩ := e_draw (m := (ks.length : Int)) h (by omega) (by omega) (by omega)
  obtain ⟨k, rfl⟩ := Int.eq_ofNat_of_zero_le r0
  refine ⟨k, cs', ?_, by omega, ok⟩
  simp [t4A, i1, e, runBody, sRet, sRetV, sRetN, sSeq, sIf, sAsg, sNext, sPar, sPar3, eAn, eOo, eNt, eIf, eN, eTup, eLst, e1, e2, t2, tV, tNt, tAn, tOo, eCh, tCh, aCons, aNil, eVar, eMov, eC, eIx, eSl, oNo, oAt, eCall, gN, gTpD, gConsD, gNilD, env0, keep_same, T.toD, T.toDs, dIsi, D.tyName, isKind, isAnyKind, D.isT, dLen, lenD, dEqX, dNeX, unlike, D.seqL, dEq, dNe, dEqv, D.isPy, D.isPys, D.py, D.pys, PyData.eqv, PyData.eqvAll, dNeg, dIx]
def oddsN (p : D) (cp : List D) (hd : D) : List D := [.non, .int 5, .lst cp, .tup .ex [.str "number", .int (-1)], .tup .ex [.str "plus", .lst []], .tup .any [hd], .tup .ex [.str "phases", .lst [p]]]
theorem t4I_ok {s : Str} {ks cp : List D} {hd : D} {r : Nat} {ts : List T} {u3 : Option T} (hr : ks[r]? = some (.tup .ex (hd :: cp))) (hc : cp.length ≤ 3) : t4I [shD' (.cell i), shD' (.tup .ex [.str s, .lst ks]), some (.lst ts), u3, shD' (.int r)] cs = some (oddsN (.tup .ex (hd :: cp)) (hd :: cp) hd, [shD' (.cell i), shD' (.tup .ex [.str s, .lst ks]), some (.lst ts), u3, shD' (.int r)], cs) := by
  have hlt : r < ks.length := (List.getElem?_eq_some_iff.mp hr).1
  have ea : atI ks (r : Int) = some (.tup .ex (hd :: cp)) := by rw [atI_nat _ _ hlt, hr]
  have ec : PD.cutD (hd :: cp) none (some 1) = [hd] := by
    have := cut_lo (hd :: cp) 1 (by simp)
    exact this
  simp [t4I, oddsN, iSeq, itemsOf, i1, ea, dList, D.seq, dSl, ec, dSub, toDs_shD, -List.map_map, runBody, sRet, sRetV, sRetN, sSeq, sIf, sAsg, sNext, sPar, sPar3, eAn, eOo, eNt, eIf, eN, eTup, eLst, e1, e2, t2, tV, tNt, tAn, tOo, eCh, tCh, aCons, aNil, eVar, eMov, eC, eIx, eSl, oNo, oAt, eCall, gN, gTpD, gConsD, gNilD, env0, keep_same, T.toD, T.toDs, dIsi, D.tyName, isKind, isAnyKind, D.isT, dLen, lenD, dEqX, dNeX, unlike, D.seqL, dEq, dNe, dEqv, D.isPy, D.isPys, D.py, D.pys, PyData.eqv, PyData.eqvAll, dNeg, dIx]
theorem t4B_ok {s : Str} {ks : List D} {r : Nat} {ts : List T} {d : D} (hr : r < ks.length) (hk : ks.length ≤ 3) (hl : ts.length ≤ 100) : t4B [shD' (.cell i), shD' (.tup .ex [.str s, .lst ks]), some (.lst ts), shD' d, shD' (.int r)] cs = some (.nx, [shD' (.cell i), shD' (.tup .ex [.str s, .lst ks]), some (.lst (ts ++ [.sh (.tup .ex [.str s, .lst (ks.take r ++ d :: ks.drop (r + 1))])])), shD' d, shD' (.int r)], cs) := by
  have sl : ts.length < sizeLine := by rw [sizeLine_eq]; omega
  have c1 := cut_lo ks r (by omega)
  have c2 := cut_hi ks (r + 1) (by omega)
  have e1' : (((r + 1 : Nat)) : Int) = (r : Int) + 1 := by omega
  rw [e1'] at c2
  have l1 : min r ks.length + 1 ≤ sizeLine := by rw [sizeLine_eq]; omega
  have l2 : min r ks.length + 1 + (ks.length - (r + 1)) ≤ sizeLine := by rw [sizeLine_eq]; omega
  have ed : T.toDs (List.map T.sh (ks.take r) ++ T.sh d :: List.map T.sh (ks.drop (r + 1))) = ks.take r ++ d :: ks.drop (r + 1) := by
    rw [toDs_eq]; simp [List.map_map, T.toD, Function.comp_def]
  simp [t4B, sApp, sl, i0, i1, dSl, c1, c2, eAdd, catL, catS, catI, dAdd, l1, l2, ed, -List.map_map, -List.map_take, -List.map_drop, runBody, sRet, sRetV, sRetN, sSeq, sIf, sAsg, sNext, sPar, sPar3, eAn, eOo, eNt, eIf, eN, eTup, eLst, e1, e2, t2, tV, tNt, tAn, tOo, eCh, tCh, aCons, aNil, eVar, eMov, eC, eIx, eSl, oNo, oAt, eCall, gN, gTpD, gConsD, gNilD, env0, keep_same, T.toD, T.toDs, dIsi, D.tyName, isKind, isAnyKind, D.isT, dLen, lenD, dEqX, dNeX, unlike, D.seqL, dEq, dNe, dEqv, D.isPy, D.isPys, D.py, D.pys, PyData.eqv, PyData.eqvAll, dNeg, dIx]
theorem t4C_ok {s : Str} {ks : List D} {ts : List T} {u3 u4 : Option T} (hk : ks.length ≤ 3) (hl : ts.length ≤ 100) : t4C [shD' (.cell i), shD' (.tup .ex [.str s, .lst ks]), some (.lst ts), u3, u4] cs = some (.nx, [shD' (.cell i), shD' (.tup .ex [.str s, .lst ks]), some (.lst ((T.toDs ts).map T.sh ++ [.sh (.tup .ex [.str s, .tup .pl ks]), .sh (.tup .ex [.str s, .lst (ks ++ [.non])]), .sh (.tup .ex [.str "sum", .lst ks])])), u3, u4], cs) := by
  have sl : ts.length + 3 ≤ sizeLine := by rw [sizeLine_eq]; omega
  have l1 : ks.length + 1 ≤ sizeLine := by rw [sizeLine_eq]; omega
  have ed : T.toDs (List.map T.sh ks ++ [T.sh .non]) = ks ++ [.non] := by
    rw [toDs_eq]; simp [List.map_map, T.toD, Function.comp_def]
  simp [t4C, i0, i1, dTuple, D.seqL, eAdd, catL, catS, toDs_len, sl, l1, ed, -List.map_map, runBody, sRet, sRetV, sRetN, sSeq, sIf, sAsg, sNext, sPar, sPar3, eAn, eOo, eNt, eIf, eN, eTup, eLst, e1, e2, t2, tV, tNt, tAn, tOo, eCh, tCh, aCons, aNil, eVar, eMov, eC, eIx, eSl, oNo, oAt, eCall, gN, gTpD, gConsD, gNilD, env0, keep_same, T.toD, T.toDs, dIsi, D.tyName, isKind, isAnyKind, D.isT, dLen, lenD, dEqX, dNeX, unlike, D.seqL, dEq, dNe, dEqv, D.isPy, D.isPys, D.py, D.pys, PyData.eqv, PyData.eqvAll, dNeg, dIx]
end K57
end
section
set_option Elab.async false
set_option linter.all false
set_option maxRecDepth 100000
set_option maxHeartbeats 4000000
set_option autoImplicit false
namespace K57
open PySem PySem.Spec L2 PyProof.Rows PD
variable {i : Ix} {n : Nat} {cs : CS}
theorem okv_pl {w : Str} (hw : W3 w ∨ w = wPh) {bs : List B} (h3 : bs.length ≤ 3) (h : ∀ b ∈ bs, G 2 b) : Okv (.tup .ex [.str w, .tup .pl (bs.map B.toD)]) := by
  have hW : Wk 2 ≤ 700000 := by decide
  have hk : ∀ d ∈ bs.map B.toD, RpD 8 (Wk 2) d := fun d hd => by
    obtain ⟨b, hb, rfl⟩ := List.mem_map.mp hd
    exact rp_G (h b hb)
  have hR : RpD 10 (1921 + (3 * (Wk 2 + 2) + 3) + 7) (.tup .ex [.str w, .tup .pl (bs.map B.toD)]) := rp_two (n := 9) ((rp_w hw).mono (by omega) (Nat.le_refl _)) (rp_tup hk 3 (by simpa using h3))
  obtain ⟨p, hp⟩ := rp_repr hR (by omega) (by omega)
  have wd := wdW hw
  have e0 := eqNil .ex [.str w, .tup .pl (bs.map B.toD)] (by
    have := isPy_mono _ (show 10 ≤ 60 by omega) hR.py
    simpa [D.isPy] using this)
  have ne2 : dNeX (.int 2) (.int 2) = some (.sh (.bl false)) := by kernel_rfl
  refine ⟨false, p, fun cs hs => ?_, ib_bad ⟨fun cs hs => ?_, fun cs hs => ?_⟩, hp⟩
  · show m_law_is_bound (39 + 1) _ _ = _
    simp [m_law_is_bound, b_law_is_bound, N_law_is_bound, e0, i0, i1, wd.n, wd.f, wd.l, ne2, keep, hs.flat, T.flat, D.flat, D.flats, runBody, sRet, sSeq, sIf, sNext, eAn, e2, t2, tV, tNt, tOo, tAn, eIx, eC, eVar, eTup, aCons, aNil, eN, eCall, env0, T.toD, T.toDs, dIsi, D.tyName, isKind, isAnyKind, D.isT, dIx, dLen, lenD]
  · simp [m_is_node, b_is_node, N_is_node, tup2, i0, i1, wd.w, keep, hs.flat, T.flat, D.flat, D.flats, runBody, sRet, sRetV, sRetN, sSeq, sIf, sAsg, sNext, sPar, sPar3, eAn, eOo, eNt, eIf, eN, eTup, eLst, e1, e2, t2, tV, tNt, tAn, tOo, eCh, tCh, aCons, aNil, eVar, eMov, eC, eIx, eSl, oNo, oAt, eCall, gN, gTpD, gConsD, gNilD, env0, keep_same, T.toD, T.toDs, dIsi, D.tyName, isKind, isAnyKind, D.isT, dLen, lenD, dEqX, dNeX, unlike, D.seqL, dEq, dNe, dEqv, D.isPy, D.isPys, D.py, D.pys, PyData.eqv, PyData.eqvAll, dNeg, dIx]
  · have hn := wd.n
    simp [m_is_leaf, b_is_leaf, N_is_leaf, tup2, i0, i1, hn, keep, hs.flat, T.flat, D.flat, D.flats, runBody, sRet, sSeq, sIf, sNext, eAn, e2, t2, tV, tNt, tOo, tAn, eIx, eC, eVar, eTup, aCons, aNil, eN, eCall, env0, T.toD, T.toDs, dIsi, D.tyName, isKind, isAnyKind, D.isT, dIx, dLen, lenD]
theorem okv_sum {bs : List B} (h3 : bs.length ≤ 3) (h : ∀ b ∈ bs, G 2 b) : Okv (.tup .ex [.str "sum", .lst (bs.map B.toD)]) := by
  have hW : Wk 2 ≤ 700000 := by decide
  refine okv_tup (r := [.lst (bs.map B.toD)]) (n := 20) (N := 3000000) wdS ⟨.inl rfl, fun z => (by cases z), fun z => (by cases z)⟩ (by decide) (by decide) (by decide +kernel) (fun d hd => ?_) (by omega) (by simp) (by omega) (by omega)
  rw [List.mem_singleton.mp hd]
  exact (rp_kids (k := 2) (n := 8) h3 fun b hb => rp_G (h b hb)).mono (by omega) (by omega)
theorem oddsOk {w : Str} (hw : W3 w ∨ w = wPh) {bs : List B} (h3 : bs.length ≤ 3) (h : ∀ b ∈ bs, G 2 b) {r : Nat} {c : B} (hr : bs[r]? = some c) {s : Str} {q : List D} (hh : Hd c s q) : ∀ d ∈ oddsN c.toD (comps c) (.str s), Okv (.tup .ex [.str w, .lst ((bs.map B.toD).take r ++ d :: (bs.map B.toD).drop (r + 1))]) := by
  have hlt : r < bs.length := (List.getElem?_eq_some_iff.mp hr).1
  have hc : G 2 c := h c (List.mem_of_getElem? hr)
  have ha : ∀ b ∈ bs.take r, G 2 b := fun b hb => h b (List.mem_of_mem_take hb)
  have hb : ∀ b ∈ bs.drop (r + 1), G 2 b := fun b hb => h b (List.mem_of_mem_drop hb)
  have hl : (bs.take r).length + (bs.drop (r + 1)).length ≤ 3 := by
    rw [List.length_take, List.length_drop]; omega
  rw [← List.map_take, ← List.map_drop]
  have mix : ∀ d, Odd d → Okv (.tup .ex [.str w, .lst ((bs.take r).map B.toD ++ d :: (bs.drop (r + 1)).map B.toD)]) := fun d o => okv_mix hw ha hb hl o.bad o.lb o.rp
  intro d hd
  simp only [oddsN, List.mem_cons, List.not_mem_nil, or_false] at hd
  rcases hd with rfl | rfl | rfl | rfl | rfl | rfl | rfl
  · exact mix _ od0
  · exact mix _ od1
  · exact mix _ (od_lst hc)
  · exact mix _ od3
  · exact mix _ od4
  · exact mix _ (od_head hh)
  · exact okv_phs hw ha hb hc hl
theorem bent_node {w : Str} (hw : W3 w ∨ w = wPh) {bs : List B} (hne : bs ≠ []) (h3 : bs.length ≤ 3) (h : ∀ b ∈ bs, G 2 b) (hG : G 3 (.nd w bs)) (ok : Ok n i cs) (hn : n < 2 ^ 48) : ∃ ts cs', m_law_bent [.cell i, B.toD (.nd w bs)] cs = some (.lst ts, cs') ∧ Okt ts ∧ ts.length ≤ 100 ∧ Ok (n + 1) i cs' := by
  have hf := ok.flat
  have hh := hd_nd hw bs
  have cm := cm_of (k := 3) hG (by omega) hh
  have ek : B.toDs bs = bs.map B.toD := toDs_map' bs
  rw [ek] at cm hh
  rw [B.toD_nd]
  obtain ⟨t0, a0, o0, l0⟩ := t0_ok (i := i) (.inl rfl) cm hf
  obtain ⟨t1, a1, o1, l1⟩ := t1_ok (i := i) (v := .tup .ex [.str w, .lst (bs.map B.toD)]) o0 (by omega) hf
  obtain ⟨t2, u2, a2, o2, l2⟩ := t2_ok (i := i) (v := .tup .ex [.str w, .lst (bs.map B.toD)]) o1 (by omega) hf
  obtain ⟨t3, a3, o3, l3⟩ := t3_ok (i := i) (v := .tup .ex [.str w, .lst (bs.map B.toD)]) (u3 := u2) o2 (by omega) hf
  have a4 := t4_tst (i := i) (cs := cs) (r := [.lst (bs.map B.toD)]) (nlW hw) (some (.lst t3)) (Option.map T.sh u2) none
  obtain ⟨r, cs1, aA, hr, ok1⟩ := t4A_ok (s := w) (ks := bs.map B.toD) (u2 := some (.lst t3)) (u3 := Option.map T.sh u2) (u4 := none) ok (by omega) (by have := List.length_pos_iff.mpr hne; rw [List.length_map]; omega) (by simpa using h3)
  rw [List.length_map] at hr
  have ebr : bs[r]? = some bs[r] := List.getElem?_eq_getElem hr
  have hG2 : G 2 bs[r] := h _ (List.getElem_mem hr)
  obtain ⟨s, q, hq⟩ := hd_of hG2
  have ekr : (bs.map B.toD)[r]? = some (.tup .ex (.str s :: q)) := by rw [List.getElem?_map, ebr, Option.map_some, toD_comps, hq.e]
  have hql : q.length ≤ 3 := by have := hq.l; omega
  have aI := t4I_ok (i := i) (cs := cs1) (s := w) (ts := t3) (u3 := Option.map T.sh u2) ekr hql
  have hodd := oddsOk hw h3 h ebr hq
  rw [hq.e, toD_comps, hq.e] at hodd
  obtain ⟨env', cs2, eF, rfl, t4, u4, rfl, o4, l4⟩ := forL_run (tg := gN 3) (b := t4B) (ds := oddsN (.tup .ex (.str s :: q)) (.str s :: q) (.str s)) (i := 0) (env := [shD' (.cell i), shD' (.tup .ex [.str w, .lst (bs.map B.toD)]), some (.lst t3), Option.map T.sh u2, shD' (.int r)]) (cs := cs1)
    (J := fun k env cs' => cs' = cs1 ∧ ∃ ts u3, env = [shD' (.cell i), shD' (.tup .ex [.str w, .lst (bs.map B.toD)]), some (.lst ts), u3, shD' (.int r)] ∧ Okt ts ∧ ts.length ≤ t3.length + k)
    (fun j d hd env cs' hJ => by
      obtain ⟨rfl, ts, u3, rfl, h1, h2⟩ := hJ
      have hj : j < 7 := (List.getElem?_eq_some_iff.mp hd).1
      have hO := hodd d (List.mem_of_getElem? hd)
      have e := t4B_ok (i := i) (cs := cs') (s := w) (ks := bs.map B.toD) (ts := ts) (d := d) (r := r) (by simpa using hr) (by simpa using h3) (by omega)
      exact ⟨_, _, _, rfl, e, rfl, _, _, rfl, h1.app (.con hO .nil), by simp; omega⟩) ⟨rfl, _, _, rfl, o3, by omega⟩
  have aF := (u_for aI).trans eF
  have l4' : t4.length ≤ 60 := by
    have e7 : (oddsN (.tup .ex (.str s :: q)) (.str s :: q) (.str s)).length = 7 := rfl
    rw [e7] at l4
    omega
  have aC := t4C_ok (i := i) (cs := cs2) (s := w) (ks := bs.map B.toD) (ts := t4) (u3 := u4) (u4 := shD' (.int r)) (by simpa using h3) (by omega)
  have hlast : Okt ((T.toDs t4).map T.sh ++ [.sh (.tup .ex [.str w, .tup .pl (bs.map B.toD)]), .sh (.tup .ex [.str w, .lst (bs.map B.toD ++ [.non])]), .sh (.tup .ex [.str "sum", .lst (bs.map B.toD)])]) := by
    have k2 : Okv (.tup .ex [.str w, .lst (bs.map B.toD ++ [.non])]) := okv_mix (bs := []) hw h (fun b hb => nomatch hb) (by simpa using h3) od0.bad od0.lb od0.rp
    exact o4.shared.app (.con (okv_pl hw h3 h) (.con k2 (.con (okv_sum h3 h) .nil)))
  refine ⟨_, cs2, ?_, hlast, by simp [toDs_len]; omega, ok1⟩
  have g0 : env0 N_law_bent.length [.cell i, .tup .ex [.str w, .lst (bs.map B.toD)]] = [shD' (.cell i), shD' (.tup .ex [.str w, .lst (bs.map B.toD)]), none, none, none] := rfl
  refine u_run (env1 := [shD' (.cell i), shD' (.tup .ex [.str w, .lst (bs.map B.toD)]), none, u4, shD' (.int r)]) (cs1 := cs2) ?_
  rw [b_bent, g0]
  exact (u_seq a0).trans ((u_seq a1).trans ((u_seq a2).trans ((u_seq a3).trans ((u_seq ((u_ifT a4).trans ((u_seq aA).trans ((u_seq aF).trans aC)))).trans rfl))))
theorem e_bent {b : B} (hG : G 3 b) (ok : Ok n i cs) (hn : n < 2 ^ 48) : ∃ ts cs', m_law_bent [.cell i, b.toD] cs = some (.lst ts, cs') ∧ Okt ts ∧ ts.length ≤ 100 ∧ Ok (n + 1) i cs' := by
  rcases shape3 hG with h | ⟨w, bs, rfl, hw, h0, h3, h⟩
  · obtain ⟨ts, e, o, l⟩ := bent_leaf (i := i) h ok.sh
    exact ⟨ts, cs, e, o, by omega, ok.mono (by omega)⟩
  · exact bent_node hw h0 h3 h hG ok hn
end K57
end
section
set_option Elab.async false
set_option linter.all false
set_option maxRecDepth 100000
set_option maxHeartbeats 4000000
set_option autoImplicit false
namespace K57
open PySem PySem.Spec L2 PyProof.Rows PD
variable {i : Ix} {n : Nat} {cs : CS}
theorem neRep (p : PyData) : dNeX (.rep p) (.rep p) = some (.sh (.bl false)) := by simp [dNeX, unlike, D.seqL, dNe, dEqv]
theorem eqRep (p : PyData) : dEqX (.rep p) (.rep p) = some (.sh (.bl true)) := by simp [dEqX, unlike, D.seqL, dEq, dEqv]
def b2S : Sv := (sSeq (sPar 5 10 (aCons (eCall (m_law_is_bound FU) [] (aCons (eVar 9) aNil)) (aCons (eN dRepr (aCons (eVar 9) aNil)) aNil))) (sIf (tOo (tNt (tV (eCall (m_law_exact FU) [] (aCons (eLst (aCons (eVar 5) (aCons (eVar 5) aNil))) (aCons (eLst (aCons (eCall (m_is_bound) [] (aCons (eVar 9) aNil)) (aCons (eCallK (m_is_bound) kw0_is_bound_value aNil (aCons (eVar 9) aNil)) aNil))) aNil))))) (t2 dNeX (eN dRepr (aCons (eVar 9) aNil)) (eVar 10))) (sRet (eC (.bl false))) sNext))
theorem b2_ok {v w d : D} {u2 u3 u4 u5 u6 u7 u8 u10 : Option T} (h : Okv d) (hs : Shape cs) : ∃ v5 v10, b2S [shD' v, shD' w, u2, u3, u4, u5, u6, u7, u8, shD' d, u10] cs = some (.nx, [shD' v, shD' w, u2, u3, u4, v5, u6, u7, u8, shD' d, v10], cs) := by
  obtain ⟨b, p, h1, h2, h3⟩ := h
  have q1 := h1 cs hs
  have q2 := h2 cs hs
  have qe := ex2 b hs.flat
  have qn := neRep p
  have eo : ordL kw0_is_bound_value ([] : List D) [d] = [d] := rfl
  refine ⟨shD' (.bl b), shD' (.rep p), ?_⟩
  simp [b2S, q1, h3, eCallK, eo, q2, qe, qn, keep, hs.flat, T.flat, D.flat, D.flats, runBody, sRet, sSeq, sIf, sPar, sNext, e2, t2, tV, tNt, tOo, eC, eVar, eLst, aCons, aNil, eN, eCall, T.toD, T.toDs]
theorem b_right : b_law_right = (sSeq (sPar 1 2 (aCons (eCall (m_law_bound FU) [] (aCons (eVar 0) (aCons (eC (.int 3)) aNil))) (aCons (eC .non) aNil))) (sSeq (sAsg (eN dRepr (aCons (eVar 1) aNil)) (gN 2)) (sSeq (sFor (iRg1 (aCons (eC (.int 3)) aNil)) (gN 3) b1S) (sSeq (sFor (iSeq (eAdd (eLst (aCons (eVar 1) aNil)) (eCall (m_law_bent) [] (aCons (eVar 0) (aCons (eVar 1) aNil))))) (gN 9) b2S) (sRet (e2 dEqX (eN dRepr (aCons (eVar 1) aNil)) (eVar 2))))))) := rfl
theorem e_right (ok : Ok n i cs) (hn : n < 2 ^ 40) : ∃ cs', m_law_right [.cell i] cs = some (.sh (.bl true), cs') ∧ Ok (n + 800) i cs' := by
  obtain ⟨b, cs1, e1', hG, ok1⟩ := e_bound 3 FU (by decide) ok (by omega)
  have hW : Wk 3 ≤ 16000000 := by decide
  obtain ⟨p, hp⟩ := rp_repr (rp_G hG) (by omega) hW
  have e1'' : m_law_bound FU [.cell i, .int 3] cs = some (.sh b.toD, cs1) := e1'
  have g0 : env0 N_law_right.length [.cell i] = [shD' (.cell i), none, none, none, none, none, none, none, none, none, none] := rfl
  have g1 : sPar 1 2 (aCons (eCall (m_law_bound FU) [] (aCons (eVar 0) (aCons (eC (.int 3)) aNil))) (aCons (eC .non) aNil)) [shD' (.cell i), none, none, none, none, none, none, none, none, none, none] cs = some (.nx, [shD' (.cell i), shD' b.toD, shD' .non, none, none, none, none, none, none, none, none], cs1) := by
    simp [e1'', runBody, sRet, sRetV, sRetN, sSeq, sIf, sAsg, sNext, sPar, sPar3, eAn, eOo, eNt, eIf, eN, eTup, eLst, e1, e2, t2, tV, tNt, tAn, tOo, eCh, tCh, aCons, aNil, eVar, eMov, eC, eIx, eSl, oNo, oAt, eCall, gN, gTpD, gConsD, gNilD, env0, keep_same, T.toD, T.toDs, dIsi, D.tyName, isKind, isAnyKind, D.isT, dLen, lenD, dEqX, dNeX, unlike, D.seqL, dEq, dNe, dEqv, D.isPy, D.isPys, D.py, D.pys, PyData.eqv, PyData.eqvAll, dNeg, dIx]
  have g2 : sAsg (eN dRepr (aCons (eVar 1) aNil)) (gN 2) [shD' (.cell i), shD' b.toD, shD' .non, none, none, none, none, none, none, none, none] cs1 = some (.nx, [shD' (.cell i), shD' b.toD, shD' (.rep p), none, none, none, none, none, none, none, none], cs1) := by
    simp [hp, runBody, sRet, sRetV, sRetN, sSeq, sIf, sAsg, sNext, sPar, sPar3, eAn, eOo, eNt, eIf, eN, eTup, eLst, e1, e2, t2, tV, tNt, tAn, tOo, eCh, tCh, aCons, aNil, eVar, eMov, eC, eIx, eSl, oNo, oAt, eCall, gN, gTpD, gConsD, gNilD, env0, keep_same, T.toD, T.toDs, dIsi, D.tyName, isKind, isAnyKind, D.isT, dLen, lenD, dEqX, dNeX, unlike, D.seqL, dEq, dNe, dEqv, D.isPy, D.isPys, D.py, D.pys, PyData.eqv, PyData.eqvAll, dNeg, dIx]
  obtain ⟨v3, v4, v5, v6, v8, cs2, g3, ok2⟩ := l1_ok (b := b) (nt := .rep p) hG none none none none none none none none ok1 (by omega)
  simp only [Option.map_none] at g3
  obtain ⟨ts, cs3, e4, o4, l4, ok3⟩ := e_bent hG ok2 (by omega)
  have sl : 1 + ts.length ≤ sizeLine := by rw [sizeLine_eq]; omega
  have sl' : ts.length + 1 ≤ sizeLine := by rw [sizeLine_eq]; omega
  have hi : iSeq (eAdd (eLst (aCons (eVar 1) aNil)) (eCall (m_law_bent) [] (aCons (eVar 0) (aCons (eVar 1) aNil)))) [shD' (.cell i), shD' b.toD, shD' (.rep p), v3, v4, v5, v6, none, v8, none, none] cs2 = some (b.toD :: T.toDs ts, [shD' (.cell i), shD' b.toD, shD' (.rep p), v3, v4, v5, v6, none, v8, none, none], cs3) := by
    simp [iSeq, itemsOf, e4, eAdd, catL, sl, sl', runBody, sRet, sRetV, sRetN, sSeq, sIf, sAsg, sNext, sPar, sPar3, eAn, eOo, eNt, eIf, eN, eTup, eLst, e1, e2, t2, tV, tNt, tAn, tOo, eCh, tCh, aCons, aNil, eVar, eMov, eC, eIx, eSl, oNo, oAt, eCall, gN, gTpD, gConsD, gNilD, env0, keep_same, T.toD, T.toDs, dIsi, D.tyName, isKind, isAnyKind, D.isT, dLen, lenD, dEqX, dNeX, unlike, D.seqL, dEq, dNe, dEqv, D.isPy, D.isPys, D.py, D.pys, PyData.eqv, PyData.eqvAll, dNeg, dIx]
  obtain ⟨env', cs4, eF, rfl, w5, w9, w10, rfl⟩ := forL_run (tg := gN 9) (b := b2S) (ds := b.toD :: T.toDs ts) (i := 0) (env := [shD' (.cell i), shD' b.toD, shD' (.rep p), v3, v4, v5, v6, none, v8, none, none]) (cs := cs3)
    (J := fun k env cs' => cs' = cs3 ∧ ∃ w5 w9 w10, env = [shD' (.cell i), shD' b.toD, shD' (.rep p), v3, v4, w5, v6, none, v8, w9, w10])
    (fun j d hd env cs' hJ => by
      obtain ⟨rfl, w5, w9, w10, rfl⟩ := hJ
      have hO : Okv d := by
        have hm := List.mem_of_getElem? hd
        rcases List.mem_cons.mp hm with rfl | hm
        · exact okv_good hG (by omega)
        · rw [toDs_eq] at hm
          obtain ⟨t, ht, rfl⟩ := List.mem_map.mp hm
          exact o4 t ht
      obtain ⟨x5, x10, e⟩ := b2_ok (v := .cell i) (w := b.toD) (u2 := shD' (.rep p)) (u3 := v3) (u4 := v4) (u5 := w5) (u6 := v6) (u7 := none) (u8 := v8) (u10 := w10) hO ok3.sh
      exact ⟨_, _, _, rfl, e, rfl, _, _, _, rfl⟩) ⟨rfl, _, _, _, rfl⟩
  have g4 := (u_for (tg := gN 9) (b := b2S) hi).trans eF
  have g5 : ∃ env5, sRet (e2 dEqX (eN dRepr (aCons (eVar 1) aNil)) (eVar 2)) [shD' (.cell i), shD' b.toD, shD' (.rep p), v3, v4, w5, v6, none, v8, w9, w10] cs4 = some (.rt (.sh (.bl true)), env5, cs4) := by
    have qn := eqRep p
    exact ⟨_, by simp [hp, qn, keep, ok3.flat, T.flat, D.flat, sRet, e2, eN, aCons, aNil, eVar, T.toD, T.toDs]; rfl⟩
  obtain ⟨env5, g5⟩ := g5
  refine ⟨cs4, ?_, ok3.mono (by omega)⟩
  refine u_run (env1 := env5) (cs1 := cs4) ?_
  rw [b_right, g0]
  exact (u_seq g1).trans ((u_seq g2).trans ((u_seq g3).trans ((u_seq g4).trans g5)))
end K57
end
section
set_option Elab.async false
set_option linter.all false
set_option maxRecDepth 100000
set_option maxHeartbeats 4000000
set_option autoImplicit false
namespace K57
open PySem PySem.Spec L2 PyProof.Rows PD
/-! ### the purses -/
theorem intsOf_map (l : List Int) : intsOf (l.map D.int) = some l := by
  induction l with
  | nil => rfl
  | cons a l ih => simp [intsOf, ih]
theorem cut_map {α β : Type} (f : α → β) (xs : List α) (lo hi : Option Int) : PD.cutD (xs.map f) lo hi = (PD.cutD xs lo hi).map f := by
  unfold PD.cutD
  rw [List.length_map, List.map_take, List.map_drop]
theorem pwM : ∃ A M : Int, 0 < M ∧ dPow (.int 10) (.int 60) = some (.sh (.int A)) ∧ dPow (.int A) (.int 8) = some (.sh (.int M)) := ⟨10 ^ 60, (10 ^ 60) ^ 8, by decide +kernel, by kernel_rfl, by kernel_rfl⟩
theorem pw18 : dPow (.int 10) (.int 18) = some (.sh (.int 1000000000000000000)) := by kernel_rfl
theorem e_purse (ns : List Int) (k : Nat) : ∃ a b : Int, 0 ≤ a ∧ 0 ≤ b ∧ b < 2147483629 ∧ ∀ cs : CS, m_law_purse [.rlst (ns.map D.int), .int k] cs = some (.sh (.cell cs.length), cs ++ [Pu a b 0 k]) := by
  obtain ⟨A, M, hM, p1, p2⟩ := pwM
  generalize hS : (PD.cutD ns (some (k : Int)) (some ((k : Int) + 1))).sum = S
  refine ⟨(if 0 > S - 1000000000000000000 then 0 else S - 1000000000000000000) % M, S % 2147483629, Int.emod_nonneg _ (by omega), Int.emod_nonneg _ (by decide), Int.emod_lt_of_pos _ (by decide), fun cs => ?_⟩
  have e1' : T.toDs (((PD.cutD ns (some (k : Int)) (some ((k : Int) + 1))).map D.int).map T.sh) = (PD.cutD ns (some (k : Int)) (some ((k : Int) + 1))).map D.int := toDs_map _
  simp [m_law_purse, b_law_purse, N_law_purse, dSl, cut_map, eAdd, catI, dAdd, dSum, on1L, intsOf_map, hS, pw18, p1, p2, dSub, dMax2, dInt, dMod, hM, eCell, toDs_shD, -List.map_map, runBody, sRet, sRetV, sRetN, sSeq, sIf, sAsg, sNext, sPar, sPar3, eAn, eOo, eNt, eIf, eN, eTup, eLst, e1, e2, t2, tV, tNt, tAn, tOo, eCh, tCh, aCons, aNil, eVar, eMov, eC, eIx, eSl, oNo, oAt, eCall, gN, gTpD, gConsD, gNilD, env0, keep_same, T.toD, T.toDs, dIsi, D.tyName, isKind, isAnyKind, D.isT, dLen, lenD, dEqX, dNeX, unlike, D.seqL, dEq, dNe, dEqv, D.isPy, D.isPys, D.py, D.pys, PyData.eqv, PyData.eqvAll, dNeg, dIx]
/-! ### how many purses -/
theorem flat1 (a b d : Int) : T.cellFlat (Pu a b 0 d) = true := rfl
theorem iE (k : Nat) : ((intsD 0 k).length) = k := intsD_length 0 k
theorem law_cells (ns : List Int) : ∃ (L : Nat) (cs : CS), m_law_purses [.rlst (ns.map D.int), .int 4] [] = some (.lst ((List.range L).map fun j => T.sh (.cell j)), cs) ∧ (L = 1 ∨ L = 2 ∨ L = 3 ∨ L = 4) ∧ Shape cs ∧ cs.length = L ∧ ∀ j : Nat, j < cs.length → Purse 0 cs[j]? := by
  obtain ⟨a0, b0, x0, y0, z0, h0⟩ := e_purse ns 0
  obtain ⟨a1, b1, x1, y1, z1, h1⟩ := e_purse ns 1
  obtain ⟨a2, b2, x2, y2, z2, h2⟩ := e_purse ns 2
  obtain ⟨a3, b3, x3, y3, z3, h3⟩ := e_purse ns 3
  have hit : ∀ L : Nat, ((if (if (ns.length : Int) < 4 then (ns.length : Int) else 4) > 1 then (if (ns.length : Int) < 4 then (ns.length : Int) else 4) else 1) = (L : Int)) → L ≤ 4 → iRg1 (aCons (eN dMax2 (aCons (eC (.int 1)) (aCons (eN dMin2 (aCons (eVar 1) (aCons (eN dLen (aCons (eVar 0) aNil)) aNil))) aNil))) aNil) [some (.sh (.rlst (ns.map D.int))), some (.sh (.int 4)), none] [] = some (intsD 0 L, [some (.sh (.rlst (ns.map D.int))), some (.sh (.int 4)), none], []) := fun L hL h4 => by
    have ea : aCons (eN dMax2 (aCons (eC (.int 1)) (aCons (eN dMin2 (aCons (eVar 1) (aCons (eN dLen (aCons (eVar 0) aNil)) aNil))) aNil))) aNil [some (.sh (.rlst (ns.map D.int))), some (.sh (.int 4)), none] [] = some ([.sh (.int L)], [some (.sh (.rlst (ns.map D.int))), some (.sh (.int 4)), none], []) := by
      simp only [gt_iff_lt] at hL
      simp [dMax2, dMin2, hL, runBody, sRet, sRetV, sRetN, sSeq, sIf, sAsg, sNext, sPar, sPar3, eAn, eOo, eNt, eIf, eN, eTup, eLst, e1, e2, t2, tV, tNt, tAn, tOo, eCh, tCh, aCons, aNil, eVar, eMov, eC, eIx, eSl, oNo, oAt, eCall, gN, gTpD, gConsD, gNilD, env0, keep_same, T.toD, T.toDs, dIsi, D.tyName, isKind, isAnyKind, D.isT, dLen, lenD, dEqX, dNeX, unlike, D.seqL, dEq, dNe, dEqv, D.isPy, D.isPys, D.py, D.pys, PyData.eqv, PyData.eqvAll, dNeg, dIx]
    unfold iRg1
    rw [ea]
    simp only [T.toD]
    rw [if_pos ⟨by omega, by omega⟩, keep_same]
    simp
  have nP : ∀ (n : Nat) (a b d : Int), 0 ≤ a → 0 ≤ b → b < 2147483629 → 0 ≤ d → d < 100 → Purse 0 (some (Pu a b 0 d)) := fun n a b d ha hb hb' hd hd' => ⟨a, b, 0, d, rfl, ha, hb, hb', by omega, by omega, hd, hd'⟩
  have key : ∀ L : Nat, ((if (if (ns.length : Int) < 4 then (ns.length : Int) else 4) > 1 then (if (ns.length : Int) < 4 then (ns.length : Int) else 4) else 1) = (L : Int)) → (L = 1 ∨ L = 2 ∨ L = 3 ∨ L = 4) → ∃ cs : CS, m_law_purses [.rlst (ns.map D.int), .int 4] [] = some (.lst ((List.range L).map fun j => T.sh (.cell j)), cs) ∧ Shape cs ∧ cs.length = L ∧ ∀ j : Nat, j < cs.length → Purse 0 cs[j]? := fun L hL h4 => by
    have hi := hit L hL (by omega)
    have e0 := h0 []
    have e1' := h1 [Pu a0 b0 0 0]
    have e2' := h2 [Pu a0 b0 0 0, Pu a1 b1 0 1]
    have e3 := h3 [Pu a0 b0 0 0, Pu a1 b1 0 1, Pu a2 b2 0 2]
    simp at e0 e1' e2' e3
    rcases h4 with rfl | rfl | rfl | rfl
    · refine ⟨[Pu a0 b0 0 0], ?_, .c1 .., rfl, fun j hj => ?_⟩
      · simp [m_law_purses, b_law_purses, N_law_purses, eComp, hi, intsD, List.range, List.range.loop, compL, tTrue, ownOk, wipeE, backE, e0, runBody, sRet, sRetV, sRetN, sSeq, sIf, sAsg, sNext, sPar, sPar3, eAn, eOo, eNt, eIf, eN, eTup, eLst, e1, e2, t2, tV, tNt, tAn, tOo, eCh, tCh, aCons, aNil, eVar, eMov, eC, eIx, eSl, oNo, oAt, eCall, gN, gTpD, gConsD, gNilD, env0, keep_same, T.toD, T.toDs, dIsi, D.tyName, isKind, isAnyKind, D.isT, dLen, lenD, dEqX, dNeX, unlike, D.seqL, dEq, dNe, dEqv, D.isPy, D.isPys, D.py, D.pys, PyData.eqv, PyData.eqvAll, dNeg, dIx]
      · have hj' : j < 1 := hj
        have : j = 0 := by omega
        subst this
        exact nP 0 _ _ _ x0 y0 z0 (by omega) (by omega)
    · refine ⟨[Pu a0 b0 0 0, Pu a1 b1 0 1], ?_, .c2 .., rfl, fun j hj => ?_⟩
      · simp [m_law_purses, b_law_purses, N_law_purses, eComp, hi, intsD, List.range, List.range.loop, compL, tTrue, ownOk, wipeE, backE, e0, e1', runBody, sRet, sRetV, sRetN, sSeq, sIf, sAsg, sNext, sPar, sPar3, eAn, eOo, eNt, eIf, eN, eTup, eLst, e1, e2, t2, tV, tNt, tAn, tOo, eCh, tCh, aCons, aNil, eVar, eMov, eC, eIx, eSl, oNo, oAt, eCall, gN, gTpD, gConsD, gNilD, env0, keep_same, T.toD, T.toDs, dIsi, D.tyName, isKind, isAnyKind, D.isT, dLen, lenD, dEqX, dNeX, unlike, D.seqL, dEq, dNe, dEqv, D.isPy, D.isPys, D.py, D.pys, PyData.eqv, PyData.eqvAll, dNeg, dIx]
      · have hj' : j < 2 := hj
        have : j = 0 ∨ j = 1 := by omega
        rcases this with rfl | rfl
        · exact nP 0 _ _ _ x0 y0 z0 (by omega) (by omega)
        · exact nP 0 _ _ _ x1 y1 z1 (by omega) (by omega)
    · refine ⟨[Pu a0 b0 0 0, Pu a1 b1 0 1, Pu a2 b2 0 2], ?_, .c3 .., rfl, fun j hj => ?_⟩
      · simp [m_law_purses, b_law_purses, N_law_purses, eComp, hi, intsD, List.range, List.range.loop, compL, tTrue, ownOk, wipeE, backE, e0, e1', e2', runBody, sRet, sRetV, sRetN, sSeq, sIf, sAsg, sNext, sPar, sPar3, eAn, eOo, eNt, eIf, eN, eTup, eLst, e1, e2, t2, tV, tNt, tAn, tOo, eCh, tCh, aCons, aNil, eVar, eMov, eC, eIx, eSl, oNo, oAt, eCall, gN, gTpD, gConsD, gNilD, env0, keep_same, T.toD, T.toDs, dIsi, D.tyName, isKind, isAnyKind, D.isT, dLen, lenD, dEqX, dNeX, unlike, D.seqL, dEq, dNe, dEqv, D.isPy, D.isPys, D.py, D.pys, PyData.eqv, PyData.eqvAll, dNeg, dIx]
      · have hj' : j < 3 := hj
        have : j = 0 ∨ j = 1 ∨ j = 2 := by omega
        rcases this with rfl | rfl | rfl
        · exact nP 0 _ _ _ x0 y0 z0 (by omega) (by omega)
        · exact nP 0 _ _ _ x1 y1 z1 (by omega) (by omega)
        · exact nP 0 _ _ _ x2 y2 z2 (by omega) (by omega)
    · refine ⟨[Pu a0 b0 0 0, Pu a1 b1 0 1, Pu a2 b2 0 2, Pu a3 b3 0 3], ?_, .c4 .., rfl, fun j hj => ?_⟩
      · simp [m_law_purses, b_law_purses, N_law_purses, eComp, hi, intsD, List.range, List.range.loop, compL, tTrue, ownOk, wipeE, backE, e0, e1', e2', e3, runBody, sRet, sRetV, sRetN, sSeq, sIf, sAsg, sNext, sPar, sPar3, eAn, eOo, eNt, eIf, eN, eTup, eLst, e1, e2, t2, tV, tNt, tAn, tOo, eCh, tCh, aCons, aNil, eVar, eMov, eC, eIx, eSl, oNo, oAt, eCall, gN, gTpD, gConsD, gNilD, env0, keep_same, T.toD, T.toDs, dIsi, D.tyName, isKind, isAnyKind, D.isT, dLen, lenD, dEqX, dNeX, unlike, D.seqL, dEq, dNe, dEqv, D.isPy, D.isPys, D.py, D.pys, PyData.eqv, PyData.eqvAll, dNeg, dIx]
      · have hj' : j < 4 := hj
        have : j = 0 ∨ j = 1 ∨ j = 2 ∨ j = 3 := by omega
        rcases this with rfl | rfl | rfl | rfl
        · exact nP 0 _ _ _ x0 y0 z0 (by omega) (by omega)
        · exact nP 0 _ _ _ x1 y1 z1 (by omega) (by omega)
        · exact nP 0 _ _ _ x2 y2 z2 (by omega) (by omega)
        · exact nP 0 _ _ _ x3 y3 z3 (by omega) (by omega)
  have hc : ns.length ≤ 1 ∨ ns.length = 2 ∨ ns.length = 3 ∨ 4 ≤ ns.length := by omega
  have hL : ∃ L : Nat, ((if (if (ns.length : Int) < 4 then (ns.length : Int) else 4) > 1 then (if (ns.length : Int) < 4 then (ns.length : Int) else 4) else 1) = (L : Int)) ∧ (L = 1 ∨ L = 2 ∨ L = 3 ∨ L = 4) := by
    rcases hc with hc | hc | hc | hc
    · refine ⟨1, ?_, by omega⟩
      rw [if_pos (show (ns.length : Int) < 4 by omega), if_neg (by omega)]; rfl
    · refine ⟨2, ?_, by omega⟩
      rw [if_pos (show (ns.length : Int) < 4 by omega), if_pos (by omega)]; omega
    · refine ⟨3, ?_, by omega⟩
      rw [if_pos (show (ns.length : Int) < 4 by omega), if_pos (by omega)]; omega
    · refine ⟨4, ?_, by omega⟩
      rw [if_neg (show ¬ (ns.length : Int) < 4 by omega), if_pos (by omega)]; rfl
  obtain ⟨L, hL1, hL2⟩ := hL
  obtain ⟨cs, k1, k2, k3, k4⟩ := key L hL1 hL2
  exact ⟨L, cs, k1, hL2, k2, k3, k4⟩
end K57
end
section
set_option Elab.async false
set_option linter.all false
set_option maxRecDepth 100000
set_option maxHeartbeats 4000000
set_option autoImplicit false
namespace K57
open PySem PySem.Spec L2 PyProof.Rows PD
def xS : Sv := (sIf (tNt (tV (eCall (m_law_right) [] (aCons (eVar 1) aNil)))) (sRet (eC (.bl false))) sNext)
def restS : Sv := (sSeq (sAsg (eTup (aCons (eC (.str "times")) (aCons (eLst (aCons (eTup (aCons (eC (.str "form")) (aCons (eTup (aCons (e2 dSub (eC (.int 0)) (eC (.int 1))) (aCons (eTup (aCons (eTup (aCons (eC (.str "x")) (aCons (e2 dPow (eC (.int 10)) (eC (.int 11))) aNil))) aNil)) aNil))) (aCons (eC (.int 7)) aNil)))) (aCons (eTup (aCons (eC (.str "form")) (aCons (eTup (aCons (eC (.int 5)) (aCons (eTup (aCons (eTup (aCons (eC (.str "x")) (aCons (eC (.int 1)) aNil))) aNil)) aNil))) (aCons (eC (.int 1)) aNil)))) aNil))) aNil))) (gN 3)) (sSeq (sAsg (eLst (aCons (eCall (m_bound_at) [] (aCons (eVar 3) (aCons (eLst (aCons (eTup (aCons (eC (.str "x")) (aCons (e2 dPow (eC (.int 10)) (eC (.int 12))) aNil))) aNil)) aNil))) (aCons (eCall (m_bound_at) [] (aCons (eVar 3) (aCons (eLst (aCons (eTup (aCons (eC (.str "x")) (aCons (e2 dSub (eC (.int 0)) (e2 dPow (eC (.int 10)) (eC (.int 12)))) aNil))) aNil)) aNil))) (aCons (eCall (m_bound_at) [] (aCons (eTup (aCons (eC (.str "phases")) (aCons (eLst (aCons (eTup (aCons (eC (.str "number")) (aCons (eC (.int 0)) aNil))) aNil)) aNil))) (aCons (eLst aNil) aNil))) (aCons (eCall (m_bound_at) [] (aCons (eTup (aCons (eC (.str "phases")) (aCons (eLst (aCons (eTup (aCons (eC (.str "number")) (aCons (eC (.int 3)) aNil))) (aCons (eTup (aCons (eC (.str "number")) (aCons (eC (.int 0)) aNil))) aNil))) aNil))) (aCons (eLst aNil) aNil))) aNil))))) (gN 4)) (sRet (eCall (m_law_exact FU) [] (aCons (eLst (aCons (e2 dMul (e2 dFdiv (e2 dSub (e2 dPow (eC (.int 10)) (eC (.int 23))) (eC (.int 1))) (eC (.int 7))) (eAdd (e2 dPow (eC (.int 10)) (eC (.int 12))) (eC (.int 5)))) (aCons (eC (.int 0)) (aCons (eC (.int 1)) (aCons (eC (.int 6)) aNil))))) (aCons (eVar 4) aNil))))))
theorem b_lawE : b_law = sSeq (sFor (iSeq (eCall (m_law_purses) [] (aCons (eVar 0) (aCons (eC (.int 4)) aNil)))) (gN 1) (sFor (iRg1 (aCons (eC (.int 4)) aNil)) (gN 2) xS)) restS := rfl
theorem rest_ok (d u1 u2 : D) {cs : CS} (hs : Shape cs) : (match restS [shD' d, shD' u1, shD' u2, none, none] cs with
  | some (.rt t, _, cs1) => some (t, cs1)
  | some (.nx, _, cs1) => some (.sh .non, cs1)
  | _ => none) = some (.sh (.bl true), cs) := by cases hs <;> kernel_rfl
theorem x_ok {n : Nat} {i : Ix} {d : D} {u2 : Option T} {cs : CS} (ok : Ok n i cs) (hn : n < 2 ^ 40) : ∃ cs', xS [shD' d, shD' (.cell i), u2, none, none] cs = some (.nx, [shD' d, shD' (.cell i), u2, none, none], cs') ∧ Ok (n + 800) i cs' := by
  obtain ⟨cs', e, ok'⟩ := e_right ok hn
  refine ⟨cs', ?_, ok'⟩
  simp [xS, e, runBody, sRet, sRetV, sRetN, sSeq, sIf, sAsg, sNext, sPar, sPar3, eAn, eOo, eNt, eIf, eN, eTup, eLst, e1, e2, t2, tV, tNt, tAn, tOo, eCh, tCh, aCons, aNil, eVar, eMov, eC, eIx, eSl, oNo, oAt, eCall, gN, gTpD, gConsD, gNilD, env0, keep_same, T.toD, T.toDs, dIsi, D.tyName, isKind, isAnyKind, D.isT, dLen, lenD, dEqX, dNeX, unlike, D.seqL, dEq, dNe, dEqv, D.isPy, D.isPys, D.py, D.pys, PyData.eqv, PyData.eqvAll, dNeg, dIx]
theorem in4i (d : D) (u1 u2 : Option T) (cs : CS) : iRg1 (aCons (eC (.int 4)) aNil) [shD' d, u1, u2, none, none] cs = some ([.int 0, .int 1, .int 2, .int 3], [shD' d, u1, u2, none, none], cs) := by
  simp [iRg1, intsD, List.range, List.range.loop, runBody, sRet, sRetV, sRetN, sSeq, sIf, sAsg, sNext, sPar, sPar3, eAn, eOo, eNt, eIf, eN, eTup, eLst, e1, e2, t2, tV, tNt, tAn, tOo, eCh, tCh, aCons, aNil, eVar, eMov, eC, eIx, eSl, oNo, oAt, eCall, gN, gTpD, gConsD, gNilD, env0, keep_same, T.toD, T.toDs, dIsi, D.tyName, isKind, isAnyKind, D.isT, dLen, lenD, dEqX, dNeX, unlike, D.seqL, dEq, dNe, dEqv, D.isPy, D.isPys, D.py, D.pys, PyData.eqv, PyData.eqvAll, dNeg, dIx]
theorem y_ok {n : Nat} {i : Ix} {d : D} {u2 : Option T} {cs : CS} (ok : Ok n i cs) (hn : n < 2 ^ 39) : ∃ v2 cs', sFor (iRg1 (aCons (eC (.int 4)) aNil)) (gN 2) xS [shD' d, shD' (.cell i), u2, none, none] cs = some (.nx, [shD' d, shD' (.cell i), shD' v2, none, none], cs') ∧ Ok (n + 3200) i cs' := by
  obtain ⟨cs1, e1', ok1⟩ := x_ok (d := d) (u2 := shD' (.int 0)) ok (by omega)
  obtain ⟨cs2, e2', ok2⟩ := x_ok (d := d) (u2 := shD' (.int 1)) ok1 (by omega)
  obtain ⟨cs3, e3, ok3⟩ := x_ok (d := d) (u2 := shD' (.int 2)) ok2 (by omega)
  obtain ⟨cs4, e4, ok4⟩ := x_ok (d := d) (u2 := shD' (.int 3)) ok3 (by omega)
  refine ⟨.int 3, cs4, ?_, ok4.mono (by omega)⟩
  rw [u_for (in4i d _ u2 cs)]
  simp [forL, gN, e1', e2', e3, e4]
theorem says : PD.Says K57.m_law := by
  intro ns hns hbits
  obtain ⟨L, cs, e0, hL, hS, hl, hp⟩ := law_cells ns
  have ok0 : Ok 0 ⟨0, L⟩ cs := ⟨hS, hl, by show 0 < L; omega, hp⟩
  have hi : iSeq (eCall (m_law_purses) [] (aCons (eVar 0) (aCons (eC (.int 4)) aNil))) [shD' (.rlst (ns.map D.int)), none, none, none, none] [] = some ((List.range L).map D.cell, [shD' (.rlst (ns.map D.int)), none, none, none, none], cs) := by
    have ed : T.toDs ((List.range L).map fun j => T.sh (.cell j)) = (List.range L).map D.cell := by rw [toDs_eq, List.map_map]; rfl
    simp [iSeq, itemsOf, e0, ed, -List.map_map, runBody, sRet, sRetV, sRetN, sSeq, sIf, sAsg, sNext, sPar, sPar3, eAn, eOo, eNt, eIf, eN, eTup, eLst, e1, e2, t2, tV, tNt, tAn, tOo, eCh, tCh, aCons, aNil, eVar, eMov, eC, eIx, eSl, oNo, oAt, eCall, gN, gTpD, gConsD, gNilD, env0, keep_same, T.toD, T.toDs, dIsi, D.tyName, isKind, isAnyKind, D.isT, dLen, lenD, dEqX, dNeX, unlike, D.seqL, dEq, dNe, dEqv, D.isPy, D.isPys, D.py, D.pys, PyData.eqv, PyData.eqvAll, dNeg, dIx]
  obtain ⟨env', cs', eF, u1, u2, rfl, ok⟩ := forL_run (tg := gN 1) (b := sFor (iRg1 (aCons (eC (.int 4)) aNil)) (gN 2) xS) (ds := (List.range L).map D.cell) (i := 0) (env := [shD' (.rlst (ns.map D.int)), none, none, none, none]) (cs := cs)
    (J := fun k env cs' => ∃ u1 u2 : Option T, env = [shD' (.rlst (ns.map D.int)), u1, u2, none, none] ∧ Ok (3200 * k) ⟨0, L⟩ cs' ∧ (0 < k → ∃ d1 d2, u1 = shD' d1 ∧ u2 = shD' d2))
    (fun j d hd env cs' hJ => by
      obtain ⟨u1, u2, rfl, ok, _⟩ := hJ
      have hj : j < L := by
        have := (List.getElem?_eq_some_iff.mp hd).1
        simpa using this
      have ed : d = .cell j := by
        rw [List.getElem?_map, List.getElem?_range hj] at hd
        cases hd
        rfl
      subst ed
      have okj := ok.to (j := j) hj
      obtain ⟨v2, cs2, e, ok2⟩ := y_ok (d := .rlst (ns.map D.int)) (u2 := u2) okj (by omega)
      refine ⟨_, _, cs2, rfl, e, _, _, rfl, ?_, fun _ => ⟨_, _, rfl, rfl⟩⟩
      have ok3 := ok2.to (j := 0) (show 0 < L by omega)
      exact ok3.mono (by omega)) ⟨none, none, rfl, ok0, fun z => absurd z (by omega)⟩
  obtain ⟨ok, hd⟩ := ok
  obtain ⟨d1, d2, rfl, rfl⟩ := hd (by simp; omega)
  have g1 := (u_for (tg := gN 1) (b := sFor (iRg1 (aCons (eC (.int 4)) aNil)) (gN 2) xS) hi).trans eF
  refine ⟨cs', ?_⟩
  have g0 : env0 N_law.length [.rlst (ns.map D.int)] = [shD' (.rlst (ns.map D.int)), none, none, none, none] := rfl
  have r := rest_ok (.rlst (ns.map D.int)) d1 d2 ok.sh
  show runBody _ _ _ _ = _
  unfold runBody
  rw [b_lawE, g0, u_seq g1]
  exact r
end K57
end
section
set_option Elab.async false
set_option linter.all false
set_option maxRecDepth 100000
set_option maxHeartbeats 0
open PySem PySem.W PySem.Calls PyProof.Rows
theorem PySem.Challenge.cw_comestoend_k57_whole_bounds_reckoned_holds : PySem.Challenge.rw_comestoend_k57_whole_bounds_reckoned.Holds := by
  w_on; o_law
  refine HandSHeadRun.head_any (r := OpenLaw.row PySem.Challenge.rw_comestoend_k57_whole_bounds_reckoned) (q := view (OpenLaw.row PySem.Challenge.rw_comestoend_k57_whole_bounds_reckoned).prog [K57.LAWAT]) (H := K57.hk) (ob := K57.ob) (M := 100000) (loose := K57.LOOSE) (d := HandSHeadRun.topDef (OpenLaw.row PySem.Challenge.rw_comestoend_k57_whole_bounds_reckoned).prog K57.LAWAT) (kwd := []) K57.ob_eq
    (by kernel_rfl) (fun s => by kernel_rfl) K57.run (by kernel_rfl) (by kernel_rfl) (by kernel_rfl) (by rfl) (by first | assumption | decide +kernel) (by decide +kernel) ⟨rfl, rfl, rfl, rfl, rfl, by decide +kernel⟩ ?hw ?hc
  case hw => w_witness2
  case hc =>
    refine PD.walkG (l := PySem.Challenge.rw_comestoend_k57_whole_bounds_reckoned) (k := 48) (x := "script") (m := K57.m_law) rfl (by kernel_rfl) ⟨⟨rfl, by decide, by decide⟩, rfl⟩ ?F K57.says
    intro w mg fa h Y G hmg0
    obtain ⟨K, KX, c⟩ := Y
    have hmg : mg ("law" : PySem.Str) = some (.ref fa) := by
      have e : (HandSHeadRun.topDef (OpenLaw.row PySem.Challenge.rw_comestoend_k57_whole_bounds_reckoned).prog K57.LAWAT).name = ("law" : PySem.Str) := by kernel_rfl
      rw [← e]
      exact hmg0
    obtain ⟨fd, hb, hF⟩ := K57.theLaw (P := (PySem.Challenge.rw_comestoend_k57_whole_bounds_reckoned).prog) (w := w) KX G hmg c
    exact ⟨K, fd, KX, hb, hF⟩
end
