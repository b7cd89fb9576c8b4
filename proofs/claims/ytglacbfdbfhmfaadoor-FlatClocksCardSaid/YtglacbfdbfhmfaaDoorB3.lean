/- words that run the printed code. Part of the proof of girandolelaw08.FlatClocks. -/
import Derived.Test.YtglacbfdbfhmfaaDoorB2
import Derived.Test.YtglacbfdbfhmfaaDoorB1
set_option linter.unusedVariables false
set_option linter.unusedSimpArgs false
/- Words by which the printed code is run step by step. -/
namespace Go.Abs
theorem st_0 (r : RG) (v : AV) : st r 0 v = ⟨⟨⟨v, r.a.a.b, r.a.a.c, r.a.a.d, r.a.a.e, r.a.a.f, r.a.a.g, r.a.a.h⟩, r.a.b, r.a.c, r.a.d, r.a.e, r.a.f, r.a.g, r.a.h⟩, r.b, r.c, r.d, r.e, r.f, r.g, r.h⟩ := rfl
theorem gx_0 (r : RG) (l : List AV) : gx ⟨r, l⟩ (.t 0) = r.a.a.a := rfl
theorem gt_0 (r : RG) : gt r 0 = r.a.a.a := rfl
theorem st_1 (r : RG) (v : AV) : st r 1 v = ⟨⟨⟨r.a.a.a, v, r.a.a.c, r.a.a.d, r.a.a.e, r.a.a.f, r.a.a.g, r.a.a.h⟩, r.a.b, r.a.c, r.a.d, r.a.e, r.a.f, r.a.g, r.a.h⟩, r.b, r.c, r.d, r.e, r.f, r.g, r.h⟩ := rfl
theorem gx_1 (r : RG) (l : List AV) : gx ⟨r, l⟩ (.t 1) = r.a.a.b := rfl
theorem gt_1 (r : RG) : gt r 1 = r.a.a.b := rfl
theorem st_2 (r : RG) (v : AV) : st r 2 v = ⟨⟨⟨r.a.a.a, r.a.a.b, v, r.a.a.d, r.a.a.e, r.a.a.f, r.a.a.g, r.a.a.h⟩, r.a.b, r.a.c, r.a.d, r.a.e, r.a.f, r.a.g, r.a.h⟩, r.b, r.c, r.d, r.e, r.f, r.g, r.h⟩ := rfl
theorem gx_2 (r : RG) (l : List AV) : gx ⟨r, l⟩ (.t 2) = r.a.a.c := rfl
theorem gt_2 (r : RG) : gt r 2 = r.a.a.c := rfl
theorem st_3 (r : RG) (v : AV) : st r 3 v = ⟨⟨⟨r.a.a.a, r.a.a.b, r.a.a.c, v, r.a.a.e, r.a.a.f, r.a.a.g, r.a.a.h⟩, r.a.b, r.a.c, r.a.d, r.a.e, r.a.f, r.a.g, r.a.h⟩, r.b, r.c, r.d, r.e, r.f, r.g, r.h⟩ := rfl
theorem gx_3 (r : RG) (l : List AV) : gx ⟨r, l⟩ (.t 3) = r.a.a.d := rfl
theorem gt_3 (r : RG) : gt r 3 = r.a.a.d := rfl
theorem st_4 (r : RG) (v : AV) : st r 4 v = ⟨⟨⟨r.a.a.a, r.a.a.b, r.a.a.c, r.a.a.d, v, r.a.a.f, r.a.a.g, r.a.a.h⟩, r.a.b, r.a.c, r.a.d, r.a.e, r.a.f, r.a.g, r.a.h⟩, r.b, r.c, r.d, r.e, r.f, r.g, r.h⟩ := rfl
theorem gx_4 (r : RG) (l : List AV) : gx ⟨r, l⟩ (.t 4) = r.a.a.e := rfl
theorem gt_4 (r : RG) : gt r 4 = r.a.a.e := rfl
theorem st_5 (r : RG) (v : AV) : st r 5 v = ⟨⟨⟨r.a.a.a, r.a.a.b, r.a.a.c, r.a.a.d, r.a.a.e, v, r.a.a.g, r.a.a.h⟩, r.a.b, r.a.c, r.a.d, r.a.e, r.a.f, r.a.g, r.a.h⟩, r.b, r.c, r.d, r.e, r.f, r.g, r.h⟩ := rfl
theorem gx_5 (r : RG) (l : List AV) : gx ⟨r, l⟩ (.t 5) = r.a.a.f := rfl
theorem gt_5 (r : RG) : gt r 5 = r.a.a.f := rfl
theorem st_6 (r : RG) (v : AV) : st r 6 v = ⟨⟨⟨r.a.a.a, r.a.a.b, r.a.a.c, r.a.a.d, r.a.a.e, r.a.a.f, v, r.a.a.h⟩, r.a.b, r.a.c, r.a.d, r.a.e, r.a.f, r.a.g, r.a.h⟩, r.b, r.c, r.d, r.e, r.f, r.g, r.h⟩ := rfl
theorem gx_6 (r : RG) (l : List AV) : gx ⟨r, l⟩ (.t 6) = r.a.a.g := rfl
theorem gt_6 (r : RG) : gt r 6 = r.a.a.g := rfl
theorem st_7 (r : RG) (v : AV) : st r 7 v = ⟨⟨⟨r.a.a.a, r.a.a.b, r.a.a.c, r.a.a.d, r.a.a.e, r.a.a.f, r.a.a.g, v⟩, r.a.b, r.a.c, r.a.d, r.a.e, r.a.f, r.a.g, r.a.h⟩, r.b, r.c, r.d, r.e, r.f, r.g, r.h⟩ := rfl
theorem gx_7 (r : RG) (l : List AV) : gx ⟨r, l⟩ (.t 7) = r.a.a.h := rfl
theorem gt_7 (r : RG) : gt r 7 = r.a.a.h := rfl
theorem st_8 (r : RG) (v : AV) : st r 8 v = ⟨⟨r.a.a, ⟨v, r.a.b.b, r.a.b.c, r.a.b.d, r.a.b.e, r.a.b.f, r.a.b.g, r.a.b.h⟩, r.a.c, r.a.d, r.a.e, r.a.f, r.a.g, r.a.h⟩, r.b, r.c, r.d, r.e, r.f, r.g, r.h⟩ := rfl
theorem gx_8 (r : RG) (l : List AV) : gx ⟨r, l⟩ (.t 8) = r.a.b.a := rfl
theorem gt_8 (r : RG) : gt r 8 = r.a.b.a := rfl
theorem st_9 (r : RG) (v : AV) : st r 9 v = ⟨⟨r.a.a, ⟨r.a.b.a, v, r.a.b.c, r.a.b.d, r.a.b.e, r.a.b.f, r.a.b.g, r.a.b.h⟩, r.a.c, r.a.d, r.a.e, r.a.f, r.a.g, r.a.h⟩, r.b, r.c, r.d, r.e, r.f, r.g, r.h⟩ := rfl
theorem gx_9 (r : RG) (l : List AV) : gx ⟨r, l⟩ (.t 9) = r.a.b.b := rfl
theorem gt_9 (r : RG) : gt r 9 = r.a.b.b := rfl
theorem st_10 (r : RG) (v : AV) : st r 10 v = ⟨⟨r.a.a, ⟨r.a.b.a, r.a.b.b, v, r.a.b.d, r.a.b.e, r.a.b.f, r.a.b.g, r.a.b.h⟩, r.a.c, r.a.d, r.a.e, r.a.f, r.a.g, r.a.h⟩, r.b, r.c, r.d, r.e, r.f, r.g, r.h⟩ := rfl
theorem gx_10 (r : RG) (l : List AV) : gx ⟨r, l⟩ (.t 10) = r.a.b.c := rfl
theorem gt_10 (r : RG) : gt r 10 = r.a.b.c := rfl
theorem st_11 (r : RG) (v : AV) : st r 11 v = ⟨⟨r.a.a, ⟨r.a.b.a, r.a.b.b, r.a.b.c, v, r.a.b.e, r.a.b.f, r.a.b.g, r.a.b.h⟩, r.a.c, r.a.d, r.a.e, r.a.f, r.a.g, r.a.h⟩, r.b, r.c, r.d, r.e, r.f, r.g, r.h⟩ := rfl
theorem gx_11 (r : RG) (l : List AV) : gx ⟨r, l⟩ (.t 11) = r.a.b.d := rfl
theorem gt_11 (r : RG) : gt r 11 = r.a.b.d := rfl
theorem st_12 (r : RG) (v : AV) : st r 12 v = ⟨⟨r.a.a, ⟨r.a.b.a, r.a.b.b, r.a.b.c, r.a.b.d, v, r.a.b.f, r.a.b.g, r.a.b.h⟩, r.a.c, r.a.d, r.a.e, r.a.f, r.a.g, r.a.h⟩, r.b, r.c, r.d, r.e, r.f, r.g, r.h⟩ := rfl
theorem gx_12 (r : RG) (l : List AV) : gx ⟨r, l⟩ (.t 12) = r.a.b.e := rfl
theorem gt_12 (r : RG) : gt r 12 = r.a.b.e := rfl
theorem st_13 (r : RG) (v : AV) : st r 13 v = ⟨⟨r.a.a, ⟨r.a.b.a, r.a.b.b, r.a.b.c, r.a.b.d, r.a.b.e, v, r.a.b.g, r.a.b.h⟩, r.a.c, r.a.d, r.a.e, r.a.f, r.a.g, r.a.h⟩, r.b, r.c, r.d, r.e, r.f, r.g, r.h⟩ := rfl
theorem gx_13 (r : RG) (l : List AV) : gx ⟨r, l⟩ (.t 13) = r.a.b.f := rfl
theorem gt_13 (r : RG) : gt r 13 = r.a.b.f := rfl
theorem st_14 (r : RG) (v : AV) : st r 14 v = ⟨⟨r.a.a, ⟨r.a.b.a, r.a.b.b, r.a.b.c, r.a.b.d, r.a.b.e, r.a.b.f, v, r.a.b.h⟩, r.a.c, r.a.d, r.a.e, r.a.f, r.a.g, r.a.h⟩, r.b, r.c, r.d, r.e, r.f, r.g, r.h⟩ := rfl
theorem gx_14 (r : RG) (l : List AV) : gx ⟨r, l⟩ (.t 14) = r.a.b.g := rfl
theorem gt_14 (r : RG) : gt r 14 = r.a.b.g := rfl
theorem st_15 (r : RG) (v : AV) : st r 15 v = ⟨⟨r.a.a, ⟨r.a.b.a, r.a.b.b, r.a.b.c, r.a.b.d, r.a.b.e, r.a.b.f, r.a.b.g, v⟩, r.a.c, r.a.d, r.a.e, r.a.f, r.a.g, r.a.h⟩, r.b, r.c, r.d, r.e, r.f, r.g, r.h⟩ := rfl
theorem gx_15 (r : RG) (l : List AV) : gx ⟨r, l⟩ (.t 15) = r.a.b.h := rfl
theorem gt_15 (r : RG) : gt r 15 = r.a.b.h := rfl
theorem st_16 (r : RG) (v : AV) : st r 16 v = ⟨⟨r.a.a, r.a.b, ⟨v, r.a.c.b, r.a.c.c, r.a.c.d, r.a.c.e, r.a.c.f, r.a.c.g, r.a.c.h⟩, r.a.d, r.a.e, r.a.f, r.a.g, r.a.h⟩, r.b, r.c, r.d, r.e, r.f, r.g, r.h⟩ := rfl
theorem gx_16 (r : RG) (l : List AV) : gx ⟨r, l⟩ (.t 16) = r.a.c.a := rfl
theorem gt_16 (r : RG) : gt r 16 = r.a.c.a := rfl
theorem st_17 (r : RG) (v : AV) : st r 17 v = ⟨⟨r.a.a, r.a.b, ⟨r.a.c.a, v, r.a.c.c, r.a.c.d, r.a.c.e, r.a.c.f, r.a.c.g, r.a.c.h⟩, r.a.d, r.a.e, r.a.f, r.a.g, r.a.h⟩, r.b, r.c, r.d, r.e, r.f, r.g, r.h⟩ := rfl
theorem gx_17 (r : RG) (l : List AV) : gx ⟨r, l⟩ (.t 17) = r.a.c.b := rfl
theorem gt_17 (r : RG) : gt r 17 = r.a.c.b := rfl
theorem st_18 (r : RG) (v : AV) : st r 18 v = ⟨⟨r.a.a, r.a.b, ⟨r.a.c.a, r.a.c.b, v, r.a.c.d, r.a.c.e, r.a.c.f, r.a.c.g, r.a.c.h⟩, r.a.d, r.a.e, r.a.f, r.a.g, r.a.h⟩, r.b, r.c, r.d, r.e, r.f, r.g, r.h⟩ := rfl
theorem gx_18 (r : RG) (l : List AV) : gx ⟨r, l⟩ (.t 18) = r.a.c.c := rfl
theorem gt_18 (r : RG) : gt r 18 = r.a.c.c := rfl
theorem st_19 (r : RG) (v : AV) : st r 19 v = ⟨⟨r.a.a, r.a.b, ⟨r.a.c.a, r.a.c.b, r.a.c.c, v, r.a.c.e, r.a.c.f, r.a.c.g, r.a.c.h⟩, r.a.d, r.a.e, r.a.f, r.a.g, r.a.h⟩, r.b, r.c, r.d, r.e, r.f, r.g, r.h⟩ := rfl
theorem gx_19 (r : RG) (l : List AV) : gx ⟨r, l⟩ (.t 19) = r.a.c.d := rfl
theorem gt_19 (r : RG) : gt r 19 = r.a.c.d := rfl
theorem st_20 (r : RG) (v : AV) : st r 20 v = ⟨⟨r.a.a, r.a.b, ⟨r.a.c.a, r.a.c.b, r.a.c.c, r.a.c.d, v, r.a.c.f, r.a.c.g, r.a.c.h⟩, r.a.d, r.a.e, r.a.f, r.a.g, r.a.h⟩, r.b, r.c, r.d, r.e, r.f, r.g, r.h⟩ := rfl
theorem gx_20 (r : RG) (l : List AV) : gx ⟨r, l⟩ (.t 20) = r.a.c.e := rfl
theorem gt_20 (r : RG) : gt r 20 = r.a.c.e := rfl
theorem st_21 (r : RG) (v : AV) : st r 21 v = ⟨⟨r.a.a, r.a.b, ⟨r.a.c.a, r.a.c.b, r.a.c.c, r.a.c.d, r.a.c.e, v, r.a.c.g, r.a.c.h⟩, r.a.d, r.a.e, r.a.f, r.a.g, r.a.h⟩, r.b, r.c, r.d, r.e, r.f, r.g, r.h⟩ := rfl
theorem gx_21 (r : RG) (l : List AV) : gx ⟨r, l⟩ (.t 21) = r.a.c.f := rfl
theorem gt_21 (r : RG) : gt r 21 = r.a.c.f := rfl
theorem st_22 (r : RG) (v : AV) : st r 22 v = ⟨⟨r.a.a, r.a.b, ⟨r.a.c.a, r.a.c.b, r.a.c.c, r.a.c.d, r.a.c.e, r.a.c.f, v, r.a.c.h⟩, r.a.d, r.a.e, r.a.f, r.a.g, r.a.h⟩, r.b, r.c, r.d, r.e, r.f, r.g, r.h⟩ := rfl
theorem gx_22 (r : RG) (l : List AV) : gx ⟨r, l⟩ (.t 22) = r.a.c.g := rfl
theorem gt_22 (r : RG) : gt r 22 = r.a.c.g := rfl
theorem st_23 (r : RG) (v : AV) : st r 23 v = ⟨⟨r.a.a, r.a.b, ⟨r.a.c.a, r.a.c.b, r.a.c.c, r.a.c.d, r.a.c.e, r.a.c.f, r.a.c.g, v⟩, r.a.d, r.a.e, r.a.f, r.a.g, r.a.h⟩, r.b, r.c, r.d, r.e, r.f, r.g, r.h⟩ := rfl
theorem gx_23 (r : RG) (l : List AV) : gx ⟨r, l⟩ (.t 23) = r.a.c.h := rfl
theorem gt_23 (r : RG) : gt r 23 = r.a.c.h := rfl
theorem st_24 (r : RG) (v : AV) : st r 24 v = ⟨⟨r.a.a, r.a.b, r.a.c, ⟨v, r.a.d.b, r.a.d.c, r.a.d.d, r.a.d.e, r.a.d.f, r.a.d.g, r.a.d.h⟩, r.a.e, r.a.f, r.a.g, r.a.h⟩, r.b, r.c, r.d, r.e, r.f, r.g, r.h⟩ := rfl
theorem gx_24 (r : RG) (l : List AV) : gx ⟨r, l⟩ (.t 24) = r.a.d.a := rfl
theorem gt_24 (r : RG) : gt r 24 = r.a.d.a := rfl
theorem st_25 (r : RG) (v : AV) : st r 25 v = ⟨⟨r.a.a, r.a.b, r.a.c, ⟨r.a.d.a, v, r.a.d.c, r.a.d.d, r.a.d.e, r.a.d.f, r.a.d.g, r.a.d.h⟩, r.a.e, r.a.f, r.a.g, r.a.h⟩, r.b, r.c, r.d, r.e, r.f, r.g, r.h⟩ := rfl
theorem gx_25 (r : RG) (l : List AV) : gx ⟨r, l⟩ (.t 25) = r.a.d.b := rfl
theorem gt_25 (r : RG) : gt r 25 = r.a.d.b := rfl
theorem st_26 (r : RG) (v : AV) : st r 26 v = ⟨⟨r.a.a, r.a.b, r.a.c, ⟨r.a.d.a, r.a.d.b, v, r.a.d.d, r.a.d.e, r.a.d.f, r.a.d.g, r.a.d.h⟩, r.a.e, r.a.f, r.a.g, r.a.h⟩, r.b, r.c, r.d, r.e, r.f, r.g, r.h⟩ := rfl
theorem gx_26 (r : RG) (l : List AV) : gx ⟨r, l⟩ (.t 26) = r.a.d.c := rfl
theorem gt_26 (r : RG) : gt r 26 = r.a.d.c := rfl
theorem st_27 (r : RG) (v : AV) : st r 27 v = ⟨⟨r.a.a, r.a.b, r.a.c, ⟨r.a.d.a, r.a.d.b, r.a.d.c, v, r.a.d.e, r.a.d.f, r.a.d.g, r.a.d.h⟩, r.a.e, r.a.f, r.a.g, r.a.h⟩, r.b, r.c, r.d, r.e, r.f, r.g, r.h⟩ := rfl
theorem gx_27 (r : RG) (l : List AV) : gx ⟨r, l⟩ (.t 27) = r.a.d.d := rfl
theorem gt_27 (r : RG) : gt r 27 = r.a.d.d := rfl
theorem st_28 (r : RG) (v : AV) : st r 28 v = ⟨⟨r.a.a, r.a.b, r.a.c, ⟨r.a.d.a, r.a.d.b, r.a.d.c, r.a.d.d, v, r.a.d.f, r.a.d.g, r.a.d.h⟩, r.a.e, r.a.f, r.a.g, r.a.h⟩, r.b, r.c, r.d, r.e, r.f, r.g, r.h⟩ := rfl
theorem gx_28 (r : RG) (l : List AV) : gx ⟨r, l⟩ (.t 28) = r.a.d.e := rfl
theorem gt_28 (r : RG) : gt r 28 = r.a.d.e := rfl
theorem st_29 (r : RG) (v : AV) : st r 29 v = ⟨⟨r.a.a, r.a.b, r.a.c, ⟨r.a.d.a, r.a.d.b, r.a.d.c, r.a.d.d, r.a.d.e, v, r.a.d.g, r.a.d.h⟩, r.a.e, r.a.f, r.a.g, r.a.h⟩, r.b, r.c, r.d, r.e, r.f, r.g, r.h⟩ := rfl
theorem gx_29 (r : RG) (l : List AV) : gx ⟨r, l⟩ (.t 29) = r.a.d.f := rfl
theorem gt_29 (r : RG) : gt r 29 = r.a.d.f := rfl
theorem st_30 (r : RG) (v : AV) : st r 30 v = ⟨⟨r.a.a, r.a.b, r.a.c, ⟨r.a.d.a, r.a.d.b, r.a.d.c, r.a.d.d, r.a.d.e, r.a.d.f, v, r.a.d.h⟩, r.a.e, r.a.f, r.a.g, r.a.h⟩, r.b, r.c, r.d, r.e, r.f, r.g, r.h⟩ := rfl
theorem gx_30 (r : RG) (l : List AV) : gx ⟨r, l⟩ (.t 30) = r.a.d.g := rfl
theorem gt_30 (r : RG) : gt r 30 = r.a.d.g := rfl
theorem st_31 (r : RG) (v : AV) : st r 31 v = ⟨⟨r.a.a, r.a.b, r.a.c, ⟨r.a.d.a, r.a.d.b, r.a.d.c, r.a.d.d, r.a.d.e, r.a.d.f, r.a.d.g, v⟩, r.a.e, r.a.f, r.a.g, r.a.h⟩, r.b, r.c, r.d, r.e, r.f, r.g, r.h⟩ := rfl
theorem gx_31 (r : RG) (l : List AV) : gx ⟨r, l⟩ (.t 31) = r.a.d.h := rfl
theorem gt_31 (r : RG) : gt r 31 = r.a.d.h := rfl
theorem st_32 (r : RG) (v : AV) : st r 32 v = ⟨⟨r.a.a, r.a.b, r.a.c, r.a.d, ⟨v, r.a.e.b, r.a.e.c, r.a.e.d, r.a.e.e, r.a.e.f, r.a.e.g, r.a.e.h⟩, r.a.f, r.a.g, r.a.h⟩, r.b, r.c, r.d, r.e, r.f, r.g, r.h⟩ := rfl
theorem gx_32 (r : RG) (l : List AV) : gx ⟨r, l⟩ (.t 32) = r.a.e.a := rfl
theorem gt_32 (r : RG) : gt r 32 = r.a.e.a := rfl
theorem st_33 (r : RG) (v : AV) : st r 33 v = ⟨⟨r.a.a, r.a.b, r.a.c, r.a.d, ⟨r.a.e.a, v, r.a.e.c, r.a.e.d, r.a.e.e, r.a.e.f, r.a.e.g, r.a.e.h⟩, r.a.f, r.a.g, r.a.h⟩, r.b, r.c, r.d, r.e, r.f, r.g, r.h⟩ := rfl
theorem gx_33 (r : RG) (l : List AV) : gx ⟨r, l⟩ (.t 33) = r.a.e.b := rfl
theorem gt_33 (r : RG) : gt r 33 = r.a.e.b := rfl
theorem st_34 (r : RG) (v : AV) : st r 34 v = ⟨⟨r.a.a, r.a.b, r.a.c, r.a.d, ⟨r.a.e.a, r.a.e.b, v, r.a.e.d, r.a.e.e, r.a.e.f, r.a.e.g, r.a.e.h⟩, r.a.f, r.a.g, r.a.h⟩, r.b, r.c, r.d, r.e, r.f, r.g, r.h⟩ := rfl
theorem gx_34 (r : RG) (l : List AV) : gx ⟨r, l⟩ (.t 34) = r.a.e.c := rfl
theorem gt_34 (r : RG) : gt r 34 = r.a.e.c := rfl
theorem st_35 (r : RG) (v : AV) : st r 35 v = ⟨⟨r.a.a, r.a.b, r.a.c, r.a.d, ⟨r.a.e.a, r.a.e.b, r.a.e.c, v, r.a.e.e, r.a.e.f, r.a.e.g, r.a.e.h⟩, r.a.f, r.a.g, r.a.h⟩, r.b, r.c, r.d, r.e, r.f, r.g, r.h⟩ := rfl
theorem gx_35 (r : RG) (l : List AV) : gx ⟨r, l⟩ (.t 35) = r.a.e.d := rfl
theorem gt_35 (r : RG) : gt r 35 = r.a.e.d := rfl
theorem st_36 (r : RG) (v : AV) : st r 36 v = ⟨⟨r.a.a, r.a.b, r.a.c, r.a.d, ⟨r.a.e.a, r.a.e.b, r.a.e.c, r.a.e.d, v, r.a.e.f, r.a.e.g, r.a.e.h⟩, r.a.f, r.a.g, r.a.h⟩, r.b, r.c, r.d, r.e, r.f, r.g, r.h⟩ := rfl
theorem gx_36 (r : RG) (l : List AV) : gx ⟨r, l⟩ (.t 36) = r.a.e.e := rfl
theorem gt_36 (r : RG) : gt r 36 = r.a.e.e := rfl
theorem st_37 (r : RG) (v : AV) : st r 37 v = ⟨⟨r.a.a, r.a.b, r.a.c, r.a.d, ⟨r.a.e.a, r.a.e.b, r.a.e.c, r.a.e.d, r.a.e.e, v, r.a.e.g, r.a.e.h⟩, r.a.f, r.a.g, r.a.h⟩, r.b, r.c, r.d, r.e, r.f, r.g, r.h⟩ := rfl
theorem gx_37 (r : RG) (l : List AV) : gx ⟨r, l⟩ (.t 37) = r.a.e.f := rfl
theorem gt_37 (r : RG) : gt r 37 = r.a.e.f := rfl
theorem st_38 (r : RG) (v : AV) : st r 38 v = ⟨⟨r.a.a, r.a.b, r.a.c, r.a.d, ⟨r.a.e.a, r.a.e.b, r.a.e.c, r.a.e.d, r.a.e.e, r.a.e.f, v, r.a.e.h⟩, r.a.f, r.a.g, r.a.h⟩, r.b, r.c, r.d, r.e, r.f, r.g, r.h⟩ := rfl
theorem gx_38 (r : RG) (l : List AV) : gx ⟨r, l⟩ (.t 38) = r.a.e.g := rfl
theorem gt_38 (r : RG) : gt r 38 = r.a.e.g := rfl
theorem st_39 (r : RG) (v : AV) : st r 39 v = ⟨⟨r.a.a, r.a.b, r.a.c, r.a.d, ⟨r.a.e.a, r.a.e.b, r.a.e.c, r.a.e.d, r.a.e.e, r.a.e.f, r.a.e.g, v⟩, r.a.f, r.a.g, r.a.h⟩, r.b, r.c, r.d, r.e, r.f, r.g, r.h⟩ := rfl
theorem gx_39 (r : RG) (l : List AV) : gx ⟨r, l⟩ (.t 39) = r.a.e.h := rfl
theorem gt_39 (r : RG) : gt r 39 = r.a.e.h := rfl
theorem st_40 (r : RG) (v : AV) : st r 40 v = ⟨⟨r.a.a, r.a.b, r.a.c, r.a.d, r.a.e, ⟨v, r.a.f.b, r.a.f.c, r.a.f.d, r.a.f.e, r.a.f.f, r.a.f.g, r.a.f.h⟩, r.a.g, r.a.h⟩, r.b, r.c, r.d, r.e, r.f, r.g, r.h⟩ := rfl
theorem gx_40 (r : RG) (l : List AV) : gx ⟨r, l⟩ (.t 40) = r.a.f.a := rfl
theorem gt_40 (r : RG) : gt r 40 = r.a.f.a := rfl
theorem st_41 (r : RG) (v : AV) : st r 41 v = ⟨⟨r.a.a, r.a.b, r.a.c, r.a.d, r.a.e, ⟨r.a.f.a, v, r.a.f.c, r.a.f.d, r.a.f.e, r.a.f.f, r.a.f.g, r.a.f.h⟩, r.a.g, r.a.h⟩, r.b, r.c, r.d, r.e, r.f, r.g, r.h⟩ := rfl
theorem gx_41 (r : RG) (l : List AV) : gx ⟨r, l⟩ (.t 41) = r.a.f.b := rfl
theorem gt_41 (r : RG) : gt r 41 = r.a.f.b := rfl
theorem st_42 (r : RG) (v : AV) : st r 42 v = ⟨⟨r.a.a, r.a.b, r.a.c, r.a.d, r.a.e, ⟨r.a.f.a, r.a.f.b, v, r.a.f.d, r.a.f.e, r.a.f.f, r.a.f.g, r.a.f.h⟩, r.a.g, r.a.h⟩, r.b, r.c, r.d, r.e, r.f, r.g, r.h⟩ := rfl
theorem gx_42 (r : RG) (l : List AV) : gx ⟨r, l⟩ (.t 42) = r.a.f.c := rfl
theorem gt_42 (r : RG) : gt r 42 = r.a.f.c := rfl
theorem st_43 (r : RG) (v : AV) : st r 43 v = ⟨⟨r.a.a, r.a.b, r.a.c, r.a.d, r.a.e, ⟨r.a.f.a, r.a.f.b, r.a.f.c, v, r.a.f.e, r.a.f.f, r.a.f.g, r.a.f.h⟩, r.a.g, r.a.h⟩, r.b, r.c, r.d, r.e, r.f, r.g, r.h⟩ := rfl
theorem gx_43 (r : RG) (l : List AV) : gx ⟨r, l⟩ (.t 43) = r.a.f.d := rfl
theorem gt_43 (r : RG) : gt r 43 = r.a.f.d := rfl
theorem st_44 (r : RG) (v : AV) : st r 44 v = ⟨⟨r.a.a, r.a.b, r.a.c, r.a.d, r.a.e, ⟨r.a.f.a, r.a.f.b, r.a.f.c, r.a.f.d, v, r.a.f.f, r.a.f.g, r.a.f.h⟩, r.a.g, r.a.h⟩, r.b, r.c, r.d, r.e, r.f, r.g, r.h⟩ := rfl
theorem gx_44 (r : RG) (l : List AV) : gx ⟨r, l⟩ (.t 44) = r.a.f.e := rfl
theorem gt_44 (r : RG) : gt r 44 = r.a.f.e := rfl
theorem st_45 (r : RG) (v : AV) : st r 45 v = ⟨⟨r.a.a, r.a.b, r.a.c, r.a.d, r.a.e, ⟨r.a.f.a, r.a.f.b, r.a.f.c, r.a.f.d, r.a.f.e, v, r.a.f.g, r.a.f.h⟩, r.a.g, r.a.h⟩, r.b, r.c, r.d, r.e, r.f, r.g, r.h⟩ := rfl
theorem gx_45 (r : RG) (l : List AV) : gx ⟨r, l⟩ (.t 45) = r.a.f.f := rfl
theorem gt_45 (r : RG) : gt r 45 = r.a.f.f := rfl
theorem st_46 (r : RG) (v : AV) : st r 46 v = ⟨⟨r.a.a, r.a.b, r.a.c, r.a.d, r.a.e, ⟨r.a.f.a, r.a.f.b, r.a.f.c, r.a.f.d, r.a.f.e, r.a.f.f, v, r.a.f.h⟩, r.a.g, r.a.h⟩, r.b, r.c, r.d, r.e, r.f, r.g, r.h⟩ := rfl
theorem gx_46 (r : RG) (l : List AV) : gx ⟨r, l⟩ (.t 46) = r.a.f.g := rfl
theorem gt_46 (r : RG) : gt r 46 = r.a.f.g := rfl
theorem st_47 (r : RG) (v : AV) : st r 47 v = ⟨⟨r.a.a, r.a.b, r.a.c, r.a.d, r.a.e, ⟨r.a.f.a, r.a.f.b, r.a.f.c, r.a.f.d, r.a.f.e, r.a.f.f, r.a.f.g, v⟩, r.a.g, r.a.h⟩, r.b, r.c, r.d, r.e, r.f, r.g, r.h⟩ := rfl
theorem gx_47 (r : RG) (l : List AV) : gx ⟨r, l⟩ (.t 47) = r.a.f.h := rfl
theorem gt_47 (r : RG) : gt r 47 = r.a.f.h := rfl
theorem st_48 (r : RG) (v : AV) : st r 48 v = ⟨⟨r.a.a, r.a.b, r.a.c, r.a.d, r.a.e, r.a.f, ⟨v, r.a.g.b, r.a.g.c, r.a.g.d, r.a.g.e, r.a.g.f, r.a.g.g, r.a.g.h⟩, r.a.h⟩, r.b, r.c, r.d, r.e, r.f, r.g, r.h⟩ := rfl
theorem gx_48 (r : RG) (l : List AV) : gx ⟨r, l⟩ (.t 48) = r.a.g.a := rfl
theorem gt_48 (r : RG) : gt r 48 = r.a.g.a := rfl
theorem st_49 (r : RG) (v : AV) : st r 49 v = ⟨⟨r.a.a, r.a.b, r.a.c, r.a.d, r.a.e, r.a.f, ⟨r.a.g.a, v, r.a.g.c, r.a.g.d, r.a.g.e, r.a.g.f, r.a.g.g, r.a.g.h⟩, r.a.h⟩, r.b, r.c, r.d, r.e, r.f, r.g, r.h⟩ := rfl
theorem gx_49 (r : RG) (l : List AV) : gx ⟨r, l⟩ (.t 49) = r.a.g.b := rfl
theorem gt_49 (r : RG) : gt r 49 = r.a.g.b := rfl
theorem st_50 (r : RG) (v : AV) : st r 50 v = ⟨⟨r.a.a, r.a.b, r.a.c, r.a.d, r.a.e, r.a.f, ⟨r.a.g.a, r.a.g.b, v, r.a.g.d, r.a.g.e, r.a.g.f, r.a.g.g, r.a.g.h⟩, r.a.h⟩, r.b, r.c, r.d, r.e, r.f, r.g, r.h⟩ := rfl
theorem gx_50 (r : RG) (l : List AV) : gx ⟨r, l⟩ (.t 50) = r.a.g.c := rfl
theorem gt_50 (r : RG) : gt r 50 = r.a.g.c := rfl
theorem st_51 (r : RG) (v : AV) : st r 51 v = ⟨⟨r.a.a, r.a.b, r.a.c, r.a.d, r.a.e, r.a.f, ⟨r.a.g.a, r.a.g.b, r.a.g.c, v, r.a.g.e, r.a.g.f, r.a.g.g, r.a.g.h⟩, r.a.h⟩, r.b, r.c, r.d, r.e, r.f, r.g, r.h⟩ := rfl
theorem gx_51 (r : RG) (l : List AV) : gx ⟨r, l⟩ (.t 51) = r.a.g.d := rfl
theorem gt_51 (r : RG) : gt r 51 = r.a.g.d := rfl
theorem st_52 (r : RG) (v : AV) : st r 52 v = ⟨⟨r.a.a, r.a.b, r.a.c, r.a.d, r.a.e, r.a.f, ⟨r.a.g.a, r.a.g.b, r.a.g.c, r.a.g.d, v, r.a.g.f, r.a.g.g, r.a.g.h⟩, r.a.h⟩, r.b, r.c, r.d, r.e, r.f, r.g, r.h⟩ := rfl
theorem gx_52 (r : RG) (l : List AV) : gx ⟨r, l⟩ (.t 52) = r.a.g.e := rfl
theorem gt_52 (r : RG) : gt r 52 = r.a.g.e := rfl
theorem st_53 (r : RG) (v : AV) : st r 53 v = ⟨⟨r.a.a, r.a.b, r.a.c, r.a.d, r.a.e, r.a.f, ⟨r.a.g.a, r.a.g.b, r.a.g.c, r.a.g.d, r.a.g.e, v, r.a.g.g, r.a.g.h⟩, r.a.h⟩, r.b, r.c, r.d, r.e, r.f, r.g, r.h⟩ := rfl
theorem gx_53 (r : RG) (l : List AV) : gx ⟨r, l⟩ (.t 53) = r.a.g.f := rfl
theorem gt_53 (r : RG) : gt r 53 = r.a.g.f := rfl
theorem st_54 (r : RG) (v : AV) : st r 54 v = ⟨⟨r.a.a, r.a.b, r.a.c, r.a.d, r.a.e, r.a.f, ⟨r.a.g.a, r.a.g.b, r.a.g.c, r.a.g.d, r.a.g.e, r.a.g.f, v, r.a.g.h⟩, r.a.h⟩, r.b, r.c, r.d, r.e, r.f, r.g, r.h⟩ := rfl
theorem gx_54 (r : RG) (l : List AV) : gx ⟨r, l⟩ (.t 54) = r.a.g.g := rfl
theorem gt_54 (r : RG) : gt r 54 = r.a.g.g := rfl
theorem st_55 (r : RG) (v : AV) : st r 55 v = ⟨⟨r.a.a, r.a.b, r.a.c, r.a.d, r.a.e, r.a.f, ⟨r.a.g.a, r.a.g.b, r.a.g.c, r.a.g.d, r.a.g.e, r.a.g.f, r.a.g.g, v⟩, r.a.h⟩, r.b, r.c, r.d, r.e, r.f, r.g, r.h⟩ := rfl
theorem gx_55 (r : RG) (l : List AV) : gx ⟨r, l⟩ (.t 55) = r.a.g.h := rfl
theorem gt_55 (r : RG) : gt r 55 = r.a.g.h := rfl
theorem st_56 (r : RG) (v : AV) : st r 56 v = ⟨⟨r.a.a, r.a.b, r.a.c, r.a.d, r.a.e, r.a.f, r.a.g, ⟨v, r.a.h.b, r.a.h.c, r.a.h.d, r.a.h.e, r.a.h.f, r.a.h.g, r.a.h.h⟩⟩, r.b, r.c, r.d, r.e, r.f, r.g, r.h⟩ := rfl
theorem gx_56 (r : RG) (l : List AV) : gx ⟨r, l⟩ (.t 56) = r.a.h.a := rfl
theorem gt_56 (r : RG) : gt r 56 = r.a.h.a := rfl
theorem st_57 (r : RG) (v : AV) : st r 57 v = ⟨⟨r.a.a, r.a.b, r.a.c, r.a.d, r.a.e, r.a.f, r.a.g, ⟨r.a.h.a, v, r.a.h.c, r.a.h.d, r.a.h.e, r.a.h.f, r.a.h.g, r.a.h.h⟩⟩, r.b, r.c, r.d, r.e, r.f, r.g, r.h⟩ := rfl
theorem gx_57 (r : RG) (l : List AV) : gx ⟨r, l⟩ (.t 57) = r.a.h.b := rfl
theorem gt_57 (r : RG) : gt r 57 = r.a.h.b := rfl
theorem st_58 (r : RG) (v : AV) : st r 58 v = ⟨⟨r.a.a, r.a.b, r.a.c, r.a.d, r.a.e, r.a.f, r.a.g, ⟨r.a.h.a, r.a.h.b, v, r.a.h.d, r.a.h.e, r.a.h.f, r.a.h.g, r.a.h.h⟩⟩, r.b, r.c, r.d, r.e, r.f, r.g, r.h⟩ := rfl
theorem gx_58 (r : RG) (l : List AV) : gx ⟨r, l⟩ (.t 58) = r.a.h.c := rfl
theorem gt_58 (r : RG) : gt r 58 = r.a.h.c := rfl
theorem st_59 (r : RG) (v : AV) : st r 59 v = ⟨⟨r.a.a, r.a.b, r.a.c, r.a.d, r.a.e, r.a.f, r.a.g, ⟨r.a.h.a, r.a.h.b, r.a.h.c, v, r.a.h.e, r.a.h.f, r.a.h.g, r.a.h.h⟩⟩, r.b, r.c, r.d, r.e, r.f, r.g, r.h⟩ := rfl
theorem gx_59 (r : RG) (l : List AV) : gx ⟨r, l⟩ (.t 59) = r.a.h.d := rfl
theorem gt_59 (r : RG) : gt r 59 = r.a.h.d := rfl
theorem st_60 (r : RG) (v : AV) : st r 60 v = ⟨⟨r.a.a, r.a.b, r.a.c, r.a.d, r.a.e, r.a.f, r.a.g, ⟨r.a.h.a, r.a.h.b, r.a.h.c, r.a.h.d, v, r.a.h.f, r.a.h.g, r.a.h.h⟩⟩, r.b, r.c, r.d, r.e, r.f, r.g, r.h⟩ := rfl
theorem gx_60 (r : RG) (l : List AV) : gx ⟨r, l⟩ (.t 60) = r.a.h.e := rfl
theorem gt_60 (r : RG) : gt r 60 = r.a.h.e := rfl
theorem st_61 (r : RG) (v : AV) : st r 61 v = ⟨⟨r.a.a, r.a.b, r.a.c, r.a.d, r.a.e, r.a.f, r.a.g, ⟨r.a.h.a, r.a.h.b, r.a.h.c, r.a.h.d, r.a.h.e, v, r.a.h.g, r.a.h.h⟩⟩, r.b, r.c, r.d, r.e, r.f, r.g, r.h⟩ := rfl
theorem gx_61 (r : RG) (l : List AV) : gx ⟨r, l⟩ (.t 61) = r.a.h.f := rfl
theorem gt_61 (r : RG) : gt r 61 = r.a.h.f := rfl
theorem st_62 (r : RG) (v : AV) : st r 62 v = ⟨⟨r.a.a, r.a.b, r.a.c, r.a.d, r.a.e, r.a.f, r.a.g, ⟨r.a.h.a, r.a.h.b, r.a.h.c, r.a.h.d, r.a.h.e, r.a.h.f, v, r.a.h.h⟩⟩, r.b, r.c, r.d, r.e, r.f, r.g, r.h⟩ := rfl
theorem gx_62 (r : RG) (l : List AV) : gx ⟨r, l⟩ (.t 62) = r.a.h.g := rfl
theorem gt_62 (r : RG) : gt r 62 = r.a.h.g := rfl
theorem st_63 (r : RG) (v : AV) : st r 63 v = ⟨⟨r.a.a, r.a.b, r.a.c, r.a.d, r.a.e, r.a.f, r.a.g, ⟨r.a.h.a, r.a.h.b, r.a.h.c, r.a.h.d, r.a.h.e, r.a.h.f, r.a.h.g, v⟩⟩, r.b, r.c, r.d, r.e, r.f, r.g, r.h⟩ := rfl
theorem gx_63 (r : RG) (l : List AV) : gx ⟨r, l⟩ (.t 63) = r.a.h.h := rfl
theorem gt_63 (r : RG) : gt r 63 = r.a.h.h := rfl
theorem st_64 (r : RG) (v : AV) : st r 64 v = ⟨r.a, ⟨⟨v, r.b.a.b, r.b.a.c, r.b.a.d, r.b.a.e, r.b.a.f, r.b.a.g, r.b.a.h⟩, r.b.b, r.b.c, r.b.d, r.b.e, r.b.f, r.b.g, r.b.h⟩, r.c, r.d, r.e, r.f, r.g, r.h⟩ := rfl
theorem gx_64 (r : RG) (l : List AV) : gx ⟨r, l⟩ (.t 64) = r.b.a.a := rfl
theorem gt_64 (r : RG) : gt r 64 = r.b.a.a := rfl
theorem st_65 (r : RG) (v : AV) : st r 65 v = ⟨r.a, ⟨⟨r.b.a.a, v, r.b.a.c, r.b.a.d, r.b.a.e, r.b.a.f, r.b.a.g, r.b.a.h⟩, r.b.b, r.b.c, r.b.d, r.b.e, r.b.f, r.b.g, r.b.h⟩, r.c, r.d, r.e, r.f, r.g, r.h⟩ := rfl
theorem gx_65 (r : RG) (l : List AV) : gx ⟨r, l⟩ (.t 65) = r.b.a.b := rfl
theorem gt_65 (r : RG) : gt r 65 = r.b.a.b := rfl
theorem st_66 (r : RG) (v : AV) : st r 66 v = ⟨r.a, ⟨⟨r.b.a.a, r.b.a.b, v, r.b.a.d, r.b.a.e, r.b.a.f, r.b.a.g, r.b.a.h⟩, r.b.b, r.b.c, r.b.d, r.b.e, r.b.f, r.b.g, r.b.h⟩, r.c, r.d, r.e, r.f, r.g, r.h⟩ := rfl
theorem gx_66 (r : RG) (l : List AV) : gx ⟨r, l⟩ (.t 66) = r.b.a.c := rfl
theorem gt_66 (r : RG) : gt r 66 = r.b.a.c := rfl
theorem st_67 (r : RG) (v : AV) : st r 67 v = ⟨r.a, ⟨⟨r.b.a.a, r.b.a.b, r.b.a.c, v, r.b.a.e, r.b.a.f, r.b.a.g, r.b.a.h⟩, r.b.b, r.b.c, r.b.d, r.b.e, r.b.f, r.b.g, r.b.h⟩, r.c, r.d, r.e, r.f, r.g, r.h⟩ := rfl
theorem gx_67 (r : RG) (l : List AV) : gx ⟨r, l⟩ (.t 67) = r.b.a.d := rfl
theorem gt_67 (r : RG) : gt r 67 = r.b.a.d := rfl
theorem st_68 (r : RG) (v : AV) : st r 68 v = ⟨r.a, ⟨⟨r.b.a.a, r.b.a.b, r.b.a.c, r.b.a.d, v, r.b.a.f, r.b.a.g, r.b.a.h⟩, r.b.b, r.b.c, r.b.d, r.b.e, r.b.f, r.b.g, r.b.h⟩, r.c, r.d, r.e, r.f, r.g, r.h⟩ := rfl
theorem gx_68 (r : RG) (l : List AV) : gx ⟨r, l⟩ (.t 68) = r.b.a.e := rfl
theorem gt_68 (r : RG) : gt r 68 = r.b.a.e := rfl
theorem st_69 (r : RG) (v : AV) : st r 69 v = ⟨r.a, ⟨⟨r.b.a.a, r.b.a.b, r.b.a.c, r.b.a.d, r.b.a.e, v, r.b.a.g, r.b.a.h⟩, r.b.b, r.b.c, r.b.d, r.b.e, r.b.f, r.b.g, r.b.h⟩, r.c, r.d, r.e, r.f, r.g, r.h⟩ := rfl
theorem gx_69 (r : RG) (l : List AV) : gx ⟨r, l⟩ (.t 69) = r.b.a.f := rfl
theorem gt_69 (r : RG) : gt r 69 = r.b.a.f := rfl
theorem st_70 (r : RG) (v : AV) : st r 70 v = ⟨r.a, ⟨⟨r.b.a.a, r.b.a.b, r.b.a.c, r.b.a.d, r.b.a.e, r.b.a.f, v, r.b.a.h⟩, r.b.b, r.b.c, r.b.d, r.b.e, r.b.f, r.b.g, r.b.h⟩, r.c, r.d, r.e, r.f, r.g, r.h⟩ := rfl
theorem gx_70 (r : RG) (l : List AV) : gx ⟨r, l⟩ (.t 70) = r.b.a.g := rfl
theorem gt_70 (r : RG) : gt r 70 = r.b.a.g := rfl
theorem st_71 (r : RG) (v : AV) : st r 71 v = ⟨r.a, ⟨⟨r.b.a.a, r.b.a.b, r.b.a.c, r.b.a.d, r.b.a.e, r.b.a.f, r.b.a.g, v⟩, r.b.b, r.b.c, r.b.d, r.b.e, r.b.f, r.b.g, r.b.h⟩, r.c, r.d, r.e, r.f, r.g, r.h⟩ := rfl
theorem gx_71 (r : RG) (l : List AV) : gx ⟨r, l⟩ (.t 71) = r.b.a.h := rfl
theorem gt_71 (r : RG) : gt r 71 = r.b.a.h := rfl
theorem st_72 (r : RG) (v : AV) : st r 72 v = ⟨r.a, ⟨r.b.a, ⟨v, r.b.b.b, r.b.b.c, r.b.b.d, r.b.b.e, r.b.b.f, r.b.b.g, r.b.b.h⟩, r.b.c, r.b.d, r.b.e, r.b.f, r.b.g, r.b.h⟩, r.c, r.d, r.e, r.f, r.g, r.h⟩ := rfl
theorem gx_72 (r : RG) (l : List AV) : gx ⟨r, l⟩ (.t 72) = r.b.b.a := rfl
theorem gt_72 (r : RG) : gt r 72 = r.b.b.a := rfl
theorem st_73 (r : RG) (v : AV) : st r 73 v = ⟨r.a, ⟨r.b.a, ⟨r.b.b.a, v, r.b.b.c, r.b.b.d, r.b.b.e, r.b.b.f, r.b.b.g, r.b.b.h⟩, r.b.c, r.b.d, r.b.e, r.b.f, r.b.g, r.b.h⟩, r.c, r.d, r.e, r.f, r.g, r.h⟩ := rfl
theorem gx_73 (r : RG) (l : List AV) : gx ⟨r, l⟩ (.t 73) = r.b.b.b := rfl
theorem gt_73 (r : RG) : gt r 73 = r.b.b.b := rfl
theorem st_74 (r : RG) (v : AV) : st r 74 v = ⟨r.a, ⟨r.b.a, ⟨r.b.b.a, r.b.b.b, v, r.b.b.d, r.b.b.e, r.b.b.f, r.b.b.g, r.b.b.h⟩, r.b.c, r.b.d, r.b.e, r.b.f, r.b.g, r.b.h⟩, r.c, r.d, r.e, r.f, r.g, r.h⟩ := rfl
theorem gx_74 (r : RG) (l : List AV) : gx ⟨r, l⟩ (.t 74) = r.b.b.c := rfl
theorem gt_74 (r : RG) : gt r 74 = r.b.b.c := rfl
theorem st_75 (r : RG) (v : AV) : st r 75 v = ⟨r.a, ⟨r.b.a, ⟨r.b.b.a, r.b.b.b, r.b.b.c, v, r.b.b.e, r.b.b.f, r.b.b.g, r.b.b.h⟩, r.b.c, r.b.d, r.b.e, r.b.f, r.b.g, r.b.h⟩, r.c, r.d, r.e, r.f, r.g, r.h⟩ := rfl
theorem gx_75 (r : RG) (l : List AV) : gx ⟨r, l⟩ (.t 75) = r.b.b.d := rfl
theorem gt_75 (r : RG) : gt r 75 = r.b.b.d := rfl
theorem st_76 (r : RG) (v : AV) : st r 76 v = ⟨r.a, ⟨r.b.a, ⟨r.b.b.a, r.b.b.b, r.b.b.c, r.b.b.d, v, r.b.b.f, r.b.b.g, r.b.b.h⟩, r.b.c, r.b.d, r.b.e, r.b.f, r.b.g, r.b.h⟩, r.c, r.d, r.e, r.f, r.g, r.h⟩ := rfl
theorem gx_76 (r : RG) (l : List AV) : gx ⟨r, l⟩ (.t 76) = r.b.b.e := rfl
theorem gt_76 (r : RG) : gt r 76 = r.b.b.e := rfl
theorem st_77 (r : RG) (v : AV) : st r 77 v = ⟨r.a, ⟨r.b.a, ⟨r.b.b.a, r.b.b.b, r.b.b.c, r.b.b.d, r.b.b.e, v, r.b.b.g, r.b.b.h⟩, r.b.c, r.b.d, r.b.e, r.b.f, r.b.g, r.b.h⟩, r.c, r.d, r.e, r.f, r.g, r.h⟩ := rfl
theorem gx_77 (r : RG) (l : List AV) : gx ⟨r, l⟩ (.t 77) = r.b.b.f := rfl
theorem gt_77 (r : RG) : gt r 77 = r.b.b.f := rfl
theorem st_78 (r : RG) (v : AV) : st r 78 v = ⟨r.a, ⟨r.b.a, ⟨r.b.b.a, r.b.b.b, r.b.b.c, r.b.b.d, r.b.b.e, r.b.b.f, v, r.b.b.h⟩, r.b.c, r.b.d, r.b.e, r.b.f, r.b.g, r.b.h⟩, r.c, r.d, r.e, r.f, r.g, r.h⟩ := rfl
theorem gx_78 (r : RG) (l : List AV) : gx ⟨r, l⟩ (.t 78) = r.b.b.g := rfl
theorem gt_78 (r : RG) : gt r 78 = r.b.b.g := rfl
theorem st_79 (r : RG) (v : AV) : st r 79 v = ⟨r.a, ⟨r.b.a, ⟨r.b.b.a, r.b.b.b, r.b.b.c, r.b.b.d, r.b.b.e, r.b.b.f, r.b.b.g, v⟩, r.b.c, r.b.d, r.b.e, r.b.f, r.b.g, r.b.h⟩, r.c, r.d, r.e, r.f, r.g, r.h⟩ := rfl
theorem gx_79 (r : RG) (l : List AV) : gx ⟨r, l⟩ (.t 79) = r.b.b.h := rfl
theorem gt_79 (r : RG) : gt r 79 = r.b.b.h := rfl
theorem st_80 (r : RG) (v : AV) : st r 80 v = ⟨r.a, ⟨r.b.a, r.b.b, ⟨v, r.b.c.b, r.b.c.c, r.b.c.d, r.b.c.e, r.b.c.f, r.b.c.g, r.b.c.h⟩, r.b.d, r.b.e, r.b.f, r.b.g, r.b.h⟩, r.c, r.d, r.e, r.f, r.g, r.h⟩ := rfl
theorem gx_80 (r : RG) (l : List AV) : gx ⟨r, l⟩ (.t 80) = r.b.c.a := rfl
theorem gt_80 (r : RG) : gt r 80 = r.b.c.a := rfl
theorem st_81 (r : RG) (v : AV) : st r 81 v = ⟨r.a, ⟨r.b.a, r.b.b, ⟨r.b.c.a, v, r.b.c.c, r.b.c.d, r.b.c.e, r.b.c.f, r.b.c.g, r.b.c.h⟩, r.b.d, r.b.e, r.b.f, r.b.g, r.b.h⟩, r.c, r.d, r.e, r.f, r.g, r.h⟩ := rfl
theorem gx_81 (r : RG) (l : List AV) : gx ⟨r, l⟩ (.t 81) = r.b.c.b := rfl
theorem gt_81 (r : RG) : gt r 81 = r.b.c.b := rfl
theorem st_82 (r : RG) (v : AV) : st r 82 v = ⟨r.a, ⟨r.b.a, r.b.b, ⟨r.b.c.a, r.b.c.b, v, r.b.c.d, r.b.c.e, r.b.c.f, r.b.c.g, r.b.c.h⟩, r.b.d, r.b.e, r.b.f, r.b.g, r.b.h⟩, r.c, r.d, r.e, r.f, r.g, r.h⟩ := rfl
theorem gx_82 (r : RG) (l : List AV) : gx ⟨r, l⟩ (.t 82) = r.b.c.c := rfl
theorem gt_82 (r : RG) : gt r 82 = r.b.c.c := rfl
theorem st_83 (r : RG) (v : AV) : st r 83 v = ⟨r.a, ⟨r.b.a, r.b.b, ⟨r.b.c.a, r.b.c.b, r.b.c.c, v, r.b.c.e, r.b.c.f, r.b.c.g, r.b.c.h⟩, r.b.d, r.b.e, r.b.f, r.b.g, r.b.h⟩, r.c, r.d, r.e, r.f, r.g, r.h⟩ := rfl
theorem gx_83 (r : RG) (l : List AV) : gx ⟨r, l⟩ (.t 83) = r.b.c.d := rfl
theorem gt_83 (r : RG) : gt r 83 = r.b.c.d := rfl
theorem st_84 (r : RG) (v : AV) : st r 84 v = ⟨r.a, ⟨r.b.a, r.b.b, ⟨r.b.c.a, r.b.c.b, r.b.c.c, r.b.c.d, v, r.b.c.f, r.b.c.g, r.b.c.h⟩, r.b.d, r.b.e, r.b.f, r.b.g, r.b.h⟩, r.c, r.d, r.e, r.f, r.g, r.h⟩ := rfl
theorem gx_84 (r : RG) (l : List AV) : gx ⟨r, l⟩ (.t 84) = r.b.c.e := rfl
theorem gt_84 (r : RG) : gt r 84 = r.b.c.e := rfl
theorem st_85 (r : RG) (v : AV) : st r 85 v = ⟨r.a, ⟨r.b.a, r.b.b, ⟨r.b.c.a, r.b.c.b, r.b.c.c, r.b.c.d, r.b.c.e, v, r.b.c.g, r.b.c.h⟩, r.b.d, r.b.e, r.b.f, r.b.g, r.b.h⟩, r.c, r.d, r.e, r.f, r.g, r.h⟩ := rfl
theorem gx_85 (r : RG) (l : List AV) : gx ⟨r, l⟩ (.t 85) = r.b.c.f := rfl
theorem gt_85 (r : RG) : gt r 85 = r.b.c.f := rfl
theorem st_86 (r : RG) (v : AV) : st r 86 v = ⟨r.a, ⟨r.b.a, r.b.b, ⟨r.b.c.a, r.b.c.b, r.b.c.c, r.b.c.d, r.b.c.e, r.b.c.f, v, r.b.c.h⟩, r.b.d, r.b.e, r.b.f, r.b.g, r.b.h⟩, r.c, r.d, r.e, r.f, r.g, r.h⟩ := rfl
theorem gx_86 (r : RG) (l : List AV) : gx ⟨r, l⟩ (.t 86) = r.b.c.g := rfl
theorem gt_86 (r : RG) : gt r 86 = r.b.c.g := rfl
theorem st_87 (r : RG) (v : AV) : st r 87 v = ⟨r.a, ⟨r.b.a, r.b.b, ⟨r.b.c.a, r.b.c.b, r.b.c.c, r.b.c.d, r.b.c.e, r.b.c.f, r.b.c.g, v⟩, r.b.d, r.b.e, r.b.f, r.b.g, r.b.h⟩, r.c, r.d, r.e, r.f, r.g, r.h⟩ := rfl
theorem gx_87 (r : RG) (l : List AV) : gx ⟨r, l⟩ (.t 87) = r.b.c.h := rfl
theorem gt_87 (r : RG) : gt r 87 = r.b.c.h := rfl
theorem st_88 (r : RG) (v : AV) : st r 88 v = ⟨r.a, ⟨r.b.a, r.b.b, r.b.c, ⟨v, r.b.d.b, r.b.d.c, r.b.d.d, r.b.d.e, r.b.d.f, r.b.d.g, r.b.d.h⟩, r.b.e, r.b.f, r.b.g, r.b.h⟩, r.c, r.d, r.e, r.f, r.g, r.h⟩ := rfl
theorem gx_88 (r : RG) (l : List AV) : gx ⟨r, l⟩ (.t 88) = r.b.d.a := rfl
theorem gt_88 (r : RG) : gt r 88 = r.b.d.a := rfl
theorem st_89 (r : RG) (v : AV) : st r 89 v = ⟨r.a, ⟨r.b.a, r.b.b, r.b.c, ⟨r.b.d.a, v, r.b.d.c, r.b.d.d, r.b.d.e, r.b.d.f, r.b.d.g, r.b.d.h⟩, r.b.e, r.b.f, r.b.g, r.b.h⟩, r.c, r.d, r.e, r.f, r.g, r.h⟩ := rfl
theorem gx_89 (r : RG) (l : List AV) : gx ⟨r, l⟩ (.t 89) = r.b.d.b := rfl
theorem gt_89 (r : RG) : gt r 89 = r.b.d.b := rfl
theorem st_90 (r : RG) (v : AV) : st r 90 v = ⟨r.a, ⟨r.b.a, r.b.b, r.b.c, ⟨r.b.d.a, r.b.d.b, v, r.b.d.d, r.b.d.e, r.b.d.f, r.b.d.g, r.b.d.h⟩, r.b.e, r.b.f, r.b.g, r.b.h⟩, r.c, r.d, r.e, r.f, r.g, r.h⟩ := rfl
theorem gx_90 (r : RG) (l : List AV) : gx ⟨r, l⟩ (.t 90) = r.b.d.c := rfl
theorem gt_90 (r : RG) : gt r 90 = r.b.d.c := rfl
theorem st_91 (r : RG) (v : AV) : st r 91 v = ⟨r.a, ⟨r.b.a, r.b.b, r.b.c, ⟨r.b.d.a, r.b.d.b, r.b.d.c, v, r.b.d.e, r.b.d.f, r.b.d.g, r.b.d.h⟩, r.b.e, r.b.f, r.b.g, r.b.h⟩, r.c, r.d, r.e, r.f, r.g, r.h⟩ := rfl
theorem gx_91 (r : RG) (l : List AV) : gx ⟨r, l⟩ (.t 91) = r.b.d.d := rfl
theorem gt_91 (r : RG) : gt r 91 = r.b.d.d := rfl
theorem st_92 (r : RG) (v : AV) : st r 92 v = ⟨r.a, ⟨r.b.a, r.b.b, r.b.c, ⟨r.b.d.a, r.b.d.b, r.b.d.c, r.b.d.d, v, r.b.d.f, r.b.d.g, r.b.d.h⟩, r.b.e, r.b.f, r.b.g, r.b.h⟩, r.c, r.d, r.e, r.f, r.g, r.h⟩ := rfl
theorem gx_92 (r : RG) (l : List AV) : gx ⟨r, l⟩ (.t 92) = r.b.d.e := rfl
theorem gt_92 (r : RG) : gt r 92 = r.b.d.e := rfl
theorem st_93 (r : RG) (v : AV) : st r 93 v = ⟨r.a, ⟨r.b.a, r.b.b, r.b.c, ⟨r.b.d.a, r.b.d.b, r.b.d.c, r.b.d.d, r.b.d.e, v, r.b.d.g, r.b.d.h⟩, r.b.e, r.b.f, r.b.g, r.b.h⟩, r.c, r.d, r.e, r.f, r.g, r.h⟩ := rfl
theorem gx_93 (r : RG) (l : List AV) : gx ⟨r, l⟩ (.t 93) = r.b.d.f := rfl
theorem gt_93 (r : RG) : gt r 93 = r.b.d.f := rfl
theorem st_94 (r : RG) (v : AV) : st r 94 v = ⟨r.a, ⟨r.b.a, r.b.b, r.b.c, ⟨r.b.d.a, r.b.d.b, r.b.d.c, r.b.d.d, r.b.d.e, r.b.d.f, v, r.b.d.h⟩, r.b.e, r.b.f, r.b.g, r.b.h⟩, r.c, r.d, r.e, r.f, r.g, r.h⟩ := rfl
theorem gx_94 (r : RG) (l : List AV) : gx ⟨r, l⟩ (.t 94) = r.b.d.g := rfl
theorem gt_94 (r : RG) : gt r 94 = r.b.d.g := rfl
theorem st_95 (r : RG) (v : AV) : st r 95 v = ⟨r.a, ⟨r.b.a, r.b.b, r.b.c, ⟨r.b.d.a, r.b.d.b, r.b.d.c, r.b.d.d, r.b.d.e, r.b.d.f, r.b.d.g, v⟩, r.b.e, r.b.f, r.b.g, r.b.h⟩, r.c, r.d, r.e, r.f, r.g, r.h⟩ := rfl
theorem gx_95 (r : RG) (l : List AV) : gx ⟨r, l⟩ (.t 95) = r.b.d.h := rfl
theorem gt_95 (r : RG) : gt r 95 = r.b.d.h := rfl
theorem st_96 (r : RG) (v : AV) : st r 96 v = ⟨r.a, ⟨r.b.a, r.b.b, r.b.c, r.b.d, ⟨v, r.b.e.b, r.b.e.c, r.b.e.d, r.b.e.e, r.b.e.f, r.b.e.g, r.b.e.h⟩, r.b.f, r.b.g, r.b.h⟩, r.c, r.d, r.e, r.f, r.g, r.h⟩ := rfl
theorem gx_96 (r : RG) (l : List AV) : gx ⟨r, l⟩ (.t 96) = r.b.e.a := rfl
theorem gt_96 (r : RG) : gt r 96 = r.b.e.a := rfl
theorem st_97 (r : RG) (v : AV) : st r 97 v = ⟨r.a, ⟨r.b.a, r.b.b, r.b.c, r.b.d, ⟨r.b.e.a, v, r.b.e.c, r.b.e.d, r.b.e.e, r.b.e.f, r.b.e.g, r.b.e.h⟩, r.b.f, r.b.g, r.b.h⟩, r.c, r.d, r.e, r.f, r.g, r.h⟩ := rfl
theorem gx_97 (r : RG) (l : List AV) : gx ⟨r, l⟩ (.t 97) = r.b.e.b := rfl
theorem gt_97 (r : RG) : gt r 97 = r.b.e.b := rfl
theorem st_98 (r : RG) (v : AV) : st r 98 v = ⟨r.a, ⟨r.b.a, r.b.b, r.b.c, r.b.d, ⟨r.b.e.a, r.b.e.b, v, r.b.e.d, r.b.e.e, r.b.e.f, r.b.e.g, r.b.e.h⟩, r.b.f, r.b.g, r.b.h⟩, r.c, r.d, r.e, r.f, r.g, r.h⟩ := rfl
theorem gx_98 (r : RG) (l : List AV) : gx ⟨r, l⟩ (.t 98) = r.b.e.c := rfl
theorem gt_98 (r : RG) : gt r 98 = r.b.e.c := rfl
theorem st_99 (r : RG) (v : AV) : st r 99 v = ⟨r.a, ⟨r.b.a, r.b.b, r.b.c, r.b.d, ⟨r.b.e.a, r.b.e.b, r.b.e.c, v, r.b.e.e, r.b.e.f, r.b.e.g, r.b.e.h⟩, r.b.f, r.b.g, r.b.h⟩, r.c, r.d, r.e, r.f, r.g, r.h⟩ := rfl
theorem gx_99 (r : RG) (l : List AV) : gx ⟨r, l⟩ (.t 99) = r.b.e.d := rfl
theorem gt_99 (r : RG) : gt r 99 = r.b.e.d := rfl
theorem st_100 (r : RG) (v : AV) : st r 100 v = ⟨r.a, ⟨r.b.a, r.b.b, r.b.c, r.b.d, ⟨r.b.e.a, r.b.e.b, r.b.e.c, r.b.e.d, v, r.b.e.f, r.b.e.g, r.b.e.h⟩, r.b.f, r.b.g, r.b.h⟩, r.c, r.d, r.e, r.f, r.g, r.h⟩ := rfl
theorem gx_100 (r : RG) (l : List AV) : gx ⟨r, l⟩ (.t 100) = r.b.e.e := rfl
theorem gt_100 (r : RG) : gt r 100 = r.b.e.e := rfl
theorem st_101 (r : RG) (v : AV) : st r 101 v = ⟨r.a, ⟨r.b.a, r.b.b, r.b.c, r.b.d, ⟨r.b.e.a, r.b.e.b, r.b.e.c, r.b.e.d, r.b.e.e, v, r.b.e.g, r.b.e.h⟩, r.b.f, r.b.g, r.b.h⟩, r.c, r.d, r.e, r.f, r.g, r.h⟩ := rfl
theorem gx_101 (r : RG) (l : List AV) : gx ⟨r, l⟩ (.t 101) = r.b.e.f := rfl
theorem gt_101 (r : RG) : gt r 101 = r.b.e.f := rfl
theorem st_102 (r : RG) (v : AV) : st r 102 v = ⟨r.a, ⟨r.b.a, r.b.b, r.b.c, r.b.d, ⟨r.b.e.a, r.b.e.b, r.b.e.c, r.b.e.d, r.b.e.e, r.b.e.f, v, r.b.e.h⟩, r.b.f, r.b.g, r.b.h⟩, r.c, r.d, r.e, r.f, r.g, r.h⟩ := rfl
theorem gx_102 (r : RG) (l : List AV) : gx ⟨r, l⟩ (.t 102) = r.b.e.g := rfl
theorem gt_102 (r : RG) : gt r 102 = r.b.e.g := rfl
theorem st_103 (r : RG) (v : AV) : st r 103 v = ⟨r.a, ⟨r.b.a, r.b.b, r.b.c, r.b.d, ⟨r.b.e.a, r.b.e.b, r.b.e.c, r.b.e.d, r.b.e.e, r.b.e.f, r.b.e.g, v⟩, r.b.f, r.b.g, r.b.h⟩, r.c, r.d, r.e, r.f, r.g, r.h⟩ := rfl
theorem gx_103 (r : RG) (l : List AV) : gx ⟨r, l⟩ (.t 103) = r.b.e.h := rfl
theorem gt_103 (r : RG) : gt r 103 = r.b.e.h := rfl
theorem st_104 (r : RG) (v : AV) : st r 104 v = ⟨r.a, ⟨r.b.a, r.b.b, r.b.c, r.b.d, r.b.e, ⟨v, r.b.f.b, r.b.f.c, r.b.f.d, r.b.f.e, r.b.f.f, r.b.f.g, r.b.f.h⟩, r.b.g, r.b.h⟩, r.c, r.d, r.e, r.f, r.g, r.h⟩ := rfl
theorem gx_104 (r : RG) (l : List AV) : gx ⟨r, l⟩ (.t 104) = r.b.f.a := rfl
theorem gt_104 (r : RG) : gt r 104 = r.b.f.a := rfl
theorem st_105 (r : RG) (v : AV) : st r 105 v = ⟨r.a, ⟨r.b.a, r.b.b, r.b.c, r.b.d, r.b.e, ⟨r.b.f.a, v, r.b.f.c, r.b.f.d, r.b.f.e, r.b.f.f, r.b.f.g, r.b.f.h⟩, r.b.g, r.b.h⟩, r.c, r.d, r.e, r.f, r.g, r.h⟩ := rfl
theorem gx_105 (r : RG) (l : List AV) : gx ⟨r, l⟩ (.t 105) = r.b.f.b := rfl
theorem gt_105 (r : RG) : gt r 105 = r.b.f.b := rfl
theorem st_106 (r : RG) (v : AV) : st r 106 v = ⟨r.a, ⟨r.b.a, r.b.b, r.b.c, r.b.d, r.b.e, ⟨r.b.f.a, r.b.f.b, v, r.b.f.d, r.b.f.e, r.b.f.f, r.b.f.g, r.b.f.h⟩, r.b.g, r.b.h⟩, r.c, r.d, r.e, r.f, r.g, r.h⟩ := rfl
theorem gx_106 (r : RG) (l : List AV) : gx ⟨r, l⟩ (.t 106) = r.b.f.c := rfl
theorem gt_106 (r : RG) : gt r 106 = r.b.f.c := rfl
theorem st_107 (r : RG) (v : AV) : st r 107 v = ⟨r.a, ⟨r.b.a, r.b.b, r.b.c, r.b.d, r.b.e, ⟨r.b.f.a, r.b.f.b, r.b.f.c, v, r.b.f.e, r.b.f.f, r.b.f.g, r.b.f.h⟩, r.b.g, r.b.h⟩, r.c, r.d, r.e, r.f, r.g, r.h⟩ := rfl
theorem gx_107 (r : RG) (l : List AV) : gx ⟨r, l⟩ (.t 107) = r.b.f.d := rfl
theorem gt_107 (r : RG) : gt r 107 = r.b.f.d := rfl
theorem st_108 (r : RG) (v : AV) : st r 108 v = ⟨r.a, ⟨r.b.a, r.b.b, r.b.c, r.b.d, r.b.e, ⟨r.b.f.a, r.b.f.b, r.b.f.c, r.b.f.d, v, r.b.f.f, r.b.f.g, r.b.f.h⟩, r.b.g, r.b.h⟩, r.c, r.d, r.e, r.f, r.g, r.h⟩ := rfl
theorem gx_108 (r : RG) (l : List AV) : gx ⟨r, l⟩ (.t 108) = r.b.f.e := rfl
theorem gt_108 (r : RG) : gt r 108 = r.b.f.e := rfl
theorem st_109 (r : RG) (v : AV) : st r 109 v = ⟨r.a, ⟨r.b.a, r.b.b, r.b.c, r.b.d, r.b.e, ⟨r.b.f.a, r.b.f.b, r.b.f.c, r.b.f.d, r.b.f.e, v, r.b.f.g, r.b.f.h⟩, r.b.g, r.b.h⟩, r.c, r.d, r.e, r.f, r.g, r.h⟩ := rfl
theorem gx_109 (r : RG) (l : List AV) : gx ⟨r, l⟩ (.t 109) = r.b.f.f := rfl
theorem gt_109 (r : RG) : gt r 109 = r.b.f.f := rfl
theorem st_110 (r : RG) (v : AV) : st r 110 v = ⟨r.a, ⟨r.b.a, r.b.b, r.b.c, r.b.d, r.b.e, ⟨r.b.f.a, r.b.f.b, r.b.f.c, r.b.f.d, r.b.f.e, r.b.f.f, v, r.b.f.h⟩, r.b.g, r.b.h⟩, r.c, r.d, r.e, r.f, r.g, r.h⟩ := rfl
theorem gx_110 (r : RG) (l : List AV) : gx ⟨r, l⟩ (.t 110) = r.b.f.g := rfl
theorem gt_110 (r : RG) : gt r 110 = r.b.f.g := rfl
theorem st_111 (r : RG) (v : AV) : st r 111 v = ⟨r.a, ⟨r.b.a, r.b.b, r.b.c, r.b.d, r.b.e, ⟨r.b.f.a, r.b.f.b, r.b.f.c, r.b.f.d, r.b.f.e, r.b.f.f, r.b.f.g, v⟩, r.b.g, r.b.h⟩, r.c, r.d, r.e, r.f, r.g, r.h⟩ := rfl
theorem gx_111 (r : RG) (l : List AV) : gx ⟨r, l⟩ (.t 111) = r.b.f.h := rfl
theorem gt_111 (r : RG) : gt r 111 = r.b.f.h := rfl
theorem st_112 (r : RG) (v : AV) : st r 112 v = ⟨r.a, ⟨r.b.a, r.b.b, r.b.c, r.b.d, r.b.e, r.b.f, ⟨v, r.b.g.b, r.b.g.c, r.b.g.d, r.b.g.e, r.b.g.f, r.b.g.g, r.b.g.h⟩, r.b.h⟩, r.c, r.d, r.e, r.f, r.g, r.h⟩ := rfl
theorem gx_112 (r : RG) (l : List AV) : gx ⟨r, l⟩ (.t 112) = r.b.g.a := rfl
theorem gt_112 (r : RG) : gt r 112 = r.b.g.a := rfl
theorem st_113 (r : RG) (v : AV) : st r 113 v = ⟨r.a, ⟨r.b.a, r.b.b, r.b.c, r.b.d, r.b.e, r.b.f, ⟨r.b.g.a, v, r.b.g.c, r.b.g.d, r.b.g.e, r.b.g.f, r.b.g.g, r.b.g.h⟩, r.b.h⟩, r.c, r.d, r.e, r.f, r.g, r.h⟩ := rfl
theorem gx_113 (r : RG) (l : List AV) : gx ⟨r, l⟩ (.t 113) = r.b.g.b := rfl
theorem gt_113 (r : RG) : gt r 113 = r.b.g.b := rfl
theorem st_114 (r : RG) (v : AV) : st r 114 v = ⟨r.a, ⟨r.b.a, r.b.b, r.b.c, r.b.d, r.b.e, r.b.f, ⟨r.b.g.a, r.b.g.b, v, r.b.g.d, r.b.g.e, r.b.g.f, r.b.g.g, r.b.g.h⟩, r.b.h⟩, r.c, r.d, r.e, r.f, r.g, r.h⟩ := rfl
theorem gx_114 (r : RG) (l : List AV) : gx ⟨r, l⟩ (.t 114) = r.b.g.c := rfl
theorem gt_114 (r : RG) : gt r 114 = r.b.g.c := rfl
theorem st_115 (r : RG) (v : AV) : st r 115 v = ⟨r.a, ⟨r.b.a, r.b.b, r.b.c, r.b.d, r.b.e, r.b.f, ⟨r.b.g.a, r.b.g.b, r.b.g.c, v, r.b.g.e, r.b.g.f, r.b.g.g, r.b.g.h⟩, r.b.h⟩, r.c, r.d, r.e, r.f, r.g, r.h⟩ := rfl
theorem gx_115 (r : RG) (l : List AV) : gx ⟨r, l⟩ (.t 115) = r.b.g.d := rfl
theorem gt_115 (r : RG) : gt r 115 = r.b.g.d := rfl
theorem st_116 (r : RG) (v : AV) : st r 116 v = ⟨r.a, ⟨r.b.a, r.b.b, r.b.c, r.b.d, r.b.e, r.b.f, ⟨r.b.g.a, r.b.g.b, r.b.g.c, r.b.g.d, v, r.b.g.f, r.b.g.g, r.b.g.h⟩, r.b.h⟩, r.c, r.d, r.e, r.f, r.g, r.h⟩ := rfl
theorem gx_116 (r : RG) (l : List AV) : gx ⟨r, l⟩ (.t 116) = r.b.g.e := rfl
theorem gt_116 (r : RG) : gt r 116 = r.b.g.e := rfl
theorem st_117 (r : RG) (v : AV) : st r 117 v = ⟨r.a, ⟨r.b.a, r.b.b, r.b.c, r.b.d, r.b.e, r.b.f, ⟨r.b.g.a, r.b.g.b, r.b.g.c, r.b.g.d, r.b.g.e, v, r.b.g.g, r.b.g.h⟩, r.b.h⟩, r.c, r.d, r.e, r.f, r.g, r.h⟩ := rfl
theorem gx_117 (r : RG) (l : List AV) : gx ⟨r, l⟩ (.t 117) = r.b.g.f := rfl
theorem gt_117 (r : RG) : gt r 117 = r.b.g.f := rfl
theorem st_118 (r : RG) (v : AV) : st r 118 v = ⟨r.a, ⟨r.b.a, r.b.b, r.b.c, r.b.d, r.b.e, r.b.f, ⟨r.b.g.a, r.b.g.b, r.b.g.c, r.b.g.d, r.b.g.e, r.b.g.f, v, r.b.g.h⟩, r.b.h⟩, r.c, r.d, r.e, r.f, r.g, r.h⟩ := rfl
theorem gx_118 (r : RG) (l : List AV) : gx ⟨r, l⟩ (.t 118) = r.b.g.g := rfl
theorem gt_118 (r : RG) : gt r 118 = r.b.g.g := rfl
theorem st_119 (r : RG) (v : AV) : st r 119 v = ⟨r.a, ⟨r.b.a, r.b.b, r.b.c, r.b.d, r.b.e, r.b.f, ⟨r.b.g.a, r.b.g.b, r.b.g.c, r.b.g.d, r.b.g.e, r.b.g.f, r.b.g.g, v⟩, r.b.h⟩, r.c, r.d, r.e, r.f, r.g, r.h⟩ := rfl
theorem gx_119 (r : RG) (l : List AV) : gx ⟨r, l⟩ (.t 119) = r.b.g.h := rfl
theorem gt_119 (r : RG) : gt r 119 = r.b.g.h := rfl
theorem st_120 (r : RG) (v : AV) : st r 120 v = ⟨r.a, ⟨r.b.a, r.b.b, r.b.c, r.b.d, r.b.e, r.b.f, r.b.g, ⟨v, r.b.h.b, r.b.h.c, r.b.h.d, r.b.h.e, r.b.h.f, r.b.h.g, r.b.h.h⟩⟩, r.c, r.d, r.e, r.f, r.g, r.h⟩ := rfl
theorem gx_120 (r : RG) (l : List AV) : gx ⟨r, l⟩ (.t 120) = r.b.h.a := rfl
theorem gt_120 (r : RG) : gt r 120 = r.b.h.a := rfl
theorem st_121 (r : RG) (v : AV) : st r 121 v = ⟨r.a, ⟨r.b.a, r.b.b, r.b.c, r.b.d, r.b.e, r.b.f, r.b.g, ⟨r.b.h.a, v, r.b.h.c, r.b.h.d, r.b.h.e, r.b.h.f, r.b.h.g, r.b.h.h⟩⟩, r.c, r.d, r.e, r.f, r.g, r.h⟩ := rfl
theorem gx_121 (r : RG) (l : List AV) : gx ⟨r, l⟩ (.t 121) = r.b.h.b := rfl
theorem gt_121 (r : RG) : gt r 121 = r.b.h.b := rfl
theorem st_122 (r : RG) (v : AV) : st r 122 v = ⟨r.a, ⟨r.b.a, r.b.b, r.b.c, r.b.d, r.b.e, r.b.f, r.b.g, ⟨r.b.h.a, r.b.h.b, v, r.b.h.d, r.b.h.e, r.b.h.f, r.b.h.g, r.b.h.h⟩⟩, r.c, r.d, r.e, r.f, r.g, r.h⟩ := rfl
theorem gx_122 (r : RG) (l : List AV) : gx ⟨r, l⟩ (.t 122) = r.b.h.c := rfl
theorem gt_122 (r : RG) : gt r 122 = r.b.h.c := rfl
theorem st_123 (r : RG) (v : AV) : st r 123 v = ⟨r.a, ⟨r.b.a, r.b.b, r.b.c, r.b.d, r.b.e, r.b.f, r.b.g, ⟨r.b.h.a, r.b.h.b, r.b.h.c, v, r.b.h.e, r.b.h.f, r.b.h.g, r.b.h.h⟩⟩, r.c, r.d, r.e, r.f, r.g, r.h⟩ := rfl
theorem gx_123 (r : RG) (l : List AV) : gx ⟨r, l⟩ (.t 123) = r.b.h.d := rfl
theorem gt_123 (r : RG) : gt r 123 = r.b.h.d := rfl
theorem st_124 (r : RG) (v : AV) : st r 124 v = ⟨r.a, ⟨r.b.a, r.b.b, r.b.c, r.b.d, r.b.e, r.b.f, r.b.g, ⟨r.b.h.a, r.b.h.b, r.b.h.c, r.b.h.d, v, r.b.h.f, r.b.h.g, r.b.h.h⟩⟩, r.c, r.d, r.e, r.f, r.g, r.h⟩ := rfl
theorem gx_124 (r : RG) (l : List AV) : gx ⟨r, l⟩ (.t 124) = r.b.h.e := rfl
theorem gt_124 (r : RG) : gt r 124 = r.b.h.e := rfl
theorem st_125 (r : RG) (v : AV) : st r 125 v = ⟨r.a, ⟨r.b.a, r.b.b, r.b.c, r.b.d, r.b.e, r.b.f, r.b.g, ⟨r.b.h.a, r.b.h.b, r.b.h.c, r.b.h.d, r.b.h.e, v, r.b.h.g, r.b.h.h⟩⟩, r.c, r.d, r.e, r.f, r.g, r.h⟩ := rfl
theorem gx_125 (r : RG) (l : List AV) : gx ⟨r, l⟩ (.t 125) = r.b.h.f := rfl
theorem gt_125 (r : RG) : gt r 125 = r.b.h.f := rfl
theorem st_126 (r : RG) (v : AV) : st r 126 v = ⟨r.a, ⟨r.b.a, r.b.b, r.b.c, r.b.d, r.b.e, r.b.f, r.b.g, ⟨r.b.h.a, r.b.h.b, r.b.h.c, r.b.h.d, r.b.h.e, r.b.h.f, v, r.b.h.h⟩⟩, r.c, r.d, r.e, r.f, r.g, r.h⟩ := rfl
theorem gx_126 (r : RG) (l : List AV) : gx ⟨r, l⟩ (.t 126) = r.b.h.g := rfl
theorem gt_126 (r : RG) : gt r 126 = r.b.h.g := rfl
theorem st_127 (r : RG) (v : AV) : st r 127 v = ⟨r.a, ⟨r.b.a, r.b.b, r.b.c, r.b.d, r.b.e, r.b.f, r.b.g, ⟨r.b.h.a, r.b.h.b, r.b.h.c, r.b.h.d, r.b.h.e, r.b.h.f, r.b.h.g, v⟩⟩, r.c, r.d, r.e, r.f, r.g, r.h⟩ := rfl
theorem gx_127 (r : RG) (l : List AV) : gx ⟨r, l⟩ (.t 127) = r.b.h.h := rfl
theorem gt_127 (r : RG) : gt r 127 = r.b.h.h := rfl

theorem oB_s {α β : Type} (a : α) (k : α → Option β) : oB (some a) k = k a := rfl
theorem seqK_n (b : CZ) (r : RG) (ds : Dfs) (s : St) : seqK b (some (.normal, r, ds, s)) = b r ds s := rfl
theorem seqK_e (b : CZ) (i : Nat) (r : RG) (ds : Dfs) (s : St) : seqK b (some (.exit i, r, ds, s)) = some (.exit i, r, ds, s) := rfl
theorem seqK_r (b : CZ) (r : RG) (ds : Dfs) (s : St) : seqK b (some (.ret, r, ds, s)) = some (.ret, r, ds, s) := rfl
theorem seqK_p (b : CZ) (p : AV) (r : RG) (ds : Dfs) (s : St) : seqK b (some (.panic p, r, ds, s)) = some (.panic p, r, ds, s) := rfl
theorem condK_t (a b : IRes) : condK (.bool true) a b = a := rfl
theorem condK_f (a b : IRes) : condK (.bool false) a b = b := rfl
theorem blkK_n (i : Nat) (r : RG) (ds : Dfs) (s : St) : blkK i (some (.normal, r, ds, s)) = some (.normal, r, ds, s) := rfl
theorem blkK_r (i : Nat) (r : RG) (ds : Dfs) (s : St) : blkK i (some (.ret, r, ds, s)) = some (.ret, r, ds, s) := rfl
theorem blkK_p (i : Nat) (p : AV) (r : RG) (ds : Dfs) (s : St) : blkK i (some (.panic p, r, ds, s)) = some (.panic p, r, ds, s) := rfl
theorem blkK_e (i : Nat) (r : RG) (ds : Dfs) (s : St) : blkK i (some (.exit i, r, ds, s)) = some (.normal, r, ds, s) := by simp [blkK]
theorem blkK_x (i j : Nat) (r : RG) (ds : Dfs) (s : St) (h : Nat.beq j i = false) : blkK i (some (.exit j, r, ds, s)) = some (.exit j, r, ds, s) := by simp [blkK, h]
theorem cZ_r {α : Type} (v : AV) (h : Heap) (e e0 : Nat) (k kp : AV → St → Option α) : cZ (some (.ret v h e)) e0 k kp = k v { heap := h, esc := min e0 e } := rfl
theorem cZ_p {α : Type} (v : AV) (h : Heap) (e e0 : Nat) (k kp : AV → St → Option α) : cZ (some (.panic v h e)) e0 k kp = kp v { heap := h, esc := min e0 e } := rfl
theorem z_lss (m n : Int) : zlssI (.int .i64 m) (.int .i64 n) = some (.bool (decide (m < n))) := by rw [← ltF_eq]; rfl
theorem z_gtr (m n : Int) : zgtrI (.int .i64 m) (.int .i64 n) = some (.bool (decide (n < m))) := by rw [← ltF_eq]; rfl
theorem z_geq (m n : Int) : zgeqI (.int .i64 m) (.int .i64 n) = some (.bool (decide (n ≤ m))) := by rw [← not_lt_dec, ← ltF_eq]; rfl
theorem z_leq (m n : Int) : zleqI (.int .i64 m) (.int .i64 n) = some (.bool (decide (m ≤ n))) := by rw [← not_lt_dec, ← ltF_eq]; rfl
theorem z_eql (m n : Int) : zeqlI (.int .i64 m) (.int .i64 n) = some (.bool (decide (m = n))) := by rw [← eqF_eq]; rfl
theorem z_neq (m n : Int) : zneqI (.int .i64 m) (.int .i64 n) = some (.bool (!decide (m = n))) := by rw [← eqF_eq]; rfl
theorem z_lssU (m n : Int) : zlssU (.int .u8 m) (.int .u8 n) = some (.bool (decide (m < n))) := by rw [← ltF_eq]; rfl
theorem z_gtrU (m n : Int) : zgtrU (.int .u8 m) (.int .u8 n) = some (.bool (decide (n < m))) := by rw [← ltF_eq]; rfl
theorem z_geqU (m n : Int) : zgeqU (.int .u8 m) (.int .u8 n) = some (.bool (decide (n ≤ m))) := by rw [← not_lt_dec, ← ltF_eq]; rfl
theorem z_leqU (m n : Int) : zleqU (.int .u8 m) (.int .u8 n) = some (.bool (decide (m ≤ n))) := by rw [← not_lt_dec, ← ltF_eq]; rfl
theorem z_eqlU (m n : Int) : zeqlU (.int .u8 m) (.int .u8 n) = some (.bool (decide (m = n))) := by rw [← eqF_eq]; rfl
theorem z_neqU (m n : Int) : zneqU (.int .u8 m) (.int .u8 n) = some (.bool (!decide (m = n))) := by rw [← eqF_eq]; rfl
theorem z_eqlS (m n : List Nat) : zeqlS (.str m) (.str n) = some (.bool (strEq m n)) := rfl
theorem z_neqS (m n : List Nat) : zneqS (.str m) (.str n) = some (.bool (!strEq m n)) := rfl
theorem z_eqlB (m n : Bool) : zeqlB (.bool m) (.bool n) = some (.bool (m == n)) := rfl
theorem z_neqB (m n : Bool) : zneqB (.bool m) (.bool n) = some (.bool (!(m == n))) := rfl
theorem z_add (m n : Int) : zaddI (.int .i64 m) (.int .i64 n) = some (.int .i64 (addF m n)) := rfl
theorem z_sub (m n : Int) : zsubI (.int .i64 m) (.int .i64 n) = some (.int .i64 (subF m n)) := rfl
theorem u_not (b : Bool) : unOpAV .not (.bool b) = some (.bool (!b)) := rfl
theorem gJ_t {α : Type} (ds : Dfs) (s : St) (k : AV → Dfs → St → Option α) (y : (AV → Dfs → St → Option α) → Option α) : gJ (.bool true) true ds s k y = y k := rfl
theorem gJ_f {α : Type} (ds : Dfs) (s : St) (k : AV → Dfs → St → Option α) (y : (AV → Dfs → St → Option α) → Option α) : gJ (.bool false) true ds s k y = k Abs.undef ds s := rfl
theorem gJ_nt {α : Type} (ds : Dfs) (s : St) (k : AV → Dfs → St → Option α) (y : (AV → Dfs → St → Option α) → Option α) : gJ (.bool true) false ds s k y = k Abs.undef ds s := rfl
theorem gJ_nf {α : Type} (ds : Dfs) (s : St) (k : AV → Dfs → St → Option α) (y : (AV → Dfs → St → Option α) → Option α) : gJ (.bool false) false ds s k y = y k := rfl
theorem pick_t (a b : AV) : pickV (.bool true) a b = some a := rfl
theorem pick_f (a b : AV) : pickV (.bool false) a b = some b := rfl
theorem nilc_p (n o : Nat) : nilcV (.ptr n o) = some (.ptr n o) := rfl
theorem nilc_i (l : List AV) : nilcV (.iptr l) = some (.iptr l) := rfl
theorem fa_p (k n o : Nat) : faV k (.ptr n o) = some (.ptr n (Nat.add o k)) := rfl
theorem nadd0 (a : Nat) : Nat.add 0 a = a := Nat.zero_add a
theorem ext0 (a : AV) (l : List AV) : extV (.tuple (a :: l)) 0 = some a := rfl
theorem ext1 (a b : AV) (l : List AV) : extV (.tuple (a :: b :: l)) 1 = some b := rfl
theorem ext2 (a b c : AV) (l : List AV) : extV (.tuple (a :: b :: c :: l)) 2 = some c := rfl
theorem ldV_p {ag : Option Nat} {n off : Nat} {h : Heap} {cs : List AV} (hn : getF h n = some (.cells cs)) : ldV ag (.ptr n off) h = partV ag cs off := by simp only [ldV, hn]
theorem partV_n (cs : List AV) (off : Nat) : partV none cs off = getF cs off := rfl
theorem getF_0 {α : Type} (a : α) (l : List α) : getF (a :: l) 0 = some a := rfl
theorem getF_1 {α : Type} (a b : α) (l : List α) : getF (a :: b :: l) 1 = some b := rfl
theorem getF_2 {α : Type} (a b c : α) (l : List α) : getF (a :: b :: c :: l) 2 = some c := rfl
theorem getF_3 {α : Type} (a b c d : α) (l : List α) : getF (a :: b :: c :: d :: l) 3 = some d := rfl
theorem getF_4 {α : Type} (a b c d e : α) (l : List α) : getF (a :: b :: c :: d :: e :: l) 4 = some e := rfl
theorem getF_5 {α : Type} (a b c d e f : α) (l : List α) : getF (a :: b :: c :: d :: e :: f :: l) 5 = some f := rfl
theorem setF_0 {α : Type} (a v : α) (l : List α) : setF (a :: l) 0 v = v :: l := rfl
theorem setF_1 {α : Type} (a b v : α) (l : List α) : setF (a :: b :: l) 1 v = a :: v :: l := rfl
theorem setF_2 {α : Type} (a b c v : α) (l : List α) : setF (a :: b :: c :: l) 2 v = a :: b :: v :: l := rfl
theorem setF_3 {α : Type} (a b c d v : α) (l : List α) : setF (a :: b :: c :: d :: l) 3 v = a :: b :: c :: v :: l := rfl
theorem setF_4 {α : Type} (a b c d e v : α) (l : List α) : setF (a :: b :: c :: d :: e :: l) 4 v = a :: b :: c :: d :: v :: l := rfl
theorem setF_5 {α : Type} (a b c d e f v : α) (l : List α) : setF (a :: b :: c :: d :: e :: f :: l) 5 v = a :: b :: c :: d :: e :: v :: l := rfl
/-! a memory that is an old one and what was made since -/
theorem lenF_app {α : Type} (h l : List α) : lenF (h ++ l) = lenF h + lenF l := by simp [lenF_eq]
theorem lenF_nil {α : Type} : lenF ([] : List α) = 0 := rfl
theorem lenF_cons {α : Type} (a : α) (l : List α) : lenF (a :: l) = lenF l + 1 := rfl
theorem lenF_set {α : Type} (l : List α) (n : Nat) (v : α) : lenF (setF l n v) = lenF l := by simp [lenF_eq, setF_eq]
theorem getF_app0 {α : Type} (h l : List α) : getF (h ++ l) (lenF h) = getF l 0 := by rw [getF_eq, lenF_eq, getF_eq, List.getElem?_append_right (Nat.le_refl _), Nat.sub_self]
theorem getF_app {α : Type} (h l : List α) (j : Nat) : getF (h ++ l) (lenF h + j) = getF l j := by rw [getF_eq, lenF_eq, getF_eq, List.getElem?_append_right (Nat.le_add_right _ _), Nat.add_sub_cancel_left]
theorem setF_app0 {α : Type} (h l : List α) (v : α) : setF (h ++ l) (lenF h) v = h ++ setF l 0 v := by simp [setF_eq, lenF_eq]
theorem setF_app {α : Type} (h l : List α) (j : Nat) (v : α) : setF (h ++ l) (lenF h + j) v = h ++ setF l j v := by simp [setF_eq, lenF_eq]
theorem takeF_app {α : Type} (h l : List α) : takeF (lenF h) (h ++ l) = h := by simp [takeF_eq, lenF_eq]
theorem snocF_app {α : Type} (h l : List α) (v : α) : snocF (h ++ l) v = h ++ (l ++ [v]) := by simp [snocF_eq]
theorem getF_lt {α : Type} {l : List α} {n : Nat} {a : α} (h : getF l n = some a) : n < l.length := by rw [getF_eq] at h; exact (List.getElem?_eq_some_iff.1 h).1
theorem getF_old {α : Type} {h : List α} {n : Nat} {o : α} (hn : getF h n = some o) (l : List α) : getF (h ++ l) n = some o := by
  have := getF_lt hn
  rw [getF_eq] at hn ⊢
  rw [List.getElem?_append_left this]; exact hn
theorem setF_old {α : Type} {h : List α} {n : Nat} {o : α} (hn : getF h n = some o) (l : List α) (v : α) : setF (h ++ l) n v = setF h n v ++ l := by
  rw [setF_eq, setF_eq, List.set_append_left _ _ (getF_lt hn)]
theorem getF_set {α : Type} {h : List α} {n : Nat} {o : α} (hn : getF h n = some o) (v : α) : getF (setF h n v) n = some v := by
  rw [getF_eq, setF_eq]; simp [getF_lt hn]
/-! no names -/
theorem noN_bool (b : Bool) : noN (.bool b) = true := Eq.trans rfl rfl
theorem noN_int (k : IntKind) (n : Int) : noN (.int k n) = true := Eq.trans rfl rfl
theorem noN_str (s : List Nat) : noN (.str s) = true := Eq.trans rfl rfl
theorem noN_nils : noN .nils = true := Eq.trans rfl rfl
theorem noN_nilp : noN .nilp = true := Eq.trans rfl rfl
theorem noN_agg (l : List AV) : noN (.agg l) = noNL l := Eq.trans rfl rfl
theorem noN_tuple (l : List AV) : noN (.tuple l) = noNL l := Eq.trans rfl rfl
theorem noN_iface (t : TypeId) (v : AV) : noN (.iface t v) = noN v := Eq.trans rfl rfl
theorem noN_sl (k : Nat) (l : List AV) (n : Lin) : noN (.sl k l n) = cond (linN n) (noNL l) false := Eq.trans rfl rfl
theorem linN_dead : linN .dead = true := Eq.trans rfl rfl
theorem linN_lit : linN .lit = true := Eq.trans rfl rfl
theorem linN_full : linN .full = true := Eq.trans rfl rfl
theorem linN_frz : linN .frz = true := Eq.trans rfl rfl
theorem noNL_nil : noNL [] = true := Eq.trans rfl rfl
theorem noNL_cons (v : AV) (l : List AV) : noNL (v :: l) = cond (noN v) (noNL l) false := Eq.trans rfl rfl
theorem sto_ok {n off r : Nat} {v : AV} {hp : Heap} {e : Nat} {cs : List AV} (hg : getF hp r = some (.cells cs)) (hl : lenF v.cells = n) (ho : off + n ≤ lenF cs) (hv : v.cells.all AV.one = true) (hnn : noN v = true) :
    stoO n (.ptr r off) v ⟨hp, e⟩ = some ⟨setF hp r (.cells (putF cs off v.cells)), e⟩ := by
  have h1 : lowF (lenF hp) v = true := by simp [lowF, hnn]
  have h2 : escF v r ⟨hp, e⟩ = e := by simp [escF, lowF, hnn]
  have h3 : Nat.beq (lenF v.cells) n = true := by rw [hl]; exact Nat.beq_refl n
  have h4 : Nat.ble (Nat.add off n) (lenF cs) = true := Nat.ble_eq_true_of_le ho
  simp only [stoO, hg, stoC, h1, h2, h3, h4, hv, Bool.and_self, cond_true]
theorem gcF_nn {keep : Bool} {base : Nat} {v : AV} {hp : Heap} (h : noN v = true) : gcF keep base v ⟨hp, base⟩ = .ret v (takeF base hp) base := by
  simp [gcF, h]
theorem addF_i (i j : Nat) (h : i + j ≤ natMax) : addF (i : Int) (j : Int) = ((i + j : Nat) : Int) := by
  rw [addF_eq]
  have := wrap_nat h
  simpa using this

theorem seqZ_u (a b : CZ) (r : RG) (ds : Dfs) (s : St) : seqZ a b r ds s = seqK b (a r ds s) := rfl
theorem condZ_u (c : X) (a b : CZ) (r : RG) (ds : Dfs) (s : St) : condZ c a b r ds s = condK (gx ⟨r, []⟩ c) (a r ds s) (b r ds s) := rfl
theorem blkZ_u (i : Nat) (b : CZ) (r : RG) (ds : Dfs) (s : St) : blkZ i b r ds s = blkK i (b r ds s) := rfl
theorem skipZ_u (r : RG) (ds : Dfs) (s : St) : skipZ r ds s = some (.normal, r, ds, s) := rfl
theorem exitZ_u (i : Nat) (r : RG) (ds : Dfs) (s : St) : exitZ i r ds s = some (.exit i, r, ds, s) := rfl
theorem retZ_u (r : RG) (ds : Dfs) (s : St) : retZ r ds s = some (.ret, r, ds, s) := rfl
theorem loopZ_u (b : CZ) (r : RG) (ds : Dfs) (s : St) : loopZ b r ds s = loopN b 100000 r ds s := rfl
theorem zal_u (cs : List AV) (s : St) (k : AV → St → IRes) : zal cs s k = k (.ptr (lenF s.heap) 0) ⟨snocF s.heap (.cells cs), s.esc⟩ := rfl
theorem snocF_u {α : Type} (l : List α) (v : α) : snocF l v = l ++ [v] := snocF_eq l v
theorem app_cons {α : Type} (h l : List α) (a : α) : (h ++ l) ++ [a] = h ++ (l ++ [a]) := by simp
theorem cons_app {α : Type} (a b : α) (l : List α) : (a :: l) ++ [b] = a :: (l ++ [b]) := rfl
theorem nil_app {α : Type} (l : List α) : [] ++ l = l := rfl
theorem app_nil {α : Type} (l : List α) : l ++ [] = l := by simp
theorem nble (a b : Nat) : Nat.ble a b = decide (a ≤ b) := by
  rw [Bool.eq_iff_iff]; simp [Nat.ble_eq]
theorem nbeq (a b : Nat) : Nat.beq a b = decide (a = b) := by
  rw [Bool.eq_iff_iff]; simp [Nat.beq_eq]
theorem nadd (a b : Nat) : Nat.add a b = a + b := rfl
theorem min_self' (a : Nat) : min a a = a := Nat.min_self a
theorem min_l (a b : Nat) : min a (a + b) = a := by omega
theorem zadd (a : Nat) : 0 + a = a := Nat.zero_add a
theorem addz (a : Nat) : a + 0 = a := Nat.add_zero a
theorem dect : decide True = true := rfl
theorem decf : decide False = false := rfl
theorem le_r (a : Nat) : (a ≤ a) = True := by simp
theorem eq_s {α : Type} (a : α) : (a = a) = True := by simp
theorem notT : (!true) = false := rfl
theorem notF : (!false) = true := rfl
theorem andT (b : Bool) : (true && b) = b := by simp
theorem andF (b : Bool) : (false && b) = false := by simp
theorem andT' (b : Bool) : (b && true) = b := by simp
theorem condT {α : Type} (a b : α) : cond true a b = a := rfl
theorem condF {α : Type} (a b : α) : cond false a b = b := rfl
theorem all_n (p : AV → Bool) : ([] : List AV).all p = true := rfl
theorem all_c (p : AV → Bool) (a : AV) (l : List AV) : (a :: l).all p = (p a && l.all p) := rfl
theorem one_bool (b : Bool) : AV.one (.bool b) = true := rfl
theorem one_int (k : IntKind) (n : Int) : AV.one (.int k n) = true := rfl
theorem one_str (s : List Nat) : AV.one (.str s) = true := rfl
theorem one_nils : AV.one .nils = true := rfl
theorem one_nilp : AV.one .nilp = true := rfl
theorem one_ptr (n o : Nat) : AV.one (.ptr n o) = true := rfl
theorem one_sl (k : Nat) (l : List AV) (n : Lin) : AV.one (.sl k l n) = true := rfl
theorem cells_agg (l : List AV) : AV.cells (.agg l) = l := rfl
theorem cells_bool (b : Bool) : AV.cells (.bool b) = [.bool b] := rfl
theorem cells_int (k : IntKind) (n : Int) : AV.cells (.int k n) = [.int k n] := rfl
theorem cells_str (s : List Nat) : AV.cells (.str s) = [.str s] := rfl
theorem cells_nils : AV.cells .nils = [.nils] := rfl
theorem cells_ptr (n o : Nat) : AV.cells (.ptr n o) = [.ptr n o] := rfl
theorem cells_sl (k : Nat) (l : List AV) (n : Lin) : AV.cells (.sl k l n) = [.sl k l n] := rfl
theorem stoO_u (n r off : Nat) (v : AV) (s : St) : stoO n (.ptr r off) v s = match getF s.heap r with
    | some (.cells cs) => stoC n off r v v.cells cs s
    | _ => none := rfl
theorem stoC_u (n off r : Nat) (v : AV) (vc cs : List AV) (hp : Heap) (e : Nat) (h : noN v = true) : stoC n off r v vc cs ⟨hp, e⟩ = cond (Nat.beq (lenF vc) n && (Nat.ble (Nat.add off n) (lenF cs) && vc.all AV.one)) (some ⟨setF hp r (.cells (putF cs off vc)), e⟩) none := by
  simp [stoC, lowF, escF, h]
theorem ldV_u (ag : Option Nat) (n off : Nat) (h : Heap) : ldV ag (.ptr n off) h = match getF h n with
    | some (.cells cs) => partV ag cs off
    | _ => none := rfl
theorem ldV_i (ag : Option Nat) (xs : List AV) (h : Heap) : ldV ag (.iptr xs) h = partV ag xs 0 := rfl
theorem partV_s (k : Nat) (cs : List AV) (off : Nat) : partV (some k) cs off = cond (Nat.ble (Nat.add off k) (lenF cs)) (some (.agg (takeF k (dropF off cs)))) none := rfl
theorem takeF_z {α : Type} (l : List α) : takeF 0 l = [] := by cases l <;> rfl
theorem takeF_1 {α : Type} (a : α) (l : List α) : takeF 1 (a :: l) = a :: takeF 0 l := rfl
theorem takeF_2 {α : Type} (a : α) (l : List α) : takeF 2 (a :: l) = a :: takeF 1 l := rfl
theorem takeF_3 {α : Type} (a : α) (l : List α) : takeF 3 (a :: l) = a :: takeF 2 l := rfl
theorem takeF_4 {α : Type} (a : α) (l : List α) : takeF 4 (a :: l) = a :: takeF 3 l := rfl
theorem takeF_5 {α : Type} (a : α) (l : List α) : takeF 5 (a :: l) = a :: takeF 4 l := rfl
theorem takeF_6 {α : Type} (a : α) (l : List α) : takeF 6 (a :: l) = a :: takeF 5 l := rfl
theorem takeF_7 {α : Type} (a : α) (l : List α) : takeF 7 (a :: l) = a :: takeF 6 l := rfl
theorem takeF_8 {α : Type} (a : α) (l : List α) : takeF 8 (a :: l) = a :: takeF 7 l := rfl
theorem dropF_z {α : Type} (l : List α) : dropF 0 l = l := by cases l <;> rfl
theorem dropF_1 {α : Type} (a : α) (l : List α) : dropF 1 (a :: l) = dropF 0 l := rfl
theorem dropF_2 {α : Type} (a : α) (l : List α) : dropF 2 (a :: l) = dropF 1 l := rfl
theorem dropF_3 {α : Type} (a : α) (l : List α) : dropF 3 (a :: l) = dropF 2 l := rfl
theorem dropF_4 {α : Type} (a : α) (l : List α) : dropF 4 (a :: l) = dropF 3 l := rfl
theorem putF_1 (cs : List AV) (o : Nat) (v : AV) : putF cs o [v] = setF cs o v := rfl
theorem putF_2 (cs : List AV) (o : Nat) (a b : AV) (l : List AV) : putF cs o (a :: b :: l) = putCells cs o (a :: b :: l) := rfl
theorem putC_2 (a0 a1 b0 b1 : AV) : putCells [a0, a1] 0 [b0, b1] = [b0, b1] := rfl
theorem putC_3 (a0 a1 a2 b0 b1 b2 : AV) : putCells [a0, a1, a2] 0 [b0, b1, b2] = [b0, b1, b2] := rfl
theorem putC_4 (a0 a1 a2 a3 b0 b1 b2 b3 : AV) : putCells [a0, a1, a2, a3] 0 [b0, b1, b2, b3] = [b0, b1, b2, b3] := rfl
theorem putC_5 (a0 a1 a2 a3 a4 b0 b1 b2 b3 b4 : AV) : putCells [a0, a1, a2, a3, a4] 0 [b0, b1, b2, b3, b4] = [b0, b1, b2, b3, b4] := rfl
theorem putC_6 (a0 a1 a2 a3 a4 a5 b0 b1 b2 b3 b4 b5 : AV) : putCells [a0, a1, a2, a3, a4, a5] 0 [b0, b1, b2, b3, b4, b5] = [b0, b1, b2, b3, b4, b5] := rfl
theorem putC_7 (a0 a1 a2 a3 a4 a5 a6 b0 b1 b2 b3 b4 b5 b6 : AV) : putCells [a0, a1, a2, a3, a4, a5, a6] 0 [b0, b1, b2, b3, b4, b5, b6] = [b0, b1, b2, b3, b4, b5, b6] := rfl
theorem putC_8 (a0 a1 a2 a3 a4 a5 a6 a7 b0 b1 b2 b3 b4 b5 b6 b7 : AV) : putCells [a0, a1, a2, a3, a4, a5, a6, a7] 0 [b0, b1, b2, b3, b4, b5, b6, b7] = [b0, b1, b2, b3, b4, b5, b6, b7] := rfl
theorem putC_9 (a0 a1 a2 a3 a4 a5 a6 a7 a8 b0 b1 b2 b3 b4 b5 b6 b7 b8 : AV) : putCells [a0, a1, a2, a3, a4, a5, a6, a7, a8] 0 [b0, b1, b2, b3, b4, b5, b6, b7, b8] = [b0, b1, b2, b3, b4, b5, b6, b7, b8] := rfl
theorem iasV_i {sz : Nat} {es : List AV} {lin : Lin} {i : Nat} {v : AV} (h : getF es i = some v) : iasV sz (.sl sz es lin) (.int .i64 (i : Int)) = some (.iptr v.cells) := by
  simp [iasV, asNat, h, nbeq]
theorem tup1 (a : AV) : tupleAV [a] = a := rfl
theorem tup2 (a b : AV) (l : List AV) : tupleAV (a :: b :: l) = .tuple (a :: b :: l) := rfl
theorem tup0 : tupleAV [] = Abs.undef := rfl
theorem resI_n (e : RG) (h : Heap) : resI e h [] = some [] := rfl
theorem resI_t (e : RG) (h : Heap) (n : Nat) (l : List RI) : resI e h (.t n :: l) = match resI e h l with
    | some l => some (gt e n :: l)
    | none => none := rfl
theorem resI_c (e : RG) (h : Heap) (n : Nat) (ag : Option Nat) (l : List RI) : resI e h (.cell n ag :: l) = match ldV ag (gt e n) h, resI e h l with
    | some a, some l => some (a :: l)
    | _, _ => none := rfl
theorem finZ_r (C : Cfg) (f : FuncId) (b : Nat) (z : FZ) (r : RG) (s : St) : finZ C f b z (some (.ret, r, [], s)) = match resI r s.heap z.res with
    | some l => some (gcF (C.keep f) b (tupleAV l) s)
    | none => none := rfl
theorem finZ_n (C : Cfg) (f : FuncId) (b : Nat) (z : FZ) (r : RG) (s : St) : finZ C f b z (some (.normal, r, [], s)) = match resI r s.heap z.res with
    | some l => some (gcF (C.keep f) b (tupleAV l) s)
    | none => none := rfl
theorem finZ_p (C : Cfg) (f : FuncId) (b : Nat) (z : FZ) (p : AV) (r : RG) (s : St) : finZ C f b z (some (.panic p, r, [], s)) = some (gcP false b p s) := rfl
theorem gJ_u {α : Type} (w : Bool) (ds : Dfs) (s : St) (k : AV → Dfs → St → Option α) (y : (AV → Dfs → St → Option α) → Option α) : gJ Abs.undef w ds s k y = k Abs.undef ds s := rfl
theorem gDJ_t {α : Type} (s : St) (sl : Nat) (hi : List (Nat × Heap)) (rd : List (Nat × (Heap → Option AV) × AV)) (k : AV → St → Nat → List (Nat × Heap) → List (Nat × (Heap → Option AV) × AV) → Option α)
    (y : (AV → St → Nat → List (Nat × Heap) → List (Nat × (Heap → Option AV) × AV) → Option α) → Option α) : gDJ (.bool true) true s sl hi rd k y = y k := rfl
theorem gDJ_f {α : Type} (s : St) (sl : Nat) (hi : List (Nat × Heap)) (rd : List (Nat × (Heap → Option AV) × AV)) (k : AV → St → Nat → List (Nat × Heap) → List (Nat × (Heap → Option AV) × AV) → Option α)
    (y : (AV → St → Nat → List (Nat × Heap) → List (Nat × (Heap → Option AV) × AV) → Option α) → Option α) : gDJ (.bool false) true s sl hi rd k y = k Abs.undef s sl hi rd := rfl
theorem histOk_n (b : Nat) (x : Heap → Option AV) (v : AV) : histOk b x v [] = true := rfl
theorem readsOk_n (b : Nat) (h : Heap) : readsOk b h [] = true := rfl
theorem readsOk_c (b j : Nat) (h : Heap) (x : Heap → Option AV) (w : AV) (r : List (Nat × (Heap → Option AV) × AV)) : readsOk b h ((j, x, w) :: r) = ((b.testBit j || rsame x w h) && readsOk b h r) := rfl
theorem rsame_u (x : Heap → Option AV) (v : AV) (h : Heap) : rsame x v h = match x h with
    | some w => w.same v
    | none => false := rfl
theorem same_int (k : IntKind) (n : Int) : AV.same (.int k n) (.int k n) = true := by simp [AV.same]
theorem same_str (l : List Nat) : AV.same (.str l) (.str l) = true := by simp [AV.same]
theorem same_bool (b : Bool) : AV.same (.bool b) (.bool b) = true := by simp [AV.same]
theorem same_nils : AV.same .nils .nils = true := by simp [AV.same]
theorem dNil_n {α : Type} (x : Option α) : dNil [] x = x := rfl
theorem orT (b : Bool) : (b || true) = true := by simp
theorem orT' (b : Bool) : (true || b) = true := by simp
theorem orF (b : Bool) : (false || b) = b := by simp
theorem oE_v {α : Type} (rec : RecT) (v : AV) (s s' : St) (ds : Dfs) (k : AV → Dfs → St → Option α) (kp : AV → St → Option α) : oE rec (some (.val v s')) ds s k kp = k v ds s' := rfl
theorem oE_c {α : Type} (rec : RecT) (g : FuncId) (args : List AV) (s : St) (ds : Dfs) (k : AV → Dfs → St → Option α) (kp : AV → St → Option α) : oE rec (some (.call g args)) ds s k kp = cZ (rec g args s.heap) s.esc (fun v s => k v ds s) kp := rfl
theorem oE_p {α : Type} (rec : RecT) (v : AV) (s : St) (ds : Dfs) (k : AV → Dfs → St → Option α) (kp : AV → St → Option α) : oE rec (some (.panic v)) ds s k kp = kp v s := rfl
theorem callv_u (C : Cfg) (f : FuncId) (first capt args : List AV) (s : St) : callvV C (.func (.func f) first capt) args s = callAV C f (first ++ args ++ capt) s := rfl
theorem orVal_s (v : AV) (s : St) : orVal (some (v, s)) = some (.val v s) := rfl
theorem ibs_u {b : Nat} (h : b < 256) (t : List Nat) (s : St) : ibsV (.str t) (.int .u8 (b : Int)) s = some (.val (.int .i64 (indexByte b t 0)) s) := by
  have h1 : (0 : Int) ≤ (b : Int) ∧ (b : Int) < 256 := by omega
  simp only [ibsV, h1, and_self, if_true, Int.toNat_natCast]
theorem pan_u (t : TypeId) (a : AV) : panV (.iface t a) = some (.panic (.iface t a)) := rfl
theorem oA_s (o : AObj) (mk : Nat → AV) (s : St) (k : AV → St → IRes) : oA (some (o, mk)) s k = k (mk (lenF s.heap)) ⟨snocF s.heap o, s.esc⟩ := rfl
theorem getF_s0 {α : Type} (h l : List α) (n : Nat) (v : α) : getF (setF h n v ++ l) (lenF h) = getF l 0 := by rw [← lenF_set h n v, getF_app0]
theorem getF_s {α : Type} (h l : List α) (n j : Nat) (v : α) : getF (setF h n v ++ l) (lenF h + j) = getF l j := by rw [← lenF_set h n v, getF_app]
theorem setF_s0 {α : Type} (h l : List α) (n : Nat) (v w : α) : setF (setF h n v ++ l) (lenF h) w = setF h n v ++ setF l 0 w := by rw [← lenF_set h n v, setF_app0]
theorem setF_s {α : Type} (h l : List α) (n j : Nat) (v w : α) : setF (setF h n v ++ l) (lenF h + j) w = setF h n v ++ setF l j w := by rw [← lenF_set h n v, setF_app]
theorem takeF_s {α : Type} (h l : List α) (n : Nat) (v : α) : takeF (lenF h) (setF h n v ++ l) = setF h n v := by rw [← lenF_set h n v, takeF_app]
theorem setF_ss {α : Type} (h : List α) (n : Nat) (v w : α) : setF (setF h n v) n w = setF h n w := by simp [setF_eq]
theorem takeF_0 {α : Type} (h : List α) : takeF (lenF h) h = h := by simp [takeF_eq, lenF_eq]
theorem takeF_s0 {α : Type} (h : List α) (n : Nat) (v : α) : takeF (lenF h) (setF h n v) = setF h n v := by rw [← lenF_set h n v, takeF_0]
theorem sk {P : RG → Prop} {Q : RG → RG → Prop} (h : ∀ r, P r → ∃ r', Q r r') : ∃ f : RG → RG, ∀ r, P r → Q r (f r) := by
  classical
  exact ⟨fun r => if hp : P r then (h r hp).choose else r, fun r hp => by simp only [hp, dite_true]; exact (h r hp).choose_spec⟩
/-- all of these at once -/
theorem SIM : (∀ {α β : Type} (a : α) (k : α → Option β), oB (some a) k = k a) ∧
  (∀ (b : CZ) (r : RG) (ds : Dfs) (s : St), seqK b (some (.normal, r, ds, s)) = b r ds s) ∧
  (∀ (b : CZ) (i : Nat) (r : RG) (ds : Dfs) (s : St), seqK b (some (.exit i, r, ds, s)) = some (.exit i, r, ds, s)) ∧
  (∀ (b : CZ) (r : RG) (ds : Dfs) (s : St), seqK b (some (.ret, r, ds, s)) = some (.ret, r, ds, s)) ∧
  (∀ (b : CZ) (p : AV) (r : RG) (ds : Dfs) (s : St), seqK b (some (.panic p, r, ds, s)) = some (.panic p, r, ds, s)) ∧
  (∀ (a b : IRes), condK (.bool true) a b = a) ∧
  (∀ (a b : IRes), condK (.bool false) a b = b) ∧
  (∀ (i : Nat) (r : RG) (ds : Dfs) (s : St), blkK i (some (.normal, r, ds, s)) = some (.normal, r, ds, s)) ∧
  (∀ (i : Nat) (r : RG) (ds : Dfs) (s : St), blkK i (some (.ret, r, ds, s)) = some (.ret, r, ds, s)) ∧
  (∀ (i : Nat) (p : AV) (r : RG) (ds : Dfs) (s : St), blkK i (some (.panic p, r, ds, s)) = some (.panic p, r, ds, s)) ∧
  (∀ (i : Nat) (r : RG) (ds : Dfs) (s : St), blkK i (some (.exit i, r, ds, s)) = some (.normal, r, ds, s)) ∧
  (∀ (i j : Nat) (r : RG) (ds : Dfs) (s : St) (h : Nat.beq j i = false), blkK i (some (.exit j, r, ds, s)) = some (.exit j, r, ds, s)) ∧
  (∀ {α : Type} (v : AV) (h : Heap) (e e0 : Nat) (k kp : AV → St → Option α), cZ (some (.ret v h e)) e0 k kp = k v { heap := h, esc := min e0 e }) ∧
  (∀ {α : Type} (v : AV) (h : Heap) (e e0 : Nat) (k kp : AV → St → Option α), cZ (some (.panic v h e)) e0 k kp = kp v { heap := h, esc := min e0 e }) ∧
  (∀ (m n : Int), zlssI (.int .i64 m) (.int .i64 n) = some (.bool (decide (m < n)))) ∧
  (∀ (m n : Int), zgtrI (.int .i64 m) (.int .i64 n) = some (.bool (decide (n < m)))) ∧
  (∀ (m n : Int), zgeqI (.int .i64 m) (.int .i64 n) = some (.bool (decide (n ≤ m)))) ∧
  (∀ (m n : Int), zleqI (.int .i64 m) (.int .i64 n) = some (.bool (decide (m ≤ n)))) ∧
  (∀ (m n : Int), zeqlI (.int .i64 m) (.int .i64 n) = some (.bool (decide (m = n)))) ∧
  (∀ (m n : Int), zneqI (.int .i64 m) (.int .i64 n) = some (.bool (!decide (m = n)))) ∧
  (∀ (m n : Int), zlssU (.int .u8 m) (.int .u8 n) = some (.bool (decide (m < n)))) ∧
  (∀ (m n : Int), zgtrU (.int .u8 m) (.int .u8 n) = some (.bool (decide (n < m)))) ∧
  (∀ (m n : Int), zgeqU (.int .u8 m) (.int .u8 n) = some (.bool (decide (n ≤ m)))) ∧
  (∀ (m n : Int), zleqU (.int .u8 m) (.int .u8 n) = some (.bool (decide (m ≤ n)))) ∧
  (∀ (m n : Int), zeqlU (.int .u8 m) (.int .u8 n) = some (.bool (decide (m = n)))) ∧
  (∀ (m n : Int), zneqU (.int .u8 m) (.int .u8 n) = some (.bool (!decide (m = n)))) ∧
  (∀ (m n : List Nat), zeqlS (.str m) (.str n) = some (.bool (strEq m n))) ∧
  (∀ (m n : List Nat), zneqS (.str m) (.str n) = some (.bool (!strEq m n))) ∧
  (∀ (m n : Bool), zeqlB (.bool m) (.bool n) = some (.bool (m == n))) ∧
  (∀ (m n : Bool), zneqB (.bool m) (.bool n) = some (.bool (!(m == n)))) ∧
  (∀ (m n : Int), zaddI (.int .i64 m) (.int .i64 n) = some (.int .i64 (addF m n))) ∧
  (∀ (m n : Int), zsubI (.int .i64 m) (.int .i64 n) = some (.int .i64 (subF m n))) ∧
  (∀ (b : Bool), unOpAV .not (.bool b) = some (.bool (!b))) ∧
  (∀ {α : Type} (ds : Dfs) (s : St) (k : AV → Dfs → St → Option α) (y : (AV → Dfs → St → Option α) → Option α), gJ (.bool true) true ds s k y = y k) ∧
  (∀ {α : Type} (ds : Dfs) (s : St) (k : AV → Dfs → St → Option α) (y : (AV → Dfs → St → Option α) → Option α), gJ (.bool false) true ds s k y = k Abs.undef ds s) ∧
  (∀ {α : Type} (ds : Dfs) (s : St) (k : AV → Dfs → St → Option α) (y : (AV → Dfs → St → Option α) → Option α), gJ (.bool true) false ds s k y = k Abs.undef ds s) ∧
  (∀ {α : Type} (ds : Dfs) (s : St) (k : AV → Dfs → St → Option α) (y : (AV → Dfs → St → Option α) → Option α), gJ (.bool false) false ds s k y = y k) ∧
  (∀ (a b : AV), pickV (.bool true) a b = some a) ∧
  (∀ (a b : AV), pickV (.bool false) a b = some b) ∧
  (∀ (n o : Nat), nilcV (.ptr n o) = some (.ptr n o)) ∧
  (∀ (l : List AV), nilcV (.iptr l) = some (.iptr l)) ∧
  (∀ (k n o : Nat), faV k (.ptr n o) = some (.ptr n (Nat.add o k))) ∧
  (∀ (a : AV) (l : List AV), extV (.tuple (a :: l)) 0 = some a) ∧
  (∀ (a b : AV) (l : List AV), extV (.tuple (a :: b :: l)) 1 = some b) ∧
  (∀ (a b c : AV) (l : List AV), extV (.tuple (a :: b :: c :: l)) 2 = some c) ∧
  (∀ (cs : List AV) (off : Nat), partV none cs off = getF cs off) ∧
  (∀ {α : Type} (a : α) (l : List α), getF (a :: l) 0 = some a) ∧
  (∀ {α : Type} (a b : α) (l : List α), getF (a :: b :: l) 1 = some b) ∧
  (∀ {α : Type} (a b c : α) (l : List α), getF (a :: b :: c :: l) 2 = some c) ∧
  (∀ {α : Type} (a b c d : α) (l : List α), getF (a :: b :: c :: d :: l) 3 = some d) ∧
  (∀ {α : Type} (a b c d e : α) (l : List α), getF (a :: b :: c :: d :: e :: l) 4 = some e) ∧
  (∀ {α : Type} (a b c d e f : α) (l : List α), getF (a :: b :: c :: d :: e :: f :: l) 5 = some f) ∧
  (∀ {α : Type} (a v : α) (l : List α), setF (a :: l) 0 v = v :: l) ∧
  (∀ {α : Type} (a b v : α) (l : List α), setF (a :: b :: l) 1 v = a :: v :: l) ∧
  (∀ {α : Type} (a b c v : α) (l : List α), setF (a :: b :: c :: l) 2 v = a :: b :: v :: l) ∧
  (∀ {α : Type} (a b c d v : α) (l : List α), setF (a :: b :: c :: d :: l) 3 v = a :: b :: c :: v :: l) ∧
  (∀ {α : Type} (a b c d e v : α) (l : List α), setF (a :: b :: c :: d :: e :: l) 4 v = a :: b :: c :: d :: v :: l) ∧
  (∀ {α : Type} (a b c d e f v : α) (l : List α), setF (a :: b :: c :: d :: e :: f :: l) 5 v = a :: b :: c :: d :: e :: v :: l) ∧
  (∀ {α : Type} (h l : List α), lenF (h ++ l) = lenF h + lenF l) ∧
  (∀ {α : Type}, lenF ([] : List α) = 0) ∧
  (∀ {α : Type} (a : α) (l : List α), lenF (a :: l) = lenF l + 1) ∧
  (∀ {α : Type} (l : List α) (n : Nat) (v : α), lenF (setF l n v) = lenF l) ∧
  (∀ {α : Type} (h l : List α), getF (h ++ l) (lenF h) = getF l 0) ∧
  (∀ {α : Type} (h l : List α) (j : Nat), getF (h ++ l) (lenF h + j) = getF l j) ∧
  (∀ {α : Type} (h l : List α) (v : α), setF (h ++ l) (lenF h) v = h ++ setF l 0 v) ∧
  (∀ {α : Type} (h l : List α) (j : Nat) (v : α), setF (h ++ l) (lenF h + j) v = h ++ setF l j v) ∧
  (∀ {α : Type} (h l : List α), takeF (lenF h) (h ++ l) = h) ∧
  (∀ {α : Type} (h l : List α) (v : α), snocF (h ++ l) v = h ++ (l ++ [v])) ∧
  (∀ (b : Bool), noN (.bool b) = true) ∧
  (∀ (k : IntKind) (n : Int), noN (.int k n) = true) ∧
  (∀ (s : List Nat), noN (.str s) = true) ∧
  (noN .nils = true) ∧
  (noN .nilp = true) ∧
  (∀ (l : List AV), noN (.agg l) = noNL l) ∧
  (∀ (l : List AV), noN (.tuple l) = noNL l) ∧
  (∀ (t : TypeId) (v : AV), noN (.iface t v) = noN v) ∧
  (∀ (k : Nat) (l : List AV) (n : Lin), noN (.sl k l n) = cond (linN n) (noNL l) false) ∧
  (linN .dead = true) ∧
  (linN .lit = true) ∧
  (linN .full = true) ∧
  (linN .frz = true) ∧
  (noNL [] = true) ∧
  (∀ (v : AV) (l : List AV), noNL (v :: l) = cond (noN v) (noNL l) false) ∧
  (∀ {keep : Bool} {base : Nat} {v : AV} {hp : Heap} (h : noN v = true), gcF keep base v ⟨hp, base⟩ = .ret v (takeF base hp) base) ∧
  (∀ (a b : CZ) (r : RG) (ds : Dfs) (s : St), seqZ a b r ds s = seqK b (a r ds s)) ∧
  (∀ (c : X) (a b : CZ) (r : RG) (ds : Dfs) (s : St), condZ c a b r ds s = condK (gx ⟨r, []⟩ c) (a r ds s) (b r ds s)) ∧
  (∀ (i : Nat) (b : CZ) (r : RG) (ds : Dfs) (s : St), blkZ i b r ds s = blkK i (b r ds s)) ∧
  (∀ (r : RG) (ds : Dfs) (s : St), skipZ r ds s = some (.normal, r, ds, s)) ∧
  (∀ (i : Nat) (r : RG) (ds : Dfs) (s : St), exitZ i r ds s = some (.exit i, r, ds, s)) ∧
  (∀ (r : RG) (ds : Dfs) (s : St), retZ r ds s = some (.ret, r, ds, s)) ∧
  (∀ (b : CZ) (r : RG) (ds : Dfs) (s : St), loopZ b r ds s = loopN b 100000 r ds s) ∧
  (∀ (cs : List AV) (s : St) (k : AV → St → IRes), zal cs s k = k (.ptr (lenF s.heap) 0) ⟨snocF s.heap (.cells cs), s.esc⟩) ∧
  (∀ {α : Type} (l : List α) (v : α), snocF l v = l ++ [v]) ∧
  (∀ {α : Type} (h l : List α) (a : α), (h ++ l) ++ [a] = h ++ (l ++ [a])) ∧
  (∀ {α : Type} (a b : α) (l : List α), (a :: l) ++ [b] = a :: (l ++ [b])) ∧
  (∀ {α : Type} (l : List α), [] ++ l = l) ∧
  (∀ {α : Type} (l : List α), l ++ [] = l) ∧
  (∀ (a b : Nat), Nat.ble a b = decide (a ≤ b)) ∧
  (∀ (a b : Nat), Nat.beq a b = decide (a = b)) ∧
  (∀ (a b : Nat), Nat.add a b = a + b) ∧
  (∀ (a : Nat), min a a = a) ∧
  (∀ (a b : Nat), min a (a + b) = a) ∧
  (∀ (a : Nat), 0 + a = a) ∧
  (∀ (a : Nat), a + 0 = a) ∧
  (decide True = true) ∧
  (decide False = false) ∧
  (∀ (a : Nat), (a ≤ a) = True) ∧
  (∀ {α : Type} (a : α), (a = a) = True) ∧
  ((!true) = false) ∧
  ((!false) = true) ∧
  (∀ (b : Bool), (true && b) = b) ∧
  (∀ (b : Bool), (false && b) = false) ∧
  (∀ (b : Bool), (b && true) = b) ∧
  (∀ {α : Type} (a b : α), cond true a b = a) ∧
  (∀ {α : Type} (a b : α), cond false a b = b) ∧
  (∀ (p : AV → Bool), ([] : List AV).all p = true) ∧
  (∀ (p : AV → Bool) (a : AV) (l : List AV), (a :: l).all p = (p a && l.all p)) ∧
  (∀ (b : Bool), AV.one (.bool b) = true) ∧
  (∀ (k : IntKind) (n : Int), AV.one (.int k n) = true) ∧
  (∀ (s : List Nat), AV.one (.str s) = true) ∧
  (AV.one .nils = true) ∧
  (AV.one .nilp = true) ∧
  (∀ (n o : Nat), AV.one (.ptr n o) = true) ∧
  (∀ (k : Nat) (l : List AV) (n : Lin), AV.one (.sl k l n) = true) ∧
  (∀ (l : List AV), AV.cells (.agg l) = l) ∧
  (∀ (b : Bool), AV.cells (.bool b) = [.bool b]) ∧
  (∀ (k : IntKind) (n : Int), AV.cells (.int k n) = [.int k n]) ∧
  (∀ (s : List Nat), AV.cells (.str s) = [.str s]) ∧
  (AV.cells .nils = [.nils]) ∧
  (∀ (n o : Nat), AV.cells (.ptr n o) = [.ptr n o]) ∧
  (∀ (k : Nat) (l : List AV) (n : Lin), AV.cells (.sl k l n) = [.sl k l n]) ∧
  (∀ (n r off : Nat) (v : AV) (s : St), stoO n (.ptr r off) v s = match getF s.heap r with
    | some (.cells cs) => stoC n off r v v.cells cs s
    | _ => none) ∧
  (∀ (n off r : Nat) (v : AV) (vc cs : List AV) (hp : Heap) (e : Nat) (h : noN v = true), stoC n off r v vc cs ⟨hp, e⟩ = cond (Nat.beq (lenF vc) n && (Nat.ble (Nat.add off n) (lenF cs) && vc.all AV.one)) (some ⟨setF hp r (.cells (putF cs off vc)), e⟩) none) ∧
  (∀ (ag : Option Nat) (n off : Nat) (h : Heap), ldV ag (.ptr n off) h = match getF h n with
    | some (.cells cs) => partV ag cs off
    | _ => none) ∧
  (∀ (ag : Option Nat) (xs : List AV) (h : Heap), ldV ag (.iptr xs) h = partV ag xs 0) ∧
  (∀ (k : Nat) (cs : List AV) (off : Nat), partV (some k) cs off = cond (Nat.ble (Nat.add off k) (lenF cs)) (some (.agg (takeF k (dropF off cs)))) none) ∧
  (∀ {α : Type} (l : List α), takeF 0 l = []) ∧
  (∀ {α : Type} (a : α) (l : List α), takeF 1 (a :: l) = a :: takeF 0 l) ∧
  (∀ {α : Type} (a : α) (l : List α), takeF 2 (a :: l) = a :: takeF 1 l) ∧
  (∀ {α : Type} (a : α) (l : List α), takeF 3 (a :: l) = a :: takeF 2 l) ∧
  (∀ {α : Type} (a : α) (l : List α), takeF 4 (a :: l) = a :: takeF 3 l) ∧
  (∀ {α : Type} (a : α) (l : List α), takeF 5 (a :: l) = a :: takeF 4 l) ∧
  (∀ {α : Type} (a : α) (l : List α), takeF 6 (a :: l) = a :: takeF 5 l) ∧
  (∀ {α : Type} (a : α) (l : List α), takeF 7 (a :: l) = a :: takeF 6 l) ∧
  (∀ {α : Type} (a : α) (l : List α), takeF 8 (a :: l) = a :: takeF 7 l) ∧
  (∀ {α : Type} (l : List α), dropF 0 l = l) ∧
  (∀ {α : Type} (a : α) (l : List α), dropF 1 (a :: l) = dropF 0 l) ∧
  (∀ {α : Type} (a : α) (l : List α), dropF 2 (a :: l) = dropF 1 l) ∧
  (∀ {α : Type} (a : α) (l : List α), dropF 3 (a :: l) = dropF 2 l) ∧
  (∀ {α : Type} (a : α) (l : List α), dropF 4 (a :: l) = dropF 3 l) ∧
  (∀ (cs : List AV) (o : Nat) (v : AV), putF cs o [v] = setF cs o v) ∧
  (∀ (cs : List AV) (o : Nat) (a b : AV) (l : List AV), putF cs o (a :: b :: l) = putCells cs o (a :: b :: l)) ∧
  (∀ (a0 a1 b0 b1 : AV), putCells [a0, a1] 0 [b0, b1] = [b0, b1]) ∧
  (∀ (a0 a1 a2 b0 b1 b2 : AV), putCells [a0, a1, a2] 0 [b0, b1, b2] = [b0, b1, b2]) ∧
  (∀ (a0 a1 a2 a3 b0 b1 b2 b3 : AV), putCells [a0, a1, a2, a3] 0 [b0, b1, b2, b3] = [b0, b1, b2, b3]) ∧
  (∀ (a0 a1 a2 a3 a4 b0 b1 b2 b3 b4 : AV), putCells [a0, a1, a2, a3, a4] 0 [b0, b1, b2, b3, b4] = [b0, b1, b2, b3, b4]) ∧
  (∀ (a0 a1 a2 a3 a4 a5 b0 b1 b2 b3 b4 b5 : AV), putCells [a0, a1, a2, a3, a4, a5] 0 [b0, b1, b2, b3, b4, b5] = [b0, b1, b2, b3, b4, b5]) ∧
  (∀ (a0 a1 a2 a3 a4 a5 a6 b0 b1 b2 b3 b4 b5 b6 : AV), putCells [a0, a1, a2, a3, a4, a5, a6] 0 [b0, b1, b2, b3, b4, b5, b6] = [b0, b1, b2, b3, b4, b5, b6]) ∧
  (∀ (a0 a1 a2 a3 a4 a5 a6 a7 b0 b1 b2 b3 b4 b5 b6 b7 : AV), putCells [a0, a1, a2, a3, a4, a5, a6, a7] 0 [b0, b1, b2, b3, b4, b5, b6, b7] = [b0, b1, b2, b3, b4, b5, b6, b7]) ∧
  (∀ (a0 a1 a2 a3 a4 a5 a6 a7 a8 b0 b1 b2 b3 b4 b5 b6 b7 b8 : AV), putCells [a0, a1, a2, a3, a4, a5, a6, a7, a8] 0 [b0, b1, b2, b3, b4, b5, b6, b7, b8] = [b0, b1, b2, b3, b4, b5, b6, b7, b8]) ∧
  (∀ (a : AV), tupleAV [a] = a) ∧
  (∀ (a b : AV) (l : List AV), tupleAV (a :: b :: l) = .tuple (a :: b :: l)) ∧
  (tupleAV [] = Abs.undef) ∧
  (∀ (e : RG) (h : Heap), resI e h [] = some []) ∧
  (∀ (e : RG) (h : Heap) (n : Nat) (l : List RI), resI e h (.t n :: l) = match resI e h l with
    | some l => some (gt e n :: l)
    | none => none) ∧
  (∀ (e : RG) (h : Heap) (n : Nat) (ag : Option Nat) (l : List RI), resI e h (.cell n ag :: l) = match ldV ag (gt e n) h, resI e h l with
    | some a, some l => some (a :: l)
    | _, _ => none) ∧
  (∀ (C : Cfg) (f : FuncId) (b : Nat) (z : FZ) (r : RG) (s : St), finZ C f b z (some (.ret, r, [], s)) = match resI r s.heap z.res with
    | some l => some (gcF (C.keep f) b (tupleAV l) s)
    | none => none) ∧
  (∀ (C : Cfg) (f : FuncId) (b : Nat) (z : FZ) (r : RG) (s : St), finZ C f b z (some (.normal, r, [], s)) = match resI r s.heap z.res with
    | some l => some (gcF (C.keep f) b (tupleAV l) s)
    | none => none) ∧
  (∀ (C : Cfg) (f : FuncId) (b : Nat) (z : FZ) (p : AV) (r : RG) (s : St), finZ C f b z (some (.panic p, r, [], s)) = some (gcP false b p s)) ∧
  (∀ {α : Type} (w : Bool) (ds : Dfs) (s : St) (k : AV → Dfs → St → Option α) (y : (AV → Dfs → St → Option α) → Option α), gJ Abs.undef w ds s k y = k Abs.undef ds s) ∧
  (∀ {α : Type} (s : St) (sl : Nat) (hi : List (Nat × Heap)) (rd : List (Nat × (Heap → Option AV) × AV)) (k : AV → St → Nat → List (Nat × Heap) → List (Nat × (Heap → Option AV) × AV) → Option α)
    (y : (AV → St → Nat → List (Nat × Heap) → List (Nat × (Heap → Option AV) × AV) → Option α) → Option α), gDJ (.bool true) true s sl hi rd k y = y k) ∧
  (∀ {α : Type} (s : St) (sl : Nat) (hi : List (Nat × Heap)) (rd : List (Nat × (Heap → Option AV) × AV)) (k : AV → St → Nat → List (Nat × Heap) → List (Nat × (Heap → Option AV) × AV) → Option α)
    (y : (AV → St → Nat → List (Nat × Heap) → List (Nat × (Heap → Option AV) × AV) → Option α) → Option α), gDJ (.bool false) true s sl hi rd k y = k Abs.undef s sl hi rd) ∧
  (∀ (b : Nat) (x : Heap → Option AV) (v : AV), histOk b x v [] = true) ∧
  (∀ (b : Nat) (h : Heap), readsOk b h [] = true) ∧
  (∀ (b j : Nat) (h : Heap) (x : Heap → Option AV) (w : AV) (r : List (Nat × (Heap → Option AV) × AV)), readsOk b h ((j, x, w) :: r) = ((b.testBit j || rsame x w h) && readsOk b h r)) ∧
  (∀ (x : Heap → Option AV) (v : AV) (h : Heap), rsame x v h = match x h with
    | some w => w.same v
    | none => false) ∧
  (∀ (k : IntKind) (n : Int), AV.same (.int k n) (.int k n) = true) ∧
  (∀ (l : List Nat), AV.same (.str l) (.str l) = true) ∧
  (∀ (b : Bool), AV.same (.bool b) (.bool b) = true) ∧
  (AV.same .nils .nils = true) ∧
  (∀ {α : Type} (x : Option α), dNil [] x = x) ∧
  (∀ (b : Bool), (b || true) = true) ∧
  (∀ (b : Bool), (true || b) = true) ∧
  (∀ (b : Bool), (false || b) = b) ∧
  (∀ {α : Type} (rec : RecT) (v : AV) (s s' : St) (ds : Dfs) (k : AV → Dfs → St → Option α) (kp : AV → St → Option α), oE rec (some (.val v s')) ds s k kp = k v ds s') ∧
  (∀ {α : Type} (rec : RecT) (g : FuncId) (args : List AV) (s : St) (ds : Dfs) (k : AV → Dfs → St → Option α) (kp : AV → St → Option α), oE rec (some (.call g args)) ds s k kp = cZ (rec g args s.heap) s.esc (fun v s => k v ds s) kp) ∧
  (∀ {α : Type} (rec : RecT) (v : AV) (s : St) (ds : Dfs) (k : AV → Dfs → St → Option α) (kp : AV → St → Option α), oE rec (some (.panic v)) ds s k kp = kp v s) ∧
  (∀ (C : Cfg) (f : FuncId) (first capt args : List AV) (s : St), callvV C (.func (.func f) first capt) args s = callAV C f (first ++ args ++ capt) s) ∧
  (∀ (v : AV) (s : St), orVal (some (v, s)) = some (.val v s)) ∧
  (∀ (t : TypeId) (a : AV), panV (.iface t a) = some (.panic (.iface t a))) ∧
  (∀ (o : AObj) (mk : Nat → AV) (s : St) (k : AV → St → IRes), oA (some (o, mk)) s k = k (mk (lenF s.heap)) ⟨snocF s.heap o, s.esc⟩) ∧
  (∀ {α : Type} (h l : List α) (n : Nat) (v : α), getF (setF h n v ++ l) (lenF h) = getF l 0) ∧
  (∀ {α : Type} (h l : List α) (n j : Nat) (v : α), getF (setF h n v ++ l) (lenF h + j) = getF l j) ∧
  (∀ {α : Type} (h l : List α) (n : Nat) (v w : α), setF (setF h n v ++ l) (lenF h) w = setF h n v ++ setF l 0 w) ∧
  (∀ {α : Type} (h l : List α) (n j : Nat) (v w : α), setF (setF h n v ++ l) (lenF h + j) w = setF h n v ++ setF l j w) ∧
  (∀ {α : Type} (h l : List α) (n : Nat) (v : α), takeF (lenF h) (setF h n v ++ l) = setF h n v) ∧
  (∀ {α : Type} (h : List α) (n : Nat) (v w : α), setF (setF h n v) n w = setF h n w) ∧
  (∀ {α : Type} (h : List α), takeF (lenF h) h = h) ∧
  (∀ {α : Type} (h : List α) (n : Nat) (v : α), takeF (lenF h) (setF h n v) = setF h n v) :=
  ⟨oB_s, seqK_n, seqK_e, seqK_r, seqK_p, condK_t, condK_f, blkK_n, blkK_r, blkK_p, blkK_e, blkK_x, cZ_r, cZ_p, z_lss, z_gtr, z_geq, z_leq, z_eql, z_neq, z_lssU, z_gtrU, z_geqU, z_leqU, z_eqlU, z_neqU, z_eqlS, z_neqS, z_eqlB, z_neqB, z_add, z_sub, u_not, gJ_t, gJ_f, gJ_nt, gJ_nf, pick_t, pick_f, nilc_p, nilc_i, fa_p, ext0, ext1, ext2, partV_n, getF_0, getF_1, getF_2, getF_3, getF_4, getF_5, setF_0, setF_1, setF_2, setF_3, setF_4, setF_5, lenF_app, lenF_nil, lenF_cons, lenF_set, getF_app0, getF_app, setF_app0, setF_app, takeF_app, snocF_app, noN_bool, noN_int, noN_str, noN_nils, noN_nilp, noN_agg, noN_tuple, noN_iface, noN_sl, linN_dead, linN_lit, linN_full, linN_frz, noNL_nil, noNL_cons, gcF_nn, seqZ_u, condZ_u, blkZ_u, skipZ_u, exitZ_u, retZ_u, loopZ_u, zal_u, snocF_u, app_cons, cons_app, nil_app, app_nil, nble, nbeq, nadd, min_self', min_l, zadd, addz, dect, decf, le_r, eq_s, notT, notF, andT, andF, andT', condT, condF, all_n, all_c, one_bool, one_int, one_str, one_nils, one_nilp, one_ptr, one_sl, cells_agg, cells_bool, cells_int, cells_str, cells_nils, cells_ptr, cells_sl, stoO_u, stoC_u, ldV_u, ldV_i, partV_s, takeF_z, takeF_1, takeF_2, takeF_3, takeF_4, takeF_5, takeF_6, takeF_7, takeF_8, dropF_z, dropF_1, dropF_2, dropF_3, dropF_4, putF_1, putF_2, putC_2, putC_3, putC_4, putC_5, putC_6, putC_7, putC_8, putC_9, tup1, tup2, tup0, resI_n, resI_t, resI_c, finZ_r, finZ_n, finZ_p, gJ_u, gDJ_t, gDJ_f, histOk_n, readsOk_n, readsOk_c, rsame_u, same_int, same_str, same_bool, same_nils, dNil_n, orT, orT', orF, oE_v, oE_c, oE_p, callv_u, orVal_s, pan_u, oA_s, getF_s0, getF_s, setF_s0, setF_s, takeF_s, setF_ss, takeF_0, takeF_s0⟩
theorem ST0 : (∀ (r : RG) (v : AV), st r 0 v = ⟨⟨⟨v, r.a.a.b, r.a.a.c, r.a.a.d, r.a.a.e, r.a.a.f, r.a.a.g, r.a.a.h⟩, r.a.b, r.a.c, r.a.d, r.a.e, r.a.f, r.a.g, r.a.h⟩, r.b, r.c, r.d, r.e, r.f, r.g, r.h⟩) ∧ (∀ (r : RG) (l : List AV), gx ⟨r, l⟩ (.t 0) = r.a.a.a) ∧ (∀ (r : RG), gt r 0 = r.a.a.a) ∧ (∀ (r : RG) (v : AV), st r 1 v = ⟨⟨⟨r.a.a.a, v, r.a.a.c, r.a.a.d, r.a.a.e, r.a.a.f, r.a.a.g, r.a.a.h⟩, r.a.b, r.a.c, r.a.d, r.a.e, r.a.f, r.a.g, r.a.h⟩, r.b, r.c, r.d, r.e, r.f, r.g, r.h⟩) ∧ (∀ (r : RG) (l : List AV), gx ⟨r, l⟩ (.t 1) = r.a.a.b) ∧ (∀ (r : RG), gt r 1 = r.a.a.b) ∧ (∀ (r : RG) (v : AV), st r 2 v = ⟨⟨⟨r.a.a.a, r.a.a.b, v, r.a.a.d, r.a.a.e, r.a.a.f, r.a.a.g, r.a.a.h⟩, r.a.b, r.a.c, r.a.d, r.a.e, r.a.f, r.a.g, r.a.h⟩, r.b, r.c, r.d, r.e, r.f, r.g, r.h⟩) ∧ (∀ (r : RG) (l : List AV), gx ⟨r, l⟩ (.t 2) = r.a.a.c) ∧ (∀ (r : RG), gt r 2 = r.a.a.c) ∧ (∀ (r : RG) (v : AV), st r 3 v = ⟨⟨⟨r.a.a.a, r.a.a.b, r.a.a.c, v, r.a.a.e, r.a.a.f, r.a.a.g, r.a.a.h⟩, r.a.b, r.a.c, r.a.d, r.a.e, r.a.f, r.a.g, r.a.h⟩, r.b, r.c, r.d, r.e, r.f, r.g, r.h⟩) ∧ (∀ (r : RG) (l : List AV), gx ⟨r, l⟩ (.t 3) = r.a.a.d) ∧ (∀ (r : RG), gt r 3 = r.a.a.d) ∧ (∀ (r : RG) (v : AV), st r 4 v = ⟨⟨⟨r.a.a.a, r.a.a.b, r.a.a.c, r.a.a.d, v, r.a.a.f, r.a.a.g, r.a.a.h⟩, r.a.b, r.a.c, r.a.d, r.a.e, r.a.f, r.a.g, r.a.h⟩, r.b, r.c, r.d, r.e, r.f, r.g, r.h⟩) ∧ (∀ (r : RG) (l : List AV), gx ⟨r, l⟩ (.t 4) = r.a.a.e) ∧ (∀ (r : RG), gt r 4 = r.a.a.e) ∧ (∀ (r : RG) (v : AV), st r 5 v = ⟨⟨⟨r.a.a.a, r.a.a.b, r.a.a.c, r.a.a.d, r.a.a.e, v, r.a.a.g, r.a.a.h⟩, r.a.b, r.a.c, r.a.d, r.a.e, r.a.f, r.a.g, r.a.h⟩, r.b, r.c, r.d, r.e, r.f, r.g, r.h⟩) ∧ (∀ (r : RG) (l : List AV), gx ⟨r, l⟩ (.t 5) = r.a.a.f) ∧ (∀ (r : RG), gt r 5 = r.a.a.f) ∧ (∀ (r : RG) (v : AV), st r 6 v = ⟨⟨⟨r.a.a.a, r.a.a.b, r.a.a.c, r.a.a.d, r.a.a.e, r.a.a.f, v, r.a.a.h⟩, r.a.b, r.a.c, r.a.d, r.a.e, r.a.f, r.a.g, r.a.h⟩, r.b, r.c, r.d, r.e, r.f, r.g, r.h⟩) ∧ (∀ (r : RG) (l : List AV), gx ⟨r, l⟩ (.t 6) = r.a.a.g) ∧ (∀ (r : RG), gt r 6 = r.a.a.g) ∧ (∀ (r : RG) (v : AV), st r 7 v = ⟨⟨⟨r.a.a.a, r.a.a.b, r.a.a.c, r.a.a.d, r.a.a.e, r.a.a.f, r.a.a.g, v⟩, r.a.b, r.a.c, r.a.d, r.a.e, r.a.f, r.a.g, r.a.h⟩, r.b, r.c, r.d, r.e, r.f, r.g, r.h⟩) ∧ (∀ (r : RG) (l : List AV), gx ⟨r, l⟩ (.t 7) = r.a.a.h) ∧ (∀ (r : RG), gt r 7 = r.a.a.h) ∧ (∀ (r : RG) (v : AV), st r 8 v = ⟨⟨r.a.a, ⟨v, r.a.b.b, r.a.b.c, r.a.b.d, r.a.b.e, r.a.b.f, r.a.b.g, r.a.b.h⟩, r.a.c, r.a.d, r.a.e, r.a.f, r.a.g, r.a.h⟩, r.b, r.c, r.d, r.e, r.f, r.g, r.h⟩) ∧ (∀ (r : RG) (l : List AV), gx ⟨r, l⟩ (.t 8) = r.a.b.a) ∧ (∀ (r : RG), gt r 8 = r.a.b.a) ∧ (∀ (r : RG) (v : AV), st r 9 v = ⟨⟨r.a.a, ⟨r.a.b.a, v, r.a.b.c, r.a.b.d, r.a.b.e, r.a.b.f, r.a.b.g, r.a.b.h⟩, r.a.c, r.a.d, r.a.e, r.a.f, r.a.g, r.a.h⟩, r.b, r.c, r.d, r.e, r.f, r.g, r.h⟩) ∧ (∀ (r : RG) (l : List AV), gx ⟨r, l⟩ (.t 9) = r.a.b.b) ∧ (∀ (r : RG), gt r 9 = r.a.b.b) ∧ (∀ (r : RG) (v : AV), st r 10 v = ⟨⟨r.a.a, ⟨r.a.b.a, r.a.b.b, v, r.a.b.d, r.a.b.e, r.a.b.f, r.a.b.g, r.a.b.h⟩, r.a.c, r.a.d, r.a.e, r.a.f, r.a.g, r.a.h⟩, r.b, r.c, r.d, r.e, r.f, r.g, r.h⟩) ∧ (∀ (r : RG) (l : List AV), gx ⟨r, l⟩ (.t 10) = r.a.b.c) ∧ (∀ (r : RG), gt r 10 = r.a.b.c) ∧ (∀ (r : RG) (v : AV), st r 11 v = ⟨⟨r.a.a, ⟨r.a.b.a, r.a.b.b, r.a.b.c, v, r.a.b.e, r.a.b.f, r.a.b.g, r.a.b.h⟩, r.a.c, r.a.d, r.a.e, r.a.f, r.a.g, r.a.h⟩, r.b, r.c, r.d, r.e, r.f, r.g, r.h⟩) ∧ (∀ (r : RG) (l : List AV), gx ⟨r, l⟩ (.t 11) = r.a.b.d) ∧ (∀ (r : RG), gt r 11 = r.a.b.d) ∧ (∀ (r : RG) (v : AV), st r 12 v = ⟨⟨r.a.a, ⟨r.a.b.a, r.a.b.b, r.a.b.c, r.a.b.d, v, r.a.b.f, r.a.b.g, r.a.b.h⟩, r.a.c, r.a.d, r.a.e, r.a.f, r.a.g, r.a.h⟩, r.b, r.c, r.d, r.e, r.f, r.g, r.h⟩) ∧ (∀ (r : RG) (l : List AV), gx ⟨r, l⟩ (.t 12) = r.a.b.e) ∧ (∀ (r : RG), gt r 12 = r.a.b.e) ∧ (∀ (r : RG) (v : AV), st r 13 v = ⟨⟨r.a.a, ⟨r.a.b.a, r.a.b.b, r.a.b.c, r.a.b.d, r.a.b.e, v, r.a.b.g, r.a.b.h⟩, r.a.c, r.a.d, r.a.e, r.a.f, r.a.g, r.a.h⟩, r.b, r.c, r.d, r.e, r.f, r.g, r.h⟩) ∧ (∀ (r : RG) (l : List AV), gx ⟨r, l⟩ (.t 13) = r.a.b.f) ∧ (∀ (r : RG), gt r 13 = r.a.b.f) ∧ (∀ (r : RG) (v : AV), st r 14 v = ⟨⟨r.a.a, ⟨r.a.b.a, r.a.b.b, r.a.b.c, r.a.b.d, r.a.b.e, r.a.b.f, v, r.a.b.h⟩, r.a.c, r.a.d, r.a.e, r.a.f, r.a.g, r.a.h⟩, r.b, r.c, r.d, r.e, r.f, r.g, r.h⟩) ∧ (∀ (r : RG) (l : List AV), gx ⟨r, l⟩ (.t 14) = r.a.b.g) ∧ (∀ (r : RG), gt r 14 = r.a.b.g) ∧ (∀ (r : RG) (v : AV), st r 15 v = ⟨⟨r.a.a, ⟨r.a.b.a, r.a.b.b, r.a.b.c, r.a.b.d, r.a.b.e, r.a.b.f, r.a.b.g, v⟩, r.a.c, r.a.d, r.a.e, r.a.f, r.a.g, r.a.h⟩, r.b, r.c, r.d, r.e, r.f, r.g, r.h⟩) ∧ (∀ (r : RG) (l : List AV), gx ⟨r, l⟩ (.t 15) = r.a.b.h) ∧ (∀ (r : RG), gt r 15 = r.a.b.h) ∧ (∀ (r : RG) (v : AV), st r 16 v = ⟨⟨r.a.a, r.a.b, ⟨v, r.a.c.b, r.a.c.c, r.a.c.d, r.a.c.e, r.a.c.f, r.a.c.g, r.a.c.h⟩, r.a.d, r.a.e, r.a.f, r.a.g, r.a.h⟩, r.b, r.c, r.d, r.e, r.f, r.g, r.h⟩) ∧ (∀ (r : RG) (l : List AV), gx ⟨r, l⟩ (.t 16) = r.a.c.a) ∧ (∀ (r : RG), gt r 16 = r.a.c.a) ∧ (∀ (r : RG) (v : AV), st r 17 v = ⟨⟨r.a.a, r.a.b, ⟨r.a.c.a, v, r.a.c.c, r.a.c.d, r.a.c.e, r.a.c.f, r.a.c.g, r.a.c.h⟩, r.a.d, r.a.e, r.a.f, r.a.g, r.a.h⟩, r.b, r.c, r.d, r.e, r.f, r.g, r.h⟩) ∧ (∀ (r : RG) (l : List AV), gx ⟨r, l⟩ (.t 17) = r.a.c.b) ∧ (∀ (r : RG), gt r 17 = r.a.c.b) ∧ (∀ (r : RG) (v : AV), st r 18 v = ⟨⟨r.a.a, r.a.b, ⟨r.a.c.a, r.a.c.b, v, r.a.c.d, r.a.c.e, r.a.c.f, r.a.c.g, r.a.c.h⟩, r.a.d, r.a.e, r.a.f, r.a.g, r.a.h⟩, r.b, r.c, r.d, r.e, r.f, r.g, r.h⟩) ∧ (∀ (r : RG) (l : List AV), gx ⟨r, l⟩ (.t 18) = r.a.c.c) ∧ (∀ (r : RG), gt r 18 = r.a.c.c) ∧ (∀ (r : RG) (v : AV), st r 19 v = ⟨⟨r.a.a, r.a.b, ⟨r.a.c.a, r.a.c.b, r.a.c.c, v, r.a.c.e, r.a.c.f, r.a.c.g, r.a.c.h⟩, r.a.d, r.a.e, r.a.f, r.a.g, r.a.h⟩, r.b, r.c, r.d, r.e, r.f, r.g, r.h⟩) ∧ (∀ (r : RG) (l : List AV), gx ⟨r, l⟩ (.t 19) = r.a.c.d) ∧ (∀ (r : RG), gt r 19 = r.a.c.d) ∧ (∀ (r : RG) (v : AV), st r 20 v = ⟨⟨r.a.a, r.a.b, ⟨r.a.c.a, r.a.c.b, r.a.c.c, r.a.c.d, v, r.a.c.f, r.a.c.g, r.a.c.h⟩, r.a.d, r.a.e, r.a.f, r.a.g, r.a.h⟩, r.b, r.c, r.d, r.e, r.f, r.g, r.h⟩) ∧ (∀ (r : RG) (l : List AV), gx ⟨r, l⟩ (.t 20) = r.a.c.e) ∧ (∀ (r : RG), gt r 20 = r.a.c.e) ∧ (∀ (r : RG) (v : AV), st r 21 v = ⟨⟨r.a.a, r.a.b, ⟨r.a.c.a, r.a.c.b, r.a.c.c, r.a.c.d, r.a.c.e, v, r.a.c.g, r.a.c.h⟩, r.a.d, r.a.e, r.a.f, r.a.g, r.a.h⟩, r.b, r.c, r.d, r.e, r.f, r.g, r.h⟩) ∧ (∀ (r : RG) (l : List AV), gx ⟨r, l⟩ (.t 21) = r.a.c.f) ∧ (∀ (r : RG), gt r 21 = r.a.c.f) ∧ (∀ (r : RG) (v : AV), st r 22 v = ⟨⟨r.a.a, r.a.b, ⟨r.a.c.a, r.a.c.b, r.a.c.c, r.a.c.d, r.a.c.e, r.a.c.f, v, r.a.c.h⟩, r.a.d, r.a.e, r.a.f, r.a.g, r.a.h⟩, r.b, r.c, r.d, r.e, r.f, r.g, r.h⟩) ∧ (∀ (r : RG) (l : List AV), gx ⟨r, l⟩ (.t 22) = r.a.c.g) ∧ (∀ (r : RG), gt r 22 = r.a.c.g) ∧ (∀ (r : RG) (v : AV), st r 23 v = ⟨⟨r.a.a, r.a.b, ⟨r.a.c.a, r.a.c.b, r.a.c.c, r.a.c.d, r.a.c.e, r.a.c.f, r.a.c.g, v⟩, r.a.d, r.a.e, r.a.f, r.a.g, r.a.h⟩, r.b, r.c, r.d, r.e, r.f, r.g, r.h⟩) ∧ (∀ (r : RG) (l : List AV), gx ⟨r, l⟩ (.t 23) = r.a.c.h) ∧ (∀ (r : RG), gt r 23 = r.a.c.h) ∧ (∀ (r : RG) (v : AV), st r 24 v = ⟨⟨r.a.a, r.a.b, r.a.c, ⟨v, r.a.d.b, r.a.d.c, r.a.d.d, r.a.d.e, r.a.d.f, r.a.d.g, r.a.d.h⟩, r.a.e, r.a.f, r.a.g, r.a.h⟩, r.b, r.c, r.d, r.e, r.f, r.g, r.h⟩) ∧ (∀ (r : RG) (l : List AV), gx ⟨r, l⟩ (.t 24) = r.a.d.a) ∧ (∀ (r : RG), gt r 24 = r.a.d.a) ∧ (∀ (r : RG) (v : AV), st r 25 v = ⟨⟨r.a.a, r.a.b, r.a.c, ⟨r.a.d.a, v, r.a.d.c, r.a.d.d, r.a.d.e, r.a.d.f, r.a.d.g, r.a.d.h⟩, r.a.e, r.a.f, r.a.g, r.a.h⟩, r.b, r.c, r.d, r.e, r.f, r.g, r.h⟩) ∧ (∀ (r : RG) (l : List AV), gx ⟨r, l⟩ (.t 25) = r.a.d.b) ∧ (∀ (r : RG), gt r 25 = r.a.d.b) ∧ (∀ (r : RG) (v : AV), st r 26 v = ⟨⟨r.a.a, r.a.b, r.a.c, ⟨r.a.d.a, r.a.d.b, v, r.a.d.d, r.a.d.e, r.a.d.f, r.a.d.g, r.a.d.h⟩, r.a.e, r.a.f, r.a.g, r.a.h⟩, r.b, r.c, r.d, r.e, r.f, r.g, r.h⟩) ∧ (∀ (r : RG) (l : List AV), gx ⟨r, l⟩ (.t 26) = r.a.d.c) ∧ (∀ (r : RG), gt r 26 = r.a.d.c) ∧ (∀ (r : RG) (v : AV), st r 27 v = ⟨⟨r.a.a, r.a.b, r.a.c, ⟨r.a.d.a, r.a.d.b, r.a.d.c, v, r.a.d.e, r.a.d.f, r.a.d.g, r.a.d.h⟩, r.a.e, r.a.f, r.a.g, r.a.h⟩, r.b, r.c, r.d, r.e, r.f, r.g, r.h⟩) ∧ (∀ (r : RG) (l : List AV), gx ⟨r, l⟩ (.t 27) = r.a.d.d) ∧ (∀ (r : RG), gt r 27 = r.a.d.d) ∧ (∀ (r : RG) (v : AV), st r 28 v = ⟨⟨r.a.a, r.a.b, r.a.c, ⟨r.a.d.a, r.a.d.b, r.a.d.c, r.a.d.d, v, r.a.d.f, r.a.d.g, r.a.d.h⟩, r.a.e, r.a.f, r.a.g, r.a.h⟩, r.b, r.c, r.d, r.e, r.f, r.g, r.h⟩) ∧ (∀ (r : RG) (l : List AV), gx ⟨r, l⟩ (.t 28) = r.a.d.e) ∧ (∀ (r : RG), gt r 28 = r.a.d.e) ∧ (∀ (r : RG) (v : AV), st r 29 v = ⟨⟨r.a.a, r.a.b, r.a.c, ⟨r.a.d.a, r.a.d.b, r.a.d.c, r.a.d.d, r.a.d.e, v, r.a.d.g, r.a.d.h⟩, r.a.e, r.a.f, r.a.g, r.a.h⟩, r.b, r.c, r.d, r.e, r.f, r.g, r.h⟩) ∧ (∀ (r : RG) (l : List AV), gx ⟨r, l⟩ (.t 29) = r.a.d.f) ∧ (∀ (r : RG), gt r 29 = r.a.d.f) ∧ (∀ (r : RG) (v : AV), st r 30 v = ⟨⟨r.a.a, r.a.b, r.a.c, ⟨r.a.d.a, r.a.d.b, r.a.d.c, r.a.d.d, r.a.d.e, r.a.d.f, v, r.a.d.h⟩, r.a.e, r.a.f, r.a.g, r.a.h⟩, r.b, r.c, r.d, r.e, r.f, r.g, r.h⟩) ∧ (∀ (r : RG) (l : List AV), gx ⟨r, l⟩ (.t 30) = r.a.d.g) ∧ (∀ (r : RG), gt r 30 = r.a.d.g) ∧ (∀ (r : RG) (v : AV), st r 31 v = ⟨⟨r.a.a, r.a.b, r.a.c, ⟨r.a.d.a, r.a.d.b, r.a.d.c, r.a.d.d, r.a.d.e, r.a.d.f, r.a.d.g, v⟩, r.a.e, r.a.f, r.a.g, r.a.h⟩, r.b, r.c, r.d, r.e, r.f, r.g, r.h⟩) ∧ (∀ (r : RG) (l : List AV), gx ⟨r, l⟩ (.t 31) = r.a.d.h) ∧ (∀ (r : RG), gt r 31 = r.a.d.h) :=
  ⟨st_0, gx_0, gt_0, st_1, gx_1, gt_1, st_2, gx_2, gt_2, st_3, gx_3, gt_3, st_4, gx_4, gt_4, st_5, gx_5, gt_5, st_6, gx_6, gt_6, st_7, gx_7, gt_7, st_8, gx_8, gt_8, st_9, gx_9, gt_9, st_10, gx_10, gt_10, st_11, gx_11, gt_11, st_12, gx_12, gt_12, st_13, gx_13, gt_13, st_14, gx_14, gt_14, st_15, gx_15, gt_15, st_16, gx_16, gt_16, st_17, gx_17, gt_17, st_18, gx_18, gt_18, st_19, gx_19, gt_19, st_20, gx_20, gt_20, st_21, gx_21, gt_21, st_22, gx_22, gt_22, st_23, gx_23, gt_23, st_24, gx_24, gt_24, st_25, gx_25, gt_25, st_26, gx_26, gt_26, st_27, gx_27, gt_27, st_28, gx_28, gt_28, st_29, gx_29, gt_29, st_30, gx_30, gt_30, st_31, gx_31, gt_31⟩
theorem ST1 : (∀ (r : RG) (v : AV), st r 32 v = ⟨⟨r.a.a, r.a.b, r.a.c, r.a.d, ⟨v, r.a.e.b, r.a.e.c, r.a.e.d, r.a.e.e, r.a.e.f, r.a.e.g, r.a.e.h⟩, r.a.f, r.a.g, r.a.h⟩, r.b, r.c, r.d, r.e, r.f, r.g, r.h⟩) ∧ (∀ (r : RG) (l : List AV), gx ⟨r, l⟩ (.t 32) = r.a.e.a) ∧ (∀ (r : RG), gt r 32 = r.a.e.a) ∧ (∀ (r : RG) (v : AV), st r 33 v = ⟨⟨r.a.a, r.a.b, r.a.c, r.a.d, ⟨r.a.e.a, v, r.a.e.c, r.a.e.d, r.a.e.e, r.a.e.f, r.a.e.g, r.a.e.h⟩, r.a.f, r.a.g, r.a.h⟩, r.b, r.c, r.d, r.e, r.f, r.g, r.h⟩) ∧ (∀ (r : RG) (l : List AV), gx ⟨r, l⟩ (.t 33) = r.a.e.b) ∧ (∀ (r : RG), gt r 33 = r.a.e.b) ∧ (∀ (r : RG) (v : AV), st r 34 v = ⟨⟨r.a.a, r.a.b, r.a.c, r.a.d, ⟨r.a.e.a, r.a.e.b, v, r.a.e.d, r.a.e.e, r.a.e.f, r.a.e.g, r.a.e.h⟩, r.a.f, r.a.g, r.a.h⟩, r.b, r.c, r.d, r.e, r.f, r.g, r.h⟩) ∧ (∀ (r : RG) (l : List AV), gx ⟨r, l⟩ (.t 34) = r.a.e.c) ∧ (∀ (r : RG), gt r 34 = r.a.e.c) ∧ (∀ (r : RG) (v : AV), st r 35 v = ⟨⟨r.a.a, r.a.b, r.a.c, r.a.d, ⟨r.a.e.a, r.a.e.b, r.a.e.c, v, r.a.e.e, r.a.e.f, r.a.e.g, r.a.e.h⟩, r.a.f, r.a.g, r.a.h⟩, r.b, r.c, r.d, r.e, r.f, r.g, r.h⟩) ∧ (∀ (r : RG) (l : List AV), gx ⟨r, l⟩ (.t 35) = r.a.e.d) ∧ (∀ (r : RG), gt r 35 = r.a.e.d) ∧ (∀ (r : RG) (v : AV), st r 36 v = ⟨⟨r.a.a, r.a.b, r.a.c, r.a.d, ⟨r.a.e.a, r.a.e.b, r.a.e.c, r.a.e.d, v, r.a.e.f, r.a.e.g, r.a.e.h⟩, r.a.f, r.a.g, r.a.h⟩, r.b, r.c, r.d, r.e, r.f, r.g, r.h⟩) ∧ (∀ (r : RG) (l : List AV), gx ⟨r, l⟩ (.t 36) = r.a.e.e) ∧ (∀ (r : RG), gt r 36 = r.a.e.e) ∧ (∀ (r : RG) (v : AV), st r 37 v = ⟨⟨r.a.a, r.a.b, r.a.c, r.a.d, ⟨r.a.e.a, r.a.e.b, r.a.e.c, r.a.e.d, r.a.e.e, v, r.a.e.g, r.a.e.h⟩, r.a.f, r.a.g, r.a.h⟩, r.b, r.c, r.d, r.e, r.f, r.g, r.h⟩) ∧ (∀ (r : RG) (l : List AV), gx ⟨r, l⟩ (.t 37) = r.a.e.f) ∧ (∀ (r : RG), gt r 37 = r.a.e.f) ∧ (∀ (r : RG) (v : AV), st r 38 v = ⟨⟨r.a.a, r.a.b, r.a.c, r.a.d, ⟨r.a.e.a, r.a.e.b, r.a.e.c, r.a.e.d, r.a.e.e, r.a.e.f, v, r.a.e.h⟩, r.a.f, r.a.g, r.a.h⟩, r.b, r.c, r.d, r.e, r.f, r.g, r.h⟩) ∧ (∀ (r : RG) (l : List AV), gx ⟨r, l⟩ (.t 38) = r.a.e.g) ∧ (∀ (r : RG), gt r 38 = r.a.e.g) ∧ (∀ (r : RG) (v : AV), st r 39 v = ⟨⟨r.a.a, r.a.b, r.a.c, r.a.d, ⟨r.a.e.a, r.a.e.b, r.a.e.c, r.a.e.d, r.a.e.e, r.a.e.f, r.a.e.g, v⟩, r.a.f, r.a.g, r.a.h⟩, r.b, r.c, r.d, r.e, r.f, r.g, r.h⟩) ∧ (∀ (r : RG) (l : List AV), gx ⟨r, l⟩ (.t 39) = r.a.e.h) ∧ (∀ (r : RG), gt r 39 = r.a.e.h) ∧ (∀ (r : RG) (v : AV), st r 40 v = ⟨⟨r.a.a, r.a.b, r.a.c, r.a.d, r.a.e, ⟨v, r.a.f.b, r.a.f.c, r.a.f.d, r.a.f.e, r.a.f.f, r.a.f.g, r.a.f.h⟩, r.a.g, r.a.h⟩, r.b, r.c, r.d, r.e, r.f, r.g, r.h⟩) ∧ (∀ (r : RG) (l : List AV), gx ⟨r, l⟩ (.t 40) = r.a.f.a) ∧ (∀ (r : RG), gt r 40 = r.a.f.a) ∧ (∀ (r : RG) (v : AV), st r 41 v = ⟨⟨r.a.a, r.a.b, r.a.c, r.a.d, r.a.e, ⟨r.a.f.a, v, r.a.f.c, r.a.f.d, r.a.f.e, r.a.f.f, r.a.f.g, r.a.f.h⟩, r.a.g, r.a.h⟩, r.b, r.c, r.d, r.e, r.f, r.g, r.h⟩) ∧ (∀ (r : RG) (l : List AV), gx ⟨r, l⟩ (.t 41) = r.a.f.b) ∧ (∀ (r : RG), gt r 41 = r.a.f.b) ∧ (∀ (r : RG) (v : AV), st r 42 v = ⟨⟨r.a.a, r.a.b, r.a.c, r.a.d, r.a.e, ⟨r.a.f.a, r.a.f.b, v, r.a.f.d, r.a.f.e, r.a.f.f, r.a.f.g, r.a.f.h⟩, r.a.g, r.a.h⟩, r.b, r.c, r.d, r.e, r.f, r.g, r.h⟩) ∧ (∀ (r : RG) (l : List AV), gx ⟨r, l⟩ (.t 42) = r.a.f.c) ∧ (∀ (r : RG), gt r 42 = r.a.f.c) ∧ (∀ (r : RG) (v : AV), st r 43 v = ⟨⟨r.a.a, r.a.b, r.a.c, r.a.d, r.a.e, ⟨r.a.f.a, r.a.f.b, r.a.f.c, v, r.a.f.e, r.a.f.f, r.a.f.g, r.a.f.h⟩, r.a.g, r.a.h⟩, r.b, r.c, r.d, r.e, r.f, r.g, r.h⟩) ∧ (∀ (r : RG) (l : List AV), gx ⟨r, l⟩ (.t 43) = r.a.f.d) ∧ (∀ (r : RG), gt r 43 = r.a.f.d) ∧ (∀ (r : RG) (v : AV), st r 44 v = ⟨⟨r.a.a, r.a.b, r.a.c, r.a.d, r.a.e, ⟨r.a.f.a, r.a.f.b, r.a.f.c, r.a.f.d, v, r.a.f.f, r.a.f.g, r.a.f.h⟩, r.a.g, r.a.h⟩, r.b, r.c, r.d, r.e, r.f, r.g, r.h⟩) ∧ (∀ (r : RG) (l : List AV), gx ⟨r, l⟩ (.t 44) = r.a.f.e) ∧ (∀ (r : RG), gt r 44 = r.a.f.e) ∧ (∀ (r : RG) (v : AV), st r 45 v = ⟨⟨r.a.a, r.a.b, r.a.c, r.a.d, r.a.e, ⟨r.a.f.a, r.a.f.b, r.a.f.c, r.a.f.d, r.a.f.e, v, r.a.f.g, r.a.f.h⟩, r.a.g, r.a.h⟩, r.b, r.c, r.d, r.e, r.f, r.g, r.h⟩) ∧ (∀ (r : RG) (l : List AV), gx ⟨r, l⟩ (.t 45) = r.a.f.f) ∧ (∀ (r : RG), gt r 45 = r.a.f.f) ∧ (∀ (r : RG) (v : AV), st r 46 v = ⟨⟨r.a.a, r.a.b, r.a.c, r.a.d, r.a.e, ⟨r.a.f.a, r.a.f.b, r.a.f.c, r.a.f.d, r.a.f.e, r.a.f.f, v, r.a.f.h⟩, r.a.g, r.a.h⟩, r.b, r.c, r.d, r.e, r.f, r.g, r.h⟩) ∧ (∀ (r : RG) (l : List AV), gx ⟨r, l⟩ (.t 46) = r.a.f.g) ∧ (∀ (r : RG), gt r 46 = r.a.f.g) ∧ (∀ (r : RG) (v : AV), st r 47 v = ⟨⟨r.a.a, r.a.b, r.a.c, r.a.d, r.a.e, ⟨r.a.f.a, r.a.f.b, r.a.f.c, r.a.f.d, r.a.f.e, r.a.f.f, r.a.f.g, v⟩, r.a.g, r.a.h⟩, r.b, r.c, r.d, r.e, r.f, r.g, r.h⟩) ∧ (∀ (r : RG) (l : List AV), gx ⟨r, l⟩ (.t 47) = r.a.f.h) ∧ (∀ (r : RG), gt r 47 = r.a.f.h) ∧ (∀ (r : RG) (v : AV), st r 48 v = ⟨⟨r.a.a, r.a.b, r.a.c, r.a.d, r.a.e, r.a.f, ⟨v, r.a.g.b, r.a.g.c, r.a.g.d, r.a.g.e, r.a.g.f, r.a.g.g, r.a.g.h⟩, r.a.h⟩, r.b, r.c, r.d, r.e, r.f, r.g, r.h⟩) ∧ (∀ (r : RG) (l : List AV), gx ⟨r, l⟩ (.t 48) = r.a.g.a) ∧ (∀ (r : RG), gt r 48 = r.a.g.a) ∧ (∀ (r : RG) (v : AV), st r 49 v = ⟨⟨r.a.a, r.a.b, r.a.c, r.a.d, r.a.e, r.a.f, ⟨r.a.g.a, v, r.a.g.c, r.a.g.d, r.a.g.e, r.a.g.f, r.a.g.g, r.a.g.h⟩, r.a.h⟩, r.b, r.c, r.d, r.e, r.f, r.g, r.h⟩) ∧ (∀ (r : RG) (l : List AV), gx ⟨r, l⟩ (.t 49) = r.a.g.b) ∧ (∀ (r : RG), gt r 49 = r.a.g.b) ∧ (∀ (r : RG) (v : AV), st r 50 v = ⟨⟨r.a.a, r.a.b, r.a.c, r.a.d, r.a.e, r.a.f, ⟨r.a.g.a, r.a.g.b, v, r.a.g.d, r.a.g.e, r.a.g.f, r.a.g.g, r.a.g.h⟩, r.a.h⟩, r.b, r.c, r.d, r.e, r.f, r.g, r.h⟩) ∧ (∀ (r : RG) (l : List AV), gx ⟨r, l⟩ (.t 50) = r.a.g.c) ∧ (∀ (r : RG), gt r 50 = r.a.g.c) ∧ (∀ (r : RG) (v : AV), st r 51 v = ⟨⟨r.a.a, r.a.b, r.a.c, r.a.d, r.a.e, r.a.f, ⟨r.a.g.a, r.a.g.b, r.a.g.c, v, r.a.g.e, r.a.g.f, r.a.g.g, r.a.g.h⟩, r.a.h⟩, r.b, r.c, r.d, r.e, r.f, r.g, r.h⟩) ∧ (∀ (r : RG) (l : List AV), gx ⟨r, l⟩ (.t 51) = r.a.g.d) ∧ (∀ (r : RG), gt r 51 = r.a.g.d) ∧ (∀ (r : RG) (v : AV), st r 52 v = ⟨⟨r.a.a, r.a.b, r.a.c, r.a.d, r.a.e, r.a.f, ⟨r.a.g.a, r.a.g.b, r.a.g.c, r.a.g.d, v, r.a.g.f, r.a.g.g, r.a.g.h⟩, r.a.h⟩, r.b, r.c, r.d, r.e, r.f, r.g, r.h⟩) ∧ (∀ (r : RG) (l : List AV), gx ⟨r, l⟩ (.t 52) = r.a.g.e) ∧ (∀ (r : RG), gt r 52 = r.a.g.e) ∧ (∀ (r : RG) (v : AV), st r 53 v = ⟨⟨r.a.a, r.a.b, r.a.c, r.a.d, r.a.e, r.a.f, ⟨r.a.g.a, r.a.g.b, r.a.g.c, r.a.g.d, r.a.g.e, v, r.a.g.g, r.a.g.h⟩, r.a.h⟩, r.b, r.c, r.d, r.e, r.f, r.g, r.h⟩) ∧ (∀ (r : RG) (l : List AV), gx ⟨r, l⟩ (.t 53) = r.a.g.f) ∧ (∀ (r : RG), gt r 53 = r.a.g.f) ∧ (∀ (r : RG) (v : AV), st r 54 v = ⟨⟨r.a.a, r.a.b, r.a.c, r.a.d, r.a.e, r.a.f, ⟨r.a.g.a, r.a.g.b, r.a.g.c, r.a.g.d, r.a.g.e, r.a.g.f, v, r.a.g.h⟩, r.a.h⟩, r.b, r.c, r.d, r.e, r.f, r.g, r.h⟩) ∧ (∀ (r : RG) (l : List AV), gx ⟨r, l⟩ (.t 54) = r.a.g.g) ∧ (∀ (r : RG), gt r 54 = r.a.g.g) ∧ (∀ (r : RG) (v : AV), st r 55 v = ⟨⟨r.a.a, r.a.b, r.a.c, r.a.d, r.a.e, r.a.f, ⟨r.a.g.a, r.a.g.b, r.a.g.c, r.a.g.d, r.a.g.e, r.a.g.f, r.a.g.g, v⟩, r.a.h⟩, r.b, r.c, r.d, r.e, r.f, r.g, r.h⟩) ∧ (∀ (r : RG) (l : List AV), gx ⟨r, l⟩ (.t 55) = r.a.g.h) ∧ (∀ (r : RG), gt r 55 = r.a.g.h) ∧ (∀ (r : RG) (v : AV), st r 56 v = ⟨⟨r.a.a, r.a.b, r.a.c, r.a.d, r.a.e, r.a.f, r.a.g, ⟨v, r.a.h.b, r.a.h.c, r.a.h.d, r.a.h.e, r.a.h.f, r.a.h.g, r.a.h.h⟩⟩, r.b, r.c, r.d, r.e, r.f, r.g, r.h⟩) ∧ (∀ (r : RG) (l : List AV), gx ⟨r, l⟩ (.t 56) = r.a.h.a) ∧ (∀ (r : RG), gt r 56 = r.a.h.a) ∧ (∀ (r : RG) (v : AV), st r 57 v = ⟨⟨r.a.a, r.a.b, r.a.c, r.a.d, r.a.e, r.a.f, r.a.g, ⟨r.a.h.a, v, r.a.h.c, r.a.h.d, r.a.h.e, r.a.h.f, r.a.h.g, r.a.h.h⟩⟩, r.b, r.c, r.d, r.e, r.f, r.g, r.h⟩) ∧ (∀ (r : RG) (l : List AV), gx ⟨r, l⟩ (.t 57) = r.a.h.b) ∧ (∀ (r : RG), gt r 57 = r.a.h.b) ∧ (∀ (r : RG) (v : AV), st r 58 v = ⟨⟨r.a.a, r.a.b, r.a.c, r.a.d, r.a.e, r.a.f, r.a.g, ⟨r.a.h.a, r.a.h.b, v, r.a.h.d, r.a.h.e, r.a.h.f, r.a.h.g, r.a.h.h⟩⟩, r.b, r.c, r.d, r.e, r.f, r.g, r.h⟩) ∧ (∀ (r : RG) (l : List AV), gx ⟨r, l⟩ (.t 58) = r.a.h.c) ∧ (∀ (r : RG), gt r 58 = r.a.h.c) ∧ (∀ (r : RG) (v : AV), st r 59 v = ⟨⟨r.a.a, r.a.b, r.a.c, r.a.d, r.a.e, r.a.f, r.a.g, ⟨r.a.h.a, r.a.h.b, r.a.h.c, v, r.a.h.e, r.a.h.f, r.a.h.g, r.a.h.h⟩⟩, r.b, r.c, r.d, r.e, r.f, r.g, r.h⟩) ∧ (∀ (r : RG) (l : List AV), gx ⟨r, l⟩ (.t 59) = r.a.h.d) ∧ (∀ (r : RG), gt r 59 = r.a.h.d) ∧ (∀ (r : RG) (v : AV), st r 60 v = ⟨⟨r.a.a, r.a.b, r.a.c, r.a.d, r.a.e, r.a.f, r.a.g, ⟨r.a.h.a, r.a.h.b, r.a.h.c, r.a.h.d, v, r.a.h.f, r.a.h.g, r.a.h.h⟩⟩, r.b, r.c, r.d, r.e, r.f, r.g, r.h⟩) ∧ (∀ (r : RG) (l : List AV), gx ⟨r, l⟩ (.t 60) = r.a.h.e) ∧ (∀ (r : RG), gt r 60 = r.a.h.e) ∧ (∀ (r : RG) (v : AV), st r 61 v = ⟨⟨r.a.a, r.a.b, r.a.c, r.a.d, r.a.e, r.a.f, r.a.g, ⟨r.a.h.a, r.a.h.b, r.a.h.c, r.a.h.d, r.a.h.e, v, r.a.h.g, r.a.h.h⟩⟩, r.b, r.c, r.d, r.e, r.f, r.g, r.h⟩) ∧ (∀ (r : RG) (l : List AV), gx ⟨r, l⟩ (.t 61) = r.a.h.f) ∧ (∀ (r : RG), gt r 61 = r.a.h.f) ∧ (∀ (r : RG) (v : AV), st r 62 v = ⟨⟨r.a.a, r.a.b, r.a.c, r.a.d, r.a.e, r.a.f, r.a.g, ⟨r.a.h.a, r.a.h.b, r.a.h.c, r.a.h.d, r.a.h.e, r.a.h.f, v, r.a.h.h⟩⟩, r.b, r.c, r.d, r.e, r.f, r.g, r.h⟩) ∧ (∀ (r : RG) (l : List AV), gx ⟨r, l⟩ (.t 62) = r.a.h.g) ∧ (∀ (r : RG), gt r 62 = r.a.h.g) ∧ (∀ (r : RG) (v : AV), st r 63 v = ⟨⟨r.a.a, r.a.b, r.a.c, r.a.d, r.a.e, r.a.f, r.a.g, ⟨r.a.h.a, r.a.h.b, r.a.h.c, r.a.h.d, r.a.h.e, r.a.h.f, r.a.h.g, v⟩⟩, r.b, r.c, r.d, r.e, r.f, r.g, r.h⟩) ∧ (∀ (r : RG) (l : List AV), gx ⟨r, l⟩ (.t 63) = r.a.h.h) ∧ (∀ (r : RG), gt r 63 = r.a.h.h) :=
  ⟨st_32, gx_32, gt_32, st_33, gx_33, gt_33, st_34, gx_34, gt_34, st_35, gx_35, gt_35, st_36, gx_36, gt_36, st_37, gx_37, gt_37, st_38, gx_38, gt_38, st_39, gx_39, gt_39, st_40, gx_40, gt_40, st_41, gx_41, gt_41, st_42, gx_42, gt_42, st_43, gx_43, gt_43, st_44, gx_44, gt_44, st_45, gx_45, gt_45, st_46, gx_46, gt_46, st_47, gx_47, gt_47, st_48, gx_48, gt_48, st_49, gx_49, gt_49, st_50, gx_50, gt_50, st_51, gx_51, gt_51, st_52, gx_52, gt_52, st_53, gx_53, gt_53, st_54, gx_54, gt_54, st_55, gx_55, gt_55, st_56, gx_56, gt_56, st_57, gx_57, gt_57, st_58, gx_58, gt_58, st_59, gx_59, gt_59, st_60, gx_60, gt_60, st_61, gx_61, gt_61, st_62, gx_62, gt_62, st_63, gx_63, gt_63⟩
theorem ST2 : (∀ (r : RG) (v : AV), st r 64 v = ⟨r.a, ⟨⟨v, r.b.a.b, r.b.a.c, r.b.a.d, r.b.a.e, r.b.a.f, r.b.a.g, r.b.a.h⟩, r.b.b, r.b.c, r.b.d, r.b.e, r.b.f, r.b.g, r.b.h⟩, r.c, r.d, r.e, r.f, r.g, r.h⟩) ∧ (∀ (r : RG) (l : List AV), gx ⟨r, l⟩ (.t 64) = r.b.a.a) ∧ (∀ (r : RG), gt r 64 = r.b.a.a) ∧ (∀ (r : RG) (v : AV), st r 65 v = ⟨r.a, ⟨⟨r.b.a.a, v, r.b.a.c, r.b.a.d, r.b.a.e, r.b.a.f, r.b.a.g, r.b.a.h⟩, r.b.b, r.b.c, r.b.d, r.b.e, r.b.f, r.b.g, r.b.h⟩, r.c, r.d, r.e, r.f, r.g, r.h⟩) ∧ (∀ (r : RG) (l : List AV), gx ⟨r, l⟩ (.t 65) = r.b.a.b) ∧ (∀ (r : RG), gt r 65 = r.b.a.b) ∧ (∀ (r : RG) (v : AV), st r 66 v = ⟨r.a, ⟨⟨r.b.a.a, r.b.a.b, v, r.b.a.d, r.b.a.e, r.b.a.f, r.b.a.g, r.b.a.h⟩, r.b.b, r.b.c, r.b.d, r.b.e, r.b.f, r.b.g, r.b.h⟩, r.c, r.d, r.e, r.f, r.g, r.h⟩) ∧ (∀ (r : RG) (l : List AV), gx ⟨r, l⟩ (.t 66) = r.b.a.c) ∧ (∀ (r : RG), gt r 66 = r.b.a.c) ∧ (∀ (r : RG) (v : AV), st r 67 v = ⟨r.a, ⟨⟨r.b.a.a, r.b.a.b, r.b.a.c, v, r.b.a.e, r.b.a.f, r.b.a.g, r.b.a.h⟩, r.b.b, r.b.c, r.b.d, r.b.e, r.b.f, r.b.g, r.b.h⟩, r.c, r.d, r.e, r.f, r.g, r.h⟩) ∧ (∀ (r : RG) (l : List AV), gx ⟨r, l⟩ (.t 67) = r.b.a.d) ∧ (∀ (r : RG), gt r 67 = r.b.a.d) ∧ (∀ (r : RG) (v : AV), st r 68 v = ⟨r.a, ⟨⟨r.b.a.a, r.b.a.b, r.b.a.c, r.b.a.d, v, r.b.a.f, r.b.a.g, r.b.a.h⟩, r.b.b, r.b.c, r.b.d, r.b.e, r.b.f, r.b.g, r.b.h⟩, r.c, r.d, r.e, r.f, r.g, r.h⟩) ∧ (∀ (r : RG) (l : List AV), gx ⟨r, l⟩ (.t 68) = r.b.a.e) ∧ (∀ (r : RG), gt r 68 = r.b.a.e) ∧ (∀ (r : RG) (v : AV), st r 69 v = ⟨r.a, ⟨⟨r.b.a.a, r.b.a.b, r.b.a.c, r.b.a.d, r.b.a.e, v, r.b.a.g, r.b.a.h⟩, r.b.b, r.b.c, r.b.d, r.b.e, r.b.f, r.b.g, r.b.h⟩, r.c, r.d, r.e, r.f, r.g, r.h⟩) ∧ (∀ (r : RG) (l : List AV), gx ⟨r, l⟩ (.t 69) = r.b.a.f) ∧ (∀ (r : RG), gt r 69 = r.b.a.f) ∧ (∀ (r : RG) (v : AV), st r 70 v = ⟨r.a, ⟨⟨r.b.a.a, r.b.a.b, r.b.a.c, r.b.a.d, r.b.a.e, r.b.a.f, v, r.b.a.h⟩, r.b.b, r.b.c, r.b.d, r.b.e, r.b.f, r.b.g, r.b.h⟩, r.c, r.d, r.e, r.f, r.g, r.h⟩) ∧ (∀ (r : RG) (l : List AV), gx ⟨r, l⟩ (.t 70) = r.b.a.g) ∧ (∀ (r : RG), gt r 70 = r.b.a.g) ∧ (∀ (r : RG) (v : AV), st r 71 v = ⟨r.a, ⟨⟨r.b.a.a, r.b.a.b, r.b.a.c, r.b.a.d, r.b.a.e, r.b.a.f, r.b.a.g, v⟩, r.b.b, r.b.c, r.b.d, r.b.e, r.b.f, r.b.g, r.b.h⟩, r.c, r.d, r.e, r.f, r.g, r.h⟩) ∧ (∀ (r : RG) (l : List AV), gx ⟨r, l⟩ (.t 71) = r.b.a.h) ∧ (∀ (r : RG), gt r 71 = r.b.a.h) ∧ (∀ (r : RG) (v : AV), st r 72 v = ⟨r.a, ⟨r.b.a, ⟨v, r.b.b.b, r.b.b.c, r.b.b.d, r.b.b.e, r.b.b.f, r.b.b.g, r.b.b.h⟩, r.b.c, r.b.d, r.b.e, r.b.f, r.b.g, r.b.h⟩, r.c, r.d, r.e, r.f, r.g, r.h⟩) ∧ (∀ (r : RG) (l : List AV), gx ⟨r, l⟩ (.t 72) = r.b.b.a) ∧ (∀ (r : RG), gt r 72 = r.b.b.a) ∧ (∀ (r : RG) (v : AV), st r 73 v = ⟨r.a, ⟨r.b.a, ⟨r.b.b.a, v, r.b.b.c, r.b.b.d, r.b.b.e, r.b.b.f, r.b.b.g, r.b.b.h⟩, r.b.c, r.b.d, r.b.e, r.b.f, r.b.g, r.b.h⟩, r.c, r.d, r.e, r.f, r.g, r.h⟩) ∧ (∀ (r : RG) (l : List AV), gx ⟨r, l⟩ (.t 73) = r.b.b.b) ∧ (∀ (r : RG), gt r 73 = r.b.b.b) ∧ (∀ (r : RG) (v : AV), st r 74 v = ⟨r.a, ⟨r.b.a, ⟨r.b.b.a, r.b.b.b, v, r.b.b.d, r.b.b.e, r.b.b.f, r.b.b.g, r.b.b.h⟩, r.b.c, r.b.d, r.b.e, r.b.f, r.b.g, r.b.h⟩, r.c, r.d, r.e, r.f, r.g, r.h⟩) ∧ (∀ (r : RG) (l : List AV), gx ⟨r, l⟩ (.t 74) = r.b.b.c) ∧ (∀ (r : RG), gt r 74 = r.b.b.c) ∧ (∀ (r : RG) (v : AV), st r 75 v = ⟨r.a, ⟨r.b.a, ⟨r.b.b.a, r.b.b.b, r.b.b.c, v, r.b.b.e, r.b.b.f, r.b.b.g, r.b.b.h⟩, r.b.c, r.b.d, r.b.e, r.b.f, r.b.g, r.b.h⟩, r.c, r.d, r.e, r.f, r.g, r.h⟩) ∧ (∀ (r : RG) (l : List AV), gx ⟨r, l⟩ (.t 75) = r.b.b.d) ∧ (∀ (r : RG), gt r 75 = r.b.b.d) ∧ (∀ (r : RG) (v : AV), st r 76 v = ⟨r.a, ⟨r.b.a, ⟨r.b.b.a, r.b.b.b, r.b.b.c, r.b.b.d, v, r.b.b.f, r.b.b.g, r.b.b.h⟩, r.b.c, r.b.d, r.b.e, r.b.f, r.b.g, r.b.h⟩, r.c, r.d, r.e, r.f, r.g, r.h⟩) ∧ (∀ (r : RG) (l : List AV), gx ⟨r, l⟩ (.t 76) = r.b.b.e) ∧ (∀ (r : RG), gt r 76 = r.b.b.e) ∧ (∀ (r : RG) (v : AV), st r 77 v = ⟨r.a, ⟨r.b.a, ⟨r.b.b.a, r.b.b.b, r.b.b.c, r.b.b.d, r.b.b.e, v, r.b.b.g, r.b.b.h⟩, r.b.c, r.b.d, r.b.e, r.b.f, r.b.g, r.b.h⟩, r.c, r.d, r.e, r.f, r.g, r.h⟩) ∧ (∀ (r : RG) (l : List AV), gx ⟨r, l⟩ (.t 77) = r.b.b.f) ∧ (∀ (r : RG), gt r 77 = r.b.b.f) ∧ (∀ (r : RG) (v : AV), st r 78 v = ⟨r.a, ⟨r.b.a, ⟨r.b.b.a, r.b.b.b, r.b.b.c, r.b.b.d, r.b.b.e, r.b.b.f, v, r.b.b.h⟩, r.b.c, r.b.d, r.b.e, r.b.f, r.b.g, r.b.h⟩, r.c, r.d, r.e, r.f, r.g, r.h⟩) ∧ (∀ (r : RG) (l : List AV), gx ⟨r, l⟩ (.t 78) = r.b.b.g) ∧ (∀ (r : RG), gt r 78 = r.b.b.g) ∧ (∀ (r : RG) (v : AV), st r 79 v = ⟨r.a, ⟨r.b.a, ⟨r.b.b.a, r.b.b.b, r.b.b.c, r.b.b.d, r.b.b.e, r.b.b.f, r.b.b.g, v⟩, r.b.c, r.b.d, r.b.e, r.b.f, r.b.g, r.b.h⟩, r.c, r.d, r.e, r.f, r.g, r.h⟩) ∧ (∀ (r : RG) (l : List AV), gx ⟨r, l⟩ (.t 79) = r.b.b.h) ∧ (∀ (r : RG), gt r 79 = r.b.b.h) ∧ (∀ (r : RG) (v : AV), st r 80 v = ⟨r.a, ⟨r.b.a, r.b.b, ⟨v, r.b.c.b, r.b.c.c, r.b.c.d, r.b.c.e, r.b.c.f, r.b.c.g, r.b.c.h⟩, r.b.d, r.b.e, r.b.f, r.b.g, r.b.h⟩, r.c, r.d, r.e, r.f, r.g, r.h⟩) ∧ (∀ (r : RG) (l : List AV), gx ⟨r, l⟩ (.t 80) = r.b.c.a) ∧ (∀ (r : RG), gt r 80 = r.b.c.a) ∧ (∀ (r : RG) (v : AV), st r 81 v = ⟨r.a, ⟨r.b.a, r.b.b, ⟨r.b.c.a, v, r.b.c.c, r.b.c.d, r.b.c.e, r.b.c.f, r.b.c.g, r.b.c.h⟩, r.b.d, r.b.e, r.b.f, r.b.g, r.b.h⟩, r.c, r.d, r.e, r.f, r.g, r.h⟩) ∧ (∀ (r : RG) (l : List AV), gx ⟨r, l⟩ (.t 81) = r.b.c.b) ∧ (∀ (r : RG), gt r 81 = r.b.c.b) ∧ (∀ (r : RG) (v : AV), st r 82 v = ⟨r.a, ⟨r.b.a, r.b.b, ⟨r.b.c.a, r.b.c.b, v, r.b.c.d, r.b.c.e, r.b.c.f, r.b.c.g, r.b.c.h⟩, r.b.d, r.b.e, r.b.f, r.b.g, r.b.h⟩, r.c, r.d, r.e, r.f, r.g, r.h⟩) ∧ (∀ (r : RG) (l : List AV), gx ⟨r, l⟩ (.t 82) = r.b.c.c) ∧ (∀ (r : RG), gt r 82 = r.b.c.c) ∧ (∀ (r : RG) (v : AV), st r 83 v = ⟨r.a, ⟨r.b.a, r.b.b, ⟨r.b.c.a, r.b.c.b, r.b.c.c, v, r.b.c.e, r.b.c.f, r.b.c.g, r.b.c.h⟩, r.b.d, r.b.e, r.b.f, r.b.g, r.b.h⟩, r.c, r.d, r.e, r.f, r.g, r.h⟩) ∧ (∀ (r : RG) (l : List AV), gx ⟨r, l⟩ (.t 83) = r.b.c.d) ∧ (∀ (r : RG), gt r 83 = r.b.c.d) ∧ (∀ (r : RG) (v : AV), st r 84 v = ⟨r.a, ⟨r.b.a, r.b.b, ⟨r.b.c.a, r.b.c.b, r.b.c.c, r.b.c.d, v, r.b.c.f, r.b.c.g, r.b.c.h⟩, r.b.d, r.b.e, r.b.f, r.b.g, r.b.h⟩, r.c, r.d, r.e, r.f, r.g, r.h⟩) ∧ (∀ (r : RG) (l : List AV), gx ⟨r, l⟩ (.t 84) = r.b.c.e) ∧ (∀ (r : RG), gt r 84 = r.b.c.e) ∧ (∀ (r : RG) (v : AV), st r 85 v = ⟨r.a, ⟨r.b.a, r.b.b, ⟨r.b.c.a, r.b.c.b, r.b.c.c, r.b.c.d, r.b.c.e, v, r.b.c.g, r.b.c.h⟩, r.b.d, r.b.e, r.b.f, r.b.g, r.b.h⟩, r.c, r.d, r.e, r.f, r.g, r.h⟩) ∧ (∀ (r : RG) (l : List AV), gx ⟨r, l⟩ (.t 85) = r.b.c.f) ∧ (∀ (r : RG), gt r 85 = r.b.c.f) ∧ (∀ (r : RG) (v : AV), st r 86 v = ⟨r.a, ⟨r.b.a, r.b.b, ⟨r.b.c.a, r.b.c.b, r.b.c.c, r.b.c.d, r.b.c.e, r.b.c.f, v, r.b.c.h⟩, r.b.d, r.b.e, r.b.f, r.b.g, r.b.h⟩, r.c, r.d, r.e, r.f, r.g, r.h⟩) ∧ (∀ (r : RG) (l : List AV), gx ⟨r, l⟩ (.t 86) = r.b.c.g) ∧ (∀ (r : RG), gt r 86 = r.b.c.g) ∧ (∀ (r : RG) (v : AV), st r 87 v = ⟨r.a, ⟨r.b.a, r.b.b, ⟨r.b.c.a, r.b.c.b, r.b.c.c, r.b.c.d, r.b.c.e, r.b.c.f, r.b.c.g, v⟩, r.b.d, r.b.e, r.b.f, r.b.g, r.b.h⟩, r.c, r.d, r.e, r.f, r.g, r.h⟩) ∧ (∀ (r : RG) (l : List AV), gx ⟨r, l⟩ (.t 87) = r.b.c.h) ∧ (∀ (r : RG), gt r 87 = r.b.c.h) ∧ (∀ (r : RG) (v : AV), st r 88 v = ⟨r.a, ⟨r.b.a, r.b.b, r.b.c, ⟨v, r.b.d.b, r.b.d.c, r.b.d.d, r.b.d.e, r.b.d.f, r.b.d.g, r.b.d.h⟩, r.b.e, r.b.f, r.b.g, r.b.h⟩, r.c, r.d, r.e, r.f, r.g, r.h⟩) ∧ (∀ (r : RG) (l : List AV), gx ⟨r, l⟩ (.t 88) = r.b.d.a) ∧ (∀ (r : RG), gt r 88 = r.b.d.a) ∧ (∀ (r : RG) (v : AV), st r 89 v = ⟨r.a, ⟨r.b.a, r.b.b, r.b.c, ⟨r.b.d.a, v, r.b.d.c, r.b.d.d, r.b.d.e, r.b.d.f, r.b.d.g, r.b.d.h⟩, r.b.e, r.b.f, r.b.g, r.b.h⟩, r.c, r.d, r.e, r.f, r.g, r.h⟩) ∧ (∀ (r : RG) (l : List AV), gx ⟨r, l⟩ (.t 89) = r.b.d.b) ∧ (∀ (r : RG), gt r 89 = r.b.d.b) ∧ (∀ (r : RG) (v : AV), st r 90 v = ⟨r.a, ⟨r.b.a, r.b.b, r.b.c, ⟨r.b.d.a, r.b.d.b, v, r.b.d.d, r.b.d.e, r.b.d.f, r.b.d.g, r.b.d.h⟩, r.b.e, r.b.f, r.b.g, r.b.h⟩, r.c, r.d, r.e, r.f, r.g, r.h⟩) ∧ (∀ (r : RG) (l : List AV), gx ⟨r, l⟩ (.t 90) = r.b.d.c) ∧ (∀ (r : RG), gt r 90 = r.b.d.c) ∧ (∀ (r : RG) (v : AV), st r 91 v = ⟨r.a, ⟨r.b.a, r.b.b, r.b.c, ⟨r.b.d.a, r.b.d.b, r.b.d.c, v, r.b.d.e, r.b.d.f, r.b.d.g, r.b.d.h⟩, r.b.e, r.b.f, r.b.g, r.b.h⟩, r.c, r.d, r.e, r.f, r.g, r.h⟩) ∧ (∀ (r : RG) (l : List AV), gx ⟨r, l⟩ (.t 91) = r.b.d.d) ∧ (∀ (r : RG), gt r 91 = r.b.d.d) ∧ (∀ (r : RG) (v : AV), st r 92 v = ⟨r.a, ⟨r.b.a, r.b.b, r.b.c, ⟨r.b.d.a, r.b.d.b, r.b.d.c, r.b.d.d, v, r.b.d.f, r.b.d.g, r.b.d.h⟩, r.b.e, r.b.f, r.b.g, r.b.h⟩, r.c, r.d, r.e, r.f, r.g, r.h⟩) ∧ (∀ (r : RG) (l : List AV), gx ⟨r, l⟩ (.t 92) = r.b.d.e) ∧ (∀ (r : RG), gt r 92 = r.b.d.e) ∧ (∀ (r : RG) (v : AV), st r 93 v = ⟨r.a, ⟨r.b.a, r.b.b, r.b.c, ⟨r.b.d.a, r.b.d.b, r.b.d.c, r.b.d.d, r.b.d.e, v, r.b.d.g, r.b.d.h⟩, r.b.e, r.b.f, r.b.g, r.b.h⟩, r.c, r.d, r.e, r.f, r.g, r.h⟩) ∧ (∀ (r : RG) (l : List AV), gx ⟨r, l⟩ (.t 93) = r.b.d.f) ∧ (∀ (r : RG), gt r 93 = r.b.d.f) ∧ (∀ (r : RG) (v : AV), st r 94 v = ⟨r.a, ⟨r.b.a, r.b.b, r.b.c, ⟨r.b.d.a, r.b.d.b, r.b.d.c, r.b.d.d, r.b.d.e, r.b.d.f, v, r.b.d.h⟩, r.b.e, r.b.f, r.b.g, r.b.h⟩, r.c, r.d, r.e, r.f, r.g, r.h⟩) ∧ (∀ (r : RG) (l : List AV), gx ⟨r, l⟩ (.t 94) = r.b.d.g) ∧ (∀ (r : RG), gt r 94 = r.b.d.g) ∧ (∀ (r : RG) (v : AV), st r 95 v = ⟨r.a, ⟨r.b.a, r.b.b, r.b.c, ⟨r.b.d.a, r.b.d.b, r.b.d.c, r.b.d.d, r.b.d.e, r.b.d.f, r.b.d.g, v⟩, r.b.e, r.b.f, r.b.g, r.b.h⟩, r.c, r.d, r.e, r.f, r.g, r.h⟩) ∧ (∀ (r : RG) (l : List AV), gx ⟨r, l⟩ (.t 95) = r.b.d.h) ∧ (∀ (r : RG), gt r 95 = r.b.d.h) :=
  ⟨st_64, gx_64, gt_64, st_65, gx_65, gt_65, st_66, gx_66, gt_66, st_67, gx_67, gt_67, st_68, gx_68, gt_68, st_69, gx_69, gt_69, st_70, gx_70, gt_70, st_71, gx_71, gt_71, st_72, gx_72, gt_72, st_73, gx_73, gt_73, st_74, gx_74, gt_74, st_75, gx_75, gt_75, st_76, gx_76, gt_76, st_77, gx_77, gt_77, st_78, gx_78, gt_78, st_79, gx_79, gt_79, st_80, gx_80, gt_80, st_81, gx_81, gt_81, st_82, gx_82, gt_82, st_83, gx_83, gt_83, st_84, gx_84, gt_84, st_85, gx_85, gt_85, st_86, gx_86, gt_86, st_87, gx_87, gt_87, st_88, gx_88, gt_88, st_89, gx_89, gt_89, st_90, gx_90, gt_90, st_91, gx_91, gt_91, st_92, gx_92, gt_92, st_93, gx_93, gt_93, st_94, gx_94, gt_94, st_95, gx_95, gt_95⟩
theorem ST3 : (∀ (r : RG) (v : AV), st r 96 v = ⟨r.a, ⟨r.b.a, r.b.b, r.b.c, r.b.d, ⟨v, r.b.e.b, r.b.e.c, r.b.e.d, r.b.e.e, r.b.e.f, r.b.e.g, r.b.e.h⟩, r.b.f, r.b.g, r.b.h⟩, r.c, r.d, r.e, r.f, r.g, r.h⟩) ∧ (∀ (r : RG) (l : List AV), gx ⟨r, l⟩ (.t 96) = r.b.e.a) ∧ (∀ (r : RG), gt r 96 = r.b.e.a) ∧ (∀ (r : RG) (v : AV), st r 97 v = ⟨r.a, ⟨r.b.a, r.b.b, r.b.c, r.b.d, ⟨r.b.e.a, v, r.b.e.c, r.b.e.d, r.b.e.e, r.b.e.f, r.b.e.g, r.b.e.h⟩, r.b.f, r.b.g, r.b.h⟩, r.c, r.d, r.e, r.f, r.g, r.h⟩) ∧ (∀ (r : RG) (l : List AV), gx ⟨r, l⟩ (.t 97) = r.b.e.b) ∧ (∀ (r : RG), gt r 97 = r.b.e.b) ∧ (∀ (r : RG) (v : AV), st r 98 v = ⟨r.a, ⟨r.b.a, r.b.b, r.b.c, r.b.d, ⟨r.b.e.a, r.b.e.b, v, r.b.e.d, r.b.e.e, r.b.e.f, r.b.e.g, r.b.e.h⟩, r.b.f, r.b.g, r.b.h⟩, r.c, r.d, r.e, r.f, r.g, r.h⟩) ∧ (∀ (r : RG) (l : List AV), gx ⟨r, l⟩ (.t 98) = r.b.e.c) ∧ (∀ (r : RG), gt r 98 = r.b.e.c) ∧ (∀ (r : RG) (v : AV), st r 99 v = ⟨r.a, ⟨r.b.a, r.b.b, r.b.c, r.b.d, ⟨r.b.e.a, r.b.e.b, r.b.e.c, v, r.b.e.e, r.b.e.f, r.b.e.g, r.b.e.h⟩, r.b.f, r.b.g, r.b.h⟩, r.c, r.d, r.e, r.f, r.g, r.h⟩) ∧ (∀ (r : RG) (l : List AV), gx ⟨r, l⟩ (.t 99) = r.b.e.d) ∧ (∀ (r : RG), gt r 99 = r.b.e.d) ∧ (∀ (r : RG) (v : AV), st r 100 v = ⟨r.a, ⟨r.b.a, r.b.b, r.b.c, r.b.d, ⟨r.b.e.a, r.b.e.b, r.b.e.c, r.b.e.d, v, r.b.e.f, r.b.e.g, r.b.e.h⟩, r.b.f, r.b.g, r.b.h⟩, r.c, r.d, r.e, r.f, r.g, r.h⟩) ∧ (∀ (r : RG) (l : List AV), gx ⟨r, l⟩ (.t 100) = r.b.e.e) ∧ (∀ (r : RG), gt r 100 = r.b.e.e) ∧ (∀ (r : RG) (v : AV), st r 101 v = ⟨r.a, ⟨r.b.a, r.b.b, r.b.c, r.b.d, ⟨r.b.e.a, r.b.e.b, r.b.e.c, r.b.e.d, r.b.e.e, v, r.b.e.g, r.b.e.h⟩, r.b.f, r.b.g, r.b.h⟩, r.c, r.d, r.e, r.f, r.g, r.h⟩) ∧ (∀ (r : RG) (l : List AV), gx ⟨r, l⟩ (.t 101) = r.b.e.f) ∧ (∀ (r : RG), gt r 101 = r.b.e.f) ∧ (∀ (r : RG) (v : AV), st r 102 v = ⟨r.a, ⟨r.b.a, r.b.b, r.b.c, r.b.d, ⟨r.b.e.a, r.b.e.b, r.b.e.c, r.b.e.d, r.b.e.e, r.b.e.f, v, r.b.e.h⟩, r.b.f, r.b.g, r.b.h⟩, r.c, r.d, r.e, r.f, r.g, r.h⟩) ∧ (∀ (r : RG) (l : List AV), gx ⟨r, l⟩ (.t 102) = r.b.e.g) ∧ (∀ (r : RG), gt r 102 = r.b.e.g) ∧ (∀ (r : RG) (v : AV), st r 103 v = ⟨r.a, ⟨r.b.a, r.b.b, r.b.c, r.b.d, ⟨r.b.e.a, r.b.e.b, r.b.e.c, r.b.e.d, r.b.e.e, r.b.e.f, r.b.e.g, v⟩, r.b.f, r.b.g, r.b.h⟩, r.c, r.d, r.e, r.f, r.g, r.h⟩) ∧ (∀ (r : RG) (l : List AV), gx ⟨r, l⟩ (.t 103) = r.b.e.h) ∧ (∀ (r : RG), gt r 103 = r.b.e.h) ∧ (∀ (r : RG) (v : AV), st r 104 v = ⟨r.a, ⟨r.b.a, r.b.b, r.b.c, r.b.d, r.b.e, ⟨v, r.b.f.b, r.b.f.c, r.b.f.d, r.b.f.e, r.b.f.f, r.b.f.g, r.b.f.h⟩, r.b.g, r.b.h⟩, r.c, r.d, r.e, r.f, r.g, r.h⟩) ∧ (∀ (r : RG) (l : List AV), gx ⟨r, l⟩ (.t 104) = r.b.f.a) ∧ (∀ (r : RG), gt r 104 = r.b.f.a) ∧ (∀ (r : RG) (v : AV), st r 105 v = ⟨r.a, ⟨r.b.a, r.b.b, r.b.c, r.b.d, r.b.e, ⟨r.b.f.a, v, r.b.f.c, r.b.f.d, r.b.f.e, r.b.f.f, r.b.f.g, r.b.f.h⟩, r.b.g, r.b.h⟩, r.c, r.d, r.e, r.f, r.g, r.h⟩) ∧ (∀ (r : RG) (l : List AV), gx ⟨r, l⟩ (.t 105) = r.b.f.b) ∧ (∀ (r : RG), gt r 105 = r.b.f.b) ∧ (∀ (r : RG) (v : AV), st r 106 v = ⟨r.a, ⟨r.b.a, r.b.b, r.b.c, r.b.d, r.b.e, ⟨r.b.f.a, r.b.f.b, v, r.b.f.d, r.b.f.e, r.b.f.f, r.b.f.g, r.b.f.h⟩, r.b.g, r.b.h⟩, r.c, r.d, r.e, r.f, r.g, r.h⟩) ∧ (∀ (r : RG) (l : List AV), gx ⟨r, l⟩ (.t 106) = r.b.f.c) ∧ (∀ (r : RG), gt r 106 = r.b.f.c) ∧ (∀ (r : RG) (v : AV), st r 107 v = ⟨r.a, ⟨r.b.a, r.b.b, r.b.c, r.b.d, r.b.e, ⟨r.b.f.a, r.b.f.b, r.b.f.c, v, r.b.f.e, r.b.f.f, r.b.f.g, r.b.f.h⟩, r.b.g, r.b.h⟩, r.c, r.d, r.e, r.f, r.g, r.h⟩) ∧ (∀ (r : RG) (l : List AV), gx ⟨r, l⟩ (.t 107) = r.b.f.d) ∧ (∀ (r : RG), gt r 107 = r.b.f.d) ∧ (∀ (r : RG) (v : AV), st r 108 v = ⟨r.a, ⟨r.b.a, r.b.b, r.b.c, r.b.d, r.b.e, ⟨r.b.f.a, r.b.f.b, r.b.f.c, r.b.f.d, v, r.b.f.f, r.b.f.g, r.b.f.h⟩, r.b.g, r.b.h⟩, r.c, r.d, r.e, r.f, r.g, r.h⟩) ∧ (∀ (r : RG) (l : List AV), gx ⟨r, l⟩ (.t 108) = r.b.f.e) ∧ (∀ (r : RG), gt r 108 = r.b.f.e) ∧ (∀ (r : RG) (v : AV), st r 109 v = ⟨r.a, ⟨r.b.a, r.b.b, r.b.c, r.b.d, r.b.e, ⟨r.b.f.a, r.b.f.b, r.b.f.c, r.b.f.d, r.b.f.e, v, r.b.f.g, r.b.f.h⟩, r.b.g, r.b.h⟩, r.c, r.d, r.e, r.f, r.g, r.h⟩) ∧ (∀ (r : RG) (l : List AV), gx ⟨r, l⟩ (.t 109) = r.b.f.f) ∧ (∀ (r : RG), gt r 109 = r.b.f.f) ∧ (∀ (r : RG) (v : AV), st r 110 v = ⟨r.a, ⟨r.b.a, r.b.b, r.b.c, r.b.d, r.b.e, ⟨r.b.f.a, r.b.f.b, r.b.f.c, r.b.f.d, r.b.f.e, r.b.f.f, v, r.b.f.h⟩, r.b.g, r.b.h⟩, r.c, r.d, r.e, r.f, r.g, r.h⟩) ∧ (∀ (r : RG) (l : List AV), gx ⟨r, l⟩ (.t 110) = r.b.f.g) ∧ (∀ (r : RG), gt r 110 = r.b.f.g) ∧ (∀ (r : RG) (v : AV), st r 111 v = ⟨r.a, ⟨r.b.a, r.b.b, r.b.c, r.b.d, r.b.e, ⟨r.b.f.a, r.b.f.b, r.b.f.c, r.b.f.d, r.b.f.e, r.b.f.f, r.b.f.g, v⟩, r.b.g, r.b.h⟩, r.c, r.d, r.e, r.f, r.g, r.h⟩) ∧ (∀ (r : RG) (l : List AV), gx ⟨r, l⟩ (.t 111) = r.b.f.h) ∧ (∀ (r : RG), gt r 111 = r.b.f.h) ∧ (∀ (r : RG) (v : AV), st r 112 v = ⟨r.a, ⟨r.b.a, r.b.b, r.b.c, r.b.d, r.b.e, r.b.f, ⟨v, r.b.g.b, r.b.g.c, r.b.g.d, r.b.g.e, r.b.g.f, r.b.g.g, r.b.g.h⟩, r.b.h⟩, r.c, r.d, r.e, r.f, r.g, r.h⟩) ∧ (∀ (r : RG) (l : List AV), gx ⟨r, l⟩ (.t 112) = r.b.g.a) ∧ (∀ (r : RG), gt r 112 = r.b.g.a) ∧ (∀ (r : RG) (v : AV), st r 113 v = ⟨r.a, ⟨r.b.a, r.b.b, r.b.c, r.b.d, r.b.e, r.b.f, ⟨r.b.g.a, v, r.b.g.c, r.b.g.d, r.b.g.e, r.b.g.f, r.b.g.g, r.b.g.h⟩, r.b.h⟩, r.c, r.d, r.e, r.f, r.g, r.h⟩) ∧ (∀ (r : RG) (l : List AV), gx ⟨r, l⟩ (.t 113) = r.b.g.b) ∧ (∀ (r : RG), gt r 113 = r.b.g.b) ∧ (∀ (r : RG) (v : AV), st r 114 v = ⟨r.a, ⟨r.b.a, r.b.b, r.b.c, r.b.d, r.b.e, r.b.f, ⟨r.b.g.a, r.b.g.b, v, r.b.g.d, r.b.g.e, r.b.g.f, r.b.g.g, r.b.g.h⟩, r.b.h⟩, r.c, r.d, r.e, r.f, r.g, r.h⟩) ∧ (∀ (r : RG) (l : List AV), gx ⟨r, l⟩ (.t 114) = r.b.g.c) ∧ (∀ (r : RG), gt r 114 = r.b.g.c) ∧ (∀ (r : RG) (v : AV), st r 115 v = ⟨r.a, ⟨r.b.a, r.b.b, r.b.c, r.b.d, r.b.e, r.b.f, ⟨r.b.g.a, r.b.g.b, r.b.g.c, v, r.b.g.e, r.b.g.f, r.b.g.g, r.b.g.h⟩, r.b.h⟩, r.c, r.d, r.e, r.f, r.g, r.h⟩) ∧ (∀ (r : RG) (l : List AV), gx ⟨r, l⟩ (.t 115) = r.b.g.d) ∧ (∀ (r : RG), gt r 115 = r.b.g.d) ∧ (∀ (r : RG) (v : AV), st r 116 v = ⟨r.a, ⟨r.b.a, r.b.b, r.b.c, r.b.d, r.b.e, r.b.f, ⟨r.b.g.a, r.b.g.b, r.b.g.c, r.b.g.d, v, r.b.g.f, r.b.g.g, r.b.g.h⟩, r.b.h⟩, r.c, r.d, r.e, r.f, r.g, r.h⟩) ∧ (∀ (r : RG) (l : List AV), gx ⟨r, l⟩ (.t 116) = r.b.g.e) ∧ (∀ (r : RG), gt r 116 = r.b.g.e) ∧ (∀ (r : RG) (v : AV), st r 117 v = ⟨r.a, ⟨r.b.a, r.b.b, r.b.c, r.b.d, r.b.e, r.b.f, ⟨r.b.g.a, r.b.g.b, r.b.g.c, r.b.g.d, r.b.g.e, v, r.b.g.g, r.b.g.h⟩, r.b.h⟩, r.c, r.d, r.e, r.f, r.g, r.h⟩) ∧ (∀ (r : RG) (l : List AV), gx ⟨r, l⟩ (.t 117) = r.b.g.f) ∧ (∀ (r : RG), gt r 117 = r.b.g.f) ∧ (∀ (r : RG) (v : AV), st r 118 v = ⟨r.a, ⟨r.b.a, r.b.b, r.b.c, r.b.d, r.b.e, r.b.f, ⟨r.b.g.a, r.b.g.b, r.b.g.c, r.b.g.d, r.b.g.e, r.b.g.f, v, r.b.g.h⟩, r.b.h⟩, r.c, r.d, r.e, r.f, r.g, r.h⟩) ∧ (∀ (r : RG) (l : List AV), gx ⟨r, l⟩ (.t 118) = r.b.g.g) ∧ (∀ (r : RG), gt r 118 = r.b.g.g) ∧ (∀ (r : RG) (v : AV), st r 119 v = ⟨r.a, ⟨r.b.a, r.b.b, r.b.c, r.b.d, r.b.e, r.b.f, ⟨r.b.g.a, r.b.g.b, r.b.g.c, r.b.g.d, r.b.g.e, r.b.g.f, r.b.g.g, v⟩, r.b.h⟩, r.c, r.d, r.e, r.f, r.g, r.h⟩) ∧ (∀ (r : RG) (l : List AV), gx ⟨r, l⟩ (.t 119) = r.b.g.h) ∧ (∀ (r : RG), gt r 119 = r.b.g.h) ∧ (∀ (r : RG) (v : AV), st r 120 v = ⟨r.a, ⟨r.b.a, r.b.b, r.b.c, r.b.d, r.b.e, r.b.f, r.b.g, ⟨v, r.b.h.b, r.b.h.c, r.b.h.d, r.b.h.e, r.b.h.f, r.b.h.g, r.b.h.h⟩⟩, r.c, r.d, r.e, r.f, r.g, r.h⟩) ∧ (∀ (r : RG) (l : List AV), gx ⟨r, l⟩ (.t 120) = r.b.h.a) ∧ (∀ (r : RG), gt r 120 = r.b.h.a) ∧ (∀ (r : RG) (v : AV), st r 121 v = ⟨r.a, ⟨r.b.a, r.b.b, r.b.c, r.b.d, r.b.e, r.b.f, r.b.g, ⟨r.b.h.a, v, r.b.h.c, r.b.h.d, r.b.h.e, r.b.h.f, r.b.h.g, r.b.h.h⟩⟩, r.c, r.d, r.e, r.f, r.g, r.h⟩) ∧ (∀ (r : RG) (l : List AV), gx ⟨r, l⟩ (.t 121) = r.b.h.b) ∧ (∀ (r : RG), gt r 121 = r.b.h.b) ∧ (∀ (r : RG) (v : AV), st r 122 v = ⟨r.a, ⟨r.b.a, r.b.b, r.b.c, r.b.d, r.b.e, r.b.f, r.b.g, ⟨r.b.h.a, r.b.h.b, v, r.b.h.d, r.b.h.e, r.b.h.f, r.b.h.g, r.b.h.h⟩⟩, r.c, r.d, r.e, r.f, r.g, r.h⟩) ∧ (∀ (r : RG) (l : List AV), gx ⟨r, l⟩ (.t 122) = r.b.h.c) ∧ (∀ (r : RG), gt r 122 = r.b.h.c) ∧ (∀ (r : RG) (v : AV), st r 123 v = ⟨r.a, ⟨r.b.a, r.b.b, r.b.c, r.b.d, r.b.e, r.b.f, r.b.g, ⟨r.b.h.a, r.b.h.b, r.b.h.c, v, r.b.h.e, r.b.h.f, r.b.h.g, r.b.h.h⟩⟩, r.c, r.d, r.e, r.f, r.g, r.h⟩) ∧ (∀ (r : RG) (l : List AV), gx ⟨r, l⟩ (.t 123) = r.b.h.d) ∧ (∀ (r : RG), gt r 123 = r.b.h.d) ∧ (∀ (r : RG) (v : AV), st r 124 v = ⟨r.a, ⟨r.b.a, r.b.b, r.b.c, r.b.d, r.b.e, r.b.f, r.b.g, ⟨r.b.h.a, r.b.h.b, r.b.h.c, r.b.h.d, v, r.b.h.f, r.b.h.g, r.b.h.h⟩⟩, r.c, r.d, r.e, r.f, r.g, r.h⟩) ∧ (∀ (r : RG) (l : List AV), gx ⟨r, l⟩ (.t 124) = r.b.h.e) ∧ (∀ (r : RG), gt r 124 = r.b.h.e) ∧ (∀ (r : RG) (v : AV), st r 125 v = ⟨r.a, ⟨r.b.a, r.b.b, r.b.c, r.b.d, r.b.e, r.b.f, r.b.g, ⟨r.b.h.a, r.b.h.b, r.b.h.c, r.b.h.d, r.b.h.e, v, r.b.h.g, r.b.h.h⟩⟩, r.c, r.d, r.e, r.f, r.g, r.h⟩) ∧ (∀ (r : RG) (l : List AV), gx ⟨r, l⟩ (.t 125) = r.b.h.f) ∧ (∀ (r : RG), gt r 125 = r.b.h.f) ∧ (∀ (r : RG) (v : AV), st r 126 v = ⟨r.a, ⟨r.b.a, r.b.b, r.b.c, r.b.d, r.b.e, r.b.f, r.b.g, ⟨r.b.h.a, r.b.h.b, r.b.h.c, r.b.h.d, r.b.h.e, r.b.h.f, v, r.b.h.h⟩⟩, r.c, r.d, r.e, r.f, r.g, r.h⟩) ∧ (∀ (r : RG) (l : List AV), gx ⟨r, l⟩ (.t 126) = r.b.h.g) ∧ (∀ (r : RG), gt r 126 = r.b.h.g) ∧ (∀ (r : RG) (v : AV), st r 127 v = ⟨r.a, ⟨r.b.a, r.b.b, r.b.c, r.b.d, r.b.e, r.b.f, r.b.g, ⟨r.b.h.a, r.b.h.b, r.b.h.c, r.b.h.d, r.b.h.e, r.b.h.f, r.b.h.g, v⟩⟩, r.c, r.d, r.e, r.f, r.g, r.h⟩) ∧ (∀ (r : RG) (l : List AV), gx ⟨r, l⟩ (.t 127) = r.b.h.h) ∧ (∀ (r : RG), gt r 127 = r.b.h.h) :=
  ⟨st_96, gx_96, gt_96, st_97, gx_97, gt_97, st_98, gx_98, gt_98, st_99, gx_99, gt_99, st_100, gx_100, gt_100, st_101, gx_101, gt_101, st_102, gx_102, gt_102, st_103, gx_103, gt_103, st_104, gx_104, gt_104, st_105, gx_105, gt_105, st_106, gx_106, gt_106, st_107, gx_107, gt_107, st_108, gx_108, gt_108, st_109, gx_109, gt_109, st_110, gx_110, gt_110, st_111, gx_111, gt_111, st_112, gx_112, gt_112, st_113, gx_113, gt_113, st_114, gx_114, gt_114, st_115, gx_115, gt_115, st_116, gx_116, gt_116, st_117, gx_117, gt_117, st_118, gx_118, gt_118, st_119, gx_119, gt_119, st_120, gx_120, gt_120, st_121, gx_121, gt_121, st_122, gx_122, gt_122, st_123, gx_123, gt_123, st_124, gx_124, gt_124, st_125, gx_125, gt_125, st_126, gx_126, gt_126, st_127, gx_127, gt_127⟩
end Go.Abs
