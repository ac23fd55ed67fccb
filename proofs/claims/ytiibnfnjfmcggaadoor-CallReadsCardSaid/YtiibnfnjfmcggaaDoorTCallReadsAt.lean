-- Cut by a program of this work to what the law's texts name.
import Derived.Test.YtiibnfnjfmcggaaDoorTCallReadsFootNe
